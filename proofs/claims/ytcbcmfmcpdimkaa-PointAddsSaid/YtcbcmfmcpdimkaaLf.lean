/- Contract on numbers in digits: Left. No condition. -/
import Derived.Test.YtcbcmfmcpdimkaaTm
set_option maxRecDepth 100000
set_option linter.unusedSimpArgs false
set_option linter.unusedVariables false
namespace Go.Vm
open Go Go.RowKit Go.Proofs

/-! ### A slice over a variable's block that is led to by nothing else is a list of values -/
theorem Rel.toVec {n : Nat} {w0 w : World} {ρ : Nat → Option Nat} {st : St} {t' : List (Nat × AV)} {m' : List (Nat × Blk)} {a : Act} (h : Rel n w0 ρ st.get st.mem a w) (j : Nat) (fr : Bool) (xs : List Value)
    (hs : Sub st ⟨t', m'⟩) {k off len : Nat} {blk : Blk} (h1 : st.get j = .sl k blk.ver off len) (h2 : st.mem k = some blk) (h3 : off + len ≤ blk.cells.length) (h4 : xs = (blk.cells.drop off).take len) (h5 : look m' k = none) :
    Rel n w0 (fun k => if (look m' k).isSome then ρ k else none) (St.get ⟨(j, .vec fr xs) :: t', m'⟩) (St.mem ⟨(j, .vec fr xs) :: t', m'⟩) a w := by
  have hr := h.sub hs
  refine ⟨hr.defers, hr.size, hr.below, hr.keys, fun i => ?_⟩
  by_cases e : j = i
  · subst e
    have e1 : St.get ⟨(j, .vec fr xs) :: t', m'⟩ j = .vec fr xs := by simp [St.get, lookA]
    rw [e1]
    have hj := h.tmps j
    rw [h1] at hj
    obtain ⟨blk', hm', _, hp⟩ := hj
    rw [h2] at hm'; cases hm'
    have hsl := hp rfl
    have hv := SlAt.vec h.keys h2 hsl h3
    rw [← h4] at hv
    rcases hv with hv | ⟨b, o, cap, c, e', fz, hv, hc, hg, h6⟩
    · exact .inl hv
    · refine .inr ⟨b, o, cap, c, e', fz, hv, hc, ⟨fun _ => hg, fun k' hk' => ?_⟩, h6⟩
      simp only at hk'
      split at hk'
      · rename_i hsome
        rcases hsl with ⟨_, _, _, hnil⟩ | ⟨b', cap', c', e'', fz', hb', hv', _⟩
        · rw [hnil] at hv; cases hv
        · rw [hv'] at hv
          simp only [Value.slice.injEq, Option.some.injEq, Addr.mk.injEq] at hv
          have hbb : b' = b := hv.1.1
          rw [hbb] at hb'
          have := h.keys.inj k k' b hb' hk'
          subst this
          rw [h5] at hsome
          cases hsome
      · cases hk'
  · have e1 : St.get ⟨(j, .vec fr xs) :: t', m'⟩ i = St.get ⟨t', m'⟩ i := by simp [St.get, lookA, e]
    rw [e1]
    exact hr.tmps i

theorem VT_toVec {P : Program} {n : Nat} {W : World} {c : SC} {Q : Exit → St → Prop} {st : St} (j : Nat) (fr : Bool) (xs : List Value) (t' : List (Nat × AV)) (m' : List (Nat × Blk))
    (hs : Sub st ⟨t', m'⟩) {k off len : Nat} {blk : Blk} (h1 : st.get j = .sl k blk.ver off len) (h2 : st.mem k = some blk) (h3 : off + len ≤ blk.cells.length) (h4 : xs = (blk.cells.drop off).take len) (h5 : look m' k = none)
    (h : VT P n W c Q ⟨(j, .vec fr xs) :: t', m'⟩) : VT P n W c Q st := by
  rw [VT_eq] at *
  intro T c0 hc0 hd ρ a w hr
  exact h T c0 hc0 hd _ a w (hr.toVec j fr xs hs h1 h2 h3 h4 h5)

/-! ### Plain laws -/
def ndP (r k : Nat) : Prop := 1 ≤ k ∧ r < 65536 ^ k ∧ (k = 1 ∨ dg r (k - 1) ≠ 0)
theorem ndP_uniq {r k k' : Nat} (h : ndP r k) (h' : ndP r k') : k = k' := by
  rcases Nat.lt_trichotomy k k' with hl | hl | hl
  · exfalso
    rcases h'.2.2 with e | e
    · have := h.1; omega
    · exact e (dg_big h.2.1 (by omega))
  · exact hl
  · exfalso
    rcases h.2.2 with e | e
    · have := h'.1; omega
    · exact e (dg_big h'.2.1 (by omega))
noncomputable def nd (r : Nat) : Nat :=
  open Classical in
  if h : ∃ k, ndP r k then h.choose else 0
theorem nd_of {r k : Nat} (h : ndP r k) : nd r = k := by
  unfold nd
  have hx : ∃ k, ndP r k := ⟨k, h⟩
  rw [dif_pos hx]
  exact ndP_uniq hx.choose_spec h
theorem nd_ex (r : Nat) : ∀ k, 1 ≤ k → r < 65536 ^ k → ∃ k', k' ≤ k ∧ ndP r k'
  | 0, h, _ => by omega
  | 1, h, hr => ⟨1, Nat.le_refl _, Nat.le_refl _, hr, .inl rfl⟩
  | k + 2, h, hr => by
    by_cases hd : dg r (k + 1) = 0
    · have : r < 65536 ^ (k + 1) := by
        have h1 := div_step r (k + 1)
        rw [Nat.div_eq_of_lt hr, hd] at h1
        exact Nat.lt_of_div_eq_zero (bpow_pos _) (by omega)
      obtain ⟨k', h2, h3⟩ := nd_ex r (k + 1) (by omega) this
      exact ⟨k', by omega, h3⟩
    · exact ⟨k + 2, Nat.le_refl _, by omega, hr, .inr hd⟩
theorem nd_spec {r m : Nat} (h : r < 65536 ^ m) : ndP r (nd r) ∧ nd r ≤ m + 1 := by
  obtain ⟨k, h1, h2⟩ := nd_ex r (m + 1) (by omega) (Nat.lt_of_lt_of_le h (pow_mono (by omega)))
  rw [nd_of h2]
  exact ⟨h2, h1⟩
theorem nd_0 : nd 0 = 1 := nd_of ⟨Nat.le_refl _, bpow_pos 1, .inl rfl⟩
theorem digV_cut (k r : Nat) : (digV (k + 1) r).take k = digV k r := by
  rw [digV_snoc, List.take_append_of_le_length (by rw [digV_len]; omega), List.take_of_length_le (by rw [digV_len]; omega)]
theorem dg_bit (x j : Nat) : dg x (j / 16) / 2 ^ (j % 16) % 2 = (x.testBit j).toNat := by
  rw [dg_eq, Nat.testBit_eq_decide_div_mod_eq]
  have h16 : (65536 : Nat) = 2 ^ 16 := rfl
  have e1 : 65536 ^ (j / 16) = 2 ^ (16 * (j / 16)) := by rw [h16, ← Nat.pow_mul]
  have e2 : x / 2 ^ j = x / 65536 ^ (j / 16) / 2 ^ (j % 16) := by
    rw [Nat.div_div_eq_div_mul, e1, ← Nat.pow_add]; congr 2; omega
  rw [e2]
  generalize x / 65536 ^ (j / 16) = y
  have hr : j % 16 < 16 := Nat.mod_lt _ (by omega)
  generalize j % 16 = r at *
  have e3 : y % 65536 / 2 ^ r % 2 = y / 2 ^ r % 2 := by
    have h1 : y % 65536 / 2 ^ r % 2 = y % 65536 % 2 ^ (r + 1) / 2 ^ r := by
      rw [Nat.pow_succ, Nat.mod_mul_right_div_self]
    have h2 : y / 2 ^ r % 2 = y % 2 ^ (r + 1) / 2 ^ r := by
      rw [Nat.pow_succ, Nat.mod_mul_right_div_self]
    rw [h1, h2, Nat.mod_mod_of_dvd]
    rw [h16]
    exact Nat.pow_dvd_pow 2 (by omega)
  rw [e3]
  rcases Nat.mod_two_eq_zero_or_one (y / 2 ^ r) with h | h <;> rw [h] <;> rfl

/-! ### The walk of Left -/
noncomputable def leftG : List DV → Option RV
  | [.vec xs, .vec ys] => match toD xs, toD ys with
    | some (n, x), some (m, y) => if n + m ≤ 400 ∧ 0 < y then some (.one (.vec (digV (nd (x % y)) (x % y)))) else none
    | _, _ => none
  | _ => none
noncomputable def lfS (n x m y t : Nat) : St := ⟨[(5, .vec true (digV (nd (mAt x y t)) (mAt x y t))), (6, .pl (.int .i64 ((t : Int) - 1))), (0, .vec false (digV n x)), (1, .vec false (digV m y))], []⟩
noncomputable def ltS (n x m y r j k : Nat) : St := ⟨[(5, .vec true (digV k r)), (6, .pl (.int .i64 (j : Nat))), (0, .vec false (digV n x)), (1, .vec false (digV m y))], []⟩
theorem toD_one : toD [.int .i64 1] = some (1, 1) := by
  have h : digV 1 1 = [.int .i64 1] := by rw [digV_eq]; simp [List.range, List.range.loop, dg_eq]
  rw [← h]
  exact toD_digV (by omega)
theorem digV_10 : digV 1 0 = [.int .i64 0] := by rw [digV_eq]; simp [List.range, List.range.loop, dg_eq]
theorem shr_min_i (x n : Nat) (h : n ≤ 64) : (x : Int).fdiv (2 ^ (min ((n : Int).toNat) IntKind.i64.bits)) = ((x / 2 ^ n : Nat) : Int) := by
  have e : min ((n : Int).toNat) IntKind.i64.bits = n := by
    have : IntKind.i64.bits = 64 := rfl
    omega
  rw [e, Int.fdiv_eq_ediv_of_nonneg _ (by exact Int.le_of_lt (Int.pow_pos (by omega)))]
  simp

set_option maxHeartbeats 8000000 in
theorem left_walk (n x m y : Nat) (hx : x < 65536 ^ n) (hy : y < 65536 ^ m) (hb : n + m ≤ 400) (h0 : 0 < y) : Spec Try.prog 72 [.vec (digV n x), .vec (digV m y)] (.one (.vec (digV (nd (x % y)) (x % y)))) := by
  have hΓ : Env.ok [(65, sumG), (50, lessG), (67, takeG)] Try.prog := ok_cons sum_ok (ok_cons less_ok (ok_cons take_ok (ok_nil _)))
  have lx := digV_len n x
  have ty := toD_digV hy
  have w1 : IntKind.i64.wrap (16 * (n : Int)) = ((16 * n : Nat) : Int) := by rw [i64_in (by omega) (by omega)]; omega
  have w2 : IntKind.i64.wrap (((16 * n : Nat) : Int) - 1) = ((16 * n : Nat) : Int) - 1 := i64_in (by omega) (by omega)
  have htop : mAt x y (16 * n) = 0 := by
    have e : (2 : Nat) ^ (16 * n) = 65536 ^ n := by rw [show (65536 : Nat) = 2 ^ 16 from rfl, ← Nat.pow_mul]
    rw [mAt_eq, e, Nat.div_eq_of_lt hx, Nat.zero_mod]
  have htop2 : digV (nd (mAt x y (16 * n))) (mAt x y (16 * n)) = [.int .i64 0] := by rw [htop, nd_0, digV_10]
  refine Spec.of_vx hΓ follows_mixed Try.func72 rfl (by kernel_rfl) (T := []) (by simp [Try.ntmps72]) (by kernel_rfl) rfl Try.ntmps72 (res := [.tmp 4]) rfl ?_
  intro W
  simp -implicitDefEqProofs (maxSteps := 10000000) only [vy_succ, vy_zero, vx_skip, vx_reg0, vx_reg1, vx_ord, xx_done, xx_stop, xx_alt, vx_seq, vx_cond, vx_block, vx_exit, vx_ret, vx_loop, gx_nil, gx_cons, dx_nil, dx_cons, slim, slimOp, gO, gSO, qSO, quietOp, cx_nil, cx_cons, xx_alc, cS, qSB, eK, calmOp, guardS, gK, qK, putK, plK, dOk, St.ev, St.get, St.mem, St.set, St.setm, St.put, lookA, look, newK, nextver, initT, seqE, blockQ, bodyQ, resK, retV, AV.rdv, cells_agg, cells_int, cells_bool, cells_string, cells_slice, cells_uV, agg_uV, isNil_uV, toN_uV, i64_in, IntKind.wrap_u64, IntKind.wrap_u8, IntKind.wrap_u32, ↓binK, ↓intK, unK, ↓loadK, ↓withKey_eq, ↓idxAddrK, ↓indexK, ↓partK, ↓fieldK, ↓fieldAddrK, ↓convK, ↓callK, wrG, updK, ↓lenK, ↓mmK, ↓appK, ↓copyK, ↓sliceK, ↓toArrK, nilK, optK_some, optK_tup, optK_ite, evs, plains, seqParts, capsOf, capsD, List.append_nil, List.nil_append, List.cons_append, AV.dv, AV.cont, isNil_agg, isNil_int, isNil_bool, isNil_string, isNil_nil, isNil_slice, ↓buildV_eq, fillL, placesOf, Option.map_some, Option.map_none, ↓storeK, wrL, RV.av, DV.av, List.set, List.map_cons, List.map_nil, List.length_cons, List.length_nil, List.all_cons, List.all_nil, List.getElem?_cons_zero, List.getElem?_cons_succ, List.getElem?_nil, List.size_toArray, List.getElem?_toArray, List.drop_zero, List.drop_succ_cons, List.take_zero, List.take_succ_cons, Option.getD_some, Option.getD_none, Option.some.injEq, Option.isSome_some, Nat.reduceEqDiff, Nat.reduceAdd, Nat.reduceSub, Nat.reduceMul, Nat.reduceLT, Nat.reduceLeDiff, Nat.reduceMod, Nat.reduceDiv, Int.cast_ofNat_Int, Int.reduceLT, Int.reduceLE, Int.reduceToNat, ↓reduceIte, true_and, and_true, true_or, or_true, or_false, false_or, reduceCtorEq, Bool.false_eq_true, Bool.and_true, Bool.not_true, Bool.not_false, beq_self_eq_true, Bool.true_beq, Bool.false_beq, Value.oneCell', decide_true, decide_false, Int.reduceAdd, Int.reduceSub, Int.reduceMod, Int.reduceMul, Int.reduceNeg, Int.reduceBEq, Int.reduceBNe, Int.reduceTDiv, Int.reduceTMod, ne_eq, not_false_eq_true, not_true_eq_false, Int.reduceEq, Nat.zero_add, Nat.add_zero, Nat.le_refl, tyB, Try.underlying13, Try.underlying25, Try.underlying26, Try.underlying53, Try.underlying54, lx, w1, w2]
  refine VT_toVec 5 true [.int .i64 0] [(6, .pl (.int .i64 (((16 * n : Nat) : Int) - 1))), (0, .vec false (digV n x)), (1, .vec false (digV m y))] [] (Sub.of (by simp -implicitDefEqProofs only [subT, look, lookA, newK, St.get, St.mem, List.map_cons, List.map_nil, List.all_cons, List.all_nil, List.length_cons, List.length_nil, List.getElem?_cons_zero, List.getElem?_cons_succ, Nat.reduceEqDiff, Nat.reduceAdd, Option.some.injEq, ↓reduceIte, true_and, and_true, reduceCtorEq, beq_self_eq_true, Bool.and_true, ne_eq, not_false_eq_true, not_true_eq_false, Nat.add_zero, Nat.zero_add, Nat.reduceSub, Nat.reduceMul, Int.cast_ofNat_Int, Int.reduceAdd, Int.reduceSub, Int.reduceMul]) trivial rfl) (k := 7) (off := 0) (len := 1) (blk := ⟨0, 3, [.int .i64 0]⟩) rfl rfl (by decide) rfl rfl ?_
  refine VT_loop hΓ follows_mixed (lfS n x m y) (fun t => t ≤ 16 * n) (fun t => t) (16 * n) (Sub.of (by simp -implicitDefEqProofs only [subT, lfS, htop2, look, lookA, newK, St.get, St.mem, List.map_cons, List.map_nil, List.all_cons, List.all_nil, List.length_cons, List.length_nil, List.getElem?_cons_zero, List.getElem?_cons_succ, Nat.reduceEqDiff, Nat.reduceAdd, Option.some.injEq, ↓reduceIte, true_and, and_true, reduceCtorEq, beq_self_eq_true, Bool.and_true, ne_eq, not_false_eq_true, not_true_eq_false, Nat.add_zero, Nat.zero_add, Nat.reduceSub, Nat.reduceMul, Int.cast_ofNat_Int, Int.reduceAdd, Int.reduceSub, Int.reduceMul]) trivial rfl) (Nat.le_refl _) ?_
  intro t ht
  rcases t with _ | j
  · have hm := mAt_0 x y
    have hlt : x % y < 65536 ^ m := Nat.lt_of_lt_of_le (Nat.mod_lt _ h0) (Nat.le_of_lt hy)
    simp -implicitDefEqProofs (maxSteps := 10000000) only [vy_succ, vy_zero, vx_skip, vx_reg0, vx_reg1, vx_ord, xx_done, xx_stop, xx_alt, vx_seq, vx_cond, vx_block, vx_exit, vx_ret, vx_loop, gx_nil, gx_cons, dx_nil, dx_cons, slim, slimOp, gO, gSO, qSO, quietOp, cx_nil, cx_cons, xx_alc, cS, qSB, eK, calmOp, guardS, gK, qK, putK, plK, dOk, St.ev, St.get, St.mem, St.set, St.setm, St.put, lookA, look, newK, nextver, initT, seqE, blockQ, bodyQ, resK, retV, AV.rdv, cells_agg, cells_int, cells_bool, cells_string, cells_slice, cells_uV, agg_uV, isNil_uV, toN_uV, i64_in, IntKind.wrap_u64, IntKind.wrap_u8, IntKind.wrap_u32, ↓binK, ↓intK, unK, ↓loadK, ↓withKey_eq, ↓idxAddrK, ↓indexK, ↓partK, ↓fieldK, ↓fieldAddrK, ↓convK, ↓callK, wrG, updK, ↓lenK, ↓mmK, ↓appK, ↓copyK, ↓sliceK, ↓toArrK, nilK, optK_some, optK_tup, optK_ite, evs, plains, seqParts, capsOf, capsD, List.append_nil, List.nil_append, List.cons_append, AV.dv, AV.cont, isNil_agg, isNil_int, isNil_bool, isNil_string, isNil_nil, isNil_slice, ↓buildV_eq, fillL, placesOf, Option.map_some, Option.map_none, ↓storeK, wrL, RV.av, DV.av, List.set, List.map_cons, List.map_nil, List.length_cons, List.length_nil, List.all_cons, List.all_nil, List.getElem?_cons_zero, List.getElem?_cons_succ, List.getElem?_nil, List.size_toArray, List.getElem?_toArray, List.drop_zero, List.drop_succ_cons, List.take_zero, List.take_succ_cons, Option.getD_some, Option.getD_none, Option.some.injEq, Option.isSome_some, Nat.reduceEqDiff, Nat.reduceAdd, Nat.reduceSub, Nat.reduceMul, Nat.reduceLT, Nat.reduceLeDiff, Nat.reduceMod, Nat.reduceDiv, Int.cast_ofNat_Int, Int.reduceLT, Int.reduceLE, Int.reduceToNat, ↓reduceIte, true_and, and_true, true_or, or_true, or_false, false_or, reduceCtorEq, Bool.false_eq_true, Bool.and_true, Bool.not_true, Bool.not_false, beq_self_eq_true, Bool.true_beq, Bool.false_beq, Value.oneCell', decide_true, decide_false, Int.reduceAdd, Int.reduceSub, Int.reduceMod, Int.reduceMul, Int.reduceNeg, Int.reduceBEq, Int.reduceBNe, Int.reduceTDiv, Int.reduceTMod, ne_eq, not_false_eq_true, not_true_eq_false, Int.reduceEq, Nat.zero_add, Nat.add_zero, Nat.le_refl, tyB, Try.underlying13, Try.underlying25, Try.underlying26, Try.underlying53, Try.underlying54, lfS, hm, Int.natCast_zero]
  · have hstep := mAt_step x y j
    have hRl := mAt_lt x (j + 1) (show y ≠ 0 by omega)
    have hRb : mAt x y (j + 1) < 65536 ^ m := Nat.lt_trans hRl hy
    obtain ⟨hnp, hnm⟩ := nd_spec hRb
    have hdb := dg_bit x j
    generalize hb2 : x.testBit j = b at *
    generalize hX : mAt x y (j + 1) = R at *
    generalize hK : nd R = k at *
    have tR : toD (digV k R) = some (k, R) := toD_digV hnp.2.1
    have lt1 := sumN_lt hnp.2.1 hnp.2.1
    have le1 := sumN_le k R k R
    have ge1 : k ≤ sumN k R k R := by unfold sumN; omega
    generalize hk1 : sumN k R k R = k1 at *
    have tR1 : toD (digV k1 (R + R)) = some (k1, R + R) := toD_digV lt1
    have lt2 := sumN_lt lt1 (show 1 < 65536 ^ 1 by omega)
    have le2 := sumN_le k1 (R + R) 1 1
    have ge2 : k1 ≤ sumN k1 (R + R) 1 1 := by unfold sumN; omega
    generalize hk2 : sumN k1 (R + R) 1 1 = k2 at *
    have tR2 : toD (digV k2 (R + R + 1)) = some (k2, R + R + 1) := toD_digV lt2
    have s1 : (k + k ≤ 1000) = True := eq_true (by omega)
    have s2 : (k1 + 1 ≤ 1000) = True := eq_true (by omega)
    have s3 : (k2 + m ≤ 1000) = True := eq_true (by omega)
    have s4 : (k1 + m ≤ 1000) = True := eq_true (by omega)
    have r0 : decide (0 ≤ (j : Int)) = true := decide_eq_true (by omega)
    have r2 : IntKind.i64.wrap ((j : Int) - 1) = (j : Int) - 1 := i64_in (by omega) (by omega)
    have r3 : IntKind.i64.wrap ((j : Int).tdiv 16) = ((j / 16 : Nat) : Int) := by rw [Int.tdiv_eq_ediv_of_nonneg (by omega), i64_in (by omega) (by omega)]; omega
    have r4 : (j : Int).tmod 16 = ((j % 16 : Nat) : Int) := by rw [Int.tmod_eq_emod_of_nonneg (by omega)]; omega
    have r5 : ((j % 16 : Nat) : Int) % 18446744073709551616 = ((j % 16 : Nat) : Int) := by omega
    have r6 := digV_get n x (j / 16) (by omega)
    have r7 := shr_min_i (dg x (j / 16)) (j % 16) (by omega)
    rw [Int.toNat_natCast] at r7
    have r8 : ((dg x (j / 16) / 2 ^ (j % 16) : Nat) : Int).tmod 2 = ((b.toNat : Nat) : Int) := by
      rw [Int.tmod_eq_emod_of_nonneg (Int.natCast_nonneg _), ← hdb]; omega
    have r9 : (0 : Int) ≤ ((j / 16 : Nat) : Int) := by omega
    have r10 : ((j / 16 : Nat) : Int) < (n : Int) := by omega
    have r11 : (0 : Int) ≤ ((j % 16 : Nat) : Int) := by omega
    generalize dg x (j / 16) / 2 ^ (j % 16) = dq at *
    have hb3 : b.toNat ≤ 1 := by cases b <;> decide
    rw [red_mod (by omega)] at hstep
    generalize hF : mAt x y j = F at *
    cases b with
    | false =>
      simp only [Bool.toNat_false, Bool.toNat_true, Nat.add_zero] at hstep
      have bq : ((((false : Bool).toNat : Nat) : Int) == 1) = false := rfl
      by_cases hlt : R + R < y
      · have d1 : decide (R + R < y) = true := decide_eq_true hlt
        rw [if_pos hlt] at hstep
        have hFk : F < 65536 ^ k1 := by rw [hstep]; exact lt1
        have d1F : decide (F < y) = true := by rw [hstep]; exact d1
        have tF : toD (digV k1 F) = some (k1, F) := toD_digV hFk
        simp -implicitDefEqProofs (maxSteps := 10000000) only [vy_succ, vy_zero, vx_skip, vx_reg0, vx_reg1, vx_ord, xx_done, xx_stop, xx_alt, vx_seq, vx_cond, vx_block, vx_exit, vx_ret, vx_loop, gx_nil, gx_cons, dx_nil, dx_cons, slim, slimOp, gO, gSO, qSO, quietOp, cx_nil, cx_cons, xx_alc, cS, qSB, eK, calmOp, guardS, gK, qK, putK, plK, dOk, St.ev, St.get, St.mem, St.set, St.setm, St.put, lookA, look, newK, nextver, initT, seqE, blockQ, bodyQ, resK, retV, AV.rdv, cells_agg, cells_int, cells_bool, cells_string, cells_slice, cells_uV, agg_uV, isNil_uV, toN_uV, i64_in, IntKind.wrap_u64, IntKind.wrap_u8, IntKind.wrap_u32, ↓binK, ↓intK, unK, ↓loadK, ↓withKey_eq, ↓idxAddrK, ↓indexK, ↓partK, ↓fieldK, ↓fieldAddrK, ↓convK, ↓callK, wrG, updK, ↓lenK, ↓mmK, ↓appK, ↓copyK, ↓sliceK, ↓toArrK, nilK, optK_some, optK_tup, optK_ite, evs, plains, seqParts, capsOf, capsD, List.append_nil, List.nil_append, List.cons_append, AV.dv, AV.cont, isNil_agg, isNil_int, isNil_bool, isNil_string, isNil_nil, isNil_slice, ↓buildV_eq, fillL, placesOf, Option.map_some, Option.map_none, ↓storeK, wrL, RV.av, DV.av, List.set, List.map_cons, List.map_nil, List.length_cons, List.length_nil, List.all_cons, List.all_nil, List.getElem?_cons_zero, List.getElem?_cons_succ, List.getElem?_nil, List.size_toArray, List.getElem?_toArray, List.drop_zero, List.drop_succ_cons, List.take_zero, List.take_succ_cons, Option.getD_some, Option.getD_none, Option.some.injEq, Option.isSome_some, Nat.reduceEqDiff, Nat.reduceAdd, Nat.reduceSub, Nat.reduceMul, Nat.reduceLT, Nat.reduceLeDiff, Nat.reduceMod, Nat.reduceDiv, Int.cast_ofNat_Int, Int.reduceLT, Int.reduceLE, Int.reduceToNat, ↓reduceIte, true_and, and_true, true_or, or_true, or_false, false_or, reduceCtorEq, Bool.false_eq_true, Bool.and_true, Bool.not_true, Bool.not_false, beq_self_eq_true, Bool.true_beq, Bool.false_beq, Value.oneCell', decide_true, decide_false, Int.reduceAdd, Int.reduceSub, Int.reduceMod, Int.reduceMul, Int.reduceNeg, Int.reduceBEq, Int.reduceBNe, Int.reduceTDiv, Int.reduceTMod, ne_eq, not_false_eq_true, not_true_eq_false, Int.reduceEq, Nat.zero_add, Nat.add_zero, Nat.le_refl, tyB, Try.underlying13, Try.underlying25, Try.underlying26, Try.underlying53, Try.underlying54, lfS, hX, hK, cast_pred, sumG, lessG, takeG, lx, ty, tR, tR1, tR2, toD_one, hk1, hk2, s1, s2, s3, s4, r0, r3, r4, r5, r6, r7, r8, r9, r10, r11, bq, d1, d1F, tF, Int.toNat_natCast, ← hstep]
        refine VT_loop hΓ follows_mixed (ltS n x m y F j) (fun k => 1 ≤ k ∧ k ≤ k1 ∧ F < 65536 ^ k) (fun k => k) k1 (Sub.of (by simp -implicitDefEqProofs only [subT, ltS, look, lookA, newK, St.get, St.mem, List.map_cons, List.map_nil, List.all_cons, List.all_nil, List.length_cons, List.length_nil, List.getElem?_cons_zero, List.getElem?_cons_succ, Nat.reduceEqDiff, Nat.reduceAdd, Option.some.injEq, ↓reduceIte, true_and, and_true, reduceCtorEq, beq_self_eq_true, Bool.and_true, ne_eq, not_false_eq_true, not_true_eq_false, Nat.add_zero, Nat.zero_add, Nat.reduceSub, Nat.reduceMul, Int.cast_ofNat_Int, Int.reduceAdd, Int.reduceSub, Int.reduceMul]) trivial rfl) ⟨by have := hnp.1; omega, Nat.le_refl _, hFk⟩ ?_
        rintro q ⟨hq1, hq2, hq3⟩
        have lq := digV_len q F
        by_cases hq : q = 1
        · subst hq
          have g1 : decide (1 < ((1 : Nat) : Int)) = false := rfl
          have hnd : nd F = 1 := nd_of ⟨hq1, hq3, .inl rfl⟩
          simp -implicitDefEqProofs (maxSteps := 10000000) only [vy_succ, vy_zero, vx_skip, vx_reg0, vx_reg1, vx_ord, xx_done, xx_stop, xx_alt, vx_seq, vx_cond, vx_block, vx_exit, vx_ret, vx_loop, gx_nil, gx_cons, dx_nil, dx_cons, slim, slimOp, gO, gSO, qSO, quietOp, cx_nil, cx_cons, xx_alc, cS, qSB, eK, calmOp, guardS, gK, qK, putK, plK, dOk, St.ev, St.get, St.mem, St.set, St.setm, St.put, lookA, look, newK, nextver, initT, seqE, blockQ, bodyQ, resK, retV, AV.rdv, cells_agg, cells_int, cells_bool, cells_string, cells_slice, cells_uV, agg_uV, isNil_uV, toN_uV, i64_in, IntKind.wrap_u64, IntKind.wrap_u8, IntKind.wrap_u32, ↓binK, ↓intK, unK, ↓loadK, ↓withKey_eq, ↓idxAddrK, ↓indexK, ↓partK, ↓fieldK, ↓fieldAddrK, ↓convK, ↓callK, wrG, updK, ↓lenK, ↓mmK, ↓appK, ↓copyK, ↓sliceK, ↓toArrK, nilK, optK_some, optK_tup, optK_ite, evs, plains, seqParts, capsOf, capsD, List.append_nil, List.nil_append, List.cons_append, AV.dv, AV.cont, isNil_agg, isNil_int, isNil_bool, isNil_string, isNil_nil, isNil_slice, ↓buildV_eq, fillL, placesOf, Option.map_some, Option.map_none, ↓storeK, wrL, RV.av, DV.av, List.set, List.map_cons, List.map_nil, List.length_cons, List.length_nil, List.all_cons, List.all_nil, List.getElem?_cons_zero, List.getElem?_cons_succ, List.getElem?_nil, List.size_toArray, List.getElem?_toArray, List.drop_zero, List.drop_succ_cons, List.take_zero, List.take_succ_cons, Option.getD_some, Option.getD_none, Option.some.injEq, Option.isSome_some, Nat.reduceEqDiff, Nat.reduceAdd, Nat.reduceSub, Nat.reduceMul, Nat.reduceLT, Nat.reduceLeDiff, Nat.reduceMod, Nat.reduceDiv, Int.cast_ofNat_Int, Int.reduceLT, Int.reduceLE, Int.reduceToNat, ↓reduceIte, true_and, and_true, true_or, or_true, or_false, false_or, reduceCtorEq, Bool.false_eq_true, Bool.and_true, Bool.not_true, Bool.not_false, beq_self_eq_true, Bool.true_beq, Bool.false_beq, Value.oneCell', decide_true, decide_false, Int.reduceAdd, Int.reduceSub, Int.reduceMod, Int.reduceMul, Int.reduceNeg, Int.reduceBEq, Int.reduceBNe, Int.reduceTDiv, Int.reduceTMod, ne_eq, not_false_eq_true, not_true_eq_false, Int.reduceEq, Nat.zero_add, Nat.add_zero, Nat.le_refl, tyB, Try.underlying13, Try.underlying25, Try.underlying26, Try.underlying53, Try.underlying54, ltS, lq, g1, r2]
          exact ⟨j, by omega, Nat.lt_succ_self j, Sub.of (by simp -implicitDefEqProofs only [subT, lfS, hF, hnd, look, lookA, newK, St.get, St.mem, List.map_cons, List.map_nil, List.all_cons, List.all_nil, List.length_cons, List.length_nil, List.getElem?_cons_zero, List.getElem?_cons_succ, Nat.reduceEqDiff, Nat.reduceAdd, Option.some.injEq, ↓reduceIte, true_and, and_true, reduceCtorEq, beq_self_eq_true, Bool.and_true, ne_eq, not_false_eq_true, not_true_eq_false, Nat.add_zero, Nat.zero_add, Nat.reduceSub, Nat.reduceMul, Int.cast_ofNat_Int, Int.reduceAdd, Int.reduceSub, Int.reduceMul]) trivial rfl⟩
        · obtain ⟨e, rfl⟩ : ∃ e, q = e + 1 := ⟨q - 1, by omega⟩
          have g1 : decide (1 < ((e + 1 : Nat) : Int)) = true := decide_eq_true (by omega)
          have g2 : IntKind.i64.wrap (((e + 1 : Nat) : Int) - 1) = (e : Int) := by rw [i64_in (by omega) (by omega)]; omega
          have g3 := digV_get (e + 1) F e (by omega)
          have g4 : (0 : Int) ≤ (e : Int) := by omega
          have g5 : (e : Int) < ((e + 1 : Nat) : Int) := by omega
          have g6 : (e : Int) ≤ ((e + 1 : Nat) : Int) := by omega
          have g7 := digV_cut e F
          by_cases hd : dg F e = 0
          · have g8 : (((dg F e : Nat) : Int) == 0) = true := by rw [hd]; rfl
            have hFe : F < 65536 ^ e := by
              have h1 := div_step F e
              rw [Nat.div_eq_of_lt hq3, hd] at h1
              exact Nat.lt_of_div_eq_zero (bpow_pos _) (by omega)
            simp -implicitDefEqProofs (maxSteps := 10000000) only [vy_succ, vy_zero, vx_skip, vx_reg0, vx_reg1, vx_ord, xx_done, xx_stop, xx_alt, vx_seq, vx_cond, vx_block, vx_exit, vx_ret, vx_loop, gx_nil, gx_cons, dx_nil, dx_cons, slim, slimOp, gO, gSO, qSO, quietOp, cx_nil, cx_cons, xx_alc, cS, qSB, eK, calmOp, guardS, gK, qK, putK, plK, dOk, St.ev, St.get, St.mem, St.set, St.setm, St.put, lookA, look, newK, nextver, initT, seqE, blockQ, bodyQ, resK, retV, AV.rdv, cells_agg, cells_int, cells_bool, cells_string, cells_slice, cells_uV, agg_uV, isNil_uV, toN_uV, i64_in, IntKind.wrap_u64, IntKind.wrap_u8, IntKind.wrap_u32, ↓binK, ↓intK, unK, ↓loadK, ↓withKey_eq, ↓idxAddrK, ↓indexK, ↓partK, ↓fieldK, ↓fieldAddrK, ↓convK, ↓callK, wrG, updK, ↓lenK, ↓mmK, ↓appK, ↓copyK, ↓sliceK, ↓toArrK, nilK, optK_some, optK_tup, optK_ite, evs, plains, seqParts, capsOf, capsD, List.append_nil, List.nil_append, List.cons_append, AV.dv, AV.cont, isNil_agg, isNil_int, isNil_bool, isNil_string, isNil_nil, isNil_slice, ↓buildV_eq, fillL, placesOf, Option.map_some, Option.map_none, ↓storeK, wrL, RV.av, DV.av, List.set, List.map_cons, List.map_nil, List.length_cons, List.length_nil, List.all_cons, List.all_nil, List.getElem?_cons_zero, List.getElem?_cons_succ, List.getElem?_nil, List.size_toArray, List.getElem?_toArray, List.drop_zero, List.drop_succ_cons, List.take_zero, List.take_succ_cons, Option.getD_some, Option.getD_none, Option.some.injEq, Option.isSome_some, Nat.reduceEqDiff, Nat.reduceAdd, Nat.reduceSub, Nat.reduceMul, Nat.reduceLT, Nat.reduceLeDiff, Nat.reduceMod, Nat.reduceDiv, Int.cast_ofNat_Int, Int.reduceLT, Int.reduceLE, Int.reduceToNat, ↓reduceIte, true_and, and_true, true_or, or_true, or_false, false_or, reduceCtorEq, Bool.false_eq_true, Bool.and_true, Bool.not_true, Bool.not_false, beq_self_eq_true, Bool.true_beq, Bool.false_beq, Value.oneCell', decide_true, decide_false, Int.reduceAdd, Int.reduceSub, Int.reduceMod, Int.reduceMul, Int.reduceNeg, Int.reduceBEq, Int.reduceBNe, Int.reduceTDiv, Int.reduceTMod, ne_eq, not_false_eq_true, not_true_eq_false, Int.reduceEq, Nat.zero_add, Nat.add_zero, Nat.le_refl, tyB, Try.underlying13, Try.underlying25, Try.underlying26, Try.underlying53, Try.underlying54, ltS, lq, g1, g2, g3, g4, g5, g6, g7, g8, Int.toNat_natCast, Nat.sub_zero]
            exact ⟨e, ⟨by omega, by omega, hFe⟩, Nat.lt_succ_self e, Sub.of (by simp -implicitDefEqProofs only [subT, ltS, look, lookA, newK, St.get, St.mem, List.map_cons, List.map_nil, List.all_cons, List.all_nil, List.length_cons, List.length_nil, List.getElem?_cons_zero, List.getElem?_cons_succ, Nat.reduceEqDiff, Nat.reduceAdd, Option.some.injEq, ↓reduceIte, true_and, and_true, reduceCtorEq, beq_self_eq_true, Bool.and_true, ne_eq, not_false_eq_true, not_true_eq_false, Nat.add_zero, Nat.zero_add, Nat.reduceSub, Nat.reduceMul, Int.cast_ofNat_Int, Int.reduceAdd, Int.reduceSub, Int.reduceMul]) trivial rfl⟩
          · have g8 : (((dg F e : Nat) : Int) == 0) = false := by simp; omega
            have hnd : nd F = e + 1 := nd_of ⟨by omega, hq3, .inr (by rw [Nat.add_sub_cancel]; exact hd)⟩
            simp -implicitDefEqProofs (maxSteps := 10000000) only [vy_succ, vy_zero, vx_skip, vx_reg0, vx_reg1, vx_ord, xx_done, xx_stop, xx_alt, vx_seq, vx_cond, vx_block, vx_exit, vx_ret, vx_loop, gx_nil, gx_cons, dx_nil, dx_cons, slim, slimOp, gO, gSO, qSO, quietOp, cx_nil, cx_cons, xx_alc, cS, qSB, eK, calmOp, guardS, gK, qK, putK, plK, dOk, St.ev, St.get, St.mem, St.set, St.setm, St.put, lookA, look, newK, nextver, initT, seqE, blockQ, bodyQ, resK, retV, AV.rdv, cells_agg, cells_int, cells_bool, cells_string, cells_slice, cells_uV, agg_uV, isNil_uV, toN_uV, i64_in, IntKind.wrap_u64, IntKind.wrap_u8, IntKind.wrap_u32, ↓binK, ↓intK, unK, ↓loadK, ↓withKey_eq, ↓idxAddrK, ↓indexK, ↓partK, ↓fieldK, ↓fieldAddrK, ↓convK, ↓callK, wrG, updK, ↓lenK, ↓mmK, ↓appK, ↓copyK, ↓sliceK, ↓toArrK, nilK, optK_some, optK_tup, optK_ite, evs, plains, seqParts, capsOf, capsD, List.append_nil, List.nil_append, List.cons_append, AV.dv, AV.cont, isNil_agg, isNil_int, isNil_bool, isNil_string, isNil_nil, isNil_slice, ↓buildV_eq, fillL, placesOf, Option.map_some, Option.map_none, ↓storeK, wrL, RV.av, DV.av, List.set, List.map_cons, List.map_nil, List.length_cons, List.length_nil, List.all_cons, List.all_nil, List.getElem?_cons_zero, List.getElem?_cons_succ, List.getElem?_nil, List.size_toArray, List.getElem?_toArray, List.drop_zero, List.drop_succ_cons, List.take_zero, List.take_succ_cons, Option.getD_some, Option.getD_none, Option.some.injEq, Option.isSome_some, Nat.reduceEqDiff, Nat.reduceAdd, Nat.reduceSub, Nat.reduceMul, Nat.reduceLT, Nat.reduceLeDiff, Nat.reduceMod, Nat.reduceDiv, Int.cast_ofNat_Int, Int.reduceLT, Int.reduceLE, Int.reduceToNat, ↓reduceIte, true_and, and_true, true_or, or_true, or_false, false_or, reduceCtorEq, Bool.false_eq_true, Bool.and_true, Bool.not_true, Bool.not_false, beq_self_eq_true, Bool.true_beq, Bool.false_beq, Value.oneCell', decide_true, decide_false, Int.reduceAdd, Int.reduceSub, Int.reduceMod, Int.reduceMul, Int.reduceNeg, Int.reduceBEq, Int.reduceBNe, Int.reduceTDiv, Int.reduceTMod, ne_eq, not_false_eq_true, not_true_eq_false, Int.reduceEq, Nat.zero_add, Nat.add_zero, Nat.le_refl, tyB, Try.underlying13, Try.underlying25, Try.underlying26, Try.underlying53, Try.underlying54, ltS, lq, g1, g2, g3, g4, g5, g6, g7, g8, r2, Int.toNat_natCast]
            exact ⟨j, by omega, Nat.lt_succ_self j, Sub.of (by simp -implicitDefEqProofs only [subT, lfS, hF, hnd, look, lookA, newK, St.get, St.mem, List.map_cons, List.map_nil, List.all_cons, List.all_nil, List.length_cons, List.length_nil, List.getElem?_cons_zero, List.getElem?_cons_succ, Nat.reduceEqDiff, Nat.reduceAdd, Option.some.injEq, ↓reduceIte, true_and, and_true, reduceCtorEq, beq_self_eq_true, Bool.and_true, ne_eq, not_false_eq_true, not_true_eq_false, Nat.add_zero, Nat.zero_add, Nat.reduceSub, Nat.reduceMul, Int.cast_ofNat_Int, Int.reduceAdd, Int.reduceSub, Int.reduceMul]) trivial rfl⟩
      · have d1 : decide (R + R < y) = false := decide_eq_false hlt
        rw [if_neg hlt] at hstep
        have hFk : F < 65536 ^ k1 := by have := lt1; omega
        have s5 : (y ≤ R + R) = True := eq_true (by omega)
        simp -implicitDefEqProofs (maxSteps := 10000000) only [vy_succ, vy_zero, vx_skip, vx_reg0, vx_reg1, vx_ord, xx_done, xx_stop, xx_alt, vx_seq, vx_cond, vx_block, vx_exit, vx_ret, vx_loop, gx_nil, gx_cons, dx_nil, dx_cons, slim, slimOp, gO, gSO, qSO, quietOp, cx_nil, cx_cons, xx_alc, cS, qSB, eK, calmOp, guardS, gK, qK, putK, plK, dOk, St.ev, St.get, St.mem, St.set, St.setm, St.put, lookA, look, newK, nextver, initT, seqE, blockQ, bodyQ, resK, retV, AV.rdv, cells_agg, cells_int, cells_bool, cells_string, cells_slice, cells_uV, agg_uV, isNil_uV, toN_uV, i64_in, IntKind.wrap_u64, IntKind.wrap_u8, IntKind.wrap_u32, ↓binK, ↓intK, unK, ↓loadK, ↓withKey_eq, ↓idxAddrK, ↓indexK, ↓partK, ↓fieldK, ↓fieldAddrK, ↓convK, ↓callK, wrG, updK, ↓lenK, ↓mmK, ↓appK, ↓copyK, ↓sliceK, ↓toArrK, nilK, optK_some, optK_tup, optK_ite, evs, plains, seqParts, capsOf, capsD, List.append_nil, List.nil_append, List.cons_append, AV.dv, AV.cont, isNil_agg, isNil_int, isNil_bool, isNil_string, isNil_nil, isNil_slice, ↓buildV_eq, fillL, placesOf, Option.map_some, Option.map_none, ↓storeK, wrL, RV.av, DV.av, List.set, List.map_cons, List.map_nil, List.length_cons, List.length_nil, List.all_cons, List.all_nil, List.getElem?_cons_zero, List.getElem?_cons_succ, List.getElem?_nil, List.size_toArray, List.getElem?_toArray, List.drop_zero, List.drop_succ_cons, List.take_zero, List.take_succ_cons, Option.getD_some, Option.getD_none, Option.some.injEq, Option.isSome_some, Nat.reduceEqDiff, Nat.reduceAdd, Nat.reduceSub, Nat.reduceMul, Nat.reduceLT, Nat.reduceLeDiff, Nat.reduceMod, Nat.reduceDiv, Int.cast_ofNat_Int, Int.reduceLT, Int.reduceLE, Int.reduceToNat, ↓reduceIte, true_and, and_true, true_or, or_true, or_false, false_or, reduceCtorEq, Bool.false_eq_true, Bool.and_true, Bool.not_true, Bool.not_false, beq_self_eq_true, Bool.true_beq, Bool.false_beq, Value.oneCell', decide_true, decide_false, Int.reduceAdd, Int.reduceSub, Int.reduceMod, Int.reduceMul, Int.reduceNeg, Int.reduceBEq, Int.reduceBNe, Int.reduceTDiv, Int.reduceTMod, ne_eq, not_false_eq_true, not_true_eq_false, Int.reduceEq, Nat.zero_add, Nat.add_zero, Nat.le_refl, tyB, Try.underlying13, Try.underlying25, Try.underlying26, Try.underlying53, Try.underlying54, lfS, hX, hK, cast_pred, sumG, lessG, takeG, lx, ty, tR, tR1, tR2, toD_one, hk1, hk2, s1, s2, s3, s4, s5, r0, r3, r4, r5, r6, r7, r8, r9, r10, r11, bq, d1, Int.toNat_natCast, ← hstep]
        refine VT_loop hΓ follows_mixed (ltS n x m y F j) (fun k => 1 ≤ k ∧ k ≤ k1 ∧ F < 65536 ^ k) (fun k => k) k1 (Sub.of (by simp -implicitDefEqProofs only [subT, ltS, look, lookA, newK, St.get, St.mem, List.map_cons, List.map_nil, List.all_cons, List.all_nil, List.length_cons, List.length_nil, List.getElem?_cons_zero, List.getElem?_cons_succ, Nat.reduceEqDiff, Nat.reduceAdd, Option.some.injEq, ↓reduceIte, true_and, and_true, reduceCtorEq, beq_self_eq_true, Bool.and_true, ne_eq, not_false_eq_true, not_true_eq_false, Nat.add_zero, Nat.zero_add, Nat.reduceSub, Nat.reduceMul, Int.cast_ofNat_Int, Int.reduceAdd, Int.reduceSub, Int.reduceMul]) trivial rfl) ⟨by have := hnp.1; omega, Nat.le_refl _, hFk⟩ ?_
        rintro q ⟨hq1, hq2, hq3⟩
        have lq := digV_len q F
        by_cases hq : q = 1
        · subst hq
          have g1 : decide (1 < ((1 : Nat) : Int)) = false := rfl
          have hnd : nd F = 1 := nd_of ⟨hq1, hq3, .inl rfl⟩
          simp -implicitDefEqProofs (maxSteps := 10000000) only [vy_succ, vy_zero, vx_skip, vx_reg0, vx_reg1, vx_ord, xx_done, xx_stop, xx_alt, vx_seq, vx_cond, vx_block, vx_exit, vx_ret, vx_loop, gx_nil, gx_cons, dx_nil, dx_cons, slim, slimOp, gO, gSO, qSO, quietOp, cx_nil, cx_cons, xx_alc, cS, qSB, eK, calmOp, guardS, gK, qK, putK, plK, dOk, St.ev, St.get, St.mem, St.set, St.setm, St.put, lookA, look, newK, nextver, initT, seqE, blockQ, bodyQ, resK, retV, AV.rdv, cells_agg, cells_int, cells_bool, cells_string, cells_slice, cells_uV, agg_uV, isNil_uV, toN_uV, i64_in, IntKind.wrap_u64, IntKind.wrap_u8, IntKind.wrap_u32, ↓binK, ↓intK, unK, ↓loadK, ↓withKey_eq, ↓idxAddrK, ↓indexK, ↓partK, ↓fieldK, ↓fieldAddrK, ↓convK, ↓callK, wrG, updK, ↓lenK, ↓mmK, ↓appK, ↓copyK, ↓sliceK, ↓toArrK, nilK, optK_some, optK_tup, optK_ite, evs, plains, seqParts, capsOf, capsD, List.append_nil, List.nil_append, List.cons_append, AV.dv, AV.cont, isNil_agg, isNil_int, isNil_bool, isNil_string, isNil_nil, isNil_slice, ↓buildV_eq, fillL, placesOf, Option.map_some, Option.map_none, ↓storeK, wrL, RV.av, DV.av, List.set, List.map_cons, List.map_nil, List.length_cons, List.length_nil, List.all_cons, List.all_nil, List.getElem?_cons_zero, List.getElem?_cons_succ, List.getElem?_nil, List.size_toArray, List.getElem?_toArray, List.drop_zero, List.drop_succ_cons, List.take_zero, List.take_succ_cons, Option.getD_some, Option.getD_none, Option.some.injEq, Option.isSome_some, Nat.reduceEqDiff, Nat.reduceAdd, Nat.reduceSub, Nat.reduceMul, Nat.reduceLT, Nat.reduceLeDiff, Nat.reduceMod, Nat.reduceDiv, Int.cast_ofNat_Int, Int.reduceLT, Int.reduceLE, Int.reduceToNat, ↓reduceIte, true_and, and_true, true_or, or_true, or_false, false_or, reduceCtorEq, Bool.false_eq_true, Bool.and_true, Bool.not_true, Bool.not_false, beq_self_eq_true, Bool.true_beq, Bool.false_beq, Value.oneCell', decide_true, decide_false, Int.reduceAdd, Int.reduceSub, Int.reduceMod, Int.reduceMul, Int.reduceNeg, Int.reduceBEq, Int.reduceBNe, Int.reduceTDiv, Int.reduceTMod, ne_eq, not_false_eq_true, not_true_eq_false, Int.reduceEq, Nat.zero_add, Nat.add_zero, Nat.le_refl, tyB, Try.underlying13, Try.underlying25, Try.underlying26, Try.underlying53, Try.underlying54, ltS, lq, g1, r2]
          exact ⟨j, by omega, Nat.lt_succ_self j, Sub.of (by simp -implicitDefEqProofs only [subT, lfS, hF, hnd, look, lookA, newK, St.get, St.mem, List.map_cons, List.map_nil, List.all_cons, List.all_nil, List.length_cons, List.length_nil, List.getElem?_cons_zero, List.getElem?_cons_succ, Nat.reduceEqDiff, Nat.reduceAdd, Option.some.injEq, ↓reduceIte, true_and, and_true, reduceCtorEq, beq_self_eq_true, Bool.and_true, ne_eq, not_false_eq_true, not_true_eq_false, Nat.add_zero, Nat.zero_add, Nat.reduceSub, Nat.reduceMul, Int.cast_ofNat_Int, Int.reduceAdd, Int.reduceSub, Int.reduceMul]) trivial rfl⟩
        · obtain ⟨e, rfl⟩ : ∃ e, q = e + 1 := ⟨q - 1, by omega⟩
          have g1 : decide (1 < ((e + 1 : Nat) : Int)) = true := decide_eq_true (by omega)
          have g2 : IntKind.i64.wrap (((e + 1 : Nat) : Int) - 1) = (e : Int) := by rw [i64_in (by omega) (by omega)]; omega
          have g3 := digV_get (e + 1) F e (by omega)
          have g4 : (0 : Int) ≤ (e : Int) := by omega
          have g5 : (e : Int) < ((e + 1 : Nat) : Int) := by omega
          have g6 : (e : Int) ≤ ((e + 1 : Nat) : Int) := by omega
          have g7 := digV_cut e F
          by_cases hd : dg F e = 0
          · have g8 : (((dg F e : Nat) : Int) == 0) = true := by rw [hd]; rfl
            have hFe : F < 65536 ^ e := by
              have h1 := div_step F e
              rw [Nat.div_eq_of_lt hq3, hd] at h1
              exact Nat.lt_of_div_eq_zero (bpow_pos _) (by omega)
            simp -implicitDefEqProofs (maxSteps := 10000000) only [vy_succ, vy_zero, vx_skip, vx_reg0, vx_reg1, vx_ord, xx_done, xx_stop, xx_alt, vx_seq, vx_cond, vx_block, vx_exit, vx_ret, vx_loop, gx_nil, gx_cons, dx_nil, dx_cons, slim, slimOp, gO, gSO, qSO, quietOp, cx_nil, cx_cons, xx_alc, cS, qSB, eK, calmOp, guardS, gK, qK, putK, plK, dOk, St.ev, St.get, St.mem, St.set, St.setm, St.put, lookA, look, newK, nextver, initT, seqE, blockQ, bodyQ, resK, retV, AV.rdv, cells_agg, cells_int, cells_bool, cells_string, cells_slice, cells_uV, agg_uV, isNil_uV, toN_uV, i64_in, IntKind.wrap_u64, IntKind.wrap_u8, IntKind.wrap_u32, ↓binK, ↓intK, unK, ↓loadK, ↓withKey_eq, ↓idxAddrK, ↓indexK, ↓partK, ↓fieldK, ↓fieldAddrK, ↓convK, ↓callK, wrG, updK, ↓lenK, ↓mmK, ↓appK, ↓copyK, ↓sliceK, ↓toArrK, nilK, optK_some, optK_tup, optK_ite, evs, plains, seqParts, capsOf, capsD, List.append_nil, List.nil_append, List.cons_append, AV.dv, AV.cont, isNil_agg, isNil_int, isNil_bool, isNil_string, isNil_nil, isNil_slice, ↓buildV_eq, fillL, placesOf, Option.map_some, Option.map_none, ↓storeK, wrL, RV.av, DV.av, List.set, List.map_cons, List.map_nil, List.length_cons, List.length_nil, List.all_cons, List.all_nil, List.getElem?_cons_zero, List.getElem?_cons_succ, List.getElem?_nil, List.size_toArray, List.getElem?_toArray, List.drop_zero, List.drop_succ_cons, List.take_zero, List.take_succ_cons, Option.getD_some, Option.getD_none, Option.some.injEq, Option.isSome_some, Nat.reduceEqDiff, Nat.reduceAdd, Nat.reduceSub, Nat.reduceMul, Nat.reduceLT, Nat.reduceLeDiff, Nat.reduceMod, Nat.reduceDiv, Int.cast_ofNat_Int, Int.reduceLT, Int.reduceLE, Int.reduceToNat, ↓reduceIte, true_and, and_true, true_or, or_true, or_false, false_or, reduceCtorEq, Bool.false_eq_true, Bool.and_true, Bool.not_true, Bool.not_false, beq_self_eq_true, Bool.true_beq, Bool.false_beq, Value.oneCell', decide_true, decide_false, Int.reduceAdd, Int.reduceSub, Int.reduceMod, Int.reduceMul, Int.reduceNeg, Int.reduceBEq, Int.reduceBNe, Int.reduceTDiv, Int.reduceTMod, ne_eq, not_false_eq_true, not_true_eq_false, Int.reduceEq, Nat.zero_add, Nat.add_zero, Nat.le_refl, tyB, Try.underlying13, Try.underlying25, Try.underlying26, Try.underlying53, Try.underlying54, ltS, lq, g1, g2, g3, g4, g5, g6, g7, g8, Int.toNat_natCast, Nat.sub_zero]
            exact ⟨e, ⟨by omega, by omega, hFe⟩, Nat.lt_succ_self e, Sub.of (by simp -implicitDefEqProofs only [subT, ltS, look, lookA, newK, St.get, St.mem, List.map_cons, List.map_nil, List.all_cons, List.all_nil, List.length_cons, List.length_nil, List.getElem?_cons_zero, List.getElem?_cons_succ, Nat.reduceEqDiff, Nat.reduceAdd, Option.some.injEq, ↓reduceIte, true_and, and_true, reduceCtorEq, beq_self_eq_true, Bool.and_true, ne_eq, not_false_eq_true, not_true_eq_false, Nat.add_zero, Nat.zero_add, Nat.reduceSub, Nat.reduceMul, Int.cast_ofNat_Int, Int.reduceAdd, Int.reduceSub, Int.reduceMul]) trivial rfl⟩
          · have g8 : (((dg F e : Nat) : Int) == 0) = false := by simp; omega
            have hnd : nd F = e + 1 := nd_of ⟨by omega, hq3, .inr (by rw [Nat.add_sub_cancel]; exact hd)⟩
            simp -implicitDefEqProofs (maxSteps := 10000000) only [vy_succ, vy_zero, vx_skip, vx_reg0, vx_reg1, vx_ord, xx_done, xx_stop, xx_alt, vx_seq, vx_cond, vx_block, vx_exit, vx_ret, vx_loop, gx_nil, gx_cons, dx_nil, dx_cons, slim, slimOp, gO, gSO, qSO, quietOp, cx_nil, cx_cons, xx_alc, cS, qSB, eK, calmOp, guardS, gK, qK, putK, plK, dOk, St.ev, St.get, St.mem, St.set, St.setm, St.put, lookA, look, newK, nextver, initT, seqE, blockQ, bodyQ, resK, retV, AV.rdv, cells_agg, cells_int, cells_bool, cells_string, cells_slice, cells_uV, agg_uV, isNil_uV, toN_uV, i64_in, IntKind.wrap_u64, IntKind.wrap_u8, IntKind.wrap_u32, ↓binK, ↓intK, unK, ↓loadK, ↓withKey_eq, ↓idxAddrK, ↓indexK, ↓partK, ↓fieldK, ↓fieldAddrK, ↓convK, ↓callK, wrG, updK, ↓lenK, ↓mmK, ↓appK, ↓copyK, ↓sliceK, ↓toArrK, nilK, optK_some, optK_tup, optK_ite, evs, plains, seqParts, capsOf, capsD, List.append_nil, List.nil_append, List.cons_append, AV.dv, AV.cont, isNil_agg, isNil_int, isNil_bool, isNil_string, isNil_nil, isNil_slice, ↓buildV_eq, fillL, placesOf, Option.map_some, Option.map_none, ↓storeK, wrL, RV.av, DV.av, List.set, List.map_cons, List.map_nil, List.length_cons, List.length_nil, List.all_cons, List.all_nil, List.getElem?_cons_zero, List.getElem?_cons_succ, List.getElem?_nil, List.size_toArray, List.getElem?_toArray, List.drop_zero, List.drop_succ_cons, List.take_zero, List.take_succ_cons, Option.getD_some, Option.getD_none, Option.some.injEq, Option.isSome_some, Nat.reduceEqDiff, Nat.reduceAdd, Nat.reduceSub, Nat.reduceMul, Nat.reduceLT, Nat.reduceLeDiff, Nat.reduceMod, Nat.reduceDiv, Int.cast_ofNat_Int, Int.reduceLT, Int.reduceLE, Int.reduceToNat, ↓reduceIte, true_and, and_true, true_or, or_true, or_false, false_or, reduceCtorEq, Bool.false_eq_true, Bool.and_true, Bool.not_true, Bool.not_false, beq_self_eq_true, Bool.true_beq, Bool.false_beq, Value.oneCell', decide_true, decide_false, Int.reduceAdd, Int.reduceSub, Int.reduceMod, Int.reduceMul, Int.reduceNeg, Int.reduceBEq, Int.reduceBNe, Int.reduceTDiv, Int.reduceTMod, ne_eq, not_false_eq_true, not_true_eq_false, Int.reduceEq, Nat.zero_add, Nat.add_zero, Nat.le_refl, tyB, Try.underlying13, Try.underlying25, Try.underlying26, Try.underlying53, Try.underlying54, ltS, lq, g1, g2, g3, g4, g5, g6, g7, g8, r2, Int.toNat_natCast]
            exact ⟨j, by omega, Nat.lt_succ_self j, Sub.of (by simp -implicitDefEqProofs only [subT, lfS, hF, hnd, look, lookA, newK, St.get, St.mem, List.map_cons, List.map_nil, List.all_cons, List.all_nil, List.length_cons, List.length_nil, List.getElem?_cons_zero, List.getElem?_cons_succ, Nat.reduceEqDiff, Nat.reduceAdd, Option.some.injEq, ↓reduceIte, true_and, and_true, reduceCtorEq, beq_self_eq_true, Bool.and_true, ne_eq, not_false_eq_true, not_true_eq_false, Nat.add_zero, Nat.zero_add, Nat.reduceSub, Nat.reduceMul, Int.cast_ofNat_Int, Int.reduceAdd, Int.reduceSub, Int.reduceMul]) trivial rfl⟩
    | true =>
      simp only [Bool.toNat_false, Bool.toNat_true, Nat.add_zero] at hstep
      have bq : ((((true : Bool).toNat : Nat) : Int) == 1) = true := rfl
      by_cases hlt : R + R + 1 < y
      · have d1 : decide (R + R + 1 < y) = true := decide_eq_true hlt
        rw [if_pos hlt] at hstep
        have hFk : F < 65536 ^ k2 := by rw [hstep]; exact lt2
        have d1F : decide (F < y) = true := by rw [hstep]; exact d1
        have tF : toD (digV k2 F) = some (k2, F) := toD_digV hFk
        simp -implicitDefEqProofs (maxSteps := 10000000) only [vy_succ, vy_zero, vx_skip, vx_reg0, vx_reg1, vx_ord, xx_done, xx_stop, xx_alt, vx_seq, vx_cond, vx_block, vx_exit, vx_ret, vx_loop, gx_nil, gx_cons, dx_nil, dx_cons, slim, slimOp, gO, gSO, qSO, quietOp, cx_nil, cx_cons, xx_alc, cS, qSB, eK, calmOp, guardS, gK, qK, putK, plK, dOk, St.ev, St.get, St.mem, St.set, St.setm, St.put, lookA, look, newK, nextver, initT, seqE, blockQ, bodyQ, resK, retV, AV.rdv, cells_agg, cells_int, cells_bool, cells_string, cells_slice, cells_uV, agg_uV, isNil_uV, toN_uV, i64_in, IntKind.wrap_u64, IntKind.wrap_u8, IntKind.wrap_u32, ↓binK, ↓intK, unK, ↓loadK, ↓withKey_eq, ↓idxAddrK, ↓indexK, ↓partK, ↓fieldK, ↓fieldAddrK, ↓convK, ↓callK, wrG, updK, ↓lenK, ↓mmK, ↓appK, ↓copyK, ↓sliceK, ↓toArrK, nilK, optK_some, optK_tup, optK_ite, evs, plains, seqParts, capsOf, capsD, List.append_nil, List.nil_append, List.cons_append, AV.dv, AV.cont, isNil_agg, isNil_int, isNil_bool, isNil_string, isNil_nil, isNil_slice, ↓buildV_eq, fillL, placesOf, Option.map_some, Option.map_none, ↓storeK, wrL, RV.av, DV.av, List.set, List.map_cons, List.map_nil, List.length_cons, List.length_nil, List.all_cons, List.all_nil, List.getElem?_cons_zero, List.getElem?_cons_succ, List.getElem?_nil, List.size_toArray, List.getElem?_toArray, List.drop_zero, List.drop_succ_cons, List.take_zero, List.take_succ_cons, Option.getD_some, Option.getD_none, Option.some.injEq, Option.isSome_some, Nat.reduceEqDiff, Nat.reduceAdd, Nat.reduceSub, Nat.reduceMul, Nat.reduceLT, Nat.reduceLeDiff, Nat.reduceMod, Nat.reduceDiv, Int.cast_ofNat_Int, Int.reduceLT, Int.reduceLE, Int.reduceToNat, ↓reduceIte, true_and, and_true, true_or, or_true, or_false, false_or, reduceCtorEq, Bool.false_eq_true, Bool.and_true, Bool.not_true, Bool.not_false, beq_self_eq_true, Bool.true_beq, Bool.false_beq, Value.oneCell', decide_true, decide_false, Int.reduceAdd, Int.reduceSub, Int.reduceMod, Int.reduceMul, Int.reduceNeg, Int.reduceBEq, Int.reduceBNe, Int.reduceTDiv, Int.reduceTMod, ne_eq, not_false_eq_true, not_true_eq_false, Int.reduceEq, Nat.zero_add, Nat.add_zero, Nat.le_refl, tyB, Try.underlying13, Try.underlying25, Try.underlying26, Try.underlying53, Try.underlying54, lfS, hX, hK, cast_pred, sumG, lessG, takeG, lx, ty, tR, tR1, tR2, toD_one, hk1, hk2, s1, s2, s3, s4, r0, r3, r4, r5, r6, r7, r8, r9, r10, r11, bq, d1, d1F, tF, Int.toNat_natCast, ← hstep]
        refine VT_loop hΓ follows_mixed (ltS n x m y F j) (fun k => 1 ≤ k ∧ k ≤ k2 ∧ F < 65536 ^ k) (fun k => k) k2 (Sub.of (by simp -implicitDefEqProofs only [subT, ltS, look, lookA, newK, St.get, St.mem, List.map_cons, List.map_nil, List.all_cons, List.all_nil, List.length_cons, List.length_nil, List.getElem?_cons_zero, List.getElem?_cons_succ, Nat.reduceEqDiff, Nat.reduceAdd, Option.some.injEq, ↓reduceIte, true_and, and_true, reduceCtorEq, beq_self_eq_true, Bool.and_true, ne_eq, not_false_eq_true, not_true_eq_false, Nat.add_zero, Nat.zero_add, Nat.reduceSub, Nat.reduceMul, Int.cast_ofNat_Int, Int.reduceAdd, Int.reduceSub, Int.reduceMul]) trivial rfl) ⟨by have := hnp.1; omega, Nat.le_refl _, hFk⟩ ?_
        rintro q ⟨hq1, hq2, hq3⟩
        have lq := digV_len q F
        by_cases hq : q = 1
        · subst hq
          have g1 : decide (1 < ((1 : Nat) : Int)) = false := rfl
          have hnd : nd F = 1 := nd_of ⟨hq1, hq3, .inl rfl⟩
          simp -implicitDefEqProofs (maxSteps := 10000000) only [vy_succ, vy_zero, vx_skip, vx_reg0, vx_reg1, vx_ord, xx_done, xx_stop, xx_alt, vx_seq, vx_cond, vx_block, vx_exit, vx_ret, vx_loop, gx_nil, gx_cons, dx_nil, dx_cons, slim, slimOp, gO, gSO, qSO, quietOp, cx_nil, cx_cons, xx_alc, cS, qSB, eK, calmOp, guardS, gK, qK, putK, plK, dOk, St.ev, St.get, St.mem, St.set, St.setm, St.put, lookA, look, newK, nextver, initT, seqE, blockQ, bodyQ, resK, retV, AV.rdv, cells_agg, cells_int, cells_bool, cells_string, cells_slice, cells_uV, agg_uV, isNil_uV, toN_uV, i64_in, IntKind.wrap_u64, IntKind.wrap_u8, IntKind.wrap_u32, ↓binK, ↓intK, unK, ↓loadK, ↓withKey_eq, ↓idxAddrK, ↓indexK, ↓partK, ↓fieldK, ↓fieldAddrK, ↓convK, ↓callK, wrG, updK, ↓lenK, ↓mmK, ↓appK, ↓copyK, ↓sliceK, ↓toArrK, nilK, optK_some, optK_tup, optK_ite, evs, plains, seqParts, capsOf, capsD, List.append_nil, List.nil_append, List.cons_append, AV.dv, AV.cont, isNil_agg, isNil_int, isNil_bool, isNil_string, isNil_nil, isNil_slice, ↓buildV_eq, fillL, placesOf, Option.map_some, Option.map_none, ↓storeK, wrL, RV.av, DV.av, List.set, List.map_cons, List.map_nil, List.length_cons, List.length_nil, List.all_cons, List.all_nil, List.getElem?_cons_zero, List.getElem?_cons_succ, List.getElem?_nil, List.size_toArray, List.getElem?_toArray, List.drop_zero, List.drop_succ_cons, List.take_zero, List.take_succ_cons, Option.getD_some, Option.getD_none, Option.some.injEq, Option.isSome_some, Nat.reduceEqDiff, Nat.reduceAdd, Nat.reduceSub, Nat.reduceMul, Nat.reduceLT, Nat.reduceLeDiff, Nat.reduceMod, Nat.reduceDiv, Int.cast_ofNat_Int, Int.reduceLT, Int.reduceLE, Int.reduceToNat, ↓reduceIte, true_and, and_true, true_or, or_true, or_false, false_or, reduceCtorEq, Bool.false_eq_true, Bool.and_true, Bool.not_true, Bool.not_false, beq_self_eq_true, Bool.true_beq, Bool.false_beq, Value.oneCell', decide_true, decide_false, Int.reduceAdd, Int.reduceSub, Int.reduceMod, Int.reduceMul, Int.reduceNeg, Int.reduceBEq, Int.reduceBNe, Int.reduceTDiv, Int.reduceTMod, ne_eq, not_false_eq_true, not_true_eq_false, Int.reduceEq, Nat.zero_add, Nat.add_zero, Nat.le_refl, tyB, Try.underlying13, Try.underlying25, Try.underlying26, Try.underlying53, Try.underlying54, ltS, lq, g1, r2]
          exact ⟨j, by omega, Nat.lt_succ_self j, Sub.of (by simp -implicitDefEqProofs only [subT, lfS, hF, hnd, look, lookA, newK, St.get, St.mem, List.map_cons, List.map_nil, List.all_cons, List.all_nil, List.length_cons, List.length_nil, List.getElem?_cons_zero, List.getElem?_cons_succ, Nat.reduceEqDiff, Nat.reduceAdd, Option.some.injEq, ↓reduceIte, true_and, and_true, reduceCtorEq, beq_self_eq_true, Bool.and_true, ne_eq, not_false_eq_true, not_true_eq_false, Nat.add_zero, Nat.zero_add, Nat.reduceSub, Nat.reduceMul, Int.cast_ofNat_Int, Int.reduceAdd, Int.reduceSub, Int.reduceMul]) trivial rfl⟩
        · obtain ⟨e, rfl⟩ : ∃ e, q = e + 1 := ⟨q - 1, by omega⟩
          have g1 : decide (1 < ((e + 1 : Nat) : Int)) = true := decide_eq_true (by omega)
          have g2 : IntKind.i64.wrap (((e + 1 : Nat) : Int) - 1) = (e : Int) := by rw [i64_in (by omega) (by omega)]; omega
          have g3 := digV_get (e + 1) F e (by omega)
          have g4 : (0 : Int) ≤ (e : Int) := by omega
          have g5 : (e : Int) < ((e + 1 : Nat) : Int) := by omega
          have g6 : (e : Int) ≤ ((e + 1 : Nat) : Int) := by omega
          have g7 := digV_cut e F
          by_cases hd : dg F e = 0
          · have g8 : (((dg F e : Nat) : Int) == 0) = true := by rw [hd]; rfl
            have hFe : F < 65536 ^ e := by
              have h1 := div_step F e
              rw [Nat.div_eq_of_lt hq3, hd] at h1
              exact Nat.lt_of_div_eq_zero (bpow_pos _) (by omega)
            simp -implicitDefEqProofs (maxSteps := 10000000) only [vy_succ, vy_zero, vx_skip, vx_reg0, vx_reg1, vx_ord, xx_done, xx_stop, xx_alt, vx_seq, vx_cond, vx_block, vx_exit, vx_ret, vx_loop, gx_nil, gx_cons, dx_nil, dx_cons, slim, slimOp, gO, gSO, qSO, quietOp, cx_nil, cx_cons, xx_alc, cS, qSB, eK, calmOp, guardS, gK, qK, putK, plK, dOk, St.ev, St.get, St.mem, St.set, St.setm, St.put, lookA, look, newK, nextver, initT, seqE, blockQ, bodyQ, resK, retV, AV.rdv, cells_agg, cells_int, cells_bool, cells_string, cells_slice, cells_uV, agg_uV, isNil_uV, toN_uV, i64_in, IntKind.wrap_u64, IntKind.wrap_u8, IntKind.wrap_u32, ↓binK, ↓intK, unK, ↓loadK, ↓withKey_eq, ↓idxAddrK, ↓indexK, ↓partK, ↓fieldK, ↓fieldAddrK, ↓convK, ↓callK, wrG, updK, ↓lenK, ↓mmK, ↓appK, ↓copyK, ↓sliceK, ↓toArrK, nilK, optK_some, optK_tup, optK_ite, evs, plains, seqParts, capsOf, capsD, List.append_nil, List.nil_append, List.cons_append, AV.dv, AV.cont, isNil_agg, isNil_int, isNil_bool, isNil_string, isNil_nil, isNil_slice, ↓buildV_eq, fillL, placesOf, Option.map_some, Option.map_none, ↓storeK, wrL, RV.av, DV.av, List.set, List.map_cons, List.map_nil, List.length_cons, List.length_nil, List.all_cons, List.all_nil, List.getElem?_cons_zero, List.getElem?_cons_succ, List.getElem?_nil, List.size_toArray, List.getElem?_toArray, List.drop_zero, List.drop_succ_cons, List.take_zero, List.take_succ_cons, Option.getD_some, Option.getD_none, Option.some.injEq, Option.isSome_some, Nat.reduceEqDiff, Nat.reduceAdd, Nat.reduceSub, Nat.reduceMul, Nat.reduceLT, Nat.reduceLeDiff, Nat.reduceMod, Nat.reduceDiv, Int.cast_ofNat_Int, Int.reduceLT, Int.reduceLE, Int.reduceToNat, ↓reduceIte, true_and, and_true, true_or, or_true, or_false, false_or, reduceCtorEq, Bool.false_eq_true, Bool.and_true, Bool.not_true, Bool.not_false, beq_self_eq_true, Bool.true_beq, Bool.false_beq, Value.oneCell', decide_true, decide_false, Int.reduceAdd, Int.reduceSub, Int.reduceMod, Int.reduceMul, Int.reduceNeg, Int.reduceBEq, Int.reduceBNe, Int.reduceTDiv, Int.reduceTMod, ne_eq, not_false_eq_true, not_true_eq_false, Int.reduceEq, Nat.zero_add, Nat.add_zero, Nat.le_refl, tyB, Try.underlying13, Try.underlying25, Try.underlying26, Try.underlying53, Try.underlying54, ltS, lq, g1, g2, g3, g4, g5, g6, g7, g8, Int.toNat_natCast, Nat.sub_zero]
            exact ⟨e, ⟨by omega, by omega, hFe⟩, Nat.lt_succ_self e, Sub.of (by simp -implicitDefEqProofs only [subT, ltS, look, lookA, newK, St.get, St.mem, List.map_cons, List.map_nil, List.all_cons, List.all_nil, List.length_cons, List.length_nil, List.getElem?_cons_zero, List.getElem?_cons_succ, Nat.reduceEqDiff, Nat.reduceAdd, Option.some.injEq, ↓reduceIte, true_and, and_true, reduceCtorEq, beq_self_eq_true, Bool.and_true, ne_eq, not_false_eq_true, not_true_eq_false, Nat.add_zero, Nat.zero_add, Nat.reduceSub, Nat.reduceMul, Int.cast_ofNat_Int, Int.reduceAdd, Int.reduceSub, Int.reduceMul]) trivial rfl⟩
          · have g8 : (((dg F e : Nat) : Int) == 0) = false := by simp; omega
            have hnd : nd F = e + 1 := nd_of ⟨by omega, hq3, .inr (by rw [Nat.add_sub_cancel]; exact hd)⟩
            simp -implicitDefEqProofs (maxSteps := 10000000) only [vy_succ, vy_zero, vx_skip, vx_reg0, vx_reg1, vx_ord, xx_done, xx_stop, xx_alt, vx_seq, vx_cond, vx_block, vx_exit, vx_ret, vx_loop, gx_nil, gx_cons, dx_nil, dx_cons, slim, slimOp, gO, gSO, qSO, quietOp, cx_nil, cx_cons, xx_alc, cS, qSB, eK, calmOp, guardS, gK, qK, putK, plK, dOk, St.ev, St.get, St.mem, St.set, St.setm, St.put, lookA, look, newK, nextver, initT, seqE, blockQ, bodyQ, resK, retV, AV.rdv, cells_agg, cells_int, cells_bool, cells_string, cells_slice, cells_uV, agg_uV, isNil_uV, toN_uV, i64_in, IntKind.wrap_u64, IntKind.wrap_u8, IntKind.wrap_u32, ↓binK, ↓intK, unK, ↓loadK, ↓withKey_eq, ↓idxAddrK, ↓indexK, ↓partK, ↓fieldK, ↓fieldAddrK, ↓convK, ↓callK, wrG, updK, ↓lenK, ↓mmK, ↓appK, ↓copyK, ↓sliceK, ↓toArrK, nilK, optK_some, optK_tup, optK_ite, evs, plains, seqParts, capsOf, capsD, List.append_nil, List.nil_append, List.cons_append, AV.dv, AV.cont, isNil_agg, isNil_int, isNil_bool, isNil_string, isNil_nil, isNil_slice, ↓buildV_eq, fillL, placesOf, Option.map_some, Option.map_none, ↓storeK, wrL, RV.av, DV.av, List.set, List.map_cons, List.map_nil, List.length_cons, List.length_nil, List.all_cons, List.all_nil, List.getElem?_cons_zero, List.getElem?_cons_succ, List.getElem?_nil, List.size_toArray, List.getElem?_toArray, List.drop_zero, List.drop_succ_cons, List.take_zero, List.take_succ_cons, Option.getD_some, Option.getD_none, Option.some.injEq, Option.isSome_some, Nat.reduceEqDiff, Nat.reduceAdd, Nat.reduceSub, Nat.reduceMul, Nat.reduceLT, Nat.reduceLeDiff, Nat.reduceMod, Nat.reduceDiv, Int.cast_ofNat_Int, Int.reduceLT, Int.reduceLE, Int.reduceToNat, ↓reduceIte, true_and, and_true, true_or, or_true, or_false, false_or, reduceCtorEq, Bool.false_eq_true, Bool.and_true, Bool.not_true, Bool.not_false, beq_self_eq_true, Bool.true_beq, Bool.false_beq, Value.oneCell', decide_true, decide_false, Int.reduceAdd, Int.reduceSub, Int.reduceMod, Int.reduceMul, Int.reduceNeg, Int.reduceBEq, Int.reduceBNe, Int.reduceTDiv, Int.reduceTMod, ne_eq, not_false_eq_true, not_true_eq_false, Int.reduceEq, Nat.zero_add, Nat.add_zero, Nat.le_refl, tyB, Try.underlying13, Try.underlying25, Try.underlying26, Try.underlying53, Try.underlying54, ltS, lq, g1, g2, g3, g4, g5, g6, g7, g8, r2, Int.toNat_natCast]
            exact ⟨j, by omega, Nat.lt_succ_self j, Sub.of (by simp -implicitDefEqProofs only [subT, lfS, hF, hnd, look, lookA, newK, St.get, St.mem, List.map_cons, List.map_nil, List.all_cons, List.all_nil, List.length_cons, List.length_nil, List.getElem?_cons_zero, List.getElem?_cons_succ, Nat.reduceEqDiff, Nat.reduceAdd, Option.some.injEq, ↓reduceIte, true_and, and_true, reduceCtorEq, beq_self_eq_true, Bool.and_true, ne_eq, not_false_eq_true, not_true_eq_false, Nat.add_zero, Nat.zero_add, Nat.reduceSub, Nat.reduceMul, Int.cast_ofNat_Int, Int.reduceAdd, Int.reduceSub, Int.reduceMul]) trivial rfl⟩
      · have d1 : decide (R + R + 1 < y) = false := decide_eq_false hlt
        rw [if_neg hlt] at hstep
        have hFk : F < 65536 ^ k2 := by have := lt2; omega
        have s5 : (y ≤ R + R + 1) = True := eq_true (by omega)
        simp -implicitDefEqProofs (maxSteps := 10000000) only [vy_succ, vy_zero, vx_skip, vx_reg0, vx_reg1, vx_ord, xx_done, xx_stop, xx_alt, vx_seq, vx_cond, vx_block, vx_exit, vx_ret, vx_loop, gx_nil, gx_cons, dx_nil, dx_cons, slim, slimOp, gO, gSO, qSO, quietOp, cx_nil, cx_cons, xx_alc, cS, qSB, eK, calmOp, guardS, gK, qK, putK, plK, dOk, St.ev, St.get, St.mem, St.set, St.setm, St.put, lookA, look, newK, nextver, initT, seqE, blockQ, bodyQ, resK, retV, AV.rdv, cells_agg, cells_int, cells_bool, cells_string, cells_slice, cells_uV, agg_uV, isNil_uV, toN_uV, i64_in, IntKind.wrap_u64, IntKind.wrap_u8, IntKind.wrap_u32, ↓binK, ↓intK, unK, ↓loadK, ↓withKey_eq, ↓idxAddrK, ↓indexK, ↓partK, ↓fieldK, ↓fieldAddrK, ↓convK, ↓callK, wrG, updK, ↓lenK, ↓mmK, ↓appK, ↓copyK, ↓sliceK, ↓toArrK, nilK, optK_some, optK_tup, optK_ite, evs, plains, seqParts, capsOf, capsD, List.append_nil, List.nil_append, List.cons_append, AV.dv, AV.cont, isNil_agg, isNil_int, isNil_bool, isNil_string, isNil_nil, isNil_slice, ↓buildV_eq, fillL, placesOf, Option.map_some, Option.map_none, ↓storeK, wrL, RV.av, DV.av, List.set, List.map_cons, List.map_nil, List.length_cons, List.length_nil, List.all_cons, List.all_nil, List.getElem?_cons_zero, List.getElem?_cons_succ, List.getElem?_nil, List.size_toArray, List.getElem?_toArray, List.drop_zero, List.drop_succ_cons, List.take_zero, List.take_succ_cons, Option.getD_some, Option.getD_none, Option.some.injEq, Option.isSome_some, Nat.reduceEqDiff, Nat.reduceAdd, Nat.reduceSub, Nat.reduceMul, Nat.reduceLT, Nat.reduceLeDiff, Nat.reduceMod, Nat.reduceDiv, Int.cast_ofNat_Int, Int.reduceLT, Int.reduceLE, Int.reduceToNat, ↓reduceIte, true_and, and_true, true_or, or_true, or_false, false_or, reduceCtorEq, Bool.false_eq_true, Bool.and_true, Bool.not_true, Bool.not_false, beq_self_eq_true, Bool.true_beq, Bool.false_beq, Value.oneCell', decide_true, decide_false, Int.reduceAdd, Int.reduceSub, Int.reduceMod, Int.reduceMul, Int.reduceNeg, Int.reduceBEq, Int.reduceBNe, Int.reduceTDiv, Int.reduceTMod, ne_eq, not_false_eq_true, not_true_eq_false, Int.reduceEq, Nat.zero_add, Nat.add_zero, Nat.le_refl, tyB, Try.underlying13, Try.underlying25, Try.underlying26, Try.underlying53, Try.underlying54, lfS, hX, hK, cast_pred, sumG, lessG, takeG, lx, ty, tR, tR1, tR2, toD_one, hk1, hk2, s1, s2, s3, s4, s5, r0, r3, r4, r5, r6, r7, r8, r9, r10, r11, bq, d1, Int.toNat_natCast, ← hstep]
        refine VT_loop hΓ follows_mixed (ltS n x m y F j) (fun k => 1 ≤ k ∧ k ≤ k2 ∧ F < 65536 ^ k) (fun k => k) k2 (Sub.of (by simp -implicitDefEqProofs only [subT, ltS, look, lookA, newK, St.get, St.mem, List.map_cons, List.map_nil, List.all_cons, List.all_nil, List.length_cons, List.length_nil, List.getElem?_cons_zero, List.getElem?_cons_succ, Nat.reduceEqDiff, Nat.reduceAdd, Option.some.injEq, ↓reduceIte, true_and, and_true, reduceCtorEq, beq_self_eq_true, Bool.and_true, ne_eq, not_false_eq_true, not_true_eq_false, Nat.add_zero, Nat.zero_add, Nat.reduceSub, Nat.reduceMul, Int.cast_ofNat_Int, Int.reduceAdd, Int.reduceSub, Int.reduceMul]) trivial rfl) ⟨by have := hnp.1; omega, Nat.le_refl _, hFk⟩ ?_
        rintro q ⟨hq1, hq2, hq3⟩
        have lq := digV_len q F
        by_cases hq : q = 1
        · subst hq
          have g1 : decide (1 < ((1 : Nat) : Int)) = false := rfl
          have hnd : nd F = 1 := nd_of ⟨hq1, hq3, .inl rfl⟩
          simp -implicitDefEqProofs (maxSteps := 10000000) only [vy_succ, vy_zero, vx_skip, vx_reg0, vx_reg1, vx_ord, xx_done, xx_stop, xx_alt, vx_seq, vx_cond, vx_block, vx_exit, vx_ret, vx_loop, gx_nil, gx_cons, dx_nil, dx_cons, slim, slimOp, gO, gSO, qSO, quietOp, cx_nil, cx_cons, xx_alc, cS, qSB, eK, calmOp, guardS, gK, qK, putK, plK, dOk, St.ev, St.get, St.mem, St.set, St.setm, St.put, lookA, look, newK, nextver, initT, seqE, blockQ, bodyQ, resK, retV, AV.rdv, cells_agg, cells_int, cells_bool, cells_string, cells_slice, cells_uV, agg_uV, isNil_uV, toN_uV, i64_in, IntKind.wrap_u64, IntKind.wrap_u8, IntKind.wrap_u32, ↓binK, ↓intK, unK, ↓loadK, ↓withKey_eq, ↓idxAddrK, ↓indexK, ↓partK, ↓fieldK, ↓fieldAddrK, ↓convK, ↓callK, wrG, updK, ↓lenK, ↓mmK, ↓appK, ↓copyK, ↓sliceK, ↓toArrK, nilK, optK_some, optK_tup, optK_ite, evs, plains, seqParts, capsOf, capsD, List.append_nil, List.nil_append, List.cons_append, AV.dv, AV.cont, isNil_agg, isNil_int, isNil_bool, isNil_string, isNil_nil, isNil_slice, ↓buildV_eq, fillL, placesOf, Option.map_some, Option.map_none, ↓storeK, wrL, RV.av, DV.av, List.set, List.map_cons, List.map_nil, List.length_cons, List.length_nil, List.all_cons, List.all_nil, List.getElem?_cons_zero, List.getElem?_cons_succ, List.getElem?_nil, List.size_toArray, List.getElem?_toArray, List.drop_zero, List.drop_succ_cons, List.take_zero, List.take_succ_cons, Option.getD_some, Option.getD_none, Option.some.injEq, Option.isSome_some, Nat.reduceEqDiff, Nat.reduceAdd, Nat.reduceSub, Nat.reduceMul, Nat.reduceLT, Nat.reduceLeDiff, Nat.reduceMod, Nat.reduceDiv, Int.cast_ofNat_Int, Int.reduceLT, Int.reduceLE, Int.reduceToNat, ↓reduceIte, true_and, and_true, true_or, or_true, or_false, false_or, reduceCtorEq, Bool.false_eq_true, Bool.and_true, Bool.not_true, Bool.not_false, beq_self_eq_true, Bool.true_beq, Bool.false_beq, Value.oneCell', decide_true, decide_false, Int.reduceAdd, Int.reduceSub, Int.reduceMod, Int.reduceMul, Int.reduceNeg, Int.reduceBEq, Int.reduceBNe, Int.reduceTDiv, Int.reduceTMod, ne_eq, not_false_eq_true, not_true_eq_false, Int.reduceEq, Nat.zero_add, Nat.add_zero, Nat.le_refl, tyB, Try.underlying13, Try.underlying25, Try.underlying26, Try.underlying53, Try.underlying54, ltS, lq, g1, r2]
          exact ⟨j, by omega, Nat.lt_succ_self j, Sub.of (by simp -implicitDefEqProofs only [subT, lfS, hF, hnd, look, lookA, newK, St.get, St.mem, List.map_cons, List.map_nil, List.all_cons, List.all_nil, List.length_cons, List.length_nil, List.getElem?_cons_zero, List.getElem?_cons_succ, Nat.reduceEqDiff, Nat.reduceAdd, Option.some.injEq, ↓reduceIte, true_and, and_true, reduceCtorEq, beq_self_eq_true, Bool.and_true, ne_eq, not_false_eq_true, not_true_eq_false, Nat.add_zero, Nat.zero_add, Nat.reduceSub, Nat.reduceMul, Int.cast_ofNat_Int, Int.reduceAdd, Int.reduceSub, Int.reduceMul]) trivial rfl⟩
        · obtain ⟨e, rfl⟩ : ∃ e, q = e + 1 := ⟨q - 1, by omega⟩
          have g1 : decide (1 < ((e + 1 : Nat) : Int)) = true := decide_eq_true (by omega)
          have g2 : IntKind.i64.wrap (((e + 1 : Nat) : Int) - 1) = (e : Int) := by rw [i64_in (by omega) (by omega)]; omega
          have g3 := digV_get (e + 1) F e (by omega)
          have g4 : (0 : Int) ≤ (e : Int) := by omega
          have g5 : (e : Int) < ((e + 1 : Nat) : Int) := by omega
          have g6 : (e : Int) ≤ ((e + 1 : Nat) : Int) := by omega
          have g7 := digV_cut e F
          by_cases hd : dg F e = 0
          · have g8 : (((dg F e : Nat) : Int) == 0) = true := by rw [hd]; rfl
            have hFe : F < 65536 ^ e := by
              have h1 := div_step F e
              rw [Nat.div_eq_of_lt hq3, hd] at h1
              exact Nat.lt_of_div_eq_zero (bpow_pos _) (by omega)
            simp -implicitDefEqProofs (maxSteps := 10000000) only [vy_succ, vy_zero, vx_skip, vx_reg0, vx_reg1, vx_ord, xx_done, xx_stop, xx_alt, vx_seq, vx_cond, vx_block, vx_exit, vx_ret, vx_loop, gx_nil, gx_cons, dx_nil, dx_cons, slim, slimOp, gO, gSO, qSO, quietOp, cx_nil, cx_cons, xx_alc, cS, qSB, eK, calmOp, guardS, gK, qK, putK, plK, dOk, St.ev, St.get, St.mem, St.set, St.setm, St.put, lookA, look, newK, nextver, initT, seqE, blockQ, bodyQ, resK, retV, AV.rdv, cells_agg, cells_int, cells_bool, cells_string, cells_slice, cells_uV, agg_uV, isNil_uV, toN_uV, i64_in, IntKind.wrap_u64, IntKind.wrap_u8, IntKind.wrap_u32, ↓binK, ↓intK, unK, ↓loadK, ↓withKey_eq, ↓idxAddrK, ↓indexK, ↓partK, ↓fieldK, ↓fieldAddrK, ↓convK, ↓callK, wrG, updK, ↓lenK, ↓mmK, ↓appK, ↓copyK, ↓sliceK, ↓toArrK, nilK, optK_some, optK_tup, optK_ite, evs, plains, seqParts, capsOf, capsD, List.append_nil, List.nil_append, List.cons_append, AV.dv, AV.cont, isNil_agg, isNil_int, isNil_bool, isNil_string, isNil_nil, isNil_slice, ↓buildV_eq, fillL, placesOf, Option.map_some, Option.map_none, ↓storeK, wrL, RV.av, DV.av, List.set, List.map_cons, List.map_nil, List.length_cons, List.length_nil, List.all_cons, List.all_nil, List.getElem?_cons_zero, List.getElem?_cons_succ, List.getElem?_nil, List.size_toArray, List.getElem?_toArray, List.drop_zero, List.drop_succ_cons, List.take_zero, List.take_succ_cons, Option.getD_some, Option.getD_none, Option.some.injEq, Option.isSome_some, Nat.reduceEqDiff, Nat.reduceAdd, Nat.reduceSub, Nat.reduceMul, Nat.reduceLT, Nat.reduceLeDiff, Nat.reduceMod, Nat.reduceDiv, Int.cast_ofNat_Int, Int.reduceLT, Int.reduceLE, Int.reduceToNat, ↓reduceIte, true_and, and_true, true_or, or_true, or_false, false_or, reduceCtorEq, Bool.false_eq_true, Bool.and_true, Bool.not_true, Bool.not_false, beq_self_eq_true, Bool.true_beq, Bool.false_beq, Value.oneCell', decide_true, decide_false, Int.reduceAdd, Int.reduceSub, Int.reduceMod, Int.reduceMul, Int.reduceNeg, Int.reduceBEq, Int.reduceBNe, Int.reduceTDiv, Int.reduceTMod, ne_eq, not_false_eq_true, not_true_eq_false, Int.reduceEq, Nat.zero_add, Nat.add_zero, Nat.le_refl, tyB, Try.underlying13, Try.underlying25, Try.underlying26, Try.underlying53, Try.underlying54, ltS, lq, g1, g2, g3, g4, g5, g6, g7, g8, Int.toNat_natCast, Nat.sub_zero]
            exact ⟨e, ⟨by omega, by omega, hFe⟩, Nat.lt_succ_self e, Sub.of (by simp -implicitDefEqProofs only [subT, ltS, look, lookA, newK, St.get, St.mem, List.map_cons, List.map_nil, List.all_cons, List.all_nil, List.length_cons, List.length_nil, List.getElem?_cons_zero, List.getElem?_cons_succ, Nat.reduceEqDiff, Nat.reduceAdd, Option.some.injEq, ↓reduceIte, true_and, and_true, reduceCtorEq, beq_self_eq_true, Bool.and_true, ne_eq, not_false_eq_true, not_true_eq_false, Nat.add_zero, Nat.zero_add, Nat.reduceSub, Nat.reduceMul, Int.cast_ofNat_Int, Int.reduceAdd, Int.reduceSub, Int.reduceMul]) trivial rfl⟩
          · have g8 : (((dg F e : Nat) : Int) == 0) = false := by simp; omega
            have hnd : nd F = e + 1 := nd_of ⟨by omega, hq3, .inr (by rw [Nat.add_sub_cancel]; exact hd)⟩
            simp -implicitDefEqProofs (maxSteps := 10000000) only [vy_succ, vy_zero, vx_skip, vx_reg0, vx_reg1, vx_ord, xx_done, xx_stop, xx_alt, vx_seq, vx_cond, vx_block, vx_exit, vx_ret, vx_loop, gx_nil, gx_cons, dx_nil, dx_cons, slim, slimOp, gO, gSO, qSO, quietOp, cx_nil, cx_cons, xx_alc, cS, qSB, eK, calmOp, guardS, gK, qK, putK, plK, dOk, St.ev, St.get, St.mem, St.set, St.setm, St.put, lookA, look, newK, nextver, initT, seqE, blockQ, bodyQ, resK, retV, AV.rdv, cells_agg, cells_int, cells_bool, cells_string, cells_slice, cells_uV, agg_uV, isNil_uV, toN_uV, i64_in, IntKind.wrap_u64, IntKind.wrap_u8, IntKind.wrap_u32, ↓binK, ↓intK, unK, ↓loadK, ↓withKey_eq, ↓idxAddrK, ↓indexK, ↓partK, ↓fieldK, ↓fieldAddrK, ↓convK, ↓callK, wrG, updK, ↓lenK, ↓mmK, ↓appK, ↓copyK, ↓sliceK, ↓toArrK, nilK, optK_some, optK_tup, optK_ite, evs, plains, seqParts, capsOf, capsD, List.append_nil, List.nil_append, List.cons_append, AV.dv, AV.cont, isNil_agg, isNil_int, isNil_bool, isNil_string, isNil_nil, isNil_slice, ↓buildV_eq, fillL, placesOf, Option.map_some, Option.map_none, ↓storeK, wrL, RV.av, DV.av, List.set, List.map_cons, List.map_nil, List.length_cons, List.length_nil, List.all_cons, List.all_nil, List.getElem?_cons_zero, List.getElem?_cons_succ, List.getElem?_nil, List.size_toArray, List.getElem?_toArray, List.drop_zero, List.drop_succ_cons, List.take_zero, List.take_succ_cons, Option.getD_some, Option.getD_none, Option.some.injEq, Option.isSome_some, Nat.reduceEqDiff, Nat.reduceAdd, Nat.reduceSub, Nat.reduceMul, Nat.reduceLT, Nat.reduceLeDiff, Nat.reduceMod, Nat.reduceDiv, Int.cast_ofNat_Int, Int.reduceLT, Int.reduceLE, Int.reduceToNat, ↓reduceIte, true_and, and_true, true_or, or_true, or_false, false_or, reduceCtorEq, Bool.false_eq_true, Bool.and_true, Bool.not_true, Bool.not_false, beq_self_eq_true, Bool.true_beq, Bool.false_beq, Value.oneCell', decide_true, decide_false, Int.reduceAdd, Int.reduceSub, Int.reduceMod, Int.reduceMul, Int.reduceNeg, Int.reduceBEq, Int.reduceBNe, Int.reduceTDiv, Int.reduceTMod, ne_eq, not_false_eq_true, not_true_eq_false, Int.reduceEq, Nat.zero_add, Nat.add_zero, Nat.le_refl, tyB, Try.underlying13, Try.underlying25, Try.underlying26, Try.underlying53, Try.underlying54, ltS, lq, g1, g2, g3, g4, g5, g6, g7, g8, r2, Int.toNat_natCast]
            exact ⟨j, by omega, Nat.lt_succ_self j, Sub.of (by simp -implicitDefEqProofs only [subT, lfS, hF, hnd, look, lookA, newK, St.get, St.mem, List.map_cons, List.map_nil, List.all_cons, List.all_nil, List.length_cons, List.length_nil, List.getElem?_cons_zero, List.getElem?_cons_succ, Nat.reduceEqDiff, Nat.reduceAdd, Option.some.injEq, ↓reduceIte, true_and, and_true, reduceCtorEq, beq_self_eq_true, Bool.and_true, ne_eq, not_false_eq_true, not_true_eq_false, Nat.add_zero, Nat.zero_add, Nat.reduceSub, Nat.reduceMul, Int.cast_ofNat_Int, Int.reduceAdd, Int.reduceSub, Int.reduceMul]) trivial rfl⟩

theorem left_ok : ∀ ds r, leftG ds = some r → Spec Try.prog 72 ds r := by
  intro ds r h
  unfold leftG at h
  split at h
  case h_2 => cases h
  rename_i xs ys
  split at h
  case h_2 => cases h
  rename_i n x m y hx hy
  split at h
  case isFalse => cases h
  rename_i hb
  cases h
  obtain ⟨rfl, hx'⟩ := toD_out hx
  obtain ⟨rfl, hy'⟩ := toD_out hy
  exact left_walk n x m y hx' hy' hb.1 hb.2
end Go.Vm
