/- Texts of the proof, laid together: Lf, Lefts, Fr, Pf. No condition. -/
import Derived.Test.YtphocbfdakjmaaaPart6
import Derived.Test.YtphocbfdakjmaaaPart4
/- Contract on numbers in digits: Left. No condition. -/
set_option maxRecDepth 100000
set_option linter.unusedSimpArgs false
set_option linter.unusedVariables false
namespace Go.Vm
open Go Go.RowKit Go.Proofs

/-! ### A slice over a variable's block that is led to by nothing else is a list of values -/
theorem Rel.toVec {n : Nat} {w0 w : World} {ρ : Nat → Option Nat} {st : St} {t' : List (Nat × AV)} {m' : List (Nat × Blk)} {a : Act} (h : Rel n w0 ρ st.get st.mem a w) (j : Nat) (fr : Bool) (xs : List Value)
    (hs : Sub st ⟨t', m'⟩) {k off len : Nat} {blk : Blk} (h1 : st.get j = .sl k blk.ver off len) (h2 : st.mem k = some blk) (h3 : off + len ≤ blk.cells.length) (h4 : xs = (blk.cells.drop off).take len) (h5 : look m' k = none) :
    Rel n w0 (fun k => if (look m' k).isSome then ρ k else none) (St.get ⟨(j, .vec fr xs) :: t', m'⟩) (St.mem ⟨(j, .vec fr xs) :: t', m'⟩) a w := by
  have hr := h.sub hs
  refine ⟨hr.defers, hr.size, hr.below, hr.keys, fun i => ?_⟩
  by_cases e : j = i
  · subst e
    have e1 : St.get ⟨(j, .vec fr xs) :: t', m'⟩ j = .vec fr xs := by simp [St.get, lookA]
    rw [e1]
    have hj := h.tmps j
    rw [h1] at hj
    obtain ⟨blk', hm', _, hp⟩ := hj
    rw [h2] at hm'; cases hm'
    have hsl := hp rfl
    have hv := SlAt.vec h.keys h2 hsl h3
    rw [← h4] at hv
    rcases hv with hv | ⟨b, o, cap, c, e', fz, hv, hc, hg, h6⟩
    · exact .inl hv
    · refine .inr ⟨b, o, cap, c, e', fz, hv, hc, ⟨fun _ => hg, fun k' hk' => ?_⟩, h6⟩
      simp only at hk'
      split at hk'
      · rename_i hsome
        rcases hsl with ⟨_, _, _, hnil⟩ | ⟨b', cap', c', e'', fz', hb', hv', _⟩
        · rw [hnil] at hv; cases hv
        · rw [hv'] at hv
          simp only [Value.slice.injEq, Option.some.injEq, Addr.mk.injEq] at hv
          have hbb : b' = b := hv.1.1
          rw [hbb] at hb'
          have := h.keys.inj k k' b hb' hk'
          subst this
          rw [h5] at hsome
          cases hsome
      · cases hk'
  · have e1 : St.get ⟨(j, .vec fr xs) :: t', m'⟩ i = St.get ⟨t', m'⟩ i := by simp [St.get, lookA, e]
    rw [e1]
    exact hr.tmps i

theorem VT_toVec {P : Program} {n : Nat} {W : World} {c : SC} {Q : Exit → St → Prop} {st : St} (j : Nat) (fr : Bool) (xs : List Value) (t' : List (Nat × AV)) (m' : List (Nat × Blk))
    (hs : Sub st ⟨t', m'⟩) {k off len : Nat} {blk : Blk} (h1 : st.get j = .sl k blk.ver off len) (h2 : st.mem k = some blk) (h3 : off + len ≤ blk.cells.length) (h4 : xs = (blk.cells.drop off).take len) (h5 : look m' k = none)
    (h : VT P n W c Q ⟨(j, .vec fr xs) :: t', m'⟩) : VT P n W c Q st := by
  rw [VT_eq] at *
  intro T c0 hc0 hd ρ a w hr
  exact h T c0 hc0 hd _ a w (hr.toVec j fr xs hs h1 h2 h3 h4 h5)

/-! ### Plain laws -/
def ndP (r k : Nat) : Prop := 1 ≤ k ∧ r < 65536 ^ k ∧ (k = 1 ∨ dg r (k - 1) ≠ 0)
theorem ndP_uniq {r k k' : Nat} (h : ndP r k) (h' : ndP r k') : k = k' := by
  rcases Nat.lt_trichotomy k k' with hl | hl | hl
  · exfalso
    rcases h'.2.2 with e | e
    · have := h.1; omega
    · exact e (dg_big h.2.1 (by omega))
  · exact hl
  · exfalso
    rcases h.2.2 with e | e
    · have := h'.1; omega
    · exact e (dg_big h'.2.1 (by omega))
noncomputable def nd (r : Nat) : Nat :=
  open Classical in
  if h : ∃ k, ndP r k then h.choose else 0
theorem nd_of {r k : Nat} (h : ndP r k) : nd r = k := by
  unfold nd
  have hx : ∃ k, ndP r k := ⟨k, h⟩
  rw [dif_pos hx]
  exact ndP_uniq hx.choose_spec h
theorem nd_ex (r : Nat) : ∀ k, 1 ≤ k → r < 65536 ^ k → ∃ k', k' ≤ k ∧ ndP r k'
  | 0, h, _ => by omega
  | 1, h, hr => ⟨1, Nat.le_refl _, Nat.le_refl _, hr, .inl rfl⟩
  | k + 2, h, hr => by
    by_cases hd : dg r (k + 1) = 0
    · have : r < 65536 ^ (k + 1) := by
        have h1 := div_step r (k + 1)
        rw [Nat.div_eq_of_lt hr, hd] at h1
        exact Nat.lt_of_div_eq_zero (bpow_pos _) (by omega)
      obtain ⟨k', h2, h3⟩ := nd_ex r (k + 1) (by omega) this
      exact ⟨k', by omega, h3⟩
    · exact ⟨k + 2, Nat.le_refl _, by omega, hr, .inr hd⟩
theorem nd_spec {r m : Nat} (h : r < 65536 ^ m) : ndP r (nd r) ∧ nd r ≤ m + 1 := by
  obtain ⟨k, h1, h2⟩ := nd_ex r (m + 1) (by omega) (Nat.lt_of_lt_of_le h (pow_mono (by omega)))
  rw [nd_of h2]
  exact ⟨h2, h1⟩
theorem nd_0 : nd 0 = 1 := nd_of ⟨Nat.le_refl _, bpow_pos 1, .inl rfl⟩
theorem digV_cut (k r : Nat) : (digV (k + 1) r).take k = digV k r := by
  rw [digV_snoc, List.take_append_of_le_length (by rw [digV_len]; omega), List.take_of_length_le (by rw [digV_len]; omega)]
theorem dg_bit (x j : Nat) : dg x (j / 16) / 2 ^ (j % 16) % 2 = (x.testBit j).toNat := by
  rw [dg_eq, Nat.testBit_eq_decide_div_mod_eq]
  have h16 : (65536 : Nat) = 2 ^ 16 := rfl
  have e1 : 65536 ^ (j / 16) = 2 ^ (16 * (j / 16)) := by rw [h16, ← Nat.pow_mul]
  have e2 : x / 2 ^ j = x / 65536 ^ (j / 16) / 2 ^ (j % 16) := by
    rw [Nat.div_div_eq_div_mul, e1, ← Nat.pow_add]; congr 2; omega
  rw [e2]
  generalize x / 65536 ^ (j / 16) = y
  have hr : j % 16 < 16 := Nat.mod_lt _ (by omega)
  generalize j % 16 = r at *
  have e3 : y % 65536 / 2 ^ r % 2 = y / 2 ^ r % 2 := by
    have h1 : y % 65536 / 2 ^ r % 2 = y % 65536 % 2 ^ (r + 1) / 2 ^ r := by
      rw [Nat.pow_succ, Nat.mod_mul_right_div_self]
    have h2 : y / 2 ^ r % 2 = y % 2 ^ (r + 1) / 2 ^ r := by
      rw [Nat.pow_succ, Nat.mod_mul_right_div_self]
    rw [h1, h2, Nat.mod_mod_of_dvd]
    rw [h16]
    exact Nat.pow_dvd_pow 2 (by omega)
  rw [e3]
  rcases Nat.mod_two_eq_zero_or_one (y / 2 ^ r) with h | h <;> rw [h] <;> rfl

/-! ### The walk of Left -/
noncomputable def leftG : List DV → Option RV
  | [.vec xs, .vec ys] => match toD xs, toD ys with
    | some (n, x), some (m, y) => if n + m ≤ 400 ∧ 0 < y then some (.one (.vec (digV (nd (x % y)) (x % y)))) else none
    | _, _ => none
  | _ => none
noncomputable def lfS (n x m y t : Nat) : St := ⟨[(5, .vec true (digV (nd (mAt x y t)) (mAt x y t))), (6, .pl (.int .i64 ((t : Int) - 1))), (0, .vec false (digV n x)), (1, .vec false (digV m y))], []⟩
noncomputable def ltS (n x m y r j k : Nat) : St := ⟨[(5, .vec true (digV k r)), (6, .pl (.int .i64 (j : Nat))), (0, .vec false (digV n x)), (1, .vec false (digV m y))], []⟩
theorem toD_one : toD [.int .i64 1] = some (1, 1) := by
  have h : digV 1 1 = [.int .i64 1] := by rw [digV_eq]; simp [List.range, List.range.loop, dg_eq]
  rw [← h]
  exact toD_digV (by omega)
theorem digV_10 : digV 1 0 = [.int .i64 0] := by rw [digV_eq]; simp [List.range, List.range.loop, dg_eq]
theorem shr_min_i (x n : Nat) (h : n ≤ 64) : (x : Int).fdiv (2 ^ (min ((n : Int).toNat) IntKind.i64.bits)) = ((x / 2 ^ n : Nat) : Int) := by
  have e : min ((n : Int).toNat) IntKind.i64.bits = n := by
    have : IntKind.i64.bits = 64 := rfl
    omega
  rw [e, Int.fdiv_eq_ediv_of_nonneg _ (by exact Int.le_of_lt (Int.pow_pos (by omega)))]
  simp

set_option maxHeartbeats 8000000 in
theorem left_walk (n x m y : Nat) (hx : x < 65536 ^ n) (hy : y < 65536 ^ m) (hb : n + m ≤ 400) (h0 : 0 < y) : Spec Try.prog 87 [.vec (digV n x), .vec (digV m y)] (.one (.vec (digV (nd (x % y)) (x % y)))) := by
  have hΓ : Env.ok [(63, sumG), (37, lessG), (64, takeG)] Try.prog := ok_cons sum_ok (ok_cons less_ok (ok_cons take_ok (ok_nil _)))
  have lx := digV_len n x
  have ty := toD_digV hy
  have w1 : IntKind.i64.wrap (16 * (n : Int)) = ((16 * n : Nat) : Int) := by rw [i64_in (by omega) (by omega)]; omega
  have w2 : IntKind.i64.wrap (((16 * n : Nat) : Int) - 1) = ((16 * n : Nat) : Int) - 1 := i64_in (by omega) (by omega)
  have htop : mAt x y (16 * n) = 0 := by
    have e : (2 : Nat) ^ (16 * n) = 65536 ^ n := by rw [show (65536 : Nat) = 2 ^ 16 from rfl, ← Nat.pow_mul]
    rw [mAt_eq, e, Nat.div_eq_of_lt hx, Nat.zero_mod]
  have htop2 : digV (nd (mAt x y (16 * n))) (mAt x y (16 * n)) = [.int .i64 0] := by rw [htop, nd_0, digV_10]
  refine Spec.of_vx hΓ follows_mixed Try.func87 rfl (by kernel_rfl) (T := []) (by simp [Try.ntmps87]) (by kernel_rfl) rfl Try.ntmps87 (res := [.tmp 4]) rfl ?_
  intro W
  simp -implicitDefEqProofs (maxSteps := 10000000) only [vy_succ, vmB, slim, slimOp, gO, gSO, qSO, quietOp, cS, qSB, eK, calmOp, guardS, gK, qK, putK, plK, dOk, St.ev, St.get, St.mem, St.set, St.setm, St.put, lookA, look, newK, nextver, initT, seqE, blockQ, bodyQ, resK, retV, AV.rdv, agg_uV, ↓binK, ↓intK, unK, ↓loadK, ↓withKey_eq, ↓idxAddrK, ↓indexK, ↓partK, ↓fieldK, ↓fieldAddrK, ↓convK, ↓callK, wrG, updK, ↓lenK, ↓mmK, ↓appK, ↓copyK, ↓sliceK, ↓toArrK, nilK, evs, plains, seqParts, capsOf, capsD, AV.dv, AV.cont, ↓buildV_eq, fillL, placesOf, ↓storeK, wrL, RV.av, DV.av, List.set, Nat.reduceEqDiff, Nat.reduceAdd, Nat.reduceSub, Nat.reduceMul, Nat.reduceLT, Nat.reduceLeDiff, Nat.reduceMod, Nat.reduceDiv, Int.reduceLT, Int.reduceLE, Int.reduceToNat, ↓reduceIte, reduceCtorEq, Value.oneCell', Int.reduceAdd, Int.reduceSub, Int.reduceMod, Int.reduceMul, Int.reduceNeg, Int.reduceBEq, Int.reduceBNe, Int.reduceTDiv, Int.reduceTMod, Int.reduceEq, tyB, Try.underlying13, Try.underlying25, Try.underlying26, Try.underlying39, Try.underlying40, Try.underlying72, Try.underlying73, lx, w1, w2]
  refine VT_toVec 5 true [.int .i64 0] [(6, .pl (.int .i64 (((16 * n : Nat) : Int) - 1))), (0, .vec false (digV n x)), (1, .vec false (digV m y))] [] (Sub.of (by simp -implicitDefEqProofs only [subT, look, lookA, newK, St.get, St.mem, List.map_cons, List.map_nil, List.all_cons, List.all_nil, List.length_cons, List.length_nil, List.getElem?_cons_zero, List.getElem?_cons_succ, Nat.reduceEqDiff, Nat.reduceAdd, Option.some.injEq, ↓reduceIte, true_and, and_true, reduceCtorEq, beq_self_eq_true, Bool.and_true, ne_eq, not_false_eq_true, not_true_eq_false, Nat.add_zero, Nat.zero_add, Nat.reduceSub, Nat.reduceMul, Int.cast_ofNat_Int, Int.reduceAdd, Int.reduceSub, Int.reduceMul]) trivial rfl) (k := 7) (off := 0) (len := 1) (blk := ⟨0, 3, [.int .i64 0]⟩) rfl rfl (by decide) rfl rfl ?_
  refine VT_loop hΓ follows_mixed (lfS n x m y) (fun t => t ≤ 16 * n) (fun t => t) (16 * n) (Sub.of (by simp -implicitDefEqProofs only [subT, lfS, htop2, look, lookA, newK, St.get, St.mem, List.map_cons, List.map_nil, List.all_cons, List.all_nil, List.length_cons, List.length_nil, List.getElem?_cons_zero, List.getElem?_cons_succ, Nat.reduceEqDiff, Nat.reduceAdd, Option.some.injEq, ↓reduceIte, true_and, and_true, reduceCtorEq, beq_self_eq_true, Bool.and_true, ne_eq, not_false_eq_true, not_true_eq_false, Nat.add_zero, Nat.zero_add, Nat.reduceSub, Nat.reduceMul, Int.cast_ofNat_Int, Int.reduceAdd, Int.reduceSub, Int.reduceMul]) trivial rfl) (Nat.le_refl _) ?_
  intro t ht
  rcases t with _ | j
  · have hm := mAt_0 x y
    have hlt : x % y < 65536 ^ m := Nat.lt_of_lt_of_le (Nat.mod_lt _ h0) (Nat.le_of_lt hy)
    simp -implicitDefEqProofs (maxSteps := 10000000) only [vy_succ, vmB, slim, slimOp, gO, gSO, qSO, quietOp, cS, qSB, eK, calmOp, guardS, gK, qK, putK, plK, dOk, St.ev, St.get, St.mem, St.set, St.setm, St.put, lookA, look, newK, nextver, initT, seqE, blockQ, bodyQ, resK, retV, AV.rdv, agg_uV, ↓binK, ↓intK, unK, ↓loadK, ↓withKey_eq, ↓idxAddrK, ↓indexK, ↓partK, ↓fieldK, ↓fieldAddrK, ↓convK, ↓callK, wrG, updK, ↓lenK, ↓mmK, ↓appK, ↓copyK, ↓sliceK, ↓toArrK, nilK, evs, plains, seqParts, capsOf, capsD, AV.dv, AV.cont, ↓buildV_eq, fillL, placesOf, ↓storeK, wrL, RV.av, DV.av, List.set, Nat.reduceEqDiff, Nat.reduceAdd, Nat.reduceSub, Nat.reduceMul, Nat.reduceLT, Nat.reduceLeDiff, Nat.reduceMod, Nat.reduceDiv, Int.reduceLT, Int.reduceLE, Int.reduceToNat, ↓reduceIte, reduceCtorEq, Value.oneCell', Int.reduceAdd, Int.reduceSub, Int.reduceMod, Int.reduceMul, Int.reduceNeg, Int.reduceBEq, Int.reduceBNe, Int.reduceTDiv, Int.reduceTMod, Int.reduceEq, tyB, Try.underlying13, Try.underlying25, Try.underlying26, Try.underlying39, Try.underlying40, Try.underlying72, Try.underlying73, lfS, hm, Int.natCast_zero]
  · have hstep := mAt_step x y j
    have hRl := mAt_lt x (j + 1) (show y ≠ 0 by omega)
    have hRb : mAt x y (j + 1) < 65536 ^ m := Nat.lt_trans hRl hy
    obtain ⟨hnp, hnm⟩ := nd_spec hRb
    have hdb := dg_bit x j
    generalize hb2 : x.testBit j = b at *
    generalize hX : mAt x y (j + 1) = R at *
    generalize hK : nd R = k at *
    have tR : toD (digV k R) = some (k, R) := toD_digV hnp.2.1
    have lt1 := sumN_lt hnp.2.1 hnp.2.1
    have le1 := sumN_le k R k R
    have ge1 : k ≤ sumN k R k R := by unfold sumN; omega
    generalize hk1 : sumN k R k R = k1 at *
    have tR1 : toD (digV k1 (R + R)) = some (k1, R + R) := toD_digV lt1
    have lt2 := sumN_lt lt1 (show 1 < 65536 ^ 1 by omega)
    have le2 := sumN_le k1 (R + R) 1 1
    have ge2 : k1 ≤ sumN k1 (R + R) 1 1 := by unfold sumN; omega
    generalize hk2 : sumN k1 (R + R) 1 1 = k2 at *
    have tR2 : toD (digV k2 (R + R + 1)) = some (k2, R + R + 1) := toD_digV lt2
    have s1 : (k + k ≤ 1000) = True := eq_true (by omega)
    have s2 : (k1 + 1 ≤ 1000) = True := eq_true (by omega)
    have s3 : (k2 + m ≤ 1000) = True := eq_true (by omega)
    have s4 : (k1 + m ≤ 1000) = True := eq_true (by omega)
    have r0 : decide (0 ≤ (j : Int)) = true := decide_eq_true (by omega)
    have r2 : IntKind.i64.wrap ((j : Int) - 1) = (j : Int) - 1 := i64_in (by omega) (by omega)
    have r3 : IntKind.i64.wrap ((j : Int).tdiv 16) = ((j / 16 : Nat) : Int) := by rw [Int.tdiv_eq_ediv_of_nonneg (by omega), i64_in (by omega) (by omega)]; omega
    have r4 : (j : Int).tmod 16 = ((j % 16 : Nat) : Int) := by rw [Int.tmod_eq_emod_of_nonneg (by omega)]; omega
    have r5 : ((j % 16 : Nat) : Int) % 18446744073709551616 = ((j % 16 : Nat) : Int) := by omega
    have r6 := digV_get n x (j / 16) (by omega)
    have r7 := shr_min_i (dg x (j / 16)) (j % 16) (by omega)
    rw [Int.toNat_natCast] at r7
    have r8 : ((dg x (j / 16) / 2 ^ (j % 16) : Nat) : Int).tmod 2 = ((b.toNat : Nat) : Int) := by
      rw [Int.tmod_eq_emod_of_nonneg (Int.natCast_nonneg _), ← hdb]; omega
    have r9 : (0 : Int) ≤ ((j / 16 : Nat) : Int) := by omega
    have r10 : ((j / 16 : Nat) : Int) < (n : Int) := by omega
    have r11 : (0 : Int) ≤ ((j % 16 : Nat) : Int) := by omega
    generalize dg x (j / 16) / 2 ^ (j % 16) = dq at *
    have hb3 : b.toNat ≤ 1 := by cases b <;> decide
    rw [red_mod (by omega)] at hstep
    generalize hF : mAt x y j = F at *
    cases b with
    | false =>
      simp only [Bool.toNat_false, Bool.toNat_true, Nat.add_zero] at hstep
      have bq : ((((false : Bool).toNat : Nat) : Int) == 1) = false := rfl
      by_cases hlt : R + R < y
      · have d1 : decide (R + R < y) = true := decide_eq_true hlt
        rw [if_pos hlt] at hstep
        have hFk : F < 65536 ^ k1 := by rw [hstep]; exact lt1
        have d1F : decide (F < y) = true := by rw [hstep]; exact d1
        have tF : toD (digV k1 F) = some (k1, F) := toD_digV hFk
        simp -implicitDefEqProofs (maxSteps := 10000000) only [vy_succ, vmB, slim, slimOp, gO, gSO, qSO, quietOp, cS, qSB, eK, calmOp, guardS, gK, qK, putK, plK, dOk, St.ev, St.get, St.mem, St.set, St.setm, St.put, lookA, look, newK, nextver, initT, seqE, blockQ, bodyQ, resK, retV, AV.rdv, agg_uV, ↓binK, ↓intK, unK, ↓loadK, ↓withKey_eq, ↓idxAddrK, ↓indexK, ↓partK, ↓fieldK, ↓fieldAddrK, ↓convK, ↓callK, wrG, updK, ↓lenK, ↓mmK, ↓appK, ↓copyK, ↓sliceK, ↓toArrK, nilK, evs, plains, seqParts, capsOf, capsD, AV.dv, AV.cont, ↓buildV_eq, fillL, placesOf, ↓storeK, wrL, RV.av, DV.av, List.set, Nat.reduceEqDiff, Nat.reduceAdd, Nat.reduceSub, Nat.reduceMul, Nat.reduceLT, Nat.reduceLeDiff, Nat.reduceMod, Nat.reduceDiv, Int.reduceLT, Int.reduceLE, Int.reduceToNat, ↓reduceIte, reduceCtorEq, Value.oneCell', Int.reduceAdd, Int.reduceSub, Int.reduceMod, Int.reduceMul, Int.reduceNeg, Int.reduceBEq, Int.reduceBNe, Int.reduceTDiv, Int.reduceTMod, Int.reduceEq, tyB, Try.underlying13, Try.underlying25, Try.underlying26, Try.underlying39, Try.underlying40, Try.underlying72, Try.underlying73, lfS, hX, hK, cast_pred, sumG, lessG, takeG, lx, ty, tR, tR1, tR2, toD_one, hk1, hk2, s1, s2, s3, s4, r0, r3, r4, r5, r6, r7, r8, r9, r10, r11, bq, d1, d1F, tF, Int.toNat_natCast, ← hstep]
        refine VT_loop hΓ follows_mixed (ltS n x m y F j) (fun k => 1 ≤ k ∧ k ≤ k1 ∧ F < 65536 ^ k) (fun k => k) k1 (Sub.of (by simp -implicitDefEqProofs only [subT, ltS, look, lookA, newK, St.get, St.mem, List.map_cons, List.map_nil, List.all_cons, List.all_nil, List.length_cons, List.length_nil, List.getElem?_cons_zero, List.getElem?_cons_succ, Nat.reduceEqDiff, Nat.reduceAdd, Option.some.injEq, ↓reduceIte, true_and, and_true, reduceCtorEq, beq_self_eq_true, Bool.and_true, ne_eq, not_false_eq_true, not_true_eq_false, Nat.add_zero, Nat.zero_add, Nat.reduceSub, Nat.reduceMul, Int.cast_ofNat_Int, Int.reduceAdd, Int.reduceSub, Int.reduceMul]) trivial rfl) ⟨by have := hnp.1; omega, Nat.le_refl _, hFk⟩ ?_
        rintro q ⟨hq1, hq2, hq3⟩
        have lq := digV_len q F
        by_cases hq : q = 1
        · subst hq
          have g1 : decide (1 < ((1 : Nat) : Int)) = false := rfl
          have hnd : nd F = 1 := nd_of ⟨hq1, hq3, .inl rfl⟩
          simp -implicitDefEqProofs (maxSteps := 10000000) only [vy_succ, vmB, slim, slimOp, gO, gSO, qSO, quietOp, cS, qSB, eK, calmOp, guardS, gK, qK, putK, plK, dOk, St.ev, St.get, St.mem, St.set, St.setm, St.put, lookA, look, newK, nextver, initT, seqE, blockQ, bodyQ, resK, retV, AV.rdv, agg_uV, ↓binK, ↓intK, unK, ↓loadK, ↓withKey_eq, ↓idxAddrK, ↓indexK, ↓partK, ↓fieldK, ↓fieldAddrK, ↓convK, ↓callK, wrG, updK, ↓lenK, ↓mmK, ↓appK, ↓copyK, ↓sliceK, ↓toArrK, nilK, evs, plains, seqParts, capsOf, capsD, AV.dv, AV.cont, ↓buildV_eq, fillL, placesOf, ↓storeK, wrL, RV.av, DV.av, List.set, Nat.reduceEqDiff, Nat.reduceAdd, Nat.reduceSub, Nat.reduceMul, Nat.reduceLT, Nat.reduceLeDiff, Nat.reduceMod, Nat.reduceDiv, Int.reduceLT, Int.reduceLE, Int.reduceToNat, ↓reduceIte, reduceCtorEq, Value.oneCell', Int.reduceAdd, Int.reduceSub, Int.reduceMod, Int.reduceMul, Int.reduceNeg, Int.reduceBEq, Int.reduceBNe, Int.reduceTDiv, Int.reduceTMod, Int.reduceEq, tyB, Try.underlying13, Try.underlying25, Try.underlying26, Try.underlying39, Try.underlying40, Try.underlying72, Try.underlying73, ltS, lq, g1, r2]
          exact ⟨j, by omega, Nat.lt_succ_self j, Sub.of (by simp -implicitDefEqProofs only [subT, lfS, hF, hnd, look, lookA, newK, St.get, St.mem, List.map_cons, List.map_nil, List.all_cons, List.all_nil, List.length_cons, List.length_nil, List.getElem?_cons_zero, List.getElem?_cons_succ, Nat.reduceEqDiff, Nat.reduceAdd, Option.some.injEq, ↓reduceIte, true_and, and_true, reduceCtorEq, beq_self_eq_true, Bool.and_true, ne_eq, not_false_eq_true, not_true_eq_false, Nat.add_zero, Nat.zero_add, Nat.reduceSub, Nat.reduceMul, Int.cast_ofNat_Int, Int.reduceAdd, Int.reduceSub, Int.reduceMul]) trivial rfl⟩
        · obtain ⟨e, rfl⟩ : ∃ e, q = e + 1 := ⟨q - 1, by omega⟩
          have g1 : decide (1 < ((e + 1 : Nat) : Int)) = true := decide_eq_true (by omega)
          have g2 : IntKind.i64.wrap (((e + 1 : Nat) : Int) - 1) = (e : Int) := by rw [i64_in (by omega) (by omega)]; omega
          have g3 := digV_get (e + 1) F e (by omega)
          have g4 : (0 : Int) ≤ (e : Int) := by omega
          have g5 : (e : Int) < ((e + 1 : Nat) : Int) := by omega
          have g6 : (e : Int) ≤ ((e + 1 : Nat) : Int) := by omega
          have g7 := digV_cut e F
          by_cases hd : dg F e = 0
          · have g8 : (((dg F e : Nat) : Int) == 0) = true := by rw [hd]; rfl
            have hFe : F < 65536 ^ e := by
              have h1 := div_step F e
              rw [Nat.div_eq_of_lt hq3, hd] at h1
              exact Nat.lt_of_div_eq_zero (bpow_pos _) (by omega)
            simp -implicitDefEqProofs (maxSteps := 10000000) only [vy_succ, vmB, slim, slimOp, gO, gSO, qSO, quietOp, cS, qSB, eK, calmOp, guardS, gK, qK, putK, plK, dOk, St.ev, St.get, St.mem, St.set, St.setm, St.put, lookA, look, newK, nextver, initT, seqE, blockQ, bodyQ, resK, retV, AV.rdv, agg_uV, ↓binK, ↓intK, unK, ↓loadK, ↓withKey_eq, ↓idxAddrK, ↓indexK, ↓partK, ↓fieldK, ↓fieldAddrK, ↓convK, ↓callK, wrG, updK, ↓lenK, ↓mmK, ↓appK, ↓copyK, ↓sliceK, ↓toArrK, nilK, evs, plains, seqParts, capsOf, capsD, AV.dv, AV.cont, ↓buildV_eq, fillL, placesOf, ↓storeK, wrL, RV.av, DV.av, List.set, Nat.reduceEqDiff, Nat.reduceAdd, Nat.reduceSub, Nat.reduceMul, Nat.reduceLT, Nat.reduceLeDiff, Nat.reduceMod, Nat.reduceDiv, Int.reduceLT, Int.reduceLE, Int.reduceToNat, ↓reduceIte, reduceCtorEq, Value.oneCell', Int.reduceAdd, Int.reduceSub, Int.reduceMod, Int.reduceMul, Int.reduceNeg, Int.reduceBEq, Int.reduceBNe, Int.reduceTDiv, Int.reduceTMod, Int.reduceEq, tyB, Try.underlying13, Try.underlying25, Try.underlying26, Try.underlying39, Try.underlying40, Try.underlying72, Try.underlying73, ltS, lq, g1, g2, g3, g4, g5, g6, g7, g8, Int.toNat_natCast, Nat.sub_zero]
            exact ⟨e, ⟨by omega, by omega, hFe⟩, Nat.lt_succ_self e, Sub.of (by simp -implicitDefEqProofs only [subT, ltS, look, lookA, newK, St.get, St.mem, List.map_cons, List.map_nil, List.all_cons, List.all_nil, List.length_cons, List.length_nil, List.getElem?_cons_zero, List.getElem?_cons_succ, Nat.reduceEqDiff, Nat.reduceAdd, Option.some.injEq, ↓reduceIte, true_and, and_true, reduceCtorEq, beq_self_eq_true, Bool.and_true, ne_eq, not_false_eq_true, not_true_eq_false, Nat.add_zero, Nat.zero_add, Nat.reduceSub, Nat.reduceMul, Int.cast_ofNat_Int, Int.reduceAdd, Int.reduceSub, Int.reduceMul]) trivial rfl⟩
          · have g8 : (((dg F e : Nat) : Int) == 0) = false := by simp; omega
            have hnd : nd F = e + 1 := nd_of ⟨by omega, hq3, .inr (by rw [Nat.add_sub_cancel]; exact hd)⟩
            simp -implicitDefEqProofs (maxSteps := 10000000) only [vy_succ, vmB, slim, slimOp, gO, gSO, qSO, quietOp, cS, qSB, eK, calmOp, guardS, gK, qK, putK, plK, dOk, St.ev, St.get, St.mem, St.set, St.setm, St.put, lookA, look, newK, nextver, initT, seqE, blockQ, bodyQ, resK, retV, AV.rdv, agg_uV, ↓binK, ↓intK, unK, ↓loadK, ↓withKey_eq, ↓idxAddrK, ↓indexK, ↓partK, ↓fieldK, ↓fieldAddrK, ↓convK, ↓callK, wrG, updK, ↓lenK, ↓mmK, ↓appK, ↓copyK, ↓sliceK, ↓toArrK, nilK, evs, plains, seqParts, capsOf, capsD, AV.dv, AV.cont, ↓buildV_eq, fillL, placesOf, ↓storeK, wrL, RV.av, DV.av, List.set, Nat.reduceEqDiff, Nat.reduceAdd, Nat.reduceSub, Nat.reduceMul, Nat.reduceLT, Nat.reduceLeDiff, Nat.reduceMod, Nat.reduceDiv, Int.reduceLT, Int.reduceLE, Int.reduceToNat, ↓reduceIte, reduceCtorEq, Value.oneCell', Int.reduceAdd, Int.reduceSub, Int.reduceMod, Int.reduceMul, Int.reduceNeg, Int.reduceBEq, Int.reduceBNe, Int.reduceTDiv, Int.reduceTMod, Int.reduceEq, tyB, Try.underlying13, Try.underlying25, Try.underlying26, Try.underlying39, Try.underlying40, Try.underlying72, Try.underlying73, ltS, lq, g1, g2, g3, g4, g5, g6, g7, g8, r2, Int.toNat_natCast]
            exact ⟨j, by omega, Nat.lt_succ_self j, Sub.of (by simp -implicitDefEqProofs only [subT, lfS, hF, hnd, look, lookA, newK, St.get, St.mem, List.map_cons, List.map_nil, List.all_cons, List.all_nil, List.length_cons, List.length_nil, List.getElem?_cons_zero, List.getElem?_cons_succ, Nat.reduceEqDiff, Nat.reduceAdd, Option.some.injEq, ↓reduceIte, true_and, and_true, reduceCtorEq, beq_self_eq_true, Bool.and_true, ne_eq, not_false_eq_true, not_true_eq_false, Nat.add_zero, Nat.zero_add, Nat.reduceSub, Nat.reduceMul, Int.cast_ofNat_Int, Int.reduceAdd, Int.reduceSub, Int.reduceMul]) trivial rfl⟩
      · have d1 : decide (R + R < y) = false := decide_eq_false hlt
        rw [if_neg hlt] at hstep
        have hFk : F < 65536 ^ k1 := by have := lt1; omega
        have s5 : (y ≤ R + R) = True := eq_true (by omega)
        simp -implicitDefEqProofs (maxSteps := 10000000) only [vy_succ, vmB, slim, slimOp, gO, gSO, qSO, quietOp, cS, qSB, eK, calmOp, guardS, gK, qK, putK, plK, dOk, St.ev, St.get, St.mem, St.set, St.setm, St.put, lookA, look, newK, nextver, initT, seqE, blockQ, bodyQ, resK, retV, AV.rdv, agg_uV, ↓binK, ↓intK, unK, ↓loadK, ↓withKey_eq, ↓idxAddrK, ↓indexK, ↓partK, ↓fieldK, ↓fieldAddrK, ↓convK, ↓callK, wrG, updK, ↓lenK, ↓mmK, ↓appK, ↓copyK, ↓sliceK, ↓toArrK, nilK, evs, plains, seqParts, capsOf, capsD, AV.dv, AV.cont, ↓buildV_eq, fillL, placesOf, ↓storeK, wrL, RV.av, DV.av, List.set, Nat.reduceEqDiff, Nat.reduceAdd, Nat.reduceSub, Nat.reduceMul, Nat.reduceLT, Nat.reduceLeDiff, Nat.reduceMod, Nat.reduceDiv, Int.reduceLT, Int.reduceLE, Int.reduceToNat, ↓reduceIte, reduceCtorEq, Value.oneCell', Int.reduceAdd, Int.reduceSub, Int.reduceMod, Int.reduceMul, Int.reduceNeg, Int.reduceBEq, Int.reduceBNe, Int.reduceTDiv, Int.reduceTMod, Int.reduceEq, tyB, Try.underlying13, Try.underlying25, Try.underlying26, Try.underlying39, Try.underlying40, Try.underlying72, Try.underlying73, lfS, hX, hK, cast_pred, sumG, lessG, takeG, lx, ty, tR, tR1, tR2, toD_one, hk1, hk2, s1, s2, s3, s4, s5, r0, r3, r4, r5, r6, r7, r8, r9, r10, r11, bq, d1, Int.toNat_natCast, ← hstep]
        refine VT_loop hΓ follows_mixed (ltS n x m y F j) (fun k => 1 ≤ k ∧ k ≤ k1 ∧ F < 65536 ^ k) (fun k => k) k1 (Sub.of (by simp -implicitDefEqProofs only [subT, ltS, look, lookA, newK, St.get, St.mem, List.map_cons, List.map_nil, List.all_cons, List.all_nil, List.length_cons, List.length_nil, List.getElem?_cons_zero, List.getElem?_cons_succ, Nat.reduceEqDiff, Nat.reduceAdd, Option.some.injEq, ↓reduceIte, true_and, and_true, reduceCtorEq, beq_self_eq_true, Bool.and_true, ne_eq, not_false_eq_true, not_true_eq_false, Nat.add_zero, Nat.zero_add, Nat.reduceSub, Nat.reduceMul, Int.cast_ofNat_Int, Int.reduceAdd, Int.reduceSub, Int.reduceMul]) trivial rfl) ⟨by have := hnp.1; omega, Nat.le_refl _, hFk⟩ ?_
        rintro q ⟨hq1, hq2, hq3⟩
        have lq := digV_len q F
        by_cases hq : q = 1
        · subst hq
          have g1 : decide (1 < ((1 : Nat) : Int)) = false := rfl
          have hnd : nd F = 1 := nd_of ⟨hq1, hq3, .inl rfl⟩
          simp -implicitDefEqProofs (maxSteps := 10000000) only [vy_succ, vmB, slim, slimOp, gO, gSO, qSO, quietOp, cS, qSB, eK, calmOp, guardS, gK, qK, putK, plK, dOk, St.ev, St.get, St.mem, St.set, St.setm, St.put, lookA, look, newK, nextver, initT, seqE, blockQ, bodyQ, resK, retV, AV.rdv, agg_uV, ↓binK, ↓intK, unK, ↓loadK, ↓withKey_eq, ↓idxAddrK, ↓indexK, ↓partK, ↓fieldK, ↓fieldAddrK, ↓convK, ↓callK, wrG, updK, ↓lenK, ↓mmK, ↓appK, ↓copyK, ↓sliceK, ↓toArrK, nilK, evs, plains, seqParts, capsOf, capsD, AV.dv, AV.cont, ↓buildV_eq, fillL, placesOf, ↓storeK, wrL, RV.av, DV.av, List.set, Nat.reduceEqDiff, Nat.reduceAdd, Nat.reduceSub, Nat.reduceMul, Nat.reduceLT, Nat.reduceLeDiff, Nat.reduceMod, Nat.reduceDiv, Int.reduceLT, Int.reduceLE, Int.reduceToNat, ↓reduceIte, reduceCtorEq, Value.oneCell', Int.reduceAdd, Int.reduceSub, Int.reduceMod, Int.reduceMul, Int.reduceNeg, Int.reduceBEq, Int.reduceBNe, Int.reduceTDiv, Int.reduceTMod, Int.reduceEq, tyB, Try.underlying13, Try.underlying25, Try.underlying26, Try.underlying39, Try.underlying40, Try.underlying72, Try.underlying73, ltS, lq, g1, r2]
          exact ⟨j, by omega, Nat.lt_succ_self j, Sub.of (by simp -implicitDefEqProofs only [subT, lfS, hF, hnd, look, lookA, newK, St.get, St.mem, List.map_cons, List.map_nil, List.all_cons, List.all_nil, List.length_cons, List.length_nil, List.getElem?_cons_zero, List.getElem?_cons_succ, Nat.reduceEqDiff, Nat.reduceAdd, Option.some.injEq, ↓reduceIte, true_and, and_true, reduceCtorEq, beq_self_eq_true, Bool.and_true, ne_eq, not_false_eq_true, not_true_eq_false, Nat.add_zero, Nat.zero_add, Nat.reduceSub, Nat.reduceMul, Int.cast_ofNat_Int, Int.reduceAdd, Int.reduceSub, Int.reduceMul]) trivial rfl⟩
        · obtain ⟨e, rfl⟩ : ∃ e, q = e + 1 := ⟨q - 1, by omega⟩
          have g1 : decide (1 < ((e + 1 : Nat) : Int)) = true := decide_eq_true (by omega)
          have g2 : IntKind.i64.wrap (((e + 1 : Nat) : Int) - 1) = (e : Int) := by rw [i64_in (by omega) (by omega)]; omega
          have g3 := digV_get (e + 1) F e (by omega)
          have g4 : (0 : Int) ≤ (e : Int) := by omega
          have g5 : (e : Int) < ((e + 1 : Nat) : Int) := by omega
          have g6 : (e : Int) ≤ ((e + 1 : Nat) : Int) := by omega
          have g7 := digV_cut e F
          by_cases hd : dg F e = 0
          · have g8 : (((dg F e : Nat) : Int) == 0) = true := by rw [hd]; rfl
            have hFe : F < 65536 ^ e := by
              have h1 := div_step F e
              rw [Nat.div_eq_of_lt hq3, hd] at h1
              exact Nat.lt_of_div_eq_zero (bpow_pos _) (by omega)
            simp -implicitDefEqProofs (maxSteps := 10000000) only [vy_succ, vmB, slim, slimOp, gO, gSO, qSO, quietOp, cS, qSB, eK, calmOp, guardS, gK, qK, putK, plK, dOk, St.ev, St.get, St.mem, St.set, St.setm, St.put, lookA, look, newK, nextver, initT, seqE, blockQ, bodyQ, resK, retV, AV.rdv, agg_uV, ↓binK, ↓intK, unK, ↓loadK, ↓withKey_eq, ↓idxAddrK, ↓indexK, ↓partK, ↓fieldK, ↓fieldAddrK, ↓convK, ↓callK, wrG, updK, ↓lenK, ↓mmK, ↓appK, ↓copyK, ↓sliceK, ↓toArrK, nilK, evs, plains, seqParts, capsOf, capsD, AV.dv, AV.cont, ↓buildV_eq, fillL, placesOf, ↓storeK, wrL, RV.av, DV.av, List.set, Nat.reduceEqDiff, Nat.reduceAdd, Nat.reduceSub, Nat.reduceMul, Nat.reduceLT, Nat.reduceLeDiff, Nat.reduceMod, Nat.reduceDiv, Int.reduceLT, Int.reduceLE, Int.reduceToNat, ↓reduceIte, reduceCtorEq, Value.oneCell', Int.reduceAdd, Int.reduceSub, Int.reduceMod, Int.reduceMul, Int.reduceNeg, Int.reduceBEq, Int.reduceBNe, Int.reduceTDiv, Int.reduceTMod, Int.reduceEq, tyB, Try.underlying13, Try.underlying25, Try.underlying26, Try.underlying39, Try.underlying40, Try.underlying72, Try.underlying73, ltS, lq, g1, g2, g3, g4, g5, g6, g7, g8, Int.toNat_natCast, Nat.sub_zero]
            exact ⟨e, ⟨by omega, by omega, hFe⟩, Nat.lt_succ_self e, Sub.of (by simp -implicitDefEqProofs only [subT, ltS, look, lookA, newK, St.get, St.mem, List.map_cons, List.map_nil, List.all_cons, List.all_nil, List.length_cons, List.length_nil, List.getElem?_cons_zero, List.getElem?_cons_succ, Nat.reduceEqDiff, Nat.reduceAdd, Option.some.injEq, ↓reduceIte, true_and, and_true, reduceCtorEq, beq_self_eq_true, Bool.and_true, ne_eq, not_false_eq_true, not_true_eq_false, Nat.add_zero, Nat.zero_add, Nat.reduceSub, Nat.reduceMul, Int.cast_ofNat_Int, Int.reduceAdd, Int.reduceSub, Int.reduceMul]) trivial rfl⟩
          · have g8 : (((dg F e : Nat) : Int) == 0) = false := by simp; omega
            have hnd : nd F = e + 1 := nd_of ⟨by omega, hq3, .inr (by rw [Nat.add_sub_cancel]; exact hd)⟩
            simp -implicitDefEqProofs (maxSteps := 10000000) only [vy_succ, vmB, slim, slimOp, gO, gSO, qSO, quietOp, cS, qSB, eK, calmOp, guardS, gK, qK, putK, plK, dOk, St.ev, St.get, St.mem, St.set, St.setm, St.put, lookA, look, newK, nextver, initT, seqE, blockQ, bodyQ, resK, retV, AV.rdv, agg_uV, ↓binK, ↓intK, unK, ↓loadK, ↓withKey_eq, ↓idxAddrK, ↓indexK, ↓partK, ↓fieldK, ↓fieldAddrK, ↓convK, ↓callK, wrG, updK, ↓lenK, ↓mmK, ↓appK, ↓copyK, ↓sliceK, ↓toArrK, nilK, evs, plains, seqParts, capsOf, capsD, AV.dv, AV.cont, ↓buildV_eq, fillL, placesOf, ↓storeK, wrL, RV.av, DV.av, List.set, Nat.reduceEqDiff, Nat.reduceAdd, Nat.reduceSub, Nat.reduceMul, Nat.reduceLT, Nat.reduceLeDiff, Nat.reduceMod, Nat.reduceDiv, Int.reduceLT, Int.reduceLE, Int.reduceToNat, ↓reduceIte, reduceCtorEq, Value.oneCell', Int.reduceAdd, Int.reduceSub, Int.reduceMod, Int.reduceMul, Int.reduceNeg, Int.reduceBEq, Int.reduceBNe, Int.reduceTDiv, Int.reduceTMod, Int.reduceEq, tyB, Try.underlying13, Try.underlying25, Try.underlying26, Try.underlying39, Try.underlying40, Try.underlying72, Try.underlying73, ltS, lq, g1, g2, g3, g4, g5, g6, g7, g8, r2, Int.toNat_natCast]
            exact ⟨j, by omega, Nat.lt_succ_self j, Sub.of (by simp -implicitDefEqProofs only [subT, lfS, hF, hnd, look, lookA, newK, St.get, St.mem, List.map_cons, List.map_nil, List.all_cons, List.all_nil, List.length_cons, List.length_nil, List.getElem?_cons_zero, List.getElem?_cons_succ, Nat.reduceEqDiff, Nat.reduceAdd, Option.some.injEq, ↓reduceIte, true_and, and_true, reduceCtorEq, beq_self_eq_true, Bool.and_true, ne_eq, not_false_eq_true, not_true_eq_false, Nat.add_zero, Nat.zero_add, Nat.reduceSub, Nat.reduceMul, Int.cast_ofNat_Int, Int.reduceAdd, Int.reduceSub, Int.reduceMul]) trivial rfl⟩
    | true =>
      simp only [Bool.toNat_false, Bool.toNat_true, Nat.add_zero] at hstep
      have bq : ((((true : Bool).toNat : Nat) : Int) == 1) = true := rfl
      by_cases hlt : R + R + 1 < y
      · have d1 : decide (R + R + 1 < y) = true := decide_eq_true hlt
        rw [if_pos hlt] at hstep
        have hFk : F < 65536 ^ k2 := by rw [hstep]; exact lt2
        have d1F : decide (F < y) = true := by rw [hstep]; exact d1
        have tF : toD (digV k2 F) = some (k2, F) := toD_digV hFk
        simp -implicitDefEqProofs (maxSteps := 10000000) only [vy_succ, vmB, slim, slimOp, gO, gSO, qSO, quietOp, cS, qSB, eK, calmOp, guardS, gK, qK, putK, plK, dOk, St.ev, St.get, St.mem, St.set, St.setm, St.put, lookA, look, newK, nextver, initT, seqE, blockQ, bodyQ, resK, retV, AV.rdv, agg_uV, ↓binK, ↓intK, unK, ↓loadK, ↓withKey_eq, ↓idxAddrK, ↓indexK, ↓partK, ↓fieldK, ↓fieldAddrK, ↓convK, ↓callK, wrG, updK, ↓lenK, ↓mmK, ↓appK, ↓copyK, ↓sliceK, ↓toArrK, nilK, evs, plains, seqParts, capsOf, capsD, AV.dv, AV.cont, ↓buildV_eq, fillL, placesOf, ↓storeK, wrL, RV.av, DV.av, List.set, Nat.reduceEqDiff, Nat.reduceAdd, Nat.reduceSub, Nat.reduceMul, Nat.reduceLT, Nat.reduceLeDiff, Nat.reduceMod, Nat.reduceDiv, Int.reduceLT, Int.reduceLE, Int.reduceToNat, ↓reduceIte, reduceCtorEq, Value.oneCell', Int.reduceAdd, Int.reduceSub, Int.reduceMod, Int.reduceMul, Int.reduceNeg, Int.reduceBEq, Int.reduceBNe, Int.reduceTDiv, Int.reduceTMod, Int.reduceEq, tyB, Try.underlying13, Try.underlying25, Try.underlying26, Try.underlying39, Try.underlying40, Try.underlying72, Try.underlying73, lfS, hX, hK, cast_pred, sumG, lessG, takeG, lx, ty, tR, tR1, tR2, toD_one, hk1, hk2, s1, s2, s3, s4, r0, r3, r4, r5, r6, r7, r8, r9, r10, r11, bq, d1, d1F, tF, Int.toNat_natCast, ← hstep]
        refine VT_loop hΓ follows_mixed (ltS n x m y F j) (fun k => 1 ≤ k ∧ k ≤ k2 ∧ F < 65536 ^ k) (fun k => k) k2 (Sub.of (by simp -implicitDefEqProofs only [subT, ltS, look, lookA, newK, St.get, St.mem, List.map_cons, List.map_nil, List.all_cons, List.all_nil, List.length_cons, List.length_nil, List.getElem?_cons_zero, List.getElem?_cons_succ, Nat.reduceEqDiff, Nat.reduceAdd, Option.some.injEq, ↓reduceIte, true_and, and_true, reduceCtorEq, beq_self_eq_true, Bool.and_true, ne_eq, not_false_eq_true, not_true_eq_false, Nat.add_zero, Nat.zero_add, Nat.reduceSub, Nat.reduceMul, Int.cast_ofNat_Int, Int.reduceAdd, Int.reduceSub, Int.reduceMul]) trivial rfl) ⟨by have := hnp.1; omega, Nat.le_refl _, hFk⟩ ?_
        rintro q ⟨hq1, hq2, hq3⟩
        have lq := digV_len q F
        by_cases hq : q = 1
        · subst hq
          have g1 : decide (1 < ((1 : Nat) : Int)) = false := rfl
          have hnd : nd F = 1 := nd_of ⟨hq1, hq3, .inl rfl⟩
          simp -implicitDefEqProofs (maxSteps := 10000000) only [vy_succ, vmB, slim, slimOp, gO, gSO, qSO, quietOp, cS, qSB, eK, calmOp, guardS, gK, qK, putK, plK, dOk, St.ev, St.get, St.mem, St.set, St.setm, St.put, lookA, look, newK, nextver, initT, seqE, blockQ, bodyQ, resK, retV, AV.rdv, agg_uV, ↓binK, ↓intK, unK, ↓loadK, ↓withKey_eq, ↓idxAddrK, ↓indexK, ↓partK, ↓fieldK, ↓fieldAddrK, ↓convK, ↓callK, wrG, updK, ↓lenK, ↓mmK, ↓appK, ↓copyK, ↓sliceK, ↓toArrK, nilK, evs, plains, seqParts, capsOf, capsD, AV.dv, AV.cont, ↓buildV_eq, fillL, placesOf, ↓storeK, wrL, RV.av, DV.av, List.set, Nat.reduceEqDiff, Nat.reduceAdd, Nat.reduceSub, Nat.reduceMul, Nat.reduceLT, Nat.reduceLeDiff, Nat.reduceMod, Nat.reduceDiv, Int.reduceLT, Int.reduceLE, Int.reduceToNat, ↓reduceIte, reduceCtorEq, Value.oneCell', Int.reduceAdd, Int.reduceSub, Int.reduceMod, Int.reduceMul, Int.reduceNeg, Int.reduceBEq, Int.reduceBNe, Int.reduceTDiv, Int.reduceTMod, Int.reduceEq, tyB, Try.underlying13, Try.underlying25, Try.underlying26, Try.underlying39, Try.underlying40, Try.underlying72, Try.underlying73, ltS, lq, g1, r2]
          exact ⟨j, by omega, Nat.lt_succ_self j, Sub.of (by simp -implicitDefEqProofs only [subT, lfS, hF, hnd, look, lookA, newK, St.get, St.mem, List.map_cons, List.map_nil, List.all_cons, List.all_nil, List.length_cons, List.length_nil, List.getElem?_cons_zero, List.getElem?_cons_succ, Nat.reduceEqDiff, Nat.reduceAdd, Option.some.injEq, ↓reduceIte, true_and, and_true, reduceCtorEq, beq_self_eq_true, Bool.and_true, ne_eq, not_false_eq_true, not_true_eq_false, Nat.add_zero, Nat.zero_add, Nat.reduceSub, Nat.reduceMul, Int.cast_ofNat_Int, Int.reduceAdd, Int.reduceSub, Int.reduceMul]) trivial rfl⟩
        · obtain ⟨e, rfl⟩ : ∃ e, q = e + 1 := ⟨q - 1, by omega⟩
          have g1 : decide (1 < ((e + 1 : Nat) : Int)) = true := decide_eq_true (by omega)
          have g2 : IntKind.i64.wrap (((e + 1 : Nat) : Int) - 1) = (e : Int) := by rw [i64_in (by omega) (by omega)]; omega
          have g3 := digV_get (e + 1) F e (by omega)
          have g4 : (0 : Int) ≤ (e : Int) := by omega
          have g5 : (e : Int) < ((e + 1 : Nat) : Int) := by omega
          have g6 : (e : Int) ≤ ((e + 1 : Nat) : Int) := by omega
          have g7 := digV_cut e F
          by_cases hd : dg F e = 0
          · have g8 : (((dg F e : Nat) : Int) == 0) = true := by rw [hd]; rfl
            have hFe : F < 65536 ^ e := by
              have h1 := div_step F e
              rw [Nat.div_eq_of_lt hq3, hd] at h1
              exact Nat.lt_of_div_eq_zero (bpow_pos _) (by omega)
            simp -implicitDefEqProofs (maxSteps := 10000000) only [vy_succ, vmB, slim, slimOp, gO, gSO, qSO, quietOp, cS, qSB, eK, calmOp, guardS, gK, qK, putK, plK, dOk, St.ev, St.get, St.mem, St.set, St.setm, St.put, lookA, look, newK, nextver, initT, seqE, blockQ, bodyQ, resK, retV, AV.rdv, agg_uV, ↓binK, ↓intK, unK, ↓loadK, ↓withKey_eq, ↓idxAddrK, ↓indexK, ↓partK, ↓fieldK, ↓fieldAddrK, ↓convK, ↓callK, wrG, updK, ↓lenK, ↓mmK, ↓appK, ↓copyK, ↓sliceK, ↓toArrK, nilK, evs, plains, seqParts, capsOf, capsD, AV.dv, AV.cont, ↓buildV_eq, fillL, placesOf, ↓storeK, wrL, RV.av, DV.av, List.set, Nat.reduceEqDiff, Nat.reduceAdd, Nat.reduceSub, Nat.reduceMul, Nat.reduceLT, Nat.reduceLeDiff, Nat.reduceMod, Nat.reduceDiv, Int.reduceLT, Int.reduceLE, Int.reduceToNat, ↓reduceIte, reduceCtorEq, Value.oneCell', Int.reduceAdd, Int.reduceSub, Int.reduceMod, Int.reduceMul, Int.reduceNeg, Int.reduceBEq, Int.reduceBNe, Int.reduceTDiv, Int.reduceTMod, Int.reduceEq, tyB, Try.underlying13, Try.underlying25, Try.underlying26, Try.underlying39, Try.underlying40, Try.underlying72, Try.underlying73, ltS, lq, g1, g2, g3, g4, g5, g6, g7, g8, Int.toNat_natCast, Nat.sub_zero]
            exact ⟨e, ⟨by omega, by omega, hFe⟩, Nat.lt_succ_self e, Sub.of (by simp -implicitDefEqProofs only [subT, ltS, look, lookA, newK, St.get, St.mem, List.map_cons, List.map_nil, List.all_cons, List.all_nil, List.length_cons, List.length_nil, List.getElem?_cons_zero, List.getElem?_cons_succ, Nat.reduceEqDiff, Nat.reduceAdd, Option.some.injEq, ↓reduceIte, true_and, and_true, reduceCtorEq, beq_self_eq_true, Bool.and_true, ne_eq, not_false_eq_true, not_true_eq_false, Nat.add_zero, Nat.zero_add, Nat.reduceSub, Nat.reduceMul, Int.cast_ofNat_Int, Int.reduceAdd, Int.reduceSub, Int.reduceMul]) trivial rfl⟩
          · have g8 : (((dg F e : Nat) : Int) == 0) = false := by simp; omega
            have hnd : nd F = e + 1 := nd_of ⟨by omega, hq3, .inr (by rw [Nat.add_sub_cancel]; exact hd)⟩
            simp -implicitDefEqProofs (maxSteps := 10000000) only [vy_succ, vmB, slim, slimOp, gO, gSO, qSO, quietOp, cS, qSB, eK, calmOp, guardS, gK, qK, putK, plK, dOk, St.ev, St.get, St.mem, St.set, St.setm, St.put, lookA, look, newK, nextver, initT, seqE, blockQ, bodyQ, resK, retV, AV.rdv, agg_uV, ↓binK, ↓intK, unK, ↓loadK, ↓withKey_eq, ↓idxAddrK, ↓indexK, ↓partK, ↓fieldK, ↓fieldAddrK, ↓convK, ↓callK, wrG, updK, ↓lenK, ↓mmK, ↓appK, ↓copyK, ↓sliceK, ↓toArrK, nilK, evs, plains, seqParts, capsOf, capsD, AV.dv, AV.cont, ↓buildV_eq, fillL, placesOf, ↓storeK, wrL, RV.av, DV.av, List.set, Nat.reduceEqDiff, Nat.reduceAdd, Nat.reduceSub, Nat.reduceMul, Nat.reduceLT, Nat.reduceLeDiff, Nat.reduceMod, Nat.reduceDiv, Int.reduceLT, Int.reduceLE, Int.reduceToNat, ↓reduceIte, reduceCtorEq, Value.oneCell', Int.reduceAdd, Int.reduceSub, Int.reduceMod, Int.reduceMul, Int.reduceNeg, Int.reduceBEq, Int.reduceBNe, Int.reduceTDiv, Int.reduceTMod, Int.reduceEq, tyB, Try.underlying13, Try.underlying25, Try.underlying26, Try.underlying39, Try.underlying40, Try.underlying72, Try.underlying73, ltS, lq, g1, g2, g3, g4, g5, g6, g7, g8, r2, Int.toNat_natCast]
            exact ⟨j, by omega, Nat.lt_succ_self j, Sub.of (by simp -implicitDefEqProofs only [subT, lfS, hF, hnd, look, lookA, newK, St.get, St.mem, List.map_cons, List.map_nil, List.all_cons, List.all_nil, List.length_cons, List.length_nil, List.getElem?_cons_zero, List.getElem?_cons_succ, Nat.reduceEqDiff, Nat.reduceAdd, Option.some.injEq, ↓reduceIte, true_and, and_true, reduceCtorEq, beq_self_eq_true, Bool.and_true, ne_eq, not_false_eq_true, not_true_eq_false, Nat.add_zero, Nat.zero_add, Nat.reduceSub, Nat.reduceMul, Int.cast_ofNat_Int, Int.reduceAdd, Int.reduceSub, Int.reduceMul]) trivial rfl⟩
      · have d1 : decide (R + R + 1 < y) = false := decide_eq_false hlt
        rw [if_neg hlt] at hstep
        have hFk : F < 65536 ^ k2 := by have := lt2; omega
        have s5 : (y ≤ R + R + 1) = True := eq_true (by omega)
        simp -implicitDefEqProofs (maxSteps := 10000000) only [vy_succ, vmB, slim, slimOp, gO, gSO, qSO, quietOp, cS, qSB, eK, calmOp, guardS, gK, qK, putK, plK, dOk, St.ev, St.get, St.mem, St.set, St.setm, St.put, lookA, look, newK, nextver, initT, seqE, blockQ, bodyQ, resK, retV, AV.rdv, agg_uV, ↓binK, ↓intK, unK, ↓loadK, ↓withKey_eq, ↓idxAddrK, ↓indexK, ↓partK, ↓fieldK, ↓fieldAddrK, ↓convK, ↓callK, wrG, updK, ↓lenK, ↓mmK, ↓appK, ↓copyK, ↓sliceK, ↓toArrK, nilK, evs, plains, seqParts, capsOf, capsD, AV.dv, AV.cont, ↓buildV_eq, fillL, placesOf, ↓storeK, wrL, RV.av, DV.av, List.set, Nat.reduceEqDiff, Nat.reduceAdd, Nat.reduceSub, Nat.reduceMul, Nat.reduceLT, Nat.reduceLeDiff, Nat.reduceMod, Nat.reduceDiv, Int.reduceLT, Int.reduceLE, Int.reduceToNat, ↓reduceIte, reduceCtorEq, Value.oneCell', Int.reduceAdd, Int.reduceSub, Int.reduceMod, Int.reduceMul, Int.reduceNeg, Int.reduceBEq, Int.reduceBNe, Int.reduceTDiv, Int.reduceTMod, Int.reduceEq, tyB, Try.underlying13, Try.underlying25, Try.underlying26, Try.underlying39, Try.underlying40, Try.underlying72, Try.underlying73, lfS, hX, hK, cast_pred, sumG, lessG, takeG, lx, ty, tR, tR1, tR2, toD_one, hk1, hk2, s1, s2, s3, s4, s5, r0, r3, r4, r5, r6, r7, r8, r9, r10, r11, bq, d1, Int.toNat_natCast, ← hstep]
        refine VT_loop hΓ follows_mixed (ltS n x m y F j) (fun k => 1 ≤ k ∧ k ≤ k2 ∧ F < 65536 ^ k) (fun k => k) k2 (Sub.of (by simp -implicitDefEqProofs only [subT, ltS, look, lookA, newK, St.get, St.mem, List.map_cons, List.map_nil, List.all_cons, List.all_nil, List.length_cons, List.length_nil, List.getElem?_cons_zero, List.getElem?_cons_succ, Nat.reduceEqDiff, Nat.reduceAdd, Option.some.injEq, ↓reduceIte, true_and, and_true, reduceCtorEq, beq_self_eq_true, Bool.and_true, ne_eq, not_false_eq_true, not_true_eq_false, Nat.add_zero, Nat.zero_add, Nat.reduceSub, Nat.reduceMul, Int.cast_ofNat_Int, Int.reduceAdd, Int.reduceSub, Int.reduceMul]) trivial rfl) ⟨by have := hnp.1; omega, Nat.le_refl _, hFk⟩ ?_
        rintro q ⟨hq1, hq2, hq3⟩
        have lq := digV_len q F
        by_cases hq : q = 1
        · subst hq
          have g1 : decide (1 < ((1 : Nat) : Int)) = false := rfl
          have hnd : nd F = 1 := nd_of ⟨hq1, hq3, .inl rfl⟩
          simp -implicitDefEqProofs (maxSteps := 10000000) only [vy_succ, vmB, slim, slimOp, gO, gSO, qSO, quietOp, cS, qSB, eK, calmOp, guardS, gK, qK, putK, plK, dOk, St.ev, St.get, St.mem, St.set, St.setm, St.put, lookA, look, newK, nextver, initT, seqE, blockQ, bodyQ, resK, retV, AV.rdv, agg_uV, ↓binK, ↓intK, unK, ↓loadK, ↓withKey_eq, ↓idxAddrK, ↓indexK, ↓partK, ↓fieldK, ↓fieldAddrK, ↓convK, ↓callK, wrG, updK, ↓lenK, ↓mmK, ↓appK, ↓copyK, ↓sliceK, ↓toArrK, nilK, evs, plains, seqParts, capsOf, capsD, AV.dv, AV.cont, ↓buildV_eq, fillL, placesOf, ↓storeK, wrL, RV.av, DV.av, List.set, Nat.reduceEqDiff, Nat.reduceAdd, Nat.reduceSub, Nat.reduceMul, Nat.reduceLT, Nat.reduceLeDiff, Nat.reduceMod, Nat.reduceDiv, Int.reduceLT, Int.reduceLE, Int.reduceToNat, ↓reduceIte, reduceCtorEq, Value.oneCell', Int.reduceAdd, Int.reduceSub, Int.reduceMod, Int.reduceMul, Int.reduceNeg, Int.reduceBEq, Int.reduceBNe, Int.reduceTDiv, Int.reduceTMod, Int.reduceEq, tyB, Try.underlying13, Try.underlying25, Try.underlying26, Try.underlying39, Try.underlying40, Try.underlying72, Try.underlying73, ltS, lq, g1, r2]
          exact ⟨j, by omega, Nat.lt_succ_self j, Sub.of (by simp -implicitDefEqProofs only [subT, lfS, hF, hnd, look, lookA, newK, St.get, St.mem, List.map_cons, List.map_nil, List.all_cons, List.all_nil, List.length_cons, List.length_nil, List.getElem?_cons_zero, List.getElem?_cons_succ, Nat.reduceEqDiff, Nat.reduceAdd, Option.some.injEq, ↓reduceIte, true_and, and_true, reduceCtorEq, beq_self_eq_true, Bool.and_true, ne_eq, not_false_eq_true, not_true_eq_false, Nat.add_zero, Nat.zero_add, Nat.reduceSub, Nat.reduceMul, Int.cast_ofNat_Int, Int.reduceAdd, Int.reduceSub, Int.reduceMul]) trivial rfl⟩
        · obtain ⟨e, rfl⟩ : ∃ e, q = e + 1 := ⟨q - 1, by omega⟩
          have g1 : decide (1 < ((e + 1 : Nat) : Int)) = true := decide_eq_true (by omega)
          have g2 : IntKind.i64.wrap (((e + 1 : Nat) : Int) - 1) = (e : Int) := by rw [i64_in (by omega) (by omega)]; omega
          have g3 := digV_get (e + 1) F e (by omega)
          have g4 : (0 : Int) ≤ (e : Int) := by omega
          have g5 : (e : Int) < ((e + 1 : Nat) : Int) := by omega
          have g6 : (e : Int) ≤ ((e + 1 : Nat) : Int) := by omega
          have g7 := digV_cut e F
          by_cases hd : dg F e = 0
          · have g8 : (((dg F e : Nat) : Int) == 0) = true := by rw [hd]; rfl
            have hFe : F < 65536 ^ e := by
              have h1 := div_step F e
              rw [Nat.div_eq_of_lt hq3, hd] at h1
              exact Nat.lt_of_div_eq_zero (bpow_pos _) (by omega)
            simp -implicitDefEqProofs (maxSteps := 10000000) only [vy_succ, vmB, slim, slimOp, gO, gSO, qSO, quietOp, cS, qSB, eK, calmOp, guardS, gK, qK, putK, plK, dOk, St.ev, St.get, St.mem, St.set, St.setm, St.put, lookA, look, newK, nextver, initT, seqE, blockQ, bodyQ, resK, retV, AV.rdv, agg_uV, ↓binK, ↓intK, unK, ↓loadK, ↓withKey_eq, ↓idxAddrK, ↓indexK, ↓partK, ↓fieldK, ↓fieldAddrK, ↓convK, ↓callK, wrG, updK, ↓lenK, ↓mmK, ↓appK, ↓copyK, ↓sliceK, ↓toArrK, nilK, evs, plains, seqParts, capsOf, capsD, AV.dv, AV.cont, ↓buildV_eq, fillL, placesOf, ↓storeK, wrL, RV.av, DV.av, List.set, Nat.reduceEqDiff, Nat.reduceAdd, Nat.reduceSub, Nat.reduceMul, Nat.reduceLT, Nat.reduceLeDiff, Nat.reduceMod, Nat.reduceDiv, Int.reduceLT, Int.reduceLE, Int.reduceToNat, ↓reduceIte, reduceCtorEq, Value.oneCell', Int.reduceAdd, Int.reduceSub, Int.reduceMod, Int.reduceMul, Int.reduceNeg, Int.reduceBEq, Int.reduceBNe, Int.reduceTDiv, Int.reduceTMod, Int.reduceEq, tyB, Try.underlying13, Try.underlying25, Try.underlying26, Try.underlying39, Try.underlying40, Try.underlying72, Try.underlying73, ltS, lq, g1, g2, g3, g4, g5, g6, g7, g8, Int.toNat_natCast, Nat.sub_zero]
            exact ⟨e, ⟨by omega, by omega, hFe⟩, Nat.lt_succ_self e, Sub.of (by simp -implicitDefEqProofs only [subT, ltS, look, lookA, newK, St.get, St.mem, List.map_cons, List.map_nil, List.all_cons, List.all_nil, List.length_cons, List.length_nil, List.getElem?_cons_zero, List.getElem?_cons_succ, Nat.reduceEqDiff, Nat.reduceAdd, Option.some.injEq, ↓reduceIte, true_and, and_true, reduceCtorEq, beq_self_eq_true, Bool.and_true, ne_eq, not_false_eq_true, not_true_eq_false, Nat.add_zero, Nat.zero_add, Nat.reduceSub, Nat.reduceMul, Int.cast_ofNat_Int, Int.reduceAdd, Int.reduceSub, Int.reduceMul]) trivial rfl⟩
          · have g8 : (((dg F e : Nat) : Int) == 0) = false := by simp; omega
            have hnd : nd F = e + 1 := nd_of ⟨by omega, hq3, .inr (by rw [Nat.add_sub_cancel]; exact hd)⟩
            simp -implicitDefEqProofs (maxSteps := 10000000) only [vy_succ, vmB, slim, slimOp, gO, gSO, qSO, quietOp, cS, qSB, eK, calmOp, guardS, gK, qK, putK, plK, dOk, St.ev, St.get, St.mem, St.set, St.setm, St.put, lookA, look, newK, nextver, initT, seqE, blockQ, bodyQ, resK, retV, AV.rdv, agg_uV, ↓binK, ↓intK, unK, ↓loadK, ↓withKey_eq, ↓idxAddrK, ↓indexK, ↓partK, ↓fieldK, ↓fieldAddrK, ↓convK, ↓callK, wrG, updK, ↓lenK, ↓mmK, ↓appK, ↓copyK, ↓sliceK, ↓toArrK, nilK, evs, plains, seqParts, capsOf, capsD, AV.dv, AV.cont, ↓buildV_eq, fillL, placesOf, ↓storeK, wrL, RV.av, DV.av, List.set, Nat.reduceEqDiff, Nat.reduceAdd, Nat.reduceSub, Nat.reduceMul, Nat.reduceLT, Nat.reduceLeDiff, Nat.reduceMod, Nat.reduceDiv, Int.reduceLT, Int.reduceLE, Int.reduceToNat, ↓reduceIte, reduceCtorEq, Value.oneCell', Int.reduceAdd, Int.reduceSub, Int.reduceMod, Int.reduceMul, Int.reduceNeg, Int.reduceBEq, Int.reduceBNe, Int.reduceTDiv, Int.reduceTMod, Int.reduceEq, tyB, Try.underlying13, Try.underlying25, Try.underlying26, Try.underlying39, Try.underlying40, Try.underlying72, Try.underlying73, ltS, lq, g1, g2, g3, g4, g5, g6, g7, g8, r2, Int.toNat_natCast]
            exact ⟨j, by omega, Nat.lt_succ_self j, Sub.of (by simp -implicitDefEqProofs only [subT, lfS, hF, hnd, look, lookA, newK, St.get, St.mem, List.map_cons, List.map_nil, List.all_cons, List.all_nil, List.length_cons, List.length_nil, List.getElem?_cons_zero, List.getElem?_cons_succ, Nat.reduceEqDiff, Nat.reduceAdd, Option.some.injEq, ↓reduceIte, true_and, and_true, reduceCtorEq, beq_self_eq_true, Bool.and_true, ne_eq, not_false_eq_true, not_true_eq_false, Nat.add_zero, Nat.zero_add, Nat.reduceSub, Nat.reduceMul, Int.cast_ofNat_Int, Int.reduceAdd, Int.reduceSub, Int.reduceMul]) trivial rfl⟩

theorem left_ok : ∀ ds r, leftG ds = some r → Spec Try.prog 87 ds r := by
  intro ds r h
  unfold leftG at h
  split at h
  case h_2 => cases h
  rename_i xs ys
  split at h
  case h_2 => cases h
  rename_i n x m y hx hy
  split at h
  case isFalse => cases h
  rename_i hb
  cases h
  obtain ⟨rfl, hx'⟩ := toD_out hx
  obtain ⟨rfl, hy'⟩ := toD_out hy
  exact left_walk n x m y hx' hy' hb.1 hb.2
end Go.Vm

/- The law U256Lefts, as the machine walks it. No condition. -/
set_option maxRecDepth 100000
set_option linter.unusedSimpArgs false
set_option linter.unusedVariables false
namespace Go.Vm
open Go Go.RowKit Go.Proofs

theorem digV_one (n x : Nat) : (digV n x).all Value.oneCell' = true := by rw [digV_eq]; simp [Value.oneCell']
theorem digV_app (n a b : Nat) (m : Nat) (ha : a < 65536 ^ n) : digV n a ++ digV m b = digV (n + m) (a + b * 65536 ^ n) := by
  rw [digV_eq, digV_eq, digV_eq]
  apply List.ext_getElem
  · simp
  · intro j h1 h2
    by_cases h : j < n
    · rw [List.getElem_append_left (by simpa using h)]
      simp only [List.getElem_map, List.getElem_range]
      have e : dg (a + b * 65536 ^ n) j = dg a j := by
        rw [dg_eq, dg_eq]
        have e2 : b * 65536 ^ n = 65536 ^ j * (65536 * (b * 65536 ^ (n - j - 1))) := by
          have : 65536 ^ n = 65536 ^ j * (65536 * 65536 ^ (n - j - 1)) := by
            rw [← Nat.pow_succ', ← Nat.pow_add]; congr 1; omega
          rw [this]
          simp only [Nat.mul_left_comm, Nat.mul_comm, Nat.mul_assoc]
        rw [e2, Nat.add_mul_div_left _ _ (bpow_pos j), Nat.add_mul_mod_self_left]
      rw [e]
    · rw [List.getElem_append_right (by simpa using h)]
      simp only [List.getElem_map, List.getElem_range, List.length_map, List.length_range]
      have e : dg (a + b * 65536 ^ n) j = dg b (j - n) := by
        have e3 : 65536 ^ j = 65536 ^ n * 65536 ^ (j - n) := by rw [← Nat.pow_add]; congr 1; omega
        rw [dg_eq, dg_eq, e3, ← Nat.div_div_eq_div_mul, Nat.add_mul_div_right _ _ (bpow_pos n), Nat.div_eq_of_lt ha, Nat.zero_add]
      rw [e]
theorem toD_32 {a b : Nat} (ha : a < full) (hb : b < full) : toD (digV 32 (a + b * full)) = some (32, a + b * full) := by
  apply toD_digV
  have e : (65536 : Nat) ^ 32 = full * full := by rw [full_d, ← Nat.pow_add]
  rw [e]
  have : (b + 1) * full ≤ full * full := Nat.mul_le_mul_right _ (by omega)
  rw [Nat.add_mul, Nat.one_mul] at this
  omega
theorem digV_32 {a b : Nat} (ha : a < full) : digV 16 a ++ digV 16 b = digV 32 (a + b * full) := by
  have := digV_app 16 a b 16 (by rw [← full_d]; exact ha)
  rw [← full_d] at this
  exact this

end Go.Vm

/- Contracts of the field's reference; the law FieldReckons, as the machine walks it. No condition. -/
set_option maxRecDepth 100000
set_option linter.unusedSimpArgs false
set_option linter.unusedVariables false
namespace Go.Vm
open Go Go.RowKit Go.Proofs

theorem uV_p0 : Value.agg #[.int .u64 18446744069414583343, .int .u64 18446744073709551615, .int .u64 18446744073709551615, .int .u64 18446744073709551615] = uV (pN 0) := by
  have := uV_of (x := pN 0) (a := 18446744069414583343) (b := 18446744073709551615) (c := 18446744073709551615) (d := 18446744073709551615) (by omega) (by omega) (by omega) (by omega) (by rw [pN_eq, cOf_eq]; simp only [num, full_eq]; simp)
  exact this.symm
theorem uV_p1 : Value.agg #[.int .u64 13822214165235122497, .int .u64 13451932020343611451, .int .u64 18446744073709551614, .int .u64 18446744073709551615] = uV (pN 1) := by
  have := uV_of (x := pN 1) (a := 13822214165235122497) (b := 13451932020343611451) (c := 18446744073709551614) (d := 18446744073709551615) (by omega) (by omega) (by omega) (by omega) (by rw [pN_eq, cOf_eq]; simp only [num, full_eq]; simp)
  exact this.symm
theorem isW_cases {w : Int} (h : isW w = true) : w = 0 ∨ w = 1 := by
  unfold isW at h
  simpa using h

noncomputable def rmodG : List DV → Option RV
  | [.pl (.int .i64 w)] => if isW w = true then some (.one (.pl (uV (pN w)))) else none
  | _ => none
theorem rmod_ok : ∀ ds r, rmodG ds = some r → Spec Try.prog 36 ds r := by
  intro ds r h
  unfold rmodG at h
  split at h
  case h_2 => cases h
  rename_i w
  split at h
  case isFalse => cases h
  rename_i hw
  cases h
  have hΓ : Env.ok [] Try.prog := ok_nil _
  refine Spec.of_vx hΓ follows_mixed Try.func36 rfl (by kernel_rfl) (T := []) (by simp [Try.ntmps36]) (by kernel_rfl) rfl Try.ntmps36 (res := [.cell 2 24]) rfl ?_
  intro W
  rcases isW_cases hw with rfl | rfl
  · simp -implicitDefEqProofs (maxSteps := 10000000) only [vy_succ, vmB, slim, slimOp, gO, gSO, qSO, quietOp, cS, qSB, eK, calmOp, guardS, gK, qK, putK, plK, dOk, St.ev, St.get, St.mem, St.set, St.setm, St.put, lookA, look, newK, nextver, initT, seqE, blockQ, bodyQ, resK, retV, AV.rdv, agg_uV, ↓binK, ↓intK, unK, ↓loadK, ↓withKey_eq, ↓idxAddrK, ↓indexK, ↓partK, ↓fieldK, ↓fieldAddrK, ↓convK, ↓callK, wrG, updK, ↓lenK, ↓mmK, ↓appK, ↓copyK, ↓sliceK, ↓toArrK, nilK, evs, plains, seqParts, capsOf, capsD, AV.dv, AV.cont, ↓buildV_eq, fillL, placesOf, ↓storeK, wrL, RV.av, DV.av, List.set, Nat.reduceEqDiff, Nat.reduceAdd, Nat.reduceSub, Nat.reduceMul, Nat.reduceLT, Nat.reduceLeDiff, Nat.reduceMod, Nat.reduceDiv, Int.reduceLT, Int.reduceLE, Int.reduceToNat, ↓reduceIte, reduceCtorEq, Value.oneCell', Int.reduceAdd, Int.reduceSub, Int.reduceMod, Int.reduceMul, Int.reduceNeg, Int.reduceBEq, Int.reduceBNe, Int.reduceTDiv, Int.reduceTMod, Int.reduceEq, tyB, Try.underlying13, Try.underlying25, Try.underlying26, Try.underlying39, Try.underlying40, Try.underlying72, Try.underlying73, uV_p0]
  · simp -implicitDefEqProofs (maxSteps := 10000000) only [vy_succ, vmB, slim, slimOp, gO, gSO, qSO, quietOp, cS, qSB, eK, calmOp, guardS, gK, qK, putK, plK, dOk, St.ev, St.get, St.mem, St.set, St.setm, St.put, lookA, look, newK, nextver, initT, seqE, blockQ, bodyQ, resK, retV, AV.rdv, agg_uV, ↓binK, ↓intK, unK, ↓loadK, ↓withKey_eq, ↓idxAddrK, ↓indexK, ↓partK, ↓fieldK, ↓fieldAddrK, ↓convK, ↓callK, wrG, updK, ↓lenK, ↓mmK, ↓appK, ↓copyK, ↓sliceK, ↓toArrK, nilK, evs, plains, seqParts, capsOf, capsD, AV.dv, AV.cont, ↓buildV_eq, fillL, placesOf, ↓storeK, wrL, RV.av, DV.av, List.set, Nat.reduceEqDiff, Nat.reduceAdd, Nat.reduceSub, Nat.reduceMul, Nat.reduceLT, Nat.reduceLeDiff, Nat.reduceMod, Nat.reduceDiv, Int.reduceLT, Int.reduceLE, Int.reduceToNat, ↓reduceIte, reduceCtorEq, Value.oneCell', Int.reduceAdd, Int.reduceSub, Int.reduceMod, Int.reduceMul, Int.reduceNeg, Int.reduceBEq, Int.reduceBNe, Int.reduceTDiv, Int.reduceTMod, Int.reduceEq, tyB, Try.underlying13, Try.underlying25, Try.underlying26, Try.underlying39, Try.underlying40, Try.underlying72, Try.underlying73, uV_p1]

noncomputable def rleftG : List DV → Option RV
  | [.vec xs, .pl (.int .i64 w)] => match toD xs with
    | some (n, x) => if n ≤ 300 ∧ isW w = true then some (.one (.pl (uV (x % pN w)))) else none
    | none => none
  | _ => none
theorem rleft_ok : ∀ ds r, rleftG ds = some r → Spec Try.prog 61 ds r := by
  intro ds r h
  unfold rleftG at h
  split at h
  case h_2 => cases h
  rename_i xs w
  split at h
  case h_2 => cases h
  rename_i n x hx
  split at h
  case isFalse => cases h
  rename_i hb
  obtain ⟨hn, hw⟩ := hb
  cases h
  obtain ⟨rfl, hlt⟩ := toD_out hx
  have hΓ : Env.ok [(36, rmodG), (35, ofG), (87, leftG), (75, toG)] Try.prog := ok_cons rmod_ok (ok_cons of_ok (ok_cons left_ok (ok_cons to_ok (ok_nil _))))
  have tp : toN (uV (pN w)) = some (pN w) := toN_lt (pN_lt w)
  have dp := toD_16 (pN_lt w)
  have c0 : (n + 16 ≤ 400) = True := eq_true (by omega)
  have c1 : (0 < pN w) = True := eq_true (pN_pos w)
  obtain ⟨hnd, hnl⟩ := nd_spec (show x % pN w < 65536 ^ 16 by rw [← full_d]; exact mod_pN x w)
  have tr := toD_digV hnd.2.1
  have c2 : (nd (x % pN w) ≤ 1000) = True := eq_true (by omega)
  refine Spec.of_vx hΓ follows_mixed Try.func61 rfl (by kernel_rfl) (T := []) (by simp [Try.ntmps61]) (by kernel_rfl) rfl Try.ntmps61 (res := [.cell 4 24]) rfl ?_
  intro W
  simp -implicitDefEqProofs (maxSteps := 10000000) only [vy_succ, vmB, slim, slimOp, gO, gSO, qSO, quietOp, cS, qSB, eK, calmOp, guardS, gK, qK, putK, plK, dOk, St.ev, St.get, St.mem, St.set, St.setm, St.put, lookA, look, newK, nextver, initT, seqE, blockQ, bodyQ, resK, retV, AV.rdv, agg_uV, ↓binK, ↓intK, unK, ↓loadK, ↓withKey_eq, ↓idxAddrK, ↓indexK, ↓partK, ↓fieldK, ↓fieldAddrK, ↓convK, ↓callK, wrG, updK, ↓lenK, ↓mmK, ↓appK, ↓copyK, ↓sliceK, ↓toArrK, nilK, evs, plains, seqParts, capsOf, capsD, AV.dv, AV.cont, ↓buildV_eq, fillL, placesOf, ↓storeK, wrL, RV.av, DV.av, List.set, Nat.reduceEqDiff, Nat.reduceAdd, Nat.reduceSub, Nat.reduceMul, Nat.reduceLT, Nat.reduceLeDiff, Nat.reduceMod, Nat.reduceDiv, Int.reduceLT, Int.reduceLE, Int.reduceToNat, ↓reduceIte, reduceCtorEq, Value.oneCell', Int.reduceAdd, Int.reduceSub, Int.reduceMod, Int.reduceMul, Int.reduceNeg, Int.reduceBEq, Int.reduceBNe, Int.reduceTDiv, Int.reduceTMod, Int.reduceEq, tyB, Try.underlying13, Try.underlying25, Try.underlying26, Try.underlying39, Try.underlying40, Try.underlying72, Try.underlying73, rmodG, ofG, leftG, toG, hw, hx, tp, dp, c0, c1, c2, tr]

noncomputable def raddG : List DV → Option RV
  | [.pl va, .pl vb, .pl (.int .i64 w)] => match toN va, toN vb with
    | some a, some b => if isW w = true then some (.one (.pl (uV ((a + b) % pN w)))) else none
    | _, _ => none
  | _ => none
theorem radd_ok : ∀ ds r, raddG ds = some r → Spec Try.prog 70 ds r := by
  intro ds r h
  unfold raddG at h
  split at h
  case h_2 => cases h
  rename_i va vb w
  split at h
  case h_2 => cases h
  rename_i a b ha hb
  split at h
  case isFalse => cases h
  rename_i hw
  cases h
  obtain ⟨rfl, ha'⟩ := toN_eq ha
  obtain ⟨rfl, hb'⟩ := toN_eq hb
  have hΓ : Env.ok [(35, ofG), (63, sumG), (61, rleftG)] Try.prog := ok_cons of_ok (ok_cons sum_ok (ok_cons rleft_ok (ok_nil _)))
  have da := toD_16 ha'
  have db := toD_16 hb'
  have ds := toD_digV (sumN_lt (show a < 65536 ^ 16 by rw [← full_d]; exact ha') (show b < 65536 ^ 16 by rw [← full_d]; exact hb'))
  have hle := sumN_le 16 a 16 b
  have c0 : (sumN 16 a 16 b ≤ 300) = True := eq_true (by omega)
  refine Spec.of_vx hΓ follows_mixed Try.func70 rfl (by kernel_rfl) (T := []) (by simp [Try.ntmps70]) (by kernel_rfl) rfl Try.ntmps70 (res := [.cell 6 24]) rfl ?_
  intro W
  simp -implicitDefEqProofs (maxSteps := 10000000) only [vy_succ, vmB, slim, slimOp, gO, gSO, qSO, quietOp, cS, qSB, eK, calmOp, guardS, gK, qK, putK, plK, dOk, St.ev, St.get, St.mem, St.set, St.setm, St.put, lookA, look, newK, nextver, initT, seqE, blockQ, bodyQ, resK, retV, AV.rdv, agg_uV, ↓binK, ↓intK, unK, ↓loadK, ↓withKey_eq, ↓idxAddrK, ↓indexK, ↓partK, ↓fieldK, ↓fieldAddrK, ↓convK, ↓callK, wrG, updK, ↓lenK, ↓mmK, ↓appK, ↓copyK, ↓sliceK, ↓toArrK, nilK, evs, plains, seqParts, capsOf, capsD, AV.dv, AV.cont, ↓buildV_eq, fillL, placesOf, ↓storeK, wrL, RV.av, DV.av, List.set, Nat.reduceEqDiff, Nat.reduceAdd, Nat.reduceSub, Nat.reduceMul, Nat.reduceLT, Nat.reduceLeDiff, Nat.reduceMod, Nat.reduceDiv, Int.reduceLT, Int.reduceLE, Int.reduceToNat, ↓reduceIte, reduceCtorEq, Value.oneCell', Int.reduceAdd, Int.reduceSub, Int.reduceMod, Int.reduceMul, Int.reduceNeg, Int.reduceBEq, Int.reduceBNe, Int.reduceTDiv, Int.reduceTMod, Int.reduceEq, tyB, Try.underlying13, Try.underlying25, Try.underlying26, Try.underlying39, Try.underlying40, Try.underlying72, Try.underlying73, ofG, sumG, rleftG, hw, ha, hb, da, db, ds, c0]

noncomputable def rsubG : List DV → Option RV
  | [.pl va, .pl vb, .pl (.int .i64 w)] => match toN va, toN vb with
    | some a, some b => if isW w = true then some (.one (.pl (uV ((a + (pN w + pN w) - b) % pN w)))) else none
    | _, _ => none
  | _ => none
theorem rsub_ok : ∀ ds r, rsubG ds = some r → Spec Try.prog 24 ds r := by
  intro ds r h
  unfold rsubG at h
  split at h
  case h_2 => cases h
  rename_i va vb w
  split at h
  case h_2 => cases h
  rename_i a b ha hb
  split at h
  case isFalse => cases h
  rename_i hw
  cases h
  obtain ⟨rfl, ha'⟩ := toN_eq ha
  obtain ⟨rfl, hb'⟩ := toN_eq hb
  have hΓ : Env.ok [(36, rmodG), (35, ofG), (63, sumG), (64, takeG), (61, rleftG)] Try.prog := ok_cons rmod_ok (ok_cons of_ok (ok_cons sum_ok (ok_cons take_ok (ok_cons rleft_ok (ok_nil _)))))
  have tp : toN (uV (pN w)) = some (pN w) := toN_lt (pN_lt w)
  have da := toD_16 ha'
  have db := toD_16 hb'
  have dp := toD_16 (pN_lt w)
  have hp16 : pN w < 65536 ^ 16 := by rw [← full_d]; exact pN_lt w
  have l1 := sumN_lt hp16 hp16
  have e1 := sumN_le 16 (pN w) 16 (pN w)
  generalize hk1 : sumN 16 (pN w) 16 (pN w) = k1 at *
  have d1 := toD_digV l1
  have l2 := sumN_lt (show a < 65536 ^ 16 by rw [← full_d]; exact ha') l1
  have e2 := sumN_le 16 a k1 (pN w + pN w)
  generalize hk2 : sumN 16 a k1 (pN w + pN w) = k2 at *
  have d2 := toD_digV l2
  have hbig := pN_big w
  have d3 : toD (digV k2 (a + (pN w + pN w) - b)) = some (k2, a + (pN w + pN w) - b) := toD_digV (by omega)
  have c0 : (16 + k1 ≤ 1000) = True := eq_true (by omega)
  have c1 : (k2 + 16 ≤ 1000) = True := eq_true (by omega)
  have c2 : (b ≤ a + (pN w + pN w)) = True := eq_true (by omega)
  have c3 : (k2 ≤ 300) = True := eq_true (by omega)
  refine Spec.of_vx hΓ follows_mixed Try.func24 rfl (by kernel_rfl) (T := []) (by simp [Try.ntmps24]) (by kernel_rfl) rfl Try.ntmps24 (res := [.cell 6 24]) rfl ?_
  intro W
  simp -implicitDefEqProofs (maxSteps := 10000000) only [vy_succ, vmB, slim, slimOp, gO, gSO, qSO, quietOp, cS, qSB, eK, calmOp, guardS, gK, qK, putK, plK, dOk, St.ev, St.get, St.mem, St.set, St.setm, St.put, lookA, look, newK, nextver, initT, seqE, blockQ, bodyQ, resK, retV, AV.rdv, agg_uV, ↓binK, ↓intK, unK, ↓loadK, ↓withKey_eq, ↓idxAddrK, ↓indexK, ↓partK, ↓fieldK, ↓fieldAddrK, ↓convK, ↓callK, wrG, updK, ↓lenK, ↓mmK, ↓appK, ↓copyK, ↓sliceK, ↓toArrK, nilK, evs, plains, seqParts, capsOf, capsD, AV.dv, AV.cont, ↓buildV_eq, fillL, placesOf, ↓storeK, wrL, RV.av, DV.av, List.set, Nat.reduceEqDiff, Nat.reduceAdd, Nat.reduceSub, Nat.reduceMul, Nat.reduceLT, Nat.reduceLeDiff, Nat.reduceMod, Nat.reduceDiv, Int.reduceLT, Int.reduceLE, Int.reduceToNat, ↓reduceIte, reduceCtorEq, Value.oneCell', Int.reduceAdd, Int.reduceSub, Int.reduceMod, Int.reduceMul, Int.reduceNeg, Int.reduceBEq, Int.reduceBNe, Int.reduceTDiv, Int.reduceTMod, Int.reduceEq, tyB, Try.underlying13, Try.underlying25, Try.underlying26, Try.underlying39, Try.underlying40, Try.underlying72, Try.underlying73, rmodG, ofG, sumG, takeG, rleftG, hw, ha, hb, tp, da, db, dp, hk1, hk2, d1, d2, d3, c0, c1, c2, c3]

noncomputable def rmulG : List DV → Option RV
  | [.pl va, .pl vb, .pl (.int .i64 w)] => match toN va, toN vb with
    | some a, some b => if isW w = true then some (.one (.pl (uV (a * b % pN w)))) else none
    | _, _ => none
  | _ => none
theorem rmul_ok : ∀ ds r, rmulG ds = some r → Spec Try.prog 23 ds r := by
  intro ds r h
  unfold rmulG at h
  split at h
  case h_2 => cases h
  rename_i va vb w
  split at h
  case h_2 => cases h
  rename_i a b ha hb
  split at h
  case isFalse => cases h
  rename_i hw
  cases h
  obtain ⟨rfl, ha'⟩ := toN_eq ha
  obtain ⟨rfl, hb'⟩ := toN_eq hb
  have hΓ : Env.ok [(35, ofG), (62, timesG), (61, rleftG)] Try.prog := ok_cons of_ok (ok_cons times_ok (ok_cons rleft_ok (ok_nil _)))
  have da := toD_16 ha'
  have db := toD_16 hb'
  have hab : a * b < 65536 ^ 33 := by
    have h1 := mul_lt_full ha' hb'
    have e : full * full = 65536 ^ 32 := by rw [full_d, ← Nat.pow_add]
    have h2 : 65536 ^ 32 ≤ 65536 ^ 33 := pow_mono (by omega)
    omega
  have dp : toD (digV 33 (a * b)) = some (33, a * b) := toD_digV hab
  refine Spec.of_vx hΓ follows_mixed Try.func23 rfl (by kernel_rfl) (T := []) (by simp [Try.ntmps23]) (by kernel_rfl) rfl Try.ntmps23 (res := [.cell 6 24]) rfl ?_
  intro W
  simp -implicitDefEqProofs (maxSteps := 10000000) only [vy_succ, vmB, slim, slimOp, gO, gSO, qSO, quietOp, cS, qSB, eK, calmOp, guardS, gK, qK, putK, plK, dOk, St.ev, St.get, St.mem, St.set, St.setm, St.put, lookA, look, newK, nextver, initT, seqE, blockQ, bodyQ, resK, retV, AV.rdv, agg_uV, ↓binK, ↓intK, unK, ↓loadK, ↓withKey_eq, ↓idxAddrK, ↓indexK, ↓partK, ↓fieldK, ↓fieldAddrK, ↓convK, ↓callK, wrG, updK, ↓lenK, ↓mmK, ↓appK, ↓copyK, ↓sliceK, ↓toArrK, nilK, evs, plains, seqParts, capsOf, capsD, AV.dv, AV.cont, ↓buildV_eq, fillL, placesOf, ↓storeK, wrL, RV.av, DV.av, List.set, Nat.reduceEqDiff, Nat.reduceAdd, Nat.reduceSub, Nat.reduceMul, Nat.reduceLT, Nat.reduceLeDiff, Nat.reduceMod, Nat.reduceDiv, Int.reduceLT, Int.reduceLE, Int.reduceToNat, ↓reduceIte, reduceCtorEq, Value.oneCell', Int.reduceAdd, Int.reduceSub, Int.reduceMod, Int.reduceMul, Int.reduceNeg, Int.reduceBEq, Int.reduceBNe, Int.reduceTDiv, Int.reduceTMod, Int.reduceEq, tyB, Try.underlying13, Try.underlying25, Try.underlying26, Try.underlying39, Try.underlying40, Try.underlying72, Try.underlying73, ofG, timesG, rleftG, hw, ha, hb, da, db, dp]

theorem sub_same (a b p : Nat) (hp : 0 < p) (h : b ≤ a + (p + p)) : (a % p + (p - b % p)) % p = (a + (p + p) - b) % p := by
  have ha := Nat.div_add_mod a p
  have hb := Nat.div_add_mod b p
  have hbl := Nat.mod_lt b hp
  have hal := Nat.mod_lt a hp
  have e1 : (a % p + (p - b % p)) % p = (a % p + (p - b % p) + p * (a / p) + p) % p := by
    rw [Nat.add_mod_right, Nat.add_mul_mod_self_left]
  have e2 : (a + (p + p) - b) % p = (a + (p + p) - b + p * (b / p)) % p := by rw [Nat.add_mul_mod_self_left]
  rw [e1, e2]
  congr 1
  omega

def reckTree : OT := .alt 0 (.alt 1 (.alt 2 (.alt 3 (.alt 4 (.alt 5 (.alt 6 (.alt 7 (.done) (.stop)) (.stop)) (.stop)) (.stop)) (.alt 4 (.alt 3 (.alt 5 (.alt 6 (.alt 7 (.done) (.stop)) (.stop)) (.stop)) (.stop)) (.stop))) (.alt 4 (.alt 2 (.alt 3 (.alt 5 (.alt 6 (.alt 7 (.done) (.stop)) (.stop)) (.stop)) (.stop)) (.stop)) (.stop))) (.alt 4 (.alt 1 (.alt 2 (.alt 3 (.alt 5 (.alt 6 (.alt 7 (.done) (.stop)) (.stop)) (.stop)) (.stop)) (.stop)) (.stop)) (.stop))) (.alt 1 (.alt 0 (.alt 2 (.alt 3 (.alt 4 (.alt 5 (.alt 6 (.alt 7 (.done) (.stop)) (.stop)) (.stop)) (.stop)) (.alt 4 (.alt 3 (.alt 5 (.alt 6 (.alt 7 (.done) (.stop)) (.stop)) (.stop)) (.stop)) (.stop))) (.alt 4 (.alt 2 (.alt 3 (.alt 5 (.alt 6 (.alt 7 (.done) (.stop)) (.stop)) (.stop)) (.stop)) (.stop)) (.stop))) (.alt 2 (.alt 0 (.alt 3 (.alt 4 (.alt 5 (.alt 6 (.alt 7 (.done) (.stop)) (.stop)) (.stop)) (.stop)) (.alt 4 (.alt 3 (.alt 5 (.alt 6 (.alt 7 (.done) (.stop)) (.stop)) (.stop)) (.stop)) (.stop))) (.alt 4 (.alt 0 (.alt 3 (.alt 5 (.alt 6 (.alt 7 (.done) (.stop)) (.stop)) (.stop)) (.stop)) (.stop)) (.stop))) (.alt 4 (.alt 0 (.alt 2 (.alt 3 (.alt 5 (.alt 6 (.alt 7 (.done) (.stop)) (.stop)) (.stop)) (.stop)) (.stop)) (.alt 2 (.alt 0 (.alt 3 (.alt 5 (.alt 6 (.alt 7 (.done) (.stop)) (.stop)) (.stop)) (.stop)) (.stop)) (.stop))) (.stop)))) (.alt 4 (.alt 0 (.alt 1 (.alt 2 (.alt 3 (.alt 5 (.alt 6 (.alt 7 (.done) (.stop)) (.stop)) (.stop)) (.stop)) (.stop)) (.stop)) (.alt 1 (.alt 0 (.alt 2 (.alt 3 (.alt 5 (.alt 6 (.alt 7 (.done) (.stop)) (.stop)) (.stop)) (.stop)) (.stop)) (.alt 2 (.alt 0 (.alt 3 (.alt 5 (.alt 6 (.alt 7 (.done) (.stop)) (.stop)) (.stop)) (.stop)) (.stop)) (.stop))) (.stop))) (.stop)))

end Go.Vm

/- Contracts of the points' reference; at, alive, zero. No condition. -/
set_option maxRecDepth 100000
set_option linter.unusedSimpArgs false
set_option linter.unusedVariables false
namespace Go.Vm
open Go Go.RowKit Go.Proofs Go.Ec

theorem rsub_v (a b : Nat) (hb : b < full) : (a + (pN 0 + pN 0) - b) % pN 0 = (nc a - nc b).val := by
  rw [← sub_v]
  have h1 := pN_big 0
  have h2 := Nat.mod_add_div b (pN 0)
  have h3 := Nat.mod_lt b (pN_pos 0)
  have hb2 : b / pN 0 ≤ 1 := by
    have : b / pN 0 < 2 := Nat.div_lt_of_lt_mul (by rw [Nat.mul_comm]; omega)
    omega
  rw [Nat.mod_add_mod]
  generalize b / pN 0 = q at *
  rcases (show q = 0 ∨ q = 1 by omega) with h | h
  · rw [h, Nat.mul_zero, Nat.add_zero] at h2
    rw [show a + (pN 0 + pN 0) - b = a + (pN 0 - b % pN 0) + pN 0 by omega, Nat.add_mod_right]
  · rw [h, Nat.mul_one] at h2
    rw [show a + (pN 0 + pN 0) - b = a + (pN 0 - b % pN 0) by omega]
theorem rfAdd_ok : ∀ ds r, pAddG ds = some r → Spec Try.prog 32 ds r := by
  intro ds r h
  unfold pAddG at h
  split at h
  case h_2 => cases h
  rename_i va vb
  split at h
  case h_2 => cases h
  rename_i a b ha hb
  cases h
  obtain ⟨rfl, ha'⟩ := toN_eq ha
  obtain ⟨rfl, hb'⟩ := toN_eq hb
  have hΓ : Env.ok [(70, raddG)] Try.prog := ok_cons radd_ok (ok_nil _)
  refine Spec.of_vx hΓ follows_mixed Try.func32 rfl (by kernel_rfl) (T := []) (by simp [Try.ntmps32]) (by kernel_rfl) rfl Try.ntmps32 (res := [.cell 4 24]) rfl ?_
  intro W
  simp -implicitDefEqProofs (maxSteps := 10000000) only [vy_succ, vmB, slim, slimOp, gO, gSO, qSO, quietOp, cS, qSB, eK, calmOp, guardS, gK, qK, putK, plK, dOk, St.ev, St.get, St.mem, St.set, St.setm, St.put, lookA, look, newK, nextver, initT, seqE, blockQ, bodyQ, resK, retV, AV.rdv, agg_uV, ↓binK, ↓intK, unK, ↓loadK, ↓withKey_eq, ↓idxAddrK, ↓indexK, ↓partK, ↓fieldK, ↓fieldAddrK, ↓convK, ↓callK, wrG, updK, ↓lenK, ↓mmK, ↓appK, ↓copyK, ↓sliceK, ↓toArrK, nilK, evs, plains, seqParts, capsOf, capsD, AV.dv, AV.cont, ↓buildV_eq, fillL, placesOf, ↓storeK, wrL, RV.av, DV.av, List.set, Nat.reduceEqDiff, Nat.reduceAdd, Nat.reduceSub, Nat.reduceMul, Nat.reduceLT, Nat.reduceLeDiff, Nat.reduceMod, Nat.reduceDiv, Int.reduceLT, Int.reduceLE, Int.reduceToNat, ↓reduceIte, reduceCtorEq, Value.oneCell', Int.reduceAdd, Int.reduceSub, Int.reduceMod, Int.reduceMul, Int.reduceNeg, Int.reduceBEq, Int.reduceBNe, Int.reduceTDiv, Int.reduceTMod, Int.reduceEq, tyB, Try.underlying13, Try.underlying25, Try.underlying26, Try.underlying39, Try.underlying40, Try.underlying72, Try.underlying73, raddG, ha, hb, isW0, add_v]
theorem rfMul_ok : ∀ ds r, pMulG ds = some r → Spec Try.prog 31 ds r := by
  intro ds r h
  unfold pMulG at h
  split at h
  case h_2 => cases h
  rename_i va vb
  split at h
  case h_2 => cases h
  rename_i a b ha hb
  cases h
  obtain ⟨rfl, ha'⟩ := toN_eq ha
  obtain ⟨rfl, hb'⟩ := toN_eq hb
  have hΓ : Env.ok [(23, rmulG)] Try.prog := ok_cons rmul_ok (ok_nil _)
  refine Spec.of_vx hΓ follows_mixed Try.func31 rfl (by kernel_rfl) (T := []) (by simp [Try.ntmps31]) (by kernel_rfl) rfl Try.ntmps31 (res := [.cell 4 24]) rfl ?_
  intro W
  simp -implicitDefEqProofs (maxSteps := 10000000) only [vy_succ, vmB, slim, slimOp, gO, gSO, qSO, quietOp, cS, qSB, eK, calmOp, guardS, gK, qK, putK, plK, dOk, St.ev, St.get, St.mem, St.set, St.setm, St.put, lookA, look, newK, nextver, initT, seqE, blockQ, bodyQ, resK, retV, AV.rdv, agg_uV, ↓binK, ↓intK, unK, ↓loadK, ↓withKey_eq, ↓idxAddrK, ↓indexK, ↓partK, ↓fieldK, ↓fieldAddrK, ↓convK, ↓callK, wrG, updK, ↓lenK, ↓mmK, ↓appK, ↓copyK, ↓sliceK, ↓toArrK, nilK, evs, plains, seqParts, capsOf, capsD, AV.dv, AV.cont, ↓buildV_eq, fillL, placesOf, ↓storeK, wrL, RV.av, DV.av, List.set, Nat.reduceEqDiff, Nat.reduceAdd, Nat.reduceSub, Nat.reduceMul, Nat.reduceLT, Nat.reduceLeDiff, Nat.reduceMod, Nat.reduceDiv, Int.reduceLT, Int.reduceLE, Int.reduceToNat, ↓reduceIte, reduceCtorEq, Value.oneCell', Int.reduceAdd, Int.reduceSub, Int.reduceMod, Int.reduceMul, Int.reduceNeg, Int.reduceBEq, Int.reduceBNe, Int.reduceTDiv, Int.reduceTMod, Int.reduceEq, tyB, Try.underlying13, Try.underlying25, Try.underlying26, Try.underlying39, Try.underlying40, Try.underlying72, Try.underlying73, rmulG, ha, hb, isW0, mul_v]
theorem rfRed_ok : ∀ ds r, redG ds = some r → Spec Try.prog 30 ds r := by
  intro ds r h
  unfold redG at h
  split at h
  case h_2 => cases h
  rename_i va
  split at h
  case h_2 => cases h
  rename_i a ha
  cases h
  obtain ⟨rfl, ha'⟩ := toN_eq ha
  have hΓ : Env.ok [(36, rmodG), (35, ofG), (37, lessG)] Try.prog := ok_cons rmod_ok (ok_cons of_ok (ok_cons less_ok (ok_nil _)))
  have tp : toN (uV (pN 0)) = some (pN 0) := toN_lt (pN_lt 0)
  have p16 : full = 65536 ^ 16 := by rw [full_eq]
  have d1 : toD (digV 16 a) = some (16, a) := toD_digV (by rw [← p16]; exact ha')
  have d2 : toD (digV 16 (pN 0)) = some (16, pN 0) := toD_digV (by rw [← p16]; exact pN_lt 0)
  refine Spec.of_vx hΓ follows_mixed Try.func30 rfl (by kernel_rfl) (T := []) (by simp [Try.ntmps30]) (by kernel_rfl) rfl Try.ntmps30 (res := [.tmp 2]) rfl ?_
  intro W
  simp -implicitDefEqProofs (maxSteps := 10000000) only [vy_succ, vmB, slim, slimOp, gO, gSO, qSO, quietOp, cS, qSB, eK, calmOp, guardS, gK, qK, putK, plK, dOk, St.ev, St.get, St.mem, St.set, St.setm, St.put, lookA, look, newK, nextver, initT, seqE, blockQ, bodyQ, resK, retV, AV.rdv, agg_uV, ↓binK, ↓intK, unK, ↓loadK, ↓withKey_eq, ↓idxAddrK, ↓indexK, ↓partK, ↓fieldK, ↓fieldAddrK, ↓convK, ↓callK, wrG, updK, ↓lenK, ↓mmK, ↓appK, ↓copyK, ↓sliceK, ↓toArrK, nilK, evs, plains, seqParts, capsOf, capsD, AV.dv, AV.cont, ↓buildV_eq, fillL, placesOf, ↓storeK, wrL, RV.av, DV.av, List.set, Nat.reduceEqDiff, Nat.reduceAdd, Nat.reduceSub, Nat.reduceMul, Nat.reduceLT, Nat.reduceLeDiff, Nat.reduceMod, Nat.reduceDiv, Int.reduceLT, Int.reduceLE, Int.reduceToNat, ↓reduceIte, reduceCtorEq, Value.oneCell', Int.reduceAdd, Int.reduceSub, Int.reduceMod, Int.reduceMul, Int.reduceNeg, Int.reduceBEq, Int.reduceBNe, Int.reduceTDiv, Int.reduceTMod, Int.reduceEq, tyB, Try.underlying13, Try.underlying25, Try.underlying26, Try.underlying39, Try.underlying40, Try.underlying72, Try.underlying73, rmodG, ofG, lessG, ha, tp, isW0, d1, d2]
set_option maxHeartbeats 4000000 in
theorem ron_walk (x y : Nat) (b : Bool) (hx : x < full) (hy : y < full) : Spec Try.prog 8 [.pl (ptV x y b)] (.one (.pl (.bool (onB x y b)))) := by
  have hΓ : Env.ok [(30, redG), (31, pMulG), (32, pAddG)] Try.prog := ok_cons rfRed_ok (ok_cons rfMul_ok (ok_cons rfAdd_ok (ok_nil _)))
  have tx : toN (uV x) = some x := toN_lt hx
  have ty : toN (uV y) = some y := toN_lt hy
  have mx : x % full = x := Nat.mod_eq_of_lt hx
  have my : y % full = y := Nat.mod_eq_of_lt hy
  have z0 := full_pos
  refine Spec.of_vx hΓ follows_mixed Try.func8 rfl (by kernel_rfl) (T := []) (by simp [Try.ntmps8]) (by kernel_rfl) rfl Try.ntmps8 (res := [.tmp 2]) rfl ?_
  intro W
  cases b with
  | true =>
    have e : onB x y true = (eqU x 0 && eqU y 0) := by
      unfold onB
      rw [if_pos rfl, eqU_lt hx z0, eqU_lt hy z0]
      simp
    simp -implicitDefEqProofs (maxSteps := 10000000) only [vy_succ, vmB, slim, slimOp, gO, gSO, qSO, quietOp, cS, qSB, eK, calmOp, guardS, gK, qK, putK, plK, dOk, St.ev, St.get, St.mem, St.set, St.setm, St.put, lookA, look, newK, nextver, initT, seqE, blockQ, bodyQ, resK, retV, AV.rdv, agg_uV, ↓binK, ↓intK, unK, ↓loadK, ↓withKey_eq, ↓idxAddrK, ↓indexK, ↓partK, ↓fieldK, ↓fieldAddrK, ↓convK, ↓callK, wrG, updK, ↓lenK, ↓mmK, ↓appK, ↓copyK, ↓sliceK, ↓toArrK, nilK, evs, plains, seqParts, capsOf, capsD, AV.dv, AV.cont, ↓buildV_eq, fillL, placesOf, ↓storeK, wrL, RV.av, DV.av, List.set, Nat.reduceEqDiff, Nat.reduceAdd, Nat.reduceSub, Nat.reduceMul, Nat.reduceLT, Nat.reduceLeDiff, Nat.reduceMod, Nat.reduceDiv, Int.reduceLT, Int.reduceLE, Int.reduceToNat, ↓reduceIte, reduceCtorEq, Value.oneCell', Int.reduceAdd, Int.reduceSub, Int.reduceMod, Int.reduceMul, Int.reduceNeg, Int.reduceBEq, Int.reduceBNe, Int.reduceTDiv, Int.reduceTMod, Int.reduceEq, tyB, Try.underlying13, Try.underlying25, Try.underlying26, Try.underlying39, Try.underlying40, Try.underlying72, Try.underlying73, redG, pMulG, pAddG, tx, ty, cells_pt, agg_pt, isNil_pt, ptV_lit, cells_w, agg_w, isNil_w, valm, ↓binK_eqPt, ↓binK_eqU, ↓binK_neU, eqU_v, e]
  | false =>
    have e : onB x y false = ((decide (x < pN 0) && decide (y < pN 0)) && decide (nc y * nc y = nc x * nc x * nc x + 7)) := by
      unfold onB
      rw [if_neg (by decide)]
      simp only [Bool.decide_and]
    cases h1 : decide (x < pN 0)
    · rw [h1, Bool.false_and, Bool.false_and] at e
      simp -implicitDefEqProofs (maxSteps := 10000000) only [vy_succ, vmB, slim, slimOp, gO, gSO, qSO, quietOp, cS, qSB, eK, calmOp, guardS, gK, qK, putK, plK, dOk, St.ev, St.get, St.mem, St.set, St.setm, St.put, lookA, look, newK, nextver, initT, seqE, blockQ, bodyQ, resK, retV, AV.rdv, agg_uV, ↓binK, ↓intK, unK, ↓loadK, ↓withKey_eq, ↓idxAddrK, ↓indexK, ↓partK, ↓fieldK, ↓fieldAddrK, ↓convK, ↓callK, wrG, updK, ↓lenK, ↓mmK, ↓appK, ↓copyK, ↓sliceK, ↓toArrK, nilK, evs, plains, seqParts, capsOf, capsD, AV.dv, AV.cont, ↓buildV_eq, fillL, placesOf, ↓storeK, wrL, RV.av, DV.av, List.set, Nat.reduceEqDiff, Nat.reduceAdd, Nat.reduceSub, Nat.reduceMul, Nat.reduceLT, Nat.reduceLeDiff, Nat.reduceMod, Nat.reduceDiv, Int.reduceLT, Int.reduceLE, Int.reduceToNat, ↓reduceIte, reduceCtorEq, Value.oneCell', Int.reduceAdd, Int.reduceSub, Int.reduceMod, Int.reduceMul, Int.reduceNeg, Int.reduceBEq, Int.reduceBNe, Int.reduceTDiv, Int.reduceTMod, Int.reduceEq, tyB, Try.underlying13, Try.underlying25, Try.underlying26, Try.underlying39, Try.underlying40, Try.underlying72, Try.underlying73, redG, pMulG, pAddG, tx, ty, cells_pt, agg_pt, isNil_pt, ptV_lit, cells_w, agg_w, isNil_w, valm, ↓binK_eqPt, ↓binK_eqU, ↓binK_neU, eqU_v, h1, e]
    · rw [h1, Bool.true_and] at e
      cases h2 : decide (y < pN 0)
      · rw [h2, Bool.false_and] at e
        simp -implicitDefEqProofs (maxSteps := 10000000) only [vy_succ, vmB, slim, slimOp, gO, gSO, qSO, quietOp, cS, qSB, eK, calmOp, guardS, gK, qK, putK, plK, dOk, St.ev, St.get, St.mem, St.set, St.setm, St.put, lookA, look, newK, nextver, initT, seqE, blockQ, bodyQ, resK, retV, AV.rdv, agg_uV, ↓binK, ↓intK, unK, ↓loadK, ↓withKey_eq, ↓idxAddrK, ↓indexK, ↓partK, ↓fieldK, ↓fieldAddrK, ↓convK, ↓callK, wrG, updK, ↓lenK, ↓mmK, ↓appK, ↓copyK, ↓sliceK, ↓toArrK, nilK, evs, plains, seqParts, capsOf, capsD, AV.dv, AV.cont, ↓buildV_eq, fillL, placesOf, ↓storeK, wrL, RV.av, DV.av, List.set, Nat.reduceEqDiff, Nat.reduceAdd, Nat.reduceSub, Nat.reduceMul, Nat.reduceLT, Nat.reduceLeDiff, Nat.reduceMod, Nat.reduceDiv, Int.reduceLT, Int.reduceLE, Int.reduceToNat, ↓reduceIte, reduceCtorEq, Value.oneCell', Int.reduceAdd, Int.reduceSub, Int.reduceMod, Int.reduceMul, Int.reduceNeg, Int.reduceBEq, Int.reduceBNe, Int.reduceTDiv, Int.reduceTMod, Int.reduceEq, tyB, Try.underlying13, Try.underlying25, Try.underlying26, Try.underlying39, Try.underlying40, Try.underlying72, Try.underlying73, redG, pMulG, pAddG, tx, ty, mx, my, val_nc, uV_7, mod7, nc7, cells_pt, agg_pt, isNil_pt, ptV_lit, cells_w, agg_w, isNil_w, valm, ↓binK_eqPt, ↓binK_eqU, ↓binK_neU, eqU_v, h1, h2, e]
      · rw [h2, Bool.true_and] at e
        simp -implicitDefEqProofs (maxSteps := 10000000) only [vy_succ, vmB, slim, slimOp, gO, gSO, qSO, quietOp, cS, qSB, eK, calmOp, guardS, gK, qK, putK, plK, dOk, St.ev, St.get, St.mem, St.set, St.setm, St.put, lookA, look, newK, nextver, initT, seqE, blockQ, bodyQ, resK, retV, AV.rdv, agg_uV, ↓binK, ↓intK, unK, ↓loadK, ↓withKey_eq, ↓idxAddrK, ↓indexK, ↓partK, ↓fieldK, ↓fieldAddrK, ↓convK, ↓callK, wrG, updK, ↓lenK, ↓mmK, ↓appK, ↓copyK, ↓sliceK, ↓toArrK, nilK, evs, plains, seqParts, capsOf, capsD, AV.dv, AV.cont, ↓buildV_eq, fillL, placesOf, ↓storeK, wrL, RV.av, DV.av, List.set, Nat.reduceEqDiff, Nat.reduceAdd, Nat.reduceSub, Nat.reduceMul, Nat.reduceLT, Nat.reduceLeDiff, Nat.reduceMod, Nat.reduceDiv, Int.reduceLT, Int.reduceLE, Int.reduceToNat, ↓reduceIte, reduceCtorEq, Value.oneCell', Int.reduceAdd, Int.reduceSub, Int.reduceMod, Int.reduceMul, Int.reduceNeg, Int.reduceBEq, Int.reduceBNe, Int.reduceTDiv, Int.reduceTMod, Int.reduceEq, tyB, Try.underlying13, Try.underlying25, Try.underlying26, Try.underlying39, Try.underlying40, Try.underlying72, Try.underlying73, redG, pMulG, pAddG, tx, ty, mx, my, val_nc, uV_7, mod7, nc7, cells_pt, agg_pt, isNil_pt, ptV_lit, cells_w, agg_w, isNil_w, valm, ↓binK_eqPt, ↓binK_eqU, ↓binK_neU, eqU_v, h1, h2, e]
theorem ron_ok : ∀ ds r, onG ds = some r → Spec Try.prog 8 ds r := by
  intro ds r h
  unfold onG at h
  split at h
  case h_2 => cases h
  rename_i v
  split at h
  case h_2 => cases h
  rename_i x y b hv
  cases h
  obtain ⟨rfl, hx, hy⟩ := toR_eq hv
  exact ron_walk x y b hx hy

theorem base_onB : onB bX bY false = true := by
  have h := onB_p base_on
  rw [rx_base, ry_base] at h
  exact h
theorem bX_lt : bX < full := by rw [full_eq]; decide
theorem bY_lt : bY < full := by rw [full_eq]; decide
theorem toR_base : toR (ptV bX bY false) = some (bX, bY, false) := toR_lt bX_lt bY_lt
theorem w0_bX : (((w0 bX : Nat) : Int) == 6481385041966929816) = true := by rw [w0_eq]; simp [bX]
end Go.Vm
