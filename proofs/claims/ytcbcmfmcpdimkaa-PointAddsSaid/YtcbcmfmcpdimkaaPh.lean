/- Lifts of points; the law PointLifts, as the machine walks it. No condition. -/
import Derived.Test.YtcbcmfmcpdimkaaPg
set_option maxRecDepth 100000
set_option linter.unusedSimpArgs false
set_option linter.unusedVariables false
namespace Go.Vm
open Go Go.RowKit Go.Proofs Go.Ec

noncomputable def rtF (c : Fp) : Fp := nc (evN (pwN c.val qN (pN 0)))
theorem evN_ltp {r : Nat} (h : r < pN 0) : evN r < pN 0 := by
  rw [evN_eq]; split <;> omega
theorem rtF_val (c : Fp) : evN (pwN c.val qN (pN 0)) = (rtF c).val := by
  unfold rtF
  rw [← nc_v, Nat.mod_eq_of_lt (evN_ltp (pwN_lt _ _ (pN_pos 0)))]
theorem rtF_even (c : Fp) : (rtF c).val % 2 = 0 := by
  rw [← rtF_val]
  exact evN_even (pwN_lt _ _ (pN_pos 0))
theorem rtF_sq {c : Fp} (h : Rt c.val) : rtF c * rtF c = c := by
  have h1 := evN_sq (pwN_lt c.val qN (pN_pos 0))
  have h2 : pwN c.val qN (pN 0) * pwN c.val qN (pN 0) % pN 0 = c.val := h
  rw [h2, rtF_val, mul_v, val_nc] at h1
  exact Fin.ext h1
theorem rt_of {c Y : Fp} (h : Y * Y = c) : Rt c.val := by
  have h1 := rt_sq Y.val
  rw [mul_v, val_nc, h] at h1
  exact h1
theorem p_odd : pN 0 % 2 = 1 := by rw [pN_0]
theorem neg_val {Y : Fp} (h : Y ≠ 0) : (0 - Y).val = pN 0 - Y.val := by
  have h1 := sub_v 0 Y.val
  rw [val_nc, nc_0] at h1
  rw [← h1, Nat.mod_eq_of_lt (v_p Y), Nat.zero_mod, Nat.zero_add]
  have := val_ne h
  have h3 : (Y : Nat) ≠ 0 := this
  exact Nat.mod_eq_of_lt (by have := v_p Y; omega)
theorem neg_par {Y : Fp} (h : Y ≠ 0) : (0 - Y).val % 2 = 1 - Y.val % 2 := by
  rw [neg_val h]
  have := v_p Y
  have := p_odd
  omega
theorem neg_neg' (Y : Fp) : 0 - (0 - Y) = Y := by grobner
theorem sq_two {r c Y : Fp} (h : Y * Y = c) (h1 : r * r = c) : r = Y ∨ r = 0 - Y := by
  have h3 : (r - Y) * (r + Y) = 0 := by grobner
  rcases fz h3 with e | e
  · left; grobner
  · right; grobner
theorem rtF_at {c Y : Fp} (h : Y * Y = c) (hY : Y ≠ 0) : (Y.val % 2 = 0 → rtF c = Y) ∧ (Y.val % 2 = 1 → rtF c = 0 - Y) := by
  have h1 := rtF_sq (rt_of h)
  have h2 := rtF_even c
  have h3 := sq_two h h1
  have h4 := neg_par hY
  clear h h1
  constructor
  · intro h5
    rcases h3 with e | e
    · exact e
    · exfalso
      rw [e, h4, h5] at h2
      exact absurd h2 (by decide)
  · intro h5
    rcases h3 with e | e
    · exfalso
      rw [e, h5] at h2
      exact absurd h2 (by decide)
    · exact e
theorem word_odd (r : Nat) : (bits .and .u64 (w0 r : Nat) 1 == 1) = decide (r % 2 = 1) := odd_word r
theorem word_even (r : Nat) : (bits .and .u64 (w0 r : Nat) 1 == 0) = decide (r % 2 = 0) := by
  rw [show (1 : Int) = ((1 : Nat) : Int) from rfl, bits_and_u64_nat _ 1 (w0_lt r) (by omega), Nat.and_one_is_mod, w0_eq]
  have : r % 18446744073709551616 % 2 = r % 2 := by omega
  rw [this]
  rcases Nat.mod_two_eq_zero_or_one r with h | h <;> rw [h] <;> rfl
theorem rx_a (x y : Fp) : rx (.a x y) = x.val := rfl
theorem ry_a (x y : Fp) : ry (.a x y) = y.val := rfl
theorem rb_a (x y : Fp) : rb (.a x y) = false := rfl
theorem pneg_a (x y : Fp) : pneg (.a x y) = .a x (0 - y) := rfl
theorem ptOf_a (x y : Fp) : ptOf x.val y.val false = .a x y := ptOf_p (.a x y)
theorem rt_no (x : Fp) {r : Fp} (h : r * r = x * x * x + 7) : r ≠ 0 := by
  have : onC (.a x r) := (onC_iff x r).2 h
  exact y_ne this
theorem on_lift {x : Nat} {r : Fp} (h1 : x < pN 0) (h : r * r = nc x * nc x * nc x + 7) : onB x r.val false = true := by
  unfold onB
  rw [if_neg (by decide)]
  apply decide_eq_true
  rw [val_nc]
  exact ⟨⟨h1, v_p r⟩, h⟩
theorem sq_neg {r c : Fp} (h : r * r = c) : (0 - r) * (0 - r) = c := by grobner
theorem binK_nePt (x y x' y' : Nat) (b b' : Bool) (K : Value → Prop) : binK Try.prog .neq 26 (ptV x y b) (ptV x' y' b') K = K (.bool (!(eqU x x' && (eqU y y' && (b == b'))))) := by
  apply propext
  show (Try.prog.eqGuardType Try.prog.depth 26 = false ∧ ∃ c, eqV Try.prog 26 (ptC x y b).toArray (ptC x' y' b').toArray = some c ∧ K (.bool !c)) ↔ _
  rw [eqV_pt]
  constructor
  · rintro ⟨_, c, hc, hk⟩; cases hc; exact hk
  · intro h; exact ⟨q_26, _, rfl, h⟩
set_option maxHeartbeats 16000000 in
theorem lifts_law (x n : Nat) (hx : x < full) (hn : n < full) : Spec Try.prog 8 [.pl (uV x), .pl (uV n)] (.one (.pl (.bool true))) := by
  have hΓ : Env.ok [(9, atG), (27, ptLG), (23, turG), (28, redG), (12, alG), (21, onG)] Try.prog := ok_cons at_ok (ok_cons ptl_ok (ok_cons tur_ok (ok_cons rfRed_ok (ok_cons al_ok (ok_cons ron_ok (ok_nil _))))))
  have mn : n % full = n := Nat.mod_eq_of_lt hn
  have mx : x % full = x := Nat.mod_eq_of_lt hx
  have tx : toN (uV x) = some x := toN_lt hx
  have hP := nsm_on base_on n
  have e0 := eqU_self 0
  have ex := eqU_self x
  refine Spec.of_vx hΓ follows_mixed Try.func8 rfl (by kernel_rfl) (T := []) (by simp [Try.ntmps8]) (by kernel_rfl) rfl Try.ntmps8 (res := [.tmp 4]) rfl ?_
  intro W
  generalize hPe : nsm n base0 = P at *
  cases P with
  | o =>
    by_cases h1 : x < pN 0
    · have d1 := decide_eq_true h1
      by_cases h2 : Rt (nc x * nc x * nc x + 7).val
      · have q1 := rtF_sq h2
        have q2 := rtF_even (nc x * nc x * nc x + 7)
        generalize hr : rtF (nc x * nc x * nc x + 7) = r at *
        have q3 := rt_no (nc x) q1
        have q4 : decide (r.val % 2 = 0) = true := decide_eq_true q2
        have q5 : decide ((0 - r).val % 2 = 1) = true := decide_eq_true (by rw [neg_par q3, q2])
        have q6 : onB x r.val false = true := on_lift h1 q1
        have q7 : onB x (0 - r).val false = true := on_lift h1 (sq_neg q1)
        have t1 := toR_lt (b := false) hx (v_lt r)
        have t2 := toR_lt (b := false) hx (v_lt (0 - r))
        simp -implicitDefEqProofs (maxSteps := 10000000) only [vy_succ, vy_zero, vx_skip, vx_reg0, vx_reg1, vx_ord, xx_done, xx_stop, xx_alt, vx_seq, vx_cond, vx_block, vx_exit, vx_ret, vx_loop, gx_nil, gx_cons, dx_nil, dx_cons, slim, slimOp, gO, gSO, qSO, quietOp, cx_nil, cx_cons, xx_alc, cS, qSB, eK, calmOp, guardS, gK, qK, putK, plK, dOk, St.ev, St.get, St.mem, St.set, St.setm, St.put, lookA, look, newK, nextver, initT, seqE, blockQ, bodyQ, resK, retV, AV.rdv, cells_agg, cells_int, cells_bool, cells_string, cells_slice, cells_uV, agg_uV, isNil_uV, toN_uV, i64_in, IntKind.wrap_u64, IntKind.wrap_u8, IntKind.wrap_u32, ↓binK, ↓intK, unK, ↓loadK, ↓withKey_eq, ↓idxAddrK, ↓indexK, ↓partK, ↓fieldK, ↓fieldAddrK, ↓convK, ↓callK, wrG, updK, ↓lenK, ↓mmK, ↓appK, ↓copyK, ↓sliceK, ↓toArrK, nilK, optK_some, optK_tup, optK_ite, evs, plains, seqParts, capsOf, capsD, List.append_nil, List.nil_append, List.cons_append, AV.dv, AV.cont, isNil_agg, isNil_int, isNil_bool, isNil_string, isNil_nil, isNil_slice, ↓buildV_eq, fillL, placesOf, Option.map_some, Option.map_none, ↓storeK, wrL, RV.av, DV.av, List.set, List.map_cons, List.map_nil, List.length_cons, List.length_nil, List.all_cons, List.all_nil, List.getElem?_cons_zero, List.getElem?_cons_succ, List.getElem?_nil, List.size_toArray, List.getElem?_toArray, List.drop_zero, List.drop_succ_cons, List.take_zero, List.take_succ_cons, Option.getD_some, Option.getD_none, Option.some.injEq, Option.isSome_some, Nat.reduceEqDiff, Nat.reduceAdd, Nat.reduceSub, Nat.reduceMul, Nat.reduceLT, Nat.reduceLeDiff, Nat.reduceMod, Nat.reduceDiv, Int.cast_ofNat_Int, Int.reduceLT, Int.reduceLE, Int.reduceToNat, ↓reduceIte, true_and, and_true, true_or, or_true, or_false, false_or, reduceCtorEq, Bool.false_eq_true, Bool.and_true, Bool.not_true, Bool.not_false, beq_self_eq_true, Bool.true_beq, Bool.false_beq, Value.oneCell', decide_true, decide_false, Int.reduceAdd, Int.reduceSub, Int.reduceMod, Int.reduceMul, Int.reduceNeg, Int.reduceBEq, Int.reduceBNe, Int.reduceTDiv, Int.reduceTMod, ne_eq, not_false_eq_true, not_true_eq_false, Int.reduceEq, Nat.zero_add, Nat.add_zero, Nat.le_refl, tyB, Try.underlying13, Try.underlying25, Try.underlying26, Try.underlying53, Try.underlying54, atG, ptLG, turG, redG, alG, onG, mn, mx, tx, hPe, rx_o, ry_o, rb_o, rx_a, ry_a, rb_a, pneg_a, ptOf_a, toR_0, toR_v, toN_v, val_nc, rtF_val, word_odd, word_even, e0, ex, ↓binK_nePt, h1, d1, h2, hr, q4, q5, q6, q7, t1, t2, cells_pt, agg_pt, isNil_pt, ptV_lit, cells_w, agg_w, isNil_w, valm, ↓binK_eqPt, ↓binK_eqU, ↓binK_neU, eqU_v]
      · simp -implicitDefEqProofs (maxSteps := 10000000) only [vy_succ, vy_zero, vx_skip, vx_reg0, vx_reg1, vx_ord, xx_done, xx_stop, xx_alt, vx_seq, vx_cond, vx_block, vx_exit, vx_ret, vx_loop, gx_nil, gx_cons, dx_nil, dx_cons, slim, slimOp, gO, gSO, qSO, quietOp, cx_nil, cx_cons, xx_alc, cS, qSB, eK, calmOp, guardS, gK, qK, putK, plK, dOk, St.ev, St.get, St.mem, St.set, St.setm, St.put, lookA, look, newK, nextver, initT, seqE, blockQ, bodyQ, resK, retV, AV.rdv, cells_agg, cells_int, cells_bool, cells_string, cells_slice, cells_uV, agg_uV, isNil_uV, toN_uV, i64_in, IntKind.wrap_u64, IntKind.wrap_u8, IntKind.wrap_u32, ↓binK, ↓intK, unK, ↓loadK, ↓withKey_eq, ↓idxAddrK, ↓indexK, ↓partK, ↓fieldK, ↓fieldAddrK, ↓convK, ↓callK, wrG, updK, ↓lenK, ↓mmK, ↓appK, ↓copyK, ↓sliceK, ↓toArrK, nilK, optK_some, optK_tup, optK_ite, evs, plains, seqParts, capsOf, capsD, List.append_nil, List.nil_append, List.cons_append, AV.dv, AV.cont, isNil_agg, isNil_int, isNil_bool, isNil_string, isNil_nil, isNil_slice, ↓buildV_eq, fillL, placesOf, Option.map_some, Option.map_none, ↓storeK, wrL, RV.av, DV.av, List.set, List.map_cons, List.map_nil, List.length_cons, List.length_nil, List.all_cons, List.all_nil, List.getElem?_cons_zero, List.getElem?_cons_succ, List.getElem?_nil, List.size_toArray, List.getElem?_toArray, List.drop_zero, List.drop_succ_cons, List.take_zero, List.take_succ_cons, Option.getD_some, Option.getD_none, Option.some.injEq, Option.isSome_some, Nat.reduceEqDiff, Nat.reduceAdd, Nat.reduceSub, Nat.reduceMul, Nat.reduceLT, Nat.reduceLeDiff, Nat.reduceMod, Nat.reduceDiv, Int.cast_ofNat_Int, Int.reduceLT, Int.reduceLE, Int.reduceToNat, ↓reduceIte, true_and, and_true, true_or, or_true, or_false, false_or, reduceCtorEq, Bool.false_eq_true, Bool.and_true, Bool.not_true, Bool.not_false, beq_self_eq_true, Bool.true_beq, Bool.false_beq, Value.oneCell', decide_true, decide_false, Int.reduceAdd, Int.reduceSub, Int.reduceMod, Int.reduceMul, Int.reduceNeg, Int.reduceBEq, Int.reduceBNe, Int.reduceTDiv, Int.reduceTMod, ne_eq, not_false_eq_true, not_true_eq_false, Int.reduceEq, Nat.zero_add, Nat.add_zero, Nat.le_refl, tyB, Try.underlying13, Try.underlying25, Try.underlying26, Try.underlying53, Try.underlying54, atG, ptLG, turG, redG, alG, onG, mn, mx, tx, hPe, rx_o, ry_o, rb_o, rx_a, ry_a, rb_a, pneg_a, ptOf_a, toR_0, toR_v, toN_v, val_nc, rtF_val, word_odd, word_even, e0, ex, ↓binK_nePt, h1, d1, h2, cells_pt, agg_pt, isNil_pt, ptV_lit, cells_w, agg_w, isNil_w, valm, ↓binK_eqPt, ↓binK_eqU, ↓binK_neU, eqU_v]
    · have d1 := decide_eq_false h1
      simp -implicitDefEqProofs (maxSteps := 10000000) only [vy_succ, vy_zero, vx_skip, vx_reg0, vx_reg1, vx_ord, xx_done, xx_stop, xx_alt, vx_seq, vx_cond, vx_block, vx_exit, vx_ret, vx_loop, gx_nil, gx_cons, dx_nil, dx_cons, slim, slimOp, gO, gSO, qSO, quietOp, cx_nil, cx_cons, xx_alc, cS, qSB, eK, calmOp, guardS, gK, qK, putK, plK, dOk, St.ev, St.get, St.mem, St.set, St.setm, St.put, lookA, look, newK, nextver, initT, seqE, blockQ, bodyQ, resK, retV, AV.rdv, cells_agg, cells_int, cells_bool, cells_string, cells_slice, cells_uV, agg_uV, isNil_uV, toN_uV, i64_in, IntKind.wrap_u64, IntKind.wrap_u8, IntKind.wrap_u32, ↓binK, ↓intK, unK, ↓loadK, ↓withKey_eq, ↓idxAddrK, ↓indexK, ↓partK, ↓fieldK, ↓fieldAddrK, ↓convK, ↓callK, wrG, updK, ↓lenK, ↓mmK, ↓appK, ↓copyK, ↓sliceK, ↓toArrK, nilK, optK_some, optK_tup, optK_ite, evs, plains, seqParts, capsOf, capsD, List.append_nil, List.nil_append, List.cons_append, AV.dv, AV.cont, isNil_agg, isNil_int, isNil_bool, isNil_string, isNil_nil, isNil_slice, ↓buildV_eq, fillL, placesOf, Option.map_some, Option.map_none, ↓storeK, wrL, RV.av, DV.av, List.set, List.map_cons, List.map_nil, List.length_cons, List.length_nil, List.all_cons, List.all_nil, List.getElem?_cons_zero, List.getElem?_cons_succ, List.getElem?_nil, List.size_toArray, List.getElem?_toArray, List.drop_zero, List.drop_succ_cons, List.take_zero, List.take_succ_cons, Option.getD_some, Option.getD_none, Option.some.injEq, Option.isSome_some, Nat.reduceEqDiff, Nat.reduceAdd, Nat.reduceSub, Nat.reduceMul, Nat.reduceLT, Nat.reduceLeDiff, Nat.reduceMod, Nat.reduceDiv, Int.cast_ofNat_Int, Int.reduceLT, Int.reduceLE, Int.reduceToNat, ↓reduceIte, true_and, and_true, true_or, or_true, or_false, false_or, reduceCtorEq, Bool.false_eq_true, Bool.and_true, Bool.not_true, Bool.not_false, beq_self_eq_true, Bool.true_beq, Bool.false_beq, Value.oneCell', decide_true, decide_false, Int.reduceAdd, Int.reduceSub, Int.reduceMod, Int.reduceMul, Int.reduceNeg, Int.reduceBEq, Int.reduceBNe, Int.reduceTDiv, Int.reduceTMod, ne_eq, not_false_eq_true, not_true_eq_false, Int.reduceEq, Nat.zero_add, Nat.add_zero, Nat.le_refl, tyB, Try.underlying13, Try.underlying25, Try.underlying26, Try.underlying53, Try.underlying54, atG, ptLG, turG, redG, alG, onG, mn, mx, tx, hPe, rx_o, ry_o, rb_o, rx_a, ry_a, rb_a, pneg_a, ptOf_a, toR_0, toR_v, toN_v, val_nc, rtF_val, word_odd, word_even, e0, ex, ↓binK_nePt, h1, d1, cells_pt, agg_pt, isNil_pt, ptV_lit, cells_w, agg_w, isNil_w, valm, ↓binK_eqPt, ↓binK_eqU, ↓binK_neU, eqU_v]
  | a X Y =>
    have hY := y_ne hP
    have hc := (onC_iff X Y).1 hP
    have g1 := rt_of hc
    have g2 : onB X.val Y.val false = true := onB_p hP
    have g3 := v_p X
    have s1 := eqU_self X.val
    have s2 : decide (X = X) = true := decide_eq_true rfl
    have s3 : decide (Y = Y) = true := decide_eq_true rfl
    have s4 : decide (0 - Y = 0 - Y) = true := decide_eq_true rfl
    have s5 := neg_neg' Y
    obtain ⟨g4, g5⟩ := rtF_at hc hY
    by_cases hp : Y.val % 2 = 0
    · have p1 : decide (Y.val % 2 = 0) = true := decide_eq_true hp
      have p2 : decide (Y.val % 2 = 1) = false := decide_eq_false (by rw [hp]; decide)
      have p3 := g4 hp
      clear g4 g5
      by_cases h1 : x < pN 0
      · have d1 := decide_eq_true h1
        by_cases h2 : Rt (nc x * nc x * nc x + 7).val
        · have q1 := rtF_sq h2
          have q2 := rtF_even (nc x * nc x * nc x + 7)
          generalize hr : rtF (nc x * nc x * nc x + 7) = r at *
          have q3 := rt_no (nc x) q1
          have q4 : decide (r.val % 2 = 0) = true := decide_eq_true q2
          have q5 : decide ((0 - r).val % 2 = 1) = true := decide_eq_true (by rw [neg_par q3, q2])
          have q6 : onB x r.val false = true := on_lift h1 q1
          have q7 : onB x (0 - r).val false = true := on_lift h1 (sq_neg q1)
          have t1 := toR_lt (b := false) hx (v_lt r)
          have t2 := toR_lt (b := false) hx (v_lt (0 - r))
          simp -implicitDefEqProofs (maxSteps := 10000000) only [vy_succ, vy_zero, vx_skip, vx_reg0, vx_reg1, vx_ord, xx_done, xx_stop, xx_alt, vx_seq, vx_cond, vx_block, vx_exit, vx_ret, vx_loop, gx_nil, gx_cons, dx_nil, dx_cons, slim, slimOp, gO, gSO, qSO, quietOp, cx_nil, cx_cons, xx_alc, cS, qSB, eK, calmOp, guardS, gK, qK, putK, plK, dOk, St.ev, St.get, St.mem, St.set, St.setm, St.put, lookA, look, newK, nextver, initT, seqE, blockQ, bodyQ, resK, retV, AV.rdv, cells_agg, cells_int, cells_bool, cells_string, cells_slice, cells_uV, agg_uV, isNil_uV, toN_uV, i64_in, IntKind.wrap_u64, IntKind.wrap_u8, IntKind.wrap_u32, ↓binK, ↓intK, unK, ↓loadK, ↓withKey_eq, ↓idxAddrK, ↓indexK, ↓partK, ↓fieldK, ↓fieldAddrK, ↓convK, ↓callK, wrG, updK, ↓lenK, ↓mmK, ↓appK, ↓copyK, ↓sliceK, ↓toArrK, nilK, optK_some, optK_tup, optK_ite, evs, plains, seqParts, capsOf, capsD, List.append_nil, List.nil_append, List.cons_append, AV.dv, AV.cont, isNil_agg, isNil_int, isNil_bool, isNil_string, isNil_nil, isNil_slice, ↓buildV_eq, fillL, placesOf, Option.map_some, Option.map_none, ↓storeK, wrL, RV.av, DV.av, List.set, List.map_cons, List.map_nil, List.length_cons, List.length_nil, List.all_cons, List.all_nil, List.getElem?_cons_zero, List.getElem?_cons_succ, List.getElem?_nil, List.size_toArray, List.getElem?_toArray, List.drop_zero, List.drop_succ_cons, List.take_zero, List.take_succ_cons, Option.getD_some, Option.getD_none, Option.some.injEq, Option.isSome_some, Nat.reduceEqDiff, Nat.reduceAdd, Nat.reduceSub, Nat.reduceMul, Nat.reduceLT, Nat.reduceLeDiff, Nat.reduceMod, Nat.reduceDiv, Int.cast_ofNat_Int, Int.reduceLT, Int.reduceLE, Int.reduceToNat, ↓reduceIte, true_and, and_true, true_or, or_true, or_false, false_or, reduceCtorEq, Bool.false_eq_true, Bool.and_true, Bool.not_true, Bool.not_false, beq_self_eq_true, Bool.true_beq, Bool.false_beq, Value.oneCell', decide_true, decide_false, Int.reduceAdd, Int.reduceSub, Int.reduceMod, Int.reduceMul, Int.reduceNeg, Int.reduceBEq, Int.reduceBNe, Int.reduceTDiv, Int.reduceTMod, ne_eq, not_false_eq_true, not_true_eq_false, Int.reduceEq, Nat.zero_add, Nat.add_zero, Nat.le_refl, tyB, Try.underlying13, Try.underlying25, Try.underlying26, Try.underlying53, Try.underlying54, atG, ptLG, turG, redG, alG, onG, mn, mx, tx, hPe, rx_o, ry_o, rb_o, rx_a, ry_a, rb_a, pneg_a, ptOf_a, toR_0, toR_v, toN_v, val_nc, rtF_val, word_odd, word_even, e0, ex, ↓binK_nePt, g1, g2, g3, p1, p2, p3, ↓s2, ↓s3, ↓s4, s5, h1, d1, h2, hr, q4, q5, q6, q7, t1, t2, cells_pt, agg_pt, isNil_pt, ptV_lit, cells_w, agg_w, isNil_w, valm, ↓binK_eqPt, ↓binK_eqU, ↓binK_neU, eqU_v]
        · simp -implicitDefEqProofs (maxSteps := 10000000) only [vy_succ, vy_zero, vx_skip, vx_reg0, vx_reg1, vx_ord, xx_done, xx_stop, xx_alt, vx_seq, vx_cond, vx_block, vx_exit, vx_ret, vx_loop, gx_nil, gx_cons, dx_nil, dx_cons, slim, slimOp, gO, gSO, qSO, quietOp, cx_nil, cx_cons, xx_alc, cS, qSB, eK, calmOp, guardS, gK, qK, putK, plK, dOk, St.ev, St.get, St.mem, St.set, St.setm, St.put, lookA, look, newK, nextver, initT, seqE, blockQ, bodyQ, resK, retV, AV.rdv, cells_agg, cells_int, cells_bool, cells_string, cells_slice, cells_uV, agg_uV, isNil_uV, toN_uV, i64_in, IntKind.wrap_u64, IntKind.wrap_u8, IntKind.wrap_u32, ↓binK, ↓intK, unK, ↓loadK, ↓withKey_eq, ↓idxAddrK, ↓indexK, ↓partK, ↓fieldK, ↓fieldAddrK, ↓convK, ↓callK, wrG, updK, ↓lenK, ↓mmK, ↓appK, ↓copyK, ↓sliceK, ↓toArrK, nilK, optK_some, optK_tup, optK_ite, evs, plains, seqParts, capsOf, capsD, List.append_nil, List.nil_append, List.cons_append, AV.dv, AV.cont, isNil_agg, isNil_int, isNil_bool, isNil_string, isNil_nil, isNil_slice, ↓buildV_eq, fillL, placesOf, Option.map_some, Option.map_none, ↓storeK, wrL, RV.av, DV.av, List.set, List.map_cons, List.map_nil, List.length_cons, List.length_nil, List.all_cons, List.all_nil, List.getElem?_cons_zero, List.getElem?_cons_succ, List.getElem?_nil, List.size_toArray, List.getElem?_toArray, List.drop_zero, List.drop_succ_cons, List.take_zero, List.take_succ_cons, Option.getD_some, Option.getD_none, Option.some.injEq, Option.isSome_some, Nat.reduceEqDiff, Nat.reduceAdd, Nat.reduceSub, Nat.reduceMul, Nat.reduceLT, Nat.reduceLeDiff, Nat.reduceMod, Nat.reduceDiv, Int.cast_ofNat_Int, Int.reduceLT, Int.reduceLE, Int.reduceToNat, ↓reduceIte, true_and, and_true, true_or, or_true, or_false, false_or, reduceCtorEq, Bool.false_eq_true, Bool.and_true, Bool.not_true, Bool.not_false, beq_self_eq_true, Bool.true_beq, Bool.false_beq, Value.oneCell', decide_true, decide_false, Int.reduceAdd, Int.reduceSub, Int.reduceMod, Int.reduceMul, Int.reduceNeg, Int.reduceBEq, Int.reduceBNe, Int.reduceTDiv, Int.reduceTMod, ne_eq, not_false_eq_true, not_true_eq_false, Int.reduceEq, Nat.zero_add, Nat.add_zero, Nat.le_refl, tyB, Try.underlying13, Try.underlying25, Try.underlying26, Try.underlying53, Try.underlying54, atG, ptLG, turG, redG, alG, onG, mn, mx, tx, hPe, rx_o, ry_o, rb_o, rx_a, ry_a, rb_a, pneg_a, ptOf_a, toR_0, toR_v, toN_v, val_nc, rtF_val, word_odd, word_even, e0, ex, ↓binK_nePt, g1, g2, g3, p1, p2, p3, ↓s2, ↓s3, ↓s4, s5, h1, d1, h2, cells_pt, agg_pt, isNil_pt, ptV_lit, cells_w, agg_w, isNil_w, valm, ↓binK_eqPt, ↓binK_eqU, ↓binK_neU, eqU_v]
      · have d1 := decide_eq_false h1
        simp -implicitDefEqProofs (maxSteps := 10000000) only [vy_succ, vy_zero, vx_skip, vx_reg0, vx_reg1, vx_ord, xx_done, xx_stop, xx_alt, vx_seq, vx_cond, vx_block, vx_exit, vx_ret, vx_loop, gx_nil, gx_cons, dx_nil, dx_cons, slim, slimOp, gO, gSO, qSO, quietOp, cx_nil, cx_cons, xx_alc, cS, qSB, eK, calmOp, guardS, gK, qK, putK, plK, dOk, St.ev, St.get, St.mem, St.set, St.setm, St.put, lookA, look, newK, nextver, initT, seqE, blockQ, bodyQ, resK, retV, AV.rdv, cells_agg, cells_int, cells_bool, cells_string, cells_slice, cells_uV, agg_uV, isNil_uV, toN_uV, i64_in, IntKind.wrap_u64, IntKind.wrap_u8, IntKind.wrap_u32, ↓binK, ↓intK, unK, ↓loadK, ↓withKey_eq, ↓idxAddrK, ↓indexK, ↓partK, ↓fieldK, ↓fieldAddrK, ↓convK, ↓callK, wrG, updK, ↓lenK, ↓mmK, ↓appK, ↓copyK, ↓sliceK, ↓toArrK, nilK, optK_some, optK_tup, optK_ite, evs, plains, seqParts, capsOf, capsD, List.append_nil, List.nil_append, List.cons_append, AV.dv, AV.cont, isNil_agg, isNil_int, isNil_bool, isNil_string, isNil_nil, isNil_slice, ↓buildV_eq, fillL, placesOf, Option.map_some, Option.map_none, ↓storeK, wrL, RV.av, DV.av, List.set, List.map_cons, List.map_nil, List.length_cons, List.length_nil, List.all_cons, List.all_nil, List.getElem?_cons_zero, List.getElem?_cons_succ, List.getElem?_nil, List.size_toArray, List.getElem?_toArray, List.drop_zero, List.drop_succ_cons, List.take_zero, List.take_succ_cons, Option.getD_some, Option.getD_none, Option.some.injEq, Option.isSome_some, Nat.reduceEqDiff, Nat.reduceAdd, Nat.reduceSub, Nat.reduceMul, Nat.reduceLT, Nat.reduceLeDiff, Nat.reduceMod, Nat.reduceDiv, Int.cast_ofNat_Int, Int.reduceLT, Int.reduceLE, Int.reduceToNat, ↓reduceIte, true_and, and_true, true_or, or_true, or_false, false_or, reduceCtorEq, Bool.false_eq_true, Bool.and_true, Bool.not_true, Bool.not_false, beq_self_eq_true, Bool.true_beq, Bool.false_beq, Value.oneCell', decide_true, decide_false, Int.reduceAdd, Int.reduceSub, Int.reduceMod, Int.reduceMul, Int.reduceNeg, Int.reduceBEq, Int.reduceBNe, Int.reduceTDiv, Int.reduceTMod, ne_eq, not_false_eq_true, not_true_eq_false, Int.reduceEq, Nat.zero_add, Nat.add_zero, Nat.le_refl, tyB, Try.underlying13, Try.underlying25, Try.underlying26, Try.underlying53, Try.underlying54, atG, ptLG, turG, redG, alG, onG, mn, mx, tx, hPe, rx_o, ry_o, rb_o, rx_a, ry_a, rb_a, pneg_a, ptOf_a, toR_0, toR_v, toN_v, val_nc, rtF_val, word_odd, word_even, e0, ex, ↓binK_nePt, g1, g2, g3, p1, p2, p3, ↓s2, ↓s3, ↓s4, s5, h1, d1, cells_pt, agg_pt, isNil_pt, ptV_lit, cells_w, agg_w, isNil_w, valm, ↓binK_eqPt, ↓binK_eqU, ↓binK_neU, eqU_v]
    · have hp' : Y.val % 2 = 1 := (Nat.mod_two_eq_zero_or_one _).resolve_left hp
      have p1 : decide (Y.val % 2 = 0) = false := decide_eq_false hp
      have p2 : decide (Y.val % 2 = 1) = true := decide_eq_true hp'
      have p3 := g5 hp'
      clear g4 g5
      by_cases h1 : x < pN 0
      · have d1 := decide_eq_true h1
        by_cases h2 : Rt (nc x * nc x * nc x + 7).val
        · have q1 := rtF_sq h2
          have q2 := rtF_even (nc x * nc x * nc x + 7)
          generalize hr : rtF (nc x * nc x * nc x + 7) = r at *
          have q3 := rt_no (nc x) q1
          have q4 : decide (r.val % 2 = 0) = true := decide_eq_true q2
          have q5 : decide ((0 - r).val % 2 = 1) = true := decide_eq_true (by rw [neg_par q3, q2])
          have q6 : onB x r.val false = true := on_lift h1 q1
          have q7 : onB x (0 - r).val false = true := on_lift h1 (sq_neg q1)
          have t1 := toR_lt (b := false) hx (v_lt r)
          have t2 := toR_lt (b := false) hx (v_lt (0 - r))
          simp -implicitDefEqProofs (maxSteps := 10000000) only [vy_succ, vy_zero, vx_skip, vx_reg0, vx_reg1, vx_ord, xx_done, xx_stop, xx_alt, vx_seq, vx_cond, vx_block, vx_exit, vx_ret, vx_loop, gx_nil, gx_cons, dx_nil, dx_cons, slim, slimOp, gO, gSO, qSO, quietOp, cx_nil, cx_cons, xx_alc, cS, qSB, eK, calmOp, guardS, gK, qK, putK, plK, dOk, St.ev, St.get, St.mem, St.set, St.setm, St.put, lookA, look, newK, nextver, initT, seqE, blockQ, bodyQ, resK, retV, AV.rdv, cells_agg, cells_int, cells_bool, cells_string, cells_slice, cells_uV, agg_uV, isNil_uV, toN_uV, i64_in, IntKind.wrap_u64, IntKind.wrap_u8, IntKind.wrap_u32, ↓binK, ↓intK, unK, ↓loadK, ↓withKey_eq, ↓idxAddrK, ↓indexK, ↓partK, ↓fieldK, ↓fieldAddrK, ↓convK, ↓callK, wrG, updK, ↓lenK, ↓mmK, ↓appK, ↓copyK, ↓sliceK, ↓toArrK, nilK, optK_some, optK_tup, optK_ite, evs, plains, seqParts, capsOf, capsD, List.append_nil, List.nil_append, List.cons_append, AV.dv, AV.cont, isNil_agg, isNil_int, isNil_bool, isNil_string, isNil_nil, isNil_slice, ↓buildV_eq, fillL, placesOf, Option.map_some, Option.map_none, ↓storeK, wrL, RV.av, DV.av, List.set, List.map_cons, List.map_nil, List.length_cons, List.length_nil, List.all_cons, List.all_nil, List.getElem?_cons_zero, List.getElem?_cons_succ, List.getElem?_nil, List.size_toArray, List.getElem?_toArray, List.drop_zero, List.drop_succ_cons, List.take_zero, List.take_succ_cons, Option.getD_some, Option.getD_none, Option.some.injEq, Option.isSome_some, Nat.reduceEqDiff, Nat.reduceAdd, Nat.reduceSub, Nat.reduceMul, Nat.reduceLT, Nat.reduceLeDiff, Nat.reduceMod, Nat.reduceDiv, Int.cast_ofNat_Int, Int.reduceLT, Int.reduceLE, Int.reduceToNat, ↓reduceIte, true_and, and_true, true_or, or_true, or_false, false_or, reduceCtorEq, Bool.false_eq_true, Bool.and_true, Bool.not_true, Bool.not_false, beq_self_eq_true, Bool.true_beq, Bool.false_beq, Value.oneCell', decide_true, decide_false, Int.reduceAdd, Int.reduceSub, Int.reduceMod, Int.reduceMul, Int.reduceNeg, Int.reduceBEq, Int.reduceBNe, Int.reduceTDiv, Int.reduceTMod, ne_eq, not_false_eq_true, not_true_eq_false, Int.reduceEq, Nat.zero_add, Nat.add_zero, Nat.le_refl, tyB, Try.underlying13, Try.underlying25, Try.underlying26, Try.underlying53, Try.underlying54, atG, ptLG, turG, redG, alG, onG, mn, mx, tx, hPe, rx_o, ry_o, rb_o, rx_a, ry_a, rb_a, pneg_a, ptOf_a, toR_0, toR_v, toN_v, val_nc, rtF_val, word_odd, word_even, e0, ex, ↓binK_nePt, g1, g2, g3, p1, p2, p3, ↓s2, ↓s3, ↓s4, s5, h1, d1, h2, hr, q4, q5, q6, q7, t1, t2, cells_pt, agg_pt, isNil_pt, ptV_lit, cells_w, agg_w, isNil_w, valm, ↓binK_eqPt, ↓binK_eqU, ↓binK_neU, eqU_v]
        · simp -implicitDefEqProofs (maxSteps := 10000000) only [vy_succ, vy_zero, vx_skip, vx_reg0, vx_reg1, vx_ord, xx_done, xx_stop, xx_alt, vx_seq, vx_cond, vx_block, vx_exit, vx_ret, vx_loop, gx_nil, gx_cons, dx_nil, dx_cons, slim, slimOp, gO, gSO, qSO, quietOp, cx_nil, cx_cons, xx_alc, cS, qSB, eK, calmOp, guardS, gK, qK, putK, plK, dOk, St.ev, St.get, St.mem, St.set, St.setm, St.put, lookA, look, newK, nextver, initT, seqE, blockQ, bodyQ, resK, retV, AV.rdv, cells_agg, cells_int, cells_bool, cells_string, cells_slice, cells_uV, agg_uV, isNil_uV, toN_uV, i64_in, IntKind.wrap_u64, IntKind.wrap_u8, IntKind.wrap_u32, ↓binK, ↓intK, unK, ↓loadK, ↓withKey_eq, ↓idxAddrK, ↓indexK, ↓partK, ↓fieldK, ↓fieldAddrK, ↓convK, ↓callK, wrG, updK, ↓lenK, ↓mmK, ↓appK, ↓copyK, ↓sliceK, ↓toArrK, nilK, optK_some, optK_tup, optK_ite, evs, plains, seqParts, capsOf, capsD, List.append_nil, List.nil_append, List.cons_append, AV.dv, AV.cont, isNil_agg, isNil_int, isNil_bool, isNil_string, isNil_nil, isNil_slice, ↓buildV_eq, fillL, placesOf, Option.map_some, Option.map_none, ↓storeK, wrL, RV.av, DV.av, List.set, List.map_cons, List.map_nil, List.length_cons, List.length_nil, List.all_cons, List.all_nil, List.getElem?_cons_zero, List.getElem?_cons_succ, List.getElem?_nil, List.size_toArray, List.getElem?_toArray, List.drop_zero, List.drop_succ_cons, List.take_zero, List.take_succ_cons, Option.getD_some, Option.getD_none, Option.some.injEq, Option.isSome_some, Nat.reduceEqDiff, Nat.reduceAdd, Nat.reduceSub, Nat.reduceMul, Nat.reduceLT, Nat.reduceLeDiff, Nat.reduceMod, Nat.reduceDiv, Int.cast_ofNat_Int, Int.reduceLT, Int.reduceLE, Int.reduceToNat, ↓reduceIte, true_and, and_true, true_or, or_true, or_false, false_or, reduceCtorEq, Bool.false_eq_true, Bool.and_true, Bool.not_true, Bool.not_false, beq_self_eq_true, Bool.true_beq, Bool.false_beq, Value.oneCell', decide_true, decide_false, Int.reduceAdd, Int.reduceSub, Int.reduceMod, Int.reduceMul, Int.reduceNeg, Int.reduceBEq, Int.reduceBNe, Int.reduceTDiv, Int.reduceTMod, ne_eq, not_false_eq_true, not_true_eq_false, Int.reduceEq, Nat.zero_add, Nat.add_zero, Nat.le_refl, tyB, Try.underlying13, Try.underlying25, Try.underlying26, Try.underlying53, Try.underlying54, atG, ptLG, turG, redG, alG, onG, mn, mx, tx, hPe, rx_o, ry_o, rb_o, rx_a, ry_a, rb_a, pneg_a, ptOf_a, toR_0, toR_v, toN_v, val_nc, rtF_val, word_odd, word_even, e0, ex, ↓binK_nePt, g1, g2, g3, p1, p2, p3, ↓s2, ↓s3, ↓s4, s5, h1, d1, h2, cells_pt, agg_pt, isNil_pt, ptV_lit, cells_w, agg_w, isNil_w, valm, ↓binK_eqPt, ↓binK_eqU, ↓binK_neU, eqU_v]
      · have d1 := decide_eq_false h1
        simp -implicitDefEqProofs (maxSteps := 10000000) only [vy_succ, vy_zero, vx_skip, vx_reg0, vx_reg1, vx_ord, xx_done, xx_stop, xx_alt, vx_seq, vx_cond, vx_block, vx_exit, vx_ret, vx_loop, gx_nil, gx_cons, dx_nil, dx_cons, slim, slimOp, gO, gSO, qSO, quietOp, cx_nil, cx_cons, xx_alc, cS, qSB, eK, calmOp, guardS, gK, qK, putK, plK, dOk, St.ev, St.get, St.mem, St.set, St.setm, St.put, lookA, look, newK, nextver, initT, seqE, blockQ, bodyQ, resK, retV, AV.rdv, cells_agg, cells_int, cells_bool, cells_string, cells_slice, cells_uV, agg_uV, isNil_uV, toN_uV, i64_in, IntKind.wrap_u64, IntKind.wrap_u8, IntKind.wrap_u32, ↓binK, ↓intK, unK, ↓loadK, ↓withKey_eq, ↓idxAddrK, ↓indexK, ↓partK, ↓fieldK, ↓fieldAddrK, ↓convK, ↓callK, wrG, updK, ↓lenK, ↓mmK, ↓appK, ↓copyK, ↓sliceK, ↓toArrK, nilK, optK_some, optK_tup, optK_ite, evs, plains, seqParts, capsOf, capsD, List.append_nil, List.nil_append, List.cons_append, AV.dv, AV.cont, isNil_agg, isNil_int, isNil_bool, isNil_string, isNil_nil, isNil_slice, ↓buildV_eq, fillL, placesOf, Option.map_some, Option.map_none, ↓storeK, wrL, RV.av, DV.av, List.set, List.map_cons, List.map_nil, List.length_cons, List.length_nil, List.all_cons, List.all_nil, List.getElem?_cons_zero, List.getElem?_cons_succ, List.getElem?_nil, List.size_toArray, List.getElem?_toArray, List.drop_zero, List.drop_succ_cons, List.take_zero, List.take_succ_cons, Option.getD_some, Option.getD_none, Option.some.injEq, Option.isSome_some, Nat.reduceEqDiff, Nat.reduceAdd, Nat.reduceSub, Nat.reduceMul, Nat.reduceLT, Nat.reduceLeDiff, Nat.reduceMod, Nat.reduceDiv, Int.cast_ofNat_Int, Int.reduceLT, Int.reduceLE, Int.reduceToNat, ↓reduceIte, true_and, and_true, true_or, or_true, or_false, false_or, reduceCtorEq, Bool.false_eq_true, Bool.and_true, Bool.not_true, Bool.not_false, beq_self_eq_true, Bool.true_beq, Bool.false_beq, Value.oneCell', decide_true, decide_false, Int.reduceAdd, Int.reduceSub, Int.reduceMod, Int.reduceMul, Int.reduceNeg, Int.reduceBEq, Int.reduceBNe, Int.reduceTDiv, Int.reduceTMod, ne_eq, not_false_eq_true, not_true_eq_false, Int.reduceEq, Nat.zero_add, Nat.add_zero, Nat.le_refl, tyB, Try.underlying13, Try.underlying25, Try.underlying26, Try.underlying53, Try.underlying54, atG, ptLG, turG, redG, alG, onG, mn, mx, tx, hPe, rx_o, ry_o, rb_o, rx_a, ry_a, rb_a, pneg_a, ptOf_a, toR_0, toR_v, toN_v, val_nc, rtF_val, word_odd, word_even, e0, ex, ↓binK_nePt, g1, g2, g3, p1, p2, p3, ↓s2, ↓s3, ↓s4, s5, h1, d1, cells_pt, agg_pt, isNil_pt, ptV_lit, cells_w, agg_w, isNil_w, valm, ↓binK_eqPt, ↓binK_eqU, ↓binK_neU, eqU_v]
end Go.Vm
