/- The points' laws, as the machine walks them. No condition. -/
import Derived.Test.YtcbcmfmcpdimkaaPf
set_option maxRecDepth 100000
set_option linter.unusedSimpArgs false
set_option linter.unusedVariables false
namespace Go.Vm
open Go Go.RowKit Go.Proofs Go.Ec

theorem onB_bad : onB 0 0 false = false := by
  unfold onB
  rw [if_neg (by decide)]
  apply decide_eq_false
  rintro ⟨_, h⟩
  exact absurd h (by decide +kernel)
theorem rx_o : rx .o = 0 := rfl
theorem ry_o : ry .o = 0 := rfl
theorem rb_o : rb .o = true := rfl
theorem nsm_0 (p : Pt) : nsm 0 p = .o := rfl
theorem pN_1 : pN 1 = 115792089237316195423570985008687907852837564279074904382605163141518161494337 := by rw [pN_eq, cOf_eq, full_eq]; simp
theorem ord_at (n : Nat) : nsm (pN 1) (nsm n base0) = .o := by
  rw [← nsm_mul base_on, pN_1, nsm_order base_order base_on (n * 115792089237316195423570985008687907852837564279074904382605163141518161494337) 0 (by rw [Nat.mul_mod_left, Nat.zero_mod])]
  rfl
theorem neg_of {a b : Pt} (ha : onC a) (hb : onC b) (h : padd a b = .o) : a = pneg b := by
  have h1 := padd_assoc ha hb (pneg_on hb)
  rw [h, o_padd, padd_neg hb, padd_o] at h1
  exact h1.symm
theorem neg_at (m k : Nat) : nsm ((pN 1 - k % pN 1) % pN 1) (nsm m base0) = pneg (nsm k (nsm m base0)) := by
  have hP := nsm_on base_on m
  apply neg_of (nsm_on hP _) (nsm_on hP _)
  have ho : nsm 115792089237316195423570985008687907852837564279074904382605163141518161494337 (nsm m base0) = .o := by
    have := ord_at m
    rw [pN_1] at this
    exact this
  rw [← nsm_add hP, nsm_order ho hP _ 0]
  · rfl
  · rw [pN_1, Nat.mod_add_mod, Nat.zero_mod]
    have h1 := Nat.mod_lt k (show 0 < 115792089237316195423570985008687907852837564279074904382605163141518161494337 by decide)
    have h2 := Nat.mod_add_div k 115792089237316195423570985008687907852837564279074904382605163141518161494337
    generalize k % 115792089237316195423570985008687907852837564279074904382605163141518161494337 = r at *
    generalize k / 115792089237316195423570985008687907852837564279074904382605163141518161494337 = q at *
    rw [show 115792089237316195423570985008687907852837564279074904382605163141518161494337 - r + k = 115792089237316195423570985008687907852837564279074904382605163141518161494337 * (q + 1) by omega, Nat.mul_mod_right]
set_option maxHeartbeats 8000000 in
theorem times_law (n m : Nat) (hn : n < full) (hm : m < full) : Spec Try.prog 3 [.pl (uV n), .pl (uV m)] (.one (.pl (.bool true))) := by
  have hΓ : Env.ok [(9, atG), (10, tiG), (11, addG), (12, alG), (13, adG), (14, ptZG)] Try.prog := ok_cons at_ok (ok_cons tim_ok (ok_cons add_ok (ok_cons al_ok (ok_cons adds_ok (ok_cons z_ok (ok_nil _))))))
  have mn : n % full = n := Nat.mod_eq_of_lt hn
  have mm : m % full = m := Nat.mod_eq_of_lt hm
  have hP := nsm_on base_on m
  refine Spec.of_vx hΓ follows_mixed Try.func3 rfl (by kernel_rfl) (T := []) (by simp [Try.ntmps3]) (by kernel_rfl) rfl Try.ntmps3 (res := [.tmp 4]) rfl ?_
  intro W
  generalize hPe : nsm m base0 = P at *
  have h1 := onB_p hP
  have h2 := onB_p (nsm_on hP n)
  have e0 := eqU_self 0
  by_cases c1 : full ≤ n + 1
  · have d1 := decide_eq_true c1
    by_cases c2 : full ≤ n + n
    · have d2 := decide_eq_true c2
      simp -implicitDefEqProofs (maxSteps := 10000000) only [vy_succ, vy_zero, vx_skip, vx_reg0, vx_reg1, vx_ord, xx_done, xx_stop, xx_alt, vx_seq, vx_cond, vx_block, vx_exit, vx_ret, vx_loop, gx_nil, gx_cons, dx_nil, dx_cons, slim, slimOp, gO, gSO, qSO, quietOp, cx_nil, cx_cons, xx_alc, cS, qSB, eK, calmOp, guardS, gK, qK, putK, plK, dOk, St.ev, St.get, St.mem, St.set, St.setm, St.put, lookA, look, newK, nextver, initT, seqE, blockQ, bodyQ, resK, retV, AV.rdv, cells_agg, cells_int, cells_bool, cells_string, cells_slice, cells_uV, agg_uV, isNil_uV, toN_uV, i64_in, IntKind.wrap_u64, IntKind.wrap_u8, IntKind.wrap_u32, ↓binK, ↓intK, unK, ↓loadK, ↓withKey_eq, ↓idxAddrK, ↓indexK, ↓partK, ↓fieldK, ↓fieldAddrK, ↓convK, ↓callK, wrG, updK, ↓lenK, ↓mmK, ↓appK, ↓copyK, ↓sliceK, ↓toArrK, nilK, optK_some, optK_tup, optK_ite, evs, plains, seqParts, capsOf, capsD, List.append_nil, List.nil_append, List.cons_append, AV.dv, AV.cont, isNil_agg, isNil_int, isNil_bool, isNil_string, isNil_nil, isNil_slice, ↓buildV_eq, fillL, placesOf, Option.map_some, Option.map_none, ↓storeK, wrL, RV.av, DV.av, List.set, List.map_cons, List.map_nil, List.length_cons, List.length_nil, List.all_cons, List.all_nil, List.getElem?_cons_zero, List.getElem?_cons_succ, List.getElem?_nil, List.size_toArray, List.getElem?_toArray, List.drop_zero, List.drop_succ_cons, List.take_zero, List.take_succ_cons, Option.getD_some, Option.getD_none, Option.some.injEq, Option.isSome_some, Nat.reduceEqDiff, Nat.reduceAdd, Nat.reduceSub, Nat.reduceMul, Nat.reduceLT, Nat.reduceLeDiff, Nat.reduceMod, Nat.reduceDiv, Int.cast_ofNat_Int, Int.reduceLT, Int.reduceLE, Int.reduceToNat, ↓reduceIte, true_and, and_true, true_or, or_true, or_false, false_or, reduceCtorEq, Bool.false_eq_true, Bool.and_true, Bool.not_true, Bool.not_false, beq_self_eq_true, Bool.true_beq, Bool.false_beq, Value.oneCell', decide_true, decide_false, Int.reduceAdd, Int.reduceSub, Int.reduceMod, Int.reduceMul, Int.reduceNeg, Int.reduceBEq, Int.reduceBNe, Int.reduceTDiv, Int.reduceTMod, ne_eq, not_false_eq_true, not_true_eq_false, Int.reduceEq, Nat.zero_add, Nat.add_zero, Nat.le_refl, tyB, Try.underlying13, Try.underlying25, Try.underlying26, Try.underlying53, Try.underlying54, atG, tiG, addG, alG, adG, ptZG, mn, mm, hPe, toR_p, toR_0, ptOf_p, h1, h2, d1, d2, toN_one, toN_zero, onB_bad, nsm_0, rx_o, ry_o, rb_o, e0, cells_pt, agg_pt, isNil_pt, ptV_lit, cells_w, agg_w, isNil_w, valm, ↓binK_eqPt, ↓binK_eqU, ↓binK_neU, eqU_v]
    · have d2 := decide_eq_false c2
      have m2 : (n + n) % full = n + n := Nat.mod_eq_of_lt (by omega)
      have e2 := nsm_add hP n n
      simp -implicitDefEqProofs (maxSteps := 10000000) only [vy_succ, vy_zero, vx_skip, vx_reg0, vx_reg1, vx_ord, xx_done, xx_stop, xx_alt, vx_seq, vx_cond, vx_block, vx_exit, vx_ret, vx_loop, gx_nil, gx_cons, dx_nil, dx_cons, slim, slimOp, gO, gSO, qSO, quietOp, cx_nil, cx_cons, xx_alc, cS, qSB, eK, calmOp, guardS, gK, qK, putK, plK, dOk, St.ev, St.get, St.mem, St.set, St.setm, St.put, lookA, look, newK, nextver, initT, seqE, blockQ, bodyQ, resK, retV, AV.rdv, cells_agg, cells_int, cells_bool, cells_string, cells_slice, cells_uV, agg_uV, isNil_uV, toN_uV, i64_in, IntKind.wrap_u64, IntKind.wrap_u8, IntKind.wrap_u32, ↓binK, ↓intK, unK, ↓loadK, ↓withKey_eq, ↓idxAddrK, ↓indexK, ↓partK, ↓fieldK, ↓fieldAddrK, ↓convK, ↓callK, wrG, updK, ↓lenK, ↓mmK, ↓appK, ↓copyK, ↓sliceK, ↓toArrK, nilK, optK_some, optK_tup, optK_ite, evs, plains, seqParts, capsOf, capsD, List.append_nil, List.nil_append, List.cons_append, AV.dv, AV.cont, isNil_agg, isNil_int, isNil_bool, isNil_string, isNil_nil, isNil_slice, ↓buildV_eq, fillL, placesOf, Option.map_some, Option.map_none, ↓storeK, wrL, RV.av, DV.av, List.set, List.map_cons, List.map_nil, List.length_cons, List.length_nil, List.all_cons, List.all_nil, List.getElem?_cons_zero, List.getElem?_cons_succ, List.getElem?_nil, List.size_toArray, List.getElem?_toArray, List.drop_zero, List.drop_succ_cons, List.take_zero, List.take_succ_cons, Option.getD_some, Option.getD_none, Option.some.injEq, Option.isSome_some, Nat.reduceEqDiff, Nat.reduceAdd, Nat.reduceSub, Nat.reduceMul, Nat.reduceLT, Nat.reduceLeDiff, Nat.reduceMod, Nat.reduceDiv, Int.cast_ofNat_Int, Int.reduceLT, Int.reduceLE, Int.reduceToNat, ↓reduceIte, true_and, and_true, true_or, or_true, or_false, false_or, reduceCtorEq, Bool.false_eq_true, Bool.and_true, Bool.not_true, Bool.not_false, beq_self_eq_true, Bool.true_beq, Bool.false_beq, Value.oneCell', decide_true, decide_false, Int.reduceAdd, Int.reduceSub, Int.reduceMod, Int.reduceMul, Int.reduceNeg, Int.reduceBEq, Int.reduceBNe, Int.reduceTDiv, Int.reduceTMod, ne_eq, not_false_eq_true, not_true_eq_false, Int.reduceEq, Nat.zero_add, Nat.add_zero, Nat.le_refl, tyB, Try.underlying13, Try.underlying25, Try.underlying26, Try.underlying53, Try.underlying54, atG, tiG, addG, alG, adG, ptZG, mn, mm, hPe, toR_p, toR_0, ptOf_p, h1, h2, d1, d2, m2, e2, toN_one, toN_zero, onB_bad, nsm_0, rx_o, ry_o, rb_o, e0, cells_pt, agg_pt, isNil_pt, ptV_lit, cells_w, agg_w, isNil_w, valm, ↓binK_eqPt, ↓binK_eqU, ↓binK_neU, eqU_v]
  · have d1 := decide_eq_false c1
    have m1 : (n + 1) % full = n + 1 := Nat.mod_eq_of_lt (by omega)
    have e1 : nsm (n + 1) P = padd (nsm n P) P := rfl
    by_cases c2 : full ≤ n + n
    · have d2 := decide_eq_true c2
      simp -implicitDefEqProofs (maxSteps := 10000000) only [vy_succ, vy_zero, vx_skip, vx_reg0, vx_reg1, vx_ord, xx_done, xx_stop, xx_alt, vx_seq, vx_cond, vx_block, vx_exit, vx_ret, vx_loop, gx_nil, gx_cons, dx_nil, dx_cons, slim, slimOp, gO, gSO, qSO, quietOp, cx_nil, cx_cons, xx_alc, cS, qSB, eK, calmOp, guardS, gK, qK, putK, plK, dOk, St.ev, St.get, St.mem, St.set, St.setm, St.put, lookA, look, newK, nextver, initT, seqE, blockQ, bodyQ, resK, retV, AV.rdv, cells_agg, cells_int, cells_bool, cells_string, cells_slice, cells_uV, agg_uV, isNil_uV, toN_uV, i64_in, IntKind.wrap_u64, IntKind.wrap_u8, IntKind.wrap_u32, ↓binK, ↓intK, unK, ↓loadK, ↓withKey_eq, ↓idxAddrK, ↓indexK, ↓partK, ↓fieldK, ↓fieldAddrK, ↓convK, ↓callK, wrG, updK, ↓lenK, ↓mmK, ↓appK, ↓copyK, ↓sliceK, ↓toArrK, nilK, optK_some, optK_tup, optK_ite, evs, plains, seqParts, capsOf, capsD, List.append_nil, List.nil_append, List.cons_append, AV.dv, AV.cont, isNil_agg, isNil_int, isNil_bool, isNil_string, isNil_nil, isNil_slice, ↓buildV_eq, fillL, placesOf, Option.map_some, Option.map_none, ↓storeK, wrL, RV.av, DV.av, List.set, List.map_cons, List.map_nil, List.length_cons, List.length_nil, List.all_cons, List.all_nil, List.getElem?_cons_zero, List.getElem?_cons_succ, List.getElem?_nil, List.size_toArray, List.getElem?_toArray, List.drop_zero, List.drop_succ_cons, List.take_zero, List.take_succ_cons, Option.getD_some, Option.getD_none, Option.some.injEq, Option.isSome_some, Nat.reduceEqDiff, Nat.reduceAdd, Nat.reduceSub, Nat.reduceMul, Nat.reduceLT, Nat.reduceLeDiff, Nat.reduceMod, Nat.reduceDiv, Int.cast_ofNat_Int, Int.reduceLT, Int.reduceLE, Int.reduceToNat, ↓reduceIte, true_and, and_true, true_or, or_true, or_false, false_or, reduceCtorEq, Bool.false_eq_true, Bool.and_true, Bool.not_true, Bool.not_false, beq_self_eq_true, Bool.true_beq, Bool.false_beq, Value.oneCell', decide_true, decide_false, Int.reduceAdd, Int.reduceSub, Int.reduceMod, Int.reduceMul, Int.reduceNeg, Int.reduceBEq, Int.reduceBNe, Int.reduceTDiv, Int.reduceTMod, ne_eq, not_false_eq_true, not_true_eq_false, Int.reduceEq, Nat.zero_add, Nat.add_zero, Nat.le_refl, tyB, Try.underlying13, Try.underlying25, Try.underlying26, Try.underlying53, Try.underlying54, atG, tiG, addG, alG, adG, ptZG, mn, mm, hPe, toR_p, toR_0, ptOf_p, h1, h2, d1, d2, m1, e1, toN_one, toN_zero, onB_bad, nsm_0, rx_o, ry_o, rb_o, e0, cells_pt, agg_pt, isNil_pt, ptV_lit, cells_w, agg_w, isNil_w, valm, ↓binK_eqPt, ↓binK_eqU, ↓binK_neU, eqU_v]
    · have d2 := decide_eq_false c2
      have m2 : (n + n) % full = n + n := Nat.mod_eq_of_lt (by omega)
      have e2 := nsm_add hP n n
      simp -implicitDefEqProofs (maxSteps := 10000000) only [vy_succ, vy_zero, vx_skip, vx_reg0, vx_reg1, vx_ord, xx_done, xx_stop, xx_alt, vx_seq, vx_cond, vx_block, vx_exit, vx_ret, vx_loop, gx_nil, gx_cons, dx_nil, dx_cons, slim, slimOp, gO, gSO, qSO, quietOp, cx_nil, cx_cons, xx_alc, cS, qSB, eK, calmOp, guardS, gK, qK, putK, plK, dOk, St.ev, St.get, St.mem, St.set, St.setm, St.put, lookA, look, newK, nextver, initT, seqE, blockQ, bodyQ, resK, retV, AV.rdv, cells_agg, cells_int, cells_bool, cells_string, cells_slice, cells_uV, agg_uV, isNil_uV, toN_uV, i64_in, IntKind.wrap_u64, IntKind.wrap_u8, IntKind.wrap_u32, ↓binK, ↓intK, unK, ↓loadK, ↓withKey_eq, ↓idxAddrK, ↓indexK, ↓partK, ↓fieldK, ↓fieldAddrK, ↓convK, ↓callK, wrG, updK, ↓lenK, ↓mmK, ↓appK, ↓copyK, ↓sliceK, ↓toArrK, nilK, optK_some, optK_tup, optK_ite, evs, plains, seqParts, capsOf, capsD, List.append_nil, List.nil_append, List.cons_append, AV.dv, AV.cont, isNil_agg, isNil_int, isNil_bool, isNil_string, isNil_nil, isNil_slice, ↓buildV_eq, fillL, placesOf, Option.map_some, Option.map_none, ↓storeK, wrL, RV.av, DV.av, List.set, List.map_cons, List.map_nil, List.length_cons, List.length_nil, List.all_cons, List.all_nil, List.getElem?_cons_zero, List.getElem?_cons_succ, List.getElem?_nil, List.size_toArray, List.getElem?_toArray, List.drop_zero, List.drop_succ_cons, List.take_zero, List.take_succ_cons, Option.getD_some, Option.getD_none, Option.some.injEq, Option.isSome_some, Nat.reduceEqDiff, Nat.reduceAdd, Nat.reduceSub, Nat.reduceMul, Nat.reduceLT, Nat.reduceLeDiff, Nat.reduceMod, Nat.reduceDiv, Int.cast_ofNat_Int, Int.reduceLT, Int.reduceLE, Int.reduceToNat, ↓reduceIte, true_and, and_true, true_or, or_true, or_false, false_or, reduceCtorEq, Bool.false_eq_true, Bool.and_true, Bool.not_true, Bool.not_false, beq_self_eq_true, Bool.true_beq, Bool.false_beq, Value.oneCell', decide_true, decide_false, Int.reduceAdd, Int.reduceSub, Int.reduceMod, Int.reduceMul, Int.reduceNeg, Int.reduceBEq, Int.reduceBNe, Int.reduceTDiv, Int.reduceTMod, ne_eq, not_false_eq_true, not_true_eq_false, Int.reduceEq, Nat.zero_add, Nat.add_zero, Nat.le_refl, tyB, Try.underlying13, Try.underlying25, Try.underlying26, Try.underlying53, Try.underlying54, atG, tiG, addG, alG, adG, ptZG, mn, mm, hPe, toR_p, toR_0, ptOf_p, h1, h2, d1, d2, m1, e1, m2, e2, toN_one, toN_zero, onB_bad, nsm_0, rx_o, ry_o, rb_o, e0, cells_pt, agg_pt, isNil_pt, ptV_lit, cells_w, agg_w, isNil_w, valm, ↓binK_eqPt, ↓binK_eqU, ↓binK_neU, eqU_v]
set_option maxHeartbeats 8000000 in
theorem both_law (n m k : Nat) (hn : n < full) (hm : m < full) (hk : k < full) : Spec Try.prog 4 [.pl (uV n), .pl (uV m), .pl (uV k)] (.one (.pl (.bool true))) := by
  have hΓ : Env.ok [(9, atG), (16, ptBG), (10, tiG), (15, boG), (17, ptAG), (19, faddG), (18, fmulG), (12, alG)] Try.prog := ok_cons at_ok (ok_cons ptB_ok (ok_cons tim_ok (ok_cons both_ok (ok_cons pta_ok (ok_cons fadd_ok (ok_cons fmul_ok (ok_cons al_ok (ok_nil _))))))))
  have mn : n % full = n := Nat.mod_eq_of_lt hn
  have mm : m % full = m := Nat.mod_eq_of_lt hm
  have mk : k % full = k := Nat.mod_eq_of_lt hk
  have m1 : k * m % pN 1 % full = k * m % pN 1 := Nat.mod_eq_of_lt (mod_pN _ 1)
  have m2 : (n + k * m % pN 1) % pN 1 % full = (n + k * m % pN 1) % pN 1 := Nat.mod_eq_of_lt (mod_pN _ 1)
  have hQ := nsm_on base_on k
  have isW1 : isW 1 = true := rfl
  have eb : ptOf bX bY false = base0 := rfl
  have key : nsm ((n + k * m % pN 1) % pN 1) base0 = padd (nsm n base0) (nsm m (nsm k base0)) := by
    rw [← nsm_mul base_on, ← nsm_add base_on]
    apply nsm_order base_order base_on
    rw [pN_1, Nat.mod_mod, Nat.add_mod_mod]
  refine Spec.of_vx hΓ follows_mixed Try.func4 rfl (by kernel_rfl) (T := [(2, .alc), (3, .alc)]) (by simp [Try.ntmps4]) (by kernel_rfl) rfl Try.ntmps4 (res := [.tmp 6]) rfl ?_
  intro W
  have h1 := onB_p hQ
  have h2 := onB_p (nsm_on hQ m)
  have h3 := onB_p (nsm_on base_on n)
  have e1 := eqU_self (rx (padd (nsm n base0) (nsm m (nsm k base0))))
  have e2 := eqU_self (ry (padd (nsm n base0) (nsm m (nsm k base0))))
  simp -implicitDefEqProofs (maxSteps := 10000000) only [vy_succ, vy_zero, vx_skip, vx_reg0, vx_reg1, vx_ord, xx_done, xx_stop, xx_alt, vx_seq, vx_cond, vx_block, vx_exit, vx_ret, vx_loop, gx_nil, gx_cons, dx_nil, dx_cons, slim, slimOp, gO, gSO, qSO, quietOp, cx_nil, cx_cons, xx_alc, cS, qSB, eK, calmOp, guardS, gK, qK, putK, plK, dOk, St.ev, St.get, St.mem, St.set, St.setm, St.put, lookA, look, newK, nextver, initT, seqE, blockQ, bodyQ, resK, retV, AV.rdv, cells_agg, cells_int, cells_bool, cells_string, cells_slice, cells_uV, agg_uV, isNil_uV, toN_uV, i64_in, IntKind.wrap_u64, IntKind.wrap_u8, IntKind.wrap_u32, ↓binK, ↓intK, unK, ↓loadK, ↓withKey_eq, ↓idxAddrK, ↓indexK, ↓partK, ↓fieldK, ↓fieldAddrK, ↓convK, ↓callK, wrG, updK, ↓lenK, ↓mmK, ↓appK, ↓copyK, ↓sliceK, ↓toArrK, nilK, optK_some, optK_tup, optK_ite, evs, plains, seqParts, capsOf, capsD, List.append_nil, List.nil_append, List.cons_append, AV.dv, AV.cont, isNil_agg, isNil_int, isNil_bool, isNil_string, isNil_nil, isNil_slice, ↓buildV_eq, fillL, placesOf, Option.map_some, Option.map_none, ↓storeK, wrL, RV.av, DV.av, List.set, List.map_cons, List.map_nil, List.length_cons, List.length_nil, List.all_cons, List.all_nil, List.getElem?_cons_zero, List.getElem?_cons_succ, List.getElem?_nil, List.size_toArray, List.getElem?_toArray, List.drop_zero, List.drop_succ_cons, List.take_zero, List.take_succ_cons, Option.getD_some, Option.getD_none, Option.some.injEq, Option.isSome_some, Nat.reduceEqDiff, Nat.reduceAdd, Nat.reduceSub, Nat.reduceMul, Nat.reduceLT, Nat.reduceLeDiff, Nat.reduceMod, Nat.reduceDiv, Int.cast_ofNat_Int, Int.reduceLT, Int.reduceLE, Int.reduceToNat, ↓reduceIte, true_and, and_true, true_or, or_true, or_false, false_or, reduceCtorEq, Bool.false_eq_true, Bool.and_true, Bool.not_true, Bool.not_false, beq_self_eq_true, Bool.true_beq, Bool.false_beq, Value.oneCell', decide_true, decide_false, Int.reduceAdd, Int.reduceSub, Int.reduceMod, Int.reduceMul, Int.reduceNeg, Int.reduceBEq, Int.reduceBNe, Int.reduceTDiv, Int.reduceTMod, ne_eq, not_false_eq_true, not_true_eq_false, Int.reduceEq, Nat.zero_add, Nat.add_zero, Nat.le_refl, tyB, Try.underlying13, Try.underlying25, Try.underlying26, Try.underlying53, Try.underlying54, atG, tiG, boG, ptAG, ptBG, faddG, fmulG, alG, isW1, mn, mm, mk, m1, m2, toR_p, toR_base, base_onB, eb, ptOf_p, h1, h2, h3, key, e1, e2, cells_pt, agg_pt, isNil_pt, ptV_lit, cells_w, agg_w, isNil_w, valm, ↓binK_eqPt, ↓binK_eqU, ↓binK_neU, eqU_v]
set_option maxHeartbeats 8000000 in
theorem group_law (n m k : Nat) (hn : n < full) (hm : m < full) (hk : k < full) : Spec Try.prog 6 [.pl (uV n), .pl (uV m), .pl (uV k)] (.one (.pl (.bool true))) := by
  have hΓ : Env.ok [(9, atG), (10, tiG), (17, ptAG), (22, ptTG), (24, primeG), (12, alG), (14, ptZG)] Try.prog := ok_cons at_ok (ok_cons tim_ok (ok_cons pta_ok (ok_cons ptt_ok (ok_cons prime_ok (ok_cons al_ok (ok_cons z_ok (ok_nil _)))))))
  have mn : n % full = n := Nat.mod_eq_of_lt hn
  have mm : m % full = m := Nat.mod_eq_of_lt hm
  have mk : k % full = k := Nat.mod_eq_of_lt hk
  have m1 : pN 1 % full = pN 1 := Nat.mod_eq_of_lt (pN_lt 1)
  have isW1 : isW 1 = true := rfl
  have hP := nsm_on base_on n
  have hQ := nsm_on base_on m
  have hR := nsm_on base_on k
  have ho := ord_at n
  refine Spec.of_vx hΓ follows_mixed Try.func6 rfl (by kernel_rfl) (T := []) (by simp [Try.ntmps6]) (by kernel_rfl) rfl Try.ntmps6 (res := [.tmp 6]) rfl ?_
  intro W
  generalize hPe : nsm n base0 = P at *
  generalize hQe : nsm m base0 = Q at *
  generalize hRe : nsm k base0 = R at *
  have h1 := onB_p hP
  have h2 := onB_p hQ
  have h3 := onB_p hR
  have h4 := onB_p (padd_on hP hQ)
  have h5 := onB_p (padd_on hQ hR)
  have h6 := onB_p (pneg_on hP)
  have c1 := padd_comm hQ hP
  have c2 := padd_neg hP
  have c3 := padd_assoc hP hQ hR
  have e1 := eqU_self (rx (padd P Q))
  have e2 := eqU_self (ry (padd P Q))
  have e3 := eqU_self (rx (padd P (padd Q R)))
  have e4 := eqU_self (ry (padd P (padd Q R)))
  have e0 := eqU_self 0
  simp -implicitDefEqProofs (maxSteps := 10000000) only [vy_succ, vy_zero, vx_skip, vx_reg0, vx_reg1, vx_ord, xx_done, xx_stop, xx_alt, vx_seq, vx_cond, vx_block, vx_exit, vx_ret, vx_loop, gx_nil, gx_cons, dx_nil, dx_cons, slim, slimOp, gO, gSO, qSO, quietOp, cx_nil, cx_cons, xx_alc, cS, qSB, eK, calmOp, guardS, gK, qK, putK, plK, dOk, St.ev, St.get, St.mem, St.set, St.setm, St.put, lookA, look, newK, nextver, initT, seqE, blockQ, bodyQ, resK, retV, AV.rdv, cells_agg, cells_int, cells_bool, cells_string, cells_slice, cells_uV, agg_uV, isNil_uV, toN_uV, i64_in, IntKind.wrap_u64, IntKind.wrap_u8, IntKind.wrap_u32, ↓binK, ↓intK, unK, ↓loadK, ↓withKey_eq, ↓idxAddrK, ↓indexK, ↓partK, ↓fieldK, ↓fieldAddrK, ↓convK, ↓callK, wrG, updK, ↓lenK, ↓mmK, ↓appK, ↓copyK, ↓sliceK, ↓toArrK, nilK, optK_some, optK_tup, optK_ite, evs, plains, seqParts, capsOf, capsD, List.append_nil, List.nil_append, List.cons_append, AV.dv, AV.cont, isNil_agg, isNil_int, isNil_bool, isNil_string, isNil_nil, isNil_slice, ↓buildV_eq, fillL, placesOf, Option.map_some, Option.map_none, ↓storeK, wrL, RV.av, DV.av, List.set, List.map_cons, List.map_nil, List.length_cons, List.length_nil, List.all_cons, List.all_nil, List.getElem?_cons_zero, List.getElem?_cons_succ, List.getElem?_nil, List.size_toArray, List.getElem?_toArray, List.drop_zero, List.drop_succ_cons, List.take_zero, List.take_succ_cons, Option.getD_some, Option.getD_none, Option.some.injEq, Option.isSome_some, Nat.reduceEqDiff, Nat.reduceAdd, Nat.reduceSub, Nat.reduceMul, Nat.reduceLT, Nat.reduceLeDiff, Nat.reduceMod, Nat.reduceDiv, Int.cast_ofNat_Int, Int.reduceLT, Int.reduceLE, Int.reduceToNat, ↓reduceIte, true_and, and_true, true_or, or_true, or_false, false_or, reduceCtorEq, Bool.false_eq_true, Bool.and_true, Bool.not_true, Bool.not_false, beq_self_eq_true, Bool.true_beq, Bool.false_beq, Value.oneCell', decide_true, decide_false, Int.reduceAdd, Int.reduceSub, Int.reduceMod, Int.reduceMul, Int.reduceNeg, Int.reduceBEq, Int.reduceBNe, Int.reduceTDiv, Int.reduceTMod, ne_eq, not_false_eq_true, not_true_eq_false, Int.reduceEq, Nat.zero_add, Nat.add_zero, Nat.le_refl, tyB, Try.underlying13, Try.underlying25, Try.underlying26, Try.underlying53, Try.underlying54, atG, tiG, ptAG, ptTG, primeG, alG, ptZG, isW1, mn, mm, mk, m1, hPe, hQe, hRe, toR_p, ptOf_p, h1, h2, h3, h4, h5, h6, c1, c2, c3, ho, rx_o, ry_o, rb_o, e0, e1, e2, e3, e4, cells_pt, agg_pt, isNil_pt, ptV_lit, cells_w, agg_w, isNil_w, valm, ↓binK_eqPt, ↓binK_eqU, ↓binK_neU, eqU_v]
set_option maxHeartbeats 8000000 in
theorem turned_law (n m : Nat) (hn : n < full) (hm : m < full) : Spec Try.prog 7 [.pl (uV n), .pl (uV m)] (.one (.pl (.bool true))) := by
  have hΓ : Env.ok [(9, atG), (10, tiG), (22, ptTG), (25, freduceG), (26, fsubG), (12, alG)] Try.prog := ok_cons at_ok (ok_cons tim_ok (ok_cons ptt_ok (ok_cons freduce_ok (ok_cons fsub_ok (ok_cons al_ok (ok_nil _))))))
  have mn : n % full = n := Nat.mod_eq_of_lt hn
  have mm : m % full = m := Nat.mod_eq_of_lt hm
  have m1 : n % pN 1 % full = n % pN 1 := Nat.mod_eq_of_lt (mod_pN _ 1)
  have m2 : (pN 1 - n % pN 1) % pN 1 % full = (pN 1 - n % pN 1) % pN 1 := Nat.mod_eq_of_lt (mod_pN _ 1)
  have isW1 : isW 1 = true := rfl
  have hP := nsm_on base_on m
  have ho := neg_at m (n % pN 1)
  have z1 : n + 0 * full = n := by omega
  have z2 := Nat.zero_mod (pN 1)
  rw [Nat.mod_mod] at ho
  refine Spec.of_vx hΓ follows_mixed Try.func7 rfl (by kernel_rfl) (T := []) (by simp [Try.ntmps7]) (by kernel_rfl) rfl Try.ntmps7 (res := [.tmp 4]) rfl ?_
  intro W
  generalize hPe : nsm m base0 = P at *
  have h1 := onB_p hP
  have h2 := onB_p (nsm_on hP (n % pN 1))
  have h3 := onB_p (pneg_on (nsm_on hP (n % pN 1)))
  have e1 := eqU_self (rx (pneg (nsm (n % pN 1) P)))
  have e2 := eqU_self (ry (pneg (nsm (n % pN 1) P)))
  have e3 := eqU_self (rx (nsm (n % pN 1) P))
  have e4 := eqU_self (ry (nsm (n % pN 1) P))
  simp -implicitDefEqProofs (maxSteps := 10000000) only [vy_succ, vy_zero, vx_skip, vx_reg0, vx_reg1, vx_ord, xx_done, xx_stop, xx_alt, vx_seq, vx_cond, vx_block, vx_exit, vx_ret, vx_loop, gx_nil, gx_cons, dx_nil, dx_cons, slim, slimOp, gO, gSO, qSO, quietOp, cx_nil, cx_cons, xx_alc, cS, qSB, eK, calmOp, guardS, gK, qK, putK, plK, dOk, St.ev, St.get, St.mem, St.set, St.setm, St.put, lookA, look, newK, nextver, initT, seqE, blockQ, bodyQ, resK, retV, AV.rdv, cells_agg, cells_int, cells_bool, cells_string, cells_slice, cells_uV, agg_uV, isNil_uV, toN_uV, i64_in, IntKind.wrap_u64, IntKind.wrap_u8, IntKind.wrap_u32, ↓binK, ↓intK, unK, ↓loadK, ↓withKey_eq, ↓idxAddrK, ↓indexK, ↓partK, ↓fieldK, ↓fieldAddrK, ↓convK, ↓callK, wrG, updK, ↓lenK, ↓mmK, ↓appK, ↓copyK, ↓sliceK, ↓toArrK, nilK, optK_some, optK_tup, optK_ite, evs, plains, seqParts, capsOf, capsD, List.append_nil, List.nil_append, List.cons_append, AV.dv, AV.cont, isNil_agg, isNil_int, isNil_bool, isNil_string, isNil_nil, isNil_slice, ↓buildV_eq, fillL, placesOf, Option.map_some, Option.map_none, ↓storeK, wrL, RV.av, DV.av, List.set, List.map_cons, List.map_nil, List.length_cons, List.length_nil, List.all_cons, List.all_nil, List.getElem?_cons_zero, List.getElem?_cons_succ, List.getElem?_nil, List.size_toArray, List.getElem?_toArray, List.drop_zero, List.drop_succ_cons, List.take_zero, List.take_succ_cons, Option.getD_some, Option.getD_none, Option.some.injEq, Option.isSome_some, Nat.reduceEqDiff, Nat.reduceAdd, Nat.reduceSub, Nat.reduceMul, Nat.reduceLT, Nat.reduceLeDiff, Nat.reduceMod, Nat.reduceDiv, Int.cast_ofNat_Int, Int.reduceLT, Int.reduceLE, Int.reduceToNat, ↓reduceIte, true_and, and_true, true_or, or_true, or_false, false_or, reduceCtorEq, Bool.false_eq_true, Bool.and_true, Bool.not_true, Bool.not_false, beq_self_eq_true, Bool.true_beq, Bool.false_beq, Value.oneCell', decide_true, decide_false, Int.reduceAdd, Int.reduceSub, Int.reduceMod, Int.reduceMul, Int.reduceNeg, Int.reduceBEq, Int.reduceBNe, Int.reduceTDiv, Int.reduceTMod, ne_eq, not_false_eq_true, not_true_eq_false, Int.reduceEq, Nat.zero_add, Nat.add_zero, Nat.le_refl, tyB, Try.underlying13, Try.underlying25, Try.underlying26, Try.underlying53, Try.underlying54, atG, tiG, ptTG, freduceG, fsubG, alG, isW1, mn, mm, m1, m2, z1, z2, Nat.mod_mod, toN_zero, hPe, toR_p, ptOf_p, pneg_neg, h1, h2, h3, ho, e1, e2, e3, e4, cells_pt, agg_pt, isNil_pt, ptV_lit, cells_w, agg_w, isNil_w, valm, ↓binK_eqPt, ↓binK_eqU, ↓binK_neU, eqU_v]
end Go.Vm
