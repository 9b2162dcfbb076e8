/- Contracts of the points' reference; at, alive, zero. No condition. -/
import Derived.Test.YtcbcmfmcpdimkaaPe
import Derived.Test.YtcbcmfmcpdimkaaFr
set_option maxRecDepth 100000
set_option linter.unusedSimpArgs false
set_option linter.unusedVariables false
namespace Go.Vm
open Go Go.RowKit Go.Proofs Go.Ec

theorem rsub_v (a b : Nat) (hb : b < full) : (a + (pN 0 + pN 0) - b) % pN 0 = (nc a - nc b).val := by
  rw [← sub_v]
  have h1 := pN_big 0
  have h2 := Nat.mod_add_div b (pN 0)
  have h3 := Nat.mod_lt b (pN_pos 0)
  have hb2 : b / pN 0 ≤ 1 := by
    have : b / pN 0 < 2 := Nat.div_lt_of_lt_mul (by rw [Nat.mul_comm]; omega)
    omega
  rw [Nat.mod_add_mod]
  generalize b / pN 0 = q at *
  rcases (show q = 0 ∨ q = 1 by omega) with h | h
  · rw [h, Nat.mul_zero, Nat.add_zero] at h2
    rw [show a + (pN 0 + pN 0) - b = a + (pN 0 - b % pN 0) + pN 0 by omega, Nat.add_mod_right]
  · rw [h, Nat.mul_one] at h2
    rw [show a + (pN 0 + pN 0) - b = a + (pN 0 - b % pN 0) by omega]
theorem rfAdd_ok : ∀ ds r, pAddG ds = some r → Spec Try.prog 33 ds r := by
  intro ds r h
  unfold pAddG at h
  split at h
  case h_2 => cases h
  rename_i va vb
  split at h
  case h_2 => cases h
  rename_i a b ha hb
  cases h
  obtain ⟨rfl, ha'⟩ := toN_eq ha
  obtain ⟨rfl, hb'⟩ := toN_eq hb
  have hΓ : Env.ok [(55, raddG)] Try.prog := ok_cons radd_ok (ok_nil _)
  refine Spec.of_vx hΓ follows_mixed Try.func33 rfl (by kernel_rfl) (T := []) (by simp [Try.ntmps33]) (by kernel_rfl) rfl Try.ntmps33 (res := [.cell 4 24]) rfl ?_
  intro W
  simp -implicitDefEqProofs (maxSteps := 10000000) only [vy_succ, vy_zero, vx_skip, vx_reg0, vx_reg1, vx_ord, xx_done, xx_stop, xx_alt, vx_seq, vx_cond, vx_block, vx_exit, vx_ret, vx_loop, gx_nil, gx_cons, dx_nil, dx_cons, slim, slimOp, gO, gSO, qSO, quietOp, cx_nil, cx_cons, xx_alc, cS, qSB, eK, calmOp, guardS, gK, qK, putK, plK, dOk, St.ev, St.get, St.mem, St.set, St.setm, St.put, lookA, look, newK, nextver, initT, seqE, blockQ, bodyQ, resK, retV, AV.rdv, cells_agg, cells_int, cells_bool, cells_string, cells_slice, cells_uV, agg_uV, isNil_uV, toN_uV, i64_in, IntKind.wrap_u64, IntKind.wrap_u8, IntKind.wrap_u32, ↓binK, ↓intK, unK, ↓loadK, ↓withKey_eq, ↓idxAddrK, ↓indexK, ↓partK, ↓fieldK, ↓fieldAddrK, ↓convK, ↓callK, wrG, updK, ↓lenK, ↓mmK, ↓appK, ↓copyK, ↓sliceK, ↓toArrK, nilK, optK_some, optK_tup, optK_ite, evs, plains, seqParts, capsOf, capsD, List.append_nil, List.nil_append, List.cons_append, AV.dv, AV.cont, isNil_agg, isNil_int, isNil_bool, isNil_string, isNil_nil, isNil_slice, ↓buildV_eq, fillL, placesOf, Option.map_some, Option.map_none, ↓storeK, wrL, RV.av, DV.av, List.set, List.map_cons, List.map_nil, List.length_cons, List.length_nil, List.all_cons, List.all_nil, List.getElem?_cons_zero, List.getElem?_cons_succ, List.getElem?_nil, List.size_toArray, List.getElem?_toArray, List.drop_zero, List.drop_succ_cons, List.take_zero, List.take_succ_cons, Option.getD_some, Option.getD_none, Option.some.injEq, Option.isSome_some, Nat.reduceEqDiff, Nat.reduceAdd, Nat.reduceSub, Nat.reduceMul, Nat.reduceLT, Nat.reduceLeDiff, Nat.reduceMod, Nat.reduceDiv, Int.cast_ofNat_Int, Int.reduceLT, Int.reduceLE, Int.reduceToNat, ↓reduceIte, true_and, and_true, true_or, or_true, or_false, false_or, reduceCtorEq, Bool.false_eq_true, Bool.and_true, Bool.not_true, Bool.not_false, beq_self_eq_true, Bool.true_beq, Bool.false_beq, Value.oneCell', decide_true, decide_false, Int.reduceAdd, Int.reduceSub, Int.reduceMod, Int.reduceMul, Int.reduceNeg, Int.reduceBEq, Int.reduceBNe, Int.reduceTDiv, Int.reduceTMod, ne_eq, not_false_eq_true, not_true_eq_false, Int.reduceEq, Nat.zero_add, Nat.add_zero, Nat.le_refl, tyB, Try.underlying13, Try.underlying25, Try.underlying26, Try.underlying53, Try.underlying54, raddG, ha, hb, isW0, add_v]
theorem rfSub_ok : ∀ ds r, pSubG ds = some r → Spec Try.prog 31 ds r := by
  intro ds r h
  unfold pSubG at h
  split at h
  case h_2 => cases h
  rename_i va vb
  split at h
  case h_2 => cases h
  rename_i a b ha hb
  cases h
  obtain ⟨rfl, ha'⟩ := toN_eq ha
  obtain ⟨rfl, hb'⟩ := toN_eq hb
  have e := rsub_v a b hb'
  have hΓ : Env.ok [(53, rsubG)] Try.prog := ok_cons rsub_ok (ok_nil _)
  refine Spec.of_vx hΓ follows_mixed Try.func31 rfl (by kernel_rfl) (T := []) (by simp [Try.ntmps31]) (by kernel_rfl) rfl Try.ntmps31 (res := [.cell 4 24]) rfl ?_
  intro W
  simp -implicitDefEqProofs (maxSteps := 10000000) only [vy_succ, vy_zero, vx_skip, vx_reg0, vx_reg1, vx_ord, xx_done, xx_stop, xx_alt, vx_seq, vx_cond, vx_block, vx_exit, vx_ret, vx_loop, gx_nil, gx_cons, dx_nil, dx_cons, slim, slimOp, gO, gSO, qSO, quietOp, cx_nil, cx_cons, xx_alc, cS, qSB, eK, calmOp, guardS, gK, qK, putK, plK, dOk, St.ev, St.get, St.mem, St.set, St.setm, St.put, lookA, look, newK, nextver, initT, seqE, blockQ, bodyQ, resK, retV, AV.rdv, cells_agg, cells_int, cells_bool, cells_string, cells_slice, cells_uV, agg_uV, isNil_uV, toN_uV, i64_in, IntKind.wrap_u64, IntKind.wrap_u8, IntKind.wrap_u32, ↓binK, ↓intK, unK, ↓loadK, ↓withKey_eq, ↓idxAddrK, ↓indexK, ↓partK, ↓fieldK, ↓fieldAddrK, ↓convK, ↓callK, wrG, updK, ↓lenK, ↓mmK, ↓appK, ↓copyK, ↓sliceK, ↓toArrK, nilK, optK_some, optK_tup, optK_ite, evs, plains, seqParts, capsOf, capsD, List.append_nil, List.nil_append, List.cons_append, AV.dv, AV.cont, isNil_agg, isNil_int, isNil_bool, isNil_string, isNil_nil, isNil_slice, ↓buildV_eq, fillL, placesOf, Option.map_some, Option.map_none, ↓storeK, wrL, RV.av, DV.av, List.set, List.map_cons, List.map_nil, List.length_cons, List.length_nil, List.all_cons, List.all_nil, List.getElem?_cons_zero, List.getElem?_cons_succ, List.getElem?_nil, List.size_toArray, List.getElem?_toArray, List.drop_zero, List.drop_succ_cons, List.take_zero, List.take_succ_cons, Option.getD_some, Option.getD_none, Option.some.injEq, Option.isSome_some, Nat.reduceEqDiff, Nat.reduceAdd, Nat.reduceSub, Nat.reduceMul, Nat.reduceLT, Nat.reduceLeDiff, Nat.reduceMod, Nat.reduceDiv, Int.cast_ofNat_Int, Int.reduceLT, Int.reduceLE, Int.reduceToNat, ↓reduceIte, true_and, and_true, true_or, or_true, or_false, false_or, reduceCtorEq, Bool.false_eq_true, Bool.and_true, Bool.not_true, Bool.not_false, beq_self_eq_true, Bool.true_beq, Bool.false_beq, Value.oneCell', decide_true, decide_false, Int.reduceAdd, Int.reduceSub, Int.reduceMod, Int.reduceMul, Int.reduceNeg, Int.reduceBEq, Int.reduceBNe, Int.reduceTDiv, Int.reduceTMod, ne_eq, not_false_eq_true, not_true_eq_false, Int.reduceEq, Nat.zero_add, Nat.add_zero, Nat.le_refl, tyB, Try.underlying13, Try.underlying25, Try.underlying26, Try.underlying53, Try.underlying54, rsubG, ha, hb, isW0, e]
theorem rfMul_ok : ∀ ds r, pMulG ds = some r → Spec Try.prog 32 ds r := by
  intro ds r h
  unfold pMulG at h
  split at h
  case h_2 => cases h
  rename_i va vb
  split at h
  case h_2 => cases h
  rename_i a b ha hb
  cases h
  obtain ⟨rfl, ha'⟩ := toN_eq ha
  obtain ⟨rfl, hb'⟩ := toN_eq hb
  have hΓ : Env.ok [(54, rmulG)] Try.prog := ok_cons rmul_ok (ok_nil _)
  refine Spec.of_vx hΓ follows_mixed Try.func32 rfl (by kernel_rfl) (T := []) (by simp [Try.ntmps32]) (by kernel_rfl) rfl Try.ntmps32 (res := [.cell 4 24]) rfl ?_
  intro W
  simp -implicitDefEqProofs (maxSteps := 10000000) only [vy_succ, vy_zero, vx_skip, vx_reg0, vx_reg1, vx_ord, xx_done, xx_stop, xx_alt, vx_seq, vx_cond, vx_block, vx_exit, vx_ret, vx_loop, gx_nil, gx_cons, dx_nil, dx_cons, slim, slimOp, gO, gSO, qSO, quietOp, cx_nil, cx_cons, xx_alc, cS, qSB, eK, calmOp, guardS, gK, qK, putK, plK, dOk, St.ev, St.get, St.mem, St.set, St.setm, St.put, lookA, look, newK, nextver, initT, seqE, blockQ, bodyQ, resK, retV, AV.rdv, cells_agg, cells_int, cells_bool, cells_string, cells_slice, cells_uV, agg_uV, isNil_uV, toN_uV, i64_in, IntKind.wrap_u64, IntKind.wrap_u8, IntKind.wrap_u32, ↓binK, ↓intK, unK, ↓loadK, ↓withKey_eq, ↓idxAddrK, ↓indexK, ↓partK, ↓fieldK, ↓fieldAddrK, ↓convK, ↓callK, wrG, updK, ↓lenK, ↓mmK, ↓appK, ↓copyK, ↓sliceK, ↓toArrK, nilK, optK_some, optK_tup, optK_ite, evs, plains, seqParts, capsOf, capsD, List.append_nil, List.nil_append, List.cons_append, AV.dv, AV.cont, isNil_agg, isNil_int, isNil_bool, isNil_string, isNil_nil, isNil_slice, ↓buildV_eq, fillL, placesOf, Option.map_some, Option.map_none, ↓storeK, wrL, RV.av, DV.av, List.set, List.map_cons, List.map_nil, List.length_cons, List.length_nil, List.all_cons, List.all_nil, List.getElem?_cons_zero, List.getElem?_cons_succ, List.getElem?_nil, List.size_toArray, List.getElem?_toArray, List.drop_zero, List.drop_succ_cons, List.take_zero, List.take_succ_cons, Option.getD_some, Option.getD_none, Option.some.injEq, Option.isSome_some, Nat.reduceEqDiff, Nat.reduceAdd, Nat.reduceSub, Nat.reduceMul, Nat.reduceLT, Nat.reduceLeDiff, Nat.reduceMod, Nat.reduceDiv, Int.cast_ofNat_Int, Int.reduceLT, Int.reduceLE, Int.reduceToNat, ↓reduceIte, true_and, and_true, true_or, or_true, or_false, false_or, reduceCtorEq, Bool.false_eq_true, Bool.and_true, Bool.not_true, Bool.not_false, beq_self_eq_true, Bool.true_beq, Bool.false_beq, Value.oneCell', decide_true, decide_false, Int.reduceAdd, Int.reduceSub, Int.reduceMod, Int.reduceMul, Int.reduceNeg, Int.reduceBEq, Int.reduceBNe, Int.reduceTDiv, Int.reduceTMod, ne_eq, not_false_eq_true, not_true_eq_false, Int.reduceEq, Nat.zero_add, Nat.add_zero, Nat.le_refl, tyB, Try.underlying13, Try.underlying25, Try.underlying26, Try.underlying53, Try.underlying54, rmulG, ha, hb, isW0, mul_v]
theorem rfRed_ok : ∀ ds r, redG ds = some r → Spec Try.prog 28 ds r := by
  intro ds r h
  unfold redG at h
  split at h
  case h_2 => cases h
  rename_i va
  split at h
  case h_2 => cases h
  rename_i a ha
  cases h
  obtain ⟨rfl, ha'⟩ := toN_eq ha
  have hΓ : Env.ok [(52, rmodG), (51, ofG), (50, lessG)] Try.prog := ok_cons rmod_ok (ok_cons of_ok (ok_cons less_ok (ok_nil _)))
  have tp : toN (uV (pN 0)) = some (pN 0) := toN_lt (pN_lt 0)
  have p16 : full = 65536 ^ 16 := by rw [full_eq]
  have d1 : toD (digV 16 a) = some (16, a) := toD_digV (by rw [← p16]; exact ha')
  have d2 : toD (digV 16 (pN 0)) = some (16, pN 0) := toD_digV (by rw [← p16]; exact pN_lt 0)
  refine Spec.of_vx hΓ follows_mixed Try.func28 rfl (by kernel_rfl) (T := []) (by simp [Try.ntmps28]) (by kernel_rfl) rfl Try.ntmps28 (res := [.tmp 2]) rfl ?_
  intro W
  simp -implicitDefEqProofs (maxSteps := 10000000) only [vy_succ, vy_zero, vx_skip, vx_reg0, vx_reg1, vx_ord, xx_done, xx_stop, xx_alt, vx_seq, vx_cond, vx_block, vx_exit, vx_ret, vx_loop, gx_nil, gx_cons, dx_nil, dx_cons, slim, slimOp, gO, gSO, qSO, quietOp, cx_nil, cx_cons, xx_alc, cS, qSB, eK, calmOp, guardS, gK, qK, putK, plK, dOk, St.ev, St.get, St.mem, St.set, St.setm, St.put, lookA, look, newK, nextver, initT, seqE, blockQ, bodyQ, resK, retV, AV.rdv, cells_agg, cells_int, cells_bool, cells_string, cells_slice, cells_uV, agg_uV, isNil_uV, toN_uV, i64_in, IntKind.wrap_u64, IntKind.wrap_u8, IntKind.wrap_u32, ↓binK, ↓intK, unK, ↓loadK, ↓withKey_eq, ↓idxAddrK, ↓indexK, ↓partK, ↓fieldK, ↓fieldAddrK, ↓convK, ↓callK, wrG, updK, ↓lenK, ↓mmK, ↓appK, ↓copyK, ↓sliceK, ↓toArrK, nilK, optK_some, optK_tup, optK_ite, evs, plains, seqParts, capsOf, capsD, List.append_nil, List.nil_append, List.cons_append, AV.dv, AV.cont, isNil_agg, isNil_int, isNil_bool, isNil_string, isNil_nil, isNil_slice, ↓buildV_eq, fillL, placesOf, Option.map_some, Option.map_none, ↓storeK, wrL, RV.av, DV.av, List.set, List.map_cons, List.map_nil, List.length_cons, List.length_nil, List.all_cons, List.all_nil, List.getElem?_cons_zero, List.getElem?_cons_succ, List.getElem?_nil, List.size_toArray, List.getElem?_toArray, List.drop_zero, List.drop_succ_cons, List.take_zero, List.take_succ_cons, Option.getD_some, Option.getD_none, Option.some.injEq, Option.isSome_some, Nat.reduceEqDiff, Nat.reduceAdd, Nat.reduceSub, Nat.reduceMul, Nat.reduceLT, Nat.reduceLeDiff, Nat.reduceMod, Nat.reduceDiv, Int.cast_ofNat_Int, Int.reduceLT, Int.reduceLE, Int.reduceToNat, ↓reduceIte, true_and, and_true, true_or, or_true, or_false, false_or, reduceCtorEq, Bool.false_eq_true, Bool.and_true, Bool.not_true, Bool.not_false, beq_self_eq_true, Bool.true_beq, Bool.false_beq, Value.oneCell', decide_true, decide_false, Int.reduceAdd, Int.reduceSub, Int.reduceMod, Int.reduceMul, Int.reduceNeg, Int.reduceBEq, Int.reduceBNe, Int.reduceTDiv, Int.reduceTMod, ne_eq, not_false_eq_true, not_true_eq_false, Int.reduceEq, Nat.zero_add, Nat.add_zero, Nat.le_refl, tyB, Try.underlying13, Try.underlying25, Try.underlying26, Try.underlying53, Try.underlying54, rmodG, ofG, lessG, ha, tp, isW0, d1, d2]
set_option maxHeartbeats 4000000 in
theorem ron_walk (x y : Nat) (b : Bool) (hx : x < full) (hy : y < full) : Spec Try.prog 21 [.pl (ptV x y b)] (.one (.pl (.bool (onB x y b)))) := by
  have hΓ : Env.ok [(28, redG), (32, pMulG), (33, pAddG)] Try.prog := ok_cons rfRed_ok (ok_cons rfMul_ok (ok_cons rfAdd_ok (ok_nil _)))
  have tx : toN (uV x) = some x := toN_lt hx
  have ty : toN (uV y) = some y := toN_lt hy
  have mx : x % full = x := Nat.mod_eq_of_lt hx
  have my : y % full = y := Nat.mod_eq_of_lt hy
  have z0 := full_pos
  refine Spec.of_vx hΓ follows_mixed Try.func21 rfl (by kernel_rfl) (T := []) (by simp [Try.ntmps21]) (by kernel_rfl) rfl Try.ntmps21 (res := [.tmp 2]) rfl ?_
  intro W
  cases b with
  | true =>
    have e : onB x y true = (eqU x 0 && eqU y 0) := by
      unfold onB
      rw [if_pos rfl, eqU_lt hx z0, eqU_lt hy z0]
      simp
    simp -implicitDefEqProofs (maxSteps := 10000000) only [vy_succ, vy_zero, vx_skip, vx_reg0, vx_reg1, vx_ord, xx_done, xx_stop, xx_alt, vx_seq, vx_cond, vx_block, vx_exit, vx_ret, vx_loop, gx_nil, gx_cons, dx_nil, dx_cons, slim, slimOp, gO, gSO, qSO, quietOp, cx_nil, cx_cons, xx_alc, cS, qSB, eK, calmOp, guardS, gK, qK, putK, plK, dOk, St.ev, St.get, St.mem, St.set, St.setm, St.put, lookA, look, newK, nextver, initT, seqE, blockQ, bodyQ, resK, retV, AV.rdv, cells_agg, cells_int, cells_bool, cells_string, cells_slice, cells_uV, agg_uV, isNil_uV, toN_uV, i64_in, IntKind.wrap_u64, IntKind.wrap_u8, IntKind.wrap_u32, ↓binK, ↓intK, unK, ↓loadK, ↓withKey_eq, ↓idxAddrK, ↓indexK, ↓partK, ↓fieldK, ↓fieldAddrK, ↓convK, ↓callK, wrG, updK, ↓lenK, ↓mmK, ↓appK, ↓copyK, ↓sliceK, ↓toArrK, nilK, optK_some, optK_tup, optK_ite, evs, plains, seqParts, capsOf, capsD, List.append_nil, List.nil_append, List.cons_append, AV.dv, AV.cont, isNil_agg, isNil_int, isNil_bool, isNil_string, isNil_nil, isNil_slice, ↓buildV_eq, fillL, placesOf, Option.map_some, Option.map_none, ↓storeK, wrL, RV.av, DV.av, List.set, List.map_cons, List.map_nil, List.length_cons, List.length_nil, List.all_cons, List.all_nil, List.getElem?_cons_zero, List.getElem?_cons_succ, List.getElem?_nil, List.size_toArray, List.getElem?_toArray, List.drop_zero, List.drop_succ_cons, List.take_zero, List.take_succ_cons, Option.getD_some, Option.getD_none, Option.some.injEq, Option.isSome_some, Nat.reduceEqDiff, Nat.reduceAdd, Nat.reduceSub, Nat.reduceMul, Nat.reduceLT, Nat.reduceLeDiff, Nat.reduceMod, Nat.reduceDiv, Int.cast_ofNat_Int, Int.reduceLT, Int.reduceLE, Int.reduceToNat, ↓reduceIte, true_and, and_true, true_or, or_true, or_false, false_or, reduceCtorEq, Bool.false_eq_true, Bool.and_true, Bool.not_true, Bool.not_false, beq_self_eq_true, Bool.true_beq, Bool.false_beq, Value.oneCell', decide_true, decide_false, Int.reduceAdd, Int.reduceSub, Int.reduceMod, Int.reduceMul, Int.reduceNeg, Int.reduceBEq, Int.reduceBNe, Int.reduceTDiv, Int.reduceTMod, ne_eq, not_false_eq_true, not_true_eq_false, Int.reduceEq, Nat.zero_add, Nat.add_zero, Nat.le_refl, tyB, Try.underlying13, Try.underlying25, Try.underlying26, Try.underlying53, Try.underlying54, redG, pMulG, pAddG, tx, ty, cells_pt, agg_pt, isNil_pt, ptV_lit, cells_w, agg_w, isNil_w, valm, ↓binK_eqPt, ↓binK_eqU, ↓binK_neU, eqU_v, e]
  | false =>
    have e : onB x y false = ((decide (x < pN 0) && decide (y < pN 0)) && decide (nc y * nc y = nc x * nc x * nc x + 7)) := by
      unfold onB
      rw [if_neg (by decide)]
      simp only [Bool.decide_and]
    cases h1 : decide (x < pN 0)
    · rw [h1, Bool.false_and, Bool.false_and] at e
      simp -implicitDefEqProofs (maxSteps := 10000000) only [vy_succ, vy_zero, vx_skip, vx_reg0, vx_reg1, vx_ord, xx_done, xx_stop, xx_alt, vx_seq, vx_cond, vx_block, vx_exit, vx_ret, vx_loop, gx_nil, gx_cons, dx_nil, dx_cons, slim, slimOp, gO, gSO, qSO, quietOp, cx_nil, cx_cons, xx_alc, cS, qSB, eK, calmOp, guardS, gK, qK, putK, plK, dOk, St.ev, St.get, St.mem, St.set, St.setm, St.put, lookA, look, newK, nextver, initT, seqE, blockQ, bodyQ, resK, retV, AV.rdv, cells_agg, cells_int, cells_bool, cells_string, cells_slice, cells_uV, agg_uV, isNil_uV, toN_uV, i64_in, IntKind.wrap_u64, IntKind.wrap_u8, IntKind.wrap_u32, ↓binK, ↓intK, unK, ↓loadK, ↓withKey_eq, ↓idxAddrK, ↓indexK, ↓partK, ↓fieldK, ↓fieldAddrK, ↓convK, ↓callK, wrG, updK, ↓lenK, ↓mmK, ↓appK, ↓copyK, ↓sliceK, ↓toArrK, nilK, optK_some, optK_tup, optK_ite, evs, plains, seqParts, capsOf, capsD, List.append_nil, List.nil_append, List.cons_append, AV.dv, AV.cont, isNil_agg, isNil_int, isNil_bool, isNil_string, isNil_nil, isNil_slice, ↓buildV_eq, fillL, placesOf, Option.map_some, Option.map_none, ↓storeK, wrL, RV.av, DV.av, List.set, List.map_cons, List.map_nil, List.length_cons, List.length_nil, List.all_cons, List.all_nil, List.getElem?_cons_zero, List.getElem?_cons_succ, List.getElem?_nil, List.size_toArray, List.getElem?_toArray, List.drop_zero, List.drop_succ_cons, List.take_zero, List.take_succ_cons, Option.getD_some, Option.getD_none, Option.some.injEq, Option.isSome_some, Nat.reduceEqDiff, Nat.reduceAdd, Nat.reduceSub, Nat.reduceMul, Nat.reduceLT, Nat.reduceLeDiff, Nat.reduceMod, Nat.reduceDiv, Int.cast_ofNat_Int, Int.reduceLT, Int.reduceLE, Int.reduceToNat, ↓reduceIte, true_and, and_true, true_or, or_true, or_false, false_or, reduceCtorEq, Bool.false_eq_true, Bool.and_true, Bool.not_true, Bool.not_false, beq_self_eq_true, Bool.true_beq, Bool.false_beq, Value.oneCell', decide_true, decide_false, Int.reduceAdd, Int.reduceSub, Int.reduceMod, Int.reduceMul, Int.reduceNeg, Int.reduceBEq, Int.reduceBNe, Int.reduceTDiv, Int.reduceTMod, ne_eq, not_false_eq_true, not_true_eq_false, Int.reduceEq, Nat.zero_add, Nat.add_zero, Nat.le_refl, tyB, Try.underlying13, Try.underlying25, Try.underlying26, Try.underlying53, Try.underlying54, redG, pMulG, pAddG, tx, ty, cells_pt, agg_pt, isNil_pt, ptV_lit, cells_w, agg_w, isNil_w, valm, ↓binK_eqPt, ↓binK_eqU, ↓binK_neU, eqU_v, h1, e]
    · rw [h1, Bool.true_and] at e
      cases h2 : decide (y < pN 0)
      · rw [h2, Bool.false_and] at e
        simp -implicitDefEqProofs (maxSteps := 10000000) only [vy_succ, vy_zero, vx_skip, vx_reg0, vx_reg1, vx_ord, xx_done, xx_stop, xx_alt, vx_seq, vx_cond, vx_block, vx_exit, vx_ret, vx_loop, gx_nil, gx_cons, dx_nil, dx_cons, slim, slimOp, gO, gSO, qSO, quietOp, cx_nil, cx_cons, xx_alc, cS, qSB, eK, calmOp, guardS, gK, qK, putK, plK, dOk, St.ev, St.get, St.mem, St.set, St.setm, St.put, lookA, look, newK, nextver, initT, seqE, blockQ, bodyQ, resK, retV, AV.rdv, cells_agg, cells_int, cells_bool, cells_string, cells_slice, cells_uV, agg_uV, isNil_uV, toN_uV, i64_in, IntKind.wrap_u64, IntKind.wrap_u8, IntKind.wrap_u32, ↓binK, ↓intK, unK, ↓loadK, ↓withKey_eq, ↓idxAddrK, ↓indexK, ↓partK, ↓fieldK, ↓fieldAddrK, ↓convK, ↓callK, wrG, updK, ↓lenK, ↓mmK, ↓appK, ↓copyK, ↓sliceK, ↓toArrK, nilK, optK_some, optK_tup, optK_ite, evs, plains, seqParts, capsOf, capsD, List.append_nil, List.nil_append, List.cons_append, AV.dv, AV.cont, isNil_agg, isNil_int, isNil_bool, isNil_string, isNil_nil, isNil_slice, ↓buildV_eq, fillL, placesOf, Option.map_some, Option.map_none, ↓storeK, wrL, RV.av, DV.av, List.set, List.map_cons, List.map_nil, List.length_cons, List.length_nil, List.all_cons, List.all_nil, List.getElem?_cons_zero, List.getElem?_cons_succ, List.getElem?_nil, List.size_toArray, List.getElem?_toArray, List.drop_zero, List.drop_succ_cons, List.take_zero, List.take_succ_cons, Option.getD_some, Option.getD_none, Option.some.injEq, Option.isSome_some, Nat.reduceEqDiff, Nat.reduceAdd, Nat.reduceSub, Nat.reduceMul, Nat.reduceLT, Nat.reduceLeDiff, Nat.reduceMod, Nat.reduceDiv, Int.cast_ofNat_Int, Int.reduceLT, Int.reduceLE, Int.reduceToNat, ↓reduceIte, true_and, and_true, true_or, or_true, or_false, false_or, reduceCtorEq, Bool.false_eq_true, Bool.and_true, Bool.not_true, Bool.not_false, beq_self_eq_true, Bool.true_beq, Bool.false_beq, Value.oneCell', decide_true, decide_false, Int.reduceAdd, Int.reduceSub, Int.reduceMod, Int.reduceMul, Int.reduceNeg, Int.reduceBEq, Int.reduceBNe, Int.reduceTDiv, Int.reduceTMod, ne_eq, not_false_eq_true, not_true_eq_false, Int.reduceEq, Nat.zero_add, Nat.add_zero, Nat.le_refl, tyB, Try.underlying13, Try.underlying25, Try.underlying26, Try.underlying53, Try.underlying54, redG, pMulG, pAddG, tx, ty, mx, my, val_nc, uV_7, mod7, nc7, cells_pt, agg_pt, isNil_pt, ptV_lit, cells_w, agg_w, isNil_w, valm, ↓binK_eqPt, ↓binK_eqU, ↓binK_neU, eqU_v, h1, h2, e]
      · rw [h2, Bool.true_and] at e
        simp -implicitDefEqProofs (maxSteps := 10000000) only [vy_succ, vy_zero, vx_skip, vx_reg0, vx_reg1, vx_ord, xx_done, xx_stop, xx_alt, vx_seq, vx_cond, vx_block, vx_exit, vx_ret, vx_loop, gx_nil, gx_cons, dx_nil, dx_cons, slim, slimOp, gO, gSO, qSO, quietOp, cx_nil, cx_cons, xx_alc, cS, qSB, eK, calmOp, guardS, gK, qK, putK, plK, dOk, St.ev, St.get, St.mem, St.set, St.setm, St.put, lookA, look, newK, nextver, initT, seqE, blockQ, bodyQ, resK, retV, AV.rdv, cells_agg, cells_int, cells_bool, cells_string, cells_slice, cells_uV, agg_uV, isNil_uV, toN_uV, i64_in, IntKind.wrap_u64, IntKind.wrap_u8, IntKind.wrap_u32, ↓binK, ↓intK, unK, ↓loadK, ↓withKey_eq, ↓idxAddrK, ↓indexK, ↓partK, ↓fieldK, ↓fieldAddrK, ↓convK, ↓callK, wrG, updK, ↓lenK, ↓mmK, ↓appK, ↓copyK, ↓sliceK, ↓toArrK, nilK, optK_some, optK_tup, optK_ite, evs, plains, seqParts, capsOf, capsD, List.append_nil, List.nil_append, List.cons_append, AV.dv, AV.cont, isNil_agg, isNil_int, isNil_bool, isNil_string, isNil_nil, isNil_slice, ↓buildV_eq, fillL, placesOf, Option.map_some, Option.map_none, ↓storeK, wrL, RV.av, DV.av, List.set, List.map_cons, List.map_nil, List.length_cons, List.length_nil, List.all_cons, List.all_nil, List.getElem?_cons_zero, List.getElem?_cons_succ, List.getElem?_nil, List.size_toArray, List.getElem?_toArray, List.drop_zero, List.drop_succ_cons, List.take_zero, List.take_succ_cons, Option.getD_some, Option.getD_none, Option.some.injEq, Option.isSome_some, Nat.reduceEqDiff, Nat.reduceAdd, Nat.reduceSub, Nat.reduceMul, Nat.reduceLT, Nat.reduceLeDiff, Nat.reduceMod, Nat.reduceDiv, Int.cast_ofNat_Int, Int.reduceLT, Int.reduceLE, Int.reduceToNat, ↓reduceIte, true_and, and_true, true_or, or_true, or_false, false_or, reduceCtorEq, Bool.false_eq_true, Bool.and_true, Bool.not_true, Bool.not_false, beq_self_eq_true, Bool.true_beq, Bool.false_beq, Value.oneCell', decide_true, decide_false, Int.reduceAdd, Int.reduceSub, Int.reduceMod, Int.reduceMul, Int.reduceNeg, Int.reduceBEq, Int.reduceBNe, Int.reduceTDiv, Int.reduceTMod, ne_eq, not_false_eq_true, not_true_eq_false, Int.reduceEq, Nat.zero_add, Nat.add_zero, Nat.le_refl, tyB, Try.underlying13, Try.underlying25, Try.underlying26, Try.underlying53, Try.underlying54, redG, pMulG, pAddG, tx, ty, mx, my, val_nc, uV_7, mod7, nc7, cells_pt, agg_pt, isNil_pt, ptV_lit, cells_w, agg_w, isNil_w, valm, ↓binK_eqPt, ↓binK_eqU, ↓binK_neU, eqU_v, h1, h2, e]
theorem ron_ok : ∀ ds r, onG ds = some r → Spec Try.prog 21 ds r := by
  intro ds r h
  unfold onG at h
  split at h
  case h_2 => cases h
  rename_i v
  split at h
  case h_2 => cases h
  rename_i x y b hv
  cases h
  obtain ⟨rfl, hx, hy⟩ := toR_eq hv
  exact ron_walk x y b hx hy

theorem tur_o : Spec Try.prog 23 [.pl (ptV 0 0 true)] (.one (.pl (ptV 0 0 true))) := by
  have hΓ : Env.ok [] Try.prog := ok_nil _
  refine Spec.of_vx hΓ follows_mixed Try.func23 rfl (by kernel_rfl) (T := []) (by simp [Try.ntmps23]) (by kernel_rfl) rfl Try.ntmps23 (res := [.cell 2 26]) rfl ?_
  intro W
  simp -implicitDefEqProofs (maxSteps := 10000000) only [vy_succ, vy_zero, vx_skip, vx_reg0, vx_reg1, vx_ord, xx_done, xx_stop, xx_alt, vx_seq, vx_cond, vx_block, vx_exit, vx_ret, vx_loop, gx_nil, gx_cons, dx_nil, dx_cons, slim, slimOp, gO, gSO, qSO, quietOp, cx_nil, cx_cons, xx_alc, cS, qSB, eK, calmOp, guardS, gK, qK, putK, plK, dOk, St.ev, St.get, St.mem, St.set, St.setm, St.put, lookA, look, newK, nextver, initT, seqE, blockQ, bodyQ, resK, retV, AV.rdv, cells_agg, cells_int, cells_bool, cells_string, cells_slice, cells_uV, agg_uV, isNil_uV, toN_uV, i64_in, IntKind.wrap_u64, IntKind.wrap_u8, IntKind.wrap_u32, ↓binK, ↓intK, unK, ↓loadK, ↓withKey_eq, ↓idxAddrK, ↓indexK, ↓partK, ↓fieldK, ↓fieldAddrK, ↓convK, ↓callK, wrG, updK, ↓lenK, ↓mmK, ↓appK, ↓copyK, ↓sliceK, ↓toArrK, nilK, optK_some, optK_tup, optK_ite, evs, plains, seqParts, capsOf, capsD, List.append_nil, List.nil_append, List.cons_append, AV.dv, AV.cont, isNil_agg, isNil_int, isNil_bool, isNil_string, isNil_nil, isNil_slice, ↓buildV_eq, fillL, placesOf, Option.map_some, Option.map_none, ↓storeK, wrL, RV.av, DV.av, List.set, List.map_cons, List.map_nil, List.length_cons, List.length_nil, List.all_cons, List.all_nil, List.getElem?_cons_zero, List.getElem?_cons_succ, List.getElem?_nil, List.size_toArray, List.getElem?_toArray, List.drop_zero, List.drop_succ_cons, List.take_zero, List.take_succ_cons, Option.getD_some, Option.getD_none, Option.some.injEq, Option.isSome_some, Nat.reduceEqDiff, Nat.reduceAdd, Nat.reduceSub, Nat.reduceMul, Nat.reduceLT, Nat.reduceLeDiff, Nat.reduceMod, Nat.reduceDiv, Int.cast_ofNat_Int, Int.reduceLT, Int.reduceLE, Int.reduceToNat, ↓reduceIte, true_and, and_true, true_or, or_true, or_false, false_or, reduceCtorEq, Bool.false_eq_true, Bool.and_true, Bool.not_true, Bool.not_false, beq_self_eq_true, Bool.true_beq, Bool.false_beq, Value.oneCell', decide_true, decide_false, Int.reduceAdd, Int.reduceSub, Int.reduceMod, Int.reduceMul, Int.reduceNeg, Int.reduceBEq, Int.reduceBNe, Int.reduceTDiv, Int.reduceTMod, ne_eq, not_false_eq_true, not_true_eq_false, Int.reduceEq, Nat.zero_add, Nat.add_zero, Nat.le_refl, tyB, Try.underlying13, Try.underlying25, Try.underlying26, Try.underlying53, Try.underlying54, cells_pt, agg_pt, isNil_pt, ptV_lit, cells_w, agg_w, isNil_w, valm, ↓binK_eqPt, ↓binK_eqU, ↓binK_neU, eqU_v]
theorem tur_a (x y : Fp) : Spec Try.prog 23 [.pl (ptV x.val y.val false)] (.one (.pl (ptV x.val (0 - y).val false))) := by
  have hΓ : Env.ok [(31, pSubG)] Try.prog := ok_cons rfSub_ok (ok_nil _)
  have z : nc 0 = 0 := rfl
  refine Spec.of_vx hΓ follows_mixed Try.func23 rfl (by kernel_rfl) (T := []) (by simp [Try.ntmps23]) (by kernel_rfl) rfl Try.ntmps23 (res := [.cell 2 26]) rfl ?_
  intro W
  simp -implicitDefEqProofs (maxSteps := 10000000) only [vy_succ, vy_zero, vx_skip, vx_reg0, vx_reg1, vx_ord, xx_done, xx_stop, xx_alt, vx_seq, vx_cond, vx_block, vx_exit, vx_ret, vx_loop, gx_nil, gx_cons, dx_nil, dx_cons, slim, slimOp, gO, gSO, qSO, quietOp, cx_nil, cx_cons, xx_alc, cS, qSB, eK, calmOp, guardS, gK, qK, putK, plK, dOk, St.ev, St.get, St.mem, St.set, St.setm, St.put, lookA, look, newK, nextver, initT, seqE, blockQ, bodyQ, resK, retV, AV.rdv, cells_agg, cells_int, cells_bool, cells_string, cells_slice, cells_uV, agg_uV, isNil_uV, toN_uV, i64_in, IntKind.wrap_u64, IntKind.wrap_u8, IntKind.wrap_u32, ↓binK, ↓intK, unK, ↓loadK, ↓withKey_eq, ↓idxAddrK, ↓indexK, ↓partK, ↓fieldK, ↓fieldAddrK, ↓convK, ↓callK, wrG, updK, ↓lenK, ↓mmK, ↓appK, ↓copyK, ↓sliceK, ↓toArrK, nilK, optK_some, optK_tup, optK_ite, evs, plains, seqParts, capsOf, capsD, List.append_nil, List.nil_append, List.cons_append, AV.dv, AV.cont, isNil_agg, isNil_int, isNil_bool, isNil_string, isNil_nil, isNil_slice, ↓buildV_eq, fillL, placesOf, Option.map_some, Option.map_none, ↓storeK, wrL, RV.av, DV.av, List.set, List.map_cons, List.map_nil, List.length_cons, List.length_nil, List.all_cons, List.all_nil, List.getElem?_cons_zero, List.getElem?_cons_succ, List.getElem?_nil, List.size_toArray, List.getElem?_toArray, List.drop_zero, List.drop_succ_cons, List.take_zero, List.take_succ_cons, Option.getD_some, Option.getD_none, Option.some.injEq, Option.isSome_some, Nat.reduceEqDiff, Nat.reduceAdd, Nat.reduceSub, Nat.reduceMul, Nat.reduceLT, Nat.reduceLeDiff, Nat.reduceMod, Nat.reduceDiv, Int.cast_ofNat_Int, Int.reduceLT, Int.reduceLE, Int.reduceToNat, ↓reduceIte, true_and, and_true, true_or, or_true, or_false, false_or, reduceCtorEq, Bool.false_eq_true, Bool.and_true, Bool.not_true, Bool.not_false, beq_self_eq_true, Bool.true_beq, Bool.false_beq, Value.oneCell', decide_true, decide_false, Int.reduceAdd, Int.reduceSub, Int.reduceMod, Int.reduceMul, Int.reduceNeg, Int.reduceBEq, Int.reduceBNe, Int.reduceTDiv, Int.reduceTMod, ne_eq, not_false_eq_true, not_true_eq_false, Int.reduceEq, Nat.zero_add, Nat.add_zero, Nat.le_refl, tyB, Try.underlying13, Try.underlying25, Try.underlying26, Try.underlying53, Try.underlying54, pSubG, toN_zero, val_nc, z, cells_pt, agg_pt, isNil_pt, ptV_lit, cells_w, agg_w, isNil_w, valm, ↓binK_eqPt, ↓binK_eqU, ↓binK_neU, eqU_v]
theorem z_walk : Spec Try.prog 14 [] (.one (.pl (ptV 0 0 true))) := by
  have hΓ : Env.ok [] Try.prog := ok_nil _
  refine Spec.of_vx hΓ follows_mixed Try.func14 rfl (by kernel_rfl) (T := []) (by simp [Try.ntmps14]) (by kernel_rfl) rfl Try.ntmps14 (res := [.cell 0 26]) rfl ?_
  intro W
  simp -implicitDefEqProofs (maxSteps := 10000000) only [vy_succ, vy_zero, vx_skip, vx_reg0, vx_reg1, vx_ord, xx_done, xx_stop, xx_alt, vx_seq, vx_cond, vx_block, vx_exit, vx_ret, vx_loop, gx_nil, gx_cons, dx_nil, dx_cons, slim, slimOp, gO, gSO, qSO, quietOp, cx_nil, cx_cons, xx_alc, cS, qSB, eK, calmOp, guardS, gK, qK, putK, plK, dOk, St.ev, St.get, St.mem, St.set, St.setm, St.put, lookA, look, newK, nextver, initT, seqE, blockQ, bodyQ, resK, retV, AV.rdv, cells_agg, cells_int, cells_bool, cells_string, cells_slice, cells_uV, agg_uV, isNil_uV, toN_uV, i64_in, IntKind.wrap_u64, IntKind.wrap_u8, IntKind.wrap_u32, ↓binK, ↓intK, unK, ↓loadK, ↓withKey_eq, ↓idxAddrK, ↓indexK, ↓partK, ↓fieldK, ↓fieldAddrK, ↓convK, ↓callK, wrG, updK, ↓lenK, ↓mmK, ↓appK, ↓copyK, ↓sliceK, ↓toArrK, nilK, optK_some, optK_tup, optK_ite, evs, plains, seqParts, capsOf, capsD, List.append_nil, List.nil_append, List.cons_append, AV.dv, AV.cont, isNil_agg, isNil_int, isNil_bool, isNil_string, isNil_nil, isNil_slice, ↓buildV_eq, fillL, placesOf, Option.map_some, Option.map_none, ↓storeK, wrL, RV.av, DV.av, List.set, List.map_cons, List.map_nil, List.length_cons, List.length_nil, List.all_cons, List.all_nil, List.getElem?_cons_zero, List.getElem?_cons_succ, List.getElem?_nil, List.size_toArray, List.getElem?_toArray, List.drop_zero, List.drop_succ_cons, List.take_zero, List.take_succ_cons, Option.getD_some, Option.getD_none, Option.some.injEq, Option.isSome_some, Nat.reduceEqDiff, Nat.reduceAdd, Nat.reduceSub, Nat.reduceMul, Nat.reduceLT, Nat.reduceLeDiff, Nat.reduceMod, Nat.reduceDiv, Int.cast_ofNat_Int, Int.reduceLT, Int.reduceLE, Int.reduceToNat, ↓reduceIte, true_and, and_true, true_or, or_true, or_false, false_or, reduceCtorEq, Bool.false_eq_true, Bool.and_true, Bool.not_true, Bool.not_false, beq_self_eq_true, Bool.true_beq, Bool.false_beq, Value.oneCell', decide_true, decide_false, Int.reduceAdd, Int.reduceSub, Int.reduceMod, Int.reduceMul, Int.reduceNeg, Int.reduceBEq, Int.reduceBNe, Int.reduceTDiv, Int.reduceTMod, ne_eq, not_false_eq_true, not_true_eq_false, Int.reduceEq, Nat.zero_add, Nat.add_zero, Nat.le_refl, tyB, Try.underlying13, Try.underlying25, Try.underlying26, Try.underlying53, Try.underlying54, cells_pt, agg_pt, isNil_pt, ptV_lit, cells_w, agg_w, isNil_w, valm, ↓binK_eqPt, ↓binK_eqU, ↓binK_neU, eqU_v]
theorem base_onB : onB bX bY false = true := by
  have h := onB_p base_on
  rw [rx_base, ry_base] at h
  exact h
theorem bX_lt : bX < full := by rw [full_eq]; decide
theorem bY_lt : bY < full := by rw [full_eq]; decide
theorem toR_base : toR (ptV bX bY false) = some (bX, bY, false) := toR_lt bX_lt bY_lt
theorem w0_bX : (((w0 bX : Nat) : Int) == 6481385041966929816) = true := by rw [w0_eq]; simp [bX]
theorem al_walk : Spec Try.prog 12 [] (.one (.pl (.bool true))) := by
  have hΓ : Env.ok [(16, ptBG), (20, onG)] Try.prog := ok_cons ptB_ok (ok_cons on_ok (ok_nil _))
  refine Spec.of_vx hΓ follows_mixed Try.func12 rfl (by kernel_rfl) (T := []) (by simp [Try.ntmps12]) (by kernel_rfl) rfl Try.ntmps12 (res := [.tmp 0]) rfl ?_
  intro W
  simp -implicitDefEqProofs (maxSteps := 10000000) only [vy_succ, vy_zero, vx_skip, vx_reg0, vx_reg1, vx_ord, xx_done, xx_stop, xx_alt, vx_seq, vx_cond, vx_block, vx_exit, vx_ret, vx_loop, gx_nil, gx_cons, dx_nil, dx_cons, slim, slimOp, gO, gSO, qSO, quietOp, cx_nil, cx_cons, xx_alc, cS, qSB, eK, calmOp, guardS, gK, qK, putK, plK, dOk, St.ev, St.get, St.mem, St.set, St.setm, St.put, lookA, look, newK, nextver, initT, seqE, blockQ, bodyQ, resK, retV, AV.rdv, cells_agg, cells_int, cells_bool, cells_string, cells_slice, cells_uV, agg_uV, isNil_uV, toN_uV, i64_in, IntKind.wrap_u64, IntKind.wrap_u8, IntKind.wrap_u32, ↓binK, ↓intK, unK, ↓loadK, ↓withKey_eq, ↓idxAddrK, ↓indexK, ↓partK, ↓fieldK, ↓fieldAddrK, ↓convK, ↓callK, wrG, updK, ↓lenK, ↓mmK, ↓appK, ↓copyK, ↓sliceK, ↓toArrK, nilK, optK_some, optK_tup, optK_ite, evs, plains, seqParts, capsOf, capsD, List.append_nil, List.nil_append, List.cons_append, AV.dv, AV.cont, isNil_agg, isNil_int, isNil_bool, isNil_string, isNil_nil, isNil_slice, ↓buildV_eq, fillL, placesOf, Option.map_some, Option.map_none, ↓storeK, wrL, RV.av, DV.av, List.set, List.map_cons, List.map_nil, List.length_cons, List.length_nil, List.all_cons, List.all_nil, List.getElem?_cons_zero, List.getElem?_cons_succ, List.getElem?_nil, List.size_toArray, List.getElem?_toArray, List.drop_zero, List.drop_succ_cons, List.take_zero, List.take_succ_cons, Option.getD_some, Option.getD_none, Option.some.injEq, Option.isSome_some, Nat.reduceEqDiff, Nat.reduceAdd, Nat.reduceSub, Nat.reduceMul, Nat.reduceLT, Nat.reduceLeDiff, Nat.reduceMod, Nat.reduceDiv, Int.cast_ofNat_Int, Int.reduceLT, Int.reduceLE, Int.reduceToNat, ↓reduceIte, true_and, and_true, true_or, or_true, or_false, false_or, reduceCtorEq, Bool.false_eq_true, Bool.and_true, Bool.not_true, Bool.not_false, beq_self_eq_true, Bool.true_beq, Bool.false_beq, Value.oneCell', decide_true, decide_false, Int.reduceAdd, Int.reduceSub, Int.reduceMod, Int.reduceMul, Int.reduceNeg, Int.reduceBEq, Int.reduceBNe, Int.reduceTDiv, Int.reduceTMod, ne_eq, not_false_eq_true, not_true_eq_false, Int.reduceEq, Nat.zero_add, Nat.add_zero, Nat.le_refl, tyB, Try.underlying13, Try.underlying25, Try.underlying26, Try.underlying53, Try.underlying54, ptBG, onG, toR_base, base_onB, w0_bX, cells_pt, agg_pt, isNil_pt, ptV_lit, cells_w, agg_w, isNil_w, valm, ↓binK_eqPt, ↓binK_eqU, ↓binK_neU, eqU_v]
def atTree : OT := .alt 0 (.alt 1 (.alt 2 (.alt 3 (.alt 4 (.alt 5 (.alt 6 (.alt 7 (.alt 8 (.done) (.stop)) (.stop)) (.alt 7 (.alt 6 (.alt 8 (.done) (.stop)) (.stop)) (.stop))) (.stop)) (.stop)) (.stop)) (.stop)) (.stop)) (.alt 1 (.alt 0 (.alt 2 (.alt 3 (.alt 4 (.alt 5 (.alt 6 (.alt 7 (.alt 8 (.done) (.stop)) (.stop)) (.alt 7 (.alt 6 (.alt 8 (.done) (.stop)) (.stop)) (.stop))) (.stop)) (.stop)) (.stop)) (.stop)) (.alt 2 (.alt 0 (.alt 3 (.alt 4 (.alt 5 (.alt 6 (.alt 7 (.alt 8 (.done) (.stop)) (.stop)) (.alt 7 (.alt 6 (.alt 8 (.done) (.stop)) (.stop)) (.stop))) (.stop)) (.stop)) (.stop)) (.alt 3 (.alt 0 (.alt 4 (.alt 5 (.alt 6 (.alt 7 (.alt 8 (.done) (.stop)) (.stop)) (.alt 7 (.alt 6 (.alt 8 (.done) (.stop)) (.stop)) (.stop))) (.stop)) (.stop)) (.alt 4 (.alt 0 (.alt 5 (.alt 6 (.alt 7 (.alt 8 (.done) (.stop)) (.stop)) (.alt 7 (.alt 6 (.alt 8 (.done) (.stop)) (.stop)) (.stop))) (.stop)) (.alt 5 (.alt 0 (.alt 6 (.alt 7 (.alt 8 (.done) (.stop)) (.stop)) (.alt 7 (.alt 6 (.alt 8 (.done) (.stop)) (.stop)) (.stop))) (.alt 6 (.alt 0 (.alt 7 (.alt 8 (.done) (.stop)) (.stop)) (.stop)) (.stop))) (.stop))) (.stop))) (.stop))) (.stop))) (.stop))
theorem at_walk (n : Nat) (hn : n < full) : Spec Try.prog 9 [.pl (uV n)] (.tup [.pl (ptV (rx (nsm n base0)) (ry (nsm n base0)) (rb (nsm n base0))), .pl (.bool true)]) := by
  have hΓ : Env.ok [(16, ptBG), (10, tiG), (21, onG)] Try.prog := ok_cons ptB_ok (ok_cons tim_ok (ok_cons ron_ok (ok_nil _)))
  have mn : n % full = n := Nat.mod_eq_of_lt hn
  have ho := onB_p (nsm_on base_on n)
  have e : ptOf bX bY false = base0 := rfl
  refine Spec.of_vx hΓ follows_mixed Try.func9 rfl (by kernel_rfl) (T := [(1, .alc), (2, atTree)]) (by simp [Try.ntmps9]) (by kernel_rfl) rfl Try.ntmps9 (res := [.cell 2 26, .tmp 3]) rfl ?_
  intro W
  simp -implicitDefEqProofs (maxSteps := 10000000) only [vy_succ, vy_zero, vx_skip, vx_reg0, vx_reg1, vx_ord, xx_done, xx_stop, xx_alt, vx_seq, vx_cond, vx_block, vx_exit, vx_ret, vx_loop, gx_nil, gx_cons, dx_nil, dx_cons, slim, slimOp, gO, gSO, qSO, quietOp, cx_nil, cx_cons, xx_alc, cS, qSB, eK, calmOp, guardS, gK, qK, putK, plK, dOk, St.ev, St.get, St.mem, St.set, St.setm, St.put, lookA, look, newK, nextver, initT, seqE, blockQ, bodyQ, resK, retV, AV.rdv, cells_agg, cells_int, cells_bool, cells_string, cells_slice, cells_uV, agg_uV, isNil_uV, toN_uV, i64_in, IntKind.wrap_u64, IntKind.wrap_u8, IntKind.wrap_u32, ↓binK, ↓intK, unK, ↓loadK, ↓withKey_eq, ↓idxAddrK, ↓indexK, ↓partK, ↓fieldK, ↓fieldAddrK, ↓convK, ↓callK, wrG, updK, ↓lenK, ↓mmK, ↓appK, ↓copyK, ↓sliceK, ↓toArrK, nilK, optK_some, optK_tup, optK_ite, evs, plains, seqParts, capsOf, capsD, List.append_nil, List.nil_append, List.cons_append, AV.dv, AV.cont, isNil_agg, isNil_int, isNil_bool, isNil_string, isNil_nil, isNil_slice, ↓buildV_eq, fillL, placesOf, Option.map_some, Option.map_none, ↓storeK, wrL, RV.av, DV.av, List.set, List.map_cons, List.map_nil, List.length_cons, List.length_nil, List.all_cons, List.all_nil, List.getElem?_cons_zero, List.getElem?_cons_succ, List.getElem?_nil, List.size_toArray, List.getElem?_toArray, List.drop_zero, List.drop_succ_cons, List.take_zero, List.take_succ_cons, Option.getD_some, Option.getD_none, Option.some.injEq, Option.isSome_some, Nat.reduceEqDiff, Nat.reduceAdd, Nat.reduceSub, Nat.reduceMul, Nat.reduceLT, Nat.reduceLeDiff, Nat.reduceMod, Nat.reduceDiv, Int.cast_ofNat_Int, Int.reduceLT, Int.reduceLE, Int.reduceToNat, ↓reduceIte, true_and, and_true, true_or, or_true, or_false, false_or, reduceCtorEq, Bool.false_eq_true, Bool.and_true, Bool.not_true, Bool.not_false, beq_self_eq_true, Bool.true_beq, Bool.false_beq, Value.oneCell', decide_true, decide_false, Int.reduceAdd, Int.reduceSub, Int.reduceMod, Int.reduceMul, Int.reduceNeg, Int.reduceBEq, Int.reduceBNe, Int.reduceTDiv, Int.reduceTMod, ne_eq, not_false_eq_true, not_true_eq_false, Int.reduceEq, Nat.zero_add, Nat.add_zero, Nat.le_refl, tyB, Try.underlying13, Try.underlying25, Try.underlying26, Try.underlying53, Try.underlying54, ptBG, tiG, onG, toR_base, toR_p, base_onB, mn, ho, e, cells_pt, agg_pt, isNil_pt, ptV_lit, cells_w, agg_w, isNil_w, valm, ↓binK_eqPt, ↓binK_eqU, ↓binK_neU, eqU_v, atTree]

noncomputable def turG : List DV → Option RV
  | [.pl v] => match toR v with
    | some (x, y, b) => open Classical in if onB x y b = true then some (.one (.pl (ptV (rx (pneg (ptOf x y b))) (ry (pneg (ptOf x y b))) (rb (pneg (ptOf x y b)))))) else none
    | none => none
  | _ => none
theorem tur_ok : ∀ ds r, turG ds = some r → Spec Try.prog 23 ds r := by
  intro ds r h
  unfold turG at h
  split at h
  case h_2 => cases h
  rename_i v
  split at h
  case h_2 => cases h
  rename_i x y b hv
  obtain ⟨rfl, hx, hy⟩ := toR_eq hv
  split at h
  case isFalse => cases h
  rename_i hc
  cases h
  obtain ⟨c1, c2, c3, c4⟩ := onB_on hc
  generalize ptOf x y b = p at *
  subst c2 c3 c4
  cases p with
  | o => exact tur_o
  | a x y => exact tur_a x y
noncomputable def alG : List DV → Option RV
  | [] => some (.one (.pl (.bool true)))
  | _ => none
theorem al_ok : ∀ ds r, alG ds = some r → Spec Try.prog 12 ds r := by
  intro ds r h
  unfold alG at h
  split at h
  case h_2 => cases h
  cases h
  exact al_walk
theorem z_ok : ∀ ds r, ptZG ds = some r → Spec Try.prog 14 ds r := by
  intro ds r h
  unfold ptZG at h
  split at h
  case h_2 => cases h
  cases h
  exact z_walk
noncomputable def atG : List DV → Option RV
  | [.pl v] => match toN v with
    | some n => some (.tup [.pl (ptV (rx (nsm n base0)) (ry (nsm n base0)) (rb (nsm n base0))), .pl (.bool true)])
    | none => none
  | _ => none
theorem at_ok : ∀ ds r, atG ds = some r → Spec Try.prog 9 ds r := by
  intro ds r h
  unfold atG at h
  split at h
  case h_2 => cases h
  rename_i v
  split at h
  case h_2 => cases h
  rename_i n hn
  obtain ⟨rfl, hn'⟩ := toN_eq hn
  cases h
  exact at_walk n hn'
theorem beq_t : (false == true) = false := rfl
theorem adds_o (q : Pt) : Spec Try.prog 13 [.pl (ptV 0 0 true), .pl (ptV (rx q) (ry q) (rb q)), .pl (ptV (rx q) (ry q) (rb q))] (.one (.pl (.bool true))) := by
  have hΓ : Env.ok [] Try.prog := ok_nil _
  have e1 := eqU_self (rx q)
  have e2 := eqU_self (ry q)
  refine Spec.of_vx hΓ follows_mixed Try.func13 rfl (by kernel_rfl) (T := [(14, .alc), (15, .alc)]) (by simp [Try.ntmps13]) (by kernel_rfl) rfl Try.ntmps13 (res := [.tmp 6]) rfl ?_
  intro W
  simp -implicitDefEqProofs (maxSteps := 10000000) only [vy_succ, vy_zero, vx_skip, vx_reg0, vx_reg1, vx_ord, xx_done, xx_stop, xx_alt, vx_seq, vx_cond, vx_block, vx_exit, vx_ret, vx_loop, gx_nil, gx_cons, dx_nil, dx_cons, slim, slimOp, gO, gSO, qSO, quietOp, cx_nil, cx_cons, xx_alc, cS, qSB, eK, calmOp, guardS, gK, qK, putK, plK, dOk, St.ev, St.get, St.mem, St.set, St.setm, St.put, lookA, look, newK, nextver, initT, seqE, blockQ, bodyQ, resK, retV, AV.rdv, cells_agg, cells_int, cells_bool, cells_string, cells_slice, cells_uV, agg_uV, isNil_uV, toN_uV, i64_in, IntKind.wrap_u64, IntKind.wrap_u8, IntKind.wrap_u32, ↓binK, ↓intK, unK, ↓loadK, ↓withKey_eq, ↓idxAddrK, ↓indexK, ↓partK, ↓fieldK, ↓fieldAddrK, ↓convK, ↓callK, wrG, updK, ↓lenK, ↓mmK, ↓appK, ↓copyK, ↓sliceK, ↓toArrK, nilK, optK_some, optK_tup, optK_ite, evs, plains, seqParts, capsOf, capsD, List.append_nil, List.nil_append, List.cons_append, AV.dv, AV.cont, isNil_agg, isNil_int, isNil_bool, isNil_string, isNil_nil, isNil_slice, ↓buildV_eq, fillL, placesOf, Option.map_some, Option.map_none, ↓storeK, wrL, RV.av, DV.av, List.set, List.map_cons, List.map_nil, List.length_cons, List.length_nil, List.all_cons, List.all_nil, List.getElem?_cons_zero, List.getElem?_cons_succ, List.getElem?_nil, List.size_toArray, List.getElem?_toArray, List.drop_zero, List.drop_succ_cons, List.take_zero, List.take_succ_cons, Option.getD_some, Option.getD_none, Option.some.injEq, Option.isSome_some, Nat.reduceEqDiff, Nat.reduceAdd, Nat.reduceSub, Nat.reduceMul, Nat.reduceLT, Nat.reduceLeDiff, Nat.reduceMod, Nat.reduceDiv, Int.cast_ofNat_Int, Int.reduceLT, Int.reduceLE, Int.reduceToNat, ↓reduceIte, true_and, and_true, true_or, or_true, or_false, false_or, reduceCtorEq, Bool.false_eq_true, Bool.and_true, Bool.not_true, Bool.not_false, beq_self_eq_true, Bool.true_beq, Bool.false_beq, Value.oneCell', decide_true, decide_false, Int.reduceAdd, Int.reduceSub, Int.reduceMod, Int.reduceMul, Int.reduceNeg, Int.reduceBEq, Int.reduceBNe, Int.reduceTDiv, Int.reduceTMod, ne_eq, not_false_eq_true, not_true_eq_false, Int.reduceEq, Nat.zero_add, Nat.add_zero, Nat.le_refl, tyB, Try.underlying13, Try.underlying25, Try.underlying26, Try.underlying53, Try.underlying54, cells_pt, agg_pt, isNil_pt, ptV_lit, cells_w, agg_w, isNil_w, valm, ↓binK_eqPt, ↓binK_eqU, ↓binK_neU, eqU_v, e1, e2]
theorem adds_p (x y : Fp) : Spec Try.prog 13 [.pl (ptV x.val y.val false), .pl (ptV 0 0 true), .pl (ptV x.val y.val false)] (.one (.pl (.bool true))) := by
  have hΓ : Env.ok [] Try.prog := ok_nil _
  have e1 := eqU_self x.val
  have e2 := eqU_self y.val
  refine Spec.of_vx hΓ follows_mixed Try.func13 rfl (by kernel_rfl) (T := [(14, .alc), (15, .alc)]) (by simp [Try.ntmps13]) (by kernel_rfl) rfl Try.ntmps13 (res := [.tmp 6]) rfl ?_
  intro W
  simp -implicitDefEqProofs (maxSteps := 10000000) only [vy_succ, vy_zero, vx_skip, vx_reg0, vx_reg1, vx_ord, xx_done, xx_stop, xx_alt, vx_seq, vx_cond, vx_block, vx_exit, vx_ret, vx_loop, gx_nil, gx_cons, dx_nil, dx_cons, slim, slimOp, gO, gSO, qSO, quietOp, cx_nil, cx_cons, xx_alc, cS, qSB, eK, calmOp, guardS, gK, qK, putK, plK, dOk, St.ev, St.get, St.mem, St.set, St.setm, St.put, lookA, look, newK, nextver, initT, seqE, blockQ, bodyQ, resK, retV, AV.rdv, cells_agg, cells_int, cells_bool, cells_string, cells_slice, cells_uV, agg_uV, isNil_uV, toN_uV, i64_in, IntKind.wrap_u64, IntKind.wrap_u8, IntKind.wrap_u32, ↓binK, ↓intK, unK, ↓loadK, ↓withKey_eq, ↓idxAddrK, ↓indexK, ↓partK, ↓fieldK, ↓fieldAddrK, ↓convK, ↓callK, wrG, updK, ↓lenK, ↓mmK, ↓appK, ↓copyK, ↓sliceK, ↓toArrK, nilK, optK_some, optK_tup, optK_ite, evs, plains, seqParts, capsOf, capsD, List.append_nil, List.nil_append, List.cons_append, AV.dv, AV.cont, isNil_agg, isNil_int, isNil_bool, isNil_string, isNil_nil, isNil_slice, ↓buildV_eq, fillL, placesOf, Option.map_some, Option.map_none, ↓storeK, wrL, RV.av, DV.av, List.set, List.map_cons, List.map_nil, List.length_cons, List.length_nil, List.all_cons, List.all_nil, List.getElem?_cons_zero, List.getElem?_cons_succ, List.getElem?_nil, List.size_toArray, List.getElem?_toArray, List.drop_zero, List.drop_succ_cons, List.take_zero, List.take_succ_cons, Option.getD_some, Option.getD_none, Option.some.injEq, Option.isSome_some, Nat.reduceEqDiff, Nat.reduceAdd, Nat.reduceSub, Nat.reduceMul, Nat.reduceLT, Nat.reduceLeDiff, Nat.reduceMod, Nat.reduceDiv, Int.cast_ofNat_Int, Int.reduceLT, Int.reduceLE, Int.reduceToNat, ↓reduceIte, true_and, and_true, true_or, or_true, or_false, false_or, reduceCtorEq, Bool.false_eq_true, Bool.and_true, Bool.not_true, Bool.not_false, beq_self_eq_true, Bool.true_beq, Bool.false_beq, Value.oneCell', decide_true, decide_false, Int.reduceAdd, Int.reduceSub, Int.reduceMod, Int.reduceMul, Int.reduceNeg, Int.reduceBEq, Int.reduceBNe, Int.reduceTDiv, Int.reduceTMod, ne_eq, not_false_eq_true, not_true_eq_false, Int.reduceEq, Nat.zero_add, Nat.add_zero, Nat.le_refl, tyB, Try.underlying13, Try.underlying25, Try.underlying26, Try.underlying53, Try.underlying54, cells_pt, agg_pt, isNil_pt, ptV_lit, cells_w, agg_w, isNil_w, valm, ↓binK_eqPt, ↓binK_eqU, ↓binK_neU, eqU_v, e1, e2]
theorem adds_n (x y : Fp) (hp : onC (.a x y)) : Spec Try.prog 13 [.pl (ptV x.val y.val false), .pl (ptV x.val (0 - y).val false), .pl (ptV 0 0 true)] (.one (.pl (.bool true))) := by
  have hΓ : Env.ok [(23, turG)] Try.prog := ok_cons tur_ok (ok_nil _)
  have h1 : onB x.val y.val false = true := onB_p hp
  have h2 : ptOf x.val y.val false = .a x y := ptOf_p (.a x y)
  have h3 : pneg (.a x y) = .a x (0 - y) := rfl
  have h4 : rx (.a x (0 - y)) = x.val := rfl
  have h5 : ry (.a x (0 - y)) = (0 - y).val := rfl
  have h6 : rb (.a x (0 - y)) = false := rfl
  have e1 := eqU_self x.val
  have e2 := eqU_self (0 - y).val
  have e0 := eqU_self 0
  refine Spec.of_vx hΓ follows_mixed Try.func13 rfl (by kernel_rfl) (T := [(14, .alc), (15, .alc)]) (by simp [Try.ntmps13]) (by kernel_rfl) rfl Try.ntmps13 (res := [.tmp 6]) rfl ?_
  intro W
  simp -implicitDefEqProofs (maxSteps := 10000000) only [vy_succ, vy_zero, vx_skip, vx_reg0, vx_reg1, vx_ord, xx_done, xx_stop, xx_alt, vx_seq, vx_cond, vx_block, vx_exit, vx_ret, vx_loop, gx_nil, gx_cons, dx_nil, dx_cons, slim, slimOp, gO, gSO, qSO, quietOp, cx_nil, cx_cons, xx_alc, cS, qSB, eK, calmOp, guardS, gK, qK, putK, plK, dOk, St.ev, St.get, St.mem, St.set, St.setm, St.put, lookA, look, newK, nextver, initT, seqE, blockQ, bodyQ, resK, retV, AV.rdv, cells_agg, cells_int, cells_bool, cells_string, cells_slice, cells_uV, agg_uV, isNil_uV, toN_uV, i64_in, IntKind.wrap_u64, IntKind.wrap_u8, IntKind.wrap_u32, ↓binK, ↓intK, unK, ↓loadK, ↓withKey_eq, ↓idxAddrK, ↓indexK, ↓partK, ↓fieldK, ↓fieldAddrK, ↓convK, ↓callK, wrG, updK, ↓lenK, ↓mmK, ↓appK, ↓copyK, ↓sliceK, ↓toArrK, nilK, optK_some, optK_tup, optK_ite, evs, plains, seqParts, capsOf, capsD, List.append_nil, List.nil_append, List.cons_append, AV.dv, AV.cont, isNil_agg, isNil_int, isNil_bool, isNil_string, isNil_nil, isNil_slice, ↓buildV_eq, fillL, placesOf, Option.map_some, Option.map_none, ↓storeK, wrL, RV.av, DV.av, List.set, List.map_cons, List.map_nil, List.length_cons, List.length_nil, List.all_cons, List.all_nil, List.getElem?_cons_zero, List.getElem?_cons_succ, List.getElem?_nil, List.size_toArray, List.getElem?_toArray, List.drop_zero, List.drop_succ_cons, List.take_zero, List.take_succ_cons, Option.getD_some, Option.getD_none, Option.some.injEq, Option.isSome_some, Nat.reduceEqDiff, Nat.reduceAdd, Nat.reduceSub, Nat.reduceMul, Nat.reduceLT, Nat.reduceLeDiff, Nat.reduceMod, Nat.reduceDiv, Int.cast_ofNat_Int, Int.reduceLT, Int.reduceLE, Int.reduceToNat, ↓reduceIte, true_and, and_true, true_or, or_true, or_false, false_or, reduceCtorEq, Bool.false_eq_true, Bool.and_true, Bool.not_true, Bool.not_false, beq_self_eq_true, Bool.true_beq, Bool.false_beq, Value.oneCell', decide_true, decide_false, Int.reduceAdd, Int.reduceSub, Int.reduceMod, Int.reduceMul, Int.reduceNeg, Int.reduceBEq, Int.reduceBNe, Int.reduceTDiv, Int.reduceTMod, ne_eq, not_false_eq_true, not_true_eq_false, Int.reduceEq, Nat.zero_add, Nat.add_zero, Nat.le_refl, tyB, Try.underlying13, Try.underlying25, Try.underlying26, Try.underlying53, Try.underlying54, turG, toR_v, h1, h2, h3, h4, h5, h6, cells_pt, agg_pt, isNil_pt, ptV_lit, cells_w, agg_w, isNil_w, valm, ↓binK_eqPt, ↓binK_eqU, ↓binK_neU, eqU_v, ↓e1, ↓e2, e0]
set_option maxHeartbeats 4000000 in
theorem adds_c (x y x' y' X Y : Fp) (hp : onC (.a x y)) (hr : onC (.a X Y)) (hx : x ≠ x') (g1 : X * ((x' - x) * (x' - x)) = (y' - y) * (y' - y) - x * ((x' - x) * (x' - x)) - x' * ((x' - x) * (x' - x))) (g2 : Y * (x' - x) = (y' - y) * (x - X) - y * (x' - x)) : Spec Try.prog 13 [.pl (ptV x.val y.val false), .pl (ptV x'.val y'.val false), .pl (ptV X.val Y.val false)] (.one (.pl (.bool true))) := by
  have hΓ : Env.ok [(23, turG), (21, onG), (31, pSubG), (32, pMulG), (33, pAddG)] Try.prog := ok_cons tur_ok (ok_cons ron_ok (ok_cons rfSub_ok (ok_cons rfMul_ok (ok_cons rfAdd_ok (ok_nil _)))))
  have h1 : onB x.val y.val false = true := onB_p hp
  have h2 : ptOf x.val y.val false = .a x y := ptOf_p (.a x y)
  have h3 : pneg (.a x y) = .a x (0 - y) := rfl
  have h4 : rx (.a x (0 - y)) = x.val := rfl
  have h5 : ry (.a x (0 - y)) = (0 - y).val := rfl
  have h6 : rb (.a x (0 - y)) = false := rfl
  have h7 : onB X.val Y.val false = true := onB_p hr
  have e3 := decide_eq_true g1
  have e4 := decide_eq_true g2
  have e1 : decide (x' = x) = false := decide_eq_false (Ne.symm hx)
  have e2 : decide (x = x') = false := decide_eq_false hx
  refine Spec.of_vx hΓ follows_mixed Try.func13 rfl (by kernel_rfl) (T := [(14, .alc), (15, .alc)]) (by simp [Try.ntmps13]) (by kernel_rfl) rfl Try.ntmps13 (res := [.tmp 6]) rfl ?_
  intro W
  simp -implicitDefEqProofs (maxSteps := 10000000) only [vy_succ, vy_zero, vx_skip, vx_reg0, vx_reg1, vx_ord, xx_done, xx_stop, xx_alt, vx_seq, vx_cond, vx_block, vx_exit, vx_ret, vx_loop, gx_nil, gx_cons, dx_nil, dx_cons, slim, slimOp, gO, gSO, qSO, quietOp, cx_nil, cx_cons, xx_alc, cS, qSB, eK, calmOp, guardS, gK, qK, putK, plK, dOk, St.ev, St.get, St.mem, St.set, St.setm, St.put, lookA, look, newK, nextver, initT, seqE, blockQ, bodyQ, resK, retV, AV.rdv, cells_agg, cells_int, cells_bool, cells_string, cells_slice, cells_uV, agg_uV, isNil_uV, toN_uV, i64_in, IntKind.wrap_u64, IntKind.wrap_u8, IntKind.wrap_u32, ↓binK, ↓intK, unK, ↓loadK, ↓withKey_eq, ↓idxAddrK, ↓indexK, ↓partK, ↓fieldK, ↓fieldAddrK, ↓convK, ↓callK, wrG, updK, ↓lenK, ↓mmK, ↓appK, ↓copyK, ↓sliceK, ↓toArrK, nilK, optK_some, optK_tup, optK_ite, evs, plains, seqParts, capsOf, capsD, List.append_nil, List.nil_append, List.cons_append, AV.dv, AV.cont, isNil_agg, isNil_int, isNil_bool, isNil_string, isNil_nil, isNil_slice, ↓buildV_eq, fillL, placesOf, Option.map_some, Option.map_none, ↓storeK, wrL, RV.av, DV.av, List.set, List.map_cons, List.map_nil, List.length_cons, List.length_nil, List.all_cons, List.all_nil, List.getElem?_cons_zero, List.getElem?_cons_succ, List.getElem?_nil, List.size_toArray, List.getElem?_toArray, List.drop_zero, List.drop_succ_cons, List.take_zero, List.take_succ_cons, Option.getD_some, Option.getD_none, Option.some.injEq, Option.isSome_some, Nat.reduceEqDiff, Nat.reduceAdd, Nat.reduceSub, Nat.reduceMul, Nat.reduceLT, Nat.reduceLeDiff, Nat.reduceMod, Nat.reduceDiv, Int.cast_ofNat_Int, Int.reduceLT, Int.reduceLE, Int.reduceToNat, ↓reduceIte, true_and, and_true, true_or, or_true, or_false, false_or, reduceCtorEq, Bool.false_eq_true, Bool.and_true, Bool.not_true, Bool.not_false, beq_self_eq_true, Bool.true_beq, Bool.false_beq, Value.oneCell', decide_true, decide_false, Int.reduceAdd, Int.reduceSub, Int.reduceMod, Int.reduceMul, Int.reduceNeg, Int.reduceBEq, Int.reduceBNe, Int.reduceTDiv, Int.reduceTMod, ne_eq, not_false_eq_true, not_true_eq_false, Int.reduceEq, Nat.zero_add, Nat.add_zero, Nat.le_refl, tyB, Try.underlying13, Try.underlying25, Try.underlying26, Try.underlying53, Try.underlying54, turG, onG, pSubG, pMulG, pAddG, toR_v, val_nc, h1, h2, h3, h4, h5, h6, h7, cells_pt, agg_pt, isNil_pt, ptV_lit, cells_w, agg_w, isNil_w, valm, ↓binK_eqPt, ↓binK_eqU, ↓binK_neU, eqU_v, e1, e2, e3, e4, Bool.false_and]
set_option maxHeartbeats 4000000 in
theorem adds_d (x y X Y : Fp) (hp : onC (.a x y)) (hr : onC (.a X Y)) (hy : y ≠ 0 - y) (g1 : X * ((y + y) * (y + y)) = (x * x + x * x + x * x) * (x * x + x * x + x * x) - x * ((y + y) * (y + y)) - x * ((y + y) * (y + y))) (g2 : Y * (y + y) = (x * x + x * x + x * x) * (x - X) - y * (y + y)) : Spec Try.prog 13 [.pl (ptV x.val y.val false), .pl (ptV x.val y.val false), .pl (ptV X.val Y.val false)] (.one (.pl (.bool true))) := by
  have hΓ : Env.ok [(23, turG), (21, onG), (31, pSubG), (32, pMulG), (33, pAddG)] Try.prog := ok_cons tur_ok (ok_cons ron_ok (ok_cons rfSub_ok (ok_cons rfMul_ok (ok_cons rfAdd_ok (ok_nil _)))))
  have h1 : onB x.val y.val false = true := onB_p hp
  have h2 : ptOf x.val y.val false = .a x y := ptOf_p (.a x y)
  have h3 : pneg (.a x y) = .a x (0 - y) := rfl
  have h4 : rx (.a x (0 - y)) = x.val := rfl
  have h5 : ry (.a x (0 - y)) = (0 - y).val := rfl
  have h6 : rb (.a x (0 - y)) = false := rfl
  have h7 : onB X.val Y.val false = true := onB_p hr
  have e1 : decide (y = 0 - y) = false := decide_eq_false hy
  have e2 : decide (x = x) = true := decide_eq_true rfl
  have e5 : decide (y = y) = true := decide_eq_true rfl
  have e3 := decide_eq_true g1
  have e4 := decide_eq_true g2
  refine Spec.of_vx hΓ follows_mixed Try.func13 rfl (by kernel_rfl) (T := [(14, .alc), (15, .alc)]) (by simp [Try.ntmps13]) (by kernel_rfl) rfl Try.ntmps13 (res := [.tmp 6]) rfl ?_
  intro W
  simp -implicitDefEqProofs (maxSteps := 10000000) only [vy_succ, vy_zero, vx_skip, vx_reg0, vx_reg1, vx_ord, xx_done, xx_stop, xx_alt, vx_seq, vx_cond, vx_block, vx_exit, vx_ret, vx_loop, gx_nil, gx_cons, dx_nil, dx_cons, slim, slimOp, gO, gSO, qSO, quietOp, cx_nil, cx_cons, xx_alc, cS, qSB, eK, calmOp, guardS, gK, qK, putK, plK, dOk, St.ev, St.get, St.mem, St.set, St.setm, St.put, lookA, look, newK, nextver, initT, seqE, blockQ, bodyQ, resK, retV, AV.rdv, cells_agg, cells_int, cells_bool, cells_string, cells_slice, cells_uV, agg_uV, isNil_uV, toN_uV, i64_in, IntKind.wrap_u64, IntKind.wrap_u8, IntKind.wrap_u32, ↓binK, ↓intK, unK, ↓loadK, ↓withKey_eq, ↓idxAddrK, ↓indexK, ↓partK, ↓fieldK, ↓fieldAddrK, ↓convK, ↓callK, wrG, updK, ↓lenK, ↓mmK, ↓appK, ↓copyK, ↓sliceK, ↓toArrK, nilK, optK_some, optK_tup, optK_ite, evs, plains, seqParts, capsOf, capsD, List.append_nil, List.nil_append, List.cons_append, AV.dv, AV.cont, isNil_agg, isNil_int, isNil_bool, isNil_string, isNil_nil, isNil_slice, ↓buildV_eq, fillL, placesOf, Option.map_some, Option.map_none, ↓storeK, wrL, RV.av, DV.av, List.set, List.map_cons, List.map_nil, List.length_cons, List.length_nil, List.all_cons, List.all_nil, List.getElem?_cons_zero, List.getElem?_cons_succ, List.getElem?_nil, List.size_toArray, List.getElem?_toArray, List.drop_zero, List.drop_succ_cons, List.take_zero, List.take_succ_cons, Option.getD_some, Option.getD_none, Option.some.injEq, Option.isSome_some, Nat.reduceEqDiff, Nat.reduceAdd, Nat.reduceSub, Nat.reduceMul, Nat.reduceLT, Nat.reduceLeDiff, Nat.reduceMod, Nat.reduceDiv, Int.cast_ofNat_Int, Int.reduceLT, Int.reduceLE, Int.reduceToNat, ↓reduceIte, true_and, and_true, true_or, or_true, or_false, false_or, reduceCtorEq, Bool.false_eq_true, Bool.and_true, Bool.not_true, Bool.not_false, beq_self_eq_true, Bool.true_beq, Bool.false_beq, Value.oneCell', decide_true, decide_false, Int.reduceAdd, Int.reduceSub, Int.reduceMod, Int.reduceMul, Int.reduceNeg, Int.reduceBEq, Int.reduceBNe, Int.reduceTDiv, Int.reduceTMod, ne_eq, not_false_eq_true, not_true_eq_false, Int.reduceEq, Nat.zero_add, Nat.add_zero, Nat.le_refl, tyB, Try.underlying13, Try.underlying25, Try.underlying26, Try.underlying53, Try.underlying54, turG, onG, pSubG, pMulG, pAddG, toR_v, val_nc, h1, h2, h3, h4, h5, h6, h7, cells_pt, agg_pt, isNil_pt, ptV_lit, cells_w, agg_w, isNil_w, valm, ↓binK_eqPt, ↓binK_eqU, ↓binK_neU, eqU_v, ↓e1, ↓e2, ↓e5, e3, e4, Bool.false_and, Bool.true_and, Bool.and_false]

theorem adds_walk (p q : Pt) (hp : onC p) (hq : onC q) : Spec Try.prog 13 [.pl (ptV (rx p) (ry p) (rb p)), .pl (ptV (rx q) (ry q) (rb q)), .pl (ptV (rx (padd p q)) (ry (padd p q)) (rb (padd p q)))] (.one (.pl (.bool true))) := by
  cases p with
  | o => rw [o_padd]; exact adds_o q
  | a x y =>
    cases q with
    | o => rw [padd_o]; exact adds_p x y
    | a x' y' =>
      have hr := padd_on hp hq
      by_cases hx : x = x'
      · subst hx
        by_cases hy : y = y'
        · subst hy
          have hn := y_ne hp
          have e : padd (.a x y) (.a x y) = .a (dbX x y) (dbY x y) := by simp [padd]
          rw [e] at hr ⊢
          have hi := finv_mul (fnz two_ne hn)
          refine adds_d x y _ _ hp hr (fun h => fnz two_ne hn (by grobner)) ?_ ?_
          · unfold dbX
            generalize finv (2 * y) = i at *
            clear e hr hn hp hq
            grobner
          · unfold dbY
            generalize dbX x y = X at *
            generalize finv (2 * y) = i at *
            clear e hr hn hp hq
            grobner
        · have e : padd (.a x y) (.a x y') = .o := by simp [padd, hy]
          have h1 : y * y = x * (x * x) + 7 := hp
          have h2 : y' * y' = x * (x * x) + 7 := hq
          have e2 : y' = 0 - y := by
            have : (y - y') * (y + y') = 0 := by grobner
            rcases fz this with h | h
            · exact absurd (by grobner) hy
            · grobner
          rw [e, e2]
          exact adds_n x y hp
      · have e : padd (.a x y) (.a x' y') = .a (chX x y x' y') (chY x y x' y') := by simp [padd, hx]
        have hi := finv_mul (sub_ne hx)
        rw [e] at hr ⊢
        refine adds_c x y x' y' _ _ hp hr hx ?_ ?_
        · unfold chX
          generalize finv (x' - x) = i at *
          clear e hr hp hq
          grobner
        · unfold chY
          generalize chX x y x' y' = X at *
          generalize finv (x' - x) = i at *
          clear e hr hp hq
          grobner
noncomputable def adG : List DV → Option RV
  | [.pl v, .pl u, .pl t] => match toR v, toR u, toR t with
    | some (x, y, b), some (x', y', b'), some (X, Y, B) => open Classical in if (onB x y b = true ∧ onB x' y' b' = true) ∧ (X = rx (padd (ptOf x y b) (ptOf x' y' b')) ∧ Y = ry (padd (ptOf x y b) (ptOf x' y' b')) ∧ B = rb (padd (ptOf x y b) (ptOf x' y' b'))) then some (.one (.pl (.bool true))) else none
    | _, _, _ => none
  | _ => none
theorem adds_ok : ∀ ds r, adG ds = some r → Spec Try.prog 13 ds r := by
  intro ds r h
  unfold adG at h
  split at h
  case h_2 => cases h
  rename_i v u t
  split at h
  case h_2 => cases h
  rename_i x y b x' y' b' X Y B hv hu ht
  obtain ⟨rfl, hx, hy⟩ := toR_eq hv
  obtain ⟨rfl, hx', hy'⟩ := toR_eq hu
  obtain ⟨rfl, hX, hY⟩ := toR_eq ht
  split at h
  case isFalse => cases h
  rename_i hc
  cases h
  obtain ⟨⟨a1, a2⟩, a3, a4, a5⟩ := hc
  obtain ⟨c1, c2, c3, c4⟩ := onB_on a1
  obtain ⟨d1, d2, d3, d4⟩ := onB_on a2
  have := adds_walk _ _ c1 d1
  rw [← a3, ← a4, ← a5, c2, c3, c4, d2, d3, d4] at this
  exact this
end Go.Vm
