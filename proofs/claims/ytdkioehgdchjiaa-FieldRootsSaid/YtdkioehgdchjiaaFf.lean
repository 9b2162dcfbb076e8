/- alive of the field's laws; the law FieldFolds, as the machine walks it. No condition. -/
import Derived.Test.YtdkioehgdchjiaaFe
set_option maxRecDepth 100000
set_option linter.unusedSimpArgs false
set_option linter.unusedVariables false
namespace Go.Vm
open Go Go.RowKit Go.Proofs

theorem and1_i64 (w : Int) : bits .and .i64 w 1 = 0 ∨ bits .and .i64 w 1 = 1 := by
  have h : bits .and .i64 w 1 = IntKind.i64.wrap ((BitVec.ofInt 64 w &&& BitVec.ofInt 64 1).toNat : Int) := rfl
  rw [h, BitVec.toNat_and]
  have e : (BitVec.ofInt 64 1).toNat = 1 := rfl
  rw [e, Nat.and_one_is_mod]
  rcases Nat.mod_two_eq_zero_or_one (BitVec.ofInt 64 w).toNat with h | h <;> rw [h]
  · left; rfl
  · right; rfl

theorem uV_2 : Value.agg #[.int .u64 2, .int .u64 0, .int .u64 0, .int .u64 0] = uV 2 := uV_lit 2 (by omega)
theorem uV_4 : Value.agg #[.int .u64 4, .int .u64 0, .int .u64 0, .int .u64 0] = uV 4 := uV_lit 4 (by omega)
theorem pN_huge (w : Int) : 18446744073709551616 < pN w := by have := pN_big w; rw [full_eq] at this; omega

theorem alive_ok : ∀ ds r, trueG ds = some r → Spec Try.prog 15 ds r := by
  intro ds r h
  unfold trueG at h
  split at h
  case h_2 => cases h
  cases h
  have hΓ : Env.ok [(10, faddG), (12, fmulG)] Try.prog := ok_cons fadd_ok (ok_cons fmul_ok (ok_nil _))
  have t2 : toN (uV 2) = some 2 := toN_lt (by rw [full_eq]; omega)
  have w0 : isW 0 = true := rfl
  have w1 : isW 1 = true := rfl
  have m0 : 4 % pN 0 = 4 := Nat.mod_eq_of_lt (by have := pN_huge 0; omega)
  have m1 : 4 % pN 1 = 4 := Nat.mod_eq_of_lt (by have := pN_huge 1; omega)
  refine Spec.of_vx hΓ follows_mixed Try.func15 rfl (by kernel_rfl) (T := []) (by simp [Try.ntmps15]) (by kernel_rfl) rfl Try.ntmps15 (res := [.tmp 0]) rfl ?_
  intro W
  simp -implicitDefEqProofs (maxSteps := 10000000) only [vy_succ, vy_zero, vx_skip, vx_reg0, vx_reg1, vx_ord, xx_done, xx_stop, xx_alt, vx_seq, vx_cond, vx_block, vx_exit, vx_ret, vx_loop, gx_nil, gx_cons, dx_nil, dx_cons, slim, slimOp, gO, gSO, qSO, quietOp, guardS, gK, qK, putK, plK, dOk, St.ev, St.get, St.mem, St.set, St.setm, St.put, lookA, look, newK, nextver, initT, seqE, blockQ, bodyQ, resK, retV, AV.rdv, cells_agg, cells_int, cells_bool, cells_string, cells_slice, cells_uV, agg_uV, isNil_uV, toN_uV, i64_in, IntKind.wrap_u64, IntKind.wrap_u8, IntKind.wrap_u32, ↓binK, ↓intK, unK, ↓loadK, ↓withKey_eq, ↓idxAddrK, ↓indexK, ↓partK, ↓fieldK, ↓fieldAddrK, ↓convK, ↓callK, wrG, updK, ↓lenK, ↓mmK, ↓appK, ↓copyK, ↓sliceK, ↓toArrK, nilK, optK_some, optK_tup, optK_ite, evs, plains, seqParts, capsOf, capsD, List.append_nil, List.nil_append, List.cons_append, AV.dv, AV.cont, isNil_agg, isNil_int, isNil_bool, isNil_string, isNil_nil, isNil_slice, ↓buildV_eq, fillL, placesOf, Option.map_some, Option.map_none, ↓storeK, wrL, RV.av, DV.av, List.set, List.map_cons, List.map_nil, List.length_cons, List.length_nil, List.all_cons, List.all_nil, List.getElem?_cons_zero, List.getElem?_cons_succ, List.getElem?_nil, List.size_toArray, List.getElem?_toArray, List.drop_zero, List.drop_succ_cons, List.take_zero, List.take_succ_cons, Option.getD_some, Option.getD_none, Option.some.injEq, Option.isSome_some, Nat.reduceEqDiff, Nat.reduceAdd, Nat.reduceSub, Nat.reduceMul, Nat.reduceLT, Nat.reduceLeDiff, Nat.reduceMod, Nat.reduceDiv, Int.cast_ofNat_Int, Int.reduceLT, Int.reduceLE, Int.reduceToNat, ↓reduceIte, true_and, and_true, true_or, or_true, or_false, false_or, reduceCtorEq, Bool.false_eq_true, Bool.and_true, Bool.not_true, Bool.not_false, beq_self_eq_true, Bool.true_beq, Bool.false_beq, Value.oneCell', decide_true, decide_false, Int.reduceAdd, Int.reduceSub, Int.reduceMod, Int.reduceMul, Int.reduceNeg, Int.reduceBEq, Int.reduceBNe, Int.reduceTDiv, Int.reduceTMod, ne_eq, not_false_eq_true, not_true_eq_false, Int.reduceEq, Nat.zero_add, Nat.add_zero, Nat.le_refl, Try.underlying2, s_2, g_2, z_2, Try.underlying3, s_3, g_3, z_3, Try.underlying4, s_4, g_4, z_4, Try.underlying5, s_5, g_5, z_5, Try.underlying9, s_9, g_9, z_9, Try.underlying12, s_12, g_12, z_12, Try.underlying13, s_13, g_13, z_13, q_13, Try.underlying21, s_21, g_21, z_21, Try.underlying22, s_22, g_22, z_22, Try.underlying23, s_23, g_23, z_23, q_23, Try.underlying24, s_24, g_24, z_24, q_24, Try.underlying25, s_25, g_25, z_25, Try.underlying36, s_36, g_36, l_36, r_36, Try.underlying37, s_37, g_37, l_37, r_37, Try.underlying50, s_50, g_50, z_50, q_50, Try.underlying54, s_54, g_54, l_54, r_54, Try.underlying55, s_55, g_55, z_55, Try.underlying71, s_71, g_71, z_71, faddG, fmulG, uV_2, uV_4, t2, w0, w1, m0, m1, ↓binK_eqU, eqU_self]

set_option maxHeartbeats 4000000 in
theorem folds_ok (a b : Nat) (w : Int) (ha : a < full) (hb : b < full) : Spec Try.prog 4 [.pl (uV a), .pl (uV b), .pl (.int .i64 w)] (.one (.pl (.bool true))) := by
  have hΓ : Env.ok [(16, primeG), (17, freduceG), (18, mulG), (19, cmpG), (15, trueG)] Try.prog := ok_cons prime_ok (ok_cons freduce_ok (ok_cons mul_ok (ok_cons cmp_ok (ok_cons alive_ok (ok_nil _)))))
  have ta : toN (uV a) = some a := toN_lt ha
  have tb : toN (uV b) = some b := toN_lt hb
  have hv := and1_i64 w
  generalize hw : bits .and .i64 w 1 = v at hv
  have hv' : isW v = true := by rcases hv with rfl | rfl <;> rfl
  have tp : toN (uV (pN v)) = some (pN v) := toN_lt (pN_lt v)
  have tx := toN_mod (a + b * full) v
  have q1 : eqU ((a + b * full) % pN v) (((a + b * full) % pN v + 0 * full) % pN v) = true := by
    rw [Nat.zero_mul, Nat.add_zero, Nat.mod_mod]; exact eqU_self _
  have q2 : cmpN ((a + b * full) % pN v) (pN v) = -1 := cmpN_lt (Nat.mod_lt _ (pN_pos v))
  have q3 : (pN v * a % full + pN v * a / full % full * full) % pN v = 0 := by
    rw [split_full _ (mul_lt_full (pN_lt v) ha), Nat.mul_mod_right]
  have q4 := eqU_self 0
  refine Spec.of_vx hΓ follows_mixed Try.func4 rfl (by kernel_rfl) (T := []) (by simp [Try.ntmps4]) (by kernel_rfl) rfl Try.ntmps4 (res := [.tmp 6]) rfl ?_
  intro W
  simp -implicitDefEqProofs (maxSteps := 10000000) only [vy_succ, vy_zero, vx_skip, vx_reg0, vx_reg1, vx_ord, xx_done, xx_stop, xx_alt, vx_seq, vx_cond, vx_block, vx_exit, vx_ret, vx_loop, gx_nil, gx_cons, dx_nil, dx_cons, slim, slimOp, gO, gSO, qSO, quietOp, guardS, gK, qK, putK, plK, dOk, St.ev, St.get, St.mem, St.set, St.setm, St.put, lookA, look, newK, nextver, initT, seqE, blockQ, bodyQ, resK, retV, AV.rdv, cells_agg, cells_int, cells_bool, cells_string, cells_slice, cells_uV, agg_uV, isNil_uV, toN_uV, i64_in, IntKind.wrap_u64, IntKind.wrap_u8, IntKind.wrap_u32, ↓binK, ↓intK, unK, ↓loadK, ↓withKey_eq, ↓idxAddrK, ↓indexK, ↓partK, ↓fieldK, ↓fieldAddrK, ↓convK, ↓callK, wrG, updK, ↓lenK, ↓mmK, ↓appK, ↓copyK, ↓sliceK, ↓toArrK, nilK, optK_some, optK_tup, optK_ite, evs, plains, seqParts, capsOf, capsD, List.append_nil, List.nil_append, List.cons_append, AV.dv, AV.cont, isNil_agg, isNil_int, isNil_bool, isNil_string, isNil_nil, isNil_slice, ↓buildV_eq, fillL, placesOf, Option.map_some, Option.map_none, ↓storeK, wrL, RV.av, DV.av, List.set, List.map_cons, List.map_nil, List.length_cons, List.length_nil, List.all_cons, List.all_nil, List.getElem?_cons_zero, List.getElem?_cons_succ, List.getElem?_nil, List.size_toArray, List.getElem?_toArray, List.drop_zero, List.drop_succ_cons, List.take_zero, List.take_succ_cons, Option.getD_some, Option.getD_none, Option.some.injEq, Option.isSome_some, Nat.reduceEqDiff, Nat.reduceAdd, Nat.reduceSub, Nat.reduceMul, Nat.reduceLT, Nat.reduceLeDiff, Nat.reduceMod, Nat.reduceDiv, Int.cast_ofNat_Int, Int.reduceLT, Int.reduceLE, Int.reduceToNat, ↓reduceIte, true_and, and_true, true_or, or_true, or_false, false_or, reduceCtorEq, Bool.false_eq_true, Bool.and_true, Bool.not_true, Bool.not_false, beq_self_eq_true, Bool.true_beq, Bool.false_beq, Value.oneCell', decide_true, decide_false, Int.reduceAdd, Int.reduceSub, Int.reduceMod, Int.reduceMul, Int.reduceNeg, Int.reduceBEq, Int.reduceBNe, Int.reduceTDiv, Int.reduceTMod, ne_eq, not_false_eq_true, not_true_eq_false, Int.reduceEq, Nat.zero_add, Nat.add_zero, Nat.le_refl, Try.underlying2, s_2, g_2, z_2, Try.underlying3, s_3, g_3, z_3, Try.underlying4, s_4, g_4, z_4, Try.underlying5, s_5, g_5, z_5, Try.underlying9, s_9, g_9, z_9, Try.underlying12, s_12, g_12, z_12, Try.underlying13, s_13, g_13, z_13, q_13, Try.underlying21, s_21, g_21, z_21, Try.underlying22, s_22, g_22, z_22, Try.underlying23, s_23, g_23, z_23, q_23, Try.underlying24, s_24, g_24, z_24, q_24, Try.underlying25, s_25, g_25, z_25, Try.underlying36, s_36, g_36, l_36, r_36, Try.underlying37, s_37, g_37, l_37, r_37, Try.underlying50, s_50, g_50, z_50, q_50, Try.underlying54, s_54, g_54, l_54, r_54, Try.underlying55, s_55, g_55, z_55, Try.underlying71, s_71, g_71, z_71, primeG, freduceG, mulG, cmpG, trueG, hw, hv', ta, tb, tp, tx, ↓binK_eqU, ↓binK_eqU0, q1, q2, q3, q4, toN_zero]
end Go.Vm
