/- Contract: alive. No condition. -/
import Derived.Test.YtccemkcgfilimaaD
import Derived.Test.YtccemkcgfilimaaQ
set_option maxRecDepth 100000
set_option linter.unusedSimpArgs false
set_option linter.unusedVariables false
namespace Go.Vm
open Go Go.RowKit Go.Proofs

def trueG : List DV → Option RV
  | [] => some (.one (.pl (.bool true)))
  | _ => none

theorem full_big : 18446744073709551616 < full := by rw [full_eq]; omega
theorem okW_lit1 : okW 1 = true := okW_of (by omega) (by omega)
theorem okW_lit2 : okW 2 = true := okW_of (by omega) (by omega)

theorem alive_ok : ∀ ds r, trueG ds = some r → Spec Try.prog 17 ds r := by
  intro ds r h
  unfold trueG at h
  split at h
  case h_2 => cases h
  cases h
  have hf := full_big
  have h1 : toN (uV 1) = some 1 := toN_lt (by omega)
  have h2 : toN (uV 2) = some 2 := toN_lt (by omega)
  have e1 : (1 : Int).toNat = 1 := rfl
  have e2 : (2 : Int).toNat = 2 := rfl
  have e3 : decide (full ≤ 3) = false := decide_eq_false (by omega)
  have hΓ : Env.ok [(10, addG), (28, smallG)] Try.prog := ok_cons add_ok (ok_cons small_ok (ok_nil _))
  refine Spec.of_vx hΓ follows_mixed Try.func17 rfl (by kernel_rfl) (T := []) (by simp [Try.ntmps17]) (by kernel_rfl) rfl Try.ntmps17 (res := [.tmp 0]) rfl ?_
  intro W
  simp -implicitDefEqProofs (maxSteps := 10000000) only [vy_succ, vy_zero, vx_skip, vx_reg0, vx_reg1, vx_ord, xx_done, xx_stop, xx_alt, vx_seq, vx_cond, vx_block, vx_exit, vx_ret, vx_loop, gx_nil, gx_cons, dx_nil, dx_cons, slim, slimOp, gO, gSO, qSO, quietOp, guardS, gK, qK, putK, plK, dOk, St.ev, St.get, St.mem, St.set, St.setm, St.put, lookA, look, newK, nextver, initT, seqE, blockQ, bodyQ, resK, retV, AV.rdv, cells_agg, cells_int, cells_bool, cells_string, cells_slice, cells_uV, agg_uV, isNil_uV, toN_uV, i64_in, IntKind.wrap_u64, IntKind.wrap_u8, IntKind.wrap_u32, ↓binK, ↓intK, unK, ↓loadK, ↓withKey_eq, ↓idxAddrK, ↓indexK, ↓partK, ↓fieldK, ↓fieldAddrK, ↓convK, ↓callK, wrG, updK, ↓lenK, ↓mmK, ↓appK, ↓copyK, ↓sliceK, ↓toArrK, nilK, optK_some, optK_tup, optK_ite, evs, plains, seqParts, capsOf, capsD, List.append_nil, List.nil_append, List.cons_append, AV.dv, AV.cont, isNil_agg, isNil_int, isNil_bool, isNil_string, isNil_nil, isNil_slice, ↓buildV_eq, fillL, placesOf, Option.map_some, Option.map_none, ↓storeK, wrL, RV.av, DV.av, List.set, List.map_cons, List.map_nil, List.length_cons, List.length_nil, List.all_cons, List.all_nil, List.getElem?_cons_zero, List.getElem?_cons_succ, List.getElem?_nil, List.size_toArray, List.getElem?_toArray, List.drop_zero, List.drop_succ_cons, List.take_zero, List.take_succ_cons, Option.getD_some, Option.getD_none, Option.some.injEq, Option.isSome_some, Nat.reduceEqDiff, Nat.reduceAdd, Nat.reduceSub, Nat.reduceMul, Nat.reduceLT, Nat.reduceLeDiff, Nat.reduceMod, Nat.reduceDiv, Int.cast_ofNat_Int, Int.reduceLT, Int.reduceLE, Int.reduceToNat, ↓reduceIte, true_and, and_true, true_or, or_true, or_false, false_or, reduceCtorEq, Bool.false_eq_true, Bool.and_true, Bool.not_true, Bool.not_false, beq_self_eq_true, Bool.true_beq, Bool.false_beq, Value.oneCell', decide_true, decide_false, Int.reduceAdd, Int.reduceSub, Int.reduceMod, Int.reduceMul, Int.reduceNeg, Int.reduceBEq, Int.reduceBNe, Int.reduceTDiv, Int.reduceTMod, ne_eq, not_false_eq_true, not_true_eq_false, Int.reduceEq, Nat.zero_add, Nat.add_zero, Nat.le_refl, Try.underlying2, s_2, g_2, z_2, Try.underlying3, s_3, g_3, z_3, Try.underlying4, s_4, g_4, z_4, Try.underlying5, s_5, g_5, z_5, Try.underlying9, s_9, g_9, z_9, Try.underlying12, s_12, g_12, z_12, Try.underlying13, s_13, g_13, z_13, q_13, Try.underlying21, s_21, g_21, z_21, Try.underlying22, s_22, g_22, z_22, Try.underlying23, s_23, g_23, z_23, q_23, Try.underlying24, s_24, g_24, z_24, q_24, Try.underlying27, s_27, g_27, l_27, r_27, Try.underlying28, s_28, g_28, l_28, r_28, Try.underlying42, s_42, g_42, z_42, Try.underlying45, s_45, g_45, z_45, Try.underlying57, s_57, g_57, z_57, q_57, Try.underlying59, s_59, g_59, l_59, r_59, Try.underlying60, s_60, g_60, z_60, q_60, Try.underlying61, s_61, g_61, l_61, r_61, Try.underlying70, s_70, g_70, z_70, addG, smallG, okW_lit1, okW_lit2, h1, h2, e1, e2, e3, ↓binK_eqU3, eqU_self]
end Go.Vm
