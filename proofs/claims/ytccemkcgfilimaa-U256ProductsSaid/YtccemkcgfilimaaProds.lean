/- The law U256Products, as the machine walks it. No condition. -/
import Derived.Test.YtccemkcgfilimaaTm
import Derived.Test.YtccemkcgfilimaaSums
import Derived.Test.YtccemkcgfilimaaE
set_option maxRecDepth 100000
set_option linter.unusedSimpArgs false
set_option linter.unusedVariables false
namespace Go.Vm
open Go Go.RowKit Go.Proofs

theorem digV_drop (n k x : Nat) : (digV (k + n) x).drop k = digV n (x / 65536 ^ k) := by
  rw [digV_eq, digV_eq]
  apply List.ext_getElem
  · simp
  · intro j h1 h2
    simp only [List.getElem_drop, List.getElem_map, List.getElem_range]
    rw [dg_eq, dg_eq, Nat.div_div_eq_div_mul, ← Nat.pow_add]

set_option maxHeartbeats 4000000 in
theorem products_ok (a b : Nat) (ha : a < full) (hb : b < full) : Spec Try.prog 5 [.pl (uV a), .pl (uV b)] (.one (.pl (.bool true))) := by
  have hΓ : Env.ok [(22, mulG), (12, ofG), (23, timesG), (18, toG), (17, trueG)] Try.prog :=
    ok_cons mul_ok (ok_cons of_ok (ok_cons times_ok (ok_cons to_ok (ok_cons alive_ok (ok_nil _)))))
  have ta : toN (uV a) = some a := toN_lt ha
  have tb : toN (uV b) = some b := toN_lt hb
  have da := toD_16 ha
  have db := toD_16 hb
  have hab : a * b < 65536 ^ 33 := by
    have h1 := mul_lt_full ha hb
    have e : full * full = 65536 ^ 32 := by rw [full_d, ← Nat.pow_add]
    have h2 : 65536 ^ 32 ≤ 65536 ^ 33 := pow_mono (by omega)
    omega
  have dp : toD (digV 33 (a * b)) = some (33, a * b) := toD_digV hab
  have hd : ((digV 33 (a * b)).drop 16).take 17 = digV 17 (a * b / full) := by
    have := digV_drop 17 16 (a * b)
    rw [show 16 + 17 = 33 from rfl, ← full_d] at this
    rw [this, List.take_of_length_le (by rw [digV_len]; omega)]
  have dq : toD (digV 17 (a * b / full)) = some (17, a * b / full) := toD_digV (by
    rw [full_d]
    apply Nat.div_lt_of_lt_mul
    rw [← Nat.pow_add]
    exact hab)
  have lp := digV_len 33 (a * b)
  have q1 := eqU_self (a * b)
  have q2 := eqU_self (a * b / full)
  refine Spec.of_vx hΓ follows_mixed Try.func5 rfl (by kernel_rfl) (T := []) (by simp [Try.ntmps5]) (by kernel_rfl) rfl Try.ntmps5 (res := [.tmp 4]) rfl ?_
  intro W
  simp -implicitDefEqProofs (maxSteps := 10000000) only [vy_succ, vy_zero, vx_skip, vx_reg0, vx_reg1, vx_ord, xx_done, xx_stop, xx_alt, vx_seq, vx_cond, vx_block, vx_exit, vx_ret, vx_loop, gx_nil, gx_cons, dx_nil, dx_cons, slim, slimOp, gO, gSO, qSO, quietOp, guardS, gK, qK, putK, plK, dOk, St.ev, St.get, St.mem, St.set, St.setm, St.put, lookA, look, newK, nextver, initT, seqE, blockQ, bodyQ, resK, retV, AV.rdv, cells_agg, cells_int, cells_bool, cells_string, cells_slice, cells_uV, agg_uV, isNil_uV, toN_uV, i64_in, IntKind.wrap_u64, IntKind.wrap_u8, IntKind.wrap_u32, ↓binK, ↓intK, unK, ↓loadK, ↓withKey_eq, ↓idxAddrK, ↓indexK, ↓partK, ↓fieldK, ↓fieldAddrK, ↓convK, ↓callK, ↓lenK, ↓mmK, ↓appK, ↓copyK, ↓sliceK, ↓toArrK, nilK, optK_some, optK_ite, evs, plains, seqParts, capsOf, AV.dv, AV.cont, isNil_agg, isNil_int, isNil_bool, isNil_string, isNil_nil, isNil_slice, ↓buildV_eq, fillL, placesOf, Option.map_some, Option.map_none, ↓storeK, wrL, RV.av, DV.av, List.set, List.map_cons, List.map_nil, List.length_cons, List.length_nil, List.all_cons, List.all_nil, List.getElem?_cons_zero, List.getElem?_cons_succ, List.getElem?_nil, List.size_toArray, List.getElem?_toArray, List.drop_zero, List.drop_succ_cons, List.take_zero, List.take_succ_cons, Option.getD_some, Option.getD_none, Option.some.injEq, Option.isSome_some, Nat.reduceEqDiff, Nat.reduceAdd, Nat.reduceSub, Nat.reduceMul, Nat.reduceLT, Nat.reduceLeDiff, Nat.reduceMod, Nat.reduceDiv, Int.cast_ofNat_Int, Int.reduceLT, Int.reduceLE, Int.reduceToNat, ↓reduceIte, true_and, and_true, true_or, or_true, or_false, false_or, reduceCtorEq, Bool.false_eq_true, Bool.and_true, Bool.not_true, Bool.not_false, beq_self_eq_true, Bool.true_beq, Bool.false_beq, Value.oneCell', decide_true, decide_false, Int.reduceAdd, Int.reduceSub, Int.reduceMod, Int.reduceMul, Int.reduceNeg, Int.reduceBEq, Int.reduceBNe, Int.reduceTDiv, Int.reduceTMod, ne_eq, not_false_eq_true, not_true_eq_false, Int.reduceEq, Nat.zero_add, Nat.add_zero, Nat.le_refl, Try.underlying2, s_2, g_2, z_2, Try.underlying3, s_3, g_3, z_3, Try.underlying4, s_4, g_4, z_4, Try.underlying5, s_5, g_5, z_5, Try.underlying9, s_9, g_9, z_9, Try.underlying12, s_12, g_12, z_12, Try.underlying13, s_13, g_13, z_13, q_13, Try.underlying21, s_21, g_21, z_21, Try.underlying22, s_22, g_22, z_22, Try.underlying23, s_23, g_23, z_23, q_23, Try.underlying24, s_24, g_24, z_24, q_24, Try.underlying27, s_27, g_27, l_27, r_27, Try.underlying28, s_28, g_28, l_28, r_28, Try.underlying42, s_42, g_42, z_42, Try.underlying45, s_45, g_45, z_45, Try.underlying57, s_57, g_57, z_57, q_57, Try.underlying59, s_59, g_59, l_59, r_59, Try.underlying60, s_60, g_60, z_60, q_60, Try.underlying61, s_61, g_61, l_61, r_61, Try.underlying70, s_70, g_70, z_70, mulG, ofG, timesG, toG, trueG, ta, tb, da, db, dp, hd, dq, lp, ↓binK_eqU, q1, q2]
end Go.Vm
