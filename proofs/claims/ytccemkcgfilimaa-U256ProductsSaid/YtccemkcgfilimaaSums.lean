/- The law U256Sums, as the machine walks it. No condition. -/
import Derived.Test.YtccemkcgfilimaaLt
set_option maxRecDepth 100000
set_option linter.unusedSimpArgs false
set_option linter.unusedVariables false
namespace Go.Vm
open Go Go.RowKit Go.Proofs

theorem full_d : full = 65536 ^ 16 := by rw [full_eq]
theorem toD_16 {a : Nat} (h : a < full) : toD (digV 16 a) = some (16, a) := toD_digV (by rw [← full_d]; exact h)
theorem full_lt17 : full < 65536 ^ 17 := by rw [full_eq]; omega
theorem sumN_le (n x m y : Nat) : sumN n x m y ≤ max n m + 1 := by
  have := cy_le x y (max n m)
  unfold sumN
  omega

set_option maxHeartbeats 4000000 in
theorem sums_ok (a b : Nat) (ha : a < full) (hb : b < full) : Spec Try.prog 3 [.pl (uV a), .pl (uV b)] (.one (.pl (.bool true))) := by
  have hΓ : Env.ok [(10, addG), (11, subG), (19, cmpG), (12, ofG), (13, sumG), (14, lessG), (15, fullG), (16, takeG), (18, toG), (17, trueG)] Try.prog :=
    ok_cons add_ok (ok_cons sub_ok (ok_cons cmp_ok (ok_cons of_ok (ok_cons sum_ok (ok_cons less_ok (ok_cons full_ok (ok_cons take_ok (ok_cons to_ok (ok_cons alive_ok (ok_nil _))))))))))
  have ta : toN (uV a) = some a := toN_lt ha
  have tb : toN (uV b) = some b := toN_lt hb
  have da := toD_16 ha
  have db := toD_16 hb
  have ha' : a < 65536 ^ 16 := by rw [← full_d]; exact ha
  have hb' : b < 65536 ^ 16 := by rw [← full_d]; exact hb
  have df : toD (digV 17 full) = some (17, full) := toD_digV full_lt17
  have ds : toD (digV (sumN 16 a 16 b) (a + b)) = some (sumN 16 a 16 b, a + b) := toD_digV (sumN_lt ha' hb')
  have dd : toD (digV (sumN 16 a 17 full) (a + full)) = some (sumN 16 a 17 full, a + full) := toD_digV (sumN_lt ha' full_lt17)
  have hdd := sumN_lt ha' full_lt17
  have de : toD (digV (sumN 16 a 17 full) (a + full - b)) = some (sumN 16 a 17 full, a + full - b) := toD_digV (by omega)
  have n1 := sumN_le 16 a 16 b
  have n2 := sumN_le 16 a 17 full
  have c1 : (sumN 16 a 16 b + 17 ≤ 1000) = True := eq_true (by omega)
  have c2 : (sumN 16 a 17 full + 16 ≤ 1000) = True := eq_true (by omega)
  have c3 : (sumN 16 a 16 b ≤ 1000) = True := eq_true (by omega)
  have c4 : (sumN 16 a 17 full ≤ 1000) = True := eq_true (by omega)
  have c5 : (b ≤ a + full) = True := eq_true (by omega)
  have q1 := eqU_self (a + b)
  have q2 := eqU_self (a + full - b)
  have q3 : (decide (full ≤ a + b) == !decide (a + b < full)) = true := by
    by_cases h : full ≤ a + b
    · rw [decide_eq_true h, decide_eq_false (by omega)]; rfl
    · rw [decide_eq_false h, decide_eq_true (by omega)]; rfl
  have hcase : (eqU a b = true ∧ cmpN a b = 0 ∧ decide (a < b) = false) ∨ (eqU a b = false ∧ cmpN a b = -1 ∧ decide (a < b) = true) ∨ (eqU a b = false ∧ cmpN a b = 1 ∧ decide (a < b) = false) := by
    rw [eqU_lt ha hb]
    rcases Nat.lt_trichotomy a b with h | h | h
    · right; left; exact ⟨decide_eq_false (by omega), cmpN_lt h, decide_eq_true h⟩
    · left; exact ⟨decide_eq_true h, cmpN_eq h, decide_eq_false (by omega)⟩
    · right; right; exact ⟨decide_eq_false (by omega), cmpN_gt h, decide_eq_false (by omega)⟩
  refine Spec.of_vx hΓ follows_mixed Try.func3 rfl (by kernel_rfl) (T := []) (by simp [Try.ntmps3]) (by kernel_rfl) rfl Try.ntmps3 (res := [.tmp 4]) rfl ?_
  intro W
  rcases hcase with ⟨k1, k2, k3⟩ | ⟨k1, k2, k3⟩ | ⟨k1, k2, k3⟩
  all_goals simp -implicitDefEqProofs (maxSteps := 10000000) only [vy_succ, vy_zero, vx_skip, vx_reg0, vx_reg1, vx_ord, xx_done, xx_stop, xx_alt, vx_seq, vx_cond, vx_block, vx_exit, vx_ret, vx_loop, gx_nil, gx_cons, dx_nil, dx_cons, slim, slimOp, gO, gSO, qSO, quietOp, guardS, gK, qK, putK, plK, dOk, St.ev, St.get, St.mem, St.set, St.setm, St.put, lookA, look, newK, nextver, initT, seqE, blockQ, bodyQ, resK, retV, AV.rdv, cells_agg, cells_int, cells_bool, cells_string, cells_slice, cells_uV, agg_uV, isNil_uV, toN_uV, i64_in, IntKind.wrap_u64, IntKind.wrap_u8, IntKind.wrap_u32, ↓binK, ↓intK, unK, ↓loadK, ↓withKey_eq, ↓idxAddrK, ↓indexK, ↓partK, ↓fieldK, ↓fieldAddrK, ↓convK, ↓callK, ↓lenK, ↓mmK, ↓appK, ↓copyK, ↓sliceK, ↓toArrK, nilK, optK_some, optK_ite, evs, plains, seqParts, capsOf, AV.dv, AV.cont, isNil_agg, isNil_int, isNil_bool, isNil_string, isNil_nil, isNil_slice, ↓buildV_eq, fillL, placesOf, Option.map_some, Option.map_none, ↓storeK, wrL, RV.av, DV.av, List.set, List.map_cons, List.map_nil, List.length_cons, List.length_nil, List.all_cons, List.all_nil, List.getElem?_cons_zero, List.getElem?_cons_succ, List.getElem?_nil, List.size_toArray, List.getElem?_toArray, List.drop_zero, List.drop_succ_cons, List.take_zero, List.take_succ_cons, Option.getD_some, Option.getD_none, Option.some.injEq, Option.isSome_some, Nat.reduceEqDiff, Nat.reduceAdd, Nat.reduceSub, Nat.reduceMul, Nat.reduceLT, Nat.reduceLeDiff, Nat.reduceMod, Nat.reduceDiv, Int.cast_ofNat_Int, Int.reduceLT, Int.reduceLE, Int.reduceToNat, ↓reduceIte, true_and, and_true, true_or, or_true, or_false, false_or, reduceCtorEq, Bool.false_eq_true, Bool.and_true, Bool.not_true, Bool.not_false, beq_self_eq_true, Bool.true_beq, Bool.false_beq, Value.oneCell', decide_true, decide_false, Int.reduceAdd, Int.reduceSub, Int.reduceMod, Int.reduceMul, Int.reduceNeg, Int.reduceBEq, Int.reduceBNe, Int.reduceTDiv, Int.reduceTMod, ne_eq, not_false_eq_true, not_true_eq_false, Int.reduceEq, Nat.zero_add, Nat.add_zero, Nat.le_refl, Try.underlying2, s_2, g_2, z_2, Try.underlying3, s_3, g_3, z_3, Try.underlying4, s_4, g_4, z_4, Try.underlying5, s_5, g_5, z_5, Try.underlying9, s_9, g_9, z_9, Try.underlying12, s_12, g_12, z_12, Try.underlying13, s_13, g_13, z_13, q_13, Try.underlying21, s_21, g_21, z_21, Try.underlying22, s_22, g_22, z_22, Try.underlying23, s_23, g_23, z_23, q_23, Try.underlying24, s_24, g_24, z_24, q_24, Try.underlying27, s_27, g_27, l_27, r_27, Try.underlying28, s_28, g_28, l_28, r_28, Try.underlying42, s_42, g_42, z_42, Try.underlying45, s_45, g_45, z_45, Try.underlying57, s_57, g_57, z_57, q_57, Try.underlying59, s_59, g_59, l_59, r_59, Try.underlying60, s_60, g_60, z_60, q_60, Try.underlying61, s_61, g_61, l_61, r_61, Try.underlying70, s_70, g_70, z_70, addG, subG, cmpG, ofG, sumG, lessG, fullG, takeG, toG, trueG, ta, tb, da, db, df, ds, dd, de, c1, c2, c3, c4, c5, ↓binK_eqU, q1, q2, q3, k1, k2, k3]
end Go.Vm
