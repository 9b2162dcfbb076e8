/- The law U256Lefts, as the machine walks it. No condition. -/
import Derived.Test.YtccemkcgfilimaaLf
set_option maxRecDepth 100000
set_option linter.unusedSimpArgs false
set_option linter.unusedVariables false
namespace Go.Vm
open Go Go.RowKit Go.Proofs

theorem digV_one (n x : Nat) : (digV n x).all Value.oneCell' = true := by rw [digV_eq]; simp [Value.oneCell']
theorem digV_app (n a b : Nat) (m : Nat) (ha : a < 65536 ^ n) : digV n a ++ digV m b = digV (n + m) (a + b * 65536 ^ n) := by
  rw [digV_eq, digV_eq, digV_eq]
  apply List.ext_getElem
  · simp
  · intro j h1 h2
    by_cases h : j < n
    · rw [List.getElem_append_left (by simpa using h)]
      simp only [List.getElem_map, List.getElem_range]
      have e : dg (a + b * 65536 ^ n) j = dg a j := by
        rw [dg_eq, dg_eq]
        have e2 : b * 65536 ^ n = 65536 ^ j * (65536 * (b * 65536 ^ (n - j - 1))) := by
          have : 65536 ^ n = 65536 ^ j * (65536 * 65536 ^ (n - j - 1)) := by
            rw [← Nat.pow_succ', ← Nat.pow_add]; congr 1; omega
          rw [this]
          simp only [Nat.mul_left_comm, Nat.mul_comm, Nat.mul_assoc]
        rw [e2, Nat.add_mul_div_left _ _ (bpow_pos j), Nat.add_mul_mod_self_left]
      rw [e]
    · rw [List.getElem_append_right (by simpa using h)]
      simp only [List.getElem_map, List.getElem_range, List.length_map, List.length_range]
      have e : dg (a + b * 65536 ^ n) j = dg b (j - n) := by
        have e3 : 65536 ^ j = 65536 ^ n * 65536 ^ (j - n) := by rw [← Nat.pow_add]; congr 1; omega
        rw [dg_eq, dg_eq, e3, ← Nat.div_div_eq_div_mul, Nat.add_mul_div_right _ _ (bpow_pos n), Nat.div_eq_of_lt ha, Nat.zero_add]
      rw [e]
theorem toD_32 {a b : Nat} (ha : a < full) (hb : b < full) : toD (digV 32 (a + b * full)) = some (32, a + b * full) := by
  apply toD_digV
  have e : (65536 : Nat) ^ 32 = full * full := by rw [full_d, ← Nat.pow_add]
  rw [e]
  have : (b + 1) * full ≤ full * full := Nat.mul_le_mul_right _ (by omega)
  rw [Nat.add_mul, Nat.one_mul] at this
  omega
theorem digV_32 {a b : Nat} (ha : a < full) : digV 16 a ++ digV 16 b = digV 32 (a + b * full) := by
  have := digV_app 16 a b 16 (by rw [← full_d]; exact ha)
  rw [← full_d] at this
  exact this

def lefTree : OT := .alt 0 (.alt 1 (.alt 2 (.alt 3 (.alt 4 (.alt 5 (.alt 6 (.alt 7 (.done) (.stop)) (.stop)) (.stop)) (.stop)) (.alt 4 (.alt 3 (.alt 5 (.alt 6 (.alt 7 (.done) (.stop)) (.stop)) (.stop)) (.stop)) (.stop))) (.alt 4 (.alt 2 (.alt 3 (.alt 5 (.alt 6 (.alt 7 (.done) (.stop)) (.stop)) (.stop)) (.stop)) (.stop)) (.stop))) (.alt 4 (.alt 1 (.alt 2 (.alt 3 (.alt 5 (.alt 6 (.alt 7 (.done) (.stop)) (.stop)) (.stop)) (.stop)) (.stop)) (.stop)) (.stop))) (.alt 1 (.alt 0 (.alt 2 (.alt 3 (.alt 4 (.alt 5 (.alt 6 (.alt 7 (.done) (.stop)) (.stop)) (.stop)) (.stop)) (.alt 4 (.alt 3 (.alt 5 (.alt 6 (.alt 7 (.done) (.stop)) (.stop)) (.stop)) (.stop)) (.stop))) (.alt 4 (.alt 2 (.alt 3 (.alt 5 (.alt 6 (.alt 7 (.done) (.stop)) (.stop)) (.stop)) (.stop)) (.stop)) (.stop))) (.alt 2 (.alt 0 (.alt 3 (.alt 4 (.alt 5 (.alt 6 (.alt 7 (.done) (.stop)) (.stop)) (.stop)) (.stop)) (.alt 4 (.alt 3 (.alt 5 (.alt 6 (.alt 7 (.done) (.stop)) (.stop)) (.stop)) (.stop)) (.stop))) (.alt 4 (.alt 0 (.alt 3 (.alt 5 (.alt 6 (.alt 7 (.done) (.stop)) (.stop)) (.stop)) (.stop)) (.stop)) (.stop))) (.alt 4 (.alt 0 (.alt 2 (.alt 3 (.alt 5 (.alt 6 (.alt 7 (.done) (.stop)) (.stop)) (.stop)) (.stop)) (.stop)) (.alt 2 (.alt 0 (.alt 3 (.alt 5 (.alt 6 (.alt 7 (.done) (.stop)) (.stop)) (.stop)) (.stop)) (.stop)) (.stop))) (.stop)))) (.alt 4 (.alt 0 (.alt 1 (.alt 2 (.alt 3 (.alt 5 (.alt 6 (.alt 7 (.done) (.stop)) (.stop)) (.stop)) (.stop)) (.stop)) (.stop)) (.alt 1 (.alt 0 (.alt 2 (.alt 3 (.alt 5 (.alt 6 (.alt 7 (.done) (.stop)) (.stop)) (.stop)) (.stop)) (.stop)) (.alt 2 (.alt 0 (.alt 3 (.alt 5 (.alt 6 (.alt 7 (.done) (.stop)) (.stop)) (.stop)) (.stop)) (.stop)) (.stop))) (.stop))) (.stop)))

set_option maxHeartbeats 8000000 in
theorem lefts_ok (l h m : Nat) (hl : l < full) (hh : h < full) (hm : m < full) : Spec Try.prog 7 [.pl (uV l), .pl (uV h), .pl (uV m)] (.one (.pl (.bool true))) := by
  have hΓ : Env.ok [(30, modG), (19, cmpG), (12, ofG), (31, leftG), (18, toG), (17, trueG)] Try.prog :=
    ok_cons mod_ok (ok_cons cmp_ok (ok_cons of_ok (ok_cons left_ok (ok_cons to_ok (ok_cons alive_ok (ok_nil _))))))
  have tl : toN (uV l) = some l := toN_lt hl
  have th : toN (uV h) = some h := toN_lt hh
  have tm : toN (uV m) = some m := toN_lt hm
  have dl := digV_len 16 l
  have dh := digV_len 16 h
  have dm := toD_16 hm
  have d32 := toD_32 hl hh
  have happ := digV_32 (b := h) hl
  have l32 := digV_len 32 (l + h * full)
  have ht32 : (digV 32 (l + h * full)).take 32 = digV 32 (l + h * full) := List.take_of_length_le (by omega)
  refine Spec.of_vx hΓ follows_mixed Try.func7 rfl (by kernel_rfl) (T := [(4, lefTree)]) (by simp [Try.ntmps7]) (by kernel_rfl) rfl Try.ntmps7 (res := [.tmp 6]) rfl ?_
  intro W
  by_cases h0 : m = 0
  · have e0 : eqU m 0 = true := by rw [h0]; exact eqU_self 0
    have q0 := eqU_self 0
    have hm0 : (m = 0) = True := eq_true h0
    simp -implicitDefEqProofs (maxSteps := 10000000) only [vy_succ, vy_zero, vx_skip, vx_reg0, vx_reg1, vx_ord, xx_done, xx_stop, xx_alt, vx_seq, vx_cond, vx_block, vx_exit, vx_ret, vx_loop, gx_nil, gx_cons, dx_nil, dx_cons, slim, slimOp, gO, gSO, qSO, quietOp, guardS, gK, qK, putK, plK, dOk, St.ev, St.get, St.mem, St.set, St.setm, St.put, lookA, look, newK, nextver, initT, seqE, blockQ, bodyQ, resK, retV, AV.rdv, cells_agg, cells_int, cells_bool, cells_string, cells_slice, cells_uV, agg_uV, isNil_uV, toN_uV, i64_in, IntKind.wrap_u64, IntKind.wrap_u8, IntKind.wrap_u32, ↓binK, ↓intK, unK, ↓loadK, ↓withKey_eq, ↓idxAddrK, ↓indexK, ↓partK, ↓fieldK, ↓fieldAddrK, ↓convK, ↓callK, ↓lenK, ↓mmK, ↓appK, ↓copyK, ↓sliceK, ↓toArrK, nilK, optK_some, optK_ite, evs, plains, seqParts, capsOf, AV.dv, AV.cont, isNil_agg, isNil_int, isNil_bool, isNil_string, isNil_nil, isNil_slice, ↓buildV_eq, fillL, placesOf, Option.map_some, Option.map_none, ↓storeK, wrL, RV.av, DV.av, List.set, List.map_cons, List.map_nil, List.length_cons, List.length_nil, List.all_cons, List.all_nil, List.getElem?_cons_zero, List.getElem?_cons_succ, List.getElem?_nil, List.size_toArray, List.getElem?_toArray, List.drop_zero, List.drop_succ_cons, List.take_zero, List.take_succ_cons, Option.getD_some, Option.getD_none, Option.some.injEq, Option.isSome_some, Nat.reduceEqDiff, Nat.reduceAdd, Nat.reduceSub, Nat.reduceMul, Nat.reduceLT, Nat.reduceLeDiff, Nat.reduceMod, Nat.reduceDiv, Int.cast_ofNat_Int, Int.reduceLT, Int.reduceLE, Int.reduceToNat, ↓reduceIte, true_and, and_true, true_or, or_true, or_false, false_or, reduceCtorEq, Bool.false_eq_true, Bool.and_true, Bool.not_true, Bool.not_false, beq_self_eq_true, Bool.true_beq, Bool.false_beq, Value.oneCell', decide_true, decide_false, Int.reduceAdd, Int.reduceSub, Int.reduceMod, Int.reduceMul, Int.reduceNeg, Int.reduceBEq, Int.reduceBNe, Int.reduceTDiv, Int.reduceTMod, ne_eq, not_false_eq_true, not_true_eq_false, Int.reduceEq, Nat.zero_add, Nat.add_zero, Nat.le_refl, Try.underlying2, s_2, g_2, z_2, Try.underlying3, s_3, g_3, z_3, Try.underlying4, s_4, g_4, z_4, Try.underlying5, s_5, g_5, z_5, Try.underlying9, s_9, g_9, z_9, Try.underlying12, s_12, g_12, z_12, Try.underlying13, s_13, g_13, z_13, q_13, Try.underlying21, s_21, g_21, z_21, Try.underlying22, s_22, g_22, z_22, Try.underlying23, s_23, g_23, z_23, q_23, Try.underlying24, s_24, g_24, z_24, q_24, Try.underlying27, s_27, g_27, l_27, r_27, Try.underlying28, s_28, g_28, l_28, r_28, Try.underlying42, s_42, g_42, z_42, Try.underlying45, s_45, g_45, z_45, Try.underlying57, s_57, g_57, z_57, q_57, Try.underlying59, s_59, g_59, l_59, r_59, Try.underlying60, s_60, g_60, z_60, q_60, Try.underlying61, s_61, g_61, l_61, r_61, Try.underlying70, s_70, g_70, z_70, modG, trueG, tl, th, tm, ↓binK_eqU, ↓binK_eqU0, e0, hm0, q0]
  · have e0 : eqU m 0 = false := by rw [eqU_lt hm full_pos]; exact decide_eq_false h0
    have hr : (l + h * full) % m < m := Nat.mod_lt _ (by omega)
    have c0 : (0 < m) = True := eq_true (by omega)
    obtain ⟨hnd, hnl⟩ := nd_spec (show (l + h * full) % m < 65536 ^ 16 by rw [← full_d]; omega)
    have tr := toD_digV hnd.2.1
    have c1 : (nd ((l + h * full) % m) ≤ 1000) = True := eq_true (by omega)
    have q1 := eqU_self ((l + h * full) % m)
    have trm : toN (uV ((l + h * full) % m)) = some ((l + h * full) % m) := toN_lt (by omega)
    have q2 : cmpN ((l + h * full) % m) m = -1 := cmpN_lt hr
    simp -implicitDefEqProofs (maxSteps := 10000000) only [vy_succ, vy_zero, vx_skip, vx_reg0, vx_reg1, vx_ord, xx_done, xx_stop, xx_alt, vx_seq, vx_cond, vx_block, vx_exit, vx_ret, vx_loop, gx_nil, gx_cons, dx_nil, dx_cons, slim, slimOp, gO, gSO, qSO, quietOp, guardS, gK, qK, putK, plK, dOk, St.ev, St.get, St.mem, St.set, St.setm, St.put, lookA, look, newK, nextver, initT, seqE, blockQ, bodyQ, resK, retV, AV.rdv, cells_agg, cells_int, cells_bool, cells_string, cells_slice, cells_uV, agg_uV, isNil_uV, toN_uV, i64_in, IntKind.wrap_u64, IntKind.wrap_u8, IntKind.wrap_u32, ↓binK, ↓intK, unK, ↓loadK, ↓withKey_eq, ↓idxAddrK, ↓indexK, ↓partK, ↓fieldK, ↓fieldAddrK, ↓convK, ↓callK, ↓lenK, ↓mmK, ↓appK, ↓copyK, ↓sliceK, ↓toArrK, nilK, optK_some, optK_ite, evs, plains, seqParts, capsOf, AV.dv, AV.cont, isNil_agg, isNil_int, isNil_bool, isNil_string, isNil_nil, isNil_slice, ↓buildV_eq, fillL, placesOf, Option.map_some, Option.map_none, ↓storeK, wrL, RV.av, DV.av, List.set, List.map_cons, List.map_nil, List.length_cons, List.length_nil, List.all_cons, List.all_nil, List.getElem?_cons_zero, List.getElem?_cons_succ, List.getElem?_nil, List.size_toArray, List.getElem?_toArray, List.drop_zero, List.drop_succ_cons, List.take_zero, List.take_succ_cons, Option.getD_some, Option.getD_none, Option.some.injEq, Option.isSome_some, Nat.reduceEqDiff, Nat.reduceAdd, Nat.reduceSub, Nat.reduceMul, Nat.reduceLT, Nat.reduceLeDiff, Nat.reduceMod, Nat.reduceDiv, Int.cast_ofNat_Int, Int.reduceLT, Int.reduceLE, Int.reduceToNat, ↓reduceIte, true_and, and_true, true_or, or_true, or_false, false_or, reduceCtorEq, Bool.false_eq_true, Bool.and_true, Bool.not_true, Bool.not_false, beq_self_eq_true, Bool.true_beq, Bool.false_beq, Value.oneCell', decide_true, decide_false, Int.reduceAdd, Int.reduceSub, Int.reduceMod, Int.reduceMul, Int.reduceNeg, Int.reduceBEq, Int.reduceBNe, Int.reduceTDiv, Int.reduceTMod, ne_eq, not_false_eq_true, not_true_eq_false, Int.reduceEq, Nat.zero_add, Nat.add_zero, Nat.le_refl, Try.underlying2, s_2, g_2, z_2, Try.underlying3, s_3, g_3, z_3, Try.underlying4, s_4, g_4, z_4, Try.underlying5, s_5, g_5, z_5, Try.underlying9, s_9, g_9, z_9, Try.underlying12, s_12, g_12, z_12, Try.underlying13, s_13, g_13, z_13, q_13, Try.underlying21, s_21, g_21, z_21, Try.underlying22, s_22, g_22, z_22, Try.underlying23, s_23, g_23, z_23, q_23, Try.underlying24, s_24, g_24, z_24, q_24, Try.underlying27, s_27, g_27, l_27, r_27, Try.underlying28, s_28, g_28, l_28, r_28, Try.underlying42, s_42, g_42, z_42, Try.underlying45, s_45, g_45, z_45, Try.underlying57, s_57, g_57, z_57, q_57, Try.underlying59, s_59, g_59, l_59, r_59, Try.underlying60, s_60, g_60, z_60, q_60, Try.underlying61, s_61, g_61, l_61, r_61, Try.underlying70, s_70, g_70, z_70, lefTree, List.nil_append, digV_one, modG, cmpG, ofG, leftG, toG, trueG, tl, th, tm, dl, dh, dm, d32, happ, l32, ht32, c0, c1, tr, trm, q1, q2, ↓binK_eqU, ↓binK_eqU0, e0, h0]
end Go.Vm
