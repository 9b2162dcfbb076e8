/- Contracts of the field's reference; the law FieldReckons, as the machine walks it. No condition. -/
import Derived.Test.YtdkioehgdchjiaaFf
import Derived.Test.YtdkioehgdchjiaaLefts
set_option maxRecDepth 100000
set_option linter.unusedSimpArgs false
set_option linter.unusedVariables false
namespace Go.Vm
open Go Go.RowKit Go.Proofs

theorem uV_p0 : Value.agg #[.int .u64 18446744069414583343, .int .u64 18446744073709551615, .int .u64 18446744073709551615, .int .u64 18446744073709551615] = uV (pN 0) := by
  have := uV_of (x := pN 0) (a := 18446744069414583343) (b := 18446744073709551615) (c := 18446744073709551615) (d := 18446744073709551615) (by omega) (by omega) (by omega) (by omega) (by rw [pN_eq, cOf_eq]; simp only [num, full_eq]; simp)
  exact this.symm
theorem uV_p1 : Value.agg #[.int .u64 13822214165235122497, .int .u64 13451932020343611451, .int .u64 18446744073709551614, .int .u64 18446744073709551615] = uV (pN 1) := by
  have := uV_of (x := pN 1) (a := 13822214165235122497) (b := 13451932020343611451) (c := 18446744073709551614) (d := 18446744073709551615) (by omega) (by omega) (by omega) (by omega) (by rw [pN_eq, cOf_eq]; simp only [num, full_eq]; simp)
  exact this.symm
theorem isW_cases {w : Int} (h : isW w = true) : w = 0 ∨ w = 1 := by
  unfold isW at h
  simpa using h

noncomputable def rmodG : List DV → Option RV
  | [.pl (.int .i64 w)] => if isW w = true then some (.one (.pl (uV (pN w)))) else none
  | _ => none
theorem rmod_ok : ∀ ds r, rmodG ds = some r → Spec Try.prog 21 ds r := by
  intro ds r h
  unfold rmodG at h
  split at h
  case h_2 => cases h
  rename_i w
  split at h
  case isFalse => cases h
  rename_i hw
  cases h
  have hΓ : Env.ok [] Try.prog := ok_nil _
  refine Spec.of_vx hΓ follows_mixed Try.func21 rfl (by kernel_rfl) (T := []) (by simp [Try.ntmps21]) (by kernel_rfl) rfl Try.ntmps21 (res := [.cell 2 24]) rfl ?_
  intro W
  rcases isW_cases hw with rfl | rfl
  · simp -implicitDefEqProofs (maxSteps := 10000000) only [vy_succ, vy_zero, vx_skip, vx_reg0, vx_reg1, vx_ord, xx_done, xx_stop, xx_alt, vx_seq, vx_cond, vx_block, vx_exit, vx_ret, vx_loop, gx_nil, gx_cons, dx_nil, dx_cons, slim, slimOp, gO, gSO, qSO, quietOp, guardS, gK, qK, putK, plK, dOk, St.ev, St.get, St.mem, St.set, St.setm, St.put, lookA, look, newK, nextver, initT, seqE, blockQ, bodyQ, resK, retV, AV.rdv, cells_agg, cells_int, cells_bool, cells_string, cells_slice, cells_uV, agg_uV, isNil_uV, toN_uV, i64_in, IntKind.wrap_u64, IntKind.wrap_u8, IntKind.wrap_u32, ↓binK, ↓intK, unK, ↓loadK, ↓withKey_eq, ↓idxAddrK, ↓indexK, ↓partK, ↓fieldK, ↓fieldAddrK, ↓convK, ↓callK, ↓lenK, ↓mmK, ↓appK, ↓copyK, ↓sliceK, ↓toArrK, nilK, optK_some, optK_ite, evs, plains, seqParts, capsOf, AV.dv, AV.cont, isNil_agg, isNil_int, isNil_bool, isNil_string, isNil_nil, isNil_slice, ↓buildV_eq, fillL, placesOf, Option.map_some, Option.map_none, ↓storeK, wrL, RV.av, DV.av, List.set, List.map_cons, List.map_nil, List.length_cons, List.length_nil, List.all_cons, List.all_nil, List.getElem?_cons_zero, List.getElem?_cons_succ, List.getElem?_nil, List.size_toArray, List.getElem?_toArray, List.drop_zero, List.drop_succ_cons, List.take_zero, List.take_succ_cons, Option.getD_some, Option.getD_none, Option.some.injEq, Option.isSome_some, Nat.reduceEqDiff, Nat.reduceAdd, Nat.reduceSub, Nat.reduceMul, Nat.reduceLT, Nat.reduceLeDiff, Nat.reduceMod, Nat.reduceDiv, Int.cast_ofNat_Int, Int.reduceLT, Int.reduceLE, Int.reduceToNat, ↓reduceIte, true_and, and_true, true_or, or_true, or_false, false_or, reduceCtorEq, Bool.false_eq_true, Bool.and_true, Bool.not_true, Bool.not_false, beq_self_eq_true, Bool.true_beq, Bool.false_beq, Value.oneCell', decide_true, decide_false, Int.reduceAdd, Int.reduceSub, Int.reduceMod, Int.reduceMul, Int.reduceNeg, Int.reduceBEq, Int.reduceBNe, Int.reduceTDiv, Int.reduceTMod, ne_eq, not_false_eq_true, not_true_eq_false, Int.reduceEq, Nat.zero_add, Nat.add_zero, Nat.le_refl, Try.underlying2, s_2, g_2, z_2, Try.underlying3, s_3, g_3, z_3, Try.underlying4, s_4, g_4, z_4, Try.underlying5, s_5, g_5, z_5, Try.underlying9, s_9, g_9, z_9, Try.underlying12, s_12, g_12, z_12, Try.underlying13, s_13, g_13, z_13, q_13, Try.underlying21, s_21, g_21, z_21, Try.underlying22, s_22, g_22, z_22, Try.underlying23, s_23, g_23, z_23, q_23, Try.underlying24, s_24, g_24, z_24, q_24, Try.underlying25, s_25, g_25, z_25, Try.underlying36, s_36, g_36, l_36, r_36, Try.underlying37, s_37, g_37, l_37, r_37, Try.underlying50, s_50, g_50, z_50, q_50, Try.underlying54, s_54, g_54, l_54, r_54, Try.underlying55, s_55, g_55, z_55, Try.underlying71, s_71, g_71, z_71, uV_p0]
  · simp -implicitDefEqProofs (maxSteps := 10000000) only [vy_succ, vy_zero, vx_skip, vx_reg0, vx_reg1, vx_ord, xx_done, xx_stop, xx_alt, vx_seq, vx_cond, vx_block, vx_exit, vx_ret, vx_loop, gx_nil, gx_cons, dx_nil, dx_cons, slim, slimOp, gO, gSO, qSO, quietOp, guardS, gK, qK, putK, plK, dOk, St.ev, St.get, St.mem, St.set, St.setm, St.put, lookA, look, newK, nextver, initT, seqE, blockQ, bodyQ, resK, retV, AV.rdv, cells_agg, cells_int, cells_bool, cells_string, cells_slice, cells_uV, agg_uV, isNil_uV, toN_uV, i64_in, IntKind.wrap_u64, IntKind.wrap_u8, IntKind.wrap_u32, ↓binK, ↓intK, unK, ↓loadK, ↓withKey_eq, ↓idxAddrK, ↓indexK, ↓partK, ↓fieldK, ↓fieldAddrK, ↓convK, ↓callK, ↓lenK, ↓mmK, ↓appK, ↓copyK, ↓sliceK, ↓toArrK, nilK, optK_some, optK_ite, evs, plains, seqParts, capsOf, AV.dv, AV.cont, isNil_agg, isNil_int, isNil_bool, isNil_string, isNil_nil, isNil_slice, ↓buildV_eq, fillL, placesOf, Option.map_some, Option.map_none, ↓storeK, wrL, RV.av, DV.av, List.set, List.map_cons, List.map_nil, List.length_cons, List.length_nil, List.all_cons, List.all_nil, List.getElem?_cons_zero, List.getElem?_cons_succ, List.getElem?_nil, List.size_toArray, List.getElem?_toArray, List.drop_zero, List.drop_succ_cons, List.take_zero, List.take_succ_cons, Option.getD_some, Option.getD_none, Option.some.injEq, Option.isSome_some, Nat.reduceEqDiff, Nat.reduceAdd, Nat.reduceSub, Nat.reduceMul, Nat.reduceLT, Nat.reduceLeDiff, Nat.reduceMod, Nat.reduceDiv, Int.cast_ofNat_Int, Int.reduceLT, Int.reduceLE, Int.reduceToNat, ↓reduceIte, true_and, and_true, true_or, or_true, or_false, false_or, reduceCtorEq, Bool.false_eq_true, Bool.and_true, Bool.not_true, Bool.not_false, beq_self_eq_true, Bool.true_beq, Bool.false_beq, Value.oneCell', decide_true, decide_false, Int.reduceAdd, Int.reduceSub, Int.reduceMod, Int.reduceMul, Int.reduceNeg, Int.reduceBEq, Int.reduceBNe, Int.reduceTDiv, Int.reduceTMod, ne_eq, not_false_eq_true, not_true_eq_false, Int.reduceEq, Nat.zero_add, Nat.add_zero, Nat.le_refl, Try.underlying2, s_2, g_2, z_2, Try.underlying3, s_3, g_3, z_3, Try.underlying4, s_4, g_4, z_4, Try.underlying5, s_5, g_5, z_5, Try.underlying9, s_9, g_9, z_9, Try.underlying12, s_12, g_12, z_12, Try.underlying13, s_13, g_13, z_13, q_13, Try.underlying21, s_21, g_21, z_21, Try.underlying22, s_22, g_22, z_22, Try.underlying23, s_23, g_23, z_23, q_23, Try.underlying24, s_24, g_24, z_24, q_24, Try.underlying25, s_25, g_25, z_25, Try.underlying36, s_36, g_36, l_36, r_36, Try.underlying37, s_37, g_37, l_37, r_37, Try.underlying50, s_50, g_50, z_50, q_50, Try.underlying54, s_54, g_54, l_54, r_54, Try.underlying55, s_55, g_55, z_55, Try.underlying71, s_71, g_71, z_71, uV_p1]

noncomputable def rleftG : List DV → Option RV
  | [.vec xs, .pl (.int .i64 w)] => match toD xs with
    | some (n, x) => if n ≤ 300 ∧ isW w = true then some (.one (.pl (uV (x % pN w)))) else none
    | none => none
  | _ => none
theorem rleft_ok : ∀ ds r, rleftG ds = some r → Spec Try.prog 25 ds r := by
  intro ds r h
  unfold rleftG at h
  split at h
  case h_2 => cases h
  rename_i xs w
  split at h
  case h_2 => cases h
  rename_i n x hx
  split at h
  case isFalse => cases h
  rename_i hb
  obtain ⟨hn, hw⟩ := hb
  cases h
  obtain ⟨rfl, hlt⟩ := toD_out hx
  have hΓ : Env.ok [(21, rmodG), (20, ofG), (41, leftG), (40, toG)] Try.prog := ok_cons rmod_ok (ok_cons of_ok (ok_cons left_ok (ok_cons to_ok (ok_nil _))))
  have tp : toN (uV (pN w)) = some (pN w) := toN_lt (pN_lt w)
  have dp := toD_16 (pN_lt w)
  have c0 : (n + 16 ≤ 400) = True := eq_true (by omega)
  have c1 : (0 < pN w) = True := eq_true (pN_pos w)
  obtain ⟨hnd, hnl⟩ := nd_spec (show x % pN w < 65536 ^ 16 by rw [← full_d]; exact mod_pN x w)
  have tr := toD_digV hnd.2.1
  have c2 : (nd (x % pN w) ≤ 1000) = True := eq_true (by omega)
  refine Spec.of_vx hΓ follows_mixed Try.func25 rfl (by kernel_rfl) (T := []) (by simp [Try.ntmps25]) (by kernel_rfl) rfl Try.ntmps25 (res := [.cell 4 24]) rfl ?_
  intro W
  simp -implicitDefEqProofs (maxSteps := 10000000) only [vy_succ, vy_zero, vx_skip, vx_reg0, vx_reg1, vx_ord, xx_done, xx_stop, xx_alt, vx_seq, vx_cond, vx_block, vx_exit, vx_ret, vx_loop, gx_nil, gx_cons, dx_nil, dx_cons, slim, slimOp, gO, gSO, qSO, quietOp, guardS, gK, qK, putK, plK, dOk, St.ev, St.get, St.mem, St.set, St.setm, St.put, lookA, look, newK, nextver, initT, seqE, blockQ, bodyQ, resK, retV, AV.rdv, cells_agg, cells_int, cells_bool, cells_string, cells_slice, cells_uV, agg_uV, isNil_uV, toN_uV, i64_in, IntKind.wrap_u64, IntKind.wrap_u8, IntKind.wrap_u32, ↓binK, ↓intK, unK, ↓loadK, ↓withKey_eq, ↓idxAddrK, ↓indexK, ↓partK, ↓fieldK, ↓fieldAddrK, ↓convK, ↓callK, ↓lenK, ↓mmK, ↓appK, ↓copyK, ↓sliceK, ↓toArrK, nilK, optK_some, optK_ite, evs, plains, seqParts, capsOf, AV.dv, AV.cont, isNil_agg, isNil_int, isNil_bool, isNil_string, isNil_nil, isNil_slice, ↓buildV_eq, fillL, placesOf, Option.map_some, Option.map_none, ↓storeK, wrL, RV.av, DV.av, List.set, List.map_cons, List.map_nil, List.length_cons, List.length_nil, List.all_cons, List.all_nil, List.getElem?_cons_zero, List.getElem?_cons_succ, List.getElem?_nil, List.size_toArray, List.getElem?_toArray, List.drop_zero, List.drop_succ_cons, List.take_zero, List.take_succ_cons, Option.getD_some, Option.getD_none, Option.some.injEq, Option.isSome_some, Nat.reduceEqDiff, Nat.reduceAdd, Nat.reduceSub, Nat.reduceMul, Nat.reduceLT, Nat.reduceLeDiff, Nat.reduceMod, Nat.reduceDiv, Int.cast_ofNat_Int, Int.reduceLT, Int.reduceLE, Int.reduceToNat, ↓reduceIte, true_and, and_true, true_or, or_true, or_false, false_or, reduceCtorEq, Bool.false_eq_true, Bool.and_true, Bool.not_true, Bool.not_false, beq_self_eq_true, Bool.true_beq, Bool.false_beq, Value.oneCell', decide_true, decide_false, Int.reduceAdd, Int.reduceSub, Int.reduceMod, Int.reduceMul, Int.reduceNeg, Int.reduceBEq, Int.reduceBNe, Int.reduceTDiv, Int.reduceTMod, ne_eq, not_false_eq_true, not_true_eq_false, Int.reduceEq, Nat.zero_add, Nat.add_zero, Nat.le_refl, Try.underlying2, s_2, g_2, z_2, Try.underlying3, s_3, g_3, z_3, Try.underlying4, s_4, g_4, z_4, Try.underlying5, s_5, g_5, z_5, Try.underlying9, s_9, g_9, z_9, Try.underlying12, s_12, g_12, z_12, Try.underlying13, s_13, g_13, z_13, q_13, Try.underlying21, s_21, g_21, z_21, Try.underlying22, s_22, g_22, z_22, Try.underlying23, s_23, g_23, z_23, q_23, Try.underlying24, s_24, g_24, z_24, q_24, Try.underlying25, s_25, g_25, z_25, Try.underlying36, s_36, g_36, l_36, r_36, Try.underlying37, s_37, g_37, l_37, r_37, Try.underlying50, s_50, g_50, z_50, q_50, Try.underlying54, s_54, g_54, l_54, r_54, Try.underlying55, s_55, g_55, z_55, Try.underlying71, s_71, g_71, z_71, rmodG, ofG, leftG, toG, hw, hx, tp, dp, c0, c1, c2, tr]

noncomputable def raddG : List DV → Option RV
  | [.pl va, .pl vb, .pl (.int .i64 w)] => match toN va, toN vb with
    | some a, some b => if isW w = true then some (.one (.pl (uV ((a + b) % pN w)))) else none
    | _, _ => none
  | _ => none
theorem radd_ok : ∀ ds r, raddG ds = some r → Spec Try.prog 22 ds r := by
  intro ds r h
  unfold raddG at h
  split at h
  case h_2 => cases h
  rename_i va vb w
  split at h
  case h_2 => cases h
  rename_i a b ha hb
  split at h
  case isFalse => cases h
  rename_i hw
  cases h
  obtain ⟨rfl, ha'⟩ := toN_eq ha
  obtain ⟨rfl, hb'⟩ := toN_eq hb
  have hΓ : Env.ok [(20, ofG), (37, sumG), (25, rleftG)] Try.prog := ok_cons of_ok (ok_cons sum_ok (ok_cons rleft_ok (ok_nil _)))
  have da := toD_16 ha'
  have db := toD_16 hb'
  have ds := toD_digV (sumN_lt (show a < 65536 ^ 16 by rw [← full_d]; exact ha') (show b < 65536 ^ 16 by rw [← full_d]; exact hb'))
  have hle := sumN_le 16 a 16 b
  have c0 : (sumN 16 a 16 b ≤ 300) = True := eq_true (by omega)
  refine Spec.of_vx hΓ follows_mixed Try.func22 rfl (by kernel_rfl) (T := []) (by simp [Try.ntmps22]) (by kernel_rfl) rfl Try.ntmps22 (res := [.cell 6 24]) rfl ?_
  intro W
  simp -implicitDefEqProofs (maxSteps := 10000000) only [vy_succ, vy_zero, vx_skip, vx_reg0, vx_reg1, vx_ord, xx_done, xx_stop, xx_alt, vx_seq, vx_cond, vx_block, vx_exit, vx_ret, vx_loop, gx_nil, gx_cons, dx_nil, dx_cons, slim, slimOp, gO, gSO, qSO, quietOp, guardS, gK, qK, putK, plK, dOk, St.ev, St.get, St.mem, St.set, St.setm, St.put, lookA, look, newK, nextver, initT, seqE, blockQ, bodyQ, resK, retV, AV.rdv, cells_agg, cells_int, cells_bool, cells_string, cells_slice, cells_uV, agg_uV, isNil_uV, toN_uV, i64_in, IntKind.wrap_u64, IntKind.wrap_u8, IntKind.wrap_u32, ↓binK, ↓intK, unK, ↓loadK, ↓withKey_eq, ↓idxAddrK, ↓indexK, ↓partK, ↓fieldK, ↓fieldAddrK, ↓convK, ↓callK, ↓lenK, ↓mmK, ↓appK, ↓copyK, ↓sliceK, ↓toArrK, nilK, optK_some, optK_ite, evs, plains, seqParts, capsOf, AV.dv, AV.cont, isNil_agg, isNil_int, isNil_bool, isNil_string, isNil_nil, isNil_slice, ↓buildV_eq, fillL, placesOf, Option.map_some, Option.map_none, ↓storeK, wrL, RV.av, DV.av, List.set, List.map_cons, List.map_nil, List.length_cons, List.length_nil, List.all_cons, List.all_nil, List.getElem?_cons_zero, List.getElem?_cons_succ, List.getElem?_nil, List.size_toArray, List.getElem?_toArray, List.drop_zero, List.drop_succ_cons, List.take_zero, List.take_succ_cons, Option.getD_some, Option.getD_none, Option.some.injEq, Option.isSome_some, Nat.reduceEqDiff, Nat.reduceAdd, Nat.reduceSub, Nat.reduceMul, Nat.reduceLT, Nat.reduceLeDiff, Nat.reduceMod, Nat.reduceDiv, Int.cast_ofNat_Int, Int.reduceLT, Int.reduceLE, Int.reduceToNat, ↓reduceIte, true_and, and_true, true_or, or_true, or_false, false_or, reduceCtorEq, Bool.false_eq_true, Bool.and_true, Bool.not_true, Bool.not_false, beq_self_eq_true, Bool.true_beq, Bool.false_beq, Value.oneCell', decide_true, decide_false, Int.reduceAdd, Int.reduceSub, Int.reduceMod, Int.reduceMul, Int.reduceNeg, Int.reduceBEq, Int.reduceBNe, Int.reduceTDiv, Int.reduceTMod, ne_eq, not_false_eq_true, not_true_eq_false, Int.reduceEq, Nat.zero_add, Nat.add_zero, Nat.le_refl, Try.underlying2, s_2, g_2, z_2, Try.underlying3, s_3, g_3, z_3, Try.underlying4, s_4, g_4, z_4, Try.underlying5, s_5, g_5, z_5, Try.underlying9, s_9, g_9, z_9, Try.underlying12, s_12, g_12, z_12, Try.underlying13, s_13, g_13, z_13, q_13, Try.underlying21, s_21, g_21, z_21, Try.underlying22, s_22, g_22, z_22, Try.underlying23, s_23, g_23, z_23, q_23, Try.underlying24, s_24, g_24, z_24, q_24, Try.underlying25, s_25, g_25, z_25, Try.underlying36, s_36, g_36, l_36, r_36, Try.underlying37, s_37, g_37, l_37, r_37, Try.underlying50, s_50, g_50, z_50, q_50, Try.underlying54, s_54, g_54, l_54, r_54, Try.underlying55, s_55, g_55, z_55, Try.underlying71, s_71, g_71, z_71, ofG, sumG, rleftG, hw, ha, hb, da, db, ds, c0]

noncomputable def rsubG : List DV → Option RV
  | [.pl va, .pl vb, .pl (.int .i64 w)] => match toN va, toN vb with
    | some a, some b => if isW w = true then some (.one (.pl (uV ((a + (pN w + pN w) - b) % pN w)))) else none
    | _, _ => none
  | _ => none
theorem rsub_ok : ∀ ds r, rsubG ds = some r → Spec Try.prog 23 ds r := by
  intro ds r h
  unfold rsubG at h
  split at h
  case h_2 => cases h
  rename_i va vb w
  split at h
  case h_2 => cases h
  rename_i a b ha hb
  split at h
  case isFalse => cases h
  rename_i hw
  cases h
  obtain ⟨rfl, ha'⟩ := toN_eq ha
  obtain ⟨rfl, hb'⟩ := toN_eq hb
  have hΓ : Env.ok [(21, rmodG), (20, ofG), (37, sumG), (38, takeG), (25, rleftG)] Try.prog := ok_cons rmod_ok (ok_cons of_ok (ok_cons sum_ok (ok_cons take_ok (ok_cons rleft_ok (ok_nil _)))))
  have tp : toN (uV (pN w)) = some (pN w) := toN_lt (pN_lt w)
  have da := toD_16 ha'
  have db := toD_16 hb'
  have dp := toD_16 (pN_lt w)
  have hp16 : pN w < 65536 ^ 16 := by rw [← full_d]; exact pN_lt w
  have l1 := sumN_lt hp16 hp16
  have e1 := sumN_le 16 (pN w) 16 (pN w)
  generalize hk1 : sumN 16 (pN w) 16 (pN w) = k1 at *
  have d1 := toD_digV l1
  have l2 := sumN_lt (show a < 65536 ^ 16 by rw [← full_d]; exact ha') l1
  have e2 := sumN_le 16 a k1 (pN w + pN w)
  generalize hk2 : sumN 16 a k1 (pN w + pN w) = k2 at *
  have d2 := toD_digV l2
  have hbig := pN_big w
  have d3 : toD (digV k2 (a + (pN w + pN w) - b)) = some (k2, a + (pN w + pN w) - b) := toD_digV (by omega)
  have c0 : (16 + k1 ≤ 1000) = True := eq_true (by omega)
  have c1 : (k2 + 16 ≤ 1000) = True := eq_true (by omega)
  have c2 : (b ≤ a + (pN w + pN w)) = True := eq_true (by omega)
  have c3 : (k2 ≤ 300) = True := eq_true (by omega)
  refine Spec.of_vx hΓ follows_mixed Try.func23 rfl (by kernel_rfl) (T := []) (by simp [Try.ntmps23]) (by kernel_rfl) rfl Try.ntmps23 (res := [.cell 6 24]) rfl ?_
  intro W
  simp -implicitDefEqProofs (maxSteps := 10000000) only [vy_succ, vy_zero, vx_skip, vx_reg0, vx_reg1, vx_ord, xx_done, xx_stop, xx_alt, vx_seq, vx_cond, vx_block, vx_exit, vx_ret, vx_loop, gx_nil, gx_cons, dx_nil, dx_cons, slim, slimOp, gO, gSO, qSO, quietOp, guardS, gK, qK, putK, plK, dOk, St.ev, St.get, St.mem, St.set, St.setm, St.put, lookA, look, newK, nextver, initT, seqE, blockQ, bodyQ, resK, retV, AV.rdv, cells_agg, cells_int, cells_bool, cells_string, cells_slice, cells_uV, agg_uV, isNil_uV, toN_uV, i64_in, IntKind.wrap_u64, IntKind.wrap_u8, IntKind.wrap_u32, ↓binK, ↓intK, unK, ↓loadK, ↓withKey_eq, ↓idxAddrK, ↓indexK, ↓partK, ↓fieldK, ↓fieldAddrK, ↓convK, ↓callK, ↓lenK, ↓mmK, ↓appK, ↓copyK, ↓sliceK, ↓toArrK, nilK, optK_some, optK_ite, evs, plains, seqParts, capsOf, AV.dv, AV.cont, isNil_agg, isNil_int, isNil_bool, isNil_string, isNil_nil, isNil_slice, ↓buildV_eq, fillL, placesOf, Option.map_some, Option.map_none, ↓storeK, wrL, RV.av, DV.av, List.set, List.map_cons, List.map_nil, List.length_cons, List.length_nil, List.all_cons, List.all_nil, List.getElem?_cons_zero, List.getElem?_cons_succ, List.getElem?_nil, List.size_toArray, List.getElem?_toArray, List.drop_zero, List.drop_succ_cons, List.take_zero, List.take_succ_cons, Option.getD_some, Option.getD_none, Option.some.injEq, Option.isSome_some, Nat.reduceEqDiff, Nat.reduceAdd, Nat.reduceSub, Nat.reduceMul, Nat.reduceLT, Nat.reduceLeDiff, Nat.reduceMod, Nat.reduceDiv, Int.cast_ofNat_Int, Int.reduceLT, Int.reduceLE, Int.reduceToNat, ↓reduceIte, true_and, and_true, true_or, or_true, or_false, false_or, reduceCtorEq, Bool.false_eq_true, Bool.and_true, Bool.not_true, Bool.not_false, beq_self_eq_true, Bool.true_beq, Bool.false_beq, Value.oneCell', decide_true, decide_false, Int.reduceAdd, Int.reduceSub, Int.reduceMod, Int.reduceMul, Int.reduceNeg, Int.reduceBEq, Int.reduceBNe, Int.reduceTDiv, Int.reduceTMod, ne_eq, not_false_eq_true, not_true_eq_false, Int.reduceEq, Nat.zero_add, Nat.add_zero, Nat.le_refl, Try.underlying2, s_2, g_2, z_2, Try.underlying3, s_3, g_3, z_3, Try.underlying4, s_4, g_4, z_4, Try.underlying5, s_5, g_5, z_5, Try.underlying9, s_9, g_9, z_9, Try.underlying12, s_12, g_12, z_12, Try.underlying13, s_13, g_13, z_13, q_13, Try.underlying21, s_21, g_21, z_21, Try.underlying22, s_22, g_22, z_22, Try.underlying23, s_23, g_23, z_23, q_23, Try.underlying24, s_24, g_24, z_24, q_24, Try.underlying25, s_25, g_25, z_25, Try.underlying36, s_36, g_36, l_36, r_36, Try.underlying37, s_37, g_37, l_37, r_37, Try.underlying50, s_50, g_50, z_50, q_50, Try.underlying54, s_54, g_54, l_54, r_54, Try.underlying55, s_55, g_55, z_55, Try.underlying71, s_71, g_71, z_71, rmodG, ofG, sumG, takeG, rleftG, hw, ha, hb, tp, da, db, dp, hk1, hk2, d1, d2, d3, c0, c1, c2, c3]

noncomputable def rmulG : List DV → Option RV
  | [.pl va, .pl vb, .pl (.int .i64 w)] => match toN va, toN vb with
    | some a, some b => if isW w = true then some (.one (.pl (uV (a * b % pN w)))) else none
    | _, _ => none
  | _ => none
theorem rmul_ok : ∀ ds r, rmulG ds = some r → Spec Try.prog 24 ds r := by
  intro ds r h
  unfold rmulG at h
  split at h
  case h_2 => cases h
  rename_i va vb w
  split at h
  case h_2 => cases h
  rename_i a b ha hb
  split at h
  case isFalse => cases h
  rename_i hw
  cases h
  obtain ⟨rfl, ha'⟩ := toN_eq ha
  obtain ⟨rfl, hb'⟩ := toN_eq hb
  have hΓ : Env.ok [(20, ofG), (39, timesG), (25, rleftG)] Try.prog := ok_cons of_ok (ok_cons times_ok (ok_cons rleft_ok (ok_nil _)))
  have da := toD_16 ha'
  have db := toD_16 hb'
  have hab : a * b < 65536 ^ 33 := by
    have h1 := mul_lt_full ha' hb'
    have e : full * full = 65536 ^ 32 := by rw [full_d, ← Nat.pow_add]
    have h2 : 65536 ^ 32 ≤ 65536 ^ 33 := pow_mono (by omega)
    omega
  have dp : toD (digV 33 (a * b)) = some (33, a * b) := toD_digV hab
  refine Spec.of_vx hΓ follows_mixed Try.func24 rfl (by kernel_rfl) (T := []) (by simp [Try.ntmps24]) (by kernel_rfl) rfl Try.ntmps24 (res := [.cell 6 24]) rfl ?_
  intro W
  simp -implicitDefEqProofs (maxSteps := 10000000) only [vy_succ, vy_zero, vx_skip, vx_reg0, vx_reg1, vx_ord, xx_done, xx_stop, xx_alt, vx_seq, vx_cond, vx_block, vx_exit, vx_ret, vx_loop, gx_nil, gx_cons, dx_nil, dx_cons, slim, slimOp, gO, gSO, qSO, quietOp, guardS, gK, qK, putK, plK, dOk, St.ev, St.get, St.mem, St.set, St.setm, St.put, lookA, look, newK, nextver, initT, seqE, blockQ, bodyQ, resK, retV, AV.rdv, cells_agg, cells_int, cells_bool, cells_string, cells_slice, cells_uV, agg_uV, isNil_uV, toN_uV, i64_in, IntKind.wrap_u64, IntKind.wrap_u8, IntKind.wrap_u32, ↓binK, ↓intK, unK, ↓loadK, ↓withKey_eq, ↓idxAddrK, ↓indexK, ↓partK, ↓fieldK, ↓fieldAddrK, ↓convK, ↓callK, ↓lenK, ↓mmK, ↓appK, ↓copyK, ↓sliceK, ↓toArrK, nilK, optK_some, optK_ite, evs, plains, seqParts, capsOf, AV.dv, AV.cont, isNil_agg, isNil_int, isNil_bool, isNil_string, isNil_nil, isNil_slice, ↓buildV_eq, fillL, placesOf, Option.map_some, Option.map_none, ↓storeK, wrL, RV.av, DV.av, List.set, List.map_cons, List.map_nil, List.length_cons, List.length_nil, List.all_cons, List.all_nil, List.getElem?_cons_zero, List.getElem?_cons_succ, List.getElem?_nil, List.size_toArray, List.getElem?_toArray, List.drop_zero, List.drop_succ_cons, List.take_zero, List.take_succ_cons, Option.getD_some, Option.getD_none, Option.some.injEq, Option.isSome_some, Nat.reduceEqDiff, Nat.reduceAdd, Nat.reduceSub, Nat.reduceMul, Nat.reduceLT, Nat.reduceLeDiff, Nat.reduceMod, Nat.reduceDiv, Int.cast_ofNat_Int, Int.reduceLT, Int.reduceLE, Int.reduceToNat, ↓reduceIte, true_and, and_true, true_or, or_true, or_false, false_or, reduceCtorEq, Bool.false_eq_true, Bool.and_true, Bool.not_true, Bool.not_false, beq_self_eq_true, Bool.true_beq, Bool.false_beq, Value.oneCell', decide_true, decide_false, Int.reduceAdd, Int.reduceSub, Int.reduceMod, Int.reduceMul, Int.reduceNeg, Int.reduceBEq, Int.reduceBNe, Int.reduceTDiv, Int.reduceTMod, ne_eq, not_false_eq_true, not_true_eq_false, Int.reduceEq, Nat.zero_add, Nat.add_zero, Nat.le_refl, Try.underlying2, s_2, g_2, z_2, Try.underlying3, s_3, g_3, z_3, Try.underlying4, s_4, g_4, z_4, Try.underlying5, s_5, g_5, z_5, Try.underlying9, s_9, g_9, z_9, Try.underlying12, s_12, g_12, z_12, Try.underlying13, s_13, g_13, z_13, q_13, Try.underlying21, s_21, g_21, z_21, Try.underlying22, s_22, g_22, z_22, Try.underlying23, s_23, g_23, z_23, q_23, Try.underlying24, s_24, g_24, z_24, q_24, Try.underlying25, s_25, g_25, z_25, Try.underlying36, s_36, g_36, l_36, r_36, Try.underlying37, s_37, g_37, l_37, r_37, Try.underlying50, s_50, g_50, z_50, q_50, Try.underlying54, s_54, g_54, l_54, r_54, Try.underlying55, s_55, g_55, z_55, Try.underlying71, s_71, g_71, z_71, ofG, timesG, rleftG, hw, ha, hb, da, db, dp]

theorem sub_same (a b p : Nat) (hp : 0 < p) (h : b ≤ a + (p + p)) : (a % p + (p - b % p)) % p = (a + (p + p) - b) % p := by
  have ha := Nat.div_add_mod a p
  have hb := Nat.div_add_mod b p
  have hbl := Nat.mod_lt b hp
  have hal := Nat.mod_lt a hp
  have e1 : (a % p + (p - b % p)) % p = (a % p + (p - b % p) + p * (a / p) + p) % p := by
    rw [Nat.add_mod_right, Nat.add_mul_mod_self_left]
  have e2 : (a + (p + p) - b) % p = (a + (p + p) - b + p * (b / p)) % p := by rw [Nat.add_mul_mod_self_left]
  rw [e1, e2]
  congr 1
  omega

def reckTree : OT := .alt 0 (.alt 1 (.alt 2 (.alt 3 (.alt 4 (.alt 5 (.alt 6 (.alt 7 (.done) (.stop)) (.stop)) (.stop)) (.stop)) (.alt 4 (.alt 3 (.alt 5 (.alt 6 (.alt 7 (.done) (.stop)) (.stop)) (.stop)) (.stop)) (.stop))) (.alt 4 (.alt 2 (.alt 3 (.alt 5 (.alt 6 (.alt 7 (.done) (.stop)) (.stop)) (.stop)) (.stop)) (.stop)) (.stop))) (.alt 4 (.alt 1 (.alt 2 (.alt 3 (.alt 5 (.alt 6 (.alt 7 (.done) (.stop)) (.stop)) (.stop)) (.stop)) (.stop)) (.stop)) (.stop))) (.alt 1 (.alt 0 (.alt 2 (.alt 3 (.alt 4 (.alt 5 (.alt 6 (.alt 7 (.done) (.stop)) (.stop)) (.stop)) (.stop)) (.alt 4 (.alt 3 (.alt 5 (.alt 6 (.alt 7 (.done) (.stop)) (.stop)) (.stop)) (.stop)) (.stop))) (.alt 4 (.alt 2 (.alt 3 (.alt 5 (.alt 6 (.alt 7 (.done) (.stop)) (.stop)) (.stop)) (.stop)) (.stop)) (.stop))) (.alt 2 (.alt 0 (.alt 3 (.alt 4 (.alt 5 (.alt 6 (.alt 7 (.done) (.stop)) (.stop)) (.stop)) (.stop)) (.alt 4 (.alt 3 (.alt 5 (.alt 6 (.alt 7 (.done) (.stop)) (.stop)) (.stop)) (.stop)) (.stop))) (.alt 4 (.alt 0 (.alt 3 (.alt 5 (.alt 6 (.alt 7 (.done) (.stop)) (.stop)) (.stop)) (.stop)) (.stop)) (.stop))) (.alt 4 (.alt 0 (.alt 2 (.alt 3 (.alt 5 (.alt 6 (.alt 7 (.done) (.stop)) (.stop)) (.stop)) (.stop)) (.stop)) (.alt 2 (.alt 0 (.alt 3 (.alt 5 (.alt 6 (.alt 7 (.done) (.stop)) (.stop)) (.stop)) (.stop)) (.stop)) (.stop))) (.stop)))) (.alt 4 (.alt 0 (.alt 1 (.alt 2 (.alt 3 (.alt 5 (.alt 6 (.alt 7 (.done) (.stop)) (.stop)) (.stop)) (.stop)) (.stop)) (.stop)) (.alt 1 (.alt 0 (.alt 2 (.alt 3 (.alt 5 (.alt 6 (.alt 7 (.done) (.stop)) (.stop)) (.stop)) (.stop)) (.stop)) (.alt 2 (.alt 0 (.alt 3 (.alt 5 (.alt 6 (.alt 7 (.done) (.stop)) (.stop)) (.stop)) (.stop)) (.stop)) (.stop))) (.stop))) (.stop)))

set_option maxHeartbeats 8000000 in
theorem reckons_ok (a b : Nat) (w : Int) (ha : a < full) (hb : b < full) : Spec Try.prog 5 [.pl (uV a), .pl (uV b), .pl (.int .i64 w)] (.one (.pl (.bool true))) := by
  have hΓ : Env.ok [(16, primeG), (10, faddG), (14, fsubG), (12, fmulG), (17, freduceG), (20, ofG), (21, rmodG), (22, raddG), (23, rsubG), (24, rmulG), (25, rleftG), (15, trueG)] Try.prog :=
    ok_cons prime_ok (ok_cons fadd_ok (ok_cons fsub_ok (ok_cons fmul_ok (ok_cons freduce_ok (ok_cons of_ok (ok_cons rmod_ok (ok_cons radd_ok (ok_cons rsub_ok (ok_cons rmul_ok (ok_cons rleft_ok (ok_cons alive_ok (ok_nil _))))))))))))
  have ta : toN (uV a) = some a := toN_lt ha
  have tb : toN (uV b) = some b := toN_lt hb
  have dl := digV_len 16 a
  have dh := digV_len 16 b
  have d32 := toD_32 ha hb
  have happ := digV_32 (b := b) ha
  have l32 := digV_len 32 (a + b * full)
  have ht32 : (digV 32 (a + b * full)).take 32 = digV 32 (a + b * full) := List.take_of_length_le (by omega)
  refine Spec.of_vx hΓ follows_mixed Try.func5 rfl (by kernel_rfl) (T := [(9, reckTree)]) (by simp [Try.ntmps5]) (by kernel_rfl) rfl Try.ntmps5 (res := [.tmp 6]) rfl ?_
  intro W
  cases hw : isW w with
  | false =>
    have n0 : (w != 0) = true := by unfold isW at hw; simp at hw; simp [hw.1]
    have n1 : (w != 1) = true := by unfold isW at hw; simp at hw; simp [hw.2]
    have q0 := eqU_self 0
    simp -implicitDefEqProofs (maxSteps := 10000000) only [vy_succ, vy_zero, vx_skip, vx_reg0, vx_reg1, vx_ord, xx_done, xx_stop, xx_alt, vx_seq, vx_cond, vx_block, vx_exit, vx_ret, vx_loop, gx_nil, gx_cons, dx_nil, dx_cons, slim, slimOp, gO, gSO, qSO, quietOp, guardS, gK, qK, putK, plK, dOk, St.ev, St.get, St.mem, St.set, St.setm, St.put, lookA, look, newK, nextver, initT, seqE, blockQ, bodyQ, resK, retV, AV.rdv, cells_agg, cells_int, cells_bool, cells_string, cells_slice, cells_uV, agg_uV, isNil_uV, toN_uV, i64_in, IntKind.wrap_u64, IntKind.wrap_u8, IntKind.wrap_u32, ↓binK, ↓intK, unK, ↓loadK, ↓withKey_eq, ↓idxAddrK, ↓indexK, ↓partK, ↓fieldK, ↓fieldAddrK, ↓convK, ↓callK, ↓lenK, ↓mmK, ↓appK, ↓copyK, ↓sliceK, ↓toArrK, nilK, optK_some, optK_ite, evs, plains, seqParts, capsOf, AV.dv, AV.cont, isNil_agg, isNil_int, isNil_bool, isNil_string, isNil_nil, isNil_slice, ↓buildV_eq, fillL, placesOf, Option.map_some, Option.map_none, ↓storeK, wrL, RV.av, DV.av, List.set, List.map_cons, List.map_nil, List.length_cons, List.length_nil, List.all_cons, List.all_nil, List.getElem?_cons_zero, List.getElem?_cons_succ, List.getElem?_nil, List.size_toArray, List.getElem?_toArray, List.drop_zero, List.drop_succ_cons, List.take_zero, List.take_succ_cons, Option.getD_some, Option.getD_none, Option.some.injEq, Option.isSome_some, Nat.reduceEqDiff, Nat.reduceAdd, Nat.reduceSub, Nat.reduceMul, Nat.reduceLT, Nat.reduceLeDiff, Nat.reduceMod, Nat.reduceDiv, Int.cast_ofNat_Int, Int.reduceLT, Int.reduceLE, Int.reduceToNat, ↓reduceIte, true_and, and_true, true_or, or_true, or_false, false_or, reduceCtorEq, Bool.false_eq_true, Bool.and_true, Bool.not_true, Bool.not_false, beq_self_eq_true, Bool.true_beq, Bool.false_beq, Value.oneCell', decide_true, decide_false, Int.reduceAdd, Int.reduceSub, Int.reduceMod, Int.reduceMul, Int.reduceNeg, Int.reduceBEq, Int.reduceBNe, Int.reduceTDiv, Int.reduceTMod, ne_eq, not_false_eq_true, not_true_eq_false, Int.reduceEq, Nat.zero_add, Nat.add_zero, Nat.le_refl, Try.underlying2, s_2, g_2, z_2, Try.underlying3, s_3, g_3, z_3, Try.underlying4, s_4, g_4, z_4, Try.underlying5, s_5, g_5, z_5, Try.underlying9, s_9, g_9, z_9, Try.underlying12, s_12, g_12, z_12, Try.underlying13, s_13, g_13, z_13, q_13, Try.underlying21, s_21, g_21, z_21, Try.underlying22, s_22, g_22, z_22, Try.underlying23, s_23, g_23, z_23, q_23, Try.underlying24, s_24, g_24, z_24, q_24, Try.underlying25, s_25, g_25, z_25, Try.underlying36, s_36, g_36, l_36, r_36, Try.underlying37, s_37, g_37, l_37, r_37, Try.underlying50, s_50, g_50, z_50, q_50, Try.underlying54, s_54, g_54, l_54, r_54, Try.underlying55, s_55, g_55, z_55, Try.underlying71, s_71, g_71, z_71, primeG, faddG, fsubG, fmulG, freduceG, trueG, ta, tb, hw, n0, n1, q0, ↓binK_eqU, ↓binK_eqU0]
  | true =>
    have q1 := eqU_self (pN w)
    have q2 := eqU_self ((a + b) % pN w)
    have q3 : eqU ((a % pN w + (pN w - b % pN w)) % pN w) ((a + (pN w + pN w) - b) % pN w) = true := by
      rw [sub_same a b (pN w) (pN_pos w) (by have := pN_big w; omega)]
      exact eqU_self _
    have q4 := eqU_self (a * b % pN w)
    have q5 := eqU_self ((a + b * full) % pN w)
    have nn : (w != 0 && w != 1) = false := by
      rcases isW_cases hw with rfl | rfl <;> rfl
    have hne : (w != 0) = false ∨ ((w != 0) = true ∧ (w != 1) = false) := by
      rcases isW_cases hw with rfl | rfl
      · left; rfl
      · right; exact ⟨rfl, rfl⟩
    rcases hne with n0 | ⟨n0, n1⟩
    · simp -implicitDefEqProofs (maxSteps := 10000000) only [vy_succ, vy_zero, vx_skip, vx_reg0, vx_reg1, vx_ord, xx_done, xx_stop, xx_alt, vx_seq, vx_cond, vx_block, vx_exit, vx_ret, vx_loop, gx_nil, gx_cons, dx_nil, dx_cons, slim, slimOp, gO, gSO, qSO, quietOp, guardS, gK, qK, putK, plK, dOk, St.ev, St.get, St.mem, St.set, St.setm, St.put, lookA, look, newK, nextver, initT, seqE, blockQ, bodyQ, resK, retV, AV.rdv, cells_agg, cells_int, cells_bool, cells_string, cells_slice, cells_uV, agg_uV, isNil_uV, toN_uV, i64_in, IntKind.wrap_u64, IntKind.wrap_u8, IntKind.wrap_u32, ↓binK, ↓intK, unK, ↓loadK, ↓withKey_eq, ↓idxAddrK, ↓indexK, ↓partK, ↓fieldK, ↓fieldAddrK, ↓convK, ↓callK, ↓lenK, ↓mmK, ↓appK, ↓copyK, ↓sliceK, ↓toArrK, nilK, optK_some, optK_ite, evs, plains, seqParts, capsOf, AV.dv, AV.cont, isNil_agg, isNil_int, isNil_bool, isNil_string, isNil_nil, isNil_slice, ↓buildV_eq, fillL, placesOf, Option.map_some, Option.map_none, ↓storeK, wrL, RV.av, DV.av, List.set, List.map_cons, List.map_nil, List.length_cons, List.length_nil, List.all_cons, List.all_nil, List.getElem?_cons_zero, List.getElem?_cons_succ, List.getElem?_nil, List.size_toArray, List.getElem?_toArray, List.drop_zero, List.drop_succ_cons, List.take_zero, List.take_succ_cons, Option.getD_some, Option.getD_none, Option.some.injEq, Option.isSome_some, Nat.reduceEqDiff, Nat.reduceAdd, Nat.reduceSub, Nat.reduceMul, Nat.reduceLT, Nat.reduceLeDiff, Nat.reduceMod, Nat.reduceDiv, Int.cast_ofNat_Int, Int.reduceLT, Int.reduceLE, Int.reduceToNat, ↓reduceIte, true_and, and_true, true_or, or_true, or_false, false_or, reduceCtorEq, Bool.false_eq_true, Bool.and_true, Bool.not_true, Bool.not_false, beq_self_eq_true, Bool.true_beq, Bool.false_beq, Value.oneCell', decide_true, decide_false, Int.reduceAdd, Int.reduceSub, Int.reduceMod, Int.reduceMul, Int.reduceNeg, Int.reduceBEq, Int.reduceBNe, Int.reduceTDiv, Int.reduceTMod, ne_eq, not_false_eq_true, not_true_eq_false, Int.reduceEq, Nat.zero_add, Nat.add_zero, Nat.le_refl, Try.underlying2, s_2, g_2, z_2, Try.underlying3, s_3, g_3, z_3, Try.underlying4, s_4, g_4, z_4, Try.underlying5, s_5, g_5, z_5, Try.underlying9, s_9, g_9, z_9, Try.underlying12, s_12, g_12, z_12, Try.underlying13, s_13, g_13, z_13, q_13, Try.underlying21, s_21, g_21, z_21, Try.underlying22, s_22, g_22, z_22, Try.underlying23, s_23, g_23, z_23, q_23, Try.underlying24, s_24, g_24, z_24, q_24, Try.underlying25, s_25, g_25, z_25, Try.underlying36, s_36, g_36, l_36, r_36, Try.underlying37, s_37, g_37, l_37, r_37, Try.underlying50, s_50, g_50, z_50, q_50, Try.underlying54, s_54, g_54, l_54, r_54, Try.underlying55, s_55, g_55, z_55, Try.underlying71, s_71, g_71, z_71, reckTree, List.nil_append, digV_one, primeG, faddG, fsubG, fmulG, freduceG, ofG, rmodG, raddG, rsubG, rmulG, rleftG, trueG, ta, tb, hw, n0, q1, q2, q3, q4, q5, dl, dh, d32, happ, l32, ht32, ↓binK_eqU, ↓binK_eqU0]
    · simp -implicitDefEqProofs (maxSteps := 10000000) only [vy_succ, vy_zero, vx_skip, vx_reg0, vx_reg1, vx_ord, xx_done, xx_stop, xx_alt, vx_seq, vx_cond, vx_block, vx_exit, vx_ret, vx_loop, gx_nil, gx_cons, dx_nil, dx_cons, slim, slimOp, gO, gSO, qSO, quietOp, guardS, gK, qK, putK, plK, dOk, St.ev, St.get, St.mem, St.set, St.setm, St.put, lookA, look, newK, nextver, initT, seqE, blockQ, bodyQ, resK, retV, AV.rdv, cells_agg, cells_int, cells_bool, cells_string, cells_slice, cells_uV, agg_uV, isNil_uV, toN_uV, i64_in, IntKind.wrap_u64, IntKind.wrap_u8, IntKind.wrap_u32, ↓binK, ↓intK, unK, ↓loadK, ↓withKey_eq, ↓idxAddrK, ↓indexK, ↓partK, ↓fieldK, ↓fieldAddrK, ↓convK, ↓callK, ↓lenK, ↓mmK, ↓appK, ↓copyK, ↓sliceK, ↓toArrK, nilK, optK_some, optK_ite, evs, plains, seqParts, capsOf, AV.dv, AV.cont, isNil_agg, isNil_int, isNil_bool, isNil_string, isNil_nil, isNil_slice, ↓buildV_eq, fillL, placesOf, Option.map_some, Option.map_none, ↓storeK, wrL, RV.av, DV.av, List.set, List.map_cons, List.map_nil, List.length_cons, List.length_nil, List.all_cons, List.all_nil, List.getElem?_cons_zero, List.getElem?_cons_succ, List.getElem?_nil, List.size_toArray, List.getElem?_toArray, List.drop_zero, List.drop_succ_cons, List.take_zero, List.take_succ_cons, Option.getD_some, Option.getD_none, Option.some.injEq, Option.isSome_some, Nat.reduceEqDiff, Nat.reduceAdd, Nat.reduceSub, Nat.reduceMul, Nat.reduceLT, Nat.reduceLeDiff, Nat.reduceMod, Nat.reduceDiv, Int.cast_ofNat_Int, Int.reduceLT, Int.reduceLE, Int.reduceToNat, ↓reduceIte, true_and, and_true, true_or, or_true, or_false, false_or, reduceCtorEq, Bool.false_eq_true, Bool.and_true, Bool.not_true, Bool.not_false, beq_self_eq_true, Bool.true_beq, Bool.false_beq, Value.oneCell', decide_true, decide_false, Int.reduceAdd, Int.reduceSub, Int.reduceMod, Int.reduceMul, Int.reduceNeg, Int.reduceBEq, Int.reduceBNe, Int.reduceTDiv, Int.reduceTMod, ne_eq, not_false_eq_true, not_true_eq_false, Int.reduceEq, Nat.zero_add, Nat.add_zero, Nat.le_refl, Try.underlying2, s_2, g_2, z_2, Try.underlying3, s_3, g_3, z_3, Try.underlying4, s_4, g_4, z_4, Try.underlying5, s_5, g_5, z_5, Try.underlying9, s_9, g_9, z_9, Try.underlying12, s_12, g_12, z_12, Try.underlying13, s_13, g_13, z_13, q_13, Try.underlying21, s_21, g_21, z_21, Try.underlying22, s_22, g_22, z_22, Try.underlying23, s_23, g_23, z_23, q_23, Try.underlying24, s_24, g_24, z_24, q_24, Try.underlying25, s_25, g_25, z_25, Try.underlying36, s_36, g_36, l_36, r_36, Try.underlying37, s_37, g_37, l_37, r_37, Try.underlying50, s_50, g_50, z_50, q_50, Try.underlying54, s_54, g_54, l_54, r_54, Try.underlying55, s_55, g_55, z_55, Try.underlying71, s_71, g_71, z_71, reckTree, List.nil_append, digV_one, primeG, faddG, fsubG, fmulG, freduceG, ofG, rmodG, raddG, rsubG, rmulG, rleftG, trueG, ta, tb, hw, n0, n1, q1, q2, q3, q4, q5, dl, dh, d32, happ, l32, ht32, ↓binK_eqU, ↓binK_eqU0]
end Go.Vm
