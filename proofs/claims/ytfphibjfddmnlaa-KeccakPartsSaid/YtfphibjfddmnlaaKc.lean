/- The sums' mixing, the document's too. No condition. -/
import Derived.Test.YtfphibjfddmnlaaKb
set_option maxRecDepth 100000
set_option linter.unusedSimpArgs false
set_option linter.unusedVariables false
namespace Go.Vm
open Go Go.RowKit Go.Proofs

noncomputable def rcw : Nat → W64 := Classical.choose (⟨fun (k : Nat) => nt (rcT k), rfl⟩ : ∃ y : Nat → W64, y = fun (k : Nat) => nt (rcT k))
theorem rcw_eq : rcw = fun (k : Nat) => nt (rcT k) := Classical.choose_spec (⟨fun (k : Nat) => nt (rcT k), rfl⟩ : ∃ y : Nat → W64, y = fun (k : Nat) => nt (rcT k))
theorem ntR_0 : nt 1 = rcw 0 := by rw [rcw_eq]; simp only [rcT_0]
theorem okR_0 : okW 1 = true := okW_of (by omega) (by omega)
theorem ntR_1 : nt 32898 = rcw 1 := by rw [rcw_eq]; simp only [rcT_1]
theorem okR_1 : okW 32898 = true := okW_of (by omega) (by omega)
theorem ntR_2 : nt 9223372036854808714 = rcw 2 := by rw [rcw_eq]; simp only [rcT_2]
theorem okR_2 : okW 9223372036854808714 = true := okW_of (by omega) (by omega)
theorem ntR_3 : nt 9223372039002292224 = rcw 3 := by rw [rcw_eq]; simp only [rcT_3]
theorem okR_3 : okW 9223372039002292224 = true := okW_of (by omega) (by omega)
theorem ntR_4 : nt 32907 = rcw 4 := by rw [rcw_eq]; simp only [rcT_4]
theorem okR_4 : okW 32907 = true := okW_of (by omega) (by omega)
theorem ntR_5 : nt 2147483649 = rcw 5 := by rw [rcw_eq]; simp only [rcT_5]
theorem okR_5 : okW 2147483649 = true := okW_of (by omega) (by omega)
theorem ntR_6 : nt 9223372039002292353 = rcw 6 := by rw [rcw_eq]; simp only [rcT_6]
theorem okR_6 : okW 9223372039002292353 = true := okW_of (by omega) (by omega)
theorem ntR_7 : nt 9223372036854808585 = rcw 7 := by rw [rcw_eq]; simp only [rcT_7]
theorem okR_7 : okW 9223372036854808585 = true := okW_of (by omega) (by omega)
theorem ntR_8 : nt 138 = rcw 8 := by rw [rcw_eq]; simp only [rcT_8]
theorem okR_8 : okW 138 = true := okW_of (by omega) (by omega)
theorem ntR_9 : nt 136 = rcw 9 := by rw [rcw_eq]; simp only [rcT_9]
theorem okR_9 : okW 136 = true := okW_of (by omega) (by omega)
theorem ntR_10 : nt 2147516425 = rcw 10 := by rw [rcw_eq]; simp only [rcT_10]
theorem okR_10 : okW 2147516425 = true := okW_of (by omega) (by omega)
theorem ntR_11 : nt 2147483658 = rcw 11 := by rw [rcw_eq]; simp only [rcT_11]
theorem okR_11 : okW 2147483658 = true := okW_of (by omega) (by omega)
theorem ntR_12 : nt 2147516555 = rcw 12 := by rw [rcw_eq]; simp only [rcT_12]
theorem okR_12 : okW 2147516555 = true := okW_of (by omega) (by omega)
theorem ntR_13 : nt 9223372036854775947 = rcw 13 := by rw [rcw_eq]; simp only [rcT_13]
theorem okR_13 : okW 9223372036854775947 = true := okW_of (by omega) (by omega)
theorem ntR_14 : nt 9223372036854808713 = rcw 14 := by rw [rcw_eq]; simp only [rcT_14]
theorem okR_14 : okW 9223372036854808713 = true := okW_of (by omega) (by omega)
theorem ntR_15 : nt 9223372036854808579 = rcw 15 := by rw [rcw_eq]; simp only [rcT_15]
theorem okR_15 : okW 9223372036854808579 = true := okW_of (by omega) (by omega)
theorem ntR_16 : nt 9223372036854808578 = rcw 16 := by rw [rcw_eq]; simp only [rcT_16]
theorem okR_16 : okW 9223372036854808578 = true := okW_of (by omega) (by omega)
theorem ntR_17 : nt 9223372036854775936 = rcw 17 := by rw [rcw_eq]; simp only [rcT_17]
theorem okR_17 : okW 9223372036854775936 = true := okW_of (by omega) (by omega)
theorem ntR_18 : nt 32778 = rcw 18 := by rw [rcw_eq]; simp only [rcT_18]
theorem okR_18 : okW 32778 = true := okW_of (by omega) (by omega)
theorem ntR_19 : nt 9223372039002259466 = rcw 19 := by rw [rcw_eq]; simp only [rcT_19]
theorem okR_19 : okW 9223372039002259466 = true := okW_of (by omega) (by omega)
theorem ntR_20 : nt 9223372039002292353 = rcw 20 := by rw [rcw_eq]; simp only [rcT_20]
theorem okR_20 : okW 9223372039002292353 = true := okW_of (by omega) (by omega)
theorem ntR_21 : nt 9223372036854808704 = rcw 21 := by rw [rcw_eq]; simp only [rcT_21]
theorem okR_21 : okW 9223372036854808704 = true := okW_of (by omega) (by omega)
theorem ntR_22 : nt 2147483649 = rcw 22 := by rw [rcw_eq]; simp only [rcT_22]
theorem okR_22 : okW 2147483649 = true := okW_of (by omega) (by omega)
theorem ntR_23 : nt 9223372039002292232 = rcw 23 := by rw [rcw_eq]; simp only [rcT_23]
theorem okR_23 : okW 9223372039002292232 = true := okW_of (by omega) (by omega)
noncomputable def mixN0 : Nat → K25 → K25
  | 0, A => A
  | k + 1, A => rnd (mixN0 k A) (rcw k)
noncomputable def mixN : Nat → K25 → K25 := Classical.choose (⟨mixN0, rfl⟩ : ∃ y : Nat → K25 → K25, y = mixN0)
theorem mixN_eq : mixN = mixN0 := Classical.choose_spec (⟨mixN0, rfl⟩ : ∃ y : Nat → K25 → K25, y = mixN0)
theorem mixN_0 (A : K25) : mixN 0 A = A := by rw [mixN_eq]; rfl
theorem mixN_succ (k : Nat) (A : K25) : rnd (mixN k A) (rcw k) = mixN (k + 1) A := by rw [mixN_eq]; rfl
theorem mixN_1 (A : K25) : rnd A (rcw 0) = mixN 1 A := by rw [← mixN_succ, mixN_0]
theorem mixN_cut (k : Nat) (A : K25) : mixN (k + 1) (cut A) = mixN (k + 1) A := by
  induction k with
  | zero => rw [← mixN_succ, ← mixN_succ, mixN_0, mixN_0, rnd_cut]
  | succ k ih => rw [← mixN_succ, ih, mixN_succ]
theorem foldM (k : Nat) (A : K25) : Value.agg #[.int .u64 (tn (mixN k A 0)), .int .u64 (tn (mixN k A 1)), .int .u64 (tn (mixN k A 2)), .int .u64 (tn (mixN k A 3)), .int .u64 (tn (mixN k A 4)), .int .u64 (tn (mixN k A 5)), .int .u64 (tn (mixN k A 6)), .int .u64 (tn (mixN k A 7)), .int .u64 (tn (mixN k A 8)), .int .u64 (tn (mixN k A 9)), .int .u64 (tn (mixN k A 10)), .int .u64 (tn (mixN k A 11)), .int .u64 (tn (mixN k A 12)), .int .u64 (tn (mixN k A 13)), .int .u64 (tn (mixN k A 14)), .int .u64 (tn (mixN k A 15)), .int .u64 (tn (mixN k A 16)), .int .u64 (tn (mixN k A 17)), .int .u64 (tn (mixN k A 18)), .int .u64 (tn (mixN k A 19)), .int .u64 (tn (mixN k A 20)), .int .u64 (tn (mixN k A 21)), .int .u64 (tn (mixN k A 22)), .int .u64 (tn (mixN k A 23)), .int .u64 (tn (mixN k A 24))] = kV (mixN k A) := rfl
theorem stR_0 (A : K25) : rnd A (nt 1) = mixN 1 A := by rw [ntR_0, mixN_1]
theorem stR_1 (A : K25) : rnd (mixN 1 A) (nt 32898) = mixN 2 A := by rw [ntR_1, mixN_succ]
theorem stR_2 (A : K25) : rnd (mixN 2 A) (nt 9223372036854808714) = mixN 3 A := by rw [ntR_2, mixN_succ]
theorem stR_3 (A : K25) : rnd (mixN 3 A) (nt 9223372039002292224) = mixN 4 A := by rw [ntR_3, mixN_succ]
theorem stR_4 (A : K25) : rnd (mixN 4 A) (nt 32907) = mixN 5 A := by rw [ntR_4, mixN_succ]
theorem stR_5 (A : K25) : rnd (mixN 5 A) (nt 2147483649) = mixN 6 A := by rw [ntR_5, mixN_succ]
theorem stR_6 (A : K25) : rnd (mixN 6 A) (nt 9223372039002292353) = mixN 7 A := by rw [ntR_6, mixN_succ]
theorem stR_7 (A : K25) : rnd (mixN 7 A) (nt 9223372036854808585) = mixN 8 A := by rw [ntR_7, mixN_succ]
theorem stR_8 (A : K25) : rnd (mixN 8 A) (nt 138) = mixN 9 A := by rw [ntR_8, mixN_succ]
theorem stR_9 (A : K25) : rnd (mixN 9 A) (nt 136) = mixN 10 A := by rw [ntR_9, mixN_succ]
theorem stR_10 (A : K25) : rnd (mixN 10 A) (nt 2147516425) = mixN 11 A := by rw [ntR_10, mixN_succ]
theorem stR_11 (A : K25) : rnd (mixN 11 A) (nt 2147483658) = mixN 12 A := by rw [ntR_11, mixN_succ]
theorem stR_12 (A : K25) : rnd (mixN 12 A) (nt 2147516555) = mixN 13 A := by rw [ntR_12, mixN_succ]
theorem stR_13 (A : K25) : rnd (mixN 13 A) (nt 9223372036854775947) = mixN 14 A := by rw [ntR_13, mixN_succ]
theorem stR_14 (A : K25) : rnd (mixN 14 A) (nt 9223372036854808713) = mixN 15 A := by rw [ntR_14, mixN_succ]
theorem stR_15 (A : K25) : rnd (mixN 15 A) (nt 9223372036854808579) = mixN 16 A := by rw [ntR_15, mixN_succ]
theorem stR_16 (A : K25) : rnd (mixN 16 A) (nt 9223372036854808578) = mixN 17 A := by rw [ntR_16, mixN_succ]
theorem stR_17 (A : K25) : rnd (mixN 17 A) (nt 9223372036854775936) = mixN 18 A := by rw [ntR_17, mixN_succ]
theorem stR_18 (A : K25) : rnd (mixN 18 A) (nt 32778) = mixN 19 A := by rw [ntR_18, mixN_succ]
theorem stR_19 (A : K25) : rnd (mixN 19 A) (nt 9223372039002259466) = mixN 20 A := by rw [ntR_19, mixN_succ]
theorem stR_20 (A : K25) : rnd (mixN 20 A) (nt 9223372039002292353) = mixN 21 A := by rw [ntR_20, mixN_succ]
theorem stR_21 (A : K25) : rnd (mixN 21 A) (nt 9223372036854808704) = mixN 22 A := by rw [ntR_21, mixN_succ]
theorem stR_22 (A : K25) : rnd (mixN 22 A) (nt 2147483649) = mixN 23 A := by rw [ntR_22, mixN_succ]
theorem stR_23 (A : K25) : rnd (mixN 23 A) (nt 9223372039002292232) = mixN 24 A := by rw [ntR_23, mixN_succ]

/-! ### The document's -/
noncomputable def turnG : List DV → Option RV
  | [.pl (.int .i64 x), .pl (.int .i64 y)] => if 0 ≤ x ∧ x < 5 ∧ 0 ≤ y ∧ y < 5 then some (.one (.pl (.int .i64 (byT (x.toNat + 5 * y.toNat) : Nat)))) else none
  | _ => none

set_option maxHeartbeats 400000000 in
theorem turn_ok : ∀ ds r, turnG ds = some r → Spec Try.prog 22 ds r := by
  intro ds r h
  unfold turnG at h
  split at h
  case h_2 => cases h
  rename_i x y
  split at h
  case isFalse => cases h
  rename_i hc
  cases h
  have hΓ : Env.ok [] Try.prog := ok_nil _
  have hx : x = 0 ∨ x = 1 ∨ x = 2 ∨ x = 3 ∨ x = 4 := by omega
  have hy : y = 0 ∨ y = 1 ∨ y = 2 ∨ y = 3 ∨ y = 4 := by omega
  clear hc
  rcases hx with rfl | rfl | rfl | rfl | rfl <;> rcases hy with rfl | rfl | rfl | rfl | rfl
  all_goals
    refine Spec.of_vx hΓ follows_mixed Try.func22 rfl (by kernel_rfl) (T := []) (by simp [Try.ntmps22]) (by kernel_rfl) rfl Try.ntmps22 (res := [.tmp 4]) rfl ?_
    intro W
    simp -implicitDefEqProofs (maxSteps := 100000000) only [vy_succ, vy_zero, vx_skip, vx_reg0, vx_reg1, vx_ord, xx_done, xx_stop, xx_alt, vx_seq, vx_cond, vx_block, vx_exit, vx_ret, vx_loop, gx_nil, gx_cons, dx_nil, dx_cons, slim, slimOp, gO, gSO, qSO, quietOp, cx_nil, cx_cons, xx_alc, cS, qSB, eK, calmOp, guardS, gK, qK, putK, plK, dOk, St.ev, St.get, St.mem, St.set, St.setm, St.put, lookA, look, newK, nextver, initT, seqE, blockQ, bodyQ, resK, retV, AV.rdv, cells_agg, cells_int, cells_bool, cells_string, cells_slice, cells_uV, agg_uV, isNil_uV, toN_uV, i64_in, IntKind.wrap_u64, IntKind.wrap_u8, IntKind.wrap_u32, ↓binK, ↓intK, unK, ↓loadK, ↓withKey_eq, ↓idxAddrK, ↓indexK, ↓partK, ↓fieldK, ↓fieldAddrK, ↓convK, ↓callK, wrG, updK, ↓lenK, ↓mmK, ↓appK, ↓copyK, ↓sliceK, ↓toArrK, nilK, optK_some, optK_tup, optK_ite, evs, plains, seqParts, capsOf, capsD, List.append_nil, List.nil_append, List.cons_append, AV.dv, AV.cont, isNil_agg, isNil_int, isNil_bool, isNil_string, isNil_nil, isNil_slice, ↓buildV_eq, fillL, placesOf, Option.map_some, Option.map_none, ↓storeK, wrL, RV.av, DV.av, List.set, List.map_cons, List.map_nil, List.length_cons, List.length_nil, List.all_cons, List.all_nil, List.getElem?_cons_zero, List.getElem?_cons_succ, List.getElem?_nil, List.size_toArray, List.getElem?_toArray, List.drop_zero, List.drop_succ_cons, List.take_zero, List.take_succ_cons, Option.getD_some, Option.getD_none, Option.some.injEq, Option.isSome_some, Nat.reduceEqDiff, Nat.reduceAdd, Nat.reduceSub, Nat.reduceMul, Nat.reduceLT, Nat.reduceLeDiff, Nat.reduceMod, Nat.reduceDiv, Int.cast_ofNat_Int, Int.reduceLT, Int.reduceLE, Int.reduceToNat, ↓reduceIte, true_and, and_true, true_or, or_true, or_false, false_or, reduceCtorEq, Bool.false_eq_true, Bool.and_true, Bool.not_true, Bool.not_false, beq_self_eq_true, Bool.true_beq, Bool.false_beq, Value.oneCell', decide_true, decide_false, Int.reduceAdd, Int.reduceSub, Int.reduceMod, Int.reduceMul, Int.reduceNeg, Int.reduceBEq, Int.reduceBNe, Int.reduceTDiv, Int.reduceTMod, ne_eq, not_false_eq_true, not_true_eq_false, Int.reduceEq, Nat.zero_add, Nat.add_zero, Nat.le_refl, Try.underlying2, s_2, g_2, z_2, Try.underlying3, s_3, g_3, z_3, Try.underlying4, s_4, g_4, z_4, Try.underlying5, s_5, g_5, z_5, Try.underlying9, s_9, g_9, z_9, Try.underlying12, s_12, g_12, z_12, Try.underlying13, s_13, g_13, z_13, q_13, Try.underlying21, s_21, g_21, z_21, Try.underlying25, s_25, g_25, z_25, Try.underlying26, s_26, g_26, z_26, q_26, Try.underlying32, s_32, g_32, l_32, r_32, Try.underlying34, s_34, g_34, z_34, Try.underlying35, s_35, g_35, z_35, q_35, Try.underlying38, s_38, g_38, z_38, q_38, Try.underlying42, s_42, g_42, l_42, r_42, Try.underlying44, s_44, g_44, z_44, q_44, Try.underlying57, s_57, g_57, l_57, r_57, Try.underlying69, s_69, g_69, z_69]
    refine VT_rounds hΓ follows_mixed 25 ?_
    simp -implicitDefEqProofs (maxSteps := 100000000) only [vy_succ, vy_zero, vx_skip, vx_reg0, vx_reg1, vx_ord, xx_done, xx_stop, xx_alt, vx_seq, vx_cond, vx_block, vx_exit, vx_ret, vx_loop, gx_nil, gx_cons, dx_nil, dx_cons, slim, slimOp, gO, gSO, qSO, quietOp, cx_nil, cx_cons, xx_alc, cS, qSB, eK, calmOp, guardS, gK, qK, putK, plK, dOk, St.ev, St.get, St.mem, St.set, St.setm, St.put, lookA, look, newK, nextver, initT, seqE, blockQ, bodyQ, resK, retV, AV.rdv, cells_agg, cells_int, cells_bool, cells_string, cells_slice, cells_uV, agg_uV, isNil_uV, toN_uV, i64_in, IntKind.wrap_u64, IntKind.wrap_u8, IntKind.wrap_u32, ↓binK, ↓intK, unK, ↓loadK, ↓withKey_eq, ↓idxAddrK, ↓indexK, ↓partK, ↓fieldK, ↓fieldAddrK, ↓convK, ↓callK, wrG, updK, ↓lenK, ↓mmK, ↓appK, ↓copyK, ↓sliceK, ↓toArrK, nilK, optK_some, optK_tup, optK_ite, evs, plains, seqParts, capsOf, capsD, List.append_nil, List.nil_append, List.cons_append, AV.dv, AV.cont, isNil_agg, isNil_int, isNil_bool, isNil_string, isNil_nil, isNil_slice, ↓buildV_eq, fillL, placesOf, Option.map_some, Option.map_none, ↓storeK, wrL, RV.av, DV.av, List.set, List.map_cons, List.map_nil, List.length_cons, List.length_nil, List.all_cons, List.all_nil, List.getElem?_cons_zero, List.getElem?_cons_succ, List.getElem?_nil, List.size_toArray, List.getElem?_toArray, List.drop_zero, List.drop_succ_cons, List.take_zero, List.take_succ_cons, Option.getD_some, Option.getD_none, Option.some.injEq, Option.isSome_some, Nat.reduceEqDiff, Nat.reduceAdd, Nat.reduceSub, Nat.reduceMul, Nat.reduceLT, Nat.reduceLeDiff, Nat.reduceMod, Nat.reduceDiv, Int.cast_ofNat_Int, Int.reduceLT, Int.reduceLE, Int.reduceToNat, ↓reduceIte, true_and, and_true, true_or, or_true, or_false, false_or, reduceCtorEq, Bool.false_eq_true, Bool.and_true, Bool.not_true, Bool.not_false, beq_self_eq_true, Bool.true_beq, Bool.false_beq, Value.oneCell', decide_true, decide_false, Int.reduceAdd, Int.reduceSub, Int.reduceMod, Int.reduceMul, Int.reduceNeg, Int.reduceBEq, Int.reduceBNe, Int.reduceTDiv, Int.reduceTMod, ne_eq, not_false_eq_true, not_true_eq_false, Int.reduceEq, Nat.zero_add, Nat.add_zero, Nat.le_refl, Try.underlying2, s_2, g_2, z_2, Try.underlying3, s_3, g_3, z_3, Try.underlying4, s_4, g_4, z_4, Try.underlying5, s_5, g_5, z_5, Try.underlying9, s_9, g_9, z_9, Try.underlying12, s_12, g_12, z_12, Try.underlying13, s_13, g_13, z_13, q_13, Try.underlying21, s_21, g_21, z_21, Try.underlying25, s_25, g_25, z_25, Try.underlying26, s_26, g_26, z_26, q_26, Try.underlying32, s_32, g_32, l_32, r_32, Try.underlying34, s_34, g_34, z_34, Try.underlying35, s_35, g_35, z_35, q_35, Try.underlying38, s_38, g_38, z_38, q_38, Try.underlying42, s_42, g_42, l_42, r_42, Try.underlying44, s_44, g_44, z_44, q_44, Try.underlying57, s_57, g_57, l_57, r_57, Try.underlying69, s_69, g_69, z_69, byT_0, byT_1, byT_2, byT_3, byT_4, byT_5, byT_6, byT_7, byT_8, byT_9, byT_10, byT_11, byT_12, byT_13, byT_14, byT_15, byT_16, byT_17, byT_18, byT_19, byT_20, byT_21, byT_22, byT_23, byT_24, Int.cast_ofNat_Int]

noncomputable def rowL : List Value := Classical.choose (⟨[.int .i64 1, .int .i64 0, .int .i64 0, .int .i64 0, .int .i64 0, .int .i64 0, .int .i64 0, .int .i64 0, .int .i64 1, .int .i64 0, .int .i64 1, .int .i64 1, .int .i64 0, .int .i64 0, .int .i64 0, .int .i64 1, .int .i64 1, .int .i64 1, .int .i64 1, .int .i64 0, .int .i64 1, .int .i64 0, .int .i64 0, .int .i64 0, .int .i64 0, .int .i64 1, .int .i64 1, .int .i64 1, .int .i64 1, .int .i64 1, .int .i64 1, .int .i64 1, .int .i64 1, .int .i64 0, .int .i64 0, .int .i64 1, .int .i64 0, .int .i64 0, .int .i64 0, .int .i64 0, .int .i64 1, .int .i64 0, .int .i64 1, .int .i64 0, .int .i64 0, .int .i64 1, .int .i64 1, .int .i64 1, .int .i64 1, .int .i64 1, .int .i64 0, .int .i64 1, .int .i64 0, .int .i64 1, .int .i64 0, .int .i64 1, .int .i64 0, .int .i64 1, .int .i64 1, .int .i64 1, .int .i64 0, .int .i64 0, .int .i64 0, .int .i64 0, .int .i64 0, .int .i64 1, .int .i64 1, .int .i64 0, .int .i64 0, .int .i64 0, .int .i64 1, .int .i64 0, .int .i64 1, .int .i64 0, .int .i64 1, .int .i64 1, .int .i64 0, .int .i64 0, .int .i64 1, .int .i64 1, .int .i64 0, .int .i64 0, .int .i64 1, .int .i64 0, .int .i64 1, .int .i64 1, .int .i64 1, .int .i64 1, .int .i64 1, .int .i64 1, .int .i64 0, .int .i64 1, .int .i64 1, .int .i64 1, .int .i64 1, .int .i64 0, .int .i64 0, .int .i64 1, .int .i64 1, .int .i64 0, .int .i64 1, .int .i64 1, .int .i64 1, .int .i64 0, .int .i64 1, .int .i64 1, .int .i64 1, .int .i64 0, .int .i64 0, .int .i64 1, .int .i64 0, .int .i64 1, .int .i64 0, .int .i64 1, .int .i64 0, .int .i64 0, .int .i64 1, .int .i64 0, .int .i64 1, .int .i64 0, .int .i64 0, .int .i64 0, .int .i64 1, .int .i64 0, .int .i64 0, .int .i64 1, .int .i64 0, .int .i64 1, .int .i64 1, .int .i64 0, .int .i64 1, .int .i64 0, .int .i64 0, .int .i64 0, .int .i64 1, .int .i64 1, .int .i64 0, .int .i64 0, .int .i64 1, .int .i64 1, .int .i64 1, .int .i64 0, .int .i64 0, .int .i64 1, .int .i64 1, .int .i64 1, .int .i64 1, .int .i64 0, .int .i64 0, .int .i64 0, .int .i64 1, .int .i64 1, .int .i64 0, .int .i64 1, .int .i64 1, .int .i64 0, .int .i64 0, .int .i64 0, .int .i64 0, .int .i64 1, .int .i64 0, .int .i64 0, .int .i64 0, .int .i64 1, .int .i64 0, .int .i64 1, .int .i64 1, .int .i64 1], rfl⟩ : ∃ y : List Value, y = [.int .i64 1, .int .i64 0, .int .i64 0, .int .i64 0, .int .i64 0, .int .i64 0, .int .i64 0, .int .i64 0, .int .i64 1, .int .i64 0, .int .i64 1, .int .i64 1, .int .i64 0, .int .i64 0, .int .i64 0, .int .i64 1, .int .i64 1, .int .i64 1, .int .i64 1, .int .i64 0, .int .i64 1, .int .i64 0, .int .i64 0, .int .i64 0, .int .i64 0, .int .i64 1, .int .i64 1, .int .i64 1, .int .i64 1, .int .i64 1, .int .i64 1, .int .i64 1, .int .i64 1, .int .i64 0, .int .i64 0, .int .i64 1, .int .i64 0, .int .i64 0, .int .i64 0, .int .i64 0, .int .i64 1, .int .i64 0, .int .i64 1, .int .i64 0, .int .i64 0, .int .i64 1, .int .i64 1, .int .i64 1, .int .i64 1, .int .i64 1, .int .i64 0, .int .i64 1, .int .i64 0, .int .i64 1, .int .i64 0, .int .i64 1, .int .i64 0, .int .i64 1, .int .i64 1, .int .i64 1, .int .i64 0, .int .i64 0, .int .i64 0, .int .i64 0, .int .i64 0, .int .i64 1, .int .i64 1, .int .i64 0, .int .i64 0, .int .i64 0, .int .i64 1, .int .i64 0, .int .i64 1, .int .i64 0, .int .i64 1, .int .i64 1, .int .i64 0, .int .i64 0, .int .i64 1, .int .i64 1, .int .i64 0, .int .i64 0, .int .i64 1, .int .i64 0, .int .i64 1, .int .i64 1, .int .i64 1, .int .i64 1, .int .i64 1, .int .i64 1, .int .i64 0, .int .i64 1, .int .i64 1, .int .i64 1, .int .i64 1, .int .i64 0, .int .i64 0, .int .i64 1, .int .i64 1, .int .i64 0, .int .i64 1, .int .i64 1, .int .i64 1, .int .i64 0, .int .i64 1, .int .i64 1, .int .i64 1, .int .i64 0, .int .i64 0, .int .i64 1, .int .i64 0, .int .i64 1, .int .i64 0, .int .i64 1, .int .i64 0, .int .i64 0, .int .i64 1, .int .i64 0, .int .i64 1, .int .i64 0, .int .i64 0, .int .i64 0, .int .i64 1, .int .i64 0, .int .i64 0, .int .i64 1, .int .i64 0, .int .i64 1, .int .i64 1, .int .i64 0, .int .i64 1, .int .i64 0, .int .i64 0, .int .i64 0, .int .i64 1, .int .i64 1, .int .i64 0, .int .i64 0, .int .i64 1, .int .i64 1, .int .i64 1, .int .i64 0, .int .i64 0, .int .i64 1, .int .i64 1, .int .i64 1, .int .i64 1, .int .i64 0, .int .i64 0, .int .i64 0, .int .i64 1, .int .i64 1, .int .i64 0, .int .i64 1, .int .i64 1, .int .i64 0, .int .i64 0, .int .i64 0, .int .i64 0, .int .i64 1, .int .i64 0, .int .i64 0, .int .i64 0, .int .i64 1, .int .i64 0, .int .i64 1, .int .i64 1, .int .i64 1])
theorem rowL_eq : rowL = [.int .i64 1, .int .i64 0, .int .i64 0, .int .i64 0, .int .i64 0, .int .i64 0, .int .i64 0, .int .i64 0, .int .i64 1, .int .i64 0, .int .i64 1, .int .i64 1, .int .i64 0, .int .i64 0, .int .i64 0, .int .i64 1, .int .i64 1, .int .i64 1, .int .i64 1, .int .i64 0, .int .i64 1, .int .i64 0, .int .i64 0, .int .i64 0, .int .i64 0, .int .i64 1, .int .i64 1, .int .i64 1, .int .i64 1, .int .i64 1, .int .i64 1, .int .i64 1, .int .i64 1, .int .i64 0, .int .i64 0, .int .i64 1, .int .i64 0, .int .i64 0, .int .i64 0, .int .i64 0, .int .i64 1, .int .i64 0, .int .i64 1, .int .i64 0, .int .i64 0, .int .i64 1, .int .i64 1, .int .i64 1, .int .i64 1, .int .i64 1, .int .i64 0, .int .i64 1, .int .i64 0, .int .i64 1, .int .i64 0, .int .i64 1, .int .i64 0, .int .i64 1, .int .i64 1, .int .i64 1, .int .i64 0, .int .i64 0, .int .i64 0, .int .i64 0, .int .i64 0, .int .i64 1, .int .i64 1, .int .i64 0, .int .i64 0, .int .i64 0, .int .i64 1, .int .i64 0, .int .i64 1, .int .i64 0, .int .i64 1, .int .i64 1, .int .i64 0, .int .i64 0, .int .i64 1, .int .i64 1, .int .i64 0, .int .i64 0, .int .i64 1, .int .i64 0, .int .i64 1, .int .i64 1, .int .i64 1, .int .i64 1, .int .i64 1, .int .i64 1, .int .i64 0, .int .i64 1, .int .i64 1, .int .i64 1, .int .i64 1, .int .i64 0, .int .i64 0, .int .i64 1, .int .i64 1, .int .i64 0, .int .i64 1, .int .i64 1, .int .i64 1, .int .i64 0, .int .i64 1, .int .i64 1, .int .i64 1, .int .i64 0, .int .i64 0, .int .i64 1, .int .i64 0, .int .i64 1, .int .i64 0, .int .i64 1, .int .i64 0, .int .i64 0, .int .i64 1, .int .i64 0, .int .i64 1, .int .i64 0, .int .i64 0, .int .i64 0, .int .i64 1, .int .i64 0, .int .i64 0, .int .i64 1, .int .i64 0, .int .i64 1, .int .i64 1, .int .i64 0, .int .i64 1, .int .i64 0, .int .i64 0, .int .i64 0, .int .i64 1, .int .i64 1, .int .i64 0, .int .i64 0, .int .i64 1, .int .i64 1, .int .i64 1, .int .i64 0, .int .i64 0, .int .i64 1, .int .i64 1, .int .i64 1, .int .i64 1, .int .i64 0, .int .i64 0, .int .i64 0, .int .i64 1, .int .i64 1, .int .i64 0, .int .i64 1, .int .i64 1, .int .i64 0, .int .i64 0, .int .i64 0, .int .i64 0, .int .i64 1, .int .i64 0, .int .i64 0, .int .i64 0, .int .i64 1, .int .i64 0, .int .i64 1, .int .i64 1, .int .i64 1] := Classical.choose_spec (⟨[.int .i64 1, .int .i64 0, .int .i64 0, .int .i64 0, .int .i64 0, .int .i64 0, .int .i64 0, .int .i64 0, .int .i64 1, .int .i64 0, .int .i64 1, .int .i64 1, .int .i64 0, .int .i64 0, .int .i64 0, .int .i64 1, .int .i64 1, .int .i64 1, .int .i64 1, .int .i64 0, .int .i64 1, .int .i64 0, .int .i64 0, .int .i64 0, .int .i64 0, .int .i64 1, .int .i64 1, .int .i64 1, .int .i64 1, .int .i64 1, .int .i64 1, .int .i64 1, .int .i64 1, .int .i64 0, .int .i64 0, .int .i64 1, .int .i64 0, .int .i64 0, .int .i64 0, .int .i64 0, .int .i64 1, .int .i64 0, .int .i64 1, .int .i64 0, .int .i64 0, .int .i64 1, .int .i64 1, .int .i64 1, .int .i64 1, .int .i64 1, .int .i64 0, .int .i64 1, .int .i64 0, .int .i64 1, .int .i64 0, .int .i64 1, .int .i64 0, .int .i64 1, .int .i64 1, .int .i64 1, .int .i64 0, .int .i64 0, .int .i64 0, .int .i64 0, .int .i64 0, .int .i64 1, .int .i64 1, .int .i64 0, .int .i64 0, .int .i64 0, .int .i64 1, .int .i64 0, .int .i64 1, .int .i64 0, .int .i64 1, .int .i64 1, .int .i64 0, .int .i64 0, .int .i64 1, .int .i64 1, .int .i64 0, .int .i64 0, .int .i64 1, .int .i64 0, .int .i64 1, .int .i64 1, .int .i64 1, .int .i64 1, .int .i64 1, .int .i64 1, .int .i64 0, .int .i64 1, .int .i64 1, .int .i64 1, .int .i64 1, .int .i64 0, .int .i64 0, .int .i64 1, .int .i64 1, .int .i64 0, .int .i64 1, .int .i64 1, .int .i64 1, .int .i64 0, .int .i64 1, .int .i64 1, .int .i64 1, .int .i64 0, .int .i64 0, .int .i64 1, .int .i64 0, .int .i64 1, .int .i64 0, .int .i64 1, .int .i64 0, .int .i64 0, .int .i64 1, .int .i64 0, .int .i64 1, .int .i64 0, .int .i64 0, .int .i64 0, .int .i64 1, .int .i64 0, .int .i64 0, .int .i64 1, .int .i64 0, .int .i64 1, .int .i64 1, .int .i64 0, .int .i64 1, .int .i64 0, .int .i64 0, .int .i64 0, .int .i64 1, .int .i64 1, .int .i64 0, .int .i64 0, .int .i64 1, .int .i64 1, .int .i64 1, .int .i64 0, .int .i64 0, .int .i64 1, .int .i64 1, .int .i64 1, .int .i64 1, .int .i64 0, .int .i64 0, .int .i64 0, .int .i64 1, .int .i64 1, .int .i64 0, .int .i64 1, .int .i64 1, .int .i64 0, .int .i64 0, .int .i64 0, .int .i64 0, .int .i64 1, .int .i64 0, .int .i64 0, .int .i64 0, .int .i64 1, .int .i64 0, .int .i64 1, .int .i64 1, .int .i64 1], rfl⟩ : ∃ y : List Value, y = [.int .i64 1, .int .i64 0, .int .i64 0, .int .i64 0, .int .i64 0, .int .i64 0, .int .i64 0, .int .i64 0, .int .i64 1, .int .i64 0, .int .i64 1, .int .i64 1, .int .i64 0, .int .i64 0, .int .i64 0, .int .i64 1, .int .i64 1, .int .i64 1, .int .i64 1, .int .i64 0, .int .i64 1, .int .i64 0, .int .i64 0, .int .i64 0, .int .i64 0, .int .i64 1, .int .i64 1, .int .i64 1, .int .i64 1, .int .i64 1, .int .i64 1, .int .i64 1, .int .i64 1, .int .i64 0, .int .i64 0, .int .i64 1, .int .i64 0, .int .i64 0, .int .i64 0, .int .i64 0, .int .i64 1, .int .i64 0, .int .i64 1, .int .i64 0, .int .i64 0, .int .i64 1, .int .i64 1, .int .i64 1, .int .i64 1, .int .i64 1, .int .i64 0, .int .i64 1, .int .i64 0, .int .i64 1, .int .i64 0, .int .i64 1, .int .i64 0, .int .i64 1, .int .i64 1, .int .i64 1, .int .i64 0, .int .i64 0, .int .i64 0, .int .i64 0, .int .i64 0, .int .i64 1, .int .i64 1, .int .i64 0, .int .i64 0, .int .i64 0, .int .i64 1, .int .i64 0, .int .i64 1, .int .i64 0, .int .i64 1, .int .i64 1, .int .i64 0, .int .i64 0, .int .i64 1, .int .i64 1, .int .i64 0, .int .i64 0, .int .i64 1, .int .i64 0, .int .i64 1, .int .i64 1, .int .i64 1, .int .i64 1, .int .i64 1, .int .i64 1, .int .i64 0, .int .i64 1, .int .i64 1, .int .i64 1, .int .i64 1, .int .i64 0, .int .i64 0, .int .i64 1, .int .i64 1, .int .i64 0, .int .i64 1, .int .i64 1, .int .i64 1, .int .i64 0, .int .i64 1, .int .i64 1, .int .i64 1, .int .i64 0, .int .i64 0, .int .i64 1, .int .i64 0, .int .i64 1, .int .i64 0, .int .i64 1, .int .i64 0, .int .i64 0, .int .i64 1, .int .i64 0, .int .i64 1, .int .i64 0, .int .i64 0, .int .i64 0, .int .i64 1, .int .i64 0, .int .i64 0, .int .i64 1, .int .i64 0, .int .i64 1, .int .i64 1, .int .i64 0, .int .i64 1, .int .i64 0, .int .i64 0, .int .i64 0, .int .i64 1, .int .i64 1, .int .i64 0, .int .i64 0, .int .i64 1, .int .i64 1, .int .i64 1, .int .i64 0, .int .i64 0, .int .i64 1, .int .i64 1, .int .i64 1, .int .i64 1, .int .i64 0, .int .i64 0, .int .i64 0, .int .i64 1, .int .i64 1, .int .i64 0, .int .i64 1, .int .i64 1, .int .i64 0, .int .i64 0, .int .i64 0, .int .i64 0, .int .i64 1, .int .i64 0, .int .i64 0, .int .i64 0, .int .i64 1, .int .i64 0, .int .i64 1, .int .i64 1, .int .i64 1])
theorem rowL_len : rowL.length = 168 := by rw [rowL_eq]; rfl
theorem rowL_0 : rowL[0]? = some (.int .i64 1) := by rw [rowL_eq]; rfl
theorem rowL_1 : rowL[1]? = some (.int .i64 0) := by rw [rowL_eq]; rfl
theorem rowL_2 : rowL[2]? = some (.int .i64 0) := by rw [rowL_eq]; rfl
theorem rowL_3 : rowL[3]? = some (.int .i64 0) := by rw [rowL_eq]; rfl
theorem rowL_4 : rowL[4]? = some (.int .i64 0) := by rw [rowL_eq]; rfl
theorem rowL_5 : rowL[5]? = some (.int .i64 0) := by rw [rowL_eq]; rfl
theorem rowL_6 : rowL[6]? = some (.int .i64 0) := by rw [rowL_eq]; rfl
theorem rowL_7 : rowL[7]? = some (.int .i64 0) := by rw [rowL_eq]; rfl
theorem rowL_8 : rowL[8]? = some (.int .i64 1) := by rw [rowL_eq]; rfl
theorem rowL_9 : rowL[9]? = some (.int .i64 0) := by rw [rowL_eq]; rfl
theorem rowL_10 : rowL[10]? = some (.int .i64 1) := by rw [rowL_eq]; rfl
theorem rowL_11 : rowL[11]? = some (.int .i64 1) := by rw [rowL_eq]; rfl
theorem rowL_12 : rowL[12]? = some (.int .i64 0) := by rw [rowL_eq]; rfl
theorem rowL_13 : rowL[13]? = some (.int .i64 0) := by rw [rowL_eq]; rfl
theorem rowL_14 : rowL[14]? = some (.int .i64 0) := by rw [rowL_eq]; rfl
theorem rowL_15 : rowL[15]? = some (.int .i64 1) := by rw [rowL_eq]; rfl
theorem rowL_16 : rowL[16]? = some (.int .i64 1) := by rw [rowL_eq]; rfl
theorem rowL_17 : rowL[17]? = some (.int .i64 1) := by rw [rowL_eq]; rfl
theorem rowL_18 : rowL[18]? = some (.int .i64 1) := by rw [rowL_eq]; rfl
theorem rowL_19 : rowL[19]? = some (.int .i64 0) := by rw [rowL_eq]; rfl
theorem rowL_20 : rowL[20]? = some (.int .i64 1) := by rw [rowL_eq]; rfl
theorem rowL_21 : rowL[21]? = some (.int .i64 0) := by rw [rowL_eq]; rfl
theorem rowL_22 : rowL[22]? = some (.int .i64 0) := by rw [rowL_eq]; rfl
theorem rowL_23 : rowL[23]? = some (.int .i64 0) := by rw [rowL_eq]; rfl
theorem rowL_24 : rowL[24]? = some (.int .i64 0) := by rw [rowL_eq]; rfl
theorem rowL_25 : rowL[25]? = some (.int .i64 1) := by rw [rowL_eq]; rfl
theorem rowL_26 : rowL[26]? = some (.int .i64 1) := by rw [rowL_eq]; rfl
theorem rowL_27 : rowL[27]? = some (.int .i64 1) := by rw [rowL_eq]; rfl
theorem rowL_28 : rowL[28]? = some (.int .i64 1) := by rw [rowL_eq]; rfl
theorem rowL_29 : rowL[29]? = some (.int .i64 1) := by rw [rowL_eq]; rfl
theorem rowL_30 : rowL[30]? = some (.int .i64 1) := by rw [rowL_eq]; rfl
theorem rowL_31 : rowL[31]? = some (.int .i64 1) := by rw [rowL_eq]; rfl
theorem rowL_32 : rowL[32]? = some (.int .i64 1) := by rw [rowL_eq]; rfl
theorem rowL_33 : rowL[33]? = some (.int .i64 0) := by rw [rowL_eq]; rfl
theorem rowL_34 : rowL[34]? = some (.int .i64 0) := by rw [rowL_eq]; rfl
theorem rowL_35 : rowL[35]? = some (.int .i64 1) := by rw [rowL_eq]; rfl
theorem rowL_36 : rowL[36]? = some (.int .i64 0) := by rw [rowL_eq]; rfl
theorem rowL_37 : rowL[37]? = some (.int .i64 0) := by rw [rowL_eq]; rfl
theorem rowL_38 : rowL[38]? = some (.int .i64 0) := by rw [rowL_eq]; rfl
theorem rowL_39 : rowL[39]? = some (.int .i64 0) := by rw [rowL_eq]; rfl
theorem rowL_40 : rowL[40]? = some (.int .i64 1) := by rw [rowL_eq]; rfl
theorem rowL_41 : rowL[41]? = some (.int .i64 0) := by rw [rowL_eq]; rfl
theorem rowL_42 : rowL[42]? = some (.int .i64 1) := by rw [rowL_eq]; rfl
theorem rowL_43 : rowL[43]? = some (.int .i64 0) := by rw [rowL_eq]; rfl
theorem rowL_44 : rowL[44]? = some (.int .i64 0) := by rw [rowL_eq]; rfl
theorem rowL_45 : rowL[45]? = some (.int .i64 1) := by rw [rowL_eq]; rfl
theorem rowL_46 : rowL[46]? = some (.int .i64 1) := by rw [rowL_eq]; rfl
theorem rowL_47 : rowL[47]? = some (.int .i64 1) := by rw [rowL_eq]; rfl
theorem rowL_48 : rowL[48]? = some (.int .i64 1) := by rw [rowL_eq]; rfl
theorem rowL_49 : rowL[49]? = some (.int .i64 1) := by rw [rowL_eq]; rfl
theorem rowL_50 : rowL[50]? = some (.int .i64 0) := by rw [rowL_eq]; rfl
theorem rowL_51 : rowL[51]? = some (.int .i64 1) := by rw [rowL_eq]; rfl
theorem rowL_52 : rowL[52]? = some (.int .i64 0) := by rw [rowL_eq]; rfl
theorem rowL_53 : rowL[53]? = some (.int .i64 1) := by rw [rowL_eq]; rfl
theorem rowL_54 : rowL[54]? = some (.int .i64 0) := by rw [rowL_eq]; rfl
theorem rowL_55 : rowL[55]? = some (.int .i64 1) := by rw [rowL_eq]; rfl
theorem rowL_56 : rowL[56]? = some (.int .i64 0) := by rw [rowL_eq]; rfl
theorem rowL_57 : rowL[57]? = some (.int .i64 1) := by rw [rowL_eq]; rfl
theorem rowL_58 : rowL[58]? = some (.int .i64 1) := by rw [rowL_eq]; rfl
theorem rowL_59 : rowL[59]? = some (.int .i64 1) := by rw [rowL_eq]; rfl
theorem rowL_60 : rowL[60]? = some (.int .i64 0) := by rw [rowL_eq]; rfl
theorem rowL_61 : rowL[61]? = some (.int .i64 0) := by rw [rowL_eq]; rfl
theorem rowL_62 : rowL[62]? = some (.int .i64 0) := by rw [rowL_eq]; rfl
theorem rowL_63 : rowL[63]? = some (.int .i64 0) := by rw [rowL_eq]; rfl
theorem rowL_64 : rowL[64]? = some (.int .i64 0) := by rw [rowL_eq]; rfl
theorem rowL_65 : rowL[65]? = some (.int .i64 1) := by rw [rowL_eq]; rfl
theorem rowL_66 : rowL[66]? = some (.int .i64 1) := by rw [rowL_eq]; rfl
theorem rowL_67 : rowL[67]? = some (.int .i64 0) := by rw [rowL_eq]; rfl
theorem rowL_68 : rowL[68]? = some (.int .i64 0) := by rw [rowL_eq]; rfl
theorem rowL_69 : rowL[69]? = some (.int .i64 0) := by rw [rowL_eq]; rfl
theorem rowL_70 : rowL[70]? = some (.int .i64 1) := by rw [rowL_eq]; rfl
theorem rowL_71 : rowL[71]? = some (.int .i64 0) := by rw [rowL_eq]; rfl
theorem rowL_72 : rowL[72]? = some (.int .i64 1) := by rw [rowL_eq]; rfl
theorem rowL_73 : rowL[73]? = some (.int .i64 0) := by rw [rowL_eq]; rfl
theorem rowL_74 : rowL[74]? = some (.int .i64 1) := by rw [rowL_eq]; rfl
theorem rowL_75 : rowL[75]? = some (.int .i64 1) := by rw [rowL_eq]; rfl
theorem rowL_76 : rowL[76]? = some (.int .i64 0) := by rw [rowL_eq]; rfl
theorem rowL_77 : rowL[77]? = some (.int .i64 0) := by rw [rowL_eq]; rfl
theorem rowL_78 : rowL[78]? = some (.int .i64 1) := by rw [rowL_eq]; rfl
theorem rowL_79 : rowL[79]? = some (.int .i64 1) := by rw [rowL_eq]; rfl
theorem rowL_80 : rowL[80]? = some (.int .i64 0) := by rw [rowL_eq]; rfl
theorem rowL_81 : rowL[81]? = some (.int .i64 0) := by rw [rowL_eq]; rfl
theorem rowL_82 : rowL[82]? = some (.int .i64 1) := by rw [rowL_eq]; rfl
theorem rowL_83 : rowL[83]? = some (.int .i64 0) := by rw [rowL_eq]; rfl
theorem rowL_84 : rowL[84]? = some (.int .i64 1) := by rw [rowL_eq]; rfl
theorem rowL_85 : rowL[85]? = some (.int .i64 1) := by rw [rowL_eq]; rfl
theorem rowL_86 : rowL[86]? = some (.int .i64 1) := by rw [rowL_eq]; rfl
theorem rowL_87 : rowL[87]? = some (.int .i64 1) := by rw [rowL_eq]; rfl
theorem rowL_88 : rowL[88]? = some (.int .i64 1) := by rw [rowL_eq]; rfl
theorem rowL_89 : rowL[89]? = some (.int .i64 1) := by rw [rowL_eq]; rfl
theorem rowL_90 : rowL[90]? = some (.int .i64 0) := by rw [rowL_eq]; rfl
theorem rowL_91 : rowL[91]? = some (.int .i64 1) := by rw [rowL_eq]; rfl
theorem rowL_92 : rowL[92]? = some (.int .i64 1) := by rw [rowL_eq]; rfl
theorem rowL_93 : rowL[93]? = some (.int .i64 1) := by rw [rowL_eq]; rfl
theorem rowL_94 : rowL[94]? = some (.int .i64 1) := by rw [rowL_eq]; rfl
theorem rowL_95 : rowL[95]? = some (.int .i64 0) := by rw [rowL_eq]; rfl
theorem rowL_96 : rowL[96]? = some (.int .i64 0) := by rw [rowL_eq]; rfl
theorem rowL_97 : rowL[97]? = some (.int .i64 1) := by rw [rowL_eq]; rfl
theorem rowL_98 : rowL[98]? = some (.int .i64 1) := by rw [rowL_eq]; rfl
theorem rowL_99 : rowL[99]? = some (.int .i64 0) := by rw [rowL_eq]; rfl
theorem rowL_100 : rowL[100]? = some (.int .i64 1) := by rw [rowL_eq]; rfl
theorem rowL_101 : rowL[101]? = some (.int .i64 1) := by rw [rowL_eq]; rfl
theorem rowL_102 : rowL[102]? = some (.int .i64 1) := by rw [rowL_eq]; rfl
theorem rowL_103 : rowL[103]? = some (.int .i64 0) := by rw [rowL_eq]; rfl
theorem rowL_104 : rowL[104]? = some (.int .i64 1) := by rw [rowL_eq]; rfl
theorem rowL_105 : rowL[105]? = some (.int .i64 1) := by rw [rowL_eq]; rfl
theorem rowL_106 : rowL[106]? = some (.int .i64 1) := by rw [rowL_eq]; rfl
theorem rowL_107 : rowL[107]? = some (.int .i64 0) := by rw [rowL_eq]; rfl
theorem rowL_108 : rowL[108]? = some (.int .i64 0) := by rw [rowL_eq]; rfl
theorem rowL_109 : rowL[109]? = some (.int .i64 1) := by rw [rowL_eq]; rfl
theorem rowL_110 : rowL[110]? = some (.int .i64 0) := by rw [rowL_eq]; rfl
theorem rowL_111 : rowL[111]? = some (.int .i64 1) := by rw [rowL_eq]; rfl
theorem rowL_112 : rowL[112]? = some (.int .i64 0) := by rw [rowL_eq]; rfl
theorem rowL_113 : rowL[113]? = some (.int .i64 1) := by rw [rowL_eq]; rfl
theorem rowL_114 : rowL[114]? = some (.int .i64 0) := by rw [rowL_eq]; rfl
theorem rowL_115 : rowL[115]? = some (.int .i64 0) := by rw [rowL_eq]; rfl
theorem rowL_116 : rowL[116]? = some (.int .i64 1) := by rw [rowL_eq]; rfl
theorem rowL_117 : rowL[117]? = some (.int .i64 0) := by rw [rowL_eq]; rfl
theorem rowL_118 : rowL[118]? = some (.int .i64 1) := by rw [rowL_eq]; rfl
theorem rowL_119 : rowL[119]? = some (.int .i64 0) := by rw [rowL_eq]; rfl
theorem rowL_120 : rowL[120]? = some (.int .i64 0) := by rw [rowL_eq]; rfl
theorem rowL_121 : rowL[121]? = some (.int .i64 0) := by rw [rowL_eq]; rfl
theorem rowL_122 : rowL[122]? = some (.int .i64 1) := by rw [rowL_eq]; rfl
theorem rowL_123 : rowL[123]? = some (.int .i64 0) := by rw [rowL_eq]; rfl
theorem rowL_124 : rowL[124]? = some (.int .i64 0) := by rw [rowL_eq]; rfl
theorem rowL_125 : rowL[125]? = some (.int .i64 1) := by rw [rowL_eq]; rfl
theorem rowL_126 : rowL[126]? = some (.int .i64 0) := by rw [rowL_eq]; rfl
theorem rowL_127 : rowL[127]? = some (.int .i64 1) := by rw [rowL_eq]; rfl
theorem rowL_128 : rowL[128]? = some (.int .i64 1) := by rw [rowL_eq]; rfl
theorem rowL_129 : rowL[129]? = some (.int .i64 0) := by rw [rowL_eq]; rfl
theorem rowL_130 : rowL[130]? = some (.int .i64 1) := by rw [rowL_eq]; rfl
theorem rowL_131 : rowL[131]? = some (.int .i64 0) := by rw [rowL_eq]; rfl
theorem rowL_132 : rowL[132]? = some (.int .i64 0) := by rw [rowL_eq]; rfl
theorem rowL_133 : rowL[133]? = some (.int .i64 0) := by rw [rowL_eq]; rfl
theorem rowL_134 : rowL[134]? = some (.int .i64 1) := by rw [rowL_eq]; rfl
theorem rowL_135 : rowL[135]? = some (.int .i64 1) := by rw [rowL_eq]; rfl
theorem rowL_136 : rowL[136]? = some (.int .i64 0) := by rw [rowL_eq]; rfl
theorem rowL_137 : rowL[137]? = some (.int .i64 0) := by rw [rowL_eq]; rfl
theorem rowL_138 : rowL[138]? = some (.int .i64 1) := by rw [rowL_eq]; rfl
theorem rowL_139 : rowL[139]? = some (.int .i64 1) := by rw [rowL_eq]; rfl
theorem rowL_140 : rowL[140]? = some (.int .i64 1) := by rw [rowL_eq]; rfl
theorem rowL_141 : rowL[141]? = some (.int .i64 0) := by rw [rowL_eq]; rfl
theorem rowL_142 : rowL[142]? = some (.int .i64 0) := by rw [rowL_eq]; rfl
theorem rowL_143 : rowL[143]? = some (.int .i64 1) := by rw [rowL_eq]; rfl
theorem rowL_144 : rowL[144]? = some (.int .i64 1) := by rw [rowL_eq]; rfl
theorem rowL_145 : rowL[145]? = some (.int .i64 1) := by rw [rowL_eq]; rfl
theorem rowL_146 : rowL[146]? = some (.int .i64 1) := by rw [rowL_eq]; rfl
theorem rowL_147 : rowL[147]? = some (.int .i64 0) := by rw [rowL_eq]; rfl
theorem rowL_148 : rowL[148]? = some (.int .i64 0) := by rw [rowL_eq]; rfl
theorem rowL_149 : rowL[149]? = some (.int .i64 0) := by rw [rowL_eq]; rfl
theorem rowL_150 : rowL[150]? = some (.int .i64 1) := by rw [rowL_eq]; rfl
theorem rowL_151 : rowL[151]? = some (.int .i64 1) := by rw [rowL_eq]; rfl
theorem rowL_152 : rowL[152]? = some (.int .i64 0) := by rw [rowL_eq]; rfl
theorem rowL_153 : rowL[153]? = some (.int .i64 1) := by rw [rowL_eq]; rfl
theorem rowL_154 : rowL[154]? = some (.int .i64 1) := by rw [rowL_eq]; rfl
theorem rowL_155 : rowL[155]? = some (.int .i64 0) := by rw [rowL_eq]; rfl
theorem rowL_156 : rowL[156]? = some (.int .i64 0) := by rw [rowL_eq]; rfl
theorem rowL_157 : rowL[157]? = some (.int .i64 0) := by rw [rowL_eq]; rfl
theorem rowL_158 : rowL[158]? = some (.int .i64 0) := by rw [rowL_eq]; rfl
theorem rowL_159 : rowL[159]? = some (.int .i64 1) := by rw [rowL_eq]; rfl
theorem rowL_160 : rowL[160]? = some (.int .i64 0) := by rw [rowL_eq]; rfl
theorem rowL_161 : rowL[161]? = some (.int .i64 0) := by rw [rowL_eq]; rfl
theorem rowL_162 : rowL[162]? = some (.int .i64 0) := by rw [rowL_eq]; rfl
theorem rowL_163 : rowL[163]? = some (.int .i64 1) := by rw [rowL_eq]; rfl
theorem rowL_164 : rowL[164]? = some (.int .i64 0) := by rw [rowL_eq]; rfl
theorem rowL_165 : rowL[165]? = some (.int .i64 1) := by rw [rowL_eq]; rfl
theorem rowL_166 : rowL[166]? = some (.int .i64 1) := by rw [rowL_eq]; rfl
theorem rowL_167 : rowL[167]? = some (.int .i64 1) := by rw [rowL_eq]; rfl
theorem xr_256 : bits .xor .i64 256 369 = 113 := by decide +kernel
theorem xr_258 : bits .xor .i64 258 369 = 115 := by decide +kernel
theorem xr_260 : bits .xor .i64 260 369 = 117 := by decide +kernel
theorem xr_264 : bits .xor .i64 264 369 = 121 := by decide +kernel
theorem xr_272 : bits .xor .i64 272 369 = 97 := by decide +kernel
theorem xr_274 : bits .xor .i64 274 369 = 99 := by decide +kernel
theorem xr_276 : bits .xor .i64 276 369 = 101 := by decide +kernel
theorem xr_278 : bits .xor .i64 278 369 = 103 := by decide +kernel
theorem xr_280 : bits .xor .i64 280 369 = 105 := by decide +kernel
theorem xr_286 : bits .xor .i64 286 369 = 111 := by decide +kernel
theorem xr_288 : bits .xor .i64 288 369 = 81 := by decide +kernel
theorem xr_292 : bits .xor .i64 292 369 = 85 := by decide +kernel
theorem xr_296 : bits .xor .i64 296 369 = 89 := by decide +kernel
theorem xr_298 : bits .xor .i64 298 369 = 91 := by decide +kernel
theorem xr_302 : bits .xor .i64 302 369 = 95 := by decide +kernel
theorem xr_304 : bits .xor .i64 304 369 = 65 := by decide +kernel
theorem xr_308 : bits .xor .i64 308 369 = 69 := by decide +kernel
theorem xr_310 : bits .xor .i64 310 369 = 71 := by decide +kernel
theorem xr_312 : bits .xor .i64 312 369 = 73 := by decide +kernel
theorem xr_316 : bits .xor .i64 316 369 = 77 := by decide +kernel
theorem xr_318 : bits .xor .i64 318 369 = 79 := by decide +kernel
theorem xr_322 : bits .xor .i64 322 369 = 51 := by decide +kernel
theorem xr_324 : bits .xor .i64 324 369 = 53 := by decide +kernel
theorem xr_326 : bits .xor .i64 326 369 = 55 := by decide +kernel
theorem xr_330 : bits .xor .i64 330 369 = 59 := by decide +kernel
theorem xr_334 : bits .xor .i64 334 369 = 63 := by decide +kernel
theorem xr_336 : bits .xor .i64 336 369 = 33 := by decide +kernel
theorem xr_338 : bits .xor .i64 338 369 = 35 := by decide +kernel
theorem xr_340 : bits .xor .i64 340 369 = 37 := by decide +kernel
theorem xr_342 : bits .xor .i64 342 369 = 39 := by decide +kernel
theorem xr_350 : bits .xor .i64 350 369 = 47 := by decide +kernel
theorem xr_352 : bits .xor .i64 352 369 = 17 := by decide +kernel
theorem xr_354 : bits .xor .i64 354 369 = 19 := by decide +kernel
theorem xr_356 : bits .xor .i64 356 369 = 21 := by decide +kernel
theorem xr_362 : bits .xor .i64 362 369 = 27 := by decide +kernel
theorem xr_364 : bits .xor .i64 364 369 = 29 := by decide +kernel
theorem xr_366 : bits .xor .i64 366 369 = 31 := by decide +kernel
theorem xr_374 : bits .xor .i64 374 369 = 7 := by decide +kernel
theorem xr_376 : bits .xor .i64 376 369 = 9 := by decide +kernel
theorem xr_378 : bits .xor .i64 378 369 = 11 := by decide +kernel
theorem xr_380 : bits .xor .i64 380 369 = 13 := by decide +kernel
theorem xr_386 : bits .xor .i64 386 369 = 243 := by decide +kernel
theorem xr_388 : bits .xor .i64 388 369 = 245 := by decide +kernel
theorem xr_390 : bits .xor .i64 390 369 = 247 := by decide +kernel
theorem xr_396 : bits .xor .i64 396 369 = 253 := by decide +kernel
theorem xr_398 : bits .xor .i64 398 369 = 255 := by decide +kernel
theorem xr_402 : bits .xor .i64 402 369 = 227 := by decide +kernel
theorem xr_404 : bits .xor .i64 404 369 = 229 := by decide +kernel
theorem xr_408 : bits .xor .i64 408 369 = 233 := by decide +kernel
theorem xr_410 : bits .xor .i64 410 369 = 235 := by decide +kernel
theorem xr_412 : bits .xor .i64 412 369 = 237 := by decide +kernel
theorem xr_414 : bits .xor .i64 414 369 = 239 := by decide +kernel
theorem xr_416 : bits .xor .i64 416 369 = 209 := by decide +kernel
theorem xr_418 : bits .xor .i64 418 369 = 211 := by decide +kernel
theorem xr_420 : bits .xor .i64 420 369 = 213 := by decide +kernel
theorem xr_422 : bits .xor .i64 422 369 = 215 := by decide +kernel
theorem xr_424 : bits .xor .i64 424 369 = 217 := by decide +kernel
theorem xr_426 : bits .xor .i64 426 369 = 219 := by decide +kernel
theorem xr_430 : bits .xor .i64 430 369 = 223 := by decide +kernel
theorem xr_432 : bits .xor .i64 432 369 = 193 := by decide +kernel
theorem xr_434 : bits .xor .i64 434 369 = 195 := by decide +kernel
theorem xr_438 : bits .xor .i64 438 369 = 199 := by decide +kernel
theorem xr_440 : bits .xor .i64 440 369 = 201 := by decide +kernel
theorem xr_444 : bits .xor .i64 444 369 = 205 := by decide +kernel
theorem xr_446 : bits .xor .i64 446 369 = 207 := by decide +kernel
theorem xr_448 : bits .xor .i64 448 369 = 177 := by decide +kernel
theorem xr_452 : bits .xor .i64 452 369 = 181 := by decide +kernel
theorem xr_454 : bits .xor .i64 454 369 = 183 := by decide +kernel
theorem xr_458 : bits .xor .i64 458 369 = 187 := by decide +kernel
theorem xr_460 : bits .xor .i64 460 369 = 189 := by decide +kernel
theorem xr_464 : bits .xor .i64 464 369 = 161 := by decide +kernel
theorem xr_466 : bits .xor .i64 466 369 = 163 := by decide +kernel
theorem xr_468 : bits .xor .i64 468 369 = 165 := by decide +kernel
theorem xr_470 : bits .xor .i64 470 369 = 167 := by decide +kernel
theorem xr_472 : bits .xor .i64 472 369 = 169 := by decide +kernel
theorem xr_474 : bits .xor .i64 474 369 = 171 := by decide +kernel
theorem xr_478 : bits .xor .i64 478 369 = 175 := by decide +kernel
theorem xr_484 : bits .xor .i64 484 369 = 149 := by decide +kernel
theorem xr_486 : bits .xor .i64 486 369 = 151 := by decide +kernel
theorem xr_490 : bits .xor .i64 490 369 = 155 := by decide +kernel
theorem xr_494 : bits .xor .i64 494 369 = 159 := by decide +kernel
theorem xr_496 : bits .xor .i64 496 369 = 129 := by decide +kernel
theorem xr_504 : bits .xor .i64 504 369 = 137 := by decide +kernel
theorem xr_506 : bits .xor .i64 506 369 = 139 := by decide +kernel
theorem xr_510 : bits .xor .i64 510 369 = 143 := by decide +kernel
noncomputable def rowG : List DV → Option RV
  | [.pl (.int .i64 n)] => if n = 168 then some (.one (.vec rowL)) else none
  | _ => none
set_option maxHeartbeats 400000000 in
theorem row_ok : ∀ ds r, rowG ds = some r → Spec Try.prog 27 ds r := by
  intro ds r h
  unfold rowG at h
  split at h
  case h_2 => cases h
  rename_i n
  split at h
  case isFalse => cases h
  rename_i hc
  subst hc
  cases h
  have hΓ : Env.ok [] Try.prog := ok_nil _
  rw [rowL_eq]
  refine Spec.of_vx hΓ follows_mixed Try.func27 rfl (by kernel_rfl) (T := []) (by simp [Try.ntmps27]) (by kernel_rfl) rfl Try.ntmps27 (res := [.tmp 2]) rfl ?_
  intro W
  simp -implicitDefEqProofs (maxSteps := 100000000) only [vy_succ, vy_zero, vx_skip, vx_reg0, vx_reg1, vx_ord, xx_done, xx_stop, xx_alt, vx_seq, vx_cond, vx_block, vx_exit, vx_ret, vx_loop, gx_nil, gx_cons, dx_nil, dx_cons, slim, slimOp, gO, gSO, qSO, quietOp, cx_nil, cx_cons, xx_alc, cS, qSB, eK, calmOp, guardS, gK, qK, putK, plK, dOk, St.ev, St.get, St.mem, St.set, St.setm, St.put, lookA, look, newK, nextver, initT, seqE, blockQ, bodyQ, resK, retV, AV.rdv, cells_agg, cells_int, cells_bool, cells_string, cells_slice, cells_uV, agg_uV, isNil_uV, toN_uV, i64_in, IntKind.wrap_u64, IntKind.wrap_u8, IntKind.wrap_u32, ↓binK, ↓intK, unK, ↓loadK, ↓withKey_eq, ↓idxAddrK, ↓indexK, ↓partK, ↓fieldK, ↓fieldAddrK, ↓convK, ↓callK, wrG, updK, ↓lenK, ↓mmK, ↓appK, ↓copyK, ↓sliceK, ↓toArrK, nilK, optK_some, optK_tup, optK_ite, evs, plains, seqParts, capsOf, capsD, List.append_nil, List.nil_append, List.cons_append, AV.dv, AV.cont, isNil_agg, isNil_int, isNil_bool, isNil_string, isNil_nil, isNil_slice, ↓buildV_eq, fillL, placesOf, Option.map_some, Option.map_none, ↓storeK, wrL, RV.av, DV.av, List.set, List.map_cons, List.map_nil, List.length_cons, List.length_nil, List.all_cons, List.all_nil, List.getElem?_cons_zero, List.getElem?_cons_succ, List.getElem?_nil, List.size_toArray, List.getElem?_toArray, List.drop_zero, List.drop_succ_cons, List.take_zero, List.take_succ_cons, Option.getD_some, Option.getD_none, Option.some.injEq, Option.isSome_some, Nat.reduceEqDiff, Nat.reduceAdd, Nat.reduceSub, Nat.reduceMul, Nat.reduceLT, Nat.reduceLeDiff, Nat.reduceMod, Nat.reduceDiv, Int.cast_ofNat_Int, Int.reduceLT, Int.reduceLE, Int.reduceToNat, ↓reduceIte, true_and, and_true, true_or, or_true, or_false, false_or, reduceCtorEq, Bool.false_eq_true, Bool.and_true, Bool.not_true, Bool.not_false, beq_self_eq_true, Bool.true_beq, Bool.false_beq, Value.oneCell', decide_true, decide_false, Int.reduceAdd, Int.reduceSub, Int.reduceMod, Int.reduceMul, Int.reduceNeg, Int.reduceBEq, Int.reduceBNe, Int.reduceTDiv, Int.reduceTMod, ne_eq, not_false_eq_true, not_true_eq_false, Int.reduceEq, Nat.zero_add, Nat.add_zero, Nat.le_refl, Try.underlying2, s_2, g_2, z_2, Try.underlying3, s_3, g_3, z_3, Try.underlying4, s_4, g_4, z_4, Try.underlying5, s_5, g_5, z_5, Try.underlying9, s_9, g_9, z_9, Try.underlying12, s_12, g_12, z_12, Try.underlying13, s_13, g_13, z_13, q_13, Try.underlying21, s_21, g_21, z_21, Try.underlying25, s_25, g_25, z_25, Try.underlying26, s_26, g_26, z_26, q_26, Try.underlying32, s_32, g_32, l_32, r_32, Try.underlying34, s_34, g_34, z_34, Try.underlying35, s_35, g_35, z_35, q_35, Try.underlying38, s_38, g_38, z_38, q_38, Try.underlying42, s_42, g_42, l_42, r_42, Try.underlying44, s_44, g_44, z_44, q_44, Try.underlying57, s_57, g_57, l_57, r_57, Try.underlying69, s_69, g_69, z_69]
  refine VT_rounds hΓ follows_mixed 169 ?_
  simp -implicitDefEqProofs (maxSteps := 100000000) only [vy_succ, vy_zero, vx_skip, vx_reg0, vx_reg1, vx_ord, xx_done, xx_stop, xx_alt, vx_seq, vx_cond, vx_block, vx_exit, vx_ret, vx_loop, gx_nil, gx_cons, dx_nil, dx_cons, slim, slimOp, gO, gSO, qSO, quietOp, cx_nil, cx_cons, xx_alc, cS, qSB, eK, calmOp, guardS, gK, qK, putK, plK, dOk, St.ev, St.get, St.mem, St.set, St.setm, St.put, lookA, look, newK, nextver, initT, seqE, blockQ, bodyQ, resK, retV, AV.rdv, cells_agg, cells_int, cells_bool, cells_string, cells_slice, cells_uV, agg_uV, isNil_uV, toN_uV, i64_in, IntKind.wrap_u64, IntKind.wrap_u8, IntKind.wrap_u32, ↓binK, ↓intK, unK, ↓loadK, ↓withKey_eq, ↓idxAddrK, ↓indexK, ↓partK, ↓fieldK, ↓fieldAddrK, ↓convK, ↓callK, wrG, updK, ↓lenK, ↓mmK, ↓appK, ↓copyK, ↓sliceK, ↓toArrK, nilK, optK_some, optK_tup, optK_ite, evs, plains, seqParts, capsOf, capsD, List.append_nil, List.nil_append, List.cons_append, AV.dv, AV.cont, isNil_agg, isNil_int, isNil_bool, isNil_string, isNil_nil, isNil_slice, ↓buildV_eq, fillL, placesOf, Option.map_some, Option.map_none, ↓storeK, wrL, RV.av, DV.av, List.set, List.map_cons, List.map_nil, List.length_cons, List.length_nil, List.all_cons, List.all_nil, List.getElem?_cons_zero, List.getElem?_cons_succ, List.getElem?_nil, List.size_toArray, List.getElem?_toArray, List.drop_zero, List.drop_succ_cons, List.take_zero, List.take_succ_cons, Option.getD_some, Option.getD_none, Option.some.injEq, Option.isSome_some, Nat.reduceEqDiff, Nat.reduceAdd, Nat.reduceSub, Nat.reduceMul, Nat.reduceLT, Nat.reduceLeDiff, Nat.reduceMod, Nat.reduceDiv, Int.cast_ofNat_Int, Int.reduceLT, Int.reduceLE, Int.reduceToNat, ↓reduceIte, true_and, and_true, true_or, or_true, or_false, false_or, reduceCtorEq, Bool.false_eq_true, Bool.and_true, Bool.not_true, Bool.not_false, beq_self_eq_true, Bool.true_beq, Bool.false_beq, Value.oneCell', decide_true, decide_false, Int.reduceAdd, Int.reduceSub, Int.reduceMod, Int.reduceMul, Int.reduceNeg, Int.reduceBEq, Int.reduceBNe, Int.reduceTDiv, Int.reduceTMod, ne_eq, not_false_eq_true, not_true_eq_false, Int.reduceEq, Nat.zero_add, Nat.add_zero, Nat.le_refl, Try.underlying2, s_2, g_2, z_2, Try.underlying3, s_3, g_3, z_3, Try.underlying4, s_4, g_4, z_4, Try.underlying5, s_5, g_5, z_5, Try.underlying9, s_9, g_9, z_9, Try.underlying12, s_12, g_12, z_12, Try.underlying13, s_13, g_13, z_13, q_13, Try.underlying21, s_21, g_21, z_21, Try.underlying25, s_25, g_25, z_25, Try.underlying26, s_26, g_26, z_26, q_26, Try.underlying32, s_32, g_32, l_32, r_32, Try.underlying34, s_34, g_34, z_34, Try.underlying35, s_35, g_35, z_35, q_35, Try.underlying38, s_38, g_38, z_38, q_38, Try.underlying42, s_42, g_42, l_42, r_42, Try.underlying44, s_44, g_44, z_44, q_44, Try.underlying57, s_57, g_57, l_57, r_57, Try.underlying69, s_69, g_69, z_69, xr_256, xr_258, xr_260, xr_264, xr_272, xr_274, xr_276, xr_278, xr_280, xr_286, xr_288, xr_292, xr_296, xr_298, xr_302, xr_304, xr_308, xr_310, xr_312, xr_316, xr_318, xr_322, xr_324, xr_326, xr_330, xr_334, xr_336, xr_338, xr_340, xr_342, xr_350, xr_352, xr_354, xr_356, xr_362, xr_364, xr_366, xr_374, xr_376, xr_378, xr_380, xr_386, xr_388, xr_390, xr_396, xr_398, xr_402, xr_404, xr_408, xr_410, xr_412, xr_414, xr_416, xr_418, xr_420, xr_422, xr_424, xr_426, xr_430, xr_432, xr_434, xr_438, xr_440, xr_444, xr_446, xr_448, xr_452, xr_454, xr_458, xr_460, xr_464, xr_466, xr_468, xr_470, xr_472, xr_474, xr_478, xr_484, xr_486, xr_490, xr_494, xr_496, xr_504, xr_506, xr_510]

theorem or_0_1 : bits .or .u64 0 1 = 1 := by decide +kernel
theorem or_0_2 : bits .or .u64 0 2 = 2 := by decide +kernel
theorem or_0_8 : bits .or .u64 0 8 = 8 := by decide +kernel
theorem or_0_128 : bits .or .u64 0 128 = 128 := by decide +kernel
theorem or_0_32768 : bits .or .u64 0 32768 = 32768 := by decide +kernel
theorem or_1_2 : bits .or .u64 1 2 = 3 := by decide +kernel
theorem or_1_8 : bits .or .u64 1 8 = 9 := by decide +kernel
theorem or_1_128 : bits .or .u64 1 128 = 129 := by decide +kernel
theorem or_1_2147483648 : bits .or .u64 1 2147483648 = 2147483649 := by decide +kernel
theorem or_2_8 : bits .or .u64 2 8 = 10 := by decide +kernel
theorem or_2_128 : bits .or .u64 2 128 = 130 := by decide +kernel
theorem or_2_32768 : bits .or .u64 2 32768 = 32770 := by decide +kernel
theorem or_3_8 : bits .or .u64 3 8 = 11 := by decide +kernel
theorem or_3_32768 : bits .or .u64 3 32768 = 32771 := by decide +kernel
theorem or_8_128 : bits .or .u64 8 128 = 136 := by decide +kernel
theorem or_8_32768 : bits .or .u64 8 32768 = 32776 := by decide +kernel
theorem or_9_128 : bits .or .u64 9 128 = 137 := by decide +kernel
theorem or_9_32768 : bits .or .u64 9 32768 = 32777 := by decide +kernel
theorem or_10_128 : bits .or .u64 10 128 = 138 := by decide +kernel
theorem or_10_32768 : bits .or .u64 10 32768 = 32778 := by decide +kernel
theorem or_10_2147483648 : bits .or .u64 10 2147483648 = 2147483658 := by decide +kernel
theorem or_11_128 : bits .or .u64 11 128 = 139 := by decide +kernel
theorem or_128_32768 : bits .or .u64 128 32768 = 32896 := by decide +kernel
theorem or_128_9223372036854775808 : bits .or .u64 128 9223372036854775808 = 9223372036854775936 := by decide +kernel
theorem or_129_32768 : bits .or .u64 129 32768 = 32897 := by decide +kernel
theorem or_130_32768 : bits .or .u64 130 32768 = 32898 := by decide +kernel
theorem or_137_32768 : bits .or .u64 137 32768 = 32905 := by decide +kernel
theorem or_138_32768 : bits .or .u64 138 32768 = 32906 := by decide +kernel
theorem or_139_32768 : bits .or .u64 139 32768 = 32907 := by decide +kernel
theorem or_139_9223372036854775808 : bits .or .u64 139 9223372036854775808 = 9223372036854775947 := by decide +kernel
theorem or_32768_2147483648 : bits .or .u64 32768 2147483648 = 2147516416 := by decide +kernel
theorem or_32770_9223372036854775808 : bits .or .u64 32770 9223372036854775808 = 9223372036854808578 := by decide +kernel
theorem or_32771_9223372036854775808 : bits .or .u64 32771 9223372036854775808 = 9223372036854808579 := by decide +kernel
theorem or_32776_2147483648 : bits .or .u64 32776 2147483648 = 2147516424 := by decide +kernel
theorem or_32777_2147483648 : bits .or .u64 32777 2147483648 = 2147516425 := by decide +kernel
theorem or_32777_9223372036854775808 : bits .or .u64 32777 9223372036854775808 = 9223372036854808585 := by decide +kernel
theorem or_32896_9223372036854775808 : bits .or .u64 32896 9223372036854775808 = 9223372036854808704 := by decide +kernel
theorem or_32897_2147483648 : bits .or .u64 32897 2147483648 = 2147516545 := by decide +kernel
theorem or_32905_9223372036854775808 : bits .or .u64 32905 9223372036854775808 = 9223372036854808713 := by decide +kernel
theorem or_32906_9223372036854775808 : bits .or .u64 32906 9223372036854775808 = 9223372036854808714 := by decide +kernel
theorem or_32907_2147483648 : bits .or .u64 32907 2147483648 = 2147516555 := by decide +kernel
theorem or_2147483658_9223372036854775808 : bits .or .u64 2147483658 9223372036854775808 = 9223372039002259466 := by decide +kernel
theorem or_2147516416_9223372036854775808 : bits .or .u64 2147516416 9223372036854775808 = 9223372039002292224 := by decide +kernel
theorem or_2147516424_9223372036854775808 : bits .or .u64 2147516424 9223372036854775808 = 9223372039002292232 := by decide +kernel
theorem or_2147516545_9223372036854775808 : bits .or .u64 2147516545 9223372036854775808 = 9223372039002292353 := by decide +kernel
theorem pw_0 : IntKind.u64.wrap (1 * 2 ^ (min 0 IntKind.u64.bits)) = 1 := by decide +kernel
theorem pm_0 : (1 * 2 ^ (min 0 IntKind.u64.bits)) % 18446744073709551616 = (1 : Int) := by decide +kernel
theorem pw_1 : IntKind.u64.wrap (1 * 2 ^ (min 1 IntKind.u64.bits)) = 2 := by decide +kernel
theorem pm_1 : (1 * 2 ^ (min 1 IntKind.u64.bits)) % 18446744073709551616 = (2 : Int) := by decide +kernel
theorem pw_3 : IntKind.u64.wrap (1 * 2 ^ (min 3 IntKind.u64.bits)) = 8 := by decide +kernel
theorem pm_3 : (1 * 2 ^ (min 3 IntKind.u64.bits)) % 18446744073709551616 = (8 : Int) := by decide +kernel
theorem pw_7 : IntKind.u64.wrap (1 * 2 ^ (min 7 IntKind.u64.bits)) = 128 := by decide +kernel
theorem pm_7 : (1 * 2 ^ (min 7 IntKind.u64.bits)) % 18446744073709551616 = (128 : Int) := by decide +kernel
theorem pw_15 : IntKind.u64.wrap (1 * 2 ^ (min 15 IntKind.u64.bits)) = 32768 := by decide +kernel
theorem pm_15 : (1 * 2 ^ (min 15 IntKind.u64.bits)) % 18446744073709551616 = (32768 : Int) := by decide +kernel
theorem pw_31 : IntKind.u64.wrap (1 * 2 ^ (min 31 IntKind.u64.bits)) = 2147483648 := by decide +kernel
theorem pm_31 : (1 * 2 ^ (min 31 IntKind.u64.bits)) % 18446744073709551616 = (2147483648 : Int) := by decide +kernel
theorem pw_63 : IntKind.u64.wrap (1 * 2 ^ (min 63 IntKind.u64.bits)) = 9223372036854775808 := by decide +kernel
theorem pm_63 : (1 * 2 ^ (min 63 IntKind.u64.bits)) % 18446744073709551616 = (9223372036854775808 : Int) := by decide +kernel
noncomputable def lastG : List DV → Option RV
  | [.pl (.int .i64 i)] => if 0 ≤ i ∧ i < 24 then some (.one (.pl (.int .u64 (tn (rcw i.toNat))))) else none
  | _ => none
theorem tn_rcw (k : Nat) (h : k < 24) : tn (rcw k) = rcT k := by
  rw [rcw_eq]
  refine tn_nt ?_
  have : ∀ k, k < 24 → 0 ≤ ([1, 32898, 9223372036854808714, 9223372039002292224, 32907, 2147483649, 9223372039002292353, 9223372036854808585, 138, 136, 2147516425, 2147483658, 2147516555, 9223372036854775947, 9223372036854808713, 9223372036854808579, 9223372036854808578, 9223372036854775936, 32778, 9223372039002259466, 9223372039002292353, 9223372036854808704, 2147483649, 9223372039002292232] : List Int).getD k 0 ∧ ([1, 32898, 9223372036854808714, 9223372039002292224, 32907, 2147483649, 9223372039002292353, 9223372036854808585, 138, 136, 2147516425, 2147483658, 2147516555, 9223372036854775947, 9223372036854808713, 9223372036854808579, 9223372036854808578, 9223372036854775936, 32778, 9223372039002259466, 9223372039002292353, 9223372036854808704, 2147483649, 9223372039002292232] : List Int).getD k 0 < 18446744073709551616 := by decide +kernel
  rw [rcT_eq]
  exact okW_of (this k h).1 (this k h).2
set_option maxHeartbeats 400000000 in
theorem last_ok : ∀ ds r, lastG ds = some r → Spec Try.prog 23 ds r := by
  intro ds r h
  unfold lastG at h
  split at h
  case h_2 => cases h
  rename_i i
  split at h
  case isFalse => cases h
  rename_i hc
  cases h
  rw [tn_rcw _ (by omega)]
  have hΓ : Env.ok [(27, rowG)] Try.prog := ok_cons row_ok (ok_nil _)
  have hx : i = 0 ∨ i = 1 ∨ i = 2 ∨ i = 3 ∨ i = 4 ∨ i = 5 ∨ i = 6 ∨ i = 7 ∨ i = 8 ∨ i = 9 ∨ i = 10 ∨ i = 11 ∨ i = 12 ∨ i = 13 ∨ i = 14 ∨ i = 15 ∨ i = 16 ∨ i = 17 ∨ i = 18 ∨ i = 19 ∨ i = 20 ∨ i = 21 ∨ i = 22 ∨ i = 23 := by omega
  clear hc
  rcases hx with rfl | rfl | rfl | rfl | rfl | rfl | rfl | rfl | rfl | rfl | rfl | rfl | rfl | rfl | rfl | rfl | rfl | rfl | rfl | rfl | rfl | rfl | rfl | rfl
  all_goals
    refine Spec.of_vx hΓ follows_mixed Try.func23 rfl (by kernel_rfl) (T := []) (by simp [Try.ntmps23]) (by kernel_rfl) rfl Try.ntmps23 (res := [.tmp 2]) rfl ?_
    intro W
    simp -implicitDefEqProofs (maxSteps := 100000000) only [vy_succ, vy_zero, vx_skip, vx_reg0, vx_reg1, vx_ord, xx_done, xx_stop, xx_alt, vx_seq, vx_cond, vx_block, vx_exit, vx_ret, vx_loop, gx_nil, gx_cons, dx_nil, dx_cons, slim, slimOp, gO, gSO, qSO, quietOp, cx_nil, cx_cons, xx_alc, cS, qSB, eK, calmOp, guardS, gK, qK, putK, plK, dOk, St.ev, St.get, St.mem, St.set, St.setm, St.put, lookA, look, newK, nextver, initT, seqE, blockQ, bodyQ, resK, retV, AV.rdv, cells_agg, cells_int, cells_bool, cells_string, cells_slice, cells_uV, agg_uV, isNil_uV, toN_uV, i64_in, IntKind.wrap_u64, IntKind.wrap_u8, IntKind.wrap_u32, ↓binK, ↓intK, unK, ↓loadK, ↓withKey_eq, ↓idxAddrK, ↓indexK, ↓partK, ↓fieldK, ↓fieldAddrK, ↓convK, ↓callK, wrG, updK, ↓lenK, ↓mmK, ↓appK, ↓copyK, ↓sliceK, ↓toArrK, nilK, optK_some, optK_tup, optK_ite, evs, plains, seqParts, capsOf, capsD, List.append_nil, List.nil_append, List.cons_append, AV.dv, AV.cont, isNil_agg, isNil_int, isNil_bool, isNil_string, isNil_nil, isNil_slice, ↓buildV_eq, fillL, placesOf, Option.map_some, Option.map_none, ↓storeK, wrL, RV.av, DV.av, List.set, List.map_cons, List.map_nil, List.length_cons, List.length_nil, List.all_cons, List.all_nil, List.getElem?_cons_zero, List.getElem?_cons_succ, List.getElem?_nil, List.size_toArray, List.getElem?_toArray, List.drop_zero, List.drop_succ_cons, List.take_zero, List.take_succ_cons, Option.getD_some, Option.getD_none, Option.some.injEq, Option.isSome_some, Nat.reduceEqDiff, Nat.reduceAdd, Nat.reduceSub, Nat.reduceMul, Nat.reduceLT, Nat.reduceLeDiff, Nat.reduceMod, Nat.reduceDiv, Int.cast_ofNat_Int, Int.reduceLT, Int.reduceLE, Int.reduceToNat, ↓reduceIte, true_and, and_true, true_or, or_true, or_false, false_or, reduceCtorEq, Bool.false_eq_true, Bool.and_true, Bool.not_true, Bool.not_false, beq_self_eq_true, Bool.true_beq, Bool.false_beq, Value.oneCell', decide_true, decide_false, Int.reduceAdd, Int.reduceSub, Int.reduceMod, Int.reduceMul, Int.reduceNeg, Int.reduceBEq, Int.reduceBNe, Int.reduceTDiv, Int.reduceTMod, ne_eq, not_false_eq_true, not_true_eq_false, Int.reduceEq, Nat.zero_add, Nat.add_zero, Nat.le_refl, Try.underlying2, s_2, g_2, z_2, Try.underlying3, s_3, g_3, z_3, Try.underlying4, s_4, g_4, z_4, Try.underlying5, s_5, g_5, z_5, Try.underlying9, s_9, g_9, z_9, Try.underlying12, s_12, g_12, z_12, Try.underlying13, s_13, g_13, z_13, q_13, Try.underlying21, s_21, g_21, z_21, Try.underlying25, s_25, g_25, z_25, Try.underlying26, s_26, g_26, z_26, q_26, Try.underlying32, s_32, g_32, l_32, r_32, Try.underlying34, s_34, g_34, z_34, Try.underlying35, s_35, g_35, z_35, q_35, Try.underlying38, s_38, g_38, z_38, q_38, Try.underlying42, s_42, g_42, l_42, r_42, Try.underlying44, s_44, g_44, z_44, q_44, Try.underlying57, s_57, g_57, l_57, r_57, Try.underlying69, s_69, g_69, z_69, rowG]
    refine VT_rounds hΓ follows_mixed 8 ?_
    simp -implicitDefEqProofs (maxSteps := 100000000) only [vy_succ, vy_zero, vx_skip, vx_reg0, vx_reg1, vx_ord, xx_done, xx_stop, xx_alt, vx_seq, vx_cond, vx_block, vx_exit, vx_ret, vx_loop, gx_nil, gx_cons, dx_nil, dx_cons, slim, slimOp, gO, gSO, qSO, quietOp, cx_nil, cx_cons, xx_alc, cS, qSB, eK, calmOp, guardS, gK, qK, putK, plK, dOk, St.ev, St.get, St.mem, St.set, St.setm, St.put, lookA, look, newK, nextver, initT, seqE, blockQ, bodyQ, resK, retV, AV.rdv, cells_agg, cells_int, cells_bool, cells_string, cells_slice, cells_uV, agg_uV, isNil_uV, toN_uV, i64_in, IntKind.wrap_u64, IntKind.wrap_u8, IntKind.wrap_u32, ↓binK, ↓intK, unK, ↓loadK, ↓withKey_eq, ↓idxAddrK, ↓indexK, ↓partK, ↓fieldK, ↓fieldAddrK, ↓convK, ↓callK, wrG, updK, ↓lenK, ↓mmK, ↓appK, ↓copyK, ↓sliceK, ↓toArrK, nilK, optK_some, optK_tup, optK_ite, evs, plains, seqParts, capsOf, capsD, List.append_nil, List.nil_append, List.cons_append, AV.dv, AV.cont, isNil_agg, isNil_int, isNil_bool, isNil_string, isNil_nil, isNil_slice, ↓buildV_eq, fillL, placesOf, Option.map_some, Option.map_none, ↓storeK, wrL, RV.av, DV.av, List.set, List.map_cons, List.map_nil, List.length_cons, List.length_nil, List.all_cons, List.all_nil, List.getElem?_cons_zero, List.getElem?_cons_succ, List.getElem?_nil, List.size_toArray, List.getElem?_toArray, List.drop_zero, List.drop_succ_cons, List.take_zero, List.take_succ_cons, Option.getD_some, Option.getD_none, Option.some.injEq, Option.isSome_some, Nat.reduceEqDiff, Nat.reduceAdd, Nat.reduceSub, Nat.reduceMul, Nat.reduceLT, Nat.reduceLeDiff, Nat.reduceMod, Nat.reduceDiv, Int.cast_ofNat_Int, Int.reduceLT, Int.reduceLE, Int.reduceToNat, ↓reduceIte, true_and, and_true, true_or, or_true, or_false, false_or, reduceCtorEq, Bool.false_eq_true, Bool.and_true, Bool.not_true, Bool.not_false, beq_self_eq_true, Bool.true_beq, Bool.false_beq, Value.oneCell', decide_true, decide_false, Int.reduceAdd, Int.reduceSub, Int.reduceMod, Int.reduceMul, Int.reduceNeg, Int.reduceBEq, Int.reduceBNe, Int.reduceTDiv, Int.reduceTMod, ne_eq, not_false_eq_true, not_true_eq_false, Int.reduceEq, Nat.zero_add, Nat.add_zero, Nat.le_refl, Try.underlying2, s_2, g_2, z_2, Try.underlying3, s_3, g_3, z_3, Try.underlying4, s_4, g_4, z_4, Try.underlying5, s_5, g_5, z_5, Try.underlying9, s_9, g_9, z_9, Try.underlying12, s_12, g_12, z_12, Try.underlying13, s_13, g_13, z_13, q_13, Try.underlying21, s_21, g_21, z_21, Try.underlying25, s_25, g_25, z_25, Try.underlying26, s_26, g_26, z_26, q_26, Try.underlying32, s_32, g_32, l_32, r_32, Try.underlying34, s_34, g_34, z_34, Try.underlying35, s_35, g_35, z_35, q_35, Try.underlying38, s_38, g_38, z_38, q_38, Try.underlying42, s_42, g_42, l_42, r_42, Try.underlying44, s_44, g_44, z_44, q_44, Try.underlying57, s_57, g_57, l_57, r_57, Try.underlying69, s_69, g_69, z_69, rowL_len, rowL_0, rowL_1, rowL_2, rowL_3, rowL_4, rowL_5, rowL_6, rowL_7, rowL_8, rowL_9, rowL_10, rowL_11, rowL_12, rowL_13, rowL_14, rowL_15, rowL_16, rowL_17, rowL_18, rowL_19, rowL_20, rowL_21, rowL_22, rowL_23, rowL_24, rowL_25, rowL_26, rowL_27, rowL_28, rowL_29, rowL_30, rowL_31, rowL_32, rowL_33, rowL_34, rowL_35, rowL_36, rowL_37, rowL_38, rowL_39, rowL_40, rowL_41, rowL_42, rowL_43, rowL_44, rowL_45, rowL_46, rowL_47, rowL_48, rowL_49, rowL_50, rowL_51, rowL_52, rowL_53, rowL_54, rowL_55, rowL_56, rowL_57, rowL_58, rowL_59, rowL_60, rowL_61, rowL_62, rowL_63, rowL_64, rowL_65, rowL_66, rowL_67, rowL_68, rowL_69, rowL_70, rowL_71, rowL_72, rowL_73, rowL_74, rowL_75, rowL_76, rowL_77, rowL_78, rowL_79, rowL_80, rowL_81, rowL_82, rowL_83, rowL_84, rowL_85, rowL_86, rowL_87, rowL_88, rowL_89, rowL_90, rowL_91, rowL_92, rowL_93, rowL_94, rowL_95, rowL_96, rowL_97, rowL_98, rowL_99, rowL_100, rowL_101, rowL_102, rowL_103, rowL_104, rowL_105, rowL_106, rowL_107, rowL_108, rowL_109, rowL_110, rowL_111, rowL_112, rowL_113, rowL_114, rowL_115, rowL_116, rowL_117, rowL_118, rowL_119, rowL_120, rowL_121, rowL_122, rowL_123, rowL_124, rowL_125, rowL_126, rowL_127, rowL_128, rowL_129, rowL_130, rowL_131, rowL_132, rowL_133, rowL_134, rowL_135, rowL_136, rowL_137, rowL_138, rowL_139, rowL_140, rowL_141, rowL_142, rowL_143, rowL_144, rowL_145, rowL_146, rowL_147, rowL_148, rowL_149, rowL_150, rowL_151, rowL_152, rowL_153, rowL_154, rowL_155, rowL_156, rowL_157, rowL_158, rowL_159, rowL_160, rowL_161, rowL_162, rowL_163, rowL_164, rowL_165, rowL_166, rowL_167, or_0_1, or_0_2, or_0_8, or_0_128, or_0_32768, or_1_2, or_1_8, or_1_128, or_1_2147483648, or_2_8, or_2_128, or_2_32768, or_3_8, or_3_32768, or_8_128, or_8_32768, or_9_128, or_9_32768, or_10_128, or_10_32768, or_10_2147483648, or_11_128, or_128_32768, or_128_9223372036854775808, or_129_32768, or_130_32768, or_137_32768, or_138_32768, or_139_32768, or_139_9223372036854775808, or_32768_2147483648, or_32770_9223372036854775808, or_32771_9223372036854775808, or_32776_2147483648, or_32777_2147483648, or_32777_9223372036854775808, or_32896_9223372036854775808, or_32897_2147483648, or_32905_9223372036854775808, or_32906_9223372036854775808, or_32907_2147483648, or_2147483658_9223372036854775808, or_2147516416_9223372036854775808, or_2147516424_9223372036854775808, or_2147516545_9223372036854775808, ↓pw_0, pm_0, ↓pw_1, pm_1, ↓pw_3, pm_3, ↓pw_7, pm_7, ↓pw_15, pm_15, ↓pw_31, pm_31, ↓pw_63, pm_63, rcT_0, rcT_1, rcT_2, rcT_3, rcT_4, rcT_5, rcT_6, rcT_7, rcT_8, rcT_9, rcT_10, rcT_11, rcT_12, rcT_13, rcT_14, rcT_15, rcT_16, rcT_17, rcT_18, rcT_19, rcT_20, rcT_21, rcT_22, rcT_23]

end Go.Vm
