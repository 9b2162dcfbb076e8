/- Contracts: Sub, Cmp. No condition. -/
import Derived.Test.YtcbcmfmcpdimkaaA
set_option maxRecDepth 100000
set_option linter.unusedSimpArgs false
set_option linter.unusedVariables false
namespace Go.Vm
open Go Go.RowKit Go.Proofs

theorem sub_words (a b : Nat) (ha : a < full) (hb : b < full) :
    ∃ s0 s1 s2 s3 c0 c1 c2 c3 : Int, (((w0 a : Int) - (w0 b : Int) - 0) % 18446744073709551616 = s0 ∧ brw (w0 a : Int) (w0 b : Int) 0 = c0) ∧
      (((w1 a : Int) - (w1 b : Int) - c0) % 18446744073709551616 = s1 ∧ brw (w1 a : Int) (w1 b : Int) c0 = c1) ∧
      (((w2 a : Int) - (w2 b : Int) - c1) % 18446744073709551616 = s2 ∧ brw (w2 a : Int) (w2 b : Int) c1 = c2) ∧
      (((w3 a : Int) - (w3 b : Int) - c2) % 18446744073709551616 = s3 ∧ brw (w3 a : Int) (w3 b : Int) c2 = c3) ∧
      (0 ≤ c0 ∧ c0 ≤ 1 ∧ 0 ≤ c1 ∧ c1 ≤ 1 ∧ 0 ≤ c2 ∧ c2 ≤ 1) ∧
      uV (a + full - b) = .agg #[.int .u64 s0, .int .u64 s1, .int .u64 s2, .int .u64 s3] ∧ decide (a < b) = (c3 == 1) := by
  have ea := words_lt ha
  have eb := words_lt hb
  have a0 := w0_lt a; have a1 := w1_lt a; have a2 := w2_lt a; have a3 := w3_lt a
  have b0 := w0_lt b; have b1 := w1_lt b; have b2 := w2_lt b; have b3 := w3_lt b
  generalize w0 a = x0 at *; generalize w1 a = x1 at *; generalize w2 a = x2 at *; generalize w3 a = x3 at *
  generalize w0 b = y0 at *; generalize w1 b = y1 at *; generalize w2 b = y2 at *; generalize w3 b = y3 at *
  obtain ⟨s0, c0, e0, l0, k0⟩ : ∃ s0 c0 : Nat, (x0 : Int) - y0 = s0 - 18446744073709551616 * c0 ∧ s0 < 18446744073709551616 ∧ c0 ≤ 1 := by
    by_cases h : x0 < y0
    · exact ⟨x0 + 18446744073709551616 - y0, 1, by omega, by omega, by omega⟩
    · exact ⟨x0 - y0, 0, by omega, by omega, by omega⟩
  obtain ⟨s1, c1, e1, l1, k1⟩ : ∃ s1 c1 : Nat, (x1 : Int) - y1 - c0 = s1 - 18446744073709551616 * c1 ∧ s1 < 18446744073709551616 ∧ c1 ≤ 1 := by
    by_cases h : x1 < y1 + c0
    · exact ⟨x1 + 18446744073709551616 - y1 - c0, 1, by omega, by omega, by omega⟩
    · exact ⟨x1 - y1 - c0, 0, by omega, by omega, by omega⟩
  obtain ⟨s2, c2, e2, l2, k2⟩ : ∃ s2 c2 : Nat, (x2 : Int) - y2 - c1 = s2 - 18446744073709551616 * c2 ∧ s2 < 18446744073709551616 ∧ c2 ≤ 1 := by
    by_cases h : x2 < y2 + c1
    · exact ⟨x2 + 18446744073709551616 - y2 - c1, 1, by omega, by omega, by omega⟩
    · exact ⟨x2 - y2 - c1, 0, by omega, by omega, by omega⟩
  obtain ⟨s3, c3, e3, l3, k3⟩ : ∃ s3 c3 : Nat, (x3 : Int) - y3 - c2 = s3 - 18446744073709551616 * c3 ∧ s3 < 18446744073709551616 ∧ c3 ≤ 1 := by
    by_cases h : x3 < y3 + c2
    · exact ⟨x3 + 18446744073709551616 - y3 - c2, 1, by omega, by omega, by omega⟩
    · exact ⟨x3 - y3 - c2, 0, by omega, by omega, by omega⟩
  have hlt := num_lt l0 l1 l2 l3
  refine ⟨s0, s1, s2, s3, c0, c1, c2, c3, ⟨by omega, by unfold brw; split <;> omega⟩, ⟨by omega, by unfold brw; split <;> omega⟩, ⟨by omega, by unfold brw; split <;> omega⟩, ⟨by omega, by unfold brw; split <;> omega⟩, ⟨by omega, by omega, by omega, by omega, by omega, by omega⟩, ?_, ?_⟩
  · refine uV_of l0 l1 l2 l3 ?_
    have hk : c3 = 0 ∨ c3 = 1 := by omega
    rcases hk with rfl | rfl
    · have h : a + full - b = num s0 s1 s2 s3 + full := by simp only [num, full_eq] at *; omega
      rw [h, Nat.add_mod_right, Nat.mod_eq_of_lt hlt]
    · have h : a + full - b = num s0 s1 s2 s3 := by simp only [num, full_eq] at *; omega
      rw [h, Nat.mod_eq_of_lt hlt]
  · have hk : c3 = 0 ∨ c3 = 1 := by omega
    rcases hk with rfl | rfl
    · have : ¬ (a < b) := by simp only [num, full_eq] at *; omega
      simp [this]
    · have : a < b := by simp only [num, full_eq] at *; omega
      simp [this]

noncomputable def subG : List DV → Option RV
  | [.pl va, .pl vb] => match toN va, toN vb with
    | some a, some b => some (.tup [.pl (uV (a + full - b)), .pl (.bool (decide (a < b)))])
    | _, _ => none
  | _ => none

theorem sub64_here : ∀ ds r, sub64G ds = some r → Spec Try.prog 61 ds r := sub64_ok Try.func61 (by kernel_rfl) (by kernel_rfl) (by kernel_rfl) (by kernel_rfl)

set_option maxHeartbeats 4000000 in
theorem sub_ok : ∀ ds r, subG ds = some r → Spec Try.prog 48 ds r := by
  intro ds r h
  unfold subG at h
  split at h
  case h_2 => cases h
  rename_i va vb
  split at h
  case h_2 => cases h
  rename_i a b ha hb
  cases h
  obtain ⟨rfl, ha'⟩ := toN_eq ha
  obtain ⟨rfl, hb'⟩ := toN_eq hb
  obtain ⟨s0, s1, s2, s3, c0, c1, c2, c3, ⟨p0, q0⟩, ⟨p1, q1⟩, ⟨p2, q2⟩, ⟨p3, q3⟩, hc, hv, hd⟩ := sub_words a b ha' hb'
  have a0 := w0_lt a; have a1 := w1_lt a; have a2 := w2_lt a; have a3 := w3_lt a
  have b0 := w0_lt b; have b1 := w1_lt b; have b2 := w2_lt b; have b3 := w3_lt b
  rw [hv, hd]
  have ua : uV a = .agg #[.int .u64 (w0 a : Nat), .int .u64 (w1 a : Nat), .int .u64 (w2 a : Nat), .int .u64 (w3 a : Nat)] := rfl
  have ub : uV b = .agg #[.int .u64 (w0 b : Nat), .int .u64 (w1 b : Nat), .int .u64 (w2 b : Nat), .int .u64 (w3 b : Nat)] := rfl
  have hΓ : Env.ok [(61, sub64G)] Try.prog := ok_cons sub64_here (ok_nil _)
  refine Spec.of_vx hΓ follows_mixed Try.func48 rfl (by kernel_rfl) (T := []) (by simp [Try.ntmps48]) (by kernel_rfl) rfl Try.ntmps48 (res := [.cell 4 24, .tmp 5]) rfl ?_
  intro W
  simp -implicitDefEqProofs (maxSteps := 10000000) only [vy_succ, vy_zero, vx_skip, vx_reg0, vx_reg1, vx_ord, xx_done, xx_stop, xx_alt, vx_seq, vx_cond, vx_block, vx_exit, vx_ret, vx_loop, gx_nil, gx_cons, dx_nil, dx_cons, slim, slimOp, gO, gSO, qSO, quietOp, cx_nil, cx_cons, xx_alc, cS, qSB, eK, calmOp, guardS, gK, qK, putK, plK, dOk, St.ev, St.get, St.mem, St.set, St.setm, St.put, lookA, look, newK, nextver, initT, seqE, blockQ, bodyQ, resK, retV, AV.rdv, cells_agg, cells_int, cells_bool, cells_string, cells_slice, cells_uV, agg_uV, isNil_uV, toN_uV, i64_in, IntKind.wrap_u64, IntKind.wrap_u8, IntKind.wrap_u32, ↓binK, ↓intK, unK, ↓loadK, ↓withKey_eq, ↓idxAddrK, ↓indexK, ↓partK, ↓fieldK, ↓fieldAddrK, ↓convK, ↓callK, wrG, updK, ↓lenK, ↓mmK, ↓appK, ↓copyK, ↓sliceK, ↓toArrK, nilK, optK_some, optK_tup, optK_ite, evs, plains, seqParts, capsOf, capsD, List.append_nil, List.nil_append, List.cons_append, AV.dv, AV.cont, isNil_agg, isNil_int, isNil_bool, isNil_string, isNil_nil, isNil_slice, ↓buildV_eq, fillL, placesOf, Option.map_some, Option.map_none, ↓storeK, wrL, RV.av, DV.av, List.set, List.map_cons, List.map_nil, List.length_cons, List.length_nil, List.all_cons, List.all_nil, List.getElem?_cons_zero, List.getElem?_cons_succ, List.getElem?_nil, List.size_toArray, List.getElem?_toArray, List.drop_zero, List.drop_succ_cons, List.take_zero, List.take_succ_cons, Option.getD_some, Option.getD_none, Option.some.injEq, Option.isSome_some, Nat.reduceEqDiff, Nat.reduceAdd, Nat.reduceSub, Nat.reduceMul, Nat.reduceLT, Nat.reduceLeDiff, Nat.reduceMod, Nat.reduceDiv, Int.cast_ofNat_Int, Int.reduceLT, Int.reduceLE, Int.reduceToNat, ↓reduceIte, true_and, and_true, true_or, or_true, or_false, false_or, reduceCtorEq, Bool.false_eq_true, Bool.and_true, Bool.not_true, Bool.not_false, beq_self_eq_true, Bool.true_beq, Bool.false_beq, Value.oneCell', decide_true, decide_false, Int.reduceAdd, Int.reduceSub, Int.reduceMod, Int.reduceMul, Int.reduceNeg, Int.reduceBEq, Int.reduceBNe, Int.reduceTDiv, Int.reduceTMod, ne_eq, not_false_eq_true, not_true_eq_false, Int.reduceEq, Nat.zero_add, Nat.add_zero, Nat.le_refl, tyB, Try.underlying13, Try.underlying25, Try.underlying26, Try.underlying53, Try.underlying54]
  refine VT_rounds hΓ follows_mixed 5 ?_
  have o0 : okC c0 = true := okC_of (by omega) (by omega)
  have o1 : okC c1 = true := okC_of (by omega) (by omega)
  have o2 : okC c2 = true := okC_of (by omega) (by omega)
  simp -implicitDefEqProofs (maxSteps := 10000000) only [vy_succ, vy_zero, vx_skip, vx_reg0, vx_reg1, vx_ord, xx_done, xx_stop, xx_alt, vx_seq, vx_cond, vx_block, vx_exit, vx_ret, vx_loop, gx_nil, gx_cons, dx_nil, dx_cons, slim, slimOp, gO, gSO, qSO, quietOp, cx_nil, cx_cons, xx_alc, cS, qSB, eK, calmOp, guardS, gK, qK, putK, plK, dOk, St.ev, St.get, St.mem, St.set, St.setm, St.put, lookA, look, newK, nextver, initT, seqE, blockQ, bodyQ, resK, retV, AV.rdv, cells_agg, cells_int, cells_bool, cells_string, cells_slice, cells_uV, agg_uV, isNil_uV, toN_uV, i64_in, IntKind.wrap_u64, IntKind.wrap_u8, IntKind.wrap_u32, ↓binK, ↓intK, unK, ↓loadK, ↓withKey_eq, ↓idxAddrK, ↓indexK, ↓partK, ↓fieldK, ↓fieldAddrK, ↓convK, ↓callK, wrG, updK, ↓lenK, ↓mmK, ↓appK, ↓copyK, ↓sliceK, ↓toArrK, nilK, optK_some, optK_tup, optK_ite, evs, plains, seqParts, capsOf, capsD, List.append_nil, List.nil_append, List.cons_append, AV.dv, AV.cont, isNil_agg, isNil_int, isNil_bool, isNil_string, isNil_nil, isNil_slice, ↓buildV_eq, fillL, placesOf, Option.map_some, Option.map_none, ↓storeK, wrL, RV.av, DV.av, List.set, List.map_cons, List.map_nil, List.length_cons, List.length_nil, List.all_cons, List.all_nil, List.getElem?_cons_zero, List.getElem?_cons_succ, List.getElem?_nil, List.size_toArray, List.getElem?_toArray, List.drop_zero, List.drop_succ_cons, List.take_zero, List.take_succ_cons, Option.getD_some, Option.getD_none, Option.some.injEq, Option.isSome_some, Nat.reduceEqDiff, Nat.reduceAdd, Nat.reduceSub, Nat.reduceMul, Nat.reduceLT, Nat.reduceLeDiff, Nat.reduceMod, Nat.reduceDiv, Int.cast_ofNat_Int, Int.reduceLT, Int.reduceLE, Int.reduceToNat, ↓reduceIte, true_and, and_true, true_or, or_true, or_false, false_or, reduceCtorEq, Bool.false_eq_true, Bool.and_true, Bool.not_true, Bool.not_false, beq_self_eq_true, Bool.true_beq, Bool.false_beq, Value.oneCell', decide_true, decide_false, Int.reduceAdd, Int.reduceSub, Int.reduceMod, Int.reduceMul, Int.reduceNeg, Int.reduceBEq, Int.reduceBNe, Int.reduceTDiv, Int.reduceTMod, ne_eq, not_false_eq_true, not_true_eq_false, Int.reduceEq, Nat.zero_add, Nat.add_zero, Nat.le_refl, tyB, Try.underlying13, Try.underlying25, Try.underlying26, Try.underlying53, Try.underlying54, sub64G, p0, q0, p1, q1, p2, q2, p3, q3, okW_0, okW_1, okW_2, okW_3, okC_0, o0, o1, o2, Bool.true_and]

end Go.Vm
