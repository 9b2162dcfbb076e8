/- Contracts of the functions that add, subtract and compare numbers. No condition. -/
import Derived.Test.YtcbcmfmcpdimkaaTy
set_option maxRecDepth 100000
set_option linter.unusedSimpArgs false
set_option linter.unusedVariables false
namespace Go.Vm
open Go Go.RowKit Go.Proofs

/-! ### Plain laws -/
theorem cast_mod (x : Nat) : ((x : Int) % 18446744073709551616) = ((x % 18446744073709551616 : Nat) : Int) := by omega

theorem add_words (a b : Nat) (ha : a < full) (hb : b < full) :
    uV (a + b) = .agg #[.int .u64 (((w0 a : Int) + (w0 b : Int) + 0) % 18446744073709551616),
      .int .u64 (((w1 a : Int) + (w1 b : Int) + ((w0 a : Int) + (w0 b : Int) + 0) / 18446744073709551616) % 18446744073709551616),
      .int .u64 (((w2 a : Int) + (w2 b : Int) + ((w1 a : Int) + (w1 b : Int) + ((w0 a : Int) + (w0 b : Int) + 0) / 18446744073709551616) / 18446744073709551616) % 18446744073709551616),
      .int .u64 (((w3 a : Int) + (w3 b : Int) + ((w2 a : Int) + (w2 b : Int) + ((w1 a : Int) + (w1 b : Int) + ((w0 a : Int) + (w0 b : Int) + 0) / 18446744073709551616) / 18446744073709551616) / 18446744073709551616) % 18446744073709551616)] ∧
    decide (full ≤ a + b) = (((w3 a : Int) + (w3 b : Int) + ((w2 a : Int) + (w2 b : Int) + ((w1 a : Int) + (w1 b : Int) + ((w0 a : Int) + (w0 b : Int) + 0) / 18446744073709551616) / 18446744073709551616) / 18446744073709551616) / 18446744073709551616 == 1) := by
  have ea := words_lt ha
  have eb := words_lt hb
  have a0 := w0_lt a; have a1 := w1_lt a; have a2 := w2_lt a; have a3 := w3_lt a
  have b0 := w0_lt b; have b1 := w1_lt b; have b2 := w2_lt b; have b3 := w3_lt b
  generalize w0 a = x0 at *; generalize w1 a = x1 at *; generalize w2 a = x2 at *; generalize w3 a = x3 at *
  generalize w0 b = y0 at *; generalize w1 b = y1 at *; generalize w2 b = y2 at *; generalize w3 b = y3 at *
  obtain ⟨s0, c0, e0, l0, k0⟩ : ∃ s0 c0, x0 + y0 = s0 + 18446744073709551616 * c0 ∧ s0 < 18446744073709551616 ∧ c0 ≤ 1 := ⟨(x0 + y0) % 18446744073709551616, (x0 + y0) / 18446744073709551616, by omega, by omega, by omega⟩
  obtain ⟨s1, c1, e1, l1, k1⟩ : ∃ s1 c1, x1 + y1 + c0 = s1 + 18446744073709551616 * c1 ∧ s1 < 18446744073709551616 ∧ c1 ≤ 1 := ⟨(x1 + y1 + c0) % 18446744073709551616, (x1 + y1 + c0) / 18446744073709551616, by omega, by omega, by omega⟩
  obtain ⟨s2, c2, e2, l2, k2⟩ : ∃ s2 c2, x2 + y2 + c1 = s2 + 18446744073709551616 * c2 ∧ s2 < 18446744073709551616 ∧ c2 ≤ 1 := ⟨(x2 + y2 + c1) % 18446744073709551616, (x2 + y2 + c1) / 18446744073709551616, by omega, by omega, by omega⟩
  obtain ⟨s3, c3, e3, l3, k3⟩ : ∃ s3 c3, x3 + y3 + c2 = s3 + 18446744073709551616 * c3 ∧ s3 < 18446744073709551616 ∧ c3 ≤ 1 := ⟨(x3 + y3 + c2) % 18446744073709551616, (x3 + y3 + c2) / 18446744073709551616, by omega, by omega, by omega⟩
  have f0 : ((x0 : Int) + (y0 : Int) + 0) / 18446744073709551616 = c0 := by omega
  have m0 : ((x0 : Int) + (y0 : Int) + 0) % 18446744073709551616 = s0 := by omega
  have f1 : ((x1 : Int) + (y1 : Int) + (c0 : Int)) / 18446744073709551616 = c1 := by omega
  have m1 : ((x1 : Int) + (y1 : Int) + (c0 : Int)) % 18446744073709551616 = s1 := by omega
  have f2 : ((x2 : Int) + (y2 : Int) + (c1 : Int)) / 18446744073709551616 = c2 := by omega
  have m2 : ((x2 : Int) + (y2 : Int) + (c1 : Int)) % 18446744073709551616 = s2 := by omega
  have f3 : ((x3 : Int) + (y3 : Int) + (c2 : Int)) / 18446744073709551616 = c3 := by omega
  have m3 : ((x3 : Int) + (y3 : Int) + (c2 : Int)) % 18446744073709551616 = s3 := by omega
  have hsum : a + b = num s0 s1 s2 s3 + c3 * full := by
    simp only [num, full_eq] at *
    omega
  have hlt := num_lt l0 l1 l2 l3
  rw [f0, f1, f2, f3, m0, m1, m2, m3]
  constructor
  · exact uV_of l0 l1 l2 l3 (by rw [hsum, Nat.add_mul_mod_self_right, Nat.mod_eq_of_lt hlt])
  · have : c3 = 0 ∨ c3 = 1 := by omega
    rcases this with rfl | rfl
    · have : ¬ (full ≤ a + b) := by omega
      simp [this]
    · have : full ≤ a + b := by omega
      simp [this]

noncomputable def addG : List DV → Option RV
  | [.pl va, .pl vb] => match toN va, toN vb with
    | some a, some b => some (.tup [.pl (uV (a + b)), .pl (.bool (decide (full ≤ a + b)))])
    | _, _ => none
  | _ => none

theorem add64_here : ∀ ds r, add64G ds = some r → Spec Try.prog 30 ds r := add64_ok Try.func30 (by kernel_rfl) (by kernel_rfl) (by kernel_rfl) (by kernel_rfl)

set_option maxHeartbeats 4000000 in
theorem add_ok : ∀ ds r, addG ds = some r → Spec Try.prog 11 ds r := by
  intro ds r h
  unfold addG at h
  split at h
  case h_2 => cases h
  rename_i va vb
  split at h
  case h_2 => cases h
  rename_i a b ha hb
  cases h
  obtain ⟨rfl, ha'⟩ := toN_eq ha
  obtain ⟨rfl, hb'⟩ := toN_eq hb
  have hw := add_words a b ha' hb'
  have a0 := w0_lt a; have a1 := w1_lt a; have a2 := w2_lt a; have a3 := w3_lt a
  have b0 := w0_lt b; have b1 := w1_lt b; have b2 := w2_lt b; have b3 := w3_lt b
  have hΓ : Env.ok [(30, add64G)] Try.prog := ok_cons add64_here (ok_nil _)
  refine Spec.of_vx hΓ follows_mixed Try.func11 rfl (by kernel_rfl) (T := []) (by simp [Try.ntmps11]) (by kernel_rfl) rfl Try.ntmps11 (res := [.cell 4 24, .tmp 5]) rfl ?_
  intro W
  generalize hr : uV (a + b) = r1
  generalize hs : decide (full ≤ a + b) = s1
  rw [hr, hs] at hw
  simp -implicitDefEqProofs (maxSteps := 10000000) only [vy_succ, vy_zero, vx_skip, vx_reg0, vx_reg1, vx_ord, xx_done, xx_stop, xx_alt, vx_seq, vx_cond, vx_block, vx_exit, vx_ret, vx_loop, gx_nil, gx_cons, dx_nil, dx_cons, slim, slimOp, gO, gSO, qSO, quietOp, cx_nil, cx_cons, xx_alc, cS, qSB, eK, calmOp, guardS, gK, qK, putK, plK, dOk, St.ev, St.get, St.mem, St.set, St.setm, St.put, lookA, look, newK, nextver, initT, seqE, blockQ, bodyQ, resK, retV, AV.rdv, cells_agg, cells_int, cells_bool, cells_string, cells_slice, cells_uV, agg_uV, isNil_uV, toN_uV, i64_in, IntKind.wrap_u64, IntKind.wrap_u8, IntKind.wrap_u32, ↓binK, ↓intK, unK, ↓loadK, ↓withKey_eq, ↓idxAddrK, ↓indexK, ↓partK, ↓fieldK, ↓fieldAddrK, ↓convK, ↓callK, wrG, updK, ↓lenK, ↓mmK, ↓appK, ↓copyK, ↓sliceK, ↓toArrK, nilK, optK_some, optK_tup, optK_ite, evs, plains, seqParts, capsOf, capsD, List.append_nil, List.nil_append, List.cons_append, AV.dv, AV.cont, isNil_agg, isNil_int, isNil_bool, isNil_string, isNil_nil, isNil_slice, ↓buildV_eq, fillL, placesOf, Option.map_some, Option.map_none, ↓storeK, wrL, RV.av, DV.av, List.set, List.map_cons, List.map_nil, List.length_cons, List.length_nil, List.all_cons, List.all_nil, List.getElem?_cons_zero, List.getElem?_cons_succ, List.getElem?_nil, List.size_toArray, List.getElem?_toArray, List.drop_zero, List.drop_succ_cons, List.take_zero, List.take_succ_cons, Option.getD_some, Option.getD_none, Option.some.injEq, Option.isSome_some, Nat.reduceEqDiff, Nat.reduceAdd, Nat.reduceSub, Nat.reduceMul, Nat.reduceLT, Nat.reduceLeDiff, Nat.reduceMod, Nat.reduceDiv, Int.cast_ofNat_Int, Int.reduceLT, Int.reduceLE, Int.reduceToNat, ↓reduceIte, true_and, and_true, true_or, or_true, or_false, false_or, reduceCtorEq, Bool.false_eq_true, Bool.and_true, Bool.not_true, Bool.not_false, beq_self_eq_true, Bool.true_beq, Bool.false_beq, Value.oneCell', decide_true, decide_false, Int.reduceAdd, Int.reduceSub, Int.reduceMod, Int.reduceMul, Int.reduceNeg, Int.reduceBEq, Int.reduceBNe, Int.reduceTDiv, Int.reduceTMod, ne_eq, not_false_eq_true, not_true_eq_false, Int.reduceEq, Nat.zero_add, Nat.add_zero, Nat.le_refl, tyB, Try.underlying13, Try.underlying25, Try.underlying26, Try.underlying53, Try.underlying54]
  refine VT_rounds hΓ follows_mixed 5 ?_
  simp -implicitDefEqProofs (maxSteps := 10000000) only [vy_succ, vy_zero, vx_skip, vx_reg0, vx_reg1, vx_ord, xx_done, xx_stop, xx_alt, vx_seq, vx_cond, vx_block, vx_exit, vx_ret, vx_loop, gx_nil, gx_cons, dx_nil, dx_cons, slim, slimOp, gO, gSO, qSO, quietOp, cx_nil, cx_cons, xx_alc, cS, qSB, eK, calmOp, guardS, gK, qK, putK, plK, dOk, St.ev, St.get, St.mem, St.set, St.setm, St.put, lookA, look, newK, nextver, initT, seqE, blockQ, bodyQ, resK, retV, AV.rdv, cells_agg, cells_int, cells_bool, cells_string, cells_slice, cells_uV, agg_uV, isNil_uV, toN_uV, i64_in, IntKind.wrap_u64, IntKind.wrap_u8, IntKind.wrap_u32, ↓binK, ↓intK, unK, ↓loadK, ↓withKey_eq, ↓idxAddrK, ↓indexK, ↓partK, ↓fieldK, ↓fieldAddrK, ↓convK, ↓callK, wrG, updK, ↓lenK, ↓mmK, ↓appK, ↓copyK, ↓sliceK, ↓toArrK, nilK, optK_some, optK_tup, optK_ite, evs, plains, seqParts, capsOf, capsD, List.append_nil, List.nil_append, List.cons_append, AV.dv, AV.cont, isNil_agg, isNil_int, isNil_bool, isNil_string, isNil_nil, isNil_slice, ↓buildV_eq, fillL, placesOf, Option.map_some, Option.map_none, ↓storeK, wrL, RV.av, DV.av, List.set, List.map_cons, List.map_nil, List.length_cons, List.length_nil, List.all_cons, List.all_nil, List.getElem?_cons_zero, List.getElem?_cons_succ, List.getElem?_nil, List.size_toArray, List.getElem?_toArray, List.drop_zero, List.drop_succ_cons, List.take_zero, List.take_succ_cons, Option.getD_some, Option.getD_none, Option.some.injEq, Option.isSome_some, Nat.reduceEqDiff, Nat.reduceAdd, Nat.reduceSub, Nat.reduceMul, Nat.reduceLT, Nat.reduceLeDiff, Nat.reduceMod, Nat.reduceDiv, Int.cast_ofNat_Int, Int.reduceLT, Int.reduceLE, Int.reduceToNat, ↓reduceIte, true_and, and_true, true_or, or_true, or_false, false_or, reduceCtorEq, Bool.false_eq_true, Bool.and_true, Bool.not_true, Bool.not_false, beq_self_eq_true, Bool.true_beq, Bool.false_beq, Value.oneCell', decide_true, decide_false, Int.reduceAdd, Int.reduceSub, Int.reduceMod, Int.reduceMul, Int.reduceNeg, Int.reduceBEq, Int.reduceBNe, Int.reduceTDiv, Int.reduceTMod, ne_eq, not_false_eq_true, not_true_eq_false, Int.reduceEq, Nat.zero_add, Nat.add_zero, Nat.le_refl, tyB, Try.underlying13, Try.underlying25, Try.underlying26, Try.underlying53, Try.underlying54, add64G]
  refine ⟨by omega, by omega, by omega, by omega, ?_⟩
  rw [hw.1, hw.2]

end Go.Vm
