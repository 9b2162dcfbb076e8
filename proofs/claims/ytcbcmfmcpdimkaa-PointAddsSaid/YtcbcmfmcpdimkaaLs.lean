/- Contracts on numbers in digits: Sum, Less, Full, Take, To. No condition. -/
import Derived.Test.YtcbcmfmcpdimkaaL
set_option maxRecDepth 100000
set_option linter.unusedSimpArgs false
set_option linter.unusedVariables false
namespace Go.Vm
open Go Go.RowKit Go.Proofs

/-! ### Sum -/
/-- the carry into a place -/
noncomputable def cy (x y i : Nat) : Nat := Classical.choose (⟨(x % 65536 ^ i + y % 65536 ^ i) / 65536 ^ i, rfl⟩ : ∃ z : Nat, z = (x % 65536 ^ i + y % 65536 ^ i) / 65536 ^ i)
theorem cy_eq (x y i : Nat) : cy x y i = (x % 65536 ^ i + y % 65536 ^ i) / 65536 ^ i := Classical.choose_spec (⟨(x % 65536 ^ i + y % 65536 ^ i) / 65536 ^ i, rfl⟩ : ∃ z : Nat, z = (x % 65536 ^ i + y % 65536 ^ i) / 65536 ^ i)
theorem cy_0 (x y : Nat) : cy x y 0 = 0 := by rw [cy_eq]; simp [Nat.mod_one]
theorem cy_le (x y i : Nat) : cy x y i ≤ 1 := by
  rw [cy_eq]
  have h0 := bpow_pos i
  have h1 := Nat.mod_lt x h0
  have h2 := Nat.mod_lt y h0
  have := (Nat.div_lt_iff_lt_mul h0).2 (show x % 65536 ^ i + y % 65536 ^ i < 2 * 65536 ^ i by omega)
  omega
theorem add_div_pow (x y i : Nat) : (x + y) / 65536 ^ i = x / 65536 ^ i + y / 65536 ^ i + cy x y i := by
  rw [cy_eq]
  have h0 := bpow_pos i
  generalize 65536 ^ i = B at *
  have e1 := Nat.div_add_mod x B
  have e2 := Nat.div_add_mod y B
  have e3 : x + y = (x % B + y % B) + B * (x / B + y / B) := by rw [Nat.mul_add]; omega
  conv => lhs; rw [e3]
  rw [Nat.add_mul_div_left _ _ h0]
  omega
theorem sum_digit (x y i : Nat) : (dg x i + dg y i + cy x y i) % 65536 = dg (x + y) i := by
  rw [dg_eq, dg_eq, dg_eq, add_div_pow]
  generalize x / 65536 ^ i = X
  generalize y / 65536 ^ i = Y
  omega
theorem sum_carry (x y i : Nat) : (dg x i + dg y i + cy x y i) / 65536 = cy x y (i + 1) := by
  have h0 := bpow_pos i
  have hx := mod_step x i
  have hy := mod_step y i
  rw [cy_eq x y (i + 1), hx, hy, Nat.pow_succ, ← Nat.div_div_eq_div_mul]
  congr 1
  rw [cy_eq]
  generalize 65536 ^ i = B at *
  rw [show x % B + B * dg x i + (y % B + B * dg y i) = (x % B + y % B) + B * (dg x i + dg y i) by rw [Nat.mul_add]; omega, Nat.add_mul_div_left _ _ h0]
  omega
theorem cy_big {x y i : Nat} (hx : x < 65536 ^ i) (hy : y < 65536 ^ i) : cy x y i = (x + y) / 65536 ^ i := by
  rw [cy_eq, Nat.mod_eq_of_lt hx, Nat.mod_eq_of_lt hy]
theorem pow_mono {n m : Nat} (h : n ≤ m) : 65536 ^ n ≤ 65536 ^ m := Nat.pow_le_pow_right (by omega) h

noncomputable def sumN (n x m y : Nat) : Nat := max n m + cy x y (max n m)
theorem sumN_lt {n x m y : Nat} (hx : x < 65536 ^ n) (hy : y < 65536 ^ m) : x + y < 65536 ^ sumN n x m y := by
  have hx' : x < 65536 ^ max n m := Nat.lt_of_lt_of_le hx (pow_mono (by omega))
  have hy' : y < 65536 ^ max n m := Nat.lt_of_lt_of_le hy (pow_mono (by omega))
  have h1 := cy_le x y (max n m)
  have h2 := cy_big hx' hy'
  unfold sumN
  generalize max n m = k at *
  have h0 := bpow_pos k
  rcases (show cy x y k = 0 ∨ cy x y k = 1 by omega) with h | h
  · rw [h] at h2 ⊢
    rw [Nat.add_zero]
    exact Nat.lt_of_div_eq_zero h0 h2.symm
  · rw [h, Nat.pow_succ]
    omega

noncomputable def sumG : List DV → Option RV
  | [.vec xs, .vec ys] => match toD xs, toD ys with
    | some (n, x), some (m, y) => if n + m ≤ 1000 then some (.one (.vec (digV (sumN n x m y) (x + y)))) else none
    | _, _ => none
  | _ => none

theorem len_lim (i : Nat) (h : i ≤ 2000) : ((i + 1) * 8 ≤ 140737488355328) = True ∧ (i ≤ 140737488355327) = True := by
  refine ⟨eq_true (by omega), eq_true (by omega)⟩

noncomputable def smS (n x m y i : Nat) : St := ⟨[(7, .pl (.int .i64 (i : Nat))), (6, .pl (.int .i64 (cy x y i : Nat))), (5, .sl 9 i 0 i), (0, .vec false (digV n x)), (1, .vec false (digV m y))], [(9, ⟨i, 3, digV i (x + y)⟩)]⟩

set_option maxHeartbeats 4000000 in
theorem sum_walk (n x m y : Nat) (hx : x < 65536 ^ n) (hy : y < 65536 ^ m) (hb : n + m ≤ 1000) : Spec Try.prog 65 [.vec (digV n x), .vec (digV m y)] (.one (.vec (digV (sumN n x m y) (x + y)))) := by
  have hΓ : Env.ok [(64, digitG)] Try.prog := ok_cons digit_ok (ok_nil _)
  have tx := toD_digV hx
  have ty := toD_digV hy
  have lx := digV_len n x
  have ly := digV_len m y
  have hc0 := cy_0 x y
  have hmx := cy_le x y (max n m)
  have hsN : sumN n x m y = max n m + cy x y (max n m) := rfl
  refine Spec.of_vx hΓ follows_mixed Try.func65 rfl (by kernel_rfl) (T := []) (by simp [Try.ntmps65]) (by kernel_rfl) rfl Try.ntmps65 (res := [.tmp 4]) rfl ?_
  intro W
  simp -implicitDefEqProofs (maxSteps := 10000000) only [vy_succ, vy_zero, vx_skip, vx_reg0, vx_reg1, vx_ord, xx_done, xx_stop, xx_alt, vx_seq, vx_cond, vx_block, vx_exit, vx_ret, vx_loop, gx_nil, gx_cons, dx_nil, dx_cons, slim, slimOp, gO, gSO, qSO, quietOp, cx_nil, cx_cons, xx_alc, cS, qSB, eK, calmOp, guardS, gK, qK, putK, plK, dOk, St.ev, St.get, St.mem, St.set, St.setm, St.put, lookA, look, newK, nextver, initT, seqE, blockQ, bodyQ, resK, retV, AV.rdv, cells_agg, cells_int, cells_bool, cells_string, cells_slice, cells_uV, agg_uV, isNil_uV, toN_uV, i64_in, IntKind.wrap_u64, IntKind.wrap_u8, IntKind.wrap_u32, ↓binK, ↓intK, unK, ↓loadK, ↓withKey_eq, ↓idxAddrK, ↓indexK, ↓partK, ↓fieldK, ↓fieldAddrK, ↓convK, ↓callK, wrG, updK, ↓lenK, ↓mmK, ↓appK, ↓copyK, ↓sliceK, ↓toArrK, nilK, optK_some, optK_tup, optK_ite, evs, plains, seqParts, capsOf, capsD, List.append_nil, List.nil_append, List.cons_append, AV.dv, AV.cont, isNil_agg, isNil_int, isNil_bool, isNil_string, isNil_nil, isNil_slice, ↓buildV_eq, fillL, placesOf, Option.map_some, Option.map_none, ↓storeK, wrL, RV.av, DV.av, List.set, List.map_cons, List.map_nil, List.length_cons, List.length_nil, List.all_cons, List.all_nil, List.getElem?_cons_zero, List.getElem?_cons_succ, List.getElem?_nil, List.size_toArray, List.getElem?_toArray, List.drop_zero, List.drop_succ_cons, List.take_zero, List.take_succ_cons, Option.getD_some, Option.getD_none, Option.some.injEq, Option.isSome_some, Nat.reduceEqDiff, Nat.reduceAdd, Nat.reduceSub, Nat.reduceMul, Nat.reduceLT, Nat.reduceLeDiff, Nat.reduceMod, Nat.reduceDiv, Int.cast_ofNat_Int, Int.reduceLT, Int.reduceLE, Int.reduceToNat, ↓reduceIte, true_and, and_true, true_or, or_true, or_false, false_or, reduceCtorEq, Bool.false_eq_true, Bool.and_true, Bool.not_true, Bool.not_false, beq_self_eq_true, Bool.true_beq, Bool.false_beq, Value.oneCell', decide_true, decide_false, Int.reduceAdd, Int.reduceSub, Int.reduceMod, Int.reduceMul, Int.reduceNeg, Int.reduceBEq, Int.reduceBNe, Int.reduceTDiv, Int.reduceTMod, ne_eq, not_false_eq_true, not_true_eq_false, Int.reduceEq, Nat.zero_add, Nat.add_zero, Nat.le_refl, tyB, Try.underlying13, Try.underlying25, Try.underlying26, Try.underlying53, Try.underlying54]
  refine VT_loop hΓ follows_mixed (smS n x m y) (fun i => i ≤ sumN n x m y) (fun i => sumN n x m y - i) 0 (Sub.of (by simp -implicitDefEqProofs only [subT, smS, hc0, look, lookA, newK, St.get, St.mem, List.map_cons, List.map_nil, List.all_cons, List.all_nil, List.length_cons, List.length_nil, List.getElem?_cons_zero, List.getElem?_cons_succ, Nat.reduceEqDiff, Nat.reduceAdd, Option.some.injEq, ↓reduceIte, true_and, and_true, reduceCtorEq, beq_self_eq_true, Bool.and_true, ne_eq, not_false_eq_true, not_true_eq_false, Nat.add_zero, Nat.zero_add, Nat.reduceSub, Nat.reduceMul, Int.cast_ofNat_Int, Int.reduceAdd, Int.reduceSub, Int.reduceMul, Int.natCast_zero]) (by simp -implicitDefEqProofs only [subM, smS, digV_0, look, lookA, newK, St.get, St.mem, List.map_cons, List.map_nil, List.all_cons, List.all_nil, List.length_cons, List.length_nil, List.getElem?_cons_zero, List.getElem?_cons_succ, Nat.reduceEqDiff, Nat.reduceAdd, Option.some.injEq, ↓reduceIte, true_and, and_true, reduceCtorEq, beq_self_eq_true, Bool.and_true, ne_eq, not_false_eq_true, not_true_eq_false, Nat.add_zero, Nat.zero_add, Nat.reduceSub, Nat.reduceMul, Int.cast_ofNat_Int, Int.reduceAdd, Int.reduceSub, Int.reduceMul, Int.natCast_zero]) rfl) (by omega) ?_
  intro i hi
  have li := digV_len i (x + y)
  by_cases hlt : i < sumN n x m y
  · have hdx := dg_lt x i
    have hdy := dg_lt y i
    have hcy := cy_le x y i
    have hsd := sum_digit x y i
    have hsc := sum_carry x y i
    have w1 : IntKind.i64.wrap ((dg x i : Nat) + (dg y i : Nat) : Int) = ((dg x i + dg y i : Nat) : Int) := by rw [i64_in (by omega) (by omega)]; omega
    have w2 : IntKind.i64.wrap (((dg x i + dg y i : Nat) : Int) + (cy x y i : Nat)) = ((dg x i + dg y i + cy x y i : Nat) : Int) := by rw [i64_in (by omega) (by omega)]; omega
    have w3 : ((dg x i + dg y i + cy x y i : Nat) : Int).tmod 65536 = (dg (x + y) i : Nat) := by rw [Int.tmod_eq_emod_of_nonneg (by omega), ← hsd]; omega
    have w4 : IntKind.i64.wrap (((dg x i + dg y i + cy x y i : Nat) : Int).tdiv 65536) = (cy x y (i + 1) : Nat) := by
      rw [Int.tdiv_eq_ediv_of_nonneg (by omega), ← hsc, i64_in (by omega) (by omega)]; omega
    have w5 : IntKind.i64.wrap ((i : Int) + 1) = (i : Int) + 1 := i64_in (by omega) (by omega)
    have w6 : (0 : Int) ≤ (i : Int) := by omega
    have hs := (digV_snoc i (x + y)).symm
    have hll := len_lim i (by omega)
    generalize dg x i + dg y i + cy x y i = s at *
    by_cases c1 : i < n
    · have r1 : decide ((i : Int) < (n : Int)) = true := decide_eq_true (by omega)
      simp -implicitDefEqProofs (maxSteps := 10000000) only [smS, digitG, lx, ly, tx, ty, li, w1, w2, w3, w4, w5, w6, r1, hs, hll.1, hll.2, Int.toNat_natCast, vy_succ, vy_zero, vx_skip, vx_reg0, vx_reg1, vx_ord, xx_done, xx_stop, xx_alt, vx_seq, vx_cond, vx_block, vx_exit, vx_ret, vx_loop, gx_nil, gx_cons, dx_nil, dx_cons, slim, slimOp, gO, gSO, qSO, quietOp, cx_nil, cx_cons, xx_alc, cS, qSB, eK, calmOp, guardS, gK, qK, putK, plK, dOk, St.ev, St.get, St.mem, St.set, St.setm, St.put, lookA, look, newK, nextver, initT, seqE, blockQ, bodyQ, resK, retV, AV.rdv, cells_agg, cells_int, cells_bool, cells_string, cells_slice, cells_uV, agg_uV, isNil_uV, toN_uV, i64_in, IntKind.wrap_u64, IntKind.wrap_u8, IntKind.wrap_u32, ↓binK, ↓intK, unK, ↓loadK, ↓withKey_eq, ↓idxAddrK, ↓indexK, ↓partK, ↓fieldK, ↓fieldAddrK, ↓convK, ↓callK, wrG, updK, ↓lenK, ↓mmK, ↓appK, ↓copyK, ↓sliceK, ↓toArrK, nilK, optK_some, optK_tup, optK_ite, evs, plains, seqParts, capsOf, capsD, List.append_nil, List.nil_append, List.cons_append, AV.dv, AV.cont, isNil_agg, isNil_int, isNil_bool, isNil_string, isNil_nil, isNil_slice, ↓buildV_eq, fillL, placesOf, Option.map_some, Option.map_none, ↓storeK, wrL, RV.av, DV.av, List.set, List.map_cons, List.map_nil, List.length_cons, List.length_nil, List.all_cons, List.all_nil, List.getElem?_cons_zero, List.getElem?_cons_succ, List.getElem?_nil, List.size_toArray, List.getElem?_toArray, List.drop_zero, List.drop_succ_cons, List.take_zero, List.take_succ_cons, Option.getD_some, Option.getD_none, Option.some.injEq, Option.isSome_some, Nat.reduceEqDiff, Nat.reduceAdd, Nat.reduceSub, Nat.reduceMul, Nat.reduceLT, Nat.reduceLeDiff, Nat.reduceMod, Nat.reduceDiv, Int.cast_ofNat_Int, Int.reduceLT, Int.reduceLE, Int.reduceToNat, ↓reduceIte, true_and, and_true, true_or, or_true, or_false, false_or, reduceCtorEq, Bool.false_eq_true, Bool.and_true, Bool.not_true, Bool.not_false, beq_self_eq_true, Bool.true_beq, Bool.false_beq, Value.oneCell', decide_true, decide_false, Int.reduceAdd, Int.reduceSub, Int.reduceMod, Int.reduceMul, Int.reduceNeg, Int.reduceBEq, Int.reduceBNe, Int.reduceTDiv, Int.reduceTMod, ne_eq, not_false_eq_true, not_true_eq_false, Int.reduceEq, Nat.zero_add, Nat.add_zero, Nat.le_refl, tyB, Try.underlying13, Try.underlying25, Try.underlying26, Try.underlying53, Try.underlying54]
      exact ⟨i + 1, by omega, (by show sumN n x m y - (i + 1) < sumN n x m y - i; omega), Sub.of (by simp -implicitDefEqProofs only [subT, smS, look, lookA, newK, St.get, St.mem, List.map_cons, List.map_nil, List.all_cons, List.all_nil, List.length_cons, List.length_nil, List.getElem?_cons_zero, List.getElem?_cons_succ, Nat.reduceEqDiff, Nat.reduceAdd, Option.some.injEq, ↓reduceIte, true_and, and_true, reduceCtorEq, beq_self_eq_true, Bool.and_true, ne_eq, not_false_eq_true, not_true_eq_false, Nat.add_zero, Nat.zero_add, Nat.reduceSub, Nat.reduceMul, Int.cast_ofNat_Int, Int.reduceAdd, Int.reduceSub, Int.reduceMul, Int.natCast_add, Int.natCast_one]) (by simp -implicitDefEqProofs only [subM, smS, look, lookA, newK, St.get, St.mem, List.map_cons, List.map_nil, List.all_cons, List.all_nil, List.length_cons, List.length_nil, List.getElem?_cons_zero, List.getElem?_cons_succ, Nat.reduceEqDiff, Nat.reduceAdd, Option.some.injEq, ↓reduceIte, true_and, and_true, reduceCtorEq, beq_self_eq_true, Bool.and_true, ne_eq, not_false_eq_true, not_true_eq_false, Nat.add_zero, Nat.zero_add, Nat.reduceSub, Nat.reduceMul, Int.cast_ofNat_Int, Int.reduceAdd, Int.reduceSub, Int.reduceMul]) rfl⟩
    · have r1 : decide ((i : Int) < (n : Int)) = false := decide_eq_false (by omega)
      by_cases c2 : i < m
      · have r2 : decide ((i : Int) < (m : Int)) = true := decide_eq_true (by omega)
        simp -implicitDefEqProofs (maxSteps := 10000000) only [smS, digitG, lx, ly, tx, ty, li, w1, w2, w3, w4, w5, w6, r1, r2, hs, hll.1, hll.2, Int.toNat_natCast, vy_succ, vy_zero, vx_skip, vx_reg0, vx_reg1, vx_ord, xx_done, xx_stop, xx_alt, vx_seq, vx_cond, vx_block, vx_exit, vx_ret, vx_loop, gx_nil, gx_cons, dx_nil, dx_cons, slim, slimOp, gO, gSO, qSO, quietOp, cx_nil, cx_cons, xx_alc, cS, qSB, eK, calmOp, guardS, gK, qK, putK, plK, dOk, St.ev, St.get, St.mem, St.set, St.setm, St.put, lookA, look, newK, nextver, initT, seqE, blockQ, bodyQ, resK, retV, AV.rdv, cells_agg, cells_int, cells_bool, cells_string, cells_slice, cells_uV, agg_uV, isNil_uV, toN_uV, i64_in, IntKind.wrap_u64, IntKind.wrap_u8, IntKind.wrap_u32, ↓binK, ↓intK, unK, ↓loadK, ↓withKey_eq, ↓idxAddrK, ↓indexK, ↓partK, ↓fieldK, ↓fieldAddrK, ↓convK, ↓callK, wrG, updK, ↓lenK, ↓mmK, ↓appK, ↓copyK, ↓sliceK, ↓toArrK, nilK, optK_some, optK_tup, optK_ite, evs, plains, seqParts, capsOf, capsD, List.append_nil, List.nil_append, List.cons_append, AV.dv, AV.cont, isNil_agg, isNil_int, isNil_bool, isNil_string, isNil_nil, isNil_slice, ↓buildV_eq, fillL, placesOf, Option.map_some, Option.map_none, ↓storeK, wrL, RV.av, DV.av, List.set, List.map_cons, List.map_nil, List.length_cons, List.length_nil, List.all_cons, List.all_nil, List.getElem?_cons_zero, List.getElem?_cons_succ, List.getElem?_nil, List.size_toArray, List.getElem?_toArray, List.drop_zero, List.drop_succ_cons, List.take_zero, List.take_succ_cons, Option.getD_some, Option.getD_none, Option.some.injEq, Option.isSome_some, Nat.reduceEqDiff, Nat.reduceAdd, Nat.reduceSub, Nat.reduceMul, Nat.reduceLT, Nat.reduceLeDiff, Nat.reduceMod, Nat.reduceDiv, Int.cast_ofNat_Int, Int.reduceLT, Int.reduceLE, Int.reduceToNat, ↓reduceIte, true_and, and_true, true_or, or_true, or_false, false_or, reduceCtorEq, Bool.false_eq_true, Bool.and_true, Bool.not_true, Bool.not_false, beq_self_eq_true, Bool.true_beq, Bool.false_beq, Value.oneCell', decide_true, decide_false, Int.reduceAdd, Int.reduceSub, Int.reduceMod, Int.reduceMul, Int.reduceNeg, Int.reduceBEq, Int.reduceBNe, Int.reduceTDiv, Int.reduceTMod, ne_eq, not_false_eq_true, not_true_eq_false, Int.reduceEq, Nat.zero_add, Nat.add_zero, Nat.le_refl, tyB, Try.underlying13, Try.underlying25, Try.underlying26, Try.underlying53, Try.underlying54]
        exact ⟨i + 1, by omega, (by show sumN n x m y - (i + 1) < sumN n x m y - i; omega), Sub.of (by simp -implicitDefEqProofs only [subT, smS, look, lookA, newK, St.get, St.mem, List.map_cons, List.map_nil, List.all_cons, List.all_nil, List.length_cons, List.length_nil, List.getElem?_cons_zero, List.getElem?_cons_succ, Nat.reduceEqDiff, Nat.reduceAdd, Option.some.injEq, ↓reduceIte, true_and, and_true, reduceCtorEq, beq_self_eq_true, Bool.and_true, ne_eq, not_false_eq_true, not_true_eq_false, Nat.add_zero, Nat.zero_add, Nat.reduceSub, Nat.reduceMul, Int.cast_ofNat_Int, Int.reduceAdd, Int.reduceSub, Int.reduceMul, Int.natCast_add, Int.natCast_one]) (by simp -implicitDefEqProofs only [subM, smS, look, lookA, newK, St.get, St.mem, List.map_cons, List.map_nil, List.all_cons, List.all_nil, List.length_cons, List.length_nil, List.getElem?_cons_zero, List.getElem?_cons_succ, Nat.reduceEqDiff, Nat.reduceAdd, Option.some.injEq, ↓reduceIte, true_and, and_true, reduceCtorEq, beq_self_eq_true, Bool.and_true, ne_eq, not_false_eq_true, not_true_eq_false, Nat.add_zero, Nat.zero_add, Nat.reduceSub, Nat.reduceMul, Int.cast_ofNat_Int, Int.reduceAdd, Int.reduceSub, Int.reduceMul]) rfl⟩
      · have r2 : decide ((i : Int) < (m : Int)) = false := decide_eq_false (by omega)
        have e : i = max n m := by omega
        have r3 : decide (0 < ((cy x y i : Nat) : Int)) = true := decide_eq_true (by rw [e]; omega)
        simp -implicitDefEqProofs (maxSteps := 10000000) only [smS, digitG, lx, ly, tx, ty, li, w1, w2, w3, w4, w5, w6, r1, r2, r3, hs, hll.1, hll.2, Int.toNat_natCast, vy_succ, vy_zero, vx_skip, vx_reg0, vx_reg1, vx_ord, xx_done, xx_stop, xx_alt, vx_seq, vx_cond, vx_block, vx_exit, vx_ret, vx_loop, gx_nil, gx_cons, dx_nil, dx_cons, slim, slimOp, gO, gSO, qSO, quietOp, cx_nil, cx_cons, xx_alc, cS, qSB, eK, calmOp, guardS, gK, qK, putK, plK, dOk, St.ev, St.get, St.mem, St.set, St.setm, St.put, lookA, look, newK, nextver, initT, seqE, blockQ, bodyQ, resK, retV, AV.rdv, cells_agg, cells_int, cells_bool, cells_string, cells_slice, cells_uV, agg_uV, isNil_uV, toN_uV, i64_in, IntKind.wrap_u64, IntKind.wrap_u8, IntKind.wrap_u32, ↓binK, ↓intK, unK, ↓loadK, ↓withKey_eq, ↓idxAddrK, ↓indexK, ↓partK, ↓fieldK, ↓fieldAddrK, ↓convK, ↓callK, wrG, updK, ↓lenK, ↓mmK, ↓appK, ↓copyK, ↓sliceK, ↓toArrK, nilK, optK_some, optK_tup, optK_ite, evs, plains, seqParts, capsOf, capsD, List.append_nil, List.nil_append, List.cons_append, AV.dv, AV.cont, isNil_agg, isNil_int, isNil_bool, isNil_string, isNil_nil, isNil_slice, ↓buildV_eq, fillL, placesOf, Option.map_some, Option.map_none, ↓storeK, wrL, RV.av, DV.av, List.set, List.map_cons, List.map_nil, List.length_cons, List.length_nil, List.all_cons, List.all_nil, List.getElem?_cons_zero, List.getElem?_cons_succ, List.getElem?_nil, List.size_toArray, List.getElem?_toArray, List.drop_zero, List.drop_succ_cons, List.take_zero, List.take_succ_cons, Option.getD_some, Option.getD_none, Option.some.injEq, Option.isSome_some, Nat.reduceEqDiff, Nat.reduceAdd, Nat.reduceSub, Nat.reduceMul, Nat.reduceLT, Nat.reduceLeDiff, Nat.reduceMod, Nat.reduceDiv, Int.cast_ofNat_Int, Int.reduceLT, Int.reduceLE, Int.reduceToNat, ↓reduceIte, true_and, and_true, true_or, or_true, or_false, false_or, reduceCtorEq, Bool.false_eq_true, Bool.and_true, Bool.not_true, Bool.not_false, beq_self_eq_true, Bool.true_beq, Bool.false_beq, Value.oneCell', decide_true, decide_false, Int.reduceAdd, Int.reduceSub, Int.reduceMod, Int.reduceMul, Int.reduceNeg, Int.reduceBEq, Int.reduceBNe, Int.reduceTDiv, Int.reduceTMod, ne_eq, not_false_eq_true, not_true_eq_false, Int.reduceEq, Nat.zero_add, Nat.add_zero, Nat.le_refl, tyB, Try.underlying13, Try.underlying25, Try.underlying26, Try.underlying53, Try.underlying54]
        exact ⟨i + 1, by omega, (by show sumN n x m y - (i + 1) < sumN n x m y - i; omega), Sub.of (by simp -implicitDefEqProofs only [subT, smS, look, lookA, newK, St.get, St.mem, List.map_cons, List.map_nil, List.all_cons, List.all_nil, List.length_cons, List.length_nil, List.getElem?_cons_zero, List.getElem?_cons_succ, Nat.reduceEqDiff, Nat.reduceAdd, Option.some.injEq, ↓reduceIte, true_and, and_true, reduceCtorEq, beq_self_eq_true, Bool.and_true, ne_eq, not_false_eq_true, not_true_eq_false, Nat.add_zero, Nat.zero_add, Nat.reduceSub, Nat.reduceMul, Int.cast_ofNat_Int, Int.reduceAdd, Int.reduceSub, Int.reduceMul, Int.natCast_add, Int.natCast_one]) (by simp -implicitDefEqProofs only [subM, smS, look, lookA, newK, St.get, St.mem, List.map_cons, List.map_nil, List.all_cons, List.all_nil, List.length_cons, List.length_nil, List.getElem?_cons_zero, List.getElem?_cons_succ, Nat.reduceEqDiff, Nat.reduceAdd, Option.some.injEq, ↓reduceIte, true_and, and_true, reduceCtorEq, beq_self_eq_true, Bool.and_true, ne_eq, not_false_eq_true, not_true_eq_false, Nat.add_zero, Nat.zero_add, Nat.reduceSub, Nat.reduceMul, Int.cast_ofNat_Int, Int.reduceAdd, Int.reduceSub, Int.reduceMul]) rfl⟩
  · have e : i = sumN n x m y := by omega
    have r1 : decide ((i : Int) < (n : Int)) = false := decide_eq_false (by omega)
    have r2 : decide ((i : Int) < (m : Int)) = false := decide_eq_false (by omega)
    have r3 : decide (0 < ((cy x y i : Nat) : Int)) = false := decide_eq_false (by
      have hcc : cy x y i = 0 := by
        rw [cy_big (Nat.lt_of_lt_of_le hx (pow_mono (by omega))) (Nat.lt_of_lt_of_le hy (pow_mono (by omega)))]
        apply Nat.div_eq_of_lt
        rw [e]
        exact sumN_lt hx hy
      omega)
    have ht : (digV i (x + y)).take i = digV i (x + y) := List.take_of_length_le (by omega)
    simp -implicitDefEqProofs (maxSteps := 10000000) only [vy_succ, vy_zero, vx_skip, vx_reg0, vx_reg1, vx_ord, xx_done, xx_stop, xx_alt, vx_seq, vx_cond, vx_block, vx_exit, vx_ret, vx_loop, gx_nil, gx_cons, dx_nil, dx_cons, slim, slimOp, gO, gSO, qSO, quietOp, cx_nil, cx_cons, xx_alc, cS, qSB, eK, calmOp, guardS, gK, qK, putK, plK, dOk, St.ev, St.get, St.mem, St.set, St.setm, St.put, lookA, look, newK, nextver, initT, seqE, blockQ, bodyQ, resK, retV, AV.rdv, cells_agg, cells_int, cells_bool, cells_string, cells_slice, cells_uV, agg_uV, isNil_uV, toN_uV, i64_in, IntKind.wrap_u64, IntKind.wrap_u8, IntKind.wrap_u32, ↓binK, ↓intK, unK, ↓loadK, ↓withKey_eq, ↓idxAddrK, ↓indexK, ↓partK, ↓fieldK, ↓fieldAddrK, ↓convK, ↓callK, wrG, updK, ↓lenK, ↓mmK, ↓appK, ↓copyK, ↓sliceK, ↓toArrK, nilK, optK_some, optK_tup, optK_ite, evs, plains, seqParts, capsOf, capsD, List.append_nil, List.nil_append, List.cons_append, AV.dv, AV.cont, isNil_agg, isNil_int, isNil_bool, isNil_string, isNil_nil, isNil_slice, ↓buildV_eq, fillL, placesOf, Option.map_some, Option.map_none, ↓storeK, wrL, RV.av, DV.av, List.set, List.map_cons, List.map_nil, List.length_cons, List.length_nil, List.all_cons, List.all_nil, List.getElem?_cons_zero, List.getElem?_cons_succ, List.getElem?_nil, List.size_toArray, List.getElem?_toArray, List.drop_zero, List.drop_succ_cons, List.take_zero, List.take_succ_cons, Option.getD_some, Option.getD_none, Option.some.injEq, Option.isSome_some, Nat.reduceEqDiff, Nat.reduceAdd, Nat.reduceSub, Nat.reduceMul, Nat.reduceLT, Nat.reduceLeDiff, Nat.reduceMod, Nat.reduceDiv, Int.cast_ofNat_Int, Int.reduceLT, Int.reduceLE, Int.reduceToNat, ↓reduceIte, true_and, and_true, true_or, or_true, or_false, false_or, reduceCtorEq, Bool.false_eq_true, Bool.and_true, Bool.not_true, Bool.not_false, beq_self_eq_true, Bool.true_beq, Bool.false_beq, Value.oneCell', decide_true, decide_false, Int.reduceAdd, Int.reduceSub, Int.reduceMod, Int.reduceMul, Int.reduceNeg, Int.reduceBEq, Int.reduceBNe, Int.reduceTDiv, Int.reduceTMod, ne_eq, not_false_eq_true, not_true_eq_false, Int.reduceEq, Nat.zero_add, Nat.add_zero, Nat.le_refl, tyB, Try.underlying13, Try.underlying25, Try.underlying26, Try.underlying53, Try.underlying54, smS, lx, ly, li, r1, r2, r3, ht]
    rw [← e]

theorem sum_ok : ∀ ds r, sumG ds = some r → Spec Try.prog 65 ds r := by
  intro ds r h
  unfold sumG at h
  split at h
  case h_2 => cases h
  rename_i xs ys
  split at h
  case h_2 => cases h
  rename_i n x m y hx hy
  split at h
  case isFalse => cases h
  rename_i hb
  cases h
  obtain ⟨rfl, hx'⟩ := toD_out hx
  obtain ⟨rfl, hy'⟩ := toD_out hy
  exact sum_walk n x m y hx' hy' hb
end Go.Vm
