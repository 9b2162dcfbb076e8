/- Contract: Inv; the law FieldTurns, as the machine walks it. No condition. -/
import Derived.Test.YtcbcmfmcpdimkaaPo
import Derived.Test.YtcbcmfmcpdimkaaNu
set_option maxRecDepth 100000
set_option linter.unusedSimpArgs false
set_option linter.unusedVariables false
namespace Go.Vm
open Go Go.RowKit Go.Proofs

theorem isW_two {w : Int} (h : isW w = true) : w = 0 ∨ w = 1 := by
  unfold isW at h
  simpa using h
theorem pN_prm {w : Int} (h : isW w = true) : Prm (pN w) := by
  rcases isW_two h with rfl | rfl
  · have e : pN 0 = 115792089237316195423570985008687907853269984665640564039457584007908834671663 := by rw [pN_eq, cOf_eq, full_eq]; simp
    rw [e]; exact prm_115792089237316195423570985008687907853269984665640564039457584007908834671663
  · have e : pN 1 = 115792089237316195423570985008687907852837564279074904382605163141518161494337 := by rw [pN_eq, cOf_eq, full_eq]; simp
    rw [e]; exact prm_115792089237316195423570985008687907852837564279074904382605163141518161494337

/-! ### Plain laws -/
theorem inv_mul {p a : Nat} (hp : Prm p) (ha : a % p ≠ 0) : a * pwN a (p - 2) p % p = 1 := by
  have h2 := hp.1
  have e : a * a ^ (p - 2) = a ^ (p - 1) := by rw [← Nat.pow_succ']; congr 1; omega
  rw [pwN_eq, Nat.mul_mod_mod, e]
  exact fermat hp (fun h => ha (Nat.mod_eq_zero_of_dvd h))
theorem inv_ne {p a : Nat} (hp : Prm p) (ha : a % p ≠ 0) : pwN a (p - 2) p % p ≠ 0 := by
  intro h
  have h1 := inv_mul hp ha
  rw [Nat.mul_mod, h, Nat.mul_zero, Nat.zero_mod] at h1
  omega
theorem inv_inv {p a : Nat} (hp : Prm p) (ha : a % p ≠ 0) : pwN (pwN a (p - 2) p) (p - 2) p = a % p := by
  have h1 := inv_mul hp ha
  have h2 := inv_mul hp (inv_ne hp ha)
  have h3 := pwN_lt (pwN a (p - 2) p) (p - 2) (p := p) (by have := hp.1; omega)
  generalize pwN a (p - 2) p = x at *
  generalize pwN x (p - 2) p = y at *
  have h4 : a * (x * y) % p = a % p := by rw [← Nat.mul_mod_mod, h2, Nat.mul_one]
  have h5 : a * (x * y) % p = y := by rw [← Nat.mul_assoc, ← Nat.mod_mul_mod, h1, Nat.one_mul, Nat.mod_eq_of_lt h3]
  rw [← h5, h4]

noncomputable def finvG : List DV → Option RV
  | [.pl va, .pl (.int .i64 w)] => match toN va with
    | some a => some (if isW w = true then (if a % pN w = 0 then .tup [.pl (uV 0), .pl (.int .i64 6)] else .tup [.pl (uV (pwN a (pN w - 2) (pN w))), .pl (.int .i64 0)]) else .tup [.pl (uV 0), .pl (.int .i64 1)])
    | none => none
  | _ => none
theorem eqU_p0 (x : Nat) (w : Int) : eqU (x % pN w) 0 = decide (x % pN w = 0) := eqU_lt (mod_pN x w) full_pos

set_option maxHeartbeats 4000000 in
theorem finv_ok : ∀ ds r, finvG ds = some r → Spec Try.prog 58 ds r := by
  intro ds r h
  unfold finvG at h
  split at h
  case h_2 => cases h
  rename_i va w
  split at h
  case h_2 => cases h
  rename_i a ha
  cases h
  obtain ⟨rfl, ha'⟩ := toN_eq ha
  have hΓ : Env.ok [(40, belowG), (42, reduceG), (47, modulusG), (48, subG), (62, powerG)] Try.prog := ok_cons below_ok (ok_cons reduce_ok (ok_cons modulus_ok (ok_cons sub_ok (ok_cons power_ok (ok_nil _)))))
  have tc := toN_c w
  have oc := cOk_c w
  have tp : toN (uV (pN w)) = some (pN w) := toN_lt (pN_lt w)
  have hbig := pN_huge w
  have hlt := pN_lt w
  have u2 : uV (pN w + full - 2) = uV (pN w - 2) := by
    apply uV_inj
    rw [show pN w + full - 2 = pN w - 2 + full by omega, Nat.add_mod_right]
  have t2 : toN (uV (pN w - 2)) = some (pN w - 2) := toN_lt (by omega)
  have t22 : toN (uV 2) = some 2 := toN_lt (by omega)
  have z : ∀ x : Nat, (x + 0 * full) = x := fun x => by omega
  refine Spec.of_vx hΓ follows_mixed Try.func58 rfl (by kernel_rfl) (T := []) (by simp [Try.ntmps58]) (by kernel_rfl) rfl Try.ntmps58 (res := [.cell 4 24, .tmp 5]) rfl ?_
  intro W
  cases hw : isW w
  · simp -implicitDefEqProofs (maxSteps := 10000000) only [vy_succ, vy_zero, vx_skip, vx_reg0, vx_reg1, vx_ord, xx_done, xx_stop, xx_alt, vx_seq, vx_cond, vx_block, vx_exit, vx_ret, vx_loop, gx_nil, gx_cons, dx_nil, dx_cons, slim, slimOp, gO, gSO, qSO, quietOp, cx_nil, cx_cons, xx_alc, cS, qSB, eK, calmOp, guardS, gK, qK, putK, plK, dOk, St.ev, St.get, St.mem, St.set, St.setm, St.put, lookA, look, newK, nextver, initT, seqE, blockQ, bodyQ, resK, retV, AV.rdv, cells_agg, cells_int, cells_bool, cells_string, cells_slice, cells_uV, agg_uV, isNil_uV, toN_uV, i64_in, IntKind.wrap_u64, IntKind.wrap_u8, IntKind.wrap_u32, ↓binK, ↓intK, unK, ↓loadK, ↓withKey_eq, ↓idxAddrK, ↓indexK, ↓partK, ↓fieldK, ↓fieldAddrK, ↓convK, ↓callK, wrG, updK, ↓lenK, ↓mmK, ↓appK, ↓copyK, ↓sliceK, ↓toArrK, nilK, optK_some, optK_tup, optK_ite, evs, plains, seqParts, capsOf, capsD, List.append_nil, List.nil_append, List.cons_append, AV.dv, AV.cont, isNil_agg, isNil_int, isNil_bool, isNil_string, isNil_nil, isNil_slice, ↓buildV_eq, fillL, placesOf, Option.map_some, Option.map_none, ↓storeK, wrL, RV.av, DV.av, List.set, List.map_cons, List.map_nil, List.length_cons, List.length_nil, List.all_cons, List.all_nil, List.getElem?_cons_zero, List.getElem?_cons_succ, List.getElem?_nil, List.size_toArray, List.getElem?_toArray, List.drop_zero, List.drop_succ_cons, List.take_zero, List.take_succ_cons, Option.getD_some, Option.getD_none, Option.some.injEq, Option.isSome_some, Nat.reduceEqDiff, Nat.reduceAdd, Nat.reduceSub, Nat.reduceMul, Nat.reduceLT, Nat.reduceLeDiff, Nat.reduceMod, Nat.reduceDiv, Int.cast_ofNat_Int, Int.reduceLT, Int.reduceLE, Int.reduceToNat, ↓reduceIte, true_and, and_true, true_or, or_true, or_false, false_or, reduceCtorEq, Bool.false_eq_true, Bool.and_true, Bool.not_true, Bool.not_false, beq_self_eq_true, Bool.true_beq, Bool.false_beq, Value.oneCell', decide_true, decide_false, Int.reduceAdd, Int.reduceSub, Int.reduceMod, Int.reduceMul, Int.reduceNeg, Int.reduceBEq, Int.reduceBNe, Int.reduceTDiv, Int.reduceTMod, ne_eq, not_false_eq_true, not_true_eq_false, Int.reduceEq, Nat.zero_add, Nat.add_zero, Nat.le_refl, tyB, Try.underlying13, Try.underlying25, Try.underlying26, Try.underlying53, Try.underlying54, belowG, hw, uV_0]
  · by_cases h0 : a % pN w = 0
    · have e0 : eqU (a % pN w) 0 = true := by rw [eqU_p0]; exact decide_eq_true h0
      simp -implicitDefEqProofs (maxSteps := 10000000) only [vy_succ, vy_zero, vx_skip, vx_reg0, vx_reg1, vx_ord, xx_done, xx_stop, xx_alt, vx_seq, vx_cond, vx_block, vx_exit, vx_ret, vx_loop, gx_nil, gx_cons, dx_nil, dx_cons, slim, slimOp, gO, gSO, qSO, quietOp, cx_nil, cx_cons, xx_alc, cS, qSB, eK, calmOp, guardS, gK, qK, putK, plK, dOk, St.ev, St.get, St.mem, St.set, St.setm, St.put, lookA, look, newK, nextver, initT, seqE, blockQ, bodyQ, resK, retV, AV.rdv, cells_agg, cells_int, cells_bool, cells_string, cells_slice, cells_uV, agg_uV, isNil_uV, toN_uV, i64_in, IntKind.wrap_u64, IntKind.wrap_u8, IntKind.wrap_u32, ↓binK, ↓intK, unK, ↓loadK, ↓withKey_eq, ↓idxAddrK, ↓indexK, ↓partK, ↓fieldK, ↓fieldAddrK, ↓convK, ↓callK, wrG, updK, ↓lenK, ↓mmK, ↓appK, ↓copyK, ↓sliceK, ↓toArrK, nilK, optK_some, optK_tup, optK_ite, evs, plains, seqParts, capsOf, capsD, List.append_nil, List.nil_append, List.cons_append, AV.dv, AV.cont, isNil_agg, isNil_int, isNil_bool, isNil_string, isNil_nil, isNil_slice, ↓buildV_eq, fillL, placesOf, Option.map_some, Option.map_none, ↓storeK, wrL, RV.av, DV.av, List.set, List.map_cons, List.map_nil, List.length_cons, List.length_nil, List.all_cons, List.all_nil, List.getElem?_cons_zero, List.getElem?_cons_succ, List.getElem?_nil, List.size_toArray, List.getElem?_toArray, List.drop_zero, List.drop_succ_cons, List.take_zero, List.take_succ_cons, Option.getD_some, Option.getD_none, Option.some.injEq, Option.isSome_some, Nat.reduceEqDiff, Nat.reduceAdd, Nat.reduceSub, Nat.reduceMul, Nat.reduceLT, Nat.reduceLeDiff, Nat.reduceMod, Nat.reduceDiv, Int.cast_ofNat_Int, Int.reduceLT, Int.reduceLE, Int.reduceToNat, ↓reduceIte, true_and, and_true, true_or, or_true, or_false, false_or, reduceCtorEq, Bool.false_eq_true, Bool.and_true, Bool.not_true, Bool.not_false, beq_self_eq_true, Bool.true_beq, Bool.false_beq, Value.oneCell', decide_true, decide_false, Int.reduceAdd, Int.reduceSub, Int.reduceMod, Int.reduceMul, Int.reduceNeg, Int.reduceBEq, Int.reduceBNe, Int.reduceTDiv, Int.reduceTMod, ne_eq, not_false_eq_true, not_true_eq_false, Int.reduceEq, Nat.zero_add, Nat.add_zero, Nat.le_refl, tyB, Try.underlying13, Try.underlying25, Try.underlying26, Try.underlying53, Try.underlying54, belowG, reduceG, hw, ha, tc, oc, toN_zero, z, fold_p, ↓binK_eqU0, e0, eq_true h0]
      rw [uV_0]
    · have e0 : eqU (a % pN w) 0 = false := by rw [eqU_p0]; exact decide_eq_false h0
      have ep := pN_eq w
      simp -implicitDefEqProofs (maxSteps := 10000000) only [vy_succ, vy_zero, vx_skip, vx_reg0, vx_reg1, vx_ord, xx_done, xx_stop, xx_alt, vx_seq, vx_cond, vx_block, vx_exit, vx_ret, vx_loop, gx_nil, gx_cons, dx_nil, dx_cons, slim, slimOp, gO, gSO, qSO, quietOp, cx_nil, cx_cons, xx_alc, cS, qSB, eK, calmOp, guardS, gK, qK, putK, plK, dOk, St.ev, St.get, St.mem, St.set, St.setm, St.put, lookA, look, newK, nextver, initT, seqE, blockQ, bodyQ, resK, retV, AV.rdv, cells_agg, cells_int, cells_bool, cells_string, cells_slice, cells_uV, agg_uV, isNil_uV, toN_uV, i64_in, IntKind.wrap_u64, IntKind.wrap_u8, IntKind.wrap_u32, ↓binK, ↓intK, unK, ↓loadK, ↓withKey_eq, ↓idxAddrK, ↓indexK, ↓partK, ↓fieldK, ↓fieldAddrK, ↓convK, ↓callK, wrG, updK, ↓lenK, ↓mmK, ↓appK, ↓copyK, ↓sliceK, ↓toArrK, nilK, optK_some, optK_tup, optK_ite, evs, plains, seqParts, capsOf, capsD, List.append_nil, List.nil_append, List.cons_append, AV.dv, AV.cont, isNil_agg, isNil_int, isNil_bool, isNil_string, isNil_nil, isNil_slice, ↓buildV_eq, fillL, placesOf, Option.map_some, Option.map_none, ↓storeK, wrL, RV.av, DV.av, List.set, List.map_cons, List.map_nil, List.length_cons, List.length_nil, List.all_cons, List.all_nil, List.getElem?_cons_zero, List.getElem?_cons_succ, List.getElem?_nil, List.size_toArray, List.getElem?_toArray, List.drop_zero, List.drop_succ_cons, List.take_zero, List.take_succ_cons, Option.getD_some, Option.getD_none, Option.some.injEq, Option.isSome_some, Nat.reduceEqDiff, Nat.reduceAdd, Nat.reduceSub, Nat.reduceMul, Nat.reduceLT, Nat.reduceLeDiff, Nat.reduceMod, Nat.reduceDiv, Int.cast_ofNat_Int, Int.reduceLT, Int.reduceLE, Int.reduceToNat, ↓reduceIte, true_and, and_true, true_or, or_true, or_false, false_or, reduceCtorEq, Bool.false_eq_true, Bool.and_true, Bool.not_true, Bool.not_false, beq_self_eq_true, Bool.true_beq, Bool.false_beq, Value.oneCell', decide_true, decide_false, Int.reduceAdd, Int.reduceSub, Int.reduceMod, Int.reduceMul, Int.reduceNeg, Int.reduceBEq, Int.reduceBNe, Int.reduceTDiv, Int.reduceTMod, ne_eq, not_false_eq_true, not_true_eq_false, Int.reduceEq, Nat.zero_add, Nat.add_zero, Nat.le_refl, tyB, Try.underlying13, Try.underlying25, Try.underlying26, Try.underlying53, Try.underlying54, belowG, reduceG, modulusG, subG, powerG, hw, ha, tc, oc, tp, toN_zero, uV_2, t22, u2, t2, z, fold_p, ↓binK_eqU0, e0, eq_false h0]
      rw [ep]

end Go.Vm
