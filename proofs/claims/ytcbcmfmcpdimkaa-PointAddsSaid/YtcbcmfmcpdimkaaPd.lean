/- Add, Turn, Lift of points. No condition. -/
import Derived.Test.YtcbcmfmcpdimkaaPc
set_option maxRecDepth 100000
set_option linter.unusedSimpArgs false
set_option linter.unusedVariables false
namespace Go.Vm
open Go Go.RowKit Go.Proofs Go.Ec

noncomputable def wdP (p : Pt) : Wd := ⟨nc (rx p), nc (ry p), rb p, 1⟩
theorem nc_rx (p : Pt) : (nc (rx p)).val = rx p := by
  cases p with
  | o => rfl
  | a x y => exact congrArg Fin.val (val_nc x)
theorem nc_ry (p : Pt) : (nc (ry p)).val = ry p := by
  cases p with
  | o => rfl
  | a x y => exact congrArg Fin.val (val_nc y)
theorem toW_p (p : Pt) : toW (wV (rx p) (ry p) (rb p) 1) = some (wdP p) := by
  have h := toW_1 (nc (rx p)) (nc (ry p)) (rb p)
  rw [nc_rx, nc_ry] at h
  exact h
theorem pW_wdP (p : Pt) : pW (wdP p) = p := by
  cases p with
  | o => exact pW_b rfl
  | a x y =>
    rw [pW_a (fun h => Bool.false_ne_true h)]
    have h1 := finv_mul one_ne
    show Pt.a (nc x.val * (finv 1 * finv 1)) (nc y.val * (finv 1 * finv 1 * finv 1)) = _
    rw [val_nc, val_nc]
    generalize finv 1 = i at *
    have e : i = 1 := by grobner
    subst e
    rw [Pt.a.injEq]
    exact ⟨by grobner, by grobner⟩
theorem gd_wdP {p : Pt} (h : onC p) : gdW (wdP p) := ⟨.inr one_ne, by rw [pW_wdP]; exact h⟩
noncomputable def ptP (p : Pt) : Value := ptV (rx p) (ry p) (rb p)

noncomputable def ptAG : List DV → Option RV
  | [.pl v, .pl u] => match toR v, toR u with
    | some (x, y, b), some (x', y', b') => open Classical in if onB x y b = true ∧ onB x' y' b' = true then some (.tup [.pl (ptV (rx (padd (ptOf x y b) (ptOf x' y' b'))) (ry (padd (ptOf x y b) (ptOf x' y' b'))) (rb (padd (ptOf x y b) (ptOf x' y' b')))), .pl (.int .i64 0)]) else some (.tup [.pl (ptV 0 0 false), .pl (.int .i64 1)])
    | _, _ => none
  | _ => none
theorem pta_bad (x y x' y' : Nat) (b b' : Bool) (hx : x < full) (hy : y < full) (hx' : x' < full) (hy' : y' < full) (h : ¬ (onB x y b = true ∧ onB x' y' b' = true)) : Spec Try.prog 17 [.pl (ptV x y b), .pl (ptV x' y' b')] (.tup [.pl (ptV 0 0 false), .pl (.int .i64 1)]) := by
  have hΓ : Env.ok [(20, onG)] Try.prog := ok_cons on_ok (ok_nil _)
  have t := toR_lt (b := b) hx hy
  have t' := toR_lt (b := b') hx' hy'
  refine Spec.of_vx hΓ follows_mixed Try.func17 rfl (by kernel_rfl) (T := []) (by simp [Try.ntmps17]) (by kernel_rfl) rfl Try.ntmps17 (res := [.cell 4 26, .tmp 5]) rfl ?_
  intro W
  cases h1 : onB x y b
  · simp -implicitDefEqProofs (maxSteps := 10000000) only [vy_succ, vy_zero, vx_skip, vx_reg0, vx_reg1, vx_ord, xx_done, xx_stop, xx_alt, vx_seq, vx_cond, vx_block, vx_exit, vx_ret, vx_loop, gx_nil, gx_cons, dx_nil, dx_cons, slim, slimOp, gO, gSO, qSO, quietOp, cx_nil, cx_cons, xx_alc, cS, qSB, eK, calmOp, guardS, gK, qK, putK, plK, dOk, St.ev, St.get, St.mem, St.set, St.setm, St.put, lookA, look, newK, nextver, initT, seqE, blockQ, bodyQ, resK, retV, AV.rdv, cells_agg, cells_int, cells_bool, cells_string, cells_slice, cells_uV, agg_uV, isNil_uV, toN_uV, i64_in, IntKind.wrap_u64, IntKind.wrap_u8, IntKind.wrap_u32, ↓binK, ↓intK, unK, ↓loadK, ↓withKey_eq, ↓idxAddrK, ↓indexK, ↓partK, ↓fieldK, ↓fieldAddrK, ↓convK, ↓callK, wrG, updK, ↓lenK, ↓mmK, ↓appK, ↓copyK, ↓sliceK, ↓toArrK, nilK, optK_some, optK_tup, optK_ite, evs, plains, seqParts, capsOf, capsD, List.append_nil, List.nil_append, List.cons_append, AV.dv, AV.cont, isNil_agg, isNil_int, isNil_bool, isNil_string, isNil_nil, isNil_slice, ↓buildV_eq, fillL, placesOf, Option.map_some, Option.map_none, ↓storeK, wrL, RV.av, DV.av, List.set, List.map_cons, List.map_nil, List.length_cons, List.length_nil, List.all_cons, List.all_nil, List.getElem?_cons_zero, List.getElem?_cons_succ, List.getElem?_nil, List.size_toArray, List.getElem?_toArray, List.drop_zero, List.drop_succ_cons, List.take_zero, List.take_succ_cons, Option.getD_some, Option.getD_none, Option.some.injEq, Option.isSome_some, Nat.reduceEqDiff, Nat.reduceAdd, Nat.reduceSub, Nat.reduceMul, Nat.reduceLT, Nat.reduceLeDiff, Nat.reduceMod, Nat.reduceDiv, Int.cast_ofNat_Int, Int.reduceLT, Int.reduceLE, Int.reduceToNat, ↓reduceIte, true_and, and_true, true_or, or_true, or_false, false_or, reduceCtorEq, Bool.false_eq_true, Bool.and_true, Bool.not_true, Bool.not_false, beq_self_eq_true, Bool.true_beq, Bool.false_beq, Value.oneCell', decide_true, decide_false, Int.reduceAdd, Int.reduceSub, Int.reduceMod, Int.reduceMul, Int.reduceNeg, Int.reduceBEq, Int.reduceBNe, Int.reduceTDiv, Int.reduceTMod, ne_eq, not_false_eq_true, not_true_eq_false, Int.reduceEq, Nat.zero_add, Nat.add_zero, Nat.le_refl, tyB, Try.underlying13, Try.underlying25, Try.underlying26, Try.underlying53, Try.underlying54, onG, t, t', h1, cells_pt, agg_pt, isNil_pt, ptV_lit, cells_w, agg_w, isNil_w, valm, ↓binK_eqPt, ↓binK_eqU, ↓binK_neU, eqU_v]
  · have h2 : onB x' y' b' = false := by
      cases h2 : onB x' y' b'
      · rfl
      · exact absurd ⟨h1, h2⟩ h
    simp -implicitDefEqProofs (maxSteps := 10000000) only [vy_succ, vy_zero, vx_skip, vx_reg0, vx_reg1, vx_ord, xx_done, xx_stop, xx_alt, vx_seq, vx_cond, vx_block, vx_exit, vx_ret, vx_loop, gx_nil, gx_cons, dx_nil, dx_cons, slim, slimOp, gO, gSO, qSO, quietOp, cx_nil, cx_cons, xx_alc, cS, qSB, eK, calmOp, guardS, gK, qK, putK, plK, dOk, St.ev, St.get, St.mem, St.set, St.setm, St.put, lookA, look, newK, nextver, initT, seqE, blockQ, bodyQ, resK, retV, AV.rdv, cells_agg, cells_int, cells_bool, cells_string, cells_slice, cells_uV, agg_uV, isNil_uV, toN_uV, i64_in, IntKind.wrap_u64, IntKind.wrap_u8, IntKind.wrap_u32, ↓binK, ↓intK, unK, ↓loadK, ↓withKey_eq, ↓idxAddrK, ↓indexK, ↓partK, ↓fieldK, ↓fieldAddrK, ↓convK, ↓callK, wrG, updK, ↓lenK, ↓mmK, ↓appK, ↓copyK, ↓sliceK, ↓toArrK, nilK, optK_some, optK_tup, optK_ite, evs, plains, seqParts, capsOf, capsD, List.append_nil, List.nil_append, List.cons_append, AV.dv, AV.cont, isNil_agg, isNil_int, isNil_bool, isNil_string, isNil_nil, isNil_slice, ↓buildV_eq, fillL, placesOf, Option.map_some, Option.map_none, ↓storeK, wrL, RV.av, DV.av, List.set, List.map_cons, List.map_nil, List.length_cons, List.length_nil, List.all_cons, List.all_nil, List.getElem?_cons_zero, List.getElem?_cons_succ, List.getElem?_nil, List.size_toArray, List.getElem?_toArray, List.drop_zero, List.drop_succ_cons, List.take_zero, List.take_succ_cons, Option.getD_some, Option.getD_none, Option.some.injEq, Option.isSome_some, Nat.reduceEqDiff, Nat.reduceAdd, Nat.reduceSub, Nat.reduceMul, Nat.reduceLT, Nat.reduceLeDiff, Nat.reduceMod, Nat.reduceDiv, Int.cast_ofNat_Int, Int.reduceLT, Int.reduceLE, Int.reduceToNat, ↓reduceIte, true_and, and_true, true_or, or_true, or_false, false_or, reduceCtorEq, Bool.false_eq_true, Bool.and_true, Bool.not_true, Bool.not_false, beq_self_eq_true, Bool.true_beq, Bool.false_beq, Value.oneCell', decide_true, decide_false, Int.reduceAdd, Int.reduceSub, Int.reduceMod, Int.reduceMul, Int.reduceNeg, Int.reduceBEq, Int.reduceBNe, Int.reduceTDiv, Int.reduceTMod, ne_eq, not_false_eq_true, not_true_eq_false, Int.reduceEq, Nat.zero_add, Nat.add_zero, Nat.le_refl, tyB, Try.underlying13, Try.underlying25, Try.underlying26, Try.underlying53, Try.underlying54, onG, t, t', h1, h2, cells_pt, agg_pt, isNil_pt, ptV_lit, cells_w, agg_w, isNil_w, valm, ↓binK_eqPt, ↓binK_eqU, ↓binK_neU, eqU_v]
theorem pta_good (p q : Pt) (hp : onC p) (hq : onC q) : Spec Try.prog 17 [.pl (ptV (rx p) (ry p) (rb p)), .pl (ptV (rx q) (ry q) (rb q))] (.tup [.pl (ptV (rx (padd p q)) (ry (padd p q)) (rb (padd p q))), .pl (.int .i64 0)]) := by
  have hΓ : Env.ok [(20, onG), (34, widG), (35, suG), (39, narG)] Try.prog := ok_cons on_ok (ok_cons wid_ok (ok_cons su_ok (ok_cons nar_ok (ok_nil _))))
  have h1 := onB_p hp
  have h2 := onB_p hq
  obtain ⟨⟨h3, _⟩, h4⟩ := su_sem (gd_wdP hp) (gd_wdP hq)
  rw [pW_wdP, pW_wdP] at h4
  refine Spec.of_vx hΓ follows_mixed Try.func17 rfl (by kernel_rfl) (T := []) (by simp [Try.ntmps17]) (by kernel_rfl) rfl Try.ntmps17 (res := [.cell 4 26, .tmp 5]) rfl ?_
  intro W
  simp -implicitDefEqProofs (maxSteps := 10000000) only [vy_succ, vy_zero, vx_skip, vx_reg0, vx_reg1, vx_ord, xx_done, xx_stop, xx_alt, vx_seq, vx_cond, vx_block, vx_exit, vx_ret, vx_loop, gx_nil, gx_cons, dx_nil, dx_cons, slim, slimOp, gO, gSO, qSO, quietOp, cx_nil, cx_cons, xx_alc, cS, qSB, eK, calmOp, guardS, gK, qK, putK, plK, dOk, St.ev, St.get, St.mem, St.set, St.setm, St.put, lookA, look, newK, nextver, initT, seqE, blockQ, bodyQ, resK, retV, AV.rdv, cells_agg, cells_int, cells_bool, cells_string, cells_slice, cells_uV, agg_uV, isNil_uV, toN_uV, i64_in, IntKind.wrap_u64, IntKind.wrap_u8, IntKind.wrap_u32, ↓binK, ↓intK, unK, ↓loadK, ↓withKey_eq, ↓idxAddrK, ↓indexK, ↓partK, ↓fieldK, ↓fieldAddrK, ↓convK, ↓callK, wrG, updK, ↓lenK, ↓mmK, ↓appK, ↓copyK, ↓sliceK, ↓toArrK, nilK, optK_some, optK_tup, optK_ite, evs, plains, seqParts, capsOf, capsD, List.append_nil, List.nil_append, List.cons_append, AV.dv, AV.cont, isNil_agg, isNil_int, isNil_bool, isNil_string, isNil_nil, isNil_slice, ↓buildV_eq, fillL, placesOf, Option.map_some, Option.map_none, ↓storeK, wrL, RV.av, DV.av, List.set, List.map_cons, List.map_nil, List.length_cons, List.length_nil, List.all_cons, List.all_nil, List.getElem?_cons_zero, List.getElem?_cons_succ, List.getElem?_nil, List.size_toArray, List.getElem?_toArray, List.drop_zero, List.drop_succ_cons, List.take_zero, List.take_succ_cons, Option.getD_some, Option.getD_none, Option.some.injEq, Option.isSome_some, Nat.reduceEqDiff, Nat.reduceAdd, Nat.reduceSub, Nat.reduceMul, Nat.reduceLT, Nat.reduceLeDiff, Nat.reduceMod, Nat.reduceDiv, Int.cast_ofNat_Int, Int.reduceLT, Int.reduceLE, Int.reduceToNat, ↓reduceIte, true_and, and_true, true_or, or_true, or_false, false_or, reduceCtorEq, Bool.false_eq_true, Bool.and_true, Bool.not_true, Bool.not_false, beq_self_eq_true, Bool.true_beq, Bool.false_beq, Value.oneCell', decide_true, decide_false, Int.reduceAdd, Int.reduceSub, Int.reduceMod, Int.reduceMul, Int.reduceNeg, Int.reduceBEq, Int.reduceBNe, Int.reduceTDiv, Int.reduceTMod, ne_eq, not_false_eq_true, not_true_eq_false, Int.reduceEq, Nat.zero_add, Nat.add_zero, Nat.le_refl, tyB, Try.underlying13, Try.underlying25, Try.underlying26, Try.underlying53, Try.underlying54, onG, widG, suG, narG, toR_p, toW_p, toW_v, h1, h2, h3, h4, cells_pt, agg_pt, isNil_pt, ptV_lit, cells_w, agg_w, isNil_w, valm, ↓binK_eqPt, ↓binK_eqU, ↓binK_neU, eqU_v]
theorem pta_ok : ∀ ds r, ptAG ds = some r → Spec Try.prog 17 ds r := by
  intro ds r h
  unfold ptAG at h
  split at h
  case h_2 => cases h
  rename_i v u
  split at h
  case h_2 => cases h
  rename_i x y b x' y' b' hv hu
  obtain ⟨rfl, hx, hy⟩ := toR_eq hv
  obtain ⟨rfl, hx', hy'⟩ := toR_eq hu
  split at h
  · rename_i hc
    cases h
    obtain ⟨c1, c2, c3, c4⟩ := onB_on hc.1
    obtain ⟨d1, d2, d3, d4⟩ := onB_on hc.2
    have := pta_good _ _ c1 d1
    rw [c2, c3, c4, d2, d3, d4] at this
    exact this
  · rename_i hc
    cases h
    exact pta_bad x y x' y' b b' hx hy hx' hy' hc

noncomputable def ptTG : List DV → Option RV
  | [.pl v] => match toR v with
    | some (x, y, b) => open Classical in if onB x y b = true then some (.tup [.pl (ptV (rx (pneg (ptOf x y b))) (ry (pneg (ptOf x y b))) (rb (pneg (ptOf x y b)))), .pl (.int .i64 0)]) else some (.tup [.pl (ptV 0 0 false), .pl (.int .i64 1)])
    | none => none
  | _ => none
theorem ptt_bad (x y : Nat) (b : Bool) (hx : x < full) (hy : y < full) (h : onB x y b = false) : Spec Try.prog 22 [.pl (ptV x y b)] (.tup [.pl (ptV 0 0 false), .pl (.int .i64 1)]) := by
  have hΓ : Env.ok [(20, onG)] Try.prog := ok_cons on_ok (ok_nil _)
  have t := toR_lt (b := b) hx hy
  refine Spec.of_vx hΓ follows_mixed Try.func22 rfl (by kernel_rfl) (T := []) (by simp [Try.ntmps22]) (by kernel_rfl) rfl Try.ntmps22 (res := [.cell 2 26, .tmp 3]) rfl ?_
  intro W
  simp -implicitDefEqProofs (maxSteps := 10000000) only [vy_succ, vy_zero, vx_skip, vx_reg0, vx_reg1, vx_ord, xx_done, xx_stop, xx_alt, vx_seq, vx_cond, vx_block, vx_exit, vx_ret, vx_loop, gx_nil, gx_cons, dx_nil, dx_cons, slim, slimOp, gO, gSO, qSO, quietOp, cx_nil, cx_cons, xx_alc, cS, qSB, eK, calmOp, guardS, gK, qK, putK, plK, dOk, St.ev, St.get, St.mem, St.set, St.setm, St.put, lookA, look, newK, nextver, initT, seqE, blockQ, bodyQ, resK, retV, AV.rdv, cells_agg, cells_int, cells_bool, cells_string, cells_slice, cells_uV, agg_uV, isNil_uV, toN_uV, i64_in, IntKind.wrap_u64, IntKind.wrap_u8, IntKind.wrap_u32, ↓binK, ↓intK, unK, ↓loadK, ↓withKey_eq, ↓idxAddrK, ↓indexK, ↓partK, ↓fieldK, ↓fieldAddrK, ↓convK, ↓callK, wrG, updK, ↓lenK, ↓mmK, ↓appK, ↓copyK, ↓sliceK, ↓toArrK, nilK, optK_some, optK_tup, optK_ite, evs, plains, seqParts, capsOf, capsD, List.append_nil, List.nil_append, List.cons_append, AV.dv, AV.cont, isNil_agg, isNil_int, isNil_bool, isNil_string, isNil_nil, isNil_slice, ↓buildV_eq, fillL, placesOf, Option.map_some, Option.map_none, ↓storeK, wrL, RV.av, DV.av, List.set, List.map_cons, List.map_nil, List.length_cons, List.length_nil, List.all_cons, List.all_nil, List.getElem?_cons_zero, List.getElem?_cons_succ, List.getElem?_nil, List.size_toArray, List.getElem?_toArray, List.drop_zero, List.drop_succ_cons, List.take_zero, List.take_succ_cons, Option.getD_some, Option.getD_none, Option.some.injEq, Option.isSome_some, Nat.reduceEqDiff, Nat.reduceAdd, Nat.reduceSub, Nat.reduceMul, Nat.reduceLT, Nat.reduceLeDiff, Nat.reduceMod, Nat.reduceDiv, Int.cast_ofNat_Int, Int.reduceLT, Int.reduceLE, Int.reduceToNat, ↓reduceIte, true_and, and_true, true_or, or_true, or_false, false_or, reduceCtorEq, Bool.false_eq_true, Bool.and_true, Bool.not_true, Bool.not_false, beq_self_eq_true, Bool.true_beq, Bool.false_beq, Value.oneCell', decide_true, decide_false, Int.reduceAdd, Int.reduceSub, Int.reduceMod, Int.reduceMul, Int.reduceNeg, Int.reduceBEq, Int.reduceBNe, Int.reduceTDiv, Int.reduceTMod, ne_eq, not_false_eq_true, not_true_eq_false, Int.reduceEq, Nat.zero_add, Nat.add_zero, Nat.le_refl, tyB, Try.underlying13, Try.underlying25, Try.underlying26, Try.underlying53, Try.underlying54, onG, t, h, cells_pt, agg_pt, isNil_pt, ptV_lit, cells_w, agg_w, isNil_w, valm, ↓binK_eqPt, ↓binK_eqU, ↓binK_neU, eqU_v]
theorem ptt_o : Spec Try.prog 22 [.pl (ptV 0 0 true)] (.tup [.pl (ptV 0 0 true), .pl (.int .i64 0)]) := by
  have hΓ : Env.ok [(20, onG)] Try.prog := ok_cons on_ok (ok_nil _)
  have h : onB 0 0 true = true := onB_p (p := .o) trivial
  refine Spec.of_vx hΓ follows_mixed Try.func22 rfl (by kernel_rfl) (T := []) (by simp [Try.ntmps22]) (by kernel_rfl) rfl Try.ntmps22 (res := [.cell 2 26, .tmp 3]) rfl ?_
  intro W
  simp -implicitDefEqProofs (maxSteps := 10000000) only [vy_succ, vy_zero, vx_skip, vx_reg0, vx_reg1, vx_ord, xx_done, xx_stop, xx_alt, vx_seq, vx_cond, vx_block, vx_exit, vx_ret, vx_loop, gx_nil, gx_cons, dx_nil, dx_cons, slim, slimOp, gO, gSO, qSO, quietOp, cx_nil, cx_cons, xx_alc, cS, qSB, eK, calmOp, guardS, gK, qK, putK, plK, dOk, St.ev, St.get, St.mem, St.set, St.setm, St.put, lookA, look, newK, nextver, initT, seqE, blockQ, bodyQ, resK, retV, AV.rdv, cells_agg, cells_int, cells_bool, cells_string, cells_slice, cells_uV, agg_uV, isNil_uV, toN_uV, i64_in, IntKind.wrap_u64, IntKind.wrap_u8, IntKind.wrap_u32, ↓binK, ↓intK, unK, ↓loadK, ↓withKey_eq, ↓idxAddrK, ↓indexK, ↓partK, ↓fieldK, ↓fieldAddrK, ↓convK, ↓callK, wrG, updK, ↓lenK, ↓mmK, ↓appK, ↓copyK, ↓sliceK, ↓toArrK, nilK, optK_some, optK_tup, optK_ite, evs, plains, seqParts, capsOf, capsD, List.append_nil, List.nil_append, List.cons_append, AV.dv, AV.cont, isNil_agg, isNil_int, isNil_bool, isNil_string, isNil_nil, isNil_slice, ↓buildV_eq, fillL, placesOf, Option.map_some, Option.map_none, ↓storeK, wrL, RV.av, DV.av, List.set, List.map_cons, List.map_nil, List.length_cons, List.length_nil, List.all_cons, List.all_nil, List.getElem?_cons_zero, List.getElem?_cons_succ, List.getElem?_nil, List.size_toArray, List.getElem?_toArray, List.drop_zero, List.drop_succ_cons, List.take_zero, List.take_succ_cons, Option.getD_some, Option.getD_none, Option.some.injEq, Option.isSome_some, Nat.reduceEqDiff, Nat.reduceAdd, Nat.reduceSub, Nat.reduceMul, Nat.reduceLT, Nat.reduceLeDiff, Nat.reduceMod, Nat.reduceDiv, Int.cast_ofNat_Int, Int.reduceLT, Int.reduceLE, Int.reduceToNat, ↓reduceIte, true_and, and_true, true_or, or_true, or_false, false_or, reduceCtorEq, Bool.false_eq_true, Bool.and_true, Bool.not_true, Bool.not_false, beq_self_eq_true, Bool.true_beq, Bool.false_beq, Value.oneCell', decide_true, decide_false, Int.reduceAdd, Int.reduceSub, Int.reduceMod, Int.reduceMul, Int.reduceNeg, Int.reduceBEq, Int.reduceBNe, Int.reduceTDiv, Int.reduceTMod, ne_eq, not_false_eq_true, not_true_eq_false, Int.reduceEq, Nat.zero_add, Nat.add_zero, Nat.le_refl, tyB, Try.underlying13, Try.underlying25, Try.underlying26, Try.underlying53, Try.underlying54, onG, toR_0, h, cells_pt, agg_pt, isNil_pt, ptV_lit, cells_w, agg_w, isNil_w, valm, ↓binK_eqPt, ↓binK_eqU, ↓binK_neU, eqU_v]
theorem ptt_a (x y : Fp) (hp : onC (.a x y)) : Spec Try.prog 22 [.pl (ptV x.val y.val false)] (.tup [.pl (ptV x.val (0 - y).val false), .pl (.int .i64 0)]) := by
  have hΓ : Env.ok [(20, onG), (46, pSubG)] Try.prog := ok_cons on_ok (ok_cons pSub_ok (ok_nil _))
  have h : onB x.val y.val false = true := onB_p hp
  have z : nc 0 = 0 := rfl
  refine Spec.of_vx hΓ follows_mixed Try.func22 rfl (by kernel_rfl) (T := []) (by simp [Try.ntmps22]) (by kernel_rfl) rfl Try.ntmps22 (res := [.cell 2 26, .tmp 3]) rfl ?_
  intro W
  simp -implicitDefEqProofs (maxSteps := 10000000) only [vy_succ, vy_zero, vx_skip, vx_reg0, vx_reg1, vx_ord, xx_done, xx_stop, xx_alt, vx_seq, vx_cond, vx_block, vx_exit, vx_ret, vx_loop, gx_nil, gx_cons, dx_nil, dx_cons, slim, slimOp, gO, gSO, qSO, quietOp, cx_nil, cx_cons, xx_alc, cS, qSB, eK, calmOp, guardS, gK, qK, putK, plK, dOk, St.ev, St.get, St.mem, St.set, St.setm, St.put, lookA, look, newK, nextver, initT, seqE, blockQ, bodyQ, resK, retV, AV.rdv, cells_agg, cells_int, cells_bool, cells_string, cells_slice, cells_uV, agg_uV, isNil_uV, toN_uV, i64_in, IntKind.wrap_u64, IntKind.wrap_u8, IntKind.wrap_u32, ↓binK, ↓intK, unK, ↓loadK, ↓withKey_eq, ↓idxAddrK, ↓indexK, ↓partK, ↓fieldK, ↓fieldAddrK, ↓convK, ↓callK, wrG, updK, ↓lenK, ↓mmK, ↓appK, ↓copyK, ↓sliceK, ↓toArrK, nilK, optK_some, optK_tup, optK_ite, evs, plains, seqParts, capsOf, capsD, List.append_nil, List.nil_append, List.cons_append, AV.dv, AV.cont, isNil_agg, isNil_int, isNil_bool, isNil_string, isNil_nil, isNil_slice, ↓buildV_eq, fillL, placesOf, Option.map_some, Option.map_none, ↓storeK, wrL, RV.av, DV.av, List.set, List.map_cons, List.map_nil, List.length_cons, List.length_nil, List.all_cons, List.all_nil, List.getElem?_cons_zero, List.getElem?_cons_succ, List.getElem?_nil, List.size_toArray, List.getElem?_toArray, List.drop_zero, List.drop_succ_cons, List.take_zero, List.take_succ_cons, Option.getD_some, Option.getD_none, Option.some.injEq, Option.isSome_some, Nat.reduceEqDiff, Nat.reduceAdd, Nat.reduceSub, Nat.reduceMul, Nat.reduceLT, Nat.reduceLeDiff, Nat.reduceMod, Nat.reduceDiv, Int.cast_ofNat_Int, Int.reduceLT, Int.reduceLE, Int.reduceToNat, ↓reduceIte, true_and, and_true, true_or, or_true, or_false, false_or, reduceCtorEq, Bool.false_eq_true, Bool.and_true, Bool.not_true, Bool.not_false, beq_self_eq_true, Bool.true_beq, Bool.false_beq, Value.oneCell', decide_true, decide_false, Int.reduceAdd, Int.reduceSub, Int.reduceMod, Int.reduceMul, Int.reduceNeg, Int.reduceBEq, Int.reduceBNe, Int.reduceTDiv, Int.reduceTMod, ne_eq, not_false_eq_true, not_true_eq_false, Int.reduceEq, Nat.zero_add, Nat.add_zero, Nat.le_refl, tyB, Try.underlying13, Try.underlying25, Try.underlying26, Try.underlying53, Try.underlying54, onG, pSubG, toR_v, toN_zero, val_nc, z, h, cells_pt, agg_pt, isNil_pt, ptV_lit, cells_w, agg_w, isNil_w, valm, ↓binK_eqPt, ↓binK_eqU, ↓binK_neU, eqU_v]
theorem ptt_ok : ∀ ds r, ptTG ds = some r → Spec Try.prog 22 ds r := by
  intro ds r h
  unfold ptTG at h
  split at h
  case h_2 => cases h
  rename_i v
  split at h
  case h_2 => cases h
  rename_i x y b hv
  obtain ⟨rfl, hx, hy⟩ := toR_eq hv
  split at h
  · rename_i hc
    cases h
    obtain ⟨c1, c2, c3, c4⟩ := onB_on hc
    generalize ptOf x y b = p at *
    subst c2 c3 c4
    cases p with
    | o => exact ptt_o
    | a x y => exact ptt_a x y c1
  · rename_i hc
    cases h
    exact ptt_bad x y b hx hy (Bool.not_eq_true _ ▸ hc)
noncomputable def ptLG : List DV → Option RV
  | [.pl v, .pl (.bool o)] => match toN v with
    | some x => open Classical in some (if x < pN 0 then (if Rt (nc x * nc x * nc x + 7).val then .tup [.pl (ptV x (if o = true then (0 - nc (evN (pwN (nc x * nc x * nc x + 7).val qN (pN 0)))).val else evN (pwN (nc x * nc x * nc x + 7).val qN (pN 0))) false), .pl (.int .i64 0)] else .tup [.pl (ptV 0 0 false), .pl (.int .i64 6)]) else .tup [.pl (ptV 0 0 false), .pl (.int .i64 1)])
    | none => none
  | _ => none
set_option maxHeartbeats 4000000 in
theorem ptl_ok : ∀ ds r, ptLG ds = some r → Spec Try.prog 27 ds r := by
  intro ds r h
  unfold ptLG at h
  split at h
  case h_2 => cases h
  rename_i v o
  split at h
  case h_2 => cases h
  rename_i x hv
  obtain ⟨rfl, hx⟩ := toN_eq hv
  have hΓ : Env.ok [(43, redG), (45, curG), (49, rootG), (46, pSubG)] Try.prog := ok_cons red_ok (ok_cons cur_ok (ok_cons root_ok (ok_cons pSub_ok (ok_nil _))))
  have mx : x % full = x := Nat.mod_eq_of_lt hx
  have z : nc 0 = 0 := rfl
  have hr := evN_lt (pwN_lt (nc x * nc x * nc x + 7).val qN (p := pN 0) (by rw [pN_0]; decide))
  have mr := Nat.mod_eq_of_lt hr
  have mc : (nc x * nc x * nc x + 7).val % pN 0 = (nc x * nc x * nc x + 7).val := Nat.mod_eq_of_lt (v_p _)
  cases h
  refine Spec.of_vx hΓ follows_mixed Try.func27 rfl (by kernel_rfl) (T := []) (by simp [Try.ntmps27]) (by kernel_rfl) rfl Try.ntmps27 (res := [.cell 4 26, .tmp 5]) rfl ?_
  intro W
  by_cases h1 : x < pN 0
  · have d1 := decide_eq_true h1
    by_cases h2 : Rt (nc x * nc x * nc x + 7).val
    · generalize hre : evN (pwN (nc x * nc x * nc x + 7).val qN (pN 0)) = r at *
      rw [if_pos h1, if_pos h2]
      cases o with
      | true =>
        rw [if_pos rfl]
        simp -implicitDefEqProofs (maxSteps := 10000000) only [vy_succ, vy_zero, vx_skip, vx_reg0, vx_reg1, vx_ord, xx_done, xx_stop, xx_alt, vx_seq, vx_cond, vx_block, vx_exit, vx_ret, vx_loop, gx_nil, gx_cons, dx_nil, dx_cons, slim, slimOp, gO, gSO, qSO, quietOp, cx_nil, cx_cons, xx_alc, cS, qSB, eK, calmOp, guardS, gK, qK, putK, plK, dOk, St.ev, St.get, St.mem, St.set, St.setm, St.put, lookA, look, newK, nextver, initT, seqE, blockQ, bodyQ, resK, retV, AV.rdv, cells_agg, cells_int, cells_bool, cells_string, cells_slice, cells_uV, agg_uV, isNil_uV, toN_uV, i64_in, IntKind.wrap_u64, IntKind.wrap_u8, IntKind.wrap_u32, ↓binK, ↓intK, unK, ↓loadK, ↓withKey_eq, ↓idxAddrK, ↓indexK, ↓partK, ↓fieldK, ↓fieldAddrK, ↓convK, ↓callK, wrG, updK, ↓lenK, ↓mmK, ↓appK, ↓copyK, ↓sliceK, ↓toArrK, nilK, optK_some, optK_tup, optK_ite, evs, plains, seqParts, capsOf, capsD, List.append_nil, List.nil_append, List.cons_append, AV.dv, AV.cont, isNil_agg, isNil_int, isNil_bool, isNil_string, isNil_nil, isNil_slice, ↓buildV_eq, fillL, placesOf, Option.map_some, Option.map_none, ↓storeK, wrL, RV.av, DV.av, List.set, List.map_cons, List.map_nil, List.length_cons, List.length_nil, List.all_cons, List.all_nil, List.getElem?_cons_zero, List.getElem?_cons_succ, List.getElem?_nil, List.size_toArray, List.getElem?_toArray, List.drop_zero, List.drop_succ_cons, List.take_zero, List.take_succ_cons, Option.getD_some, Option.getD_none, Option.some.injEq, Option.isSome_some, Nat.reduceEqDiff, Nat.reduceAdd, Nat.reduceSub, Nat.reduceMul, Nat.reduceLT, Nat.reduceLeDiff, Nat.reduceMod, Nat.reduceDiv, Int.cast_ofNat_Int, Int.reduceLT, Int.reduceLE, Int.reduceToNat, ↓reduceIte, true_and, and_true, true_or, or_true, or_false, false_or, reduceCtorEq, Bool.false_eq_true, Bool.and_true, Bool.not_true, Bool.not_false, beq_self_eq_true, Bool.true_beq, Bool.false_beq, Value.oneCell', decide_true, decide_false, Int.reduceAdd, Int.reduceSub, Int.reduceMod, Int.reduceMul, Int.reduceNeg, Int.reduceBEq, Int.reduceBNe, Int.reduceTDiv, Int.reduceTMod, ne_eq, not_false_eq_true, not_true_eq_false, Int.reduceEq, Nat.zero_add, Nat.add_zero, Nat.le_refl, tyB, Try.underlying13, Try.underlying25, Try.underlying26, Try.underlying53, Try.underlying54, redG, curG, rootG, pSubG, toN_zero, val_nc, mx, mr, mc, z, d1, h2, hre, cells_pt, agg_pt, isNil_pt, ptV_lit, cells_w, agg_w, isNil_w, valm, ↓binK_eqPt, ↓binK_eqU, ↓binK_neU, eqU_v]
  
      | false =>
        rw [if_neg (by decide)]
        simp -implicitDefEqProofs (maxSteps := 10000000) only [vy_succ, vy_zero, vx_skip, vx_reg0, vx_reg1, vx_ord, xx_done, xx_stop, xx_alt, vx_seq, vx_cond, vx_block, vx_exit, vx_ret, vx_loop, gx_nil, gx_cons, dx_nil, dx_cons, slim, slimOp, gO, gSO, qSO, quietOp, cx_nil, cx_cons, xx_alc, cS, qSB, eK, calmOp, guardS, gK, qK, putK, plK, dOk, St.ev, St.get, St.mem, St.set, St.setm, St.put, lookA, look, newK, nextver, initT, seqE, blockQ, bodyQ, resK, retV, AV.rdv, cells_agg, cells_int, cells_bool, cells_string, cells_slice, cells_uV, agg_uV, isNil_uV, toN_uV, i64_in, IntKind.wrap_u64, IntKind.wrap_u8, IntKind.wrap_u32, ↓binK, ↓intK, unK, ↓loadK, ↓withKey_eq, ↓idxAddrK, ↓indexK, ↓partK, ↓fieldK, ↓fieldAddrK, ↓convK, ↓callK, wrG, updK, ↓lenK, ↓mmK, ↓appK, ↓copyK, ↓sliceK, ↓toArrK, nilK, optK_some, optK_tup, optK_ite, evs, plains, seqParts, capsOf, capsD, List.append_nil, List.nil_append, List.cons_append, AV.dv, AV.cont, isNil_agg, isNil_int, isNil_bool, isNil_string, isNil_nil, isNil_slice, ↓buildV_eq, fillL, placesOf, Option.map_some, Option.map_none, ↓storeK, wrL, RV.av, DV.av, List.set, List.map_cons, List.map_nil, List.length_cons, List.length_nil, List.all_cons, List.all_nil, List.getElem?_cons_zero, List.getElem?_cons_succ, List.getElem?_nil, List.size_toArray, List.getElem?_toArray, List.drop_zero, List.drop_succ_cons, List.take_zero, List.take_succ_cons, Option.getD_some, Option.getD_none, Option.some.injEq, Option.isSome_some, Nat.reduceEqDiff, Nat.reduceAdd, Nat.reduceSub, Nat.reduceMul, Nat.reduceLT, Nat.reduceLeDiff, Nat.reduceMod, Nat.reduceDiv, Int.cast_ofNat_Int, Int.reduceLT, Int.reduceLE, Int.reduceToNat, ↓reduceIte, true_and, and_true, true_or, or_true, or_false, false_or, reduceCtorEq, Bool.false_eq_true, Bool.and_true, Bool.not_true, Bool.not_false, beq_self_eq_true, Bool.true_beq, Bool.false_beq, Value.oneCell', decide_true, decide_false, Int.reduceAdd, Int.reduceSub, Int.reduceMod, Int.reduceMul, Int.reduceNeg, Int.reduceBEq, Int.reduceBNe, Int.reduceTDiv, Int.reduceTMod, ne_eq, not_false_eq_true, not_true_eq_false, Int.reduceEq, Nat.zero_add, Nat.add_zero, Nat.le_refl, tyB, Try.underlying13, Try.underlying25, Try.underlying26, Try.underlying53, Try.underlying54, redG, curG, rootG, pSubG, toN_zero, val_nc, mx, mr, mc, z, d1, h2, hre, cells_pt, agg_pt, isNil_pt, ptV_lit, cells_w, agg_w, isNil_w, valm, ↓binK_eqPt, ↓binK_eqU, ↓binK_neU, eqU_v]
  
    · rw [if_pos h1, if_neg h2]
      simp -implicitDefEqProofs (maxSteps := 10000000) only [vy_succ, vy_zero, vx_skip, vx_reg0, vx_reg1, vx_ord, xx_done, xx_stop, xx_alt, vx_seq, vx_cond, vx_block, vx_exit, vx_ret, vx_loop, gx_nil, gx_cons, dx_nil, dx_cons, slim, slimOp, gO, gSO, qSO, quietOp, cx_nil, cx_cons, xx_alc, cS, qSB, eK, calmOp, guardS, gK, qK, putK, plK, dOk, St.ev, St.get, St.mem, St.set, St.setm, St.put, lookA, look, newK, nextver, initT, seqE, blockQ, bodyQ, resK, retV, AV.rdv, cells_agg, cells_int, cells_bool, cells_string, cells_slice, cells_uV, agg_uV, isNil_uV, toN_uV, i64_in, IntKind.wrap_u64, IntKind.wrap_u8, IntKind.wrap_u32, ↓binK, ↓intK, unK, ↓loadK, ↓withKey_eq, ↓idxAddrK, ↓indexK, ↓partK, ↓fieldK, ↓fieldAddrK, ↓convK, ↓callK, wrG, updK, ↓lenK, ↓mmK, ↓appK, ↓copyK, ↓sliceK, ↓toArrK, nilK, optK_some, optK_tup, optK_ite, evs, plains, seqParts, capsOf, capsD, List.append_nil, List.nil_append, List.cons_append, AV.dv, AV.cont, isNil_agg, isNil_int, isNil_bool, isNil_string, isNil_nil, isNil_slice, ↓buildV_eq, fillL, placesOf, Option.map_some, Option.map_none, ↓storeK, wrL, RV.av, DV.av, List.set, List.map_cons, List.map_nil, List.length_cons, List.length_nil, List.all_cons, List.all_nil, List.getElem?_cons_zero, List.getElem?_cons_succ, List.getElem?_nil, List.size_toArray, List.getElem?_toArray, List.drop_zero, List.drop_succ_cons, List.take_zero, List.take_succ_cons, Option.getD_some, Option.getD_none, Option.some.injEq, Option.isSome_some, Nat.reduceEqDiff, Nat.reduceAdd, Nat.reduceSub, Nat.reduceMul, Nat.reduceLT, Nat.reduceLeDiff, Nat.reduceMod, Nat.reduceDiv, Int.cast_ofNat_Int, Int.reduceLT, Int.reduceLE, Int.reduceToNat, ↓reduceIte, true_and, and_true, true_or, or_true, or_false, false_or, reduceCtorEq, Bool.false_eq_true, Bool.and_true, Bool.not_true, Bool.not_false, beq_self_eq_true, Bool.true_beq, Bool.false_beq, Value.oneCell', decide_true, decide_false, Int.reduceAdd, Int.reduceSub, Int.reduceMod, Int.reduceMul, Int.reduceNeg, Int.reduceBEq, Int.reduceBNe, Int.reduceTDiv, Int.reduceTMod, ne_eq, not_false_eq_true, not_true_eq_false, Int.reduceEq, Nat.zero_add, Nat.add_zero, Nat.le_refl, tyB, Try.underlying13, Try.underlying25, Try.underlying26, Try.underlying53, Try.underlying54, redG, curG, rootG, pSubG, toN_zero, val_nc, mx, mr, mc, z, d1, h2, cells_pt, agg_pt, isNil_pt, ptV_lit, cells_w, agg_w, isNil_w, valm, ↓binK_eqPt, ↓binK_eqU, ↓binK_neU, eqU_v]

  · have d1 := decide_eq_false h1
    rw [if_neg h1]
    simp -implicitDefEqProofs (maxSteps := 10000000) only [vy_succ, vy_zero, vx_skip, vx_reg0, vx_reg1, vx_ord, xx_done, xx_stop, xx_alt, vx_seq, vx_cond, vx_block, vx_exit, vx_ret, vx_loop, gx_nil, gx_cons, dx_nil, dx_cons, slim, slimOp, gO, gSO, qSO, quietOp, cx_nil, cx_cons, xx_alc, cS, qSB, eK, calmOp, guardS, gK, qK, putK, plK, dOk, St.ev, St.get, St.mem, St.set, St.setm, St.put, lookA, look, newK, nextver, initT, seqE, blockQ, bodyQ, resK, retV, AV.rdv, cells_agg, cells_int, cells_bool, cells_string, cells_slice, cells_uV, agg_uV, isNil_uV, toN_uV, i64_in, IntKind.wrap_u64, IntKind.wrap_u8, IntKind.wrap_u32, ↓binK, ↓intK, unK, ↓loadK, ↓withKey_eq, ↓idxAddrK, ↓indexK, ↓partK, ↓fieldK, ↓fieldAddrK, ↓convK, ↓callK, wrG, updK, ↓lenK, ↓mmK, ↓appK, ↓copyK, ↓sliceK, ↓toArrK, nilK, optK_some, optK_tup, optK_ite, evs, plains, seqParts, capsOf, capsD, List.append_nil, List.nil_append, List.cons_append, AV.dv, AV.cont, isNil_agg, isNil_int, isNil_bool, isNil_string, isNil_nil, isNil_slice, ↓buildV_eq, fillL, placesOf, Option.map_some, Option.map_none, ↓storeK, wrL, RV.av, DV.av, List.set, List.map_cons, List.map_nil, List.length_cons, List.length_nil, List.all_cons, List.all_nil, List.getElem?_cons_zero, List.getElem?_cons_succ, List.getElem?_nil, List.size_toArray, List.getElem?_toArray, List.drop_zero, List.drop_succ_cons, List.take_zero, List.take_succ_cons, Option.getD_some, Option.getD_none, Option.some.injEq, Option.isSome_some, Nat.reduceEqDiff, Nat.reduceAdd, Nat.reduceSub, Nat.reduceMul, Nat.reduceLT, Nat.reduceLeDiff, Nat.reduceMod, Nat.reduceDiv, Int.cast_ofNat_Int, Int.reduceLT, Int.reduceLE, Int.reduceToNat, ↓reduceIte, true_and, and_true, true_or, or_true, or_false, false_or, reduceCtorEq, Bool.false_eq_true, Bool.and_true, Bool.not_true, Bool.not_false, beq_self_eq_true, Bool.true_beq, Bool.false_beq, Value.oneCell', decide_true, decide_false, Int.reduceAdd, Int.reduceSub, Int.reduceMod, Int.reduceMul, Int.reduceNeg, Int.reduceBEq, Int.reduceBNe, Int.reduceTDiv, Int.reduceTMod, ne_eq, not_false_eq_true, not_true_eq_false, Int.reduceEq, Nat.zero_add, Nat.add_zero, Nat.le_refl, tyB, Try.underlying13, Try.underlying25, Try.underlying26, Try.underlying53, Try.underlying54, redG, curG, rootG, pSubG, toN_zero, val_nc, mx, mr, mc, z, d1, cells_pt, agg_pt, isNil_pt, ptV_lit, cells_w, agg_w, isNil_w, valm, ↓binK_eqPt, ↓binK_eqU, ↓binK_neU, eqU_v]
end Go.Vm
