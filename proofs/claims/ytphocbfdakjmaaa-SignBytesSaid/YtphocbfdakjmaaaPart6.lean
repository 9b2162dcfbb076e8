/- Texts of the proof, laid together: Pe, L, Ls, Lt, Tm. No condition. -/
import Derived.Test.YtphocbfdakjmaaaPart5
import Derived.Test.YtphocbfdakjmaaaPart3
/- Both and Times of points. No condition. -/
set_option maxRecDepth 100000
set_option linter.unusedSimpArgs false
set_option linter.unusedVariables false
namespace Go.Vm
open Go Go.RowKit Go.Proofs Go.Ec

noncomputable def wC (x y : Nat) (b : Bool) (z : Nat) : Blk := ⟨0, 73, [.int .u64 (w0 x : Nat), .int .u64 (w1 x : Nat), .int .u64 (w2 x : Nat), .int .u64 (w3 x : Nat), .int .u64 (w0 y : Nat), .int .u64 (w1 y : Nat), .int .u64 (w2 y : Nat), .int .u64 (w3 y : Nat), .bool b, .int .u64 (w0 z : Nat), .int .u64 (w1 z : Nat), .int .u64 (w2 z : Nat), .int .u64 (w3 z : Nat)]⟩
theorem val0 : (0 : Fp).val = 0 := rfl
theorem val1 : (1 : Fp).val = 1 := rfl
theorem shN_big {n t : Nat} (h : blen n ≤ t) : shN n t = 0 := by
  rw [shN_eq]
  exact Nat.div_eq_of_lt (Nat.lt_of_lt_of_le (lt_blen n) (Nat.pow_le_pow_right (by decide) h))
theorem max_int (a b : Nat) : (if (a : Int) < (b : Int) then (b : Int) else (a : Int)) = ((max a b : Nat) : Int) := by
  split <;> omega

noncomputable def boS (p q : Pt) (n m : Nat) (x : Nat × Wd) : St := ⟨[(14, .pl (.int .i64 ((x.1 : Int) - 1))), (13, .ptr 13 0 0), (12, .ptr 12 0 0), (11, .ptr 11 0 0), (10, .ptr 10 0 0), (9, .pl (.int .i64 0)), (8, .ptr 8 0 0), (7, .ptr 7 0 0), (5, .ptr 5 0 0)],
  [(13, wC x.2.X.val x.2.Y.val x.2.b x.2.z.val), (12, wC (suW (wdP p) (wdP q)).X.val (suW (wdP p) (wdP q)).Y.val (suW (wdP p) (wdP q)).b (suW (wdP p) (wdP q)).z.val), (11, wC (rx q) (ry q) (rb q) 1), (10, wC (rx p) (ry p) (rb p) 1), (7, uC m), (5, uC n), (8, ⟨0, 26, [.int .u64 (w0 0 : Nat), .int .u64 (w1 0 : Nat), .int .u64 (w2 0 : Nat), .int .u64 (w3 0 : Nat), .int .u64 (w0 0 : Nat), .int .u64 (w1 0 : Nat), .int .u64 (w2 0 : Nat), .int .u64 (w3 0 : Nat), .bool false]⟩)]⟩
theorem wd_eta (s : Wd) : (⟨s.X, s.Y, s.b, s.z⟩ : Wd) = s := rfl
theorem nsm_dbl {p q : Pt} (hp : onC p) (hq : onC q) (a b : Nat) : padd (padd (nsm a p) (nsm b q)) (padd (nsm a p) (nsm b q)) = padd (nsm (a + a) p) (nsm (b + b) q) := by
  rw [padd_swap (nsm_on hp a) (nsm_on hq b) (nsm_on hp a) (nsm_on hq b), ← nsm_add hp, ← nsm_add hq]
theorem nsm_pq {p q : Pt} (hp : onC p) (hq : onC q) (a b : Nat) : padd (padd (nsm a p) (nsm b q)) (padd p q) = padd (nsm (a + 1) p) (nsm (b + 1) q) := by
  rw [padd_swap (nsm_on hp a) (nsm_on hq b) hp hq]; rfl
theorem nsm_p {p q : Pt} (hp : onC p) (hq : onC q) (a b : Nat) : padd (padd (nsm a p) (nsm b q)) p = padd (nsm (a + 1) p) (nsm b q) := by
  have h := padd_swap (nsm_on hp a) (nsm_on hq b) hp (show onC Pt.o from trivial)
  rw [padd_o, padd_o] at h
  exact h
theorem nsm_q {p q : Pt} (hp : onC p) (hq : onC q) (a b : Nat) : padd (padd (nsm a p) (nsm b q)) q = padd (nsm a p) (nsm (b + 1) q) := by
  have h := padd_swap (nsm_on hp a) (nsm_on hq b) (show onC Pt.o from trivial) hq
  rw [o_padd, padd_o] at h
  exact h
set_option maxHeartbeats 8000000 in
theorem both_walk (p q : Pt) (n m : Nat) (hp : onC p) (hq : onC q) (hn : n < full) (hm : m < full) (R : Pt) (hR : R = padd (nsm n p) (nsm m q)) : Spec Try.prog 22 [.pl (ptV (rx p) (ry p) (rb p)), .pl (uV n), .pl (ptV (rx q) (ry q) (rb q)), .pl (uV m)] (.tup [.pl (ptV (rx R) (ry R) (rb R)), .pl (.int .i64 0)]) := by
  have hΓ : Env.ok [(27, onG), (55, widG), (56, suG), (60, narG), (38, ptZG), (57, lenG), (59, bitH), (58, twG)] Try.prog := ok_cons on_ok (ok_cons wid_ok (ok_cons su_ok (ok_cons nar_ok (ok_cons ptZ_ok (ok_cons len_ok (ok_cons bitH_ok (ok_cons tw_ok (ok_nil _))))))))
  have h1 := onB_p hp
  have h2 := onB_p hq
  have tn : toN (uV n) = some n := toN_lt hn
  have tm : toN (uV m) = some m := toN_lt hm
  have mn : n % full = n := Nat.mod_eq_of_lt hn
  have mm : m % full = m := Nat.mod_eq_of_lt hm
  have hLn := blen_le_256 hn
  have hLm := blen_le_256 hm
  have hmax := max_int (blen n) (blen m)
  have sn := @shN_big n (max (blen n) (blen m)) (Nat.le_max_left _ _)
  have sm := @shN_big m (max (blen n) (blen m)) (Nat.le_max_right _ _)
  have hT : max (blen n) (blen m) ≤ 256 := Nat.max_le.2 ⟨hLn, hLm⟩
  generalize max (blen n) (blen m) = T at *
  have hw1 : IntKind.i64.wrap ((T : Int) - 1) = (T : Int) - 1 := i64_in (by omega) (by omega)
  have hc := su_sem (gd_wdP hp) (gd_wdP hq)
  rw [pW_wdP, pW_wdP] at hc
  obtain ⟨hc1, hc2⟩ := hc
  refine Spec.of_vx hΓ follows_mixed Try.func22 rfl (by kernel_rfl) (T := [(3, .alc)]) (by simp [Try.ntmps22]) (by kernel_rfl) rfl Try.ntmps22 (res := [.cell 8 26, .tmp 9]) rfl ?_
  intro W
  simp -implicitDefEqProofs (maxSteps := 10000000) only [vy_succ, vmB, slim, slimOp, gO, gSO, qSO, quietOp, cS, qSB, eK, calmOp, guardS, gK, qK, putK, plK, dOk, St.ev, St.get, St.mem, St.set, St.setm, St.put, lookA, look, newK, nextver, initT, seqE, blockQ, bodyQ, resK, retV, AV.rdv, agg_uV, ↓binK, ↓intK, unK, ↓loadK, ↓withKey_eq, ↓idxAddrK, ↓indexK, ↓partK, ↓fieldK, ↓fieldAddrK, ↓convK, ↓callK, wrG, updK, ↓lenK, ↓mmK, ↓appK, ↓copyK, ↓sliceK, ↓toArrK, nilK, evs, plains, seqParts, capsOf, capsD, AV.dv, AV.cont, ↓buildV_eq, fillL, placesOf, ↓storeK, wrL, RV.av, DV.av, List.set, Nat.reduceEqDiff, Nat.reduceAdd, Nat.reduceSub, Nat.reduceMul, Nat.reduceLT, Nat.reduceLeDiff, Nat.reduceMod, Nat.reduceDiv, Int.reduceLT, Int.reduceLE, Int.reduceToNat, ↓reduceIte, reduceCtorEq, Value.oneCell', Int.reduceAdd, Int.reduceSub, Int.reduceMod, Int.reduceMul, Int.reduceNeg, Int.reduceBEq, Int.reduceBNe, Int.reduceTDiv, Int.reduceTMod, Int.reduceEq, tyB, Try.underlying13, Try.underlying25, Try.underlying26, Try.underlying39, Try.underlying40, Try.underlying72, Try.underlying73, onG, widG, suG, narG, ptZG, lenG, bitH, twG, mn, mm, toR_p, toW_p, toR_0, h1, h2, hmax, hw1, cells_pt, agg_pt, isNil_pt, ptV_lit, cells_w, agg_w, isNil_w, valm, ↓binK_eqPt, ↓binK_eqU, ↓binK_neU, eqU_v]
  refine VT_loop hΓ follows_mixed (boS p q n m) (fun x => x.1 ≤ T ∧ gdW x.2 ∧ pW x.2 = padd (nsm (shN n x.1) p) (nsm (shN m x.1) q)) (fun x => x.1) (T, ⟨0, 0, true, 1⟩) (Sub.of (by simp -implicitDefEqProofs only [subT, boS, look, lookA, newK, St.get, St.mem, List.map_cons, List.map_nil, List.all_cons, List.all_nil, List.length_cons, List.length_nil, List.getElem?_cons_zero, List.getElem?_cons_succ, Nat.reduceEqDiff, Nat.reduceAdd, Option.some.injEq, ↓reduceIte, true_and, and_true, reduceCtorEq, beq_self_eq_true, Bool.and_true, ne_eq, not_false_eq_true, not_true_eq_false, Nat.add_zero, Nat.zero_add, Nat.reduceSub, Nat.reduceMul, Int.cast_ofNat_Int, Int.reduceAdd, Int.reduceSub, Int.reduceMul]) (by simp -implicitDefEqProofs only [subM, boS, uC, wC, val0, val1, look, lookA, newK, St.get, St.mem, List.map_cons, List.map_nil, List.all_cons, List.all_nil, List.length_cons, List.length_nil, List.getElem?_cons_zero, List.getElem?_cons_succ, Nat.reduceEqDiff, Nat.reduceAdd, Option.some.injEq, ↓reduceIte, true_and, and_true, reduceCtorEq, beq_self_eq_true, Bool.and_true, ne_eq, not_false_eq_true, not_true_eq_false, Nat.add_zero, Nat.zero_add, Nat.reduceSub, Nat.reduceMul, Int.cast_ofNat_Int, Int.reduceAdd, Int.reduceSub, Int.reduceMul]) rfl) ⟨Nat.le_refl _, ok_o, by rw [pW_b rfl, sn, sm]; rfl⟩ ?_
  rintro ⟨t, s⟩ ⟨ht, hs, hps⟩
  simp only at ht hs hps
  rcases t with _ | j
  · have hs1 := hs.1
    rw [shN_0, shN_0, ← hR] at hps
    simp -implicitDefEqProofs (maxSteps := 10000000) only [vy_succ, vmB, slim, slimOp, gO, gSO, qSO, quietOp, cS, qSB, eK, calmOp, guardS, gK, qK, putK, plK, dOk, St.ev, St.get, St.mem, St.set, St.setm, St.put, lookA, look, newK, nextver, initT, seqE, blockQ, bodyQ, resK, retV, AV.rdv, agg_uV, ↓binK, ↓intK, unK, ↓loadK, ↓withKey_eq, ↓idxAddrK, ↓indexK, ↓partK, ↓fieldK, ↓fieldAddrK, ↓convK, ↓callK, wrG, updK, ↓lenK, ↓mmK, ↓appK, ↓copyK, ↓sliceK, ↓toArrK, nilK, evs, plains, seqParts, capsOf, capsD, AV.dv, AV.cont, ↓buildV_eq, fillL, placesOf, ↓storeK, wrL, RV.av, DV.av, List.set, Nat.reduceEqDiff, Nat.reduceAdd, Nat.reduceSub, Nat.reduceMul, Nat.reduceLT, Nat.reduceLeDiff, Nat.reduceMod, Nat.reduceDiv, Int.reduceLT, Int.reduceLE, Int.reduceToNat, ↓reduceIte, reduceCtorEq, Value.oneCell', Int.reduceAdd, Int.reduceSub, Int.reduceMod, Int.reduceMul, Int.reduceNeg, Int.reduceBEq, Int.reduceBNe, Int.reduceTDiv, Int.reduceTMod, Int.reduceEq, tyB, Try.underlying13, Try.underlying25, Try.underlying26, Try.underlying39, Try.underlying40, Try.underlying72, Try.underlying73, boS, uC, wC, Int.natCast_zero, narG, toW_v, hs1, hps, cells_pt, agg_pt, isNil_pt, ptV_lit, cells_w, agg_w, isNil_w, valm, ↓binK_eqPt, ↓binK_eqU, ↓binK_neU, eqU_v]
  · have hstep := shN_step n j
    have hstep' := shN_step m j
    have hbit := bitN_nat n j (by omega)
    have hbit' := bitN_nat m j (by omega)
    have r0 : decide (0 ≤ (j : Int)) = true := decide_eq_true (by omega)
    have r2 : IntKind.i64.wrap ((j : Int) - 1) = (j : Int) - 1 := i64_in (by omega) (by omega)
    obtain ⟨hd1, hd2⟩ := db_sem hs
    rw [hps, nsm_dbl hp hq] at hd2
    cases hb : n.testBit j with
    | false =>
      cases hb' : m.testBit j with
      | false =>
        rw [hb] at hbit hstep
        rw [hb'] at hbit' hstep'
        rw [Bool.toNat_false, Nat.add_zero] at hstep hstep'
        rw [← hstep, ← hstep'] at hd2
        simp -implicitDefEqProofs (maxSteps := 10000000) only [vy_succ, vmB, slim, slimOp, gO, gSO, qSO, quietOp, cS, qSB, eK, calmOp, guardS, gK, qK, putK, plK, dOk, St.ev, St.get, St.mem, St.set, St.setm, St.put, lookA, look, newK, nextver, initT, seqE, blockQ, bodyQ, resK, retV, AV.rdv, agg_uV, ↓binK, ↓intK, unK, ↓loadK, ↓withKey_eq, ↓idxAddrK, ↓indexK, ↓partK, ↓fieldK, ↓fieldAddrK, ↓convK, ↓callK, wrG, updK, ↓lenK, ↓mmK, ↓appK, ↓copyK, ↓sliceK, ↓toArrK, nilK, evs, plains, seqParts, capsOf, capsD, AV.dv, AV.cont, ↓buildV_eq, fillL, placesOf, ↓storeK, wrL, RV.av, DV.av, List.set, Nat.reduceEqDiff, Nat.reduceAdd, Nat.reduceSub, Nat.reduceMul, Nat.reduceLT, Nat.reduceLeDiff, Nat.reduceMod, Nat.reduceDiv, Int.reduceLT, Int.reduceLE, Int.reduceToNat, ↓reduceIte, reduceCtorEq, Value.oneCell', Int.reduceAdd, Int.reduceSub, Int.reduceMod, Int.reduceMul, Int.reduceNeg, Int.reduceBEq, Int.reduceBNe, Int.reduceTDiv, Int.reduceTMod, Int.reduceEq, tyB, Try.underlying13, Try.underlying25, Try.underlying26, Try.underlying39, Try.underlying40, Try.underlying72, Try.underlying73, boS, uC, wC, cast_pred, bitH, twG, suG, mn, mm, toW_v, toW_p, hbit, hbit', r0, r2, wd_eta, cells_pt, agg_pt, isNil_pt, ptV_lit, cells_w, agg_w, isNil_w, valm, ↓binK_eqPt, ↓binK_eqU, ↓binK_neU, eqU_v]
        exact ⟨(j, dbW s), ⟨by show j ≤ T; omega, hd1, hd2⟩, Nat.lt_succ_self j, Sub.of (by simp -implicitDefEqProofs only [subT, boS, look, lookA, newK, St.get, St.mem, List.map_cons, List.map_nil, List.all_cons, List.all_nil, List.length_cons, List.length_nil, List.getElem?_cons_zero, List.getElem?_cons_succ, Nat.reduceEqDiff, Nat.reduceAdd, Option.some.injEq, ↓reduceIte, true_and, and_true, reduceCtorEq, beq_self_eq_true, Bool.and_true, ne_eq, not_false_eq_true, not_true_eq_false, Nat.add_zero, Nat.zero_add, Nat.reduceSub, Nat.reduceMul, Int.cast_ofNat_Int, Int.reduceAdd, Int.reduceSub, Int.reduceMul]) (by simp -implicitDefEqProofs only [subM, boS, uC, wC, look, lookA, newK, St.get, St.mem, List.map_cons, List.map_nil, List.all_cons, List.all_nil, List.length_cons, List.length_nil, List.getElem?_cons_zero, List.getElem?_cons_succ, Nat.reduceEqDiff, Nat.reduceAdd, Option.some.injEq, ↓reduceIte, true_and, and_true, reduceCtorEq, beq_self_eq_true, Bool.and_true, ne_eq, not_false_eq_true, not_true_eq_false, Nat.add_zero, Nat.zero_add, Nat.reduceSub, Nat.reduceMul, Int.cast_ofNat_Int, Int.reduceAdd, Int.reduceSub, Int.reduceMul]) rfl⟩
      | true =>
        rw [hb] at hbit hstep
        rw [hb'] at hbit' hstep'
        rw [Bool.toNat_false, Nat.add_zero] at hstep
        rw [Bool.toNat_true] at hstep'
        obtain ⟨he1, he2⟩ := su_sem hd1 (gd_wdP hq)
        rw [hd2, pW_wdP, nsm_q hp hq, ← hstep, ← hstep'] at he2
        simp -implicitDefEqProofs (maxSteps := 10000000) only [vy_succ, vmB, slim, slimOp, gO, gSO, qSO, quietOp, cS, qSB, eK, calmOp, guardS, gK, qK, putK, plK, dOk, St.ev, St.get, St.mem, St.set, St.setm, St.put, lookA, look, newK, nextver, initT, seqE, blockQ, bodyQ, resK, retV, AV.rdv, agg_uV, ↓binK, ↓intK, unK, ↓loadK, ↓withKey_eq, ↓idxAddrK, ↓indexK, ↓partK, ↓fieldK, ↓fieldAddrK, ↓convK, ↓callK, wrG, updK, ↓lenK, ↓mmK, ↓appK, ↓copyK, ↓sliceK, ↓toArrK, nilK, evs, plains, seqParts, capsOf, capsD, AV.dv, AV.cont, ↓buildV_eq, fillL, placesOf, ↓storeK, wrL, RV.av, DV.av, List.set, Nat.reduceEqDiff, Nat.reduceAdd, Nat.reduceSub, Nat.reduceMul, Nat.reduceLT, Nat.reduceLeDiff, Nat.reduceMod, Nat.reduceDiv, Int.reduceLT, Int.reduceLE, Int.reduceToNat, ↓reduceIte, reduceCtorEq, Value.oneCell', Int.reduceAdd, Int.reduceSub, Int.reduceMod, Int.reduceMul, Int.reduceNeg, Int.reduceBEq, Int.reduceBNe, Int.reduceTDiv, Int.reduceTMod, Int.reduceEq, tyB, Try.underlying13, Try.underlying25, Try.underlying26, Try.underlying39, Try.underlying40, Try.underlying72, Try.underlying73, boS, uC, wC, cast_pred, bitH, twG, suG, mn, mm, toW_v, toW_p, hbit, hbit', r0, r2, wd_eta, cells_pt, agg_pt, isNil_pt, ptV_lit, cells_w, agg_w, isNil_w, valm, ↓binK_eqPt, ↓binK_eqU, ↓binK_neU, eqU_v]
        exact ⟨(j, suW (dbW s) (wdP q)), ⟨by show j ≤ T; omega, he1, he2⟩, Nat.lt_succ_self j, Sub.of (by simp -implicitDefEqProofs only [subT, boS, look, lookA, newK, St.get, St.mem, List.map_cons, List.map_nil, List.all_cons, List.all_nil, List.length_cons, List.length_nil, List.getElem?_cons_zero, List.getElem?_cons_succ, Nat.reduceEqDiff, Nat.reduceAdd, Option.some.injEq, ↓reduceIte, true_and, and_true, reduceCtorEq, beq_self_eq_true, Bool.and_true, ne_eq, not_false_eq_true, not_true_eq_false, Nat.add_zero, Nat.zero_add, Nat.reduceSub, Nat.reduceMul, Int.cast_ofNat_Int, Int.reduceAdd, Int.reduceSub, Int.reduceMul]) (by simp -implicitDefEqProofs only [subM, boS, uC, wC, look, lookA, newK, St.get, St.mem, List.map_cons, List.map_nil, List.all_cons, List.all_nil, List.length_cons, List.length_nil, List.getElem?_cons_zero, List.getElem?_cons_succ, Nat.reduceEqDiff, Nat.reduceAdd, Option.some.injEq, ↓reduceIte, true_and, and_true, reduceCtorEq, beq_self_eq_true, Bool.and_true, ne_eq, not_false_eq_true, not_true_eq_false, Nat.add_zero, Nat.zero_add, Nat.reduceSub, Nat.reduceMul, Int.cast_ofNat_Int, Int.reduceAdd, Int.reduceSub, Int.reduceMul]) rfl⟩
    | true =>
      cases hb' : m.testBit j with
      | false =>
        rw [hb] at hbit hstep
        rw [hb'] at hbit' hstep'
        rw [Bool.toNat_false, Nat.add_zero] at hstep'
        rw [Bool.toNat_true] at hstep
        obtain ⟨he1, he2⟩ := su_sem hd1 (gd_wdP hp)
        rw [hd2, pW_wdP, nsm_p hp hq, ← hstep, ← hstep'] at he2
        simp -implicitDefEqProofs (maxSteps := 10000000) only [vy_succ, vmB, slim, slimOp, gO, gSO, qSO, quietOp, cS, qSB, eK, calmOp, guardS, gK, qK, putK, plK, dOk, St.ev, St.get, St.mem, St.set, St.setm, St.put, lookA, look, newK, nextver, initT, seqE, blockQ, bodyQ, resK, retV, AV.rdv, agg_uV, ↓binK, ↓intK, unK, ↓loadK, ↓withKey_eq, ↓idxAddrK, ↓indexK, ↓partK, ↓fieldK, ↓fieldAddrK, ↓convK, ↓callK, wrG, updK, ↓lenK, ↓mmK, ↓appK, ↓copyK, ↓sliceK, ↓toArrK, nilK, evs, plains, seqParts, capsOf, capsD, AV.dv, AV.cont, ↓buildV_eq, fillL, placesOf, ↓storeK, wrL, RV.av, DV.av, List.set, Nat.reduceEqDiff, Nat.reduceAdd, Nat.reduceSub, Nat.reduceMul, Nat.reduceLT, Nat.reduceLeDiff, Nat.reduceMod, Nat.reduceDiv, Int.reduceLT, Int.reduceLE, Int.reduceToNat, ↓reduceIte, reduceCtorEq, Value.oneCell', Int.reduceAdd, Int.reduceSub, Int.reduceMod, Int.reduceMul, Int.reduceNeg, Int.reduceBEq, Int.reduceBNe, Int.reduceTDiv, Int.reduceTMod, Int.reduceEq, tyB, Try.underlying13, Try.underlying25, Try.underlying26, Try.underlying39, Try.underlying40, Try.underlying72, Try.underlying73, boS, uC, wC, cast_pred, bitH, twG, suG, mn, mm, toW_v, toW_p, hbit, hbit', r0, r2, wd_eta, cells_pt, agg_pt, isNil_pt, ptV_lit, cells_w, agg_w, isNil_w, valm, ↓binK_eqPt, ↓binK_eqU, ↓binK_neU, eqU_v]
        exact ⟨(j, suW (dbW s) (wdP p)), ⟨by show j ≤ T; omega, he1, he2⟩, Nat.lt_succ_self j, Sub.of (by simp -implicitDefEqProofs only [subT, boS, look, lookA, newK, St.get, St.mem, List.map_cons, List.map_nil, List.all_cons, List.all_nil, List.length_cons, List.length_nil, List.getElem?_cons_zero, List.getElem?_cons_succ, Nat.reduceEqDiff, Nat.reduceAdd, Option.some.injEq, ↓reduceIte, true_and, and_true, reduceCtorEq, beq_self_eq_true, Bool.and_true, ne_eq, not_false_eq_true, not_true_eq_false, Nat.add_zero, Nat.zero_add, Nat.reduceSub, Nat.reduceMul, Int.cast_ofNat_Int, Int.reduceAdd, Int.reduceSub, Int.reduceMul]) (by simp -implicitDefEqProofs only [subM, boS, uC, wC, look, lookA, newK, St.get, St.mem, List.map_cons, List.map_nil, List.all_cons, List.all_nil, List.length_cons, List.length_nil, List.getElem?_cons_zero, List.getElem?_cons_succ, Nat.reduceEqDiff, Nat.reduceAdd, Option.some.injEq, ↓reduceIte, true_and, and_true, reduceCtorEq, beq_self_eq_true, Bool.and_true, ne_eq, not_false_eq_true, not_true_eq_false, Nat.add_zero, Nat.zero_add, Nat.reduceSub, Nat.reduceMul, Int.cast_ofNat_Int, Int.reduceAdd, Int.reduceSub, Int.reduceMul]) rfl⟩
      | true =>
        rw [hb] at hbit hstep
        rw [hb'] at hbit' hstep'
        rw [Bool.toNat_true] at hstep hstep'
        obtain ⟨he1, he2⟩ := su_sem hd1 hc1
        rw [hd2, hc2, nsm_pq hp hq, ← hstep, ← hstep'] at he2
        simp -implicitDefEqProofs (maxSteps := 10000000) only [vy_succ, vmB, slim, slimOp, gO, gSO, qSO, quietOp, cS, qSB, eK, calmOp, guardS, gK, qK, putK, plK, dOk, St.ev, St.get, St.mem, St.set, St.setm, St.put, lookA, look, newK, nextver, initT, seqE, blockQ, bodyQ, resK, retV, AV.rdv, agg_uV, ↓binK, ↓intK, unK, ↓loadK, ↓withKey_eq, ↓idxAddrK, ↓indexK, ↓partK, ↓fieldK, ↓fieldAddrK, ↓convK, ↓callK, wrG, updK, ↓lenK, ↓mmK, ↓appK, ↓copyK, ↓sliceK, ↓toArrK, nilK, evs, plains, seqParts, capsOf, capsD, AV.dv, AV.cont, ↓buildV_eq, fillL, placesOf, ↓storeK, wrL, RV.av, DV.av, List.set, Nat.reduceEqDiff, Nat.reduceAdd, Nat.reduceSub, Nat.reduceMul, Nat.reduceLT, Nat.reduceLeDiff, Nat.reduceMod, Nat.reduceDiv, Int.reduceLT, Int.reduceLE, Int.reduceToNat, ↓reduceIte, reduceCtorEq, Value.oneCell', Int.reduceAdd, Int.reduceSub, Int.reduceMod, Int.reduceMul, Int.reduceNeg, Int.reduceBEq, Int.reduceBNe, Int.reduceTDiv, Int.reduceTMod, Int.reduceEq, tyB, Try.underlying13, Try.underlying25, Try.underlying26, Try.underlying39, Try.underlying40, Try.underlying72, Try.underlying73, boS, uC, wC, cast_pred, bitH, twG, suG, mn, mm, toW_v, toW_p, hbit, hbit', r0, r2, wd_eta, cells_pt, agg_pt, isNil_pt, ptV_lit, cells_w, agg_w, isNil_w, valm, ↓binK_eqPt, ↓binK_eqU, ↓binK_neU, eqU_v]
        exact ⟨(j, suW (dbW s) (suW (wdP p) (wdP q))), ⟨by show j ≤ T; omega, he1, he2⟩, Nat.lt_succ_self j, Sub.of (by simp -implicitDefEqProofs only [subT, boS, look, lookA, newK, St.get, St.mem, List.map_cons, List.map_nil, List.all_cons, List.all_nil, List.length_cons, List.length_nil, List.getElem?_cons_zero, List.getElem?_cons_succ, Nat.reduceEqDiff, Nat.reduceAdd, Option.some.injEq, ↓reduceIte, true_and, and_true, reduceCtorEq, beq_self_eq_true, Bool.and_true, ne_eq, not_false_eq_true, not_true_eq_false, Nat.add_zero, Nat.zero_add, Nat.reduceSub, Nat.reduceMul, Int.cast_ofNat_Int, Int.reduceAdd, Int.reduceSub, Int.reduceMul]) (by simp -implicitDefEqProofs only [subM, boS, uC, wC, look, lookA, newK, St.get, St.mem, List.map_cons, List.map_nil, List.all_cons, List.all_nil, List.length_cons, List.length_nil, List.getElem?_cons_zero, List.getElem?_cons_succ, Nat.reduceEqDiff, Nat.reduceAdd, Option.some.injEq, ↓reduceIte, true_and, and_true, reduceCtorEq, beq_self_eq_true, Bool.and_true, ne_eq, not_false_eq_true, not_true_eq_false, Nat.add_zero, Nat.zero_add, Nat.reduceSub, Nat.reduceMul, Int.cast_ofNat_Int, Int.reduceAdd, Int.reduceSub, Int.reduceMul]) rfl⟩

noncomputable def boG : List DV → Option RV
  | [.pl v, .pl vn, .pl u, .pl vm] => match toR v, toN vn, toR u, toN vm with
    | some (x, y, b), some n, some (x', y', b'), some m => open Classical in if onB x y b = true ∧ onB x' y' b' = true then some (.tup [.pl (ptV (rx (padd (nsm n (ptOf x y b)) (nsm m (ptOf x' y' b')))) (ry (padd (nsm n (ptOf x y b)) (nsm m (ptOf x' y' b')))) (rb (padd (nsm n (ptOf x y b)) (nsm m (ptOf x' y' b'))))), .pl (.int .i64 0)]) else some (.tup [.pl (ptV 0 0 false), .pl (.int .i64 1)])
    | _, _, _, _ => none
  | _ => none
theorem bo_bad (x y x' y' n m : Nat) (b b' : Bool) (hx : x < full) (hy : y < full) (hx' : x' < full) (hy' : y' < full) (h : ¬ (onB x y b = true ∧ onB x' y' b' = true)) : Spec Try.prog 22 [.pl (ptV x y b), .pl (uV n), .pl (ptV x' y' b'), .pl (uV m)] (.tup [.pl (ptV 0 0 false), .pl (.int .i64 1)]) := by
  have hΓ : Env.ok [(27, onG)] Try.prog := ok_cons on_ok (ok_nil _)
  have t := toR_lt (b := b) hx hy
  have t' := toR_lt (b := b') hx' hy'
  refine Spec.of_vx hΓ follows_mixed Try.func22 rfl (by kernel_rfl) (T := [(3, .alc)]) (by simp [Try.ntmps22]) (by kernel_rfl) rfl Try.ntmps22 (res := [.cell 8 26, .tmp 9]) rfl ?_
  intro W
  cases h1 : onB x y b
  · simp -implicitDefEqProofs (maxSteps := 10000000) only [vy_succ, vmB, slim, slimOp, gO, gSO, qSO, quietOp, cS, qSB, eK, calmOp, guardS, gK, qK, putK, plK, dOk, St.ev, St.get, St.mem, St.set, St.setm, St.put, lookA, look, newK, nextver, initT, seqE, blockQ, bodyQ, resK, retV, AV.rdv, agg_uV, ↓binK, ↓intK, unK, ↓loadK, ↓withKey_eq, ↓idxAddrK, ↓indexK, ↓partK, ↓fieldK, ↓fieldAddrK, ↓convK, ↓callK, wrG, updK, ↓lenK, ↓mmK, ↓appK, ↓copyK, ↓sliceK, ↓toArrK, nilK, evs, plains, seqParts, capsOf, capsD, AV.dv, AV.cont, ↓buildV_eq, fillL, placesOf, ↓storeK, wrL, RV.av, DV.av, List.set, Nat.reduceEqDiff, Nat.reduceAdd, Nat.reduceSub, Nat.reduceMul, Nat.reduceLT, Nat.reduceLeDiff, Nat.reduceMod, Nat.reduceDiv, Int.reduceLT, Int.reduceLE, Int.reduceToNat, ↓reduceIte, reduceCtorEq, Value.oneCell', Int.reduceAdd, Int.reduceSub, Int.reduceMod, Int.reduceMul, Int.reduceNeg, Int.reduceBEq, Int.reduceBNe, Int.reduceTDiv, Int.reduceTMod, Int.reduceEq, tyB, Try.underlying13, Try.underlying25, Try.underlying26, Try.underlying39, Try.underlying40, Try.underlying72, Try.underlying73, onG, t, t', h1, cells_pt, agg_pt, isNil_pt, ptV_lit, cells_w, agg_w, isNil_w, valm, ↓binK_eqPt, ↓binK_eqU, ↓binK_neU, eqU_v]
  · have h2 : onB x' y' b' = false := by
      cases h2 : onB x' y' b'
      · rfl
      · exact absurd ⟨h1, h2⟩ h
    simp -implicitDefEqProofs (maxSteps := 10000000) only [vy_succ, vmB, slim, slimOp, gO, gSO, qSO, quietOp, cS, qSB, eK, calmOp, guardS, gK, qK, putK, plK, dOk, St.ev, St.get, St.mem, St.set, St.setm, St.put, lookA, look, newK, nextver, initT, seqE, blockQ, bodyQ, resK, retV, AV.rdv, agg_uV, ↓binK, ↓intK, unK, ↓loadK, ↓withKey_eq, ↓idxAddrK, ↓indexK, ↓partK, ↓fieldK, ↓fieldAddrK, ↓convK, ↓callK, wrG, updK, ↓lenK, ↓mmK, ↓appK, ↓copyK, ↓sliceK, ↓toArrK, nilK, evs, plains, seqParts, capsOf, capsD, AV.dv, AV.cont, ↓buildV_eq, fillL, placesOf, ↓storeK, wrL, RV.av, DV.av, List.set, Nat.reduceEqDiff, Nat.reduceAdd, Nat.reduceSub, Nat.reduceMul, Nat.reduceLT, Nat.reduceLeDiff, Nat.reduceMod, Nat.reduceDiv, Int.reduceLT, Int.reduceLE, Int.reduceToNat, ↓reduceIte, reduceCtorEq, Value.oneCell', Int.reduceAdd, Int.reduceSub, Int.reduceMod, Int.reduceMul, Int.reduceNeg, Int.reduceBEq, Int.reduceBNe, Int.reduceTDiv, Int.reduceTMod, Int.reduceEq, tyB, Try.underlying13, Try.underlying25, Try.underlying26, Try.underlying39, Try.underlying40, Try.underlying72, Try.underlying73, onG, t, t', h1, h2, cells_pt, agg_pt, isNil_pt, ptV_lit, cells_w, agg_w, isNil_w, valm, ↓binK_eqPt, ↓binK_eqU, ↓binK_neU, eqU_v]
theorem both_ok : ∀ ds r, boG ds = some r → Spec Try.prog 22 ds r := by
  intro ds r h
  unfold boG at h
  split at h
  case h_2 => cases h
  rename_i v vn u vm
  split at h
  case h_2 => cases h
  rename_i x y b n x' y' b' m hv hn hu hm
  obtain ⟨rfl, hx, hy⟩ := toR_eq hv
  obtain ⟨rfl, hx', hy'⟩ := toR_eq hu
  obtain ⟨rfl, hn'⟩ := toN_eq hn
  obtain ⟨rfl, hm'⟩ := toN_eq hm
  split at h
  · rename_i hc
    cases h
    obtain ⟨c1, c2, c3, c4⟩ := onB_on hc.1
    obtain ⟨d1, d2, d3, d4⟩ := onB_on hc.2
    have := both_walk _ _ n m c1 d1 hn' hm' _ rfl
    rw [c2, c3, c4, d2, d3, d4] at this
    exact this
  · rename_i hc
    cases h
    exact bo_bad x y x' y' n m b b' hx hy hx' hy' hc
noncomputable def tiG : List DV → Option RV
  | [.pl v, .pl vn] => match toR v, toN vn with
    | some (x, y, b), some n => open Classical in if onB x y b = true then some (.tup [.pl (ptV (rx (nsm n (ptOf x y b))) (ry (nsm n (ptOf x y b))) (rb (nsm n (ptOf x y b)))), .pl (.int .i64 0)]) else some (.tup [.pl (ptV 0 0 false), .pl (.int .i64 1)])
    | _, _ => none
  | _ => none
theorem onB_0 : onB 0 0 true = true := onB_p (p := .o) trivial
theorem ptOf_0 : ptOf 0 0 true = .o := rfl
theorem tim_ok : ∀ ds r, tiG ds = some r → Spec Try.prog 12 ds r := by
  intro ds r h
  unfold tiG at h
  split at h
  case h_2 => cases h
  rename_i v vn
  split at h
  case h_2 => cases h
  rename_i x y b n hv hn
  obtain ⟨rfl, hx, hy⟩ := toR_eq hv
  obtain ⟨rfl, hn'⟩ := toN_eq hn
  have mn : n % full = n := Nat.mod_eq_of_lt hn'
  have hΓ : Env.ok [(22, boG), (38, ptZG)] Try.prog := ok_cons both_ok (ok_cons ptZ_ok (ok_nil _))
  have t := toR_lt (b := b) hx hy
  have e : padd (nsm n (ptOf x y b)) (nsm 0 .o) = nsm n (ptOf x y b) := padd_o _
  split at h
  · rename_i hc
    cases h
    refine Spec.of_vx hΓ follows_mixed Try.func12 rfl (by kernel_rfl) (T := []) (by simp [Try.ntmps12]) (by kernel_rfl) rfl Try.ntmps12 (res := [.cell 4 26, .tmp 5]) rfl ?_
    intro W
    simp -implicitDefEqProofs (maxSteps := 10000000) only [vy_succ, vmB, slim, slimOp, gO, gSO, qSO, quietOp, cS, qSB, eK, calmOp, guardS, gK, qK, putK, plK, dOk, St.ev, St.get, St.mem, St.set, St.setm, St.put, lookA, look, newK, nextver, initT, seqE, blockQ, bodyQ, resK, retV, AV.rdv, agg_uV, ↓binK, ↓intK, unK, ↓loadK, ↓withKey_eq, ↓idxAddrK, ↓indexK, ↓partK, ↓fieldK, ↓fieldAddrK, ↓convK, ↓callK, wrG, updK, ↓lenK, ↓mmK, ↓appK, ↓copyK, ↓sliceK, ↓toArrK, nilK, evs, plains, seqParts, capsOf, capsD, AV.dv, AV.cont, ↓buildV_eq, fillL, placesOf, ↓storeK, wrL, RV.av, DV.av, List.set, Nat.reduceEqDiff, Nat.reduceAdd, Nat.reduceSub, Nat.reduceMul, Nat.reduceLT, Nat.reduceLeDiff, Nat.reduceMod, Nat.reduceDiv, Int.reduceLT, Int.reduceLE, Int.reduceToNat, ↓reduceIte, reduceCtorEq, Value.oneCell', Int.reduceAdd, Int.reduceSub, Int.reduceMod, Int.reduceMul, Int.reduceNeg, Int.reduceBEq, Int.reduceBNe, Int.reduceTDiv, Int.reduceTMod, Int.reduceEq, tyB, Try.underlying13, Try.underlying25, Try.underlying26, Try.underlying39, Try.underlying40, Try.underlying72, Try.underlying73, boG, ptZG, t, hc, mn, toR_0, toN_zero, onB_0, ptOf_0, e, cells_pt, agg_pt, isNil_pt, ptV_lit, cells_w, agg_w, isNil_w, valm, ↓binK_eqPt, ↓binK_eqU, ↓binK_neU, eqU_v]
  · rename_i hc
    cases h
    refine Spec.of_vx hΓ follows_mixed Try.func12 rfl (by kernel_rfl) (T := []) (by simp [Try.ntmps12]) (by kernel_rfl) rfl Try.ntmps12 (res := [.cell 4 26, .tmp 5]) rfl ?_
    intro W
    simp -implicitDefEqProofs (maxSteps := 10000000) only [vy_succ, vmB, slim, slimOp, gO, gSO, qSO, quietOp, cS, qSB, eK, calmOp, guardS, gK, qK, putK, plK, dOk, St.ev, St.get, St.mem, St.set, St.setm, St.put, lookA, look, newK, nextver, initT, seqE, blockQ, bodyQ, resK, retV, AV.rdv, agg_uV, ↓binK, ↓intK, unK, ↓loadK, ↓withKey_eq, ↓idxAddrK, ↓indexK, ↓partK, ↓fieldK, ↓fieldAddrK, ↓convK, ↓callK, wrG, updK, ↓lenK, ↓mmK, ↓appK, ↓copyK, ↓sliceK, ↓toArrK, nilK, evs, plains, seqParts, capsOf, capsD, AV.dv, AV.cont, ↓buildV_eq, fillL, placesOf, ↓storeK, wrL, RV.av, DV.av, List.set, Nat.reduceEqDiff, Nat.reduceAdd, Nat.reduceSub, Nat.reduceMul, Nat.reduceLT, Nat.reduceLeDiff, Nat.reduceMod, Nat.reduceDiv, Int.reduceLT, Int.reduceLE, Int.reduceToNat, ↓reduceIte, reduceCtorEq, Value.oneCell', Int.reduceAdd, Int.reduceSub, Int.reduceMod, Int.reduceMul, Int.reduceNeg, Int.reduceBEq, Int.reduceBNe, Int.reduceTDiv, Int.reduceTMod, Int.reduceEq, tyB, Try.underlying13, Try.underlying25, Try.underlying26, Try.underlying39, Try.underlying40, Try.underlying72, Try.underlying73, boG, ptZG, t, hc, mn, toR_0, toN_zero, onB_0, ptOf_0, e, cells_pt, agg_pt, isNil_pt, ptV_lit, cells_w, agg_w, isNil_w, valm, ↓binK_eqPt, ↓binK_eqU, ↓binK_neU, eqU_v]
end Go.Vm

/- Numbers in digits of 16 bits. Contracts: digit, Of. No condition. -/
set_option maxRecDepth 100000
set_option linter.unusedSimpArgs false
set_option linter.unusedVariables false
namespace Go.Vm
open Go Go.RowKit Go.Proofs

/-- the digit of a number at a place -/
noncomputable def dg (x i : Nat) : Nat := Classical.choose (⟨x / 65536 ^ i % 65536, rfl⟩ : ∃ y : Nat, y = x / 65536 ^ i % 65536)
theorem dg_eq (x i : Nat) : dg x i = x / 65536 ^ i % 65536 := Classical.choose_spec (⟨x / 65536 ^ i % 65536, rfl⟩ : ∃ y : Nat, y = x / 65536 ^ i % 65536)
theorem dg_lt (x i : Nat) : dg x i < 65536 := by rw [dg_eq]; exact Nat.mod_lt _ (by omega)
noncomputable def digV (n x : Nat) : List Value := Classical.choose (⟨(List.range n).map fun i => .int .i64 (dg x i : Nat), rfl⟩ : ∃ l : List Value, l = (List.range n).map fun i => .int .i64 (dg x i : Nat))
theorem digV_eq (n x : Nat) : digV n x = (List.range n).map fun i => .int .i64 (dg x i : Nat) := Classical.choose_spec (⟨(List.range n).map fun i => .int .i64 (dg x i : Nat), rfl⟩ : ∃ l : List Value, l = (List.range n).map fun i => .int .i64 (dg x i : Nat))
theorem digV_len (n x : Nat) : (digV n x).length = n := by rw [digV_eq]; simp
theorem digV_0 (x : Nat) : digV 0 x = [] := by rw [digV_eq]; rfl
theorem digV_snoc (n x : Nat) : digV (n + 1) x = digV n x ++ [.int .i64 (dg x n : Nat)] := by rw [digV_eq, digV_eq, List.range_succ, List.map_append]; rfl
theorem digV_get (n x i : Nat) (h : i < n) : (digV n x)[i]? = some (.int .i64 (dg x i : Nat)) := by rw [digV_eq]; simp [h]
theorem bpow_pos (i : Nat) : 0 < 65536 ^ i := Nat.pow_pos (by omega)
theorem dg_big {n x i : Nat} (h : x < 65536 ^ n) (hi : n ≤ i) : dg x i = 0 := by
  rw [dg_eq, Nat.div_eq_of_lt (Nat.lt_of_lt_of_le h (Nat.pow_le_pow_right (by omega) hi))]
theorem div_step (x i : Nat) : x / 65536 ^ i = x / 65536 ^ (i + 1) * 65536 + dg x i := by
  rw [dg_eq, Nat.pow_succ, ← Nat.div_div_eq_div_mul]
  generalize x / 65536 ^ i = y
  omega
theorem mod_step (x i : Nat) : x % 65536 ^ (i + 1) = x % 65536 ^ i + 65536 ^ i * dg x i := by
  rw [dg_eq, Nat.pow_succ, Nat.mod_mul]
theorem digV_inj {n m x y : Nat} (hx : x < 65536 ^ n) (hy : y < 65536 ^ m) (h : digV n x = digV m y) : n = m ∧ x = y := by
  have hl := congrArg List.length h
  rw [digV_len, digV_len] at hl
  subst hl
  refine ⟨rfl, ?_⟩
  have key : ∀ i, i ≤ n → x % 65536 ^ i = y % 65536 ^ i := by
    intro i
    induction i with
    | zero => intro _; rw [Nat.pow_zero, Nat.mod_one, Nat.mod_one]
    | succ i ih =>
      intro hi
      have h1 := congrArg (fun l => l[i]?) h
      simp only [digV_get n x i (by omega), digV_get n y i (by omega)] at h1
      have h2 : dg x i = dg y i := by
        have := h1
        simp only [Option.some.injEq, Value.int.injEq, true_and] at this
        omega
      rw [mod_step, mod_step, ih (by omega), h2]
  have := key n (Nat.le_refl _)
  rwa [Nat.mod_eq_of_lt hx, Nat.mod_eq_of_lt hy] at this

/-- a list of digits is a length and a number -/
noncomputable def toD (xs : List Value) : Option (Nat × Nat) :=
  open Classical in
  if h : ∃ p : Nat × Nat, p.2 < 65536 ^ p.1 ∧ xs = digV p.1 p.2 then some h.choose else none
theorem toD_digV {n x : Nat} (h : x < 65536 ^ n) : toD (digV n x) = some (n, x) := by
  unfold toD
  have hx : ∃ p : Nat × Nat, p.2 < 65536 ^ p.1 ∧ digV n x = digV p.1 p.2 := ⟨(n, x), h, rfl⟩
  rw [dif_pos hx]
  have h1 := hx.choose_spec
  have h2 := digV_inj h h1.1 h1.2
  rw [Option.some.injEq]
  exact Prod.ext h2.1.symm h2.2.symm
theorem toD_out {xs : List Value} {n x : Nat} (h : toD xs = some (n, x)) : xs = digV n x ∧ x < 65536 ^ n := by
  unfold toD at h
  split at h
  · rename_i hx
    have h1 := hx.choose_spec
    rw [Option.some.injEq] at h
    rw [h] at h1
    exact ⟨h1.2, h1.1⟩
  · cases h

noncomputable def digitG : List DV → Option RV
  | [.vec xs, .pl (.int .i64 i)] => match toD xs with
    | some (n, x) => if 0 ≤ i then some (.one (.pl (.int .i64 (dg x i.toNat : Nat)))) else none
    | none => none
  | _ => none

theorem digit_ok : ∀ ds r, digitG ds = some r → Spec Try.prog 73 ds r := by
  intro ds r h
  unfold digitG at h
  split at h
  case h_2 => cases h
  rename_i xs i
  split at h
  case h_2 => cases h
  rename_i n x hx
  split at h
  case isFalse => cases h
  rename_i hi
  cases h
  obtain ⟨rfl, hlt⟩ := toD_out hx
  obtain ⟨i, rfl⟩ := Int.eq_ofNat_of_zero_le hi
  rw [Int.toNat_natCast]
  have hΓ : Env.ok [] Try.prog := ok_nil _
  have hl := digV_len n x
  refine Spec.of_vx hΓ follows_mixed Try.func73 rfl (by kernel_rfl) (T := []) (by simp [Try.ntmps73]) (by kernel_rfl) rfl Try.ntmps73 (res := [.tmp 4]) rfl ?_
  intro W
  by_cases hin : i < n
  · have r0 : decide ((i : Int) < (n : Int)) = true := decide_eq_true (by omega)
    have r1 : (i : Int) < (n : Int) := by omega
    have r2 := digV_get n x i hin
    have r3 : (0 : Int) ≤ (i : Int) := by omega
    simp -implicitDefEqProofs (maxSteps := 10000000) only [vy_succ, vmB, slim, slimOp, gO, gSO, qSO, quietOp, cS, qSB, eK, calmOp, guardS, gK, qK, putK, plK, dOk, St.ev, St.get, St.mem, St.set, St.setm, St.put, lookA, look, newK, nextver, initT, seqE, blockQ, bodyQ, resK, retV, AV.rdv, agg_uV, ↓binK, ↓intK, unK, ↓loadK, ↓withKey_eq, ↓idxAddrK, ↓indexK, ↓partK, ↓fieldK, ↓fieldAddrK, ↓convK, ↓callK, wrG, updK, ↓lenK, ↓mmK, ↓appK, ↓copyK, ↓sliceK, ↓toArrK, nilK, evs, plains, seqParts, capsOf, capsD, AV.dv, AV.cont, ↓buildV_eq, fillL, placesOf, ↓storeK, wrL, RV.av, DV.av, List.set, Nat.reduceEqDiff, Nat.reduceAdd, Nat.reduceSub, Nat.reduceMul, Nat.reduceLT, Nat.reduceLeDiff, Nat.reduceMod, Nat.reduceDiv, Int.reduceLT, Int.reduceLE, Int.reduceToNat, ↓reduceIte, reduceCtorEq, Value.oneCell', Int.reduceAdd, Int.reduceSub, Int.reduceMod, Int.reduceMul, Int.reduceNeg, Int.reduceBEq, Int.reduceBNe, Int.reduceTDiv, Int.reduceTMod, Int.reduceEq, tyB, Try.underlying13, Try.underlying25, Try.underlying26, Try.underlying39, Try.underlying40, Try.underlying72, Try.underlying73, hl, r0, r1, r2, r3, Int.toNat_natCast]
  · have r0 : decide ((i : Int) < (n : Int)) = false := decide_eq_false (by omega)
    have r2 := dg_big hlt (show n ≤ i by omega)
    simp -implicitDefEqProofs (maxSteps := 10000000) only [vy_succ, vmB, slim, slimOp, gO, gSO, qSO, quietOp, cS, qSB, eK, calmOp, guardS, gK, qK, putK, plK, dOk, St.ev, St.get, St.mem, St.set, St.setm, St.put, lookA, look, newK, nextver, initT, seqE, blockQ, bodyQ, resK, retV, AV.rdv, agg_uV, ↓binK, ↓intK, unK, ↓loadK, ↓withKey_eq, ↓idxAddrK, ↓indexK, ↓partK, ↓fieldK, ↓fieldAddrK, ↓convK, ↓callK, wrG, updK, ↓lenK, ↓mmK, ↓appK, ↓copyK, ↓sliceK, ↓toArrK, nilK, evs, plains, seqParts, capsOf, capsD, AV.dv, AV.cont, ↓buildV_eq, fillL, placesOf, ↓storeK, wrL, RV.av, DV.av, List.set, Nat.reduceEqDiff, Nat.reduceAdd, Nat.reduceSub, Nat.reduceMul, Nat.reduceLT, Nat.reduceLeDiff, Nat.reduceMod, Nat.reduceDiv, Int.reduceLT, Int.reduceLE, Int.reduceToNat, ↓reduceIte, reduceCtorEq, Value.oneCell', Int.reduceAdd, Int.reduceSub, Int.reduceMod, Int.reduceMul, Int.reduceNeg, Int.reduceBEq, Int.reduceBNe, Int.reduceTDiv, Int.reduceTMod, Int.reduceEq, tyB, Try.underlying13, Try.underlying25, Try.underlying26, Try.underlying39, Try.underlying40, Try.underlying72, Try.underlying73, hl, r0, r2, Int.natCast_zero]

noncomputable def ofG : List DV → Option RV
  | [.pl va] => match toN va with
    | some a => some (.one (.vec (digV 16 a)))
    | none => none
  | _ => none

/-! ### Of -/
theorem shr_min (x n : Nat) (h : n ≤ 64) : (x : Int).fdiv (2 ^ (min ((n : Int).toNat) IntKind.u64.bits)) = ((x / 2 ^ n : Nat) : Int) := by
  have e : min ((n : Int).toNat) IntKind.u64.bits = n := by
    have : IntKind.u64.bits = 64 := rfl
    omega
  rw [e, Int.fdiv_eq_ediv_of_nonneg _ (by exact Int.le_of_lt (Int.pow_pos (by omega)))]
  simp
theorem dg_w0 (a r : Nat) (hr : r < 4) : ((w0 a : Int).fdiv (2 ^ (min ((16 * (r : Int)).toNat) IntKind.u64.bits))).tmod 65536 = (dg a (0 + r) : Nat) := by
  have := shr_min (w0 a) (16 * r) (by omega)
  have e : ((16 * r : Nat) : Int) = 16 * (r : Int) := by omega
  rw [e] at this
  rw [this, dg_eq, w0_eq, Int.tmod_eq_emod_of_nonneg (Int.natCast_nonneg _)]
  have hc : r = 0 ∨ r = 1 ∨ r = 2 ∨ r = 3 := by omega
  rcases hc with rfl | rfl | rfl | rfl <;> simp only [Nat.reduceMul, Nat.reduceAdd, Nat.reducePow] <;> omega
theorem dg_w1 (a r : Nat) (hr : r < 4) : ((w1 a : Int).fdiv (2 ^ (min ((16 * (r : Int)).toNat) IntKind.u64.bits))).tmod 65536 = (dg a (4 + r) : Nat) := by
  have := shr_min (w1 a) (16 * r) (by omega)
  have e : ((16 * r : Nat) : Int) = 16 * (r : Int) := by omega
  rw [e] at this
  rw [this, dg_eq, w1_eq, Int.tmod_eq_emod_of_nonneg (Int.natCast_nonneg _)]
  have hc : r = 0 ∨ r = 1 ∨ r = 2 ∨ r = 3 := by omega
  rcases hc with rfl | rfl | rfl | rfl <;> simp only [Nat.reduceMul, Nat.reduceAdd, Nat.reducePow] <;> omega
theorem dg_w2 (a r : Nat) (hr : r < 4) : ((w2 a : Int).fdiv (2 ^ (min ((16 * (r : Int)).toNat) IntKind.u64.bits))).tmod 65536 = (dg a (8 + r) : Nat) := by
  have := shr_min (w2 a) (16 * r) (by omega)
  have e : ((16 * r : Nat) : Int) = 16 * (r : Int) := by omega
  rw [e] at this
  rw [this, dg_eq, w2_eq, Int.tmod_eq_emod_of_nonneg (Int.natCast_nonneg _)]
  have hc : r = 0 ∨ r = 1 ∨ r = 2 ∨ r = 3 := by omega
  rcases hc with rfl | rfl | rfl | rfl <;> simp only [Nat.reduceMul, Nat.reduceAdd, Nat.reducePow] <;> omega
theorem dg_w3 (a r : Nat) (hr : r < 4) : ((w3 a : Int).fdiv (2 ^ (min ((16 * (r : Int)).toNat) IntKind.u64.bits))).tmod 65536 = (dg a (12 + r) : Nat) := by
  have := shr_min (w3 a) (16 * r) (by omega)
  have e : ((16 * r : Nat) : Int) = 16 * (r : Int) := by omega
  rw [e] at this
  rw [this, dg_eq, w3_eq, Int.tmod_eq_emod_of_nonneg (Int.natCast_nonneg _)]
  have hc : r = 0 ∨ r = 1 ∨ r = 2 ∨ r = 3 := by omega
  rcases hc with rfl | rfl | rfl | rfl <;> simp only [Nat.reduceMul, Nat.reduceAdd, Nat.reducePow] <;> omega

noncomputable def ofS (a i : Nat) : St := ⟨[(4, .pl (.int .i64 (i : Nat))), (3, .sl 5 i 0 i), (1, .ptr 1 0 0)], [(5, ⟨i, 3, digV i a⟩), (1, uC a)]⟩

set_option maxHeartbeats 4000000 in
theorem of_walk (a : Nat) (ha : a < full) : Spec Try.prog 35 [.pl (uV a)] (.one (.vec (digV 16 a))) := by
  have hΓ : Env.ok [] Try.prog := ok_nil _
  refine Spec.of_vx hΓ follows_mixed Try.func35 rfl (by kernel_rfl) (T := []) (by simp [Try.ntmps35]) (by kernel_rfl) rfl Try.ntmps35 (res := [.tmp 2]) rfl ?_
  intro W
  simp -implicitDefEqProofs (maxSteps := 10000000) only [vy_succ, vmB, slim, slimOp, gO, gSO, qSO, quietOp, cS, qSB, eK, calmOp, guardS, gK, qK, putK, plK, dOk, St.ev, St.get, St.mem, St.set, St.setm, St.put, lookA, look, newK, nextver, initT, seqE, blockQ, bodyQ, resK, retV, AV.rdv, agg_uV, ↓binK, ↓intK, unK, ↓loadK, ↓withKey_eq, ↓idxAddrK, ↓indexK, ↓partK, ↓fieldK, ↓fieldAddrK, ↓convK, ↓callK, wrG, updK, ↓lenK, ↓mmK, ↓appK, ↓copyK, ↓sliceK, ↓toArrK, nilK, evs, plains, seqParts, capsOf, capsD, AV.dv, AV.cont, ↓buildV_eq, fillL, placesOf, ↓storeK, wrL, RV.av, DV.av, List.set, Nat.reduceEqDiff, Nat.reduceAdd, Nat.reduceSub, Nat.reduceMul, Nat.reduceLT, Nat.reduceLeDiff, Nat.reduceMod, Nat.reduceDiv, Int.reduceLT, Int.reduceLE, Int.reduceToNat, ↓reduceIte, reduceCtorEq, Value.oneCell', Int.reduceAdd, Int.reduceSub, Int.reduceMod, Int.reduceMul, Int.reduceNeg, Int.reduceBEq, Int.reduceBNe, Int.reduceTDiv, Int.reduceTMod, Int.reduceEq, tyB, Try.underlying13, Try.underlying25, Try.underlying26, Try.underlying39, Try.underlying40, Try.underlying72, Try.underlying73]
  refine VT_loop hΓ follows_mixed (ofS a) (fun i => i ≤ 16) (fun i => 16 - i) 0 (Sub.of (by simp -implicitDefEqProofs only [subT, ofS, look, lookA, newK, St.get, St.mem, List.map_cons, List.map_nil, List.all_cons, List.all_nil, List.length_cons, List.length_nil, List.getElem?_cons_zero, List.getElem?_cons_succ, Nat.reduceEqDiff, Nat.reduceAdd, Option.some.injEq, ↓reduceIte, true_and, and_true, reduceCtorEq, beq_self_eq_true, Bool.and_true, ne_eq, not_false_eq_true, not_true_eq_false, Nat.add_zero, Nat.zero_add, Nat.reduceSub, Nat.reduceMul, Int.cast_ofNat_Int, Int.reduceAdd, Int.reduceSub, Int.reduceMul, Int.natCast_zero]) (by simp -implicitDefEqProofs only [subM, ofS, uC, digV_0, look, lookA, newK, St.get, St.mem, List.map_cons, List.map_nil, List.all_cons, List.all_nil, List.length_cons, List.length_nil, List.getElem?_cons_zero, List.getElem?_cons_succ, Nat.reduceEqDiff, Nat.reduceAdd, Option.some.injEq, ↓reduceIte, true_and, and_true, reduceCtorEq, beq_self_eq_true, Bool.and_true, ne_eq, not_false_eq_true, not_true_eq_false, Nat.add_zero, Nat.zero_add, Nat.reduceSub, Nat.reduceMul, Int.cast_ofNat_Int, Int.reduceAdd, Int.reduceSub, Int.reduceMul, Int.natCast_zero]) rfl) (by omega) ?_
  intro i hi
  have hlen := digV_len i a
  have hlen16 := digV_len 16 a
  by_cases hlt : i < 16
  · have r0 : decide ((i : Int) < 16) = true := decide_eq_true (by omega)
    obtain ⟨q, r, hr, hq, hk⟩ : ∃ q r : Nat, r < 4 ∧ q < 4 ∧ i = 4 * q + r := ⟨i / 4, i % 4, by omega, by omega, by omega⟩
    have r2 : (i : Int).tmod 4 = (r : Int) := by rw [Int.tmod_eq_emod_of_nonneg (by omega)]; omega
    have r3 : IntKind.i64.wrap (16 * (r : Int)) = 16 * (r : Int) := i64_in (by omega) (by omega)
    have r4 : (16 * (r : Int)) % 18446744073709551616 = 16 * (r : Int) := by omega
    have r5 : (0 : Int) ≤ 16 * (r : Int) := by omega
    have r7 : IntKind.i64.wrap ((i : Int) + 1) = (i : Int) + 1 := i64_in (by omega) (by omega)
    have hd := dg_lt a i
    have r9 : IntKind.i64.wrap ((dg a i : Nat) : Int) = ((dg a i : Nat) : Int) := i64_in (by omega) (by omega)
    have hs := (digV_snoc i a).symm
    have r10 : i ≤ 4294967296 := by omega
    have hq4 : q = 0 ∨ q = 1 ∨ q = 2 ∨ q = 3 := by omega
    rcases hq4 with rfl | rfl | rfl | rfl
    · have r8 : (i : Int).tdiv 4 = 0 := by rw [Int.tdiv_eq_ediv_of_nonneg (by omega)]; omega
      have r6 := dg_w0 a r hr
      rw [show 0 + r = i by omega] at r6
      simp -implicitDefEqProofs (maxSteps := 10000000) only [ofS, uC, hlen, r0, r2, r3, r4, r5, r6, r7, r8, r9, r10, hs, vy_succ, vmB, slim, slimOp, gO, gSO, qSO, quietOp, cS, qSB, eK, calmOp, guardS, gK, qK, putK, plK, dOk, St.ev, St.get, St.mem, St.set, St.setm, St.put, lookA, look, newK, nextver, initT, seqE, blockQ, bodyQ, resK, retV, AV.rdv, agg_uV, ↓binK, ↓intK, unK, ↓loadK, ↓withKey_eq, ↓idxAddrK, ↓indexK, ↓partK, ↓fieldK, ↓fieldAddrK, ↓convK, ↓callK, wrG, updK, ↓lenK, ↓mmK, ↓appK, ↓copyK, ↓sliceK, ↓toArrK, nilK, evs, plains, seqParts, capsOf, capsD, AV.dv, AV.cont, ↓buildV_eq, fillL, placesOf, ↓storeK, wrL, RV.av, DV.av, List.set, Nat.reduceEqDiff, Nat.reduceAdd, Nat.reduceSub, Nat.reduceMul, Nat.reduceLT, Nat.reduceLeDiff, Nat.reduceMod, Nat.reduceDiv, Int.reduceLT, Int.reduceLE, Int.reduceToNat, ↓reduceIte, reduceCtorEq, Value.oneCell', Int.reduceAdd, Int.reduceSub, Int.reduceMod, Int.reduceMul, Int.reduceNeg, Int.reduceBEq, Int.reduceBNe, Int.reduceTDiv, Int.reduceTMod, Int.reduceEq, tyB, Try.underlying13, Try.underlying25, Try.underlying26, Try.underlying39, Try.underlying40, Try.underlying72, Try.underlying73]
      exact ⟨by omega, by omega, i + 1, by omega, (by show 16 - (i + 1) < 16 - i; omega), Sub.of (by simp -implicitDefEqProofs only [subT, ofS, look, lookA, newK, St.get, St.mem, List.map_cons, List.map_nil, List.all_cons, List.all_nil, List.length_cons, List.length_nil, List.getElem?_cons_zero, List.getElem?_cons_succ, Nat.reduceEqDiff, Nat.reduceAdd, Option.some.injEq, ↓reduceIte, true_and, and_true, reduceCtorEq, beq_self_eq_true, Bool.and_true, ne_eq, not_false_eq_true, not_true_eq_false, Nat.add_zero, Nat.zero_add, Nat.reduceSub, Nat.reduceMul, Int.cast_ofNat_Int, Int.reduceAdd, Int.reduceSub, Int.reduceMul, Int.natCast_add, Int.natCast_one]) (by simp -implicitDefEqProofs only [subM, ofS, uC, look, lookA, newK, St.get, St.mem, List.map_cons, List.map_nil, List.all_cons, List.all_nil, List.length_cons, List.length_nil, List.getElem?_cons_zero, List.getElem?_cons_succ, Nat.reduceEqDiff, Nat.reduceAdd, Option.some.injEq, ↓reduceIte, true_and, and_true, reduceCtorEq, beq_self_eq_true, Bool.and_true, ne_eq, not_false_eq_true, not_true_eq_false, Nat.add_zero, Nat.zero_add, Nat.reduceSub, Nat.reduceMul, Int.cast_ofNat_Int, Int.reduceAdd, Int.reduceSub, Int.reduceMul]) rfl⟩
    · have r8 : (i : Int).tdiv 4 = 1 := by rw [Int.tdiv_eq_ediv_of_nonneg (by omega)]; omega
      have r6 := dg_w1 a r hr
      rw [show 4 + r = i by omega] at r6
      simp -implicitDefEqProofs (maxSteps := 10000000) only [ofS, uC, hlen, r0, r2, r3, r4, r5, r6, r7, r8, r9, r10, hs, vy_succ, vmB, slim, slimOp, gO, gSO, qSO, quietOp, cS, qSB, eK, calmOp, guardS, gK, qK, putK, plK, dOk, St.ev, St.get, St.mem, St.set, St.setm, St.put, lookA, look, newK, nextver, initT, seqE, blockQ, bodyQ, resK, retV, AV.rdv, agg_uV, ↓binK, ↓intK, unK, ↓loadK, ↓withKey_eq, ↓idxAddrK, ↓indexK, ↓partK, ↓fieldK, ↓fieldAddrK, ↓convK, ↓callK, wrG, updK, ↓lenK, ↓mmK, ↓appK, ↓copyK, ↓sliceK, ↓toArrK, nilK, evs, plains, seqParts, capsOf, capsD, AV.dv, AV.cont, ↓buildV_eq, fillL, placesOf, ↓storeK, wrL, RV.av, DV.av, List.set, Nat.reduceEqDiff, Nat.reduceAdd, Nat.reduceSub, Nat.reduceMul, Nat.reduceLT, Nat.reduceLeDiff, Nat.reduceMod, Nat.reduceDiv, Int.reduceLT, Int.reduceLE, Int.reduceToNat, ↓reduceIte, reduceCtorEq, Value.oneCell', Int.reduceAdd, Int.reduceSub, Int.reduceMod, Int.reduceMul, Int.reduceNeg, Int.reduceBEq, Int.reduceBNe, Int.reduceTDiv, Int.reduceTMod, Int.reduceEq, tyB, Try.underlying13, Try.underlying25, Try.underlying26, Try.underlying39, Try.underlying40, Try.underlying72, Try.underlying73]
      exact ⟨by omega, by omega, i + 1, by omega, (by show 16 - (i + 1) < 16 - i; omega), Sub.of (by simp -implicitDefEqProofs only [subT, ofS, look, lookA, newK, St.get, St.mem, List.map_cons, List.map_nil, List.all_cons, List.all_nil, List.length_cons, List.length_nil, List.getElem?_cons_zero, List.getElem?_cons_succ, Nat.reduceEqDiff, Nat.reduceAdd, Option.some.injEq, ↓reduceIte, true_and, and_true, reduceCtorEq, beq_self_eq_true, Bool.and_true, ne_eq, not_false_eq_true, not_true_eq_false, Nat.add_zero, Nat.zero_add, Nat.reduceSub, Nat.reduceMul, Int.cast_ofNat_Int, Int.reduceAdd, Int.reduceSub, Int.reduceMul, Int.natCast_add, Int.natCast_one]) (by simp -implicitDefEqProofs only [subM, ofS, uC, look, lookA, newK, St.get, St.mem, List.map_cons, List.map_nil, List.all_cons, List.all_nil, List.length_cons, List.length_nil, List.getElem?_cons_zero, List.getElem?_cons_succ, Nat.reduceEqDiff, Nat.reduceAdd, Option.some.injEq, ↓reduceIte, true_and, and_true, reduceCtorEq, beq_self_eq_true, Bool.and_true, ne_eq, not_false_eq_true, not_true_eq_false, Nat.add_zero, Nat.zero_add, Nat.reduceSub, Nat.reduceMul, Int.cast_ofNat_Int, Int.reduceAdd, Int.reduceSub, Int.reduceMul]) rfl⟩
    · have r8 : (i : Int).tdiv 4 = 2 := by rw [Int.tdiv_eq_ediv_of_nonneg (by omega)]; omega
      have r6 := dg_w2 a r hr
      rw [show 8 + r = i by omega] at r6
      simp -implicitDefEqProofs (maxSteps := 10000000) only [ofS, uC, hlen, r0, r2, r3, r4, r5, r6, r7, r8, r9, r10, hs, vy_succ, vmB, slim, slimOp, gO, gSO, qSO, quietOp, cS, qSB, eK, calmOp, guardS, gK, qK, putK, plK, dOk, St.ev, St.get, St.mem, St.set, St.setm, St.put, lookA, look, newK, nextver, initT, seqE, blockQ, bodyQ, resK, retV, AV.rdv, agg_uV, ↓binK, ↓intK, unK, ↓loadK, ↓withKey_eq, ↓idxAddrK, ↓indexK, ↓partK, ↓fieldK, ↓fieldAddrK, ↓convK, ↓callK, wrG, updK, ↓lenK, ↓mmK, ↓appK, ↓copyK, ↓sliceK, ↓toArrK, nilK, evs, plains, seqParts, capsOf, capsD, AV.dv, AV.cont, ↓buildV_eq, fillL, placesOf, ↓storeK, wrL, RV.av, DV.av, List.set, Nat.reduceEqDiff, Nat.reduceAdd, Nat.reduceSub, Nat.reduceMul, Nat.reduceLT, Nat.reduceLeDiff, Nat.reduceMod, Nat.reduceDiv, Int.reduceLT, Int.reduceLE, Int.reduceToNat, ↓reduceIte, reduceCtorEq, Value.oneCell', Int.reduceAdd, Int.reduceSub, Int.reduceMod, Int.reduceMul, Int.reduceNeg, Int.reduceBEq, Int.reduceBNe, Int.reduceTDiv, Int.reduceTMod, Int.reduceEq, tyB, Try.underlying13, Try.underlying25, Try.underlying26, Try.underlying39, Try.underlying40, Try.underlying72, Try.underlying73]
      exact ⟨by omega, by omega, i + 1, by omega, (by show 16 - (i + 1) < 16 - i; omega), Sub.of (by simp -implicitDefEqProofs only [subT, ofS, look, lookA, newK, St.get, St.mem, List.map_cons, List.map_nil, List.all_cons, List.all_nil, List.length_cons, List.length_nil, List.getElem?_cons_zero, List.getElem?_cons_succ, Nat.reduceEqDiff, Nat.reduceAdd, Option.some.injEq, ↓reduceIte, true_and, and_true, reduceCtorEq, beq_self_eq_true, Bool.and_true, ne_eq, not_false_eq_true, not_true_eq_false, Nat.add_zero, Nat.zero_add, Nat.reduceSub, Nat.reduceMul, Int.cast_ofNat_Int, Int.reduceAdd, Int.reduceSub, Int.reduceMul, Int.natCast_add, Int.natCast_one]) (by simp -implicitDefEqProofs only [subM, ofS, uC, look, lookA, newK, St.get, St.mem, List.map_cons, List.map_nil, List.all_cons, List.all_nil, List.length_cons, List.length_nil, List.getElem?_cons_zero, List.getElem?_cons_succ, Nat.reduceEqDiff, Nat.reduceAdd, Option.some.injEq, ↓reduceIte, true_and, and_true, reduceCtorEq, beq_self_eq_true, Bool.and_true, ne_eq, not_false_eq_true, not_true_eq_false, Nat.add_zero, Nat.zero_add, Nat.reduceSub, Nat.reduceMul, Int.cast_ofNat_Int, Int.reduceAdd, Int.reduceSub, Int.reduceMul]) rfl⟩
    · have r8 : (i : Int).tdiv 4 = 3 := by rw [Int.tdiv_eq_ediv_of_nonneg (by omega)]; omega
      have r6 := dg_w3 a r hr
      rw [show 12 + r = i by omega] at r6
      simp -implicitDefEqProofs (maxSteps := 10000000) only [ofS, uC, hlen, r0, r2, r3, r4, r5, r6, r7, r8, r9, r10, hs, vy_succ, vmB, slim, slimOp, gO, gSO, qSO, quietOp, cS, qSB, eK, calmOp, guardS, gK, qK, putK, plK, dOk, St.ev, St.get, St.mem, St.set, St.setm, St.put, lookA, look, newK, nextver, initT, seqE, blockQ, bodyQ, resK, retV, AV.rdv, agg_uV, ↓binK, ↓intK, unK, ↓loadK, ↓withKey_eq, ↓idxAddrK, ↓indexK, ↓partK, ↓fieldK, ↓fieldAddrK, ↓convK, ↓callK, wrG, updK, ↓lenK, ↓mmK, ↓appK, ↓copyK, ↓sliceK, ↓toArrK, nilK, evs, plains, seqParts, capsOf, capsD, AV.dv, AV.cont, ↓buildV_eq, fillL, placesOf, ↓storeK, wrL, RV.av, DV.av, List.set, Nat.reduceEqDiff, Nat.reduceAdd, Nat.reduceSub, Nat.reduceMul, Nat.reduceLT, Nat.reduceLeDiff, Nat.reduceMod, Nat.reduceDiv, Int.reduceLT, Int.reduceLE, Int.reduceToNat, ↓reduceIte, reduceCtorEq, Value.oneCell', Int.reduceAdd, Int.reduceSub, Int.reduceMod, Int.reduceMul, Int.reduceNeg, Int.reduceBEq, Int.reduceBNe, Int.reduceTDiv, Int.reduceTMod, Int.reduceEq, tyB, Try.underlying13, Try.underlying25, Try.underlying26, Try.underlying39, Try.underlying40, Try.underlying72, Try.underlying73]
      exact ⟨by omega, by omega, i + 1, by omega, (by show 16 - (i + 1) < 16 - i; omega), Sub.of (by simp -implicitDefEqProofs only [subT, ofS, look, lookA, newK, St.get, St.mem, List.map_cons, List.map_nil, List.all_cons, List.all_nil, List.length_cons, List.length_nil, List.getElem?_cons_zero, List.getElem?_cons_succ, Nat.reduceEqDiff, Nat.reduceAdd, Option.some.injEq, ↓reduceIte, true_and, and_true, reduceCtorEq, beq_self_eq_true, Bool.and_true, ne_eq, not_false_eq_true, not_true_eq_false, Nat.add_zero, Nat.zero_add, Nat.reduceSub, Nat.reduceMul, Int.cast_ofNat_Int, Int.reduceAdd, Int.reduceSub, Int.reduceMul, Int.natCast_add, Int.natCast_one]) (by simp -implicitDefEqProofs only [subM, ofS, uC, look, lookA, newK, St.get, St.mem, List.map_cons, List.map_nil, List.all_cons, List.all_nil, List.length_cons, List.length_nil, List.getElem?_cons_zero, List.getElem?_cons_succ, Nat.reduceEqDiff, Nat.reduceAdd, Option.some.injEq, ↓reduceIte, true_and, and_true, reduceCtorEq, beq_self_eq_true, Bool.and_true, ne_eq, not_false_eq_true, not_true_eq_false, Nat.add_zero, Nat.zero_add, Nat.reduceSub, Nat.reduceMul, Int.cast_ofNat_Int, Int.reduceAdd, Int.reduceSub, Int.reduceMul]) rfl⟩
  · have r0 : decide ((i : Int) < 16) = false := decide_eq_false (by omega)
    have e : i = 16 := by omega
    subst e
    have ht : (digV 16 a).take 16 = digV 16 a := List.take_of_length_le (by omega)
    simp -implicitDefEqProofs (maxSteps := 10000000) only [vy_succ, vmB, slim, slimOp, gO, gSO, qSO, quietOp, cS, qSB, eK, calmOp, guardS, gK, qK, putK, plK, dOk, St.ev, St.get, St.mem, St.set, St.setm, St.put, lookA, look, newK, nextver, initT, seqE, blockQ, bodyQ, resK, retV, AV.rdv, agg_uV, ↓binK, ↓intK, unK, ↓loadK, ↓withKey_eq, ↓idxAddrK, ↓indexK, ↓partK, ↓fieldK, ↓fieldAddrK, ↓convK, ↓callK, wrG, updK, ↓lenK, ↓mmK, ↓appK, ↓copyK, ↓sliceK, ↓toArrK, nilK, evs, plains, seqParts, capsOf, capsD, AV.dv, AV.cont, ↓buildV_eq, fillL, placesOf, ↓storeK, wrL, RV.av, DV.av, List.set, Nat.reduceEqDiff, Nat.reduceAdd, Nat.reduceSub, Nat.reduceMul, Nat.reduceLT, Nat.reduceLeDiff, Nat.reduceMod, Nat.reduceDiv, Int.reduceLT, Int.reduceLE, Int.reduceToNat, ↓reduceIte, reduceCtorEq, Value.oneCell', Int.reduceAdd, Int.reduceSub, Int.reduceMod, Int.reduceMul, Int.reduceNeg, Int.reduceBEq, Int.reduceBNe, Int.reduceTDiv, Int.reduceTMod, Int.reduceEq, tyB, Try.underlying13, Try.underlying25, Try.underlying26, Try.underlying39, Try.underlying40, Try.underlying72, Try.underlying73, ofS, uC, hlen16, r0, ht]

theorem of_ok : ∀ ds r, ofG ds = some r → Spec Try.prog 35 ds r := by
  intro ds r h
  unfold ofG at h
  split at h
  case h_2 => cases h
  rename_i va
  split at h
  case h_2 => cases h
  rename_i a ha
  cases h
  obtain ⟨rfl, ha'⟩ := toN_eq ha
  exact of_walk a ha'
end Go.Vm

/- Contracts on numbers in digits: Sum, Less, Full, Take, To. No condition. -/
set_option maxRecDepth 100000
set_option linter.unusedSimpArgs false
set_option linter.unusedVariables false
namespace Go.Vm
open Go Go.RowKit Go.Proofs

/-! ### Sum -/
/-- the carry into a place -/
noncomputable def cy (x y i : Nat) : Nat := Classical.choose (⟨(x % 65536 ^ i + y % 65536 ^ i) / 65536 ^ i, rfl⟩ : ∃ z : Nat, z = (x % 65536 ^ i + y % 65536 ^ i) / 65536 ^ i)
theorem cy_eq (x y i : Nat) : cy x y i = (x % 65536 ^ i + y % 65536 ^ i) / 65536 ^ i := Classical.choose_spec (⟨(x % 65536 ^ i + y % 65536 ^ i) / 65536 ^ i, rfl⟩ : ∃ z : Nat, z = (x % 65536 ^ i + y % 65536 ^ i) / 65536 ^ i)
theorem cy_0 (x y : Nat) : cy x y 0 = 0 := by rw [cy_eq]; simp [Nat.mod_one]
theorem cy_le (x y i : Nat) : cy x y i ≤ 1 := by
  rw [cy_eq]
  have h0 := bpow_pos i
  have h1 := Nat.mod_lt x h0
  have h2 := Nat.mod_lt y h0
  have := (Nat.div_lt_iff_lt_mul h0).2 (show x % 65536 ^ i + y % 65536 ^ i < 2 * 65536 ^ i by omega)
  omega
theorem add_div_pow (x y i : Nat) : (x + y) / 65536 ^ i = x / 65536 ^ i + y / 65536 ^ i + cy x y i := by
  rw [cy_eq]
  have h0 := bpow_pos i
  generalize 65536 ^ i = B at *
  have e1 := Nat.div_add_mod x B
  have e2 := Nat.div_add_mod y B
  have e3 : x + y = (x % B + y % B) + B * (x / B + y / B) := by rw [Nat.mul_add]; omega
  conv => lhs; rw [e3]
  rw [Nat.add_mul_div_left _ _ h0]
  omega
theorem sum_digit (x y i : Nat) : (dg x i + dg y i + cy x y i) % 65536 = dg (x + y) i := by
  rw [dg_eq, dg_eq, dg_eq, add_div_pow]
  generalize x / 65536 ^ i = X
  generalize y / 65536 ^ i = Y
  omega
theorem sum_carry (x y i : Nat) : (dg x i + dg y i + cy x y i) / 65536 = cy x y (i + 1) := by
  have h0 := bpow_pos i
  have hx := mod_step x i
  have hy := mod_step y i
  rw [cy_eq x y (i + 1), hx, hy, Nat.pow_succ, ← Nat.div_div_eq_div_mul]
  congr 1
  rw [cy_eq]
  generalize 65536 ^ i = B at *
  rw [show x % B + B * dg x i + (y % B + B * dg y i) = (x % B + y % B) + B * (dg x i + dg y i) by rw [Nat.mul_add]; omega, Nat.add_mul_div_left _ _ h0]
  omega
theorem cy_big {x y i : Nat} (hx : x < 65536 ^ i) (hy : y < 65536 ^ i) : cy x y i = (x + y) / 65536 ^ i := by
  rw [cy_eq, Nat.mod_eq_of_lt hx, Nat.mod_eq_of_lt hy]
theorem pow_mono {n m : Nat} (h : n ≤ m) : 65536 ^ n ≤ 65536 ^ m := Nat.pow_le_pow_right (by omega) h

noncomputable def sumN (n x m y : Nat) : Nat := max n m + cy x y (max n m)
theorem sumN_lt {n x m y : Nat} (hx : x < 65536 ^ n) (hy : y < 65536 ^ m) : x + y < 65536 ^ sumN n x m y := by
  have hx' : x < 65536 ^ max n m := Nat.lt_of_lt_of_le hx (pow_mono (by omega))
  have hy' : y < 65536 ^ max n m := Nat.lt_of_lt_of_le hy (pow_mono (by omega))
  have h1 := cy_le x y (max n m)
  have h2 := cy_big hx' hy'
  unfold sumN
  generalize max n m = k at *
  have h0 := bpow_pos k
  rcases (show cy x y k = 0 ∨ cy x y k = 1 by omega) with h | h
  · rw [h] at h2 ⊢
    rw [Nat.add_zero]
    exact Nat.lt_of_div_eq_zero h0 h2.symm
  · rw [h, Nat.pow_succ]
    omega

noncomputable def sumG : List DV → Option RV
  | [.vec xs, .vec ys] => match toD xs, toD ys with
    | some (n, x), some (m, y) => if n + m ≤ 1000 then some (.one (.vec (digV (sumN n x m y) (x + y)))) else none
    | _, _ => none
  | _ => none

theorem len_lim (i : Nat) (h : i ≤ 2000) : ((i + 1) * 8 ≤ 140737488355328) = True ∧ (i ≤ 140737488355327) = True := by
  refine ⟨eq_true (by omega), eq_true (by omega)⟩

noncomputable def smS (n x m y i : Nat) : St := ⟨[(7, .pl (.int .i64 (i : Nat))), (6, .pl (.int .i64 (cy x y i : Nat))), (5, .sl 9 i 0 i), (0, .vec false (digV n x)), (1, .vec false (digV m y))], [(9, ⟨i, 3, digV i (x + y)⟩)]⟩

set_option maxHeartbeats 4000000 in
theorem sum_walk (n x m y : Nat) (hx : x < 65536 ^ n) (hy : y < 65536 ^ m) (hb : n + m ≤ 1000) : Spec Try.prog 63 [.vec (digV n x), .vec (digV m y)] (.one (.vec (digV (sumN n x m y) (x + y)))) := by
  have hΓ : Env.ok [(73, digitG)] Try.prog := ok_cons digit_ok (ok_nil _)
  have tx := toD_digV hx
  have ty := toD_digV hy
  have lx := digV_len n x
  have ly := digV_len m y
  have hc0 := cy_0 x y
  have hmx := cy_le x y (max n m)
  have hsN : sumN n x m y = max n m + cy x y (max n m) := rfl
  refine Spec.of_vx hΓ follows_mixed Try.func63 rfl (by kernel_rfl) (T := []) (by simp [Try.ntmps63]) (by kernel_rfl) rfl Try.ntmps63 (res := [.tmp 4]) rfl ?_
  intro W
  simp -implicitDefEqProofs (maxSteps := 10000000) only [vy_succ, vmB, slim, slimOp, gO, gSO, qSO, quietOp, cS, qSB, eK, calmOp, guardS, gK, qK, putK, plK, dOk, St.ev, St.get, St.mem, St.set, St.setm, St.put, lookA, look, newK, nextver, initT, seqE, blockQ, bodyQ, resK, retV, AV.rdv, agg_uV, ↓binK, ↓intK, unK, ↓loadK, ↓withKey_eq, ↓idxAddrK, ↓indexK, ↓partK, ↓fieldK, ↓fieldAddrK, ↓convK, ↓callK, wrG, updK, ↓lenK, ↓mmK, ↓appK, ↓copyK, ↓sliceK, ↓toArrK, nilK, evs, plains, seqParts, capsOf, capsD, AV.dv, AV.cont, ↓buildV_eq, fillL, placesOf, ↓storeK, wrL, RV.av, DV.av, List.set, Nat.reduceEqDiff, Nat.reduceAdd, Nat.reduceSub, Nat.reduceMul, Nat.reduceLT, Nat.reduceLeDiff, Nat.reduceMod, Nat.reduceDiv, Int.reduceLT, Int.reduceLE, Int.reduceToNat, ↓reduceIte, reduceCtorEq, Value.oneCell', Int.reduceAdd, Int.reduceSub, Int.reduceMod, Int.reduceMul, Int.reduceNeg, Int.reduceBEq, Int.reduceBNe, Int.reduceTDiv, Int.reduceTMod, Int.reduceEq, tyB, Try.underlying13, Try.underlying25, Try.underlying26, Try.underlying39, Try.underlying40, Try.underlying72, Try.underlying73]
  refine VT_loop hΓ follows_mixed (smS n x m y) (fun i => i ≤ sumN n x m y) (fun i => sumN n x m y - i) 0 (Sub.of (by simp -implicitDefEqProofs only [subT, smS, hc0, look, lookA, newK, St.get, St.mem, List.map_cons, List.map_nil, List.all_cons, List.all_nil, List.length_cons, List.length_nil, List.getElem?_cons_zero, List.getElem?_cons_succ, Nat.reduceEqDiff, Nat.reduceAdd, Option.some.injEq, ↓reduceIte, true_and, and_true, reduceCtorEq, beq_self_eq_true, Bool.and_true, ne_eq, not_false_eq_true, not_true_eq_false, Nat.add_zero, Nat.zero_add, Nat.reduceSub, Nat.reduceMul, Int.cast_ofNat_Int, Int.reduceAdd, Int.reduceSub, Int.reduceMul, Int.natCast_zero]) (by simp -implicitDefEqProofs only [subM, smS, digV_0, look, lookA, newK, St.get, St.mem, List.map_cons, List.map_nil, List.all_cons, List.all_nil, List.length_cons, List.length_nil, List.getElem?_cons_zero, List.getElem?_cons_succ, Nat.reduceEqDiff, Nat.reduceAdd, Option.some.injEq, ↓reduceIte, true_and, and_true, reduceCtorEq, beq_self_eq_true, Bool.and_true, ne_eq, not_false_eq_true, not_true_eq_false, Nat.add_zero, Nat.zero_add, Nat.reduceSub, Nat.reduceMul, Int.cast_ofNat_Int, Int.reduceAdd, Int.reduceSub, Int.reduceMul, Int.natCast_zero]) rfl) (by omega) ?_
  intro i hi
  have li := digV_len i (x + y)
  by_cases hlt : i < sumN n x m y
  · have hdx := dg_lt x i
    have hdy := dg_lt y i
    have hcy := cy_le x y i
    have hsd := sum_digit x y i
    have hsc := sum_carry x y i
    have w1 : IntKind.i64.wrap ((dg x i : Nat) + (dg y i : Nat) : Int) = ((dg x i + dg y i : Nat) : Int) := by rw [i64_in (by omega) (by omega)]; omega
    have w2 : IntKind.i64.wrap (((dg x i + dg y i : Nat) : Int) + (cy x y i : Nat)) = ((dg x i + dg y i + cy x y i : Nat) : Int) := by rw [i64_in (by omega) (by omega)]; omega
    have w3 : ((dg x i + dg y i + cy x y i : Nat) : Int).tmod 65536 = (dg (x + y) i : Nat) := by rw [Int.tmod_eq_emod_of_nonneg (by omega), ← hsd]; omega
    have w4 : IntKind.i64.wrap (((dg x i + dg y i + cy x y i : Nat) : Int).tdiv 65536) = (cy x y (i + 1) : Nat) := by
      rw [Int.tdiv_eq_ediv_of_nonneg (by omega), ← hsc, i64_in (by omega) (by omega)]; omega
    have w5 : IntKind.i64.wrap ((i : Int) + 1) = (i : Int) + 1 := i64_in (by omega) (by omega)
    have w6 : (0 : Int) ≤ (i : Int) := by omega
    have hs := (digV_snoc i (x + y)).symm
    have hll := len_lim i (by omega)
    generalize dg x i + dg y i + cy x y i = s at *
    by_cases c1 : i < n
    · have r1 : decide ((i : Int) < (n : Int)) = true := decide_eq_true (by omega)
      simp -implicitDefEqProofs (maxSteps := 10000000) only [smS, digitG, lx, ly, tx, ty, li, w1, w2, w3, w4, w5, w6, r1, hs, hll.1, hll.2, Int.toNat_natCast, vy_succ, vmB, slim, slimOp, gO, gSO, qSO, quietOp, cS, qSB, eK, calmOp, guardS, gK, qK, putK, plK, dOk, St.ev, St.get, St.mem, St.set, St.setm, St.put, lookA, look, newK, nextver, initT, seqE, blockQ, bodyQ, resK, retV, AV.rdv, agg_uV, ↓binK, ↓intK, unK, ↓loadK, ↓withKey_eq, ↓idxAddrK, ↓indexK, ↓partK, ↓fieldK, ↓fieldAddrK, ↓convK, ↓callK, wrG, updK, ↓lenK, ↓mmK, ↓appK, ↓copyK, ↓sliceK, ↓toArrK, nilK, evs, plains, seqParts, capsOf, capsD, AV.dv, AV.cont, ↓buildV_eq, fillL, placesOf, ↓storeK, wrL, RV.av, DV.av, List.set, Nat.reduceEqDiff, Nat.reduceAdd, Nat.reduceSub, Nat.reduceMul, Nat.reduceLT, Nat.reduceLeDiff, Nat.reduceMod, Nat.reduceDiv, Int.reduceLT, Int.reduceLE, Int.reduceToNat, ↓reduceIte, reduceCtorEq, Value.oneCell', Int.reduceAdd, Int.reduceSub, Int.reduceMod, Int.reduceMul, Int.reduceNeg, Int.reduceBEq, Int.reduceBNe, Int.reduceTDiv, Int.reduceTMod, Int.reduceEq, tyB, Try.underlying13, Try.underlying25, Try.underlying26, Try.underlying39, Try.underlying40, Try.underlying72, Try.underlying73]
      exact ⟨i + 1, by omega, (by show sumN n x m y - (i + 1) < sumN n x m y - i; omega), Sub.of (by simp -implicitDefEqProofs only [subT, smS, look, lookA, newK, St.get, St.mem, List.map_cons, List.map_nil, List.all_cons, List.all_nil, List.length_cons, List.length_nil, List.getElem?_cons_zero, List.getElem?_cons_succ, Nat.reduceEqDiff, Nat.reduceAdd, Option.some.injEq, ↓reduceIte, true_and, and_true, reduceCtorEq, beq_self_eq_true, Bool.and_true, ne_eq, not_false_eq_true, not_true_eq_false, Nat.add_zero, Nat.zero_add, Nat.reduceSub, Nat.reduceMul, Int.cast_ofNat_Int, Int.reduceAdd, Int.reduceSub, Int.reduceMul, Int.natCast_add, Int.natCast_one]) (by simp -implicitDefEqProofs only [subM, smS, look, lookA, newK, St.get, St.mem, List.map_cons, List.map_nil, List.all_cons, List.all_nil, List.length_cons, List.length_nil, List.getElem?_cons_zero, List.getElem?_cons_succ, Nat.reduceEqDiff, Nat.reduceAdd, Option.some.injEq, ↓reduceIte, true_and, and_true, reduceCtorEq, beq_self_eq_true, Bool.and_true, ne_eq, not_false_eq_true, not_true_eq_false, Nat.add_zero, Nat.zero_add, Nat.reduceSub, Nat.reduceMul, Int.cast_ofNat_Int, Int.reduceAdd, Int.reduceSub, Int.reduceMul]) rfl⟩
    · have r1 : decide ((i : Int) < (n : Int)) = false := decide_eq_false (by omega)
      by_cases c2 : i < m
      · have r2 : decide ((i : Int) < (m : Int)) = true := decide_eq_true (by omega)
        simp -implicitDefEqProofs (maxSteps := 10000000) only [smS, digitG, lx, ly, tx, ty, li, w1, w2, w3, w4, w5, w6, r1, r2, hs, hll.1, hll.2, Int.toNat_natCast, vy_succ, vmB, slim, slimOp, gO, gSO, qSO, quietOp, cS, qSB, eK, calmOp, guardS, gK, qK, putK, plK, dOk, St.ev, St.get, St.mem, St.set, St.setm, St.put, lookA, look, newK, nextver, initT, seqE, blockQ, bodyQ, resK, retV, AV.rdv, agg_uV, ↓binK, ↓intK, unK, ↓loadK, ↓withKey_eq, ↓idxAddrK, ↓indexK, ↓partK, ↓fieldK, ↓fieldAddrK, ↓convK, ↓callK, wrG, updK, ↓lenK, ↓mmK, ↓appK, ↓copyK, ↓sliceK, ↓toArrK, nilK, evs, plains, seqParts, capsOf, capsD, AV.dv, AV.cont, ↓buildV_eq, fillL, placesOf, ↓storeK, wrL, RV.av, DV.av, List.set, Nat.reduceEqDiff, Nat.reduceAdd, Nat.reduceSub, Nat.reduceMul, Nat.reduceLT, Nat.reduceLeDiff, Nat.reduceMod, Nat.reduceDiv, Int.reduceLT, Int.reduceLE, Int.reduceToNat, ↓reduceIte, reduceCtorEq, Value.oneCell', Int.reduceAdd, Int.reduceSub, Int.reduceMod, Int.reduceMul, Int.reduceNeg, Int.reduceBEq, Int.reduceBNe, Int.reduceTDiv, Int.reduceTMod, Int.reduceEq, tyB, Try.underlying13, Try.underlying25, Try.underlying26, Try.underlying39, Try.underlying40, Try.underlying72, Try.underlying73]
        exact ⟨i + 1, by omega, (by show sumN n x m y - (i + 1) < sumN n x m y - i; omega), Sub.of (by simp -implicitDefEqProofs only [subT, smS, look, lookA, newK, St.get, St.mem, List.map_cons, List.map_nil, List.all_cons, List.all_nil, List.length_cons, List.length_nil, List.getElem?_cons_zero, List.getElem?_cons_succ, Nat.reduceEqDiff, Nat.reduceAdd, Option.some.injEq, ↓reduceIte, true_and, and_true, reduceCtorEq, beq_self_eq_true, Bool.and_true, ne_eq, not_false_eq_true, not_true_eq_false, Nat.add_zero, Nat.zero_add, Nat.reduceSub, Nat.reduceMul, Int.cast_ofNat_Int, Int.reduceAdd, Int.reduceSub, Int.reduceMul, Int.natCast_add, Int.natCast_one]) (by simp -implicitDefEqProofs only [subM, smS, look, lookA, newK, St.get, St.mem, List.map_cons, List.map_nil, List.all_cons, List.all_nil, List.length_cons, List.length_nil, List.getElem?_cons_zero, List.getElem?_cons_succ, Nat.reduceEqDiff, Nat.reduceAdd, Option.some.injEq, ↓reduceIte, true_and, and_true, reduceCtorEq, beq_self_eq_true, Bool.and_true, ne_eq, not_false_eq_true, not_true_eq_false, Nat.add_zero, Nat.zero_add, Nat.reduceSub, Nat.reduceMul, Int.cast_ofNat_Int, Int.reduceAdd, Int.reduceSub, Int.reduceMul]) rfl⟩
      · have r2 : decide ((i : Int) < (m : Int)) = false := decide_eq_false (by omega)
        have e : i = max n m := by omega
        have r3 : decide (0 < ((cy x y i : Nat) : Int)) = true := decide_eq_true (by rw [e]; omega)
        simp -implicitDefEqProofs (maxSteps := 10000000) only [smS, digitG, lx, ly, tx, ty, li, w1, w2, w3, w4, w5, w6, r1, r2, r3, hs, hll.1, hll.2, Int.toNat_natCast, vy_succ, vmB, slim, slimOp, gO, gSO, qSO, quietOp, cS, qSB, eK, calmOp, guardS, gK, qK, putK, plK, dOk, St.ev, St.get, St.mem, St.set, St.setm, St.put, lookA, look, newK, nextver, initT, seqE, blockQ, bodyQ, resK, retV, AV.rdv, agg_uV, ↓binK, ↓intK, unK, ↓loadK, ↓withKey_eq, ↓idxAddrK, ↓indexK, ↓partK, ↓fieldK, ↓fieldAddrK, ↓convK, ↓callK, wrG, updK, ↓lenK, ↓mmK, ↓appK, ↓copyK, ↓sliceK, ↓toArrK, nilK, evs, plains, seqParts, capsOf, capsD, AV.dv, AV.cont, ↓buildV_eq, fillL, placesOf, ↓storeK, wrL, RV.av, DV.av, List.set, Nat.reduceEqDiff, Nat.reduceAdd, Nat.reduceSub, Nat.reduceMul, Nat.reduceLT, Nat.reduceLeDiff, Nat.reduceMod, Nat.reduceDiv, Int.reduceLT, Int.reduceLE, Int.reduceToNat, ↓reduceIte, reduceCtorEq, Value.oneCell', Int.reduceAdd, Int.reduceSub, Int.reduceMod, Int.reduceMul, Int.reduceNeg, Int.reduceBEq, Int.reduceBNe, Int.reduceTDiv, Int.reduceTMod, Int.reduceEq, tyB, Try.underlying13, Try.underlying25, Try.underlying26, Try.underlying39, Try.underlying40, Try.underlying72, Try.underlying73]
        exact ⟨i + 1, by omega, (by show sumN n x m y - (i + 1) < sumN n x m y - i; omega), Sub.of (by simp -implicitDefEqProofs only [subT, smS, look, lookA, newK, St.get, St.mem, List.map_cons, List.map_nil, List.all_cons, List.all_nil, List.length_cons, List.length_nil, List.getElem?_cons_zero, List.getElem?_cons_succ, Nat.reduceEqDiff, Nat.reduceAdd, Option.some.injEq, ↓reduceIte, true_and, and_true, reduceCtorEq, beq_self_eq_true, Bool.and_true, ne_eq, not_false_eq_true, not_true_eq_false, Nat.add_zero, Nat.zero_add, Nat.reduceSub, Nat.reduceMul, Int.cast_ofNat_Int, Int.reduceAdd, Int.reduceSub, Int.reduceMul, Int.natCast_add, Int.natCast_one]) (by simp -implicitDefEqProofs only [subM, smS, look, lookA, newK, St.get, St.mem, List.map_cons, List.map_nil, List.all_cons, List.all_nil, List.length_cons, List.length_nil, List.getElem?_cons_zero, List.getElem?_cons_succ, Nat.reduceEqDiff, Nat.reduceAdd, Option.some.injEq, ↓reduceIte, true_and, and_true, reduceCtorEq, beq_self_eq_true, Bool.and_true, ne_eq, not_false_eq_true, not_true_eq_false, Nat.add_zero, Nat.zero_add, Nat.reduceSub, Nat.reduceMul, Int.cast_ofNat_Int, Int.reduceAdd, Int.reduceSub, Int.reduceMul]) rfl⟩
  · have e : i = sumN n x m y := by omega
    have r1 : decide ((i : Int) < (n : Int)) = false := decide_eq_false (by omega)
    have r2 : decide ((i : Int) < (m : Int)) = false := decide_eq_false (by omega)
    have r3 : decide (0 < ((cy x y i : Nat) : Int)) = false := decide_eq_false (by
      have hcc : cy x y i = 0 := by
        rw [cy_big (Nat.lt_of_lt_of_le hx (pow_mono (by omega))) (Nat.lt_of_lt_of_le hy (pow_mono (by omega)))]
        apply Nat.div_eq_of_lt
        rw [e]
        exact sumN_lt hx hy
      omega)
    have ht : (digV i (x + y)).take i = digV i (x + y) := List.take_of_length_le (by omega)
    simp -implicitDefEqProofs (maxSteps := 10000000) only [vy_succ, vmB, slim, slimOp, gO, gSO, qSO, quietOp, cS, qSB, eK, calmOp, guardS, gK, qK, putK, plK, dOk, St.ev, St.get, St.mem, St.set, St.setm, St.put, lookA, look, newK, nextver, initT, seqE, blockQ, bodyQ, resK, retV, AV.rdv, agg_uV, ↓binK, ↓intK, unK, ↓loadK, ↓withKey_eq, ↓idxAddrK, ↓indexK, ↓partK, ↓fieldK, ↓fieldAddrK, ↓convK, ↓callK, wrG, updK, ↓lenK, ↓mmK, ↓appK, ↓copyK, ↓sliceK, ↓toArrK, nilK, evs, plains, seqParts, capsOf, capsD, AV.dv, AV.cont, ↓buildV_eq, fillL, placesOf, ↓storeK, wrL, RV.av, DV.av, List.set, Nat.reduceEqDiff, Nat.reduceAdd, Nat.reduceSub, Nat.reduceMul, Nat.reduceLT, Nat.reduceLeDiff, Nat.reduceMod, Nat.reduceDiv, Int.reduceLT, Int.reduceLE, Int.reduceToNat, ↓reduceIte, reduceCtorEq, Value.oneCell', Int.reduceAdd, Int.reduceSub, Int.reduceMod, Int.reduceMul, Int.reduceNeg, Int.reduceBEq, Int.reduceBNe, Int.reduceTDiv, Int.reduceTMod, Int.reduceEq, tyB, Try.underlying13, Try.underlying25, Try.underlying26, Try.underlying39, Try.underlying40, Try.underlying72, Try.underlying73, smS, lx, ly, li, r1, r2, r3, ht]
    rw [← e]

theorem sum_ok : ∀ ds r, sumG ds = some r → Spec Try.prog 63 ds r := by
  intro ds r h
  unfold sumG at h
  split at h
  case h_2 => cases h
  rename_i xs ys
  split at h
  case h_2 => cases h
  rename_i n x m y hx hy
  split at h
  case isFalse => cases h
  rename_i hb
  cases h
  obtain ⟨rfl, hx'⟩ := toD_out hx
  obtain ⟨rfl, hy'⟩ := toD_out hy
  exact sum_walk n x m y hx' hy' hb
end Go.Vm

/- Contracts on numbers in digits: Less, Take, Full, To. No condition. -/
set_option maxRecDepth 100000
set_option linter.unusedSimpArgs false
set_option linter.unusedVariables false
namespace Go.Vm
open Go Go.RowKit Go.Proofs

/-! ### Less -/
theorem full_d : full = 65536 ^ 16 := by rw [full_eq]
theorem toD_16 {a : Nat} (h : a < full) : toD (digV 16 a) = some (16, a) := toD_digV (by rw [← full_d]; exact h)
theorem full_lt17 : full < 65536 ^ 17 := by rw [full_eq]; omega
theorem sumN_le (n x m y : Nat) : sumN n x m y ≤ max n m + 1 := by
  have := cy_le x y (max n m)
  unfold sumN
  omega

noncomputable def lessG : List DV → Option RV
  | [.vec xs, .vec ys] => match toD xs, toD ys with
    | some (n, x), some (m, y) => if n + m ≤ 1000 then some (.one (.pl (.bool (decide (x < y))))) else none
    | _, _ => none
  | _ => none

theorem less_digit {x y j : Nat} (h : x / 65536 ^ (j + 1) = y / 65536 ^ (j + 1)) : (dg x j = dg y j → x / 65536 ^ j = y / 65536 ^ j) ∧ (dg x j ≠ dg y j → decide (((dg x j : Nat) : Int) < ((dg y j : Nat) : Int)) = decide (x < y)) := by
  have e1 := div_step x j
  have e2 := div_step y j
  rw [h] at e1
  refine ⟨fun hd => by rw [e1, e2, hd], fun hd => ?_⟩
  by_cases hlt : dg x j < dg y j
  · have h1 : x / 65536 ^ j < y / 65536 ^ j := by omega
    have h2 : x < y := by
      rcases Nat.lt_or_ge x y with h3 | h3
      · exact h3
      · have := Nat.div_le_div_right (c := 65536 ^ j) h3; omega
    rw [decide_eq_true h2, decide_eq_true (by omega)]
  · have h1 : y / 65536 ^ j < x / 65536 ^ j := by omega
    have h2 : y < x := by
      rcases Nat.lt_or_ge y x with h3 | h3
      · exact h3
      · have := Nat.div_le_div_right (c := 65536 ^ j) h3; omega
    rw [decide_eq_false (show ¬ x < y by omega), decide_eq_false (by omega)]

noncomputable def lsS (n x m y k : Nat) : St := ⟨[(6, .pl (.int .i64 ((k : Int) - 1))), (0, .vec false (digV n x)), (1, .vec false (digV m y))], []⟩

set_option maxHeartbeats 4000000 in
theorem less_walk (n x m y : Nat) (hx : x < 65536 ^ n) (hy : y < 65536 ^ m) (hb : n + m ≤ 1000) : Spec Try.prog 37 [.vec (digV n x), .vec (digV m y)] (.one (.pl (.bool (decide (x < y))))) := by
  have hΓ : Env.ok [(73, digitG)] Try.prog := ok_cons digit_ok (ok_nil _)
  have tx := toD_digV hx
  have ty := toD_digV hy
  have lx := digV_len n x
  have ly := digV_len m y
  have wn : IntKind.i64.wrap ((n : Int) - 1) = (n : Int) - 1 := i64_in (by omega) (by omega)
  have wm : IntKind.i64.wrap ((m : Int) - 1) = (m : Int) - 1 := i64_in (by omega) (by omega)
  have htop : ∀ k, max n m ≤ k → x / 65536 ^ k = y / 65536 ^ k := fun k hk => by
    rw [Nat.div_eq_of_lt (Nat.lt_of_lt_of_le hx (pow_mono (by omega))), Nat.div_eq_of_lt (Nat.lt_of_lt_of_le hy (pow_mono (by omega)))]
  refine Spec.of_vx hΓ follows_mixed Try.func37 rfl (by kernel_rfl) (T := []) (by simp [Try.ntmps37]) (by kernel_rfl) rfl Try.ntmps37 (res := [.tmp 4]) rfl ?_
  intro W
  by_cases h : n < m
  · have r : decide ((n : Int) < (m : Int)) = true := decide_eq_true (by omega)
    simp -implicitDefEqProofs (maxSteps := 10000000) only [vy_succ, vmB, slim, slimOp, gO, gSO, qSO, quietOp, cS, qSB, eK, calmOp, guardS, gK, qK, putK, plK, dOk, St.ev, St.get, St.mem, St.set, St.setm, St.put, lookA, look, newK, nextver, initT, seqE, blockQ, bodyQ, resK, retV, AV.rdv, agg_uV, ↓binK, ↓intK, unK, ↓loadK, ↓withKey_eq, ↓idxAddrK, ↓indexK, ↓partK, ↓fieldK, ↓fieldAddrK, ↓convK, ↓callK, wrG, updK, ↓lenK, ↓mmK, ↓appK, ↓copyK, ↓sliceK, ↓toArrK, nilK, evs, plains, seqParts, capsOf, capsD, AV.dv, AV.cont, ↓buildV_eq, fillL, placesOf, ↓storeK, wrL, RV.av, DV.av, List.set, Nat.reduceEqDiff, Nat.reduceAdd, Nat.reduceSub, Nat.reduceMul, Nat.reduceLT, Nat.reduceLeDiff, Nat.reduceMod, Nat.reduceDiv, Int.reduceLT, Int.reduceLE, Int.reduceToNat, ↓reduceIte, reduceCtorEq, Value.oneCell', Int.reduceAdd, Int.reduceSub, Int.reduceMod, Int.reduceMul, Int.reduceNeg, Int.reduceBEq, Int.reduceBNe, Int.reduceTDiv, Int.reduceTMod, Int.reduceEq, tyB, Try.underlying13, Try.underlying25, Try.underlying26, Try.underlying39, Try.underlying40, Try.underlying72, Try.underlying73, lx, ly, r]
    refine VT_loop hΓ follows_mixed (lsS n x m y) (fun k => k ≤ max n m ∧ x / 65536 ^ k = y / 65536 ^ k) (fun k => k) m (Sub.of (by simp -implicitDefEqProofs only [subT, lsS, wn, wm, look, lookA, newK, St.get, St.mem, List.map_cons, List.map_nil, List.all_cons, List.all_nil, List.length_cons, List.length_nil, List.getElem?_cons_zero, List.getElem?_cons_succ, Nat.reduceEqDiff, Nat.reduceAdd, Option.some.injEq, ↓reduceIte, true_and, and_true, reduceCtorEq, beq_self_eq_true, Bool.and_true, ne_eq, not_false_eq_true, not_true_eq_false, Nat.add_zero, Nat.zero_add, Nat.reduceSub, Nat.reduceMul, Int.cast_ofNat_Int, Int.reduceAdd, Int.reduceSub, Int.reduceMul]) (by simp -implicitDefEqProofs only [subM, lsS, look, lookA, newK, St.get, St.mem, List.map_cons, List.map_nil, List.all_cons, List.all_nil, List.length_cons, List.length_nil, List.getElem?_cons_zero, List.getElem?_cons_succ, Nat.reduceEqDiff, Nat.reduceAdd, Option.some.injEq, ↓reduceIte, true_and, and_true, reduceCtorEq, beq_self_eq_true, Bool.and_true, ne_eq, not_false_eq_true, not_true_eq_false, Nat.add_zero, Nat.zero_add, Nat.reduceSub, Nat.reduceMul, Int.cast_ofNat_Int, Int.reduceAdd, Int.reduceSub, Int.reduceMul]) rfl) ⟨by omega, htop _ (by omega)⟩ ?_
    rintro k ⟨hk, hinv⟩
    rcases k with _ | j
    · have e : decide (x < y) = false := by
        rw [Nat.pow_zero, Nat.div_one, Nat.div_one] at hinv
        exact decide_eq_false (by omega)
      simp -implicitDefEqProofs (maxSteps := 10000000) only [vy_succ, vmB, slim, slimOp, gO, gSO, qSO, quietOp, cS, qSB, eK, calmOp, guardS, gK, qK, putK, plK, dOk, St.ev, St.get, St.mem, St.set, St.setm, St.put, lookA, look, newK, nextver, initT, seqE, blockQ, bodyQ, resK, retV, AV.rdv, agg_uV, ↓binK, ↓intK, unK, ↓loadK, ↓withKey_eq, ↓idxAddrK, ↓indexK, ↓partK, ↓fieldK, ↓fieldAddrK, ↓convK, ↓callK, wrG, updK, ↓lenK, ↓mmK, ↓appK, ↓copyK, ↓sliceK, ↓toArrK, nilK, evs, plains, seqParts, capsOf, capsD, AV.dv, AV.cont, ↓buildV_eq, fillL, placesOf, ↓storeK, wrL, RV.av, DV.av, List.set, Nat.reduceEqDiff, Nat.reduceAdd, Nat.reduceSub, Nat.reduceMul, Nat.reduceLT, Nat.reduceLeDiff, Nat.reduceMod, Nat.reduceDiv, Int.reduceLT, Int.reduceLE, Int.reduceToNat, ↓reduceIte, reduceCtorEq, Value.oneCell', Int.reduceAdd, Int.reduceSub, Int.reduceMod, Int.reduceMul, Int.reduceNeg, Int.reduceBEq, Int.reduceBNe, Int.reduceTDiv, Int.reduceTMod, Int.reduceEq, tyB, Try.underlying13, Try.underlying25, Try.underlying26, Try.underlying39, Try.underlying40, Try.underlying72, Try.underlying73, lsS, Int.natCast_zero, e]
    · have r0 : decide (0 ≤ (j : Int)) = true := decide_eq_true (by omega)
      have r1 : (0 : Int) ≤ (j : Int) := by omega
      have r2 : IntKind.i64.wrap ((j : Int) - 1) = (j : Int) - 1 := i64_in (by omega) (by omega)
      obtain ⟨h1, h2⟩ := less_digit hinv
      by_cases hd : dg x j = dg y j
      · have q : (((dg x j : Nat) : Int) != ((dg y j : Nat) : Int)) = false := by rw [hd]; simp
        simp -implicitDefEqProofs (maxSteps := 10000000) only [vy_succ, vmB, slim, slimOp, gO, gSO, qSO, quietOp, cS, qSB, eK, calmOp, guardS, gK, qK, putK, plK, dOk, St.ev, St.get, St.mem, St.set, St.setm, St.put, lookA, look, newK, nextver, initT, seqE, blockQ, bodyQ, resK, retV, AV.rdv, agg_uV, ↓binK, ↓intK, unK, ↓loadK, ↓withKey_eq, ↓idxAddrK, ↓indexK, ↓partK, ↓fieldK, ↓fieldAddrK, ↓convK, ↓callK, wrG, updK, ↓lenK, ↓mmK, ↓appK, ↓copyK, ↓sliceK, ↓toArrK, nilK, evs, plains, seqParts, capsOf, capsD, AV.dv, AV.cont, ↓buildV_eq, fillL, placesOf, ↓storeK, wrL, RV.av, DV.av, List.set, Nat.reduceEqDiff, Nat.reduceAdd, Nat.reduceSub, Nat.reduceMul, Nat.reduceLT, Nat.reduceLeDiff, Nat.reduceMod, Nat.reduceDiv, Int.reduceLT, Int.reduceLE, Int.reduceToNat, ↓reduceIte, reduceCtorEq, Value.oneCell', Int.reduceAdd, Int.reduceSub, Int.reduceMod, Int.reduceMul, Int.reduceNeg, Int.reduceBEq, Int.reduceBNe, Int.reduceTDiv, Int.reduceTMod, Int.reduceEq, tyB, Try.underlying13, Try.underlying25, Try.underlying26, Try.underlying39, Try.underlying40, Try.underlying72, Try.underlying73, lsS, cast_pred, digitG, tx, ty, r0, r1, r2, q, Int.toNat_natCast]
        exact ⟨j, ⟨by omega, h1 hd⟩, Nat.lt_succ_self j, Sub.of (by simp -implicitDefEqProofs only [subT, lsS, look, lookA, newK, St.get, St.mem, List.map_cons, List.map_nil, List.all_cons, List.all_nil, List.length_cons, List.length_nil, List.getElem?_cons_zero, List.getElem?_cons_succ, Nat.reduceEqDiff, Nat.reduceAdd, Option.some.injEq, ↓reduceIte, true_and, and_true, reduceCtorEq, beq_self_eq_true, Bool.and_true, ne_eq, not_false_eq_true, not_true_eq_false, Nat.add_zero, Nat.zero_add, Nat.reduceSub, Nat.reduceMul, Int.cast_ofNat_Int, Int.reduceAdd, Int.reduceSub, Int.reduceMul]) (by simp -implicitDefEqProofs only [subM, lsS, look, lookA, newK, St.get, St.mem, List.map_cons, List.map_nil, List.all_cons, List.all_nil, List.length_cons, List.length_nil, List.getElem?_cons_zero, List.getElem?_cons_succ, Nat.reduceEqDiff, Nat.reduceAdd, Option.some.injEq, ↓reduceIte, true_and, and_true, reduceCtorEq, beq_self_eq_true, Bool.and_true, ne_eq, not_false_eq_true, not_true_eq_false, Nat.add_zero, Nat.zero_add, Nat.reduceSub, Nat.reduceMul, Int.cast_ofNat_Int, Int.reduceAdd, Int.reduceSub, Int.reduceMul]) rfl⟩
      · have q : (((dg x j : Nat) : Int) != ((dg y j : Nat) : Int)) = true := by simp; omega
        have q2 := h2 hd
        simp -implicitDefEqProofs (maxSteps := 10000000) only [vy_succ, vmB, slim, slimOp, gO, gSO, qSO, quietOp, cS, qSB, eK, calmOp, guardS, gK, qK, putK, plK, dOk, St.ev, St.get, St.mem, St.set, St.setm, St.put, lookA, look, newK, nextver, initT, seqE, blockQ, bodyQ, resK, retV, AV.rdv, agg_uV, ↓binK, ↓intK, unK, ↓loadK, ↓withKey_eq, ↓idxAddrK, ↓indexK, ↓partK, ↓fieldK, ↓fieldAddrK, ↓convK, ↓callK, wrG, updK, ↓lenK, ↓mmK, ↓appK, ↓copyK, ↓sliceK, ↓toArrK, nilK, evs, plains, seqParts, capsOf, capsD, AV.dv, AV.cont, ↓buildV_eq, fillL, placesOf, ↓storeK, wrL, RV.av, DV.av, List.set, Nat.reduceEqDiff, Nat.reduceAdd, Nat.reduceSub, Nat.reduceMul, Nat.reduceLT, Nat.reduceLeDiff, Nat.reduceMod, Nat.reduceDiv, Int.reduceLT, Int.reduceLE, Int.reduceToNat, ↓reduceIte, reduceCtorEq, Value.oneCell', Int.reduceAdd, Int.reduceSub, Int.reduceMod, Int.reduceMul, Int.reduceNeg, Int.reduceBEq, Int.reduceBNe, Int.reduceTDiv, Int.reduceTMod, Int.reduceEq, tyB, Try.underlying13, Try.underlying25, Try.underlying26, Try.underlying39, Try.underlying40, Try.underlying72, Try.underlying73, lsS, cast_pred, digitG, tx, ty, r0, r1, r2, q, q2, Int.toNat_natCast]
  · have r : decide ((n : Int) < (m : Int)) = false := decide_eq_false (by omega)
    simp -implicitDefEqProofs (maxSteps := 10000000) only [vy_succ, vmB, slim, slimOp, gO, gSO, qSO, quietOp, cS, qSB, eK, calmOp, guardS, gK, qK, putK, plK, dOk, St.ev, St.get, St.mem, St.set, St.setm, St.put, lookA, look, newK, nextver, initT, seqE, blockQ, bodyQ, resK, retV, AV.rdv, agg_uV, ↓binK, ↓intK, unK, ↓loadK, ↓withKey_eq, ↓idxAddrK, ↓indexK, ↓partK, ↓fieldK, ↓fieldAddrK, ↓convK, ↓callK, wrG, updK, ↓lenK, ↓mmK, ↓appK, ↓copyK, ↓sliceK, ↓toArrK, nilK, evs, plains, seqParts, capsOf, capsD, AV.dv, AV.cont, ↓buildV_eq, fillL, placesOf, ↓storeK, wrL, RV.av, DV.av, List.set, Nat.reduceEqDiff, Nat.reduceAdd, Nat.reduceSub, Nat.reduceMul, Nat.reduceLT, Nat.reduceLeDiff, Nat.reduceMod, Nat.reduceDiv, Int.reduceLT, Int.reduceLE, Int.reduceToNat, ↓reduceIte, reduceCtorEq, Value.oneCell', Int.reduceAdd, Int.reduceSub, Int.reduceMod, Int.reduceMul, Int.reduceNeg, Int.reduceBEq, Int.reduceBNe, Int.reduceTDiv, Int.reduceTMod, Int.reduceEq, tyB, Try.underlying13, Try.underlying25, Try.underlying26, Try.underlying39, Try.underlying40, Try.underlying72, Try.underlying73, lx, ly, r]
    refine VT_loop hΓ follows_mixed (lsS n x m y) (fun k => k ≤ max n m ∧ x / 65536 ^ k = y / 65536 ^ k) (fun k => k) n (Sub.of (by simp -implicitDefEqProofs only [subT, lsS, wn, wm, look, lookA, newK, St.get, St.mem, List.map_cons, List.map_nil, List.all_cons, List.all_nil, List.length_cons, List.length_nil, List.getElem?_cons_zero, List.getElem?_cons_succ, Nat.reduceEqDiff, Nat.reduceAdd, Option.some.injEq, ↓reduceIte, true_and, and_true, reduceCtorEq, beq_self_eq_true, Bool.and_true, ne_eq, not_false_eq_true, not_true_eq_false, Nat.add_zero, Nat.zero_add, Nat.reduceSub, Nat.reduceMul, Int.cast_ofNat_Int, Int.reduceAdd, Int.reduceSub, Int.reduceMul]) (by simp -implicitDefEqProofs only [subM, lsS, look, lookA, newK, St.get, St.mem, List.map_cons, List.map_nil, List.all_cons, List.all_nil, List.length_cons, List.length_nil, List.getElem?_cons_zero, List.getElem?_cons_succ, Nat.reduceEqDiff, Nat.reduceAdd, Option.some.injEq, ↓reduceIte, true_and, and_true, reduceCtorEq, beq_self_eq_true, Bool.and_true, ne_eq, not_false_eq_true, not_true_eq_false, Nat.add_zero, Nat.zero_add, Nat.reduceSub, Nat.reduceMul, Int.cast_ofNat_Int, Int.reduceAdd, Int.reduceSub, Int.reduceMul]) rfl) ⟨by omega, htop _ (by omega)⟩ ?_
    rintro k ⟨hk, hinv⟩
    rcases k with _ | j
    · have e : decide (x < y) = false := by
        rw [Nat.pow_zero, Nat.div_one, Nat.div_one] at hinv
        exact decide_eq_false (by omega)
      simp -implicitDefEqProofs (maxSteps := 10000000) only [vy_succ, vmB, slim, slimOp, gO, gSO, qSO, quietOp, cS, qSB, eK, calmOp, guardS, gK, qK, putK, plK, dOk, St.ev, St.get, St.mem, St.set, St.setm, St.put, lookA, look, newK, nextver, initT, seqE, blockQ, bodyQ, resK, retV, AV.rdv, agg_uV, ↓binK, ↓intK, unK, ↓loadK, ↓withKey_eq, ↓idxAddrK, ↓indexK, ↓partK, ↓fieldK, ↓fieldAddrK, ↓convK, ↓callK, wrG, updK, ↓lenK, ↓mmK, ↓appK, ↓copyK, ↓sliceK, ↓toArrK, nilK, evs, plains, seqParts, capsOf, capsD, AV.dv, AV.cont, ↓buildV_eq, fillL, placesOf, ↓storeK, wrL, RV.av, DV.av, List.set, Nat.reduceEqDiff, Nat.reduceAdd, Nat.reduceSub, Nat.reduceMul, Nat.reduceLT, Nat.reduceLeDiff, Nat.reduceMod, Nat.reduceDiv, Int.reduceLT, Int.reduceLE, Int.reduceToNat, ↓reduceIte, reduceCtorEq, Value.oneCell', Int.reduceAdd, Int.reduceSub, Int.reduceMod, Int.reduceMul, Int.reduceNeg, Int.reduceBEq, Int.reduceBNe, Int.reduceTDiv, Int.reduceTMod, Int.reduceEq, tyB, Try.underlying13, Try.underlying25, Try.underlying26, Try.underlying39, Try.underlying40, Try.underlying72, Try.underlying73, lsS, Int.natCast_zero, e]
    · have r0 : decide (0 ≤ (j : Int)) = true := decide_eq_true (by omega)
      have r1 : (0 : Int) ≤ (j : Int) := by omega
      have r2 : IntKind.i64.wrap ((j : Int) - 1) = (j : Int) - 1 := i64_in (by omega) (by omega)
      obtain ⟨h1, h2⟩ := less_digit hinv
      by_cases hd : dg x j = dg y j
      · have q : (((dg x j : Nat) : Int) != ((dg y j : Nat) : Int)) = false := by rw [hd]; simp
        simp -implicitDefEqProofs (maxSteps := 10000000) only [vy_succ, vmB, slim, slimOp, gO, gSO, qSO, quietOp, cS, qSB, eK, calmOp, guardS, gK, qK, putK, plK, dOk, St.ev, St.get, St.mem, St.set, St.setm, St.put, lookA, look, newK, nextver, initT, seqE, blockQ, bodyQ, resK, retV, AV.rdv, agg_uV, ↓binK, ↓intK, unK, ↓loadK, ↓withKey_eq, ↓idxAddrK, ↓indexK, ↓partK, ↓fieldK, ↓fieldAddrK, ↓convK, ↓callK, wrG, updK, ↓lenK, ↓mmK, ↓appK, ↓copyK, ↓sliceK, ↓toArrK, nilK, evs, plains, seqParts, capsOf, capsD, AV.dv, AV.cont, ↓buildV_eq, fillL, placesOf, ↓storeK, wrL, RV.av, DV.av, List.set, Nat.reduceEqDiff, Nat.reduceAdd, Nat.reduceSub, Nat.reduceMul, Nat.reduceLT, Nat.reduceLeDiff, Nat.reduceMod, Nat.reduceDiv, Int.reduceLT, Int.reduceLE, Int.reduceToNat, ↓reduceIte, reduceCtorEq, Value.oneCell', Int.reduceAdd, Int.reduceSub, Int.reduceMod, Int.reduceMul, Int.reduceNeg, Int.reduceBEq, Int.reduceBNe, Int.reduceTDiv, Int.reduceTMod, Int.reduceEq, tyB, Try.underlying13, Try.underlying25, Try.underlying26, Try.underlying39, Try.underlying40, Try.underlying72, Try.underlying73, lsS, cast_pred, digitG, tx, ty, r0, r1, r2, q, Int.toNat_natCast]
        exact ⟨j, ⟨by omega, h1 hd⟩, Nat.lt_succ_self j, Sub.of (by simp -implicitDefEqProofs only [subT, lsS, look, lookA, newK, St.get, St.mem, List.map_cons, List.map_nil, List.all_cons, List.all_nil, List.length_cons, List.length_nil, List.getElem?_cons_zero, List.getElem?_cons_succ, Nat.reduceEqDiff, Nat.reduceAdd, Option.some.injEq, ↓reduceIte, true_and, and_true, reduceCtorEq, beq_self_eq_true, Bool.and_true, ne_eq, not_false_eq_true, not_true_eq_false, Nat.add_zero, Nat.zero_add, Nat.reduceSub, Nat.reduceMul, Int.cast_ofNat_Int, Int.reduceAdd, Int.reduceSub, Int.reduceMul]) (by simp -implicitDefEqProofs only [subM, lsS, look, lookA, newK, St.get, St.mem, List.map_cons, List.map_nil, List.all_cons, List.all_nil, List.length_cons, List.length_nil, List.getElem?_cons_zero, List.getElem?_cons_succ, Nat.reduceEqDiff, Nat.reduceAdd, Option.some.injEq, ↓reduceIte, true_and, and_true, reduceCtorEq, beq_self_eq_true, Bool.and_true, ne_eq, not_false_eq_true, not_true_eq_false, Nat.add_zero, Nat.zero_add, Nat.reduceSub, Nat.reduceMul, Int.cast_ofNat_Int, Int.reduceAdd, Int.reduceSub, Int.reduceMul]) rfl⟩
      · have q : (((dg x j : Nat) : Int) != ((dg y j : Nat) : Int)) = true := by simp; omega
        have q2 := h2 hd
        simp -implicitDefEqProofs (maxSteps := 10000000) only [vy_succ, vmB, slim, slimOp, gO, gSO, qSO, quietOp, cS, qSB, eK, calmOp, guardS, gK, qK, putK, plK, dOk, St.ev, St.get, St.mem, St.set, St.setm, St.put, lookA, look, newK, nextver, initT, seqE, blockQ, bodyQ, resK, retV, AV.rdv, agg_uV, ↓binK, ↓intK, unK, ↓loadK, ↓withKey_eq, ↓idxAddrK, ↓indexK, ↓partK, ↓fieldK, ↓fieldAddrK, ↓convK, ↓callK, wrG, updK, ↓lenK, ↓mmK, ↓appK, ↓copyK, ↓sliceK, ↓toArrK, nilK, evs, plains, seqParts, capsOf, capsD, AV.dv, AV.cont, ↓buildV_eq, fillL, placesOf, ↓storeK, wrL, RV.av, DV.av, List.set, Nat.reduceEqDiff, Nat.reduceAdd, Nat.reduceSub, Nat.reduceMul, Nat.reduceLT, Nat.reduceLeDiff, Nat.reduceMod, Nat.reduceDiv, Int.reduceLT, Int.reduceLE, Int.reduceToNat, ↓reduceIte, reduceCtorEq, Value.oneCell', Int.reduceAdd, Int.reduceSub, Int.reduceMod, Int.reduceMul, Int.reduceNeg, Int.reduceBEq, Int.reduceBNe, Int.reduceTDiv, Int.reduceTMod, Int.reduceEq, tyB, Try.underlying13, Try.underlying25, Try.underlying26, Try.underlying39, Try.underlying40, Try.underlying72, Try.underlying73, lsS, cast_pred, digitG, tx, ty, r0, r1, r2, q, q2, Int.toNat_natCast]

theorem less_ok : ∀ ds r, lessG ds = some r → Spec Try.prog 37 ds r := by
  intro ds r h
  unfold lessG at h
  split at h
  case h_2 => cases h
  rename_i xs ys
  split at h
  case h_2 => cases h
  rename_i n x m y hx hy
  split at h
  case isFalse => cases h
  rename_i hb
  cases h
  obtain ⟨rfl, hx'⟩ := toD_out hx
  obtain ⟨rfl, hy'⟩ := toD_out hy
  exact less_walk n x m y hx' hy' hb

/-! ### Take -/
noncomputable def takeG : List DV → Option RV
  | [.vec xs, .vec ys] => match toD xs, toD ys with
    | some (n, x), some (m, y) => if n + m ≤ 1000 ∧ y ≤ x then some (.one (.vec (digV n (x - y)))) else none
    | _, _ => none
  | _ => none
noncomputable def tkS (n x m y z i : Nat) : St := ⟨[(12, .pl (.int .i64 (i : Nat))), (11, .pl (.int .i64 (n : Nat))), (6, .pl (.int .i64 (cy y z i : Nat))), (5, .sl 9 i 0 i), (0, .vec false (digV n x)), (1, .vec false (digV m y))], [(9, ⟨i, 3, digV i z⟩)]⟩

set_option maxHeartbeats 4000000 in
theorem take_walk (n x m y z : Nat) (hx : x < 65536 ^ n) (hy : y < 65536 ^ m) (hb : n + m ≤ 1000) (hz : y + z = x) : Spec Try.prog 64 [.vec (digV n x), .vec (digV m y)] (.one (.vec (digV n z))) := by
  have hΓ : Env.ok [(73, digitG)] Try.prog := ok_cons digit_ok (ok_nil _)
  have tx := toD_digV hx
  have ty := toD_digV hy
  have lx := digV_len n x
  have ly := digV_len m y
  have hc0 := cy_0 y z
  refine Spec.of_vx hΓ follows_mixed Try.func64 rfl (by kernel_rfl) (T := []) (by simp [Try.ntmps64]) (by kernel_rfl) rfl Try.ntmps64 (res := [.tmp 4]) rfl ?_
  intro W
  simp -implicitDefEqProofs (maxSteps := 10000000) only [vy_succ, vmB, slim, slimOp, gO, gSO, qSO, quietOp, cS, qSB, eK, calmOp, guardS, gK, qK, putK, plK, dOk, St.ev, St.get, St.mem, St.set, St.setm, St.put, lookA, look, newK, nextver, initT, seqE, blockQ, bodyQ, resK, retV, AV.rdv, agg_uV, ↓binK, ↓intK, unK, ↓loadK, ↓withKey_eq, ↓idxAddrK, ↓indexK, ↓partK, ↓fieldK, ↓fieldAddrK, ↓convK, ↓callK, wrG, updK, ↓lenK, ↓mmK, ↓appK, ↓copyK, ↓sliceK, ↓toArrK, nilK, evs, plains, seqParts, capsOf, capsD, AV.dv, AV.cont, ↓buildV_eq, fillL, placesOf, ↓storeK, wrL, RV.av, DV.av, List.set, Nat.reduceEqDiff, Nat.reduceAdd, Nat.reduceSub, Nat.reduceMul, Nat.reduceLT, Nat.reduceLeDiff, Nat.reduceMod, Nat.reduceDiv, Int.reduceLT, Int.reduceLE, Int.reduceToNat, ↓reduceIte, reduceCtorEq, Value.oneCell', Int.reduceAdd, Int.reduceSub, Int.reduceMod, Int.reduceMul, Int.reduceNeg, Int.reduceBEq, Int.reduceBNe, Int.reduceTDiv, Int.reduceTMod, Int.reduceEq, tyB, Try.underlying13, Try.underlying25, Try.underlying26, Try.underlying39, Try.underlying40, Try.underlying72, Try.underlying73, lx, ly]
  refine VT_loop hΓ follows_mixed (tkS n x m y z) (fun i => i ≤ n) (fun i => n - i) 0 (Sub.of (by simp -implicitDefEqProofs only [subT, tkS, hc0, look, lookA, newK, St.get, St.mem, List.map_cons, List.map_nil, List.all_cons, List.all_nil, List.length_cons, List.length_nil, List.getElem?_cons_zero, List.getElem?_cons_succ, Nat.reduceEqDiff, Nat.reduceAdd, Option.some.injEq, ↓reduceIte, true_and, and_true, reduceCtorEq, beq_self_eq_true, Bool.and_true, ne_eq, not_false_eq_true, not_true_eq_false, Nat.add_zero, Nat.zero_add, Nat.reduceSub, Nat.reduceMul, Int.cast_ofNat_Int, Int.reduceAdd, Int.reduceSub, Int.reduceMul, Int.natCast_zero]) (by simp -implicitDefEqProofs only [subM, tkS, digV_0, look, lookA, newK, St.get, St.mem, List.map_cons, List.map_nil, List.all_cons, List.all_nil, List.length_cons, List.length_nil, List.getElem?_cons_zero, List.getElem?_cons_succ, Nat.reduceEqDiff, Nat.reduceAdd, Option.some.injEq, ↓reduceIte, true_and, and_true, reduceCtorEq, beq_self_eq_true, Bool.and_true, ne_eq, not_false_eq_true, not_true_eq_false, Nat.add_zero, Nat.zero_add, Nat.reduceSub, Nat.reduceMul, Int.cast_ofNat_Int, Int.reduceAdd, Int.reduceSub, Int.reduceMul, Int.natCast_zero]) rfl) (by omega) ?_
  intro i hi
  have li := digV_len i z
  by_cases hlt : i < n
  · have hdx := dg_lt x i
    have hdy := dg_lt y i
    have hdz := dg_lt z i
    have hcy := cy_le y z i
    have hcn := cy_le y z (i + 1)
    have hsd := sum_digit y z i
    have hsc := sum_carry y z i
    rw [hz] at hsd
    have r1 : decide ((i : Int) < (n : Int)) = true := decide_eq_true (by omega)
    have r2 := digV_get n x i hlt
    have r3 : (0 : Int) ≤ (i : Int) := by omega
    have r4 : (i : Int) < (n : Int) := by omega
    have w1 : IntKind.i64.wrap (((dg x i : Nat) : Int) - ((dg y i : Nat) : Int)) = ((dg x i : Nat) : Int) - ((dg y i : Nat) : Int) := i64_in (by omega) (by omega)
    have w5 : IntKind.i64.wrap ((i : Int) + 1) = (i : Int) + 1 := i64_in (by omega) (by omega)
    have hs := (digV_snoc i z).symm
    have hll := len_lim i (by omega)
    rcases (show cy y z (i + 1) = 0 ∨ cy y z (i + 1) = 1 by omega) with hc | hc
    · have w2 : IntKind.i64.wrap (((dg x i : Nat) : Int) - ((dg y i : Nat) : Int) - ((cy y z i : Nat) : Int)) = ((dg z i : Nat) : Int) := by rw [i64_in (by omega) (by omega)]; omega
      have r5 : decide (((dg z i : Nat) : Int) < 0) = false := decide_eq_false (by omega)
      simp -implicitDefEqProofs (maxSteps := 10000000) only [tkS, digitG, lx, ly, tx, ty, li, w1, w2, w5, r1, r2, r3, r4, r5, hs, hll.1, hll.2, Int.toNat_natCast, vy_succ, vmB, slim, slimOp, gO, gSO, qSO, quietOp, cS, qSB, eK, calmOp, guardS, gK, qK, putK, plK, dOk, St.ev, St.get, St.mem, St.set, St.setm, St.put, lookA, look, newK, nextver, initT, seqE, blockQ, bodyQ, resK, retV, AV.rdv, agg_uV, ↓binK, ↓intK, unK, ↓loadK, ↓withKey_eq, ↓idxAddrK, ↓indexK, ↓partK, ↓fieldK, ↓fieldAddrK, ↓convK, ↓callK, wrG, updK, ↓lenK, ↓mmK, ↓appK, ↓copyK, ↓sliceK, ↓toArrK, nilK, evs, plains, seqParts, capsOf, capsD, AV.dv, AV.cont, ↓buildV_eq, fillL, placesOf, ↓storeK, wrL, RV.av, DV.av, List.set, Nat.reduceEqDiff, Nat.reduceAdd, Nat.reduceSub, Nat.reduceMul, Nat.reduceLT, Nat.reduceLeDiff, Nat.reduceMod, Nat.reduceDiv, Int.reduceLT, Int.reduceLE, Int.reduceToNat, ↓reduceIte, reduceCtorEq, Value.oneCell', Int.reduceAdd, Int.reduceSub, Int.reduceMod, Int.reduceMul, Int.reduceNeg, Int.reduceBEq, Int.reduceBNe, Int.reduceTDiv, Int.reduceTMod, Int.reduceEq, tyB, Try.underlying13, Try.underlying25, Try.underlying26, Try.underlying39, Try.underlying40, Try.underlying72, Try.underlying73]
      exact ⟨i + 1, by omega, (by show n - (i + 1) < n - i; omega), Sub.of (by simp -implicitDefEqProofs only [subT, tkS, hc, Int.natCast_zero, look, lookA, newK, St.get, St.mem, List.map_cons, List.map_nil, List.all_cons, List.all_nil, List.length_cons, List.length_nil, List.getElem?_cons_zero, List.getElem?_cons_succ, Nat.reduceEqDiff, Nat.reduceAdd, Option.some.injEq, ↓reduceIte, true_and, and_true, reduceCtorEq, beq_self_eq_true, Bool.and_true, ne_eq, not_false_eq_true, not_true_eq_false, Nat.add_zero, Nat.zero_add, Nat.reduceSub, Nat.reduceMul, Int.cast_ofNat_Int, Int.reduceAdd, Int.reduceSub, Int.reduceMul, Int.natCast_add, Int.natCast_one]) (by simp -implicitDefEqProofs only [subM, tkS, look, lookA, newK, St.get, St.mem, List.map_cons, List.map_nil, List.all_cons, List.all_nil, List.length_cons, List.length_nil, List.getElem?_cons_zero, List.getElem?_cons_succ, Nat.reduceEqDiff, Nat.reduceAdd, Option.some.injEq, ↓reduceIte, true_and, and_true, reduceCtorEq, beq_self_eq_true, Bool.and_true, ne_eq, not_false_eq_true, not_true_eq_false, Nat.add_zero, Nat.zero_add, Nat.reduceSub, Nat.reduceMul, Int.cast_ofNat_Int, Int.reduceAdd, Int.reduceSub, Int.reduceMul]) rfl⟩
    · have w2 : IntKind.i64.wrap (((dg x i : Nat) : Int) - ((dg y i : Nat) : Int) - ((cy y z i : Nat) : Int)) = ((dg z i : Nat) : Int) - 65536 := by rw [i64_in (by omega) (by omega)]; omega
      have r5 : decide (((dg z i : Nat) : Int) - 65536 < 0) = true := decide_eq_true (by omega)
      have w3 : IntKind.i64.wrap (((dg z i : Nat) : Int) - 65536 + 65536) = ((dg z i : Nat) : Int) := by rw [i64_in (by omega) (by omega)]; omega
      simp -implicitDefEqProofs (maxSteps := 10000000) only [tkS, digitG, lx, ly, tx, ty, li, w1, w2, w3, w5, r1, r2, r3, r4, r5, hs, hll.1, hll.2, Int.toNat_natCast, vy_succ, vmB, slim, slimOp, gO, gSO, qSO, quietOp, cS, qSB, eK, calmOp, guardS, gK, qK, putK, plK, dOk, St.ev, St.get, St.mem, St.set, St.setm, St.put, lookA, look, newK, nextver, initT, seqE, blockQ, bodyQ, resK, retV, AV.rdv, agg_uV, ↓binK, ↓intK, unK, ↓loadK, ↓withKey_eq, ↓idxAddrK, ↓indexK, ↓partK, ↓fieldK, ↓fieldAddrK, ↓convK, ↓callK, wrG, updK, ↓lenK, ↓mmK, ↓appK, ↓copyK, ↓sliceK, ↓toArrK, nilK, evs, plains, seqParts, capsOf, capsD, AV.dv, AV.cont, ↓buildV_eq, fillL, placesOf, ↓storeK, wrL, RV.av, DV.av, List.set, Nat.reduceEqDiff, Nat.reduceAdd, Nat.reduceSub, Nat.reduceMul, Nat.reduceLT, Nat.reduceLeDiff, Nat.reduceMod, Nat.reduceDiv, Int.reduceLT, Int.reduceLE, Int.reduceToNat, ↓reduceIte, reduceCtorEq, Value.oneCell', Int.reduceAdd, Int.reduceSub, Int.reduceMod, Int.reduceMul, Int.reduceNeg, Int.reduceBEq, Int.reduceBNe, Int.reduceTDiv, Int.reduceTMod, Int.reduceEq, tyB, Try.underlying13, Try.underlying25, Try.underlying26, Try.underlying39, Try.underlying40, Try.underlying72, Try.underlying73]
      exact ⟨i + 1, by omega, (by show n - (i + 1) < n - i; omega), Sub.of (by simp -implicitDefEqProofs only [subT, tkS, hc, Int.natCast_one, look, lookA, newK, St.get, St.mem, List.map_cons, List.map_nil, List.all_cons, List.all_nil, List.length_cons, List.length_nil, List.getElem?_cons_zero, List.getElem?_cons_succ, Nat.reduceEqDiff, Nat.reduceAdd, Option.some.injEq, ↓reduceIte, true_and, and_true, reduceCtorEq, beq_self_eq_true, Bool.and_true, ne_eq, not_false_eq_true, not_true_eq_false, Nat.add_zero, Nat.zero_add, Nat.reduceSub, Nat.reduceMul, Int.cast_ofNat_Int, Int.reduceAdd, Int.reduceSub, Int.reduceMul, Int.natCast_add, Int.natCast_one]) (by simp -implicitDefEqProofs only [subM, tkS, look, lookA, newK, St.get, St.mem, List.map_cons, List.map_nil, List.all_cons, List.all_nil, List.length_cons, List.length_nil, List.getElem?_cons_zero, List.getElem?_cons_succ, Nat.reduceEqDiff, Nat.reduceAdd, Option.some.injEq, ↓reduceIte, true_and, and_true, reduceCtorEq, beq_self_eq_true, Bool.and_true, ne_eq, not_false_eq_true, not_true_eq_false, Nat.add_zero, Nat.zero_add, Nat.reduceSub, Nat.reduceMul, Int.cast_ofNat_Int, Int.reduceAdd, Int.reduceSub, Int.reduceMul]) rfl⟩
  · have e : i = n := by omega
    subst e
    have r1 : decide ((i : Int) < (i : Int)) = false := decide_eq_false (by omega)
    have ht : (digV i z).take i = digV i z := List.take_of_length_le (by omega)
    simp -implicitDefEqProofs (maxSteps := 10000000) only [vy_succ, vmB, slim, slimOp, gO, gSO, qSO, quietOp, cS, qSB, eK, calmOp, guardS, gK, qK, putK, plK, dOk, St.ev, St.get, St.mem, St.set, St.setm, St.put, lookA, look, newK, nextver, initT, seqE, blockQ, bodyQ, resK, retV, AV.rdv, agg_uV, ↓binK, ↓intK, unK, ↓loadK, ↓withKey_eq, ↓idxAddrK, ↓indexK, ↓partK, ↓fieldK, ↓fieldAddrK, ↓convK, ↓callK, wrG, updK, ↓lenK, ↓mmK, ↓appK, ↓copyK, ↓sliceK, ↓toArrK, nilK, evs, plains, seqParts, capsOf, capsD, AV.dv, AV.cont, ↓buildV_eq, fillL, placesOf, ↓storeK, wrL, RV.av, DV.av, List.set, Nat.reduceEqDiff, Nat.reduceAdd, Nat.reduceSub, Nat.reduceMul, Nat.reduceLT, Nat.reduceLeDiff, Nat.reduceMod, Nat.reduceDiv, Int.reduceLT, Int.reduceLE, Int.reduceToNat, ↓reduceIte, reduceCtorEq, Value.oneCell', Int.reduceAdd, Int.reduceSub, Int.reduceMod, Int.reduceMul, Int.reduceNeg, Int.reduceBEq, Int.reduceBNe, Int.reduceTDiv, Int.reduceTMod, Int.reduceEq, tyB, Try.underlying13, Try.underlying25, Try.underlying26, Try.underlying39, Try.underlying40, Try.underlying72, Try.underlying73, tkS, lx, ly, li, r1, ht]

theorem take_ok : ∀ ds r, takeG ds = some r → Spec Try.prog 64 ds r := by
  intro ds r h
  unfold takeG at h
  split at h
  case h_2 => cases h
  rename_i xs ys
  split at h
  case h_2 => cases h
  rename_i n x m y hx hy
  split at h
  case isFalse => cases h
  rename_i hb
  cases h
  obtain ⟨rfl, hx'⟩ := toD_out hx
  obtain ⟨rfl, hy'⟩ := toD_out hy
  exact take_walk n x m y (x - y) hx' hy' hb.1 (by omega)

/-! ### To -/
noncomputable def tw (w k q : Nat) : Nat := Classical.choose (⟨w / 65536 ^ (k - 4 * q), rfl⟩ : ∃ z : Nat, z = w / 65536 ^ (k - 4 * q))
theorem tw_eq (w k q : Nat) : tw w k q = w / 65536 ^ (k - 4 * q) := Classical.choose_spec (⟨w / 65536 ^ (k - 4 * q), rfl⟩ : ∃ z : Nat, z = w / 65536 ^ (k - 4 * q))
theorem tw_0 (w q : Nat) : tw w 0 q = w := by rw [tw_eq, Nat.zero_sub, Nat.pow_zero, Nat.div_one]
theorem tw_other (w j q q' : Nat) (hw : w < 18446744073709551616) (hq : j / 4 = q) (h : q ≠ q') : tw w (j + 1) q' = tw w j q' := by
  rw [tw_eq, tw_eq]
  by_cases h1 : q < q'
  · rw [show j + 1 - 4 * q' = 0 by omega, show j - 4 * q' = 0 by omega]
  · have hb : ∀ e, 4 ≤ e → w / 65536 ^ e = 0 := fun e he => Nat.div_eq_of_lt (Nat.lt_of_lt_of_le (show w < 65536 ^ 4 by omega) (pow_mono he))
    rw [hb _ (by omega), hb _ (by omega)]
theorem tw_top (w q : Nat) (hw : w < 18446744073709551616) (hq : q < 4) : tw w 16 q = 0 := by
  rw [tw_eq]
  exact Nat.div_eq_of_lt (Nat.lt_of_lt_of_le (show w < 65536 ^ 4 by omega) (pow_mono (by omega)))
theorem tw_step0 (x j r : Nat) (hr : r < 4) (hj : j = 0 + r) : ((tw (w0 x) (j + 1) 0 : Nat) : Int) * 65536 % 18446744073709551616 = ((tw (w0 x) (j + 1) 0 * 65536 : Nat) : Int) ∧ (((tw (w0 x) (j + 1) 0 * 65536 : Nat) : Int) + ((dg x j : Nat) : Int)) % 18446744073709551616 = ((tw (w0 x) j 0 : Nat) : Int) := by
  have hw := w0_lt x
  rw [tw_eq, tw_eq, dg_eq, hj, show 0 + r + 1 - 4 * 0 = r + 1 by omega, show 0 + r - 4 * 0 = r by omega]
  rw [w0_eq] at *
  have hc : r = 0 ∨ r = 1 ∨ r = 2 ∨ r = 3 := by omega
  rcases hc with rfl | rfl | rfl | rfl <;> simp only [Nat.reduceAdd, Nat.reducePow] <;> constructor <;> omega
theorem tw_step1 (x j r : Nat) (hr : r < 4) (hj : j = 4 + r) : ((tw (w1 x) (j + 1) 1 : Nat) : Int) * 65536 % 18446744073709551616 = ((tw (w1 x) (j + 1) 1 * 65536 : Nat) : Int) ∧ (((tw (w1 x) (j + 1) 1 * 65536 : Nat) : Int) + ((dg x j : Nat) : Int)) % 18446744073709551616 = ((tw (w1 x) j 1 : Nat) : Int) := by
  have hw := w1_lt x
  rw [tw_eq, tw_eq, dg_eq, hj, show 4 + r + 1 - 4 * 1 = r + 1 by omega, show 4 + r - 4 * 1 = r by omega]
  rw [w1_eq] at *
  have hc : r = 0 ∨ r = 1 ∨ r = 2 ∨ r = 3 := by omega
  rcases hc with rfl | rfl | rfl | rfl <;> simp only [Nat.reduceAdd, Nat.reducePow] <;> constructor <;> omega
theorem tw_step2 (x j r : Nat) (hr : r < 4) (hj : j = 8 + r) : ((tw (w2 x) (j + 1) 2 : Nat) : Int) * 65536 % 18446744073709551616 = ((tw (w2 x) (j + 1) 2 * 65536 : Nat) : Int) ∧ (((tw (w2 x) (j + 1) 2 * 65536 : Nat) : Int) + ((dg x j : Nat) : Int)) % 18446744073709551616 = ((tw (w2 x) j 2 : Nat) : Int) := by
  have hw := w2_lt x
  rw [tw_eq, tw_eq, dg_eq, hj, show 8 + r + 1 - 4 * 2 = r + 1 by omega, show 8 + r - 4 * 2 = r by omega]
  rw [w2_eq] at *
  have hc : r = 0 ∨ r = 1 ∨ r = 2 ∨ r = 3 := by omega
  rcases hc with rfl | rfl | rfl | rfl <;> simp only [Nat.reduceAdd, Nat.reducePow] <;> constructor <;> omega
theorem tw_step3 (x j r : Nat) (hr : r < 4) (hj : j = 12 + r) : ((tw (w3 x) (j + 1) 3 : Nat) : Int) * 65536 % 18446744073709551616 = ((tw (w3 x) (j + 1) 3 * 65536 : Nat) : Int) ∧ (((tw (w3 x) (j + 1) 3 * 65536 : Nat) : Int) + ((dg x j : Nat) : Int)) % 18446744073709551616 = ((tw (w3 x) j 3 : Nat) : Int) := by
  have hw := w3_lt x
  rw [tw_eq, tw_eq, dg_eq, hj, show 12 + r + 1 - 4 * 3 = r + 1 by omega, show 12 + r - 4 * 3 = r by omega]
  rw [w3_eq] at *
  have hc : r = 0 ∨ r = 1 ∨ r = 2 ∨ r = 3 := by omega
  rcases hc with rfl | rfl | rfl | rfl <;> simp only [Nat.reduceAdd, Nat.reducePow] <;> constructor <;> omega

noncomputable def toG : List DV → Option RV
  | [.vec xs] => match toD xs with
    | some (n, x) => if n ≤ 1000 then some (.one (.pl (uV x))) else none
    | none => none
  | _ => none
noncomputable def toS (n x k : Nat) : St := ⟨[(4, .pl (.int .i64 ((k : Int) - 1))), (3, .ptr 3 0 0), (2, .ptr 2 0 0), (0, .vec false (digV n x))],
  [(3, ⟨0, 24, [.int .u64 (tw (w0 x) k 0 : Nat), .int .u64 (tw (w1 x) k 1 : Nat), .int .u64 (tw (w2 x) k 2 : Nat), .int .u64 (tw (w3 x) k 3 : Nat)]⟩), (2, ⟨0, 24, [.int .u64 0, .int .u64 0, .int .u64 0, .int .u64 0]⟩)]⟩

set_option maxHeartbeats 4000000 in
theorem to_walk (n x : Nat) (hx : x < 65536 ^ n) (hb : n ≤ 1000) : Spec Try.prog 75 [.vec (digV n x)] (.one (.pl (uV x))) := by
  have hΓ : Env.ok [(73, digitG)] Try.prog := ok_cons digit_ok (ok_nil _)
  have tx := toD_digV hx
  have z0 := tw_top (w0 x) 0 (w0_lt x) (by omega)
  have z1 := tw_top (w1 x) 1 (w1_lt x) (by omega)
  have z2 := tw_top (w2 x) 2 (w2_lt x) (by omega)
  have z3 := tw_top (w3 x) 3 (w3_lt x) (by omega)
  refine Spec.of_vx hΓ follows_mixed Try.func75 rfl (by kernel_rfl) (T := []) (by simp [Try.ntmps75]) (by kernel_rfl) rfl Try.ntmps75 (res := [.cell 2 24]) rfl ?_
  intro W
  simp -implicitDefEqProofs (maxSteps := 10000000) only [vy_succ, vmB, slim, slimOp, gO, gSO, qSO, quietOp, cS, qSB, eK, calmOp, guardS, gK, qK, putK, plK, dOk, St.ev, St.get, St.mem, St.set, St.setm, St.put, lookA, look, newK, nextver, initT, seqE, blockQ, bodyQ, resK, retV, AV.rdv, agg_uV, ↓binK, ↓intK, unK, ↓loadK, ↓withKey_eq, ↓idxAddrK, ↓indexK, ↓partK, ↓fieldK, ↓fieldAddrK, ↓convK, ↓callK, wrG, updK, ↓lenK, ↓mmK, ↓appK, ↓copyK, ↓sliceK, ↓toArrK, nilK, evs, plains, seqParts, capsOf, capsD, AV.dv, AV.cont, ↓buildV_eq, fillL, placesOf, ↓storeK, wrL, RV.av, DV.av, List.set, Nat.reduceEqDiff, Nat.reduceAdd, Nat.reduceSub, Nat.reduceMul, Nat.reduceLT, Nat.reduceLeDiff, Nat.reduceMod, Nat.reduceDiv, Int.reduceLT, Int.reduceLE, Int.reduceToNat, ↓reduceIte, reduceCtorEq, Value.oneCell', Int.reduceAdd, Int.reduceSub, Int.reduceMod, Int.reduceMul, Int.reduceNeg, Int.reduceBEq, Int.reduceBNe, Int.reduceTDiv, Int.reduceTMod, Int.reduceEq, tyB, Try.underlying13, Try.underlying25, Try.underlying26, Try.underlying39, Try.underlying40, Try.underlying72, Try.underlying73]
  refine VT_loop hΓ follows_mixed (toS n x) (fun k => k ≤ 16) (fun k => k) 16 (Sub.of (by simp -implicitDefEqProofs only [subT, toS, look, lookA, newK, St.get, St.mem, List.map_cons, List.map_nil, List.all_cons, List.all_nil, List.length_cons, List.length_nil, List.getElem?_cons_zero, List.getElem?_cons_succ, Nat.reduceEqDiff, Nat.reduceAdd, Option.some.injEq, ↓reduceIte, true_and, and_true, reduceCtorEq, beq_self_eq_true, Bool.and_true, ne_eq, not_false_eq_true, not_true_eq_false, Nat.add_zero, Nat.zero_add, Nat.reduceSub, Nat.reduceMul, Int.cast_ofNat_Int, Int.reduceAdd, Int.reduceSub, Int.reduceMul]) (by simp -implicitDefEqProofs only [subM, toS, z0, z1, z2, z3, Int.natCast_zero, look, lookA, newK, St.get, St.mem, List.map_cons, List.map_nil, List.all_cons, List.all_nil, List.length_cons, List.length_nil, List.getElem?_cons_zero, List.getElem?_cons_succ, Nat.reduceEqDiff, Nat.reduceAdd, Option.some.injEq, ↓reduceIte, true_and, and_true, reduceCtorEq, beq_self_eq_true, Bool.and_true, ne_eq, not_false_eq_true, not_true_eq_false, Nat.add_zero, Nat.zero_add, Nat.reduceSub, Nat.reduceMul, Int.cast_ofNat_Int, Int.reduceAdd, Int.reduceSub, Int.reduceMul]) rfl) (by omega) ?_
  intro k hk
  rcases k with _ | j
  · have e0 := tw_0 (w0 x) 0
    have e1 := tw_0 (w1 x) 1
    have e2 := tw_0 (w2 x) 2
    have e3 := tw_0 (w3 x) 3
    simp -implicitDefEqProofs (maxSteps := 10000000) only [vy_succ, vmB, slim, slimOp, gO, gSO, qSO, quietOp, cS, qSB, eK, calmOp, guardS, gK, qK, putK, plK, dOk, St.ev, St.get, St.mem, St.set, St.setm, St.put, lookA, look, newK, nextver, initT, seqE, blockQ, bodyQ, resK, retV, AV.rdv, agg_uV, ↓binK, ↓intK, unK, ↓loadK, ↓withKey_eq, ↓idxAddrK, ↓indexK, ↓partK, ↓fieldK, ↓fieldAddrK, ↓convK, ↓callK, wrG, updK, ↓lenK, ↓mmK, ↓appK, ↓copyK, ↓sliceK, ↓toArrK, nilK, evs, plains, seqParts, capsOf, capsD, AV.dv, AV.cont, ↓buildV_eq, fillL, placesOf, ↓storeK, wrL, RV.av, DV.av, List.set, Nat.reduceEqDiff, Nat.reduceAdd, Nat.reduceSub, Nat.reduceMul, Nat.reduceLT, Nat.reduceLeDiff, Nat.reduceMod, Nat.reduceDiv, Int.reduceLT, Int.reduceLE, Int.reduceToNat, ↓reduceIte, reduceCtorEq, Value.oneCell', Int.reduceAdd, Int.reduceSub, Int.reduceMod, Int.reduceMul, Int.reduceNeg, Int.reduceBEq, Int.reduceBNe, Int.reduceTDiv, Int.reduceTMod, Int.reduceEq, tyB, Try.underlying13, Try.underlying25, Try.underlying26, Try.underlying39, Try.underlying40, Try.underlying72, Try.underlying73, toS, Int.natCast_zero, e0, e1, e2, e3]
  · have r0 : decide (0 ≤ (j : Int)) = true := decide_eq_true (by omega)
    have r1 : (0 : Int) ≤ (j : Int) := by omega
    have r2 : IntKind.i64.wrap ((j : Int) - 1) = (j : Int) - 1 := i64_in (by omega) (by omega)
    obtain ⟨q, r, hr, hq, hj⟩ : ∃ q r : Nat, r < 4 ∧ q < 4 ∧ j = 4 * q + r := ⟨j / 4, j % 4, by omega, by omega, by omega⟩
    have hd := dg_lt x j
    have r3 : ((dg x j : Nat) : Int) % 18446744073709551616 = ((dg x j : Nat) : Int) := by omega
    have l0 := w0_lt x; have l1 := w1_lt x; have l2 := w2_lt x; have l3 := w3_lt x
    have hq4 : q = 0 ∨ q = 1 ∨ q = 2 ∨ q = 3 := by omega
    rcases hq4 with rfl | rfl | rfl | rfl
    · have r8 : (j : Int).tdiv 4 = 0 := by rw [Int.tdiv_eq_ediv_of_nonneg (by omega)]; omega
      obtain ⟨s1, s2⟩ := tw_step0 x j r hr (by omega)
      have o1 := tw_other (w1 x) j 0 1 l1 (by omega) (by omega)
      have o2 := tw_other (w2 x) j 0 2 l2 (by omega) (by omega)
      have o3 := tw_other (w3 x) j 0 3 l3 (by omega) (by omega)
      simp -implicitDefEqProofs (maxSteps := 10000000) only [toS, cast_pred, digitG, tx, r0, r1, r2, r3, r8, s1, s2, o1, o2, o3, Int.toNat_natCast, vy_succ, vmB, slim, slimOp, gO, gSO, qSO, quietOp, cS, qSB, eK, calmOp, guardS, gK, qK, putK, plK, dOk, St.ev, St.get, St.mem, St.set, St.setm, St.put, lookA, look, newK, nextver, initT, seqE, blockQ, bodyQ, resK, retV, AV.rdv, agg_uV, ↓binK, ↓intK, unK, ↓loadK, ↓withKey_eq, ↓idxAddrK, ↓indexK, ↓partK, ↓fieldK, ↓fieldAddrK, ↓convK, ↓callK, wrG, updK, ↓lenK, ↓mmK, ↓appK, ↓copyK, ↓sliceK, ↓toArrK, nilK, evs, plains, seqParts, capsOf, capsD, AV.dv, AV.cont, ↓buildV_eq, fillL, placesOf, ↓storeK, wrL, RV.av, DV.av, List.set, Nat.reduceEqDiff, Nat.reduceAdd, Nat.reduceSub, Nat.reduceMul, Nat.reduceLT, Nat.reduceLeDiff, Nat.reduceMod, Nat.reduceDiv, Int.reduceLT, Int.reduceLE, Int.reduceToNat, ↓reduceIte, reduceCtorEq, Value.oneCell', Int.reduceAdd, Int.reduceSub, Int.reduceMod, Int.reduceMul, Int.reduceNeg, Int.reduceBEq, Int.reduceBNe, Int.reduceTDiv, Int.reduceTMod, Int.reduceEq, tyB, Try.underlying13, Try.underlying25, Try.underlying26, Try.underlying39, Try.underlying40, Try.underlying72, Try.underlying73]
      exact ⟨j, by omega, Nat.lt_succ_self j, Sub.of (by simp -implicitDefEqProofs only [subT, toS, look, lookA, newK, St.get, St.mem, List.map_cons, List.map_nil, List.all_cons, List.all_nil, List.length_cons, List.length_nil, List.getElem?_cons_zero, List.getElem?_cons_succ, Nat.reduceEqDiff, Nat.reduceAdd, Option.some.injEq, ↓reduceIte, true_and, and_true, reduceCtorEq, beq_self_eq_true, Bool.and_true, ne_eq, not_false_eq_true, not_true_eq_false, Nat.add_zero, Nat.zero_add, Nat.reduceSub, Nat.reduceMul, Int.cast_ofNat_Int, Int.reduceAdd, Int.reduceSub, Int.reduceMul]) (by simp -implicitDefEqProofs only [subM, toS, look, lookA, newK, St.get, St.mem, List.map_cons, List.map_nil, List.all_cons, List.all_nil, List.length_cons, List.length_nil, List.getElem?_cons_zero, List.getElem?_cons_succ, Nat.reduceEqDiff, Nat.reduceAdd, Option.some.injEq, ↓reduceIte, true_and, and_true, reduceCtorEq, beq_self_eq_true, Bool.and_true, ne_eq, not_false_eq_true, not_true_eq_false, Nat.add_zero, Nat.zero_add, Nat.reduceSub, Nat.reduceMul, Int.cast_ofNat_Int, Int.reduceAdd, Int.reduceSub, Int.reduceMul]) rfl⟩
    · have r8 : (j : Int).tdiv 4 = 1 := by rw [Int.tdiv_eq_ediv_of_nonneg (by omega)]; omega
      obtain ⟨s1, s2⟩ := tw_step1 x j r hr (by omega)
      have o0 := tw_other (w0 x) j 1 0 l0 (by omega) (by omega)
      have o2 := tw_other (w2 x) j 1 2 l2 (by omega) (by omega)
      have o3 := tw_other (w3 x) j 1 3 l3 (by omega) (by omega)
      simp -implicitDefEqProofs (maxSteps := 10000000) only [toS, cast_pred, digitG, tx, r0, r1, r2, r3, r8, s1, s2, o0, o2, o3, Int.toNat_natCast, vy_succ, vmB, slim, slimOp, gO, gSO, qSO, quietOp, cS, qSB, eK, calmOp, guardS, gK, qK, putK, plK, dOk, St.ev, St.get, St.mem, St.set, St.setm, St.put, lookA, look, newK, nextver, initT, seqE, blockQ, bodyQ, resK, retV, AV.rdv, agg_uV, ↓binK, ↓intK, unK, ↓loadK, ↓withKey_eq, ↓idxAddrK, ↓indexK, ↓partK, ↓fieldK, ↓fieldAddrK, ↓convK, ↓callK, wrG, updK, ↓lenK, ↓mmK, ↓appK, ↓copyK, ↓sliceK, ↓toArrK, nilK, evs, plains, seqParts, capsOf, capsD, AV.dv, AV.cont, ↓buildV_eq, fillL, placesOf, ↓storeK, wrL, RV.av, DV.av, List.set, Nat.reduceEqDiff, Nat.reduceAdd, Nat.reduceSub, Nat.reduceMul, Nat.reduceLT, Nat.reduceLeDiff, Nat.reduceMod, Nat.reduceDiv, Int.reduceLT, Int.reduceLE, Int.reduceToNat, ↓reduceIte, reduceCtorEq, Value.oneCell', Int.reduceAdd, Int.reduceSub, Int.reduceMod, Int.reduceMul, Int.reduceNeg, Int.reduceBEq, Int.reduceBNe, Int.reduceTDiv, Int.reduceTMod, Int.reduceEq, tyB, Try.underlying13, Try.underlying25, Try.underlying26, Try.underlying39, Try.underlying40, Try.underlying72, Try.underlying73]
      exact ⟨j, by omega, Nat.lt_succ_self j, Sub.of (by simp -implicitDefEqProofs only [subT, toS, look, lookA, newK, St.get, St.mem, List.map_cons, List.map_nil, List.all_cons, List.all_nil, List.length_cons, List.length_nil, List.getElem?_cons_zero, List.getElem?_cons_succ, Nat.reduceEqDiff, Nat.reduceAdd, Option.some.injEq, ↓reduceIte, true_and, and_true, reduceCtorEq, beq_self_eq_true, Bool.and_true, ne_eq, not_false_eq_true, not_true_eq_false, Nat.add_zero, Nat.zero_add, Nat.reduceSub, Nat.reduceMul, Int.cast_ofNat_Int, Int.reduceAdd, Int.reduceSub, Int.reduceMul]) (by simp -implicitDefEqProofs only [subM, toS, look, lookA, newK, St.get, St.mem, List.map_cons, List.map_nil, List.all_cons, List.all_nil, List.length_cons, List.length_nil, List.getElem?_cons_zero, List.getElem?_cons_succ, Nat.reduceEqDiff, Nat.reduceAdd, Option.some.injEq, ↓reduceIte, true_and, and_true, reduceCtorEq, beq_self_eq_true, Bool.and_true, ne_eq, not_false_eq_true, not_true_eq_false, Nat.add_zero, Nat.zero_add, Nat.reduceSub, Nat.reduceMul, Int.cast_ofNat_Int, Int.reduceAdd, Int.reduceSub, Int.reduceMul]) rfl⟩
    · have r8 : (j : Int).tdiv 4 = 2 := by rw [Int.tdiv_eq_ediv_of_nonneg (by omega)]; omega
      obtain ⟨s1, s2⟩ := tw_step2 x j r hr (by omega)
      have o0 := tw_other (w0 x) j 2 0 l0 (by omega) (by omega)
      have o1 := tw_other (w1 x) j 2 1 l1 (by omega) (by omega)
      have o3 := tw_other (w3 x) j 2 3 l3 (by omega) (by omega)
      simp -implicitDefEqProofs (maxSteps := 10000000) only [toS, cast_pred, digitG, tx, r0, r1, r2, r3, r8, s1, s2, o0, o1, o3, Int.toNat_natCast, vy_succ, vmB, slim, slimOp, gO, gSO, qSO, quietOp, cS, qSB, eK, calmOp, guardS, gK, qK, putK, plK, dOk, St.ev, St.get, St.mem, St.set, St.setm, St.put, lookA, look, newK, nextver, initT, seqE, blockQ, bodyQ, resK, retV, AV.rdv, agg_uV, ↓binK, ↓intK, unK, ↓loadK, ↓withKey_eq, ↓idxAddrK, ↓indexK, ↓partK, ↓fieldK, ↓fieldAddrK, ↓convK, ↓callK, wrG, updK, ↓lenK, ↓mmK, ↓appK, ↓copyK, ↓sliceK, ↓toArrK, nilK, evs, plains, seqParts, capsOf, capsD, AV.dv, AV.cont, ↓buildV_eq, fillL, placesOf, ↓storeK, wrL, RV.av, DV.av, List.set, Nat.reduceEqDiff, Nat.reduceAdd, Nat.reduceSub, Nat.reduceMul, Nat.reduceLT, Nat.reduceLeDiff, Nat.reduceMod, Nat.reduceDiv, Int.reduceLT, Int.reduceLE, Int.reduceToNat, ↓reduceIte, reduceCtorEq, Value.oneCell', Int.reduceAdd, Int.reduceSub, Int.reduceMod, Int.reduceMul, Int.reduceNeg, Int.reduceBEq, Int.reduceBNe, Int.reduceTDiv, Int.reduceTMod, Int.reduceEq, tyB, Try.underlying13, Try.underlying25, Try.underlying26, Try.underlying39, Try.underlying40, Try.underlying72, Try.underlying73]
      exact ⟨j, by omega, Nat.lt_succ_self j, Sub.of (by simp -implicitDefEqProofs only [subT, toS, look, lookA, newK, St.get, St.mem, List.map_cons, List.map_nil, List.all_cons, List.all_nil, List.length_cons, List.length_nil, List.getElem?_cons_zero, List.getElem?_cons_succ, Nat.reduceEqDiff, Nat.reduceAdd, Option.some.injEq, ↓reduceIte, true_and, and_true, reduceCtorEq, beq_self_eq_true, Bool.and_true, ne_eq, not_false_eq_true, not_true_eq_false, Nat.add_zero, Nat.zero_add, Nat.reduceSub, Nat.reduceMul, Int.cast_ofNat_Int, Int.reduceAdd, Int.reduceSub, Int.reduceMul]) (by simp -implicitDefEqProofs only [subM, toS, look, lookA, newK, St.get, St.mem, List.map_cons, List.map_nil, List.all_cons, List.all_nil, List.length_cons, List.length_nil, List.getElem?_cons_zero, List.getElem?_cons_succ, Nat.reduceEqDiff, Nat.reduceAdd, Option.some.injEq, ↓reduceIte, true_and, and_true, reduceCtorEq, beq_self_eq_true, Bool.and_true, ne_eq, not_false_eq_true, not_true_eq_false, Nat.add_zero, Nat.zero_add, Nat.reduceSub, Nat.reduceMul, Int.cast_ofNat_Int, Int.reduceAdd, Int.reduceSub, Int.reduceMul]) rfl⟩
    · have r8 : (j : Int).tdiv 4 = 3 := by rw [Int.tdiv_eq_ediv_of_nonneg (by omega)]; omega
      obtain ⟨s1, s2⟩ := tw_step3 x j r hr (by omega)
      have o0 := tw_other (w0 x) j 3 0 l0 (by omega) (by omega)
      have o1 := tw_other (w1 x) j 3 1 l1 (by omega) (by omega)
      have o2 := tw_other (w2 x) j 3 2 l2 (by omega) (by omega)
      simp -implicitDefEqProofs (maxSteps := 10000000) only [toS, cast_pred, digitG, tx, r0, r1, r2, r3, r8, s1, s2, o0, o1, o2, Int.toNat_natCast, vy_succ, vmB, slim, slimOp, gO, gSO, qSO, quietOp, cS, qSB, eK, calmOp, guardS, gK, qK, putK, plK, dOk, St.ev, St.get, St.mem, St.set, St.setm, St.put, lookA, look, newK, nextver, initT, seqE, blockQ, bodyQ, resK, retV, AV.rdv, agg_uV, ↓binK, ↓intK, unK, ↓loadK, ↓withKey_eq, ↓idxAddrK, ↓indexK, ↓partK, ↓fieldK, ↓fieldAddrK, ↓convK, ↓callK, wrG, updK, ↓lenK, ↓mmK, ↓appK, ↓copyK, ↓sliceK, ↓toArrK, nilK, evs, plains, seqParts, capsOf, capsD, AV.dv, AV.cont, ↓buildV_eq, fillL, placesOf, ↓storeK, wrL, RV.av, DV.av, List.set, Nat.reduceEqDiff, Nat.reduceAdd, Nat.reduceSub, Nat.reduceMul, Nat.reduceLT, Nat.reduceLeDiff, Nat.reduceMod, Nat.reduceDiv, Int.reduceLT, Int.reduceLE, Int.reduceToNat, ↓reduceIte, reduceCtorEq, Value.oneCell', Int.reduceAdd, Int.reduceSub, Int.reduceMod, Int.reduceMul, Int.reduceNeg, Int.reduceBEq, Int.reduceBNe, Int.reduceTDiv, Int.reduceTMod, Int.reduceEq, tyB, Try.underlying13, Try.underlying25, Try.underlying26, Try.underlying39, Try.underlying40, Try.underlying72, Try.underlying73]
      exact ⟨j, by omega, Nat.lt_succ_self j, Sub.of (by simp -implicitDefEqProofs only [subT, toS, look, lookA, newK, St.get, St.mem, List.map_cons, List.map_nil, List.all_cons, List.all_nil, List.length_cons, List.length_nil, List.getElem?_cons_zero, List.getElem?_cons_succ, Nat.reduceEqDiff, Nat.reduceAdd, Option.some.injEq, ↓reduceIte, true_and, and_true, reduceCtorEq, beq_self_eq_true, Bool.and_true, ne_eq, not_false_eq_true, not_true_eq_false, Nat.add_zero, Nat.zero_add, Nat.reduceSub, Nat.reduceMul, Int.cast_ofNat_Int, Int.reduceAdd, Int.reduceSub, Int.reduceMul]) (by simp -implicitDefEqProofs only [subM, toS, look, lookA, newK, St.get, St.mem, List.map_cons, List.map_nil, List.all_cons, List.all_nil, List.length_cons, List.length_nil, List.getElem?_cons_zero, List.getElem?_cons_succ, Nat.reduceEqDiff, Nat.reduceAdd, Option.some.injEq, ↓reduceIte, true_and, and_true, reduceCtorEq, beq_self_eq_true, Bool.and_true, ne_eq, not_false_eq_true, not_true_eq_false, Nat.add_zero, Nat.zero_add, Nat.reduceSub, Nat.reduceMul, Int.cast_ofNat_Int, Int.reduceAdd, Int.reduceSub, Int.reduceMul]) rfl⟩

theorem to_ok : ∀ ds r, toG ds = some r → Spec Try.prog 75 ds r := by
  intro ds r h
  unfold toG at h
  split at h
  case h_2 => cases h
  rename_i xs
  split at h
  case h_2 => cases h
  rename_i n x hx
  split at h
  case isFalse => cases h
  rename_i hb
  cases h
  obtain ⟨rfl, hx'⟩ := toD_out hx
  exact to_walk n x hx' hb

end Go.Vm

/- Contract on numbers in digits: Times. No condition. -/
set_option maxRecDepth 100000
set_option linter.unusedSimpArgs false
set_option linter.unusedVariables false
namespace Go.Vm
open Go Go.RowKit Go.Proofs

/-! ### Plain laws -/
noncomputable def mixV (N p V U : Nat) : List Value := Classical.choose (⟨(List.range N).map fun j => .int .i64 ((if j < p then dg V j else dg U j : Nat) : Int), rfl⟩ : ∃ l : List Value, l = (List.range N).map fun j => .int .i64 ((if j < p then dg V j else dg U j : Nat) : Int))
theorem mixV_eq (N p V U : Nat) : mixV N p V U = (List.range N).map fun j => .int .i64 ((if j < p then dg V j else dg U j : Nat) : Int) := Classical.choose_spec (⟨(List.range N).map fun j => .int .i64 ((if j < p then dg V j else dg U j : Nat) : Int), rfl⟩ : ∃ l : List Value, l = (List.range N).map fun j => .int .i64 ((if j < p then dg V j else dg U j : Nat) : Int))
theorem mixV_len (N p V U : Nat) : (mixV N p V U).length = N := by rw [mixV_eq]; simp
theorem mixV_get (N p V U : Nat) (h : p < N) : (mixV N p V U)[p]? = some (.int .i64 (dg U p : Nat)) := by rw [mixV_eq]; simp [h]
theorem mixV_set (N p V V' U : Nat) (h : p < N) (hj : ∀ j, j < p → dg V' j = dg V j) : (mixV N p V U).set p (.int .i64 (dg V' p : Nat)) = mixV N (p + 1) V' U := by
  rw [mixV_eq, mixV_eq]
  apply List.ext_getElem
  · simp
  · intro j h1 h2
    simp only [List.getElem_set, List.getElem_map, List.getElem_range]
    by_cases e : p = j
    · subst e; simp
    · rw [if_neg e]
      by_cases h3 : j < p
      · rw [if_pos h3, if_pos (by omega), hj j h3]
      · rw [if_neg h3, if_neg (by omega)]
theorem mixV_same (N p U : Nat) : mixV N p U U = digV N U := by
  rw [mixV_eq, digV_eq]
  congr 1
  funext j
  split <;> rfl
theorem mixV_end (N p V U : Nat) (h : ∀ j, p ≤ j → dg U j = dg V j) : mixV N p V U = digV N V := by
  rw [mixV_eq, digV_eq]
  congr 1
  funext j
  split
  · rfl
  · rw [h j (by omega)]
theorem digV_zero (N : Nat) : digV N 0 = List.replicate N (.int .i64 0) := by
  rw [digV_eq]
  apply List.ext_getElem
  · simp
  · intro j h1 h2
    simp [dg_eq]

noncomputable def vT (x y i k : Nat) : Nat := Classical.choose (⟨x % 65536 ^ i * y + dg x i * (y % 65536 ^ k) * 65536 ^ i, rfl⟩ : ∃ z : Nat, z = x % 65536 ^ i * y + dg x i * (y % 65536 ^ k) * 65536 ^ i)
theorem vT_eq (x y i k : Nat) : vT x y i k = x % 65536 ^ i * y + dg x i * (y % 65536 ^ k) * 65536 ^ i := Classical.choose_spec (⟨x % 65536 ^ i * y + dg x i * (y % 65536 ^ k) * 65536 ^ i, rfl⟩ : ∃ z : Nat, z = x % 65536 ^ i * y + dg x i * (y % 65536 ^ k) * 65536 ^ i)
noncomputable def uT (x y i : Nat) : Nat := Classical.choose (⟨x % 65536 ^ i * y, rfl⟩ : ∃ z : Nat, z = x % 65536 ^ i * y)
theorem uT_eq (x y i : Nat) : uT x y i = x % 65536 ^ i * y := Classical.choose_spec (⟨x % 65536 ^ i * y, rfl⟩ : ∃ z : Nat, z = x % 65536 ^ i * y)
noncomputable def cT (x y i k : Nat) : Nat := Classical.choose (⟨vT x y i k / 65536 ^ (i + k) - uT x y i / 65536 ^ (i + k), rfl⟩ : ∃ z : Nat, z = vT x y i k / 65536 ^ (i + k) - uT x y i / 65536 ^ (i + k))
theorem cT_eq (x y i k : Nat) : cT x y i k = vT x y i k / 65536 ^ (i + k) - uT x y i / 65536 ^ (i + k) := Classical.choose_spec (⟨vT x y i k / 65536 ^ (i + k) - uT x y i / 65536 ^ (i + k), rfl⟩ : ∃ z : Nat, z = vT x y i k / 65536 ^ (i + k) - uT x y i / 65536 ^ (i + k))
theorem vT_0 (x y i : Nat) : vT x y i 0 = uT x y i := by rw [vT_eq, uT_eq, Nat.pow_zero, Nat.mod_one, Nat.mul_zero, Nat.zero_mul, Nat.add_zero]
theorem cT_0 (x y i : Nat) : cT x y i 0 = 0 := by rw [cT_eq, vT_0, Nat.sub_self]
theorem vT_ge (x y i k : Nat) : uT x y i ≤ vT x y i k := by rw [vT_eq, uT_eq]; omega
theorem vT_div (x y i k : Nat) : vT x y i k / 65536 ^ (i + k) = uT x y i / 65536 ^ (i + k) + cT x y i k := by
  have := Nat.div_le_div_right (c := 65536 ^ (i + k)) (vT_ge x y i k)
  rw [cT_eq]; omega
theorem vT_succ (x y i k : Nat) : vT x y i (k + 1) = vT x y i k + dg x i * dg y k * 65536 ^ (i + k) := by
  rw [vT_eq, vT_eq, mod_step, Nat.mul_add, Nat.add_mul, Nat.pow_add, ← Nat.add_assoc]
  congr 1
  rw [Nat.mul_comm (65536 ^ k) (dg y k), Nat.mul_assoc, Nat.mul_assoc, Nat.mul_assoc, Nat.mul_comm (65536 ^ k)]
theorem vT_low (x y i k j : Nat) (h : j < i + k) : dg (vT x y i (k + 1)) j = dg (vT x y i k) j := by
  rw [dg_eq, dg_eq, vT_succ]
  have e : dg x i * dg y k * 65536 ^ (i + k) = 65536 ^ j * (65536 * (dg x i * dg y k * 65536 ^ (i + k - j - 1))) := by
    have : 65536 ^ (i + k) = 65536 ^ j * (65536 * 65536 ^ (i + k - j - 1)) := by
      rw [← Nat.pow_succ', ← Nat.pow_add]; congr 1; omega
    rw [this]
    simp only [Nat.mul_left_comm, Nat.mul_comm, Nat.mul_assoc]
  rw [e, Nat.add_mul_div_left _ _ (bpow_pos j), Nat.add_mul_mod_self_left]
theorem vT_sdiv (x y i k : Nat) : vT x y i (k + 1) / 65536 ^ (i + k) = uT x y i / 65536 ^ (i + k) + cT x y i k + dg x i * dg y k := by
  rw [vT_succ, Nat.add_mul_div_right _ _ (bpow_pos _), vT_div]
theorem vT_digit (x y i k : Nat) : (dg (uT x y i) (i + k) + dg x i * dg y k + cT x y i k) % 65536 = dg (vT x y i (k + 1)) (i + k) := by
  rw [dg_eq (vT x y i (k + 1)), vT_sdiv, dg_eq (uT x y i)]
  generalize uT x y i / 65536 ^ (i + k) = a
  generalize dg x i * dg y k = b
  omega
theorem vT_carry (x y i k : Nat) : (dg (uT x y i) (i + k) + dg x i * dg y k + cT x y i k) / 65536 = cT x y i (k + 1) := by
  have h1 := vT_div x y i (k + 1)
  rw [← Nat.add_assoc, Nat.pow_succ, ← Nat.div_div_eq_div_mul, ← Nat.div_div_eq_div_mul, vT_sdiv] at h1
  rw [dg_eq (uT x y i)]
  generalize uT x y i / 65536 ^ (i + k) = a at *
  generalize dg x i * dg y k = b at *
  omega
theorem mul_digits (x y i k : Nat) : dg x i * dg y k ≤ 4294836225 := Nat.mul_le_mul (show dg x i ≤ 65535 by have := dg_lt x i; omega) (show dg y k ≤ 65535 by have := dg_lt y k; omega)
theorem cT_lt (x y i : Nat) : ∀ k, cT x y i k < 65536
  | 0 => by rw [cT_0]; omega
  | k + 1 => by
    have h1 := cT_lt x y i k
    have h2 := vT_carry x y i k
    have h3 := dg_lt (uT x y i) (i + k)
    have h4 := mul_digits x y i k
    omega
theorem vT_full {x y i k m : Nat} (hy : y < 65536 ^ m) (h : m ≤ k) : vT x y i k = uT x y (i + 1) := by
  rw [vT_eq, uT_eq, mod_step, Nat.add_mul, Nat.mod_eq_of_lt (Nat.lt_of_lt_of_le hy (pow_mono h))]
  congr 1
  rw [Nat.mul_comm, ← Nat.mul_assoc]
theorem cT_last {x y i m : Nat} (hy : y < 65536 ^ m) : cT x y i (m + 1) = 0 := by
  rw [cT_eq, vT_full hy (by omega)]
  have h1 : uT x y (i + 1) < 65536 ^ (i + (m + 1)) := by
    have e : 65536 ^ (i + (m + 1)) = 65536 ^ (i + 1) * 65536 ^ m := by rw [← Nat.pow_add]; congr 1; omega
    rw [uT_eq, e]
    exact Nat.mul_lt_mul_of_lt_of_lt (Nat.mod_lt _ (bpow_pos _)) hy
  rw [Nat.div_eq_of_lt h1, Nat.zero_sub]
theorem vT_high {x y i k m : Nat} (hy : y < 65536 ^ m) (h : m ≤ k) (hc : cT x y i k = 0) (j : Nat) (hj : i + k ≤ j) : dg (uT x y i) j = dg (uT x y (i + 1)) j := by
  have h1 := vT_div x y i k
  rw [hc, Nat.add_zero, vT_full hy h] at h1
  rw [dg_eq, dg_eq, show j = (i + k) + (j - (i + k)) by omega, Nat.pow_add, ← Nat.div_div_eq_div_mul, ← Nat.div_div_eq_div_mul, h1]
theorem uT_0 (x y : Nat) : uT x y 0 = 0 := by rw [uT_eq, Nat.pow_zero, Nat.mod_one, Nat.zero_mul]
theorem uT_end {x y n : Nat} (hx : x < 65536 ^ n) : uT x y n = x * y := by rw [uT_eq, Nat.mod_eq_of_lt hx]

/-! ### The walk -/
noncomputable def timesG : List DV → Option RV
  | [.vec xs, .vec ys] => match toD xs, toD ys with
    | some (n, x), some (m, y) => if n + m ≤ 1000 then some (.one (.vec (digV (n + m + 1) (x * y)))) else none
    | _, _ => none
  | _ => none
noncomputable def tmS (n x m y i : Nat) : St := ⟨[(19, .pl (.int .i64 (i : Nat))), (18, .pl (.int .i64 (n : Nat))), (5, .sl 16 0 0 (n + m + 1)), (0, .vec false (digV n x)), (1, .vec false (digV m y))], [(16, ⟨0, 3, digV (n + m + 1) (uT x y i)⟩)]⟩
noncomputable def tnS (n x m y i k : Nat) : St := ⟨[(8, .pl (.int .i64 (k : Nat))), (7, .pl (.int .i64 (cT x y i k : Nat))), (6, .pl (.int .i64 (i : Nat))), (19, .pl (.int .i64 (i : Nat))), (18, .pl (.int .i64 (n : Nat))), (5, .sl 16 0 0 (n + m + 1)), (0, .vec false (digV n x)), (1, .vec false (digV m y))], [(16, ⟨0, 3, mixV (n + m + 1) (i + k) (vT x y i k) (uT x y i)⟩)]⟩

set_option maxHeartbeats 4000000 in
theorem times_walk (n x m y : Nat) (hx : x < 65536 ^ n) (hy : y < 65536 ^ m) (hb : n + m ≤ 1000) : Spec Try.prog 62 [.vec (digV n x), .vec (digV m y)] (.one (.vec (digV (n + m + 1) (x * y)))) := by
  have hΓ : Env.ok [(73, digitG)] Try.prog := ok_cons digit_ok (ok_nil _)
  have tx := toD_digV hx
  have ty := toD_digV hy
  have lx := digV_len n x
  have ly := digV_len m y
  have w1 : IntKind.i64.wrap ((n : Int) + (m : Int)) = ((n + m : Nat) : Int) := by rw [i64_in (by omega) (by omega)]; omega
  have w2 : IntKind.i64.wrap (((n + m : Nat) : Int) + 1) = ((n + m + 1 : Nat) : Int) := by rw [i64_in (by omega) (by omega)]; omega
  have w3 : (0 : Int) ≤ ((n + m + 1 : Nat) : Int) := by omega
  have hz := digV_zero (n + m + 1)
  have hu0 := uT_0 x y
  refine Spec.of_vx hΓ follows_mixed Try.func62 rfl (by kernel_rfl) (T := []) (by simp [Try.ntmps62]) (by kernel_rfl) rfl Try.ntmps62 (res := [.tmp 4]) rfl ?_
  intro W
  simp -implicitDefEqProofs (maxSteps := 10000000) only [vy_succ, vmB, slim, slimOp, gO, gSO, qSO, quietOp, cS, qSB, eK, calmOp, guardS, gK, qK, putK, plK, dOk, St.ev, St.get, St.mem, St.set, St.setm, St.put, lookA, look, newK, nextver, initT, seqE, blockQ, bodyQ, resK, retV, AV.rdv, agg_uV, ↓binK, ↓intK, unK, ↓loadK, ↓withKey_eq, ↓idxAddrK, ↓indexK, ↓partK, ↓fieldK, ↓fieldAddrK, ↓convK, ↓callK, wrG, updK, ↓lenK, ↓mmK, ↓appK, ↓copyK, ↓sliceK, ↓toArrK, nilK, evs, plains, seqParts, capsOf, capsD, AV.dv, AV.cont, ↓buildV_eq, fillL, placesOf, ↓storeK, wrL, RV.av, DV.av, List.set, Nat.reduceEqDiff, Nat.reduceAdd, Nat.reduceSub, Nat.reduceMul, Nat.reduceLT, Nat.reduceLeDiff, Nat.reduceMod, Nat.reduceDiv, Int.reduceLT, Int.reduceLE, Int.reduceToNat, ↓reduceIte, reduceCtorEq, Value.oneCell', Int.reduceAdd, Int.reduceSub, Int.reduceMod, Int.reduceMul, Int.reduceNeg, Int.reduceBEq, Int.reduceBNe, Int.reduceTDiv, Int.reduceTMod, Int.reduceEq, tyB, Try.underlying13, Try.underlying25, Try.underlying26, Try.underlying39, Try.underlying40, Try.underlying72, Try.underlying73, lx, ly, w1, w2, w3, Int.toNat_natCast]
  refine ⟨by omega, by omega, ?_⟩
  refine VT_loop hΓ follows_mixed (tmS n x m y) (fun i => i ≤ n) (fun i => n - i) 0 (Sub.of (by simp -implicitDefEqProofs only [subT, tmS, look, lookA, newK, St.get, St.mem, List.map_cons, List.map_nil, List.all_cons, List.all_nil, List.length_cons, List.length_nil, List.getElem?_cons_zero, List.getElem?_cons_succ, Nat.reduceEqDiff, Nat.reduceAdd, Option.some.injEq, ↓reduceIte, true_and, and_true, reduceCtorEq, beq_self_eq_true, Bool.and_true, ne_eq, not_false_eq_true, not_true_eq_false, Nat.add_zero, Nat.zero_add, Nat.reduceSub, Nat.reduceMul, Int.cast_ofNat_Int, Int.reduceAdd, Int.reduceSub, Int.reduceMul, Int.natCast_zero]) (by simp -implicitDefEqProofs only [subM, tmS, hu0, hz, look, lookA, newK, St.get, St.mem, List.map_cons, List.map_nil, List.all_cons, List.all_nil, List.length_cons, List.length_nil, List.getElem?_cons_zero, List.getElem?_cons_succ, Nat.reduceEqDiff, Nat.reduceAdd, Option.some.injEq, ↓reduceIte, true_and, and_true, reduceCtorEq, beq_self_eq_true, Bool.and_true, ne_eq, not_false_eq_true, not_true_eq_false, Nat.add_zero, Nat.zero_add, Nat.reduceSub, Nat.reduceMul, Int.cast_ofNat_Int, Int.reduceAdd, Int.reduceSub, Int.reduceMul, Int.natCast_zero]) rfl) (by omega) ?_
  intro i hi
  have li := digV_len (n + m + 1) (uT x y i)
  by_cases hlt : i < n
  · have r1 : decide ((i : Int) < (n : Int)) = true := decide_eq_true (by omega)
    have r2 : IntKind.i64.wrap ((i : Int) + 1) = (i : Int) + 1 := i64_in (by omega) (by omega)
    have r3 := digV_get n x i hlt
    have r4 : (0 : Int) ≤ (i : Int) := by omega
    have r5 : (i : Int) < (n : Int) := by omega
    have hc0 := cT_0 x y i
    have hv0 := vT_0 x y i
    have hms := mixV_same (n + m + 1) i (uT x y i)
    simp -implicitDefEqProofs (maxSteps := 10000000) only [tmS, lx, ly, li, r1, vy_succ, vmB, slim, slimOp, gO, gSO, qSO, quietOp, cS, qSB, eK, calmOp, guardS, gK, qK, putK, plK, dOk, St.ev, St.get, St.mem, St.set, St.setm, St.put, lookA, look, newK, nextver, initT, seqE, blockQ, bodyQ, resK, retV, AV.rdv, agg_uV, ↓binK, ↓intK, unK, ↓loadK, ↓withKey_eq, ↓idxAddrK, ↓indexK, ↓partK, ↓fieldK, ↓fieldAddrK, ↓convK, ↓callK, wrG, updK, ↓lenK, ↓mmK, ↓appK, ↓copyK, ↓sliceK, ↓toArrK, nilK, evs, plains, seqParts, capsOf, capsD, AV.dv, AV.cont, ↓buildV_eq, fillL, placesOf, ↓storeK, wrL, RV.av, DV.av, List.set, Nat.reduceEqDiff, Nat.reduceAdd, Nat.reduceSub, Nat.reduceMul, Nat.reduceLT, Nat.reduceLeDiff, Nat.reduceMod, Nat.reduceDiv, Int.reduceLT, Int.reduceLE, Int.reduceToNat, ↓reduceIte, reduceCtorEq, Value.oneCell', Int.reduceAdd, Int.reduceSub, Int.reduceMod, Int.reduceMul, Int.reduceNeg, Int.reduceBEq, Int.reduceBNe, Int.reduceTDiv, Int.reduceTMod, Int.reduceEq, tyB, Try.underlying13, Try.underlying25, Try.underlying26, Try.underlying39, Try.underlying40, Try.underlying72, Try.underlying73]
    refine VT_loop hΓ follows_mixed (tnS n x m y i) (fun k => k ≤ m ∨ (k = m + 1)) (fun k => m + 1 - k) 0 (Sub.of (by simp -implicitDefEqProofs only [subT, tnS, hc0, look, lookA, newK, St.get, St.mem, List.map_cons, List.map_nil, List.all_cons, List.all_nil, List.length_cons, List.length_nil, List.getElem?_cons_zero, List.getElem?_cons_succ, Nat.reduceEqDiff, Nat.reduceAdd, Option.some.injEq, ↓reduceIte, true_and, and_true, reduceCtorEq, beq_self_eq_true, Bool.and_true, ne_eq, not_false_eq_true, not_true_eq_false, Nat.add_zero, Nat.zero_add, Nat.reduceSub, Nat.reduceMul, Int.cast_ofNat_Int, Int.reduceAdd, Int.reduceSub, Int.reduceMul, Int.natCast_zero]) (by simp -implicitDefEqProofs only [subM, tnS, hv0, hms, look, lookA, newK, St.get, St.mem, List.map_cons, List.map_nil, List.all_cons, List.all_nil, List.length_cons, List.length_nil, List.getElem?_cons_zero, List.getElem?_cons_succ, Nat.reduceEqDiff, Nat.reduceAdd, Option.some.injEq, ↓reduceIte, true_and, and_true, reduceCtorEq, beq_self_eq_true, Bool.and_true, ne_eq, not_false_eq_true, not_true_eq_false, Nat.add_zero, Nat.zero_add, Nat.reduceSub, Nat.reduceMul, Int.cast_ofNat_Int, Int.reduceAdd, Int.reduceSub, Int.reduceMul, Int.natCast_zero]) rfl) (by omega) ?_
    intro k hk
    have lk := mixV_len (n + m + 1) (i + k) (vT x y i k) (uT x y i)
    have hck := cT_lt x y i k
    by_cases hgo : k < m ∨ 0 < cT x y i k
    · have hkm : k ≤ m := by
        rcases hk with h | h
        · exact h
        · exfalso; subst h; rw [cT_last hy] at hgo; omega
      have hd1 := dg_lt (uT x y i) (i + k)
      have hd2 := mul_digits x y i k
      have hsd := vT_digit x y i k
      have hsc := vT_carry x y i k
      have hget := mixV_get (n + m + 1) (i + k) (vT x y i k) (uT x y i) (by omega)
      have hset := mixV_set (n + m + 1) (i + k) (vT x y i k) (vT x y i (k + 1)) (uT x y i) (by omega) (fun j hj => vT_low x y i k j hj)
      have u1 : IntKind.i64.wrap ((i : Int) + (k : Int)) = ((i + k : Nat) : Int) := by rw [i64_in (by omega) (by omega)]; omega
      have u2 : IntKind.i64.wrap (((dg x i : Nat) : Int) * ((dg y k : Nat) : Int)) = ((dg x i * dg y k : Nat) : Int) := by
        have e : ((dg x i : Nat) : Int) * ((dg y k : Nat) : Int) = ((dg x i * dg y k : Nat) : Int) := by simp
        rw [e, i64_in (by omega) (by omega)]
      generalize dg x i * dg y k = pr at *
      have u3 : IntKind.i64.wrap (((dg (uT x y i) (i + k) : Nat) : Int) + ((pr : Nat) : Int)) = ((dg (uT x y i) (i + k) + pr : Nat) : Int) := by rw [i64_in (by omega) (by omega)]; omega
      have u4 : IntKind.i64.wrap (((dg (uT x y i) (i + k) + pr : Nat) : Int) + ((cT x y i k : Nat) : Int)) = ((dg (uT x y i) (i + k) + pr + cT x y i k : Nat) : Int) := by rw [i64_in (by omega) (by omega)]; omega
      generalize dg (uT x y i) (i + k) + pr + cT x y i k = s at *
      have u5 : ((s : Nat) : Int).tmod 65536 = ((dg (vT x y i (k + 1)) (i + k) : Nat) : Int) := by rw [Int.tmod_eq_emod_of_nonneg (by omega), ← hsd]; omega
      have hcn := cT_lt x y i (k + 1)
      have u6 : IntKind.i64.wrap (((s : Nat) : Int).tdiv 65536) = ((cT x y i (k + 1) : Nat) : Int) := by
        rw [Int.tdiv_eq_ediv_of_nonneg (by omega), ← hsc, i64_in (by omega) (by omega)]; omega
      have u7 : IntKind.i64.wrap ((k : Int) + 1) = (k : Int) + 1 := i64_in (by omega) (by omega)
      have u8 : (0 : Int) ≤ (k : Int) := by omega
      have u9 : (0 : Int) ≤ ((i + k : Nat) : Int) := by omega
      have u10 : ((i + k : Nat) : Int) < ((n + m + 1 : Nat) : Int) := by omega
      have u11 : i + k < n + m + 1 := by omega
      by_cases c1 : k < m
      · have g1 : decide ((k : Int) < (m : Int)) = true := decide_eq_true (by omega)
        simp -implicitDefEqProofs (maxSteps := 10000000) only [tnS, digitG, lx, ly, tx, ty, lk, r3, r4, r5, u1, u2, u3, u4, u5, u6, u7, u8, u9, u10, u11, g1, hget, hset, Int.toNat_natCast, Nat.mul_one, vy_succ, vmB, slim, slimOp, gO, gSO, qSO, quietOp, cS, qSB, eK, calmOp, guardS, gK, qK, putK, plK, dOk, St.ev, St.get, St.mem, St.set, St.setm, St.put, lookA, look, newK, nextver, initT, seqE, blockQ, bodyQ, resK, retV, AV.rdv, agg_uV, ↓binK, ↓intK, unK, ↓loadK, ↓withKey_eq, ↓idxAddrK, ↓indexK, ↓partK, ↓fieldK, ↓fieldAddrK, ↓convK, ↓callK, wrG, updK, ↓lenK, ↓mmK, ↓appK, ↓copyK, ↓sliceK, ↓toArrK, nilK, evs, plains, seqParts, capsOf, capsD, AV.dv, AV.cont, ↓buildV_eq, fillL, placesOf, ↓storeK, wrL, RV.av, DV.av, List.set, Nat.reduceEqDiff, Nat.reduceAdd, Nat.reduceSub, Nat.reduceMul, Nat.reduceLT, Nat.reduceLeDiff, Nat.reduceMod, Nat.reduceDiv, Int.reduceLT, Int.reduceLE, Int.reduceToNat, ↓reduceIte, reduceCtorEq, Value.oneCell', Int.reduceAdd, Int.reduceSub, Int.reduceMod, Int.reduceMul, Int.reduceNeg, Int.reduceBEq, Int.reduceBNe, Int.reduceTDiv, Int.reduceTMod, Int.reduceEq, tyB, Try.underlying13, Try.underlying25, Try.underlying26, Try.underlying39, Try.underlying40, Try.underlying72, Try.underlying73]
        exact ⟨by omega, k + 1, by omega, (by show m + 1 - (k + 1) < m + 1 - k; omega), Sub.of (by simp -implicitDefEqProofs only [subT, tnS, look, lookA, newK, St.get, St.mem, List.map_cons, List.map_nil, List.all_cons, List.all_nil, List.length_cons, List.length_nil, List.getElem?_cons_zero, List.getElem?_cons_succ, Nat.reduceEqDiff, Nat.reduceAdd, Option.some.injEq, ↓reduceIte, true_and, and_true, reduceCtorEq, beq_self_eq_true, Bool.and_true, ne_eq, not_false_eq_true, not_true_eq_false, Nat.add_zero, Nat.zero_add, Nat.reduceSub, Nat.reduceMul, Int.cast_ofNat_Int, Int.reduceAdd, Int.reduceSub, Int.reduceMul, Int.natCast_add, Int.natCast_one]) (by simp -implicitDefEqProofs only [subM, tnS, ← Nat.add_assoc, look, lookA, newK, St.get, St.mem, List.map_cons, List.map_nil, List.all_cons, List.all_nil, List.length_cons, List.length_nil, List.getElem?_cons_zero, List.getElem?_cons_succ, Nat.reduceEqDiff, Nat.reduceAdd, Option.some.injEq, ↓reduceIte, true_and, and_true, reduceCtorEq, beq_self_eq_true, Bool.and_true, ne_eq, not_false_eq_true, not_true_eq_false, Nat.add_zero, Nat.zero_add, Nat.reduceSub, Nat.reduceMul, Int.cast_ofNat_Int, Int.reduceAdd, Int.reduceSub, Int.reduceMul]) rfl⟩
      · have g1 : decide ((k : Int) < (m : Int)) = false := decide_eq_false (by omega)
        have g2 : decide (0 < ((cT x y i k : Nat) : Int)) = true := decide_eq_true (by omega)
        simp -implicitDefEqProofs (maxSteps := 10000000) only [tnS, digitG, lx, ly, tx, ty, lk, r3, r4, r5, u1, u2, u3, u4, u5, u6, u7, u8, u9, u10, u11, g1, g2, hget, hset, Int.toNat_natCast, Nat.mul_one, vy_succ, vmB, slim, slimOp, gO, gSO, qSO, quietOp, cS, qSB, eK, calmOp, guardS, gK, qK, putK, plK, dOk, St.ev, St.get, St.mem, St.set, St.setm, St.put, lookA, look, newK, nextver, initT, seqE, blockQ, bodyQ, resK, retV, AV.rdv, agg_uV, ↓binK, ↓intK, unK, ↓loadK, ↓withKey_eq, ↓idxAddrK, ↓indexK, ↓partK, ↓fieldK, ↓fieldAddrK, ↓convK, ↓callK, wrG, updK, ↓lenK, ↓mmK, ↓appK, ↓copyK, ↓sliceK, ↓toArrK, nilK, evs, plains, seqParts, capsOf, capsD, AV.dv, AV.cont, ↓buildV_eq, fillL, placesOf, ↓storeK, wrL, RV.av, DV.av, List.set, Nat.reduceEqDiff, Nat.reduceAdd, Nat.reduceSub, Nat.reduceMul, Nat.reduceLT, Nat.reduceLeDiff, Nat.reduceMod, Nat.reduceDiv, Int.reduceLT, Int.reduceLE, Int.reduceToNat, ↓reduceIte, reduceCtorEq, Value.oneCell', Int.reduceAdd, Int.reduceSub, Int.reduceMod, Int.reduceMul, Int.reduceNeg, Int.reduceBEq, Int.reduceBNe, Int.reduceTDiv, Int.reduceTMod, Int.reduceEq, tyB, Try.underlying13, Try.underlying25, Try.underlying26, Try.underlying39, Try.underlying40, Try.underlying72, Try.underlying73]
        exact ⟨by omega, k + 1, by omega, (by show m + 1 - (k + 1) < m + 1 - k; omega), Sub.of (by simp -implicitDefEqProofs only [subT, tnS, look, lookA, newK, St.get, St.mem, List.map_cons, List.map_nil, List.all_cons, List.all_nil, List.length_cons, List.length_nil, List.getElem?_cons_zero, List.getElem?_cons_succ, Nat.reduceEqDiff, Nat.reduceAdd, Option.some.injEq, ↓reduceIte, true_and, and_true, reduceCtorEq, beq_self_eq_true, Bool.and_true, ne_eq, not_false_eq_true, not_true_eq_false, Nat.add_zero, Nat.zero_add, Nat.reduceSub, Nat.reduceMul, Int.cast_ofNat_Int, Int.reduceAdd, Int.reduceSub, Int.reduceMul, Int.natCast_add, Int.natCast_one]) (by simp -implicitDefEqProofs only [subM, tnS, ← Nat.add_assoc, look, lookA, newK, St.get, St.mem, List.map_cons, List.map_nil, List.all_cons, List.all_nil, List.length_cons, List.length_nil, List.getElem?_cons_zero, List.getElem?_cons_succ, Nat.reduceEqDiff, Nat.reduceAdd, Option.some.injEq, ↓reduceIte, true_and, and_true, reduceCtorEq, beq_self_eq_true, Bool.and_true, ne_eq, not_false_eq_true, not_true_eq_false, Nat.add_zero, Nat.zero_add, Nat.reduceSub, Nat.reduceMul, Int.cast_ofNat_Int, Int.reduceAdd, Int.reduceSub, Int.reduceMul]) rfl⟩
    · have g1 : decide ((k : Int) < (m : Int)) = false := decide_eq_false (by omega)
      have g2 : decide (0 < ((cT x y i k : Nat) : Int)) = false := decide_eq_false (by omega)
      have hkm : m ≤ k := by omega
      have hend : mixV (n + m + 1) (i + k) (vT x y i k) (uT x y i) = digV (n + m + 1) (uT x y (i + 1)) := by
        rw [vT_full hy hkm]
        exact mixV_end _ _ _ _ (fun j hj => vT_high hy hkm (by omega) j hj)
      simp -implicitDefEqProofs (maxSteps := 10000000) only [tnS, lx, ly, lk, r2, g1, g2, vy_succ, vmB, slim, slimOp, gO, gSO, qSO, quietOp, cS, qSB, eK, calmOp, guardS, gK, qK, putK, plK, dOk, St.ev, St.get, St.mem, St.set, St.setm, St.put, lookA, look, newK, nextver, initT, seqE, blockQ, bodyQ, resK, retV, AV.rdv, agg_uV, ↓binK, ↓intK, unK, ↓loadK, ↓withKey_eq, ↓idxAddrK, ↓indexK, ↓partK, ↓fieldK, ↓fieldAddrK, ↓convK, ↓callK, wrG, updK, ↓lenK, ↓mmK, ↓appK, ↓copyK, ↓sliceK, ↓toArrK, nilK, evs, plains, seqParts, capsOf, capsD, AV.dv, AV.cont, ↓buildV_eq, fillL, placesOf, ↓storeK, wrL, RV.av, DV.av, List.set, Nat.reduceEqDiff, Nat.reduceAdd, Nat.reduceSub, Nat.reduceMul, Nat.reduceLT, Nat.reduceLeDiff, Nat.reduceMod, Nat.reduceDiv, Int.reduceLT, Int.reduceLE, Int.reduceToNat, ↓reduceIte, reduceCtorEq, Value.oneCell', Int.reduceAdd, Int.reduceSub, Int.reduceMod, Int.reduceMul, Int.reduceNeg, Int.reduceBEq, Int.reduceBNe, Int.reduceTDiv, Int.reduceTMod, Int.reduceEq, tyB, Try.underlying13, Try.underlying25, Try.underlying26, Try.underlying39, Try.underlying40, Try.underlying72, Try.underlying73]
      exact ⟨i + 1, by omega, (by show n - (i + 1) < n - i; omega), Sub.of (by simp -implicitDefEqProofs only [subT, tmS, look, lookA, newK, St.get, St.mem, List.map_cons, List.map_nil, List.all_cons, List.all_nil, List.length_cons, List.length_nil, List.getElem?_cons_zero, List.getElem?_cons_succ, Nat.reduceEqDiff, Nat.reduceAdd, Option.some.injEq, ↓reduceIte, true_and, and_true, reduceCtorEq, beq_self_eq_true, Bool.and_true, ne_eq, not_false_eq_true, not_true_eq_false, Nat.add_zero, Nat.zero_add, Nat.reduceSub, Nat.reduceMul, Int.cast_ofNat_Int, Int.reduceAdd, Int.reduceSub, Int.reduceMul, Int.natCast_add, Int.natCast_one]) (by simp -implicitDefEqProofs only [subM, tmS, hend, look, lookA, newK, St.get, St.mem, List.map_cons, List.map_nil, List.all_cons, List.all_nil, List.length_cons, List.length_nil, List.getElem?_cons_zero, List.getElem?_cons_succ, Nat.reduceEqDiff, Nat.reduceAdd, Option.some.injEq, ↓reduceIte, true_and, and_true, reduceCtorEq, beq_self_eq_true, Bool.and_true, ne_eq, not_false_eq_true, not_true_eq_false, Nat.add_zero, Nat.zero_add, Nat.reduceSub, Nat.reduceMul, Int.cast_ofNat_Int, Int.reduceAdd, Int.reduceSub, Int.reduceMul]) rfl⟩
  · have e : i = n := by omega
    subst e
    have r1 : decide ((i : Int) < (i : Int)) = false := decide_eq_false (by omega)
    have ht : (digV (i + m + 1) (x * y)).take (i + m + 1) = digV (i + m + 1) (x * y) := List.take_of_length_le (by rw [digV_len]; omega)
    have hue := uT_end (y := y) hx
    have lz := digV_len (i + m + 1) (x * y)
    simp -implicitDefEqProofs (maxSteps := 10000000) only [vy_succ, vmB, slim, slimOp, gO, gSO, qSO, quietOp, cS, qSB, eK, calmOp, guardS, gK, qK, putK, plK, dOk, St.ev, St.get, St.mem, St.set, St.setm, St.put, lookA, look, newK, nextver, initT, seqE, blockQ, bodyQ, resK, retV, AV.rdv, agg_uV, ↓binK, ↓intK, unK, ↓loadK, ↓withKey_eq, ↓idxAddrK, ↓indexK, ↓partK, ↓fieldK, ↓fieldAddrK, ↓convK, ↓callK, wrG, updK, ↓lenK, ↓mmK, ↓appK, ↓copyK, ↓sliceK, ↓toArrK, nilK, evs, plains, seqParts, capsOf, capsD, AV.dv, AV.cont, ↓buildV_eq, fillL, placesOf, ↓storeK, wrL, RV.av, DV.av, List.set, Nat.reduceEqDiff, Nat.reduceAdd, Nat.reduceSub, Nat.reduceMul, Nat.reduceLT, Nat.reduceLeDiff, Nat.reduceMod, Nat.reduceDiv, Int.reduceLT, Int.reduceLE, Int.reduceToNat, ↓reduceIte, reduceCtorEq, Value.oneCell', Int.reduceAdd, Int.reduceSub, Int.reduceMod, Int.reduceMul, Int.reduceNeg, Int.reduceBEq, Int.reduceBNe, Int.reduceTDiv, Int.reduceTMod, Int.reduceEq, tyB, Try.underlying13, Try.underlying25, Try.underlying26, Try.underlying39, Try.underlying40, Try.underlying72, Try.underlying73, tmS, lx, ly, lz, hue, r1, ht]

theorem times_ok : ∀ ds r, timesG ds = some r → Spec Try.prog 62 ds r := by
  intro ds r h
  unfold timesG at h
  split at h
  case h_2 => cases h
  rename_i xs ys
  split at h
  case h_2 => cases h
  rename_i n x m y hx hy
  split at h
  case isFalse => cases h
  rename_i hb
  cases h
  obtain ⟨rfl, hx'⟩ := toD_out hx
  obtain ⟨rfl, hy'⟩ := toD_out hy
  exact times_walk n x m y hx' hy' hb
end Go.Vm
