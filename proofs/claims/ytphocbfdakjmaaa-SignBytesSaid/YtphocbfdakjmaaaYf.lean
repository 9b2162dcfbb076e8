/- The laws on addresses and bytes, as the machine walks them. No condition. -/
import Derived.Test.YtphocbfdakjmaaaYd
set_option maxRecDepth 100000
set_option linter.unusedSimpArgs false
set_option linter.unusedVariables false
namespace Go.Vm
open Go Go.RowKit Go.Proofs Go.Ec

set_option maxHeartbeats 4000000 in
theorem addr_law (a x y : Nat) (b : Bool) (ha : a < full) (hx : x < full) (hy : y < full) : Spec Try.prog 3 [.pl (uV a), .pl (ptV x y b)] (.one (.pl (.bool true))) := by
  have hΓ : Env.ok [(6, saG), (7, soG), (8, onG), (9, raG), (10, btG), (11, slG), (13, ptBG), (12, tiG)] Try.prog :=
    ok_cons sa_ok (ok_cons so_ok (ok_cons ron_ok (ok_cons ra_ok (ok_cons rbt_ok (ok_cons sl_ok (ok_cons ptB_ok (ok_cons tim_ok (ok_nil _))))))))
  have ta := toN_lt ha
  have ma : a % full = a := Nat.mod_eq_of_lt ha
  have t := fun b => toR_lt (b := b) hx hy
  have e : ptOf bX bY false = base0 := rfl
  have hb : ∀ l : List UInt8, (bstr l).toList = l := bstr_toList
  have q2 : (⟨#[]⟩ : ByteArray).toList = [] := by rw [ba_toList]
  refine Spec.of_vx hΓ follows_mixed Try.func3 rfl (by kernel_rfl) (T := [(10, .alc)]) (by simp [Try.ntmps3]) (by kernel_rfl) rfl Try.ntmps3 (res := [.tmp 4]) rfl ?_
  intro W
  have so1 : soB x y true = false := rfl
  have so2 : ∀ c, onB x y false = c → soB x y false = c := fun c h => by unfold soB; rw [h]; rfl
  have hr := toR_p (nsm a base0)
  cases h : btB a with
  | false =>
    cases b with
    | true => simp -implicitDefEqProofs (maxSteps := 10000000) only [vy_succ, vmB, slim, slimOp, gO, gSO, qSO, quietOp, cS, qSB, eK, calmOp, guardS, gK, qK, putK, plK, dOk, St.ev, St.get, St.mem, St.set, St.setm, St.put, lookA, look, newK, nextver, initT, seqE, blockQ, bodyQ, resK, retV, AV.rdv, agg_uV, ↓binK, ↓intK, unK, ↓loadK, ↓withKey_eq, ↓idxAddrK, ↓indexK, ↓partK, ↓fieldK, ↓fieldAddrK, ↓convK, ↓callK, wrG, updK, ↓lenK, ↓mmK, ↓appK, ↓copyK, ↓sliceK, ↓toArrK, nilK, evs, plains, seqParts, capsOf, capsD, AV.dv, AV.cont, ↓buildV_eq, fillL, placesOf, ↓storeK, wrL, RV.av, DV.av, List.set, Nat.reduceEqDiff, Nat.reduceAdd, Nat.reduceSub, Nat.reduceMul, Nat.reduceLT, Nat.reduceLeDiff, Nat.reduceMod, Nat.reduceDiv, Int.reduceLT, Int.reduceLE, Int.reduceToNat, ↓reduceIte, reduceCtorEq, Value.oneCell', Int.reduceAdd, Int.reduceSub, Int.reduceMod, Int.reduceMul, Int.reduceNeg, Int.reduceBEq, Int.reduceBNe, Int.reduceTDiv, Int.reduceTMod, Int.reduceEq, tyB, Try.underlying13, Try.underlying25, Try.underlying26, Try.underlying39, Try.underlying40, Try.underlying72, Try.underlying73, cells_pt, agg_pt, isNil_pt, ptV_lit, cells_w, agg_w, isNil_w, valm, ↓binK_eqPt, ↓binK_eqU, ↓binK_neU, eqU_v, saG, saR, soG, soR, onG, raG, btG, slG, ptBG, tiG, ta, ma, t, e, hb, q2, h, so1]
    | false =>
      cases h1 : onB x y false with
      | false => simp -implicitDefEqProofs (maxSteps := 10000000) only [vy_succ, vmB, slim, slimOp, gO, gSO, qSO, quietOp, cS, qSB, eK, calmOp, guardS, gK, qK, putK, plK, dOk, St.ev, St.get, St.mem, St.set, St.setm, St.put, lookA, look, newK, nextver, initT, seqE, blockQ, bodyQ, resK, retV, AV.rdv, agg_uV, ↓binK, ↓intK, unK, ↓loadK, ↓withKey_eq, ↓idxAddrK, ↓indexK, ↓partK, ↓fieldK, ↓fieldAddrK, ↓convK, ↓callK, wrG, updK, ↓lenK, ↓mmK, ↓appK, ↓copyK, ↓sliceK, ↓toArrK, nilK, evs, plains, seqParts, capsOf, capsD, AV.dv, AV.cont, ↓buildV_eq, fillL, placesOf, ↓storeK, wrL, RV.av, DV.av, List.set, Nat.reduceEqDiff, Nat.reduceAdd, Nat.reduceSub, Nat.reduceMul, Nat.reduceLT, Nat.reduceLeDiff, Nat.reduceMod, Nat.reduceDiv, Int.reduceLT, Int.reduceLE, Int.reduceToNat, ↓reduceIte, reduceCtorEq, Value.oneCell', Int.reduceAdd, Int.reduceSub, Int.reduceMod, Int.reduceMul, Int.reduceNeg, Int.reduceBEq, Int.reduceBNe, Int.reduceTDiv, Int.reduceTMod, Int.reduceEq, tyB, Try.underlying13, Try.underlying25, Try.underlying26, Try.underlying39, Try.underlying40, Try.underlying72, Try.underlying73, cells_pt, agg_pt, isNil_pt, ptV_lit, cells_w, agg_w, isNil_w, valm, ↓binK_eqPt, ↓binK_eqU, ↓binK_neU, eqU_v, saG, saR, soG, soR, onG, raG, btG, slG, ptBG, tiG, ta, ma, t, e, hb, q2, h, h1, so2 _ h1]
      | true => simp -implicitDefEqProofs (maxSteps := 10000000) only [vy_succ, vmB, slim, slimOp, gO, gSO, qSO, quietOp, cS, qSB, eK, calmOp, guardS, gK, qK, putK, plK, dOk, St.ev, St.get, St.mem, St.set, St.setm, St.put, lookA, look, newK, nextver, initT, seqE, blockQ, bodyQ, resK, retV, AV.rdv, agg_uV, ↓binK, ↓intK, unK, ↓loadK, ↓withKey_eq, ↓idxAddrK, ↓indexK, ↓partK, ↓fieldK, ↓fieldAddrK, ↓convK, ↓callK, wrG, updK, ↓lenK, ↓mmK, ↓appK, ↓copyK, ↓sliceK, ↓toArrK, nilK, evs, plains, seqParts, capsOf, capsD, AV.dv, AV.cont, ↓buildV_eq, fillL, placesOf, ↓storeK, wrL, RV.av, DV.av, List.set, Nat.reduceEqDiff, Nat.reduceAdd, Nat.reduceSub, Nat.reduceMul, Nat.reduceLT, Nat.reduceLeDiff, Nat.reduceMod, Nat.reduceDiv, Int.reduceLT, Int.reduceLE, Int.reduceToNat, ↓reduceIte, reduceCtorEq, Value.oneCell', Int.reduceAdd, Int.reduceSub, Int.reduceMod, Int.reduceMul, Int.reduceNeg, Int.reduceBEq, Int.reduceBNe, Int.reduceTDiv, Int.reduceTMod, Int.reduceEq, tyB, Try.underlying13, Try.underlying25, Try.underlying26, Try.underlying39, Try.underlying40, Try.underlying72, Try.underlying73, cells_pt, agg_pt, isNil_pt, ptV_lit, cells_w, agg_w, isNil_w, valm, ↓binK_eqPt, ↓binK_eqU, ↓binK_neU, eqU_v, saG, saR, soG, soR, onG, raG, btG, slG, ptBG, tiG, ta, ma, t, e, hb, q2, h, h1, so2 _ h1]
  | true =>
    have s1 := sec_rb h
    have s2 := sec_on h
    cases b with
    | true => simp -implicitDefEqProofs (maxSteps := 10000000) only [vy_succ, vmB, slim, slimOp, gO, gSO, qSO, quietOp, cS, qSB, eK, calmOp, guardS, gK, qK, putK, plK, dOk, St.ev, St.get, St.mem, St.set, St.setm, St.put, lookA, look, newK, nextver, initT, seqE, blockQ, bodyQ, resK, retV, AV.rdv, agg_uV, ↓binK, ↓intK, unK, ↓loadK, ↓withKey_eq, ↓idxAddrK, ↓indexK, ↓partK, ↓fieldK, ↓fieldAddrK, ↓convK, ↓callK, wrG, updK, ↓lenK, ↓mmK, ↓appK, ↓copyK, ↓sliceK, ↓toArrK, nilK, evs, plains, seqParts, capsOf, capsD, AV.dv, AV.cont, ↓buildV_eq, fillL, placesOf, ↓storeK, wrL, RV.av, DV.av, List.set, Nat.reduceEqDiff, Nat.reduceAdd, Nat.reduceSub, Nat.reduceMul, Nat.reduceLT, Nat.reduceLeDiff, Nat.reduceMod, Nat.reduceDiv, Int.reduceLT, Int.reduceLE, Int.reduceToNat, ↓reduceIte, reduceCtorEq, Value.oneCell', Int.reduceAdd, Int.reduceSub, Int.reduceMod, Int.reduceMul, Int.reduceNeg, Int.reduceBEq, Int.reduceBNe, Int.reduceTDiv, Int.reduceTMod, Int.reduceEq, tyB, Try.underlying13, Try.underlying25, Try.underlying26, Try.underlying39, Try.underlying40, Try.underlying72, Try.underlying73, cells_pt, agg_pt, isNil_pt, ptV_lit, cells_w, agg_w, isNil_w, valm, ↓binK_eqPt, ↓binK_eqU, ↓binK_neU, eqU_v, saG, saR, soG, soR, onG, raG, btG, slG, ptBG, tiG, ta, ma, t, e, hb, q2, h, so1, toR_base, base_onB, hr]
    | false =>
      cases h1 : onB x y false with
      | false => simp -implicitDefEqProofs (maxSteps := 10000000) only [vy_succ, vmB, slim, slimOp, gO, gSO, qSO, quietOp, cS, qSB, eK, calmOp, guardS, gK, qK, putK, plK, dOk, St.ev, St.get, St.mem, St.set, St.setm, St.put, lookA, look, newK, nextver, initT, seqE, blockQ, bodyQ, resK, retV, AV.rdv, agg_uV, ↓binK, ↓intK, unK, ↓loadK, ↓withKey_eq, ↓idxAddrK, ↓indexK, ↓partK, ↓fieldK, ↓fieldAddrK, ↓convK, ↓callK, wrG, updK, ↓lenK, ↓mmK, ↓appK, ↓copyK, ↓sliceK, ↓toArrK, nilK, evs, plains, seqParts, capsOf, capsD, AV.dv, AV.cont, ↓buildV_eq, fillL, placesOf, ↓storeK, wrL, RV.av, DV.av, List.set, Nat.reduceEqDiff, Nat.reduceAdd, Nat.reduceSub, Nat.reduceMul, Nat.reduceLT, Nat.reduceLeDiff, Nat.reduceMod, Nat.reduceDiv, Int.reduceLT, Int.reduceLE, Int.reduceToNat, ↓reduceIte, reduceCtorEq, Value.oneCell', Int.reduceAdd, Int.reduceSub, Int.reduceMod, Int.reduceMul, Int.reduceNeg, Int.reduceBEq, Int.reduceBNe, Int.reduceTDiv, Int.reduceTMod, Int.reduceEq, tyB, Try.underlying13, Try.underlying25, Try.underlying26, Try.underlying39, Try.underlying40, Try.underlying72, Try.underlying73, cells_pt, agg_pt, isNil_pt, ptV_lit, cells_w, agg_w, isNil_w, valm, ↓binK_eqPt, ↓binK_eqU, ↓binK_neU, eqU_v, saG, saR, soG, soR, onG, raG, btG, slG, ptBG, tiG, ta, ma, t, e, hb, q2, h, h1, so2 _ h1, toR_base, base_onB, hr]
      | true => simp -implicitDefEqProofs (maxSteps := 10000000) only [vy_succ, vmB, slim, slimOp, gO, gSO, qSO, quietOp, cS, qSB, eK, calmOp, guardS, gK, qK, putK, plK, dOk, St.ev, St.get, St.mem, St.set, St.setm, St.put, lookA, look, newK, nextver, initT, seqE, blockQ, bodyQ, resK, retV, AV.rdv, agg_uV, ↓binK, ↓intK, unK, ↓loadK, ↓withKey_eq, ↓idxAddrK, ↓indexK, ↓partK, ↓fieldK, ↓fieldAddrK, ↓convK, ↓callK, wrG, updK, ↓lenK, ↓mmK, ↓appK, ↓copyK, ↓sliceK, ↓toArrK, nilK, evs, plains, seqParts, capsOf, capsD, AV.dv, AV.cont, ↓buildV_eq, fillL, placesOf, ↓storeK, wrL, RV.av, DV.av, List.set, Nat.reduceEqDiff, Nat.reduceAdd, Nat.reduceSub, Nat.reduceMul, Nat.reduceLT, Nat.reduceLeDiff, Nat.reduceMod, Nat.reduceDiv, Int.reduceLT, Int.reduceLE, Int.reduceToNat, ↓reduceIte, reduceCtorEq, Value.oneCell', Int.reduceAdd, Int.reduceSub, Int.reduceMod, Int.reduceMul, Int.reduceNeg, Int.reduceBEq, Int.reduceBNe, Int.reduceTDiv, Int.reduceTMod, Int.reduceEq, tyB, Try.underlying13, Try.underlying25, Try.underlying26, Try.underlying39, Try.underlying40, Try.underlying72, Try.underlying73, cells_pt, agg_pt, isNil_pt, ptV_lit, cells_w, agg_w, isNil_w, valm, ↓binK_eqPt, ↓binK_eqU, ↓binK_neU, eqU_v, saG, saR, soG, soR, onG, raG, btG, slG, ptBG, tiG, ta, ma, t, e, hb, q2, h, h1, so2 _ h1, toR_base, base_onB, hr]

set_option maxHeartbeats 4000000 in
theorem bytes_law (x y : Nat) (v : Int) (s : ByteArray) (hx : x < full) (hy : y < full) : Spec Try.prog 4 [.pl (sgV x y v), .pl (.string s)] (.one (.pl (.bool true))) := by
  have hΓ : Env.ok [(14, sbG), (15, sfG), (16, sfG), (17, rgG), (11, slG), (18, rsbG)] Try.prog :=
    ok_cons sb_ok (ok_cons sf_ok (ok_cons rsf_ok (ok_cons rrg_ok (ok_cons sl_ok (ok_cons rsb_ok (ok_nil _))))))
  obtain ⟨k, hk, hk1, hk2⟩ : ∃ k : Nat, (if (80 : Int) < (s.size : Int) then (80 : Int) else (s.size : Int)) = (k : Int) ∧ k ≤ 80 ∧ k ≤ s.size := by
    by_cases h : s.size ≤ 80
    · exact ⟨s.size, by rw [if_neg (by omega)], h, Nat.le_refl _⟩
    · exact ⟨80, by rw [if_pos (by omega)]; rfl, Nat.le_refl _, by omega⟩
  have k1 : (0 : Int) ≤ (k : Int) := by omega
  have k2 : (k : Int) ≤ (s.size : Int) := by omega
  have hts : (s.extract 0 k).size = k := by simp [ByteArray.size_extract]; omega
  generalize ht : s.extract 0 k = t at *
  have c1 : (t.size ≤ 80) = True := eq_true (by omega)
  have hb : ∀ l : List UInt8, (bstr l).toList = l := bstr_toList
  have q2 : (⟨#[]⟩ : ByteArray).toList = [] := by rw [ba_toList]
  have tv := toSg_lt (b := v) hx hy
  obtain ⟨X, Y, V, E, hR⟩ : ∃ X Y V E, sfR t = .tup [.pl (sgV X Y V), .pl (.int .i64 E)] := by
    unfold sfR
    split
    · split
      · exact ⟨_, _, _, _, rfl⟩
      · exact ⟨_, _, _, _, rfl⟩
    · exact ⟨_, _, _, _, rfl⟩
  have e1 := eqU_self X
  have e2 := eqU_self Y
  have e3 : (E != E) = false := by rw [bne, beq_self_eq_true]; rfl
  refine Spec.of_vx hΓ follows_mixed Try.func4 rfl (by kernel_rfl) (T := []) (by simp [Try.ntmps4]) (by kernel_rfl) rfl Try.ntmps4 (res := [.tmp 4]) rfl ?_
  intro W
  cases h : rgB x y v with
  | false => simp -implicitDefEqProofs (maxSteps := 10000000) only [vy_succ, vmB, slim, slimOp, gO, gSO, qSO, quietOp, cS, qSB, eK, calmOp, guardS, gK, qK, putK, plK, dOk, St.ev, St.get, St.mem, St.set, St.setm, St.put, lookA, look, newK, nextver, initT, seqE, blockQ, bodyQ, resK, retV, AV.rdv, agg_uV, ↓binK, ↓intK, unK, ↓loadK, ↓withKey_eq, ↓idxAddrK, ↓indexK, ↓partK, ↓fieldK, ↓fieldAddrK, ↓convK, ↓callK, wrG, updK, ↓lenK, ↓mmK, ↓appK, ↓copyK, ↓sliceK, ↓toArrK, nilK, evs, plains, seqParts, capsOf, capsD, AV.dv, AV.cont, ↓buildV_eq, fillL, placesOf, ↓storeK, wrL, RV.av, DV.av, List.set, Nat.reduceEqDiff, Nat.reduceAdd, Nat.reduceSub, Nat.reduceMul, Nat.reduceLT, Nat.reduceLeDiff, Nat.reduceMod, Nat.reduceDiv, Int.reduceLT, Int.reduceLE, Int.reduceToNat, ↓reduceIte, reduceCtorEq, Value.oneCell', Int.reduceAdd, Int.reduceSub, Int.reduceMod, Int.reduceMul, Int.reduceNeg, Int.reduceBEq, Int.reduceBNe, Int.reduceTDiv, Int.reduceTMod, Int.reduceEq, tyB, Try.underlying13, Try.underlying25, Try.underlying26, Try.underlying39, Try.underlying40, Try.underlying72, Try.underlying73, mmK, hk, k1, k2, ht, c1, sbG, sbR, sfG, rgG, slG, rsbG, tv, h, hR, e1, e2, e3, hb, q2, ↓binK_neSg, cells_sg, agg_sg, isNil_sg, Int.toNat_natCast]
  | true => simp -implicitDefEqProofs (maxSteps := 10000000) only [vy_succ, vmB, slim, slimOp, gO, gSO, qSO, quietOp, cS, qSB, eK, calmOp, guardS, gK, qK, putK, plK, dOk, St.ev, St.get, St.mem, St.set, St.setm, St.put, lookA, look, newK, nextver, initT, seqE, blockQ, bodyQ, resK, retV, AV.rdv, agg_uV, ↓binK, ↓intK, unK, ↓loadK, ↓withKey_eq, ↓idxAddrK, ↓indexK, ↓partK, ↓fieldK, ↓fieldAddrK, ↓convK, ↓callK, wrG, updK, ↓lenK, ↓mmK, ↓appK, ↓copyK, ↓sliceK, ↓toArrK, nilK, evs, plains, seqParts, capsOf, capsD, AV.dv, AV.cont, ↓buildV_eq, fillL, placesOf, ↓storeK, wrL, RV.av, DV.av, List.set, Nat.reduceEqDiff, Nat.reduceAdd, Nat.reduceSub, Nat.reduceMul, Nat.reduceLT, Nat.reduceLeDiff, Nat.reduceMod, Nat.reduceDiv, Int.reduceLT, Int.reduceLE, Int.reduceToNat, ↓reduceIte, reduceCtorEq, Value.oneCell', Int.reduceAdd, Int.reduceSub, Int.reduceMod, Int.reduceMul, Int.reduceNeg, Int.reduceBEq, Int.reduceBNe, Int.reduceTDiv, Int.reduceTMod, Int.reduceEq, tyB, Try.underlying13, Try.underlying25, Try.underlying26, Try.underlying39, Try.underlying40, Try.underlying72, Try.underlying73, mmK, hk, k1, k2, ht, c1, sbG, sbR, sfG, rgG, slG, rsbG, tv, h, hR, e1, e2, e3, hb, q2, ↓binK_neSg, cells_sg, agg_sg, isNil_sg, Int.toNat_natCast]
end Go.Vm
