/- The law on what is recovered, as the machine walks it. No condition. -/
import Derived.Test.YtphocbfdakjmaaaYe
set_option maxRecDepth 100000
set_option linter.unusedSimpArgs false
set_option linter.unusedVariables false
namespace Go.Vm
open Go Go.RowKit Go.Proofs Go.Ec

set_option maxHeartbeats 8000000 in
theorem wild_law (s : ByteArray) (x y : Nat) (v : Int) (hx : x < full) (hy : y < full) : Spec Try.prog 5 [.pl (.string s), .pl (sgV x y v)] (.one (.pl (.bool true))) := by
  have hΓ : Env.ok [(19, rcG), (17, rgG), (11, slG), (20, liG), (21, finvG), (23, rmulG), (24, rsubG), (25, snuG), (13, ptBG), (22, boG), (9, raG)] Try.prog :=
    ok_cons rc_ok (ok_cons rrg_ok (ok_cons sl_ok (ok_cons li_ok (ok_cons finv_ok (ok_cons rmul_ok (ok_cons rsub_ok (ok_cons rsnu_ok (ok_cons ptB_ok (ok_cons both_ok (ok_cons ra_ok (ok_nil _)))))))))))
  obtain ⟨k, hk, hk1, hk2⟩ : ∃ k : Nat, (if (40 : Int) < (s.size : Int) then (40 : Int) else (s.size : Int)) = (k : Int) ∧ k ≤ 40 ∧ k ≤ s.size := by
    by_cases h : s.size ≤ 40
    · exact ⟨s.size, by rw [if_neg (by omega)], h, Nat.le_refl _⟩
    · exact ⟨40, by rw [if_pos (by omega)]; rfl, Nat.le_refl _, by omega⟩
  have k1 : (0 : Int) ≤ (k : Int) := by omega
  have k2 : (k : Int) ≤ (s.size : Int) := by omega
  have hts : (s.extract 0 k).size = k := by simp [ByteArray.size_extract]; omega
  generalize ht : s.extract 0 k = d at *
  have hd : d.size ≤ 40 := by omega
  have c1 : (d.size ≤ 40) = True := eq_true hd
  have hb : ∀ l : List UInt8, (bstr l).toList = l := bstr_toList
  have q2 : (⟨#[]⟩ : ByteArray).toList = [] := by rw [ba_toList]
  have t := toSg_lt (b := v) hx hy
  have tx := toN_lt hx
  have ty := toN_lt hy
  refine Spec.of_vx hΓ follows_mixed Try.func5 rfl (by kernel_rfl) (T := [(11, .alc)]) (by simp [Try.ntmps5]) (by kernel_rfl) rfl Try.ntmps5 (res := [.tmp 4]) rfl ?_
  intro W
  cases h0 : decide (d.size = 32) with
  | false =>
    have h0' : ((d.size : Int) != 32) = true := by
      have := of_decide_eq_false h0
      rw [bne_iff_ne]; omega
    simp -implicitDefEqProofs (maxSteps := 10000000) only [vy_succ, vmB, slim, slimOp, gO, gSO, qSO, quietOp, cS, qSB, eK, calmOp, guardS, gK, qK, putK, plK, dOk, St.ev, St.get, St.mem, St.set, St.setm, St.put, lookA, look, newK, nextver, initT, seqE, blockQ, bodyQ, resK, retV, AV.rdv, agg_uV, ↓binK, ↓intK, unK, ↓loadK, ↓withKey_eq, ↓idxAddrK, ↓indexK, ↓partK, ↓fieldK, ↓fieldAddrK, ↓convK, ↓callK, wrG, updK, ↓lenK, ↓mmK, ↓appK, ↓copyK, ↓sliceK, ↓toArrK, nilK, evs, plains, seqParts, capsOf, capsD, AV.dv, AV.cont, ↓buildV_eq, fillL, placesOf, ↓storeK, wrL, RV.av, DV.av, List.set, Nat.reduceEqDiff, Nat.reduceAdd, Nat.reduceSub, Nat.reduceMul, Nat.reduceLT, Nat.reduceLeDiff, Nat.reduceMod, Nat.reduceDiv, Int.reduceLT, Int.reduceLE, Int.reduceToNat, ↓reduceIte, reduceCtorEq, Value.oneCell', Int.reduceAdd, Int.reduceSub, Int.reduceMod, Int.reduceMul, Int.reduceNeg, Int.reduceBEq, Int.reduceBNe, Int.reduceTDiv, Int.reduceTMod, Int.reduceEq, tyB, Try.underlying13, Try.underlying25, Try.underlying26, Try.underlying39, Try.underlying40, Try.underlying72, Try.underlying73, mmK, hk, k1, k2, ht, c1, rcG, rcR, slG, t, h0, h0', hb, q2, Int.toNat_natCast, cells_sg, agg_sg, isNil_sg]
  | true =>
    have h1 : d.size = 32 := of_decide_eq_true h0
    have h0' : ((d.size : Int) != 32) = false := by rw [h1]; rfl
    cases h : rgB x y v with
    | false => simp -implicitDefEqProofs (maxSteps := 10000000) only [vy_succ, vmB, slim, slimOp, gO, gSO, qSO, quietOp, cS, qSB, eK, calmOp, guardS, gK, qK, putK, plK, dOk, St.ev, St.get, St.mem, St.set, St.setm, St.put, lookA, look, newK, nextver, initT, seqE, blockQ, bodyQ, resK, retV, AV.rdv, agg_uV, ↓binK, ↓intK, unK, ↓loadK, ↓withKey_eq, ↓idxAddrK, ↓indexK, ↓partK, ↓fieldK, ↓fieldAddrK, ↓convK, ↓callK, wrG, updK, ↓lenK, ↓mmK, ↓appK, ↓copyK, ↓sliceK, ↓toArrK, nilK, evs, plains, seqParts, capsOf, capsD, AV.dv, AV.cont, ↓buildV_eq, fillL, placesOf, ↓storeK, wrL, RV.av, DV.av, List.set, Nat.reduceEqDiff, Nat.reduceAdd, Nat.reduceSub, Nat.reduceMul, Nat.reduceLT, Nat.reduceLeDiff, Nat.reduceMod, Nat.reduceDiv, Int.reduceLT, Int.reduceLE, Int.reduceToNat, ↓reduceIte, reduceCtorEq, Value.oneCell', Int.reduceAdd, Int.reduceSub, Int.reduceMod, Int.reduceMul, Int.reduceNeg, Int.reduceBEq, Int.reduceBNe, Int.reduceTDiv, Int.reduceTMod, Int.reduceEq, tyB, Try.underlying13, Try.underlying25, Try.underlying26, Try.underlying39, Try.underlying40, Try.underlying72, Try.underlying73, mmK, hk, k1, k2, ht, c1, rcG, rcR, rgG, slG, t, h, h0, h0', hb, q2, Int.toNat_natCast, cells_sg, agg_sg, isNil_sg]
    | true =>
      cases h2 : liC x with
      | false =>
        have h3 := liE_ne x
        have h3' : (liE x != 0) = true := by rw [bne, h3]; rfl
        simp -implicitDefEqProofs (maxSteps := 10000000) only [vy_succ, vmB, slim, slimOp, gO, gSO, qSO, quietOp, cS, qSB, eK, calmOp, guardS, gK, qK, putK, plK, dOk, St.ev, St.get, St.mem, St.set, St.setm, St.put, lookA, look, newK, nextver, initT, seqE, blockQ, bodyQ, resK, retV, AV.rdv, agg_uV, ↓binK, ↓intK, unK, ↓loadK, ↓withKey_eq, ↓idxAddrK, ↓indexK, ↓partK, ↓fieldK, ↓fieldAddrK, ↓convK, ↓callK, wrG, updK, ↓lenK, ↓mmK, ↓appK, ↓copyK, ↓sliceK, ↓toArrK, nilK, evs, plains, seqParts, capsOf, capsD, AV.dv, AV.cont, ↓buildV_eq, fillL, placesOf, ↓storeK, wrL, RV.av, DV.av, List.set, Nat.reduceEqDiff, Nat.reduceAdd, Nat.reduceSub, Nat.reduceMul, Nat.reduceLT, Nat.reduceLeDiff, Nat.reduceMod, Nat.reduceDiv, Int.reduceLT, Int.reduceLE, Int.reduceToNat, ↓reduceIte, reduceCtorEq, Value.oneCell', Int.reduceAdd, Int.reduceSub, Int.reduceMod, Int.reduceMul, Int.reduceNeg, Int.reduceBEq, Int.reduceBNe, Int.reduceTDiv, Int.reduceTMod, Int.reduceEq, tyB, Try.underlying13, Try.underlying25, Try.underlying26, Try.underlying39, Try.underlying40, Try.underlying72, Try.underlying73, cells_pt, agg_pt, isNil_pt, ptV_lit, cells_w, agg_w, isNil_w, valm, ↓binK_eqPt, ↓binK_eqU, ↓binK_neU, eqU_v, mmK, hk, k1, k2, ht, c1, rcG, rcR, rgG, slG, liG, t, tx, h, h0, h0', h2, h3', hb, q2, Int.toNat_natCast, cells_sg, agg_sg, isNil_sg]
      | true =>
        have g1 := inv_sec (rg_bt h)
        have g2 := liY_on h2 (v == 1)
        have g3 := toR_lt (b := false) hx (liY_lt x (v == 1))
        have g4 := toN_lt (ivN_lt x)
        have g5 : (d.size ≤ 32) = True := eq_true (by omega)
        have g6 := toN_lt (mod_pN (strN d.data.toList) 1)
        have g0 := rsub_0 (strN d.data.toList % pN 1) (mod_pN (strN d.data.toList) 1)
        have g0' := g0
        rw [Nat.zero_add] at g0'
        have m1 : ∀ z, z % pN 1 % full = z % pN 1 := fun z => Nat.mod_eq_of_lt (mod_pN z 1)
        have m2 : ngN (strN d.data.toList % pN 1) % full = ngN (strN d.data.toList % pN 1) := Nat.mod_eq_of_lt (ngN_lt _)
        have g7 := toN_lt (ngN_lt (strN d.data.toList % pN 1))
        have g8 := toN_lt (mod_pN (y * ivN x) 1)
        have g9 := toN_lt (mod_pN (ngN (strN d.data.toList % pN 1) * ivN x) 1)
        have e : ptOf bX bY false = base0 := rfl
        have hP : padd (nsm (y * ivN x % pN 1) (ptOf x (liY x (v == 1)) false)) (nsm (ngN (strN d.data.toList % pN 1) * ivN x % pN 1) base0) = rcP d x y v := rfl
        have hr := toR_p (rcP d x y v)
        generalize hPe : rcP d x y v = P at *
        cases hbP : rb P with
        | true => simp -implicitDefEqProofs (maxSteps := 10000000) only [vy_succ, vmB, slim, slimOp, gO, gSO, qSO, quietOp, cS, qSB, eK, calmOp, guardS, gK, qK, putK, plK, dOk, St.ev, St.get, St.mem, St.set, St.setm, St.put, lookA, look, newK, nextver, initT, seqE, blockQ, bodyQ, resK, retV, AV.rdv, agg_uV, ↓binK, ↓intK, unK, ↓loadK, ↓withKey_eq, ↓idxAddrK, ↓indexK, ↓partK, ↓fieldK, ↓fieldAddrK, ↓convK, ↓callK, wrG, updK, ↓lenK, ↓mmK, ↓appK, ↓copyK, ↓sliceK, ↓toArrK, nilK, evs, plains, seqParts, capsOf, capsD, AV.dv, AV.cont, ↓buildV_eq, fillL, placesOf, ↓storeK, wrL, RV.av, DV.av, List.set, Nat.reduceEqDiff, Nat.reduceAdd, Nat.reduceSub, Nat.reduceMul, Nat.reduceLT, Nat.reduceLeDiff, Nat.reduceMod, Nat.reduceDiv, Int.reduceLT, Int.reduceLE, Int.reduceToNat, ↓reduceIte, reduceCtorEq, Value.oneCell', Int.reduceAdd, Int.reduceSub, Int.reduceMod, Int.reduceMul, Int.reduceNeg, Int.reduceBEq, Int.reduceBNe, Int.reduceTDiv, Int.reduceTMod, Int.reduceEq, tyB, Try.underlying13, Try.underlying25, Try.underlying26, Try.underlying39, Try.underlying40, Try.underlying72, Try.underlying73, cells_pt, agg_pt, isNil_pt, ptV_lit, cells_w, agg_w, isNil_w, valm, ↓binK_eqPt, ↓binK_eqU, ↓binK_neU, eqU_v, mmK, hk, k1, k2, ht, c1, rcG, rcR, rgG, slG, liG, rmulG, rsubG, snuG, ptBG, boG, raG, t, tx, ty, h, h0, h0', h2, g0, g0', m1, m2, g1, g2, g3, g4, g5, g6, g7, g8, g9, e, hP, hPe, hbP, toN_zero, isW1', toR_base, base_onB, hb, q2, Int.toNat_natCast, cells_sg, agg_sg, isNil_sg]
        | false =>
          rw [hbP] at hr
          simp -implicitDefEqProofs (maxSteps := 10000000) only [vy_succ, vmB, slim, slimOp, gO, gSO, qSO, quietOp, cS, qSB, eK, calmOp, guardS, gK, qK, putK, plK, dOk, St.ev, St.get, St.mem, St.set, St.setm, St.put, lookA, look, newK, nextver, initT, seqE, blockQ, bodyQ, resK, retV, AV.rdv, agg_uV, ↓binK, ↓intK, unK, ↓loadK, ↓withKey_eq, ↓idxAddrK, ↓indexK, ↓partK, ↓fieldK, ↓fieldAddrK, ↓convK, ↓callK, wrG, updK, ↓lenK, ↓mmK, ↓appK, ↓copyK, ↓sliceK, ↓toArrK, nilK, evs, plains, seqParts, capsOf, capsD, AV.dv, AV.cont, ↓buildV_eq, fillL, placesOf, ↓storeK, wrL, RV.av, DV.av, List.set, Nat.reduceEqDiff, Nat.reduceAdd, Nat.reduceSub, Nat.reduceMul, Nat.reduceLT, Nat.reduceLeDiff, Nat.reduceMod, Nat.reduceDiv, Int.reduceLT, Int.reduceLE, Int.reduceToNat, ↓reduceIte, reduceCtorEq, Value.oneCell', Int.reduceAdd, Int.reduceSub, Int.reduceMod, Int.reduceMul, Int.reduceNeg, Int.reduceBEq, Int.reduceBNe, Int.reduceTDiv, Int.reduceTMod, Int.reduceEq, tyB, Try.underlying13, Try.underlying25, Try.underlying26, Try.underlying39, Try.underlying40, Try.underlying72, Try.underlying73, cells_pt, agg_pt, isNil_pt, ptV_lit, cells_w, agg_w, isNil_w, valm, ↓binK_eqPt, ↓binK_eqU, ↓binK_neU, eqU_v, mmK, hk, k1, k2, ht, c1, rcG, rcR, rgG, slG, liG, rmulG, rsubG, snuG, ptBG, boG, raG, t, tx, ty, h, h0, h0', h2, g0, g0', m1, m2, g1, g2, g3, g4, g5, g6, g7, g8, g9, e, hP, hPe, hbP, hr, toN_zero, isW1', toR_base, base_onB, hb, q2, Int.toNat_natCast, cells_sg, agg_sg, isNil_sg]
end Go.Vm
