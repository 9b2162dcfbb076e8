/- Contracts: lifts of points, whose a signature is. No condition. -/
import Derived.Test.YtphocbfdakjmaaaPart10
set_option maxRecDepth 100000
set_option linter.unusedSimpArgs false
set_option linter.unusedVariables false
namespace Go.Vm
open Go Go.RowKit Go.Proofs Go.Ec

noncomputable def cvF (x : Nat) : Fp := nc x * nc x * nc x + 7
noncomputable def liC (x : Nat) : Bool := open Classical in decide (x < pN 0 ∧ Rt (cvF x).val)
noncomputable def liY (x : Nat) (o : Bool) : Nat := if o = true then (0 - nc (evN (pwN (cvF x).val qN (pN 0)))).val else evN (pwN (cvF x).val qN (pN 0))
noncomputable def liE (x : Nat) : Int := open Classical in if x < pN 0 then 6 else 1
theorem liE_ne (x : Nat) : (liE x == 0) = false := by unfold liE; split <;> rfl
noncomputable def liG : List DV → Option RV
  | [.pl v, .pl (.bool o)] => match toN v with
    | some x => some (match liC x with
      | true => .tup [.pl (ptV x (liY x o) false), .pl (.int .i64 0)]
      | false => .tup [.pl (ptV 0 0 false), .pl (.int .i64 (liE x))])
    | none => none
  | _ => none
open Classical in
theorem li_eq {ds : List DV} {r : RV} (h : liG ds = some r) : ptLG ds = some r := by
  unfold liG at h
  unfold ptLG
  split at h
  case h_2 => cases h
  split at h
  case h_2 => cases h
  rename_i x hx
  simp only [hx]
  rw [← h]
  congr 1
  unfold liC liE liY cvF
  by_cases h1 : x < pN 0
  · by_cases h2 : Rt (nc x * nc x * nc x + 7).val
    · rw [if_pos h1, if_pos h2, decide_eq_true ⟨h1, h2⟩]
    · rw [if_pos h1, if_neg h2, decide_eq_false (fun h => h2 h.2), if_pos h1]
  · rw [if_neg h1, decide_eq_false (fun h => h1 h.1), if_neg h1]
theorem li_ok : ∀ ds r, liG ds = some r → Spec Try.prog 20 ds r := fun ds r h => ptl_ok ds r (li_eq h)
theorem evN_ltp {r : Nat} (h : r < pN 0) : evN r < pN 0 := by
  rw [evN_eq]; split <;> omega
theorem on_li {x : Nat} {r : Fp} (h1 : x < pN 0) (h : r * r = nc x * nc x * nc x + 7) : onB x r.val false = true := by
  unfold onB
  rw [if_neg (by decide)]
  apply decide_eq_true
  rw [val_nc]
  exact ⟨⟨h1, v_p r⟩, h⟩
theorem sq_ng {r c : Fp} (h : r * r = c) : (0 - r) * (0 - r) = c := by grobner
theorem liY_lt (x : Nat) (o : Bool) : liY x o < full := by
  unfold liY
  split
  · exact v_lt _
  · exact Nat.lt_of_lt_of_le (evN_ltp (pwN_lt _ _ (pN_pos 0))) (Nat.le_of_lt (pN_lt 0))
open Classical in
theorem liY_on {x : Nat} (h : liC x = true) (o : Bool) : onB x (liY x o) false = true := by
  unfold liC at h
  have h := of_decide_eq_true h
  obtain ⟨h1, h2⟩ := h
  have e1 := evN_sq (pwN_lt (cvF x).val qN (pN_pos 0))
  have e2 : pwN (cvF x).val qN (pN 0) * pwN (cvF x).val qN (pN 0) % pN 0 = (cvF x).val := h2
  have e3 : nc (evN (pwN (cvF x).val qN (pN 0))) * nc (evN (pwN (cvF x).val qN (pN 0))) = cvF x := by
    rw [e2, mul_v] at e1
    exact Fin.ext e1
  have e4 : evN (pwN (cvF x).val qN (pN 0)) = (nc (evN (pwN (cvF x).val qN (pN 0)))).val := by
    rw [← nc_v, Nat.mod_eq_of_lt (evN_ltp (pwN_lt _ _ (pN_pos 0)))]
  unfold liY
  split
  · exact on_li h1 (sq_ng e3)
  · rw [e4]; exact on_li h1 e3
open Classical in
theorem liC_lt {x : Nat} (h : liC x = true) : x < full := Nat.lt_trans (of_decide_eq_true h).1 (pN_lt 0)

/-- what a number is turned to, modulo the order -/
noncomputable def ivN (x : Nat) : Nat := Classical.choose (⟨pwN x (pN 1 - 2) (pN 1), rfl⟩ : ∃ y : Nat, y = pwN x (pN 1 - 2) (pN 1))
theorem ivN_eq (x : Nat) : ivN x = pwN x (pN 1 - 2) (pN 1) := Classical.choose_spec (⟨pwN x (pN 1 - 2) (pN 1), rfl⟩ : ∃ y : Nat, y = pwN x (pN 1 - 2) (pN 1))
theorem ivN_lt (x : Nat) : ivN x < full := by rw [ivN_eq]; exact Nat.lt_trans (pwN_lt _ _ (pN_pos 1)) (pN_lt 1)
theorem inv_sec {x : Nat} (h : btB x = true) : finvG [.pl (uV x), .pl (.int .i64 1)] = some (.tup [.pl (uV (ivN x)), .pl (.int .i64 0)]) := by
  have hb := bt_iff h
  have hl : x < full := Nat.lt_trans hb.2 (pN_lt 1)
  have hm : x % pN 1 = x := Nat.mod_eq_of_lt hb.2
  unfold finvG
  simp only [toN_lt hl, isW1', if_true, hm]
  rw [if_neg (by omega), ivN_eq]
/-- the point that a signature and a digest make -/
noncomputable def rcP (d : ByteArray) (x y : Nat) (v : Int) : Pt := padd (nsm (y * ivN x % pN 1) (ptOf x (liY x (v == 1)) false)) (nsm (ngN (strN d.data.toList % pN 1) * ivN x % pN 1) base0)
noncomputable def rcR (d : ByteArray) (x y : Nat) (v : Int) : RV :=
  match decide (d.size = 32) with
  | false => .tup [.pl (.string ⟨#[]⟩), .pl (.int .i64 1)]
  | true => match rgB x y v with
    | false => .tup [.pl (.string ⟨#[]⟩), .pl (.int .i64 20)]
    | true => match liC x with
      | false => .tup [.pl (.string ⟨#[]⟩), .pl (.int .i64 20)]
      | true => match rb (rcP d x y v) with
        | true => .tup [.pl (.string ⟨#[]⟩), .pl (.int .i64 20)]
        | false => .tup [.pl (.string (bstr (adr (rx (rcP d x y v)) (ry (rcP d x y v))))), .pl (.int .i64 0)]
noncomputable def rcG : List DV → Option RV
  | [.pl (.string d), .pl v] => match toSg v with
    | some (x, y, b) => if d.size ≤ 40 then some (rcR d x y b) else none
    | none => none
  | _ => none
theorem rg_bt {x y : Nat} {v : Int} (h : rgB x y v = true) : btB x = true := by
  unfold rgB at h
  rw [Bool.and_eq_true] at h
  exact h.1
theorem rcP_on {x : Nat} (h : liC x = true) (d : ByteArray) (y : Nat) (v : Int) : onC (rcP d x y v) := by
  have := onB_on (liY_on h (v == 1))
  exact padd_on (nsm_on this.1 _) (nsm_on base_on _)
theorem rc_walk (d : ByteArray) (x y : Nat) (v : Int) (hd : d.size ≤ 40) (hx : x < full) (hy : y < full) : Spec Try.prog 19 [.pl (.string d), .pl (sgV x y v)] (rcR d x y v) := by
  have hΓ : Env.ok [(39, rgG), (20, liG), (21, finvG), (43, smG), (45, snuG), (44, sngG), (13, ptBG), (22, boG), (7, soG)] Try.prog :=
    ok_cons rg_ok (ok_cons li_ok (ok_cons finv_ok (ok_cons sm_ok (ok_cons snu_ok (ok_cons sng_ok (ok_cons ptB_ok (ok_cons both_ok (ok_cons so_ok (ok_nil _)))))))))
  have tx := toN_lt hx
  have ty := toN_lt hy
  have t := toSg_lt (b := v) hx hy
  unfold rcR
  refine Spec.of_vx hΓ follows_mixed Try.func19 rfl (by kernel_rfl) (T := [(9, .alc)]) (by simp [Try.ntmps19]) (by kernel_rfl) rfl Try.ntmps19 (res := [.tmp 4, .tmp 5]) rfl ?_
  intro W
  cases h0 : decide (d.size = 32) with
  | false =>
    have h0' : ((d.size : Int) != 32) = true := by
      have := of_decide_eq_false h0
      rw [bne_iff_ne]; omega
    simp -implicitDefEqProofs (maxSteps := 10000000) only [vy_succ, vmB, slim, slimOp, gO, gSO, qSO, quietOp, cS, qSB, eK, calmOp, guardS, gK, qK, putK, plK, dOk, St.ev, St.get, St.mem, St.set, St.setm, St.put, lookA, look, newK, nextver, initT, seqE, blockQ, bodyQ, resK, retV, AV.rdv, agg_uV, ↓binK, ↓intK, unK, ↓loadK, ↓withKey_eq, ↓idxAddrK, ↓indexK, ↓partK, ↓fieldK, ↓fieldAddrK, ↓convK, ↓callK, wrG, updK, ↓lenK, ↓mmK, ↓appK, ↓copyK, ↓sliceK, ↓toArrK, nilK, evs, plains, seqParts, capsOf, capsD, AV.dv, AV.cont, ↓buildV_eq, fillL, placesOf, ↓storeK, wrL, RV.av, DV.av, List.set, Nat.reduceEqDiff, Nat.reduceAdd, Nat.reduceSub, Nat.reduceMul, Nat.reduceLT, Nat.reduceLeDiff, Nat.reduceMod, Nat.reduceDiv, Int.reduceLT, Int.reduceLE, Int.reduceToNat, ↓reduceIte, reduceCtorEq, Value.oneCell', Int.reduceAdd, Int.reduceSub, Int.reduceMod, Int.reduceMul, Int.reduceNeg, Int.reduceBEq, Int.reduceBNe, Int.reduceTDiv, Int.reduceTMod, Int.reduceEq, tyB, Try.underlying13, Try.underlying25, Try.underlying26, Try.underlying39, Try.underlying40, Try.underlying72, Try.underlying73, h0']
  | true =>
    have h0' : d.size = 32 := of_decide_eq_true h0
    have h0 : ((d.size : Int) != 32) = false := by rw [h0']; rfl
    cases h : rgB x y v with
    | false => simp -implicitDefEqProofs (maxSteps := 10000000) only [vy_succ, vmB, slim, slimOp, gO, gSO, qSO, quietOp, cS, qSB, eK, calmOp, guardS, gK, qK, putK, plK, dOk, St.ev, St.get, St.mem, St.set, St.setm, St.put, lookA, look, newK, nextver, initT, seqE, blockQ, bodyQ, resK, retV, AV.rdv, agg_uV, ↓binK, ↓intK, unK, ↓loadK, ↓withKey_eq, ↓idxAddrK, ↓indexK, ↓partK, ↓fieldK, ↓fieldAddrK, ↓convK, ↓callK, wrG, updK, ↓lenK, ↓mmK, ↓appK, ↓copyK, ↓sliceK, ↓toArrK, nilK, evs, plains, seqParts, capsOf, capsD, AV.dv, AV.cont, ↓buildV_eq, fillL, placesOf, ↓storeK, wrL, RV.av, DV.av, List.set, Nat.reduceEqDiff, Nat.reduceAdd, Nat.reduceSub, Nat.reduceMul, Nat.reduceLT, Nat.reduceLeDiff, Nat.reduceMod, Nat.reduceDiv, Int.reduceLT, Int.reduceLE, Int.reduceToNat, ↓reduceIte, reduceCtorEq, Value.oneCell', Int.reduceAdd, Int.reduceSub, Int.reduceMod, Int.reduceMul, Int.reduceNeg, Int.reduceBEq, Int.reduceBNe, Int.reduceTDiv, Int.reduceTMod, Int.reduceEq, tyB, Try.underlying13, Try.underlying25, Try.underlying26, Try.underlying39, Try.underlying40, Try.underlying72, Try.underlying73, rgG, h0, t, h, cells_sg, agg_sg, isNil_sg]
    | true =>
      cases h1 : liC x with
      | false =>
        have h2 : (liE x != 0) = true := by rw [bne, liE_ne x]; rfl
        simp -implicitDefEqProofs (maxSteps := 10000000) only [vy_succ, vmB, slim, slimOp, gO, gSO, qSO, quietOp, cS, qSB, eK, calmOp, guardS, gK, qK, putK, plK, dOk, St.ev, St.get, St.mem, St.set, St.setm, St.put, lookA, look, newK, nextver, initT, seqE, blockQ, bodyQ, resK, retV, AV.rdv, agg_uV, ↓binK, ↓intK, unK, ↓loadK, ↓withKey_eq, ↓idxAddrK, ↓indexK, ↓partK, ↓fieldK, ↓fieldAddrK, ↓convK, ↓callK, wrG, updK, ↓lenK, ↓mmK, ↓appK, ↓copyK, ↓sliceK, ↓toArrK, nilK, evs, plains, seqParts, capsOf, capsD, AV.dv, AV.cont, ↓buildV_eq, fillL, placesOf, ↓storeK, wrL, RV.av, DV.av, List.set, Nat.reduceEqDiff, Nat.reduceAdd, Nat.reduceSub, Nat.reduceMul, Nat.reduceLT, Nat.reduceLeDiff, Nat.reduceMod, Nat.reduceDiv, Int.reduceLT, Int.reduceLE, Int.reduceToNat, ↓reduceIte, reduceCtorEq, Value.oneCell', Int.reduceAdd, Int.reduceSub, Int.reduceMod, Int.reduceMul, Int.reduceNeg, Int.reduceBEq, Int.reduceBNe, Int.reduceTDiv, Int.reduceTMod, Int.reduceEq, tyB, Try.underlying13, Try.underlying25, Try.underlying26, Try.underlying39, Try.underlying40, Try.underlying72, Try.underlying73, cells_pt, agg_pt, isNil_pt, ptV_lit, cells_w, agg_w, isNil_w, valm, ↓binK_eqPt, ↓binK_eqU, ↓binK_neU, eqU_v, rgG, liG, h0, t, tx, h, h1, h2, cells_sg, agg_sg, isNil_sg]
      | true =>
        have g1 := inv_sec (rg_bt h)
        have g2 := liY_on h1 (v == 1)
        have g3 := toR_lt (b := false) hx (liY_lt x (v == 1))
        have g4 := toN_lt (ivN_lt x)
        have g5 : d.size ≤ 32 := by omega
        have g6 := toN_lt (mod_pN (strN d.data.toList) 1)
        have g7 := toN_lt (ngN_lt (strN d.data.toList % pN 1))
        have g8 := toN_lt (mod_pN (y * ivN x) 1)
        have g9 := toN_lt (mod_pN (ngN (strN d.data.toList % pN 1) * ivN x) 1)
        have e : ptOf bX bY false = base0 := rfl
        have hP : padd (nsm (y * ivN x % pN 1) (ptOf x (liY x (v == 1)) false)) (nsm (ngN (strN d.data.toList % pN 1) * ivN x % pN 1) base0) = rcP d x y v := rfl
        have ho := onB_p (rcP_on h1 d y v)
        have hr := toR_p (rcP d x y v)
        generalize rcP d x y v = P at *
        cases hb : rb P with
        | true => simp -implicitDefEqProofs (maxSteps := 10000000) only [vy_succ, vmB, slim, slimOp, gO, gSO, qSO, quietOp, cS, qSB, eK, calmOp, guardS, gK, qK, putK, plK, dOk, St.ev, St.get, St.mem, St.set, St.setm, St.put, lookA, look, newK, nextver, initT, seqE, blockQ, bodyQ, resK, retV, AV.rdv, agg_uV, ↓binK, ↓intK, unK, ↓loadK, ↓withKey_eq, ↓idxAddrK, ↓indexK, ↓partK, ↓fieldK, ↓fieldAddrK, ↓convK, ↓callK, wrG, updK, ↓lenK, ↓mmK, ↓appK, ↓copyK, ↓sliceK, ↓toArrK, nilK, evs, plains, seqParts, capsOf, capsD, AV.dv, AV.cont, ↓buildV_eq, fillL, placesOf, ↓storeK, wrL, RV.av, DV.av, List.set, Nat.reduceEqDiff, Nat.reduceAdd, Nat.reduceSub, Nat.reduceMul, Nat.reduceLT, Nat.reduceLeDiff, Nat.reduceMod, Nat.reduceDiv, Int.reduceLT, Int.reduceLE, Int.reduceToNat, ↓reduceIte, reduceCtorEq, Value.oneCell', Int.reduceAdd, Int.reduceSub, Int.reduceMod, Int.reduceMul, Int.reduceNeg, Int.reduceBEq, Int.reduceBNe, Int.reduceTDiv, Int.reduceTMod, Int.reduceEq, tyB, Try.underlying13, Try.underlying25, Try.underlying26, Try.underlying39, Try.underlying40, Try.underlying72, Try.underlying73, cells_pt, agg_pt, isNil_pt, ptV_lit, cells_w, agg_w, isNil_w, valm, ↓binK_eqPt, ↓binK_eqU, ↓binK_neU, eqU_v, rgG, liG, smG, snuG, sngG, ptBG, boG, h0, t, tx, ty, h, h1, g1, g2, g3, g4, g5, g6, g7, g8, g9, e, hP, hb, toR_base, base_onB, cells_sg, agg_sg, isNil_sg]
        | false =>
          rw [hb] at ho hr
          have h3 : soB (rx P) (ry P) false = true := by unfold soB; rw [ho]; rfl
          simp -implicitDefEqProofs (maxSteps := 10000000) only [vy_succ, vmB, slim, slimOp, gO, gSO, qSO, quietOp, cS, qSB, eK, calmOp, guardS, gK, qK, putK, plK, dOk, St.ev, St.get, St.mem, St.set, St.setm, St.put, lookA, look, newK, nextver, initT, seqE, blockQ, bodyQ, resK, retV, AV.rdv, agg_uV, ↓binK, ↓intK, unK, ↓loadK, ↓withKey_eq, ↓idxAddrK, ↓indexK, ↓partK, ↓fieldK, ↓fieldAddrK, ↓convK, ↓callK, wrG, updK, ↓lenK, ↓mmK, ↓appK, ↓copyK, ↓sliceK, ↓toArrK, nilK, evs, plains, seqParts, capsOf, capsD, AV.dv, AV.cont, ↓buildV_eq, fillL, placesOf, ↓storeK, wrL, RV.av, DV.av, List.set, Nat.reduceEqDiff, Nat.reduceAdd, Nat.reduceSub, Nat.reduceMul, Nat.reduceLT, Nat.reduceLeDiff, Nat.reduceMod, Nat.reduceDiv, Int.reduceLT, Int.reduceLE, Int.reduceToNat, ↓reduceIte, reduceCtorEq, Value.oneCell', Int.reduceAdd, Int.reduceSub, Int.reduceMod, Int.reduceMul, Int.reduceNeg, Int.reduceBEq, Int.reduceBNe, Int.reduceTDiv, Int.reduceTMod, Int.reduceEq, tyB, Try.underlying13, Try.underlying25, Try.underlying26, Try.underlying39, Try.underlying40, Try.underlying72, Try.underlying73, cells_pt, agg_pt, isNil_pt, ptV_lit, cells_w, agg_w, isNil_w, valm, ↓binK_eqPt, ↓binK_eqU, ↓binK_neU, eqU_v, rgG, liG, smG, snuG, sngG, ptBG, boG, soG, soR, h0, t, tx, ty, h, h1, g1, g2, g3, g4, g5, g6, g7, g8, g9, e, hP, hb, hr, h3, toR_base, base_onB, cells_sg, agg_sg, isNil_sg]
theorem rc_ok : ∀ ds r, rcG ds = some r → Spec Try.prog 19 ds r := by
  intro ds r h
  unfold rcG at h
  split at h
  case h_2 => cases h
  rename_i d u
  split at h
  case h_2 => cases h
  rename_i x y b hv
  split at h
  case isFalse => cases h
  rename_i hd
  cases h
  obtain ⟨rfl, hx, hy⟩ := toSg_eq hv
  exact rc_walk d x y b hd hx hy
end Go.Vm
