/- Contracts: a signature's bytes, and the signature of bytes. No condition. -/
import Derived.Test.YtphocbfdakjmaaaPart10
set_option maxRecDepth 100000
set_option linter.unusedSimpArgs false
set_option linter.unusedVariables false
namespace Go.Vm
open Go Go.RowKit Go.Proofs Go.Ec

noncomputable def sbL (x y : Nat) (v : Int) : List UInt8 := Classical.choose (⟨bytesL x ++ bytesL y ++ [UInt8.ofNat v.toNat], rfl⟩ : ∃ l : List UInt8, l = bytesL x ++ bytesL y ++ [UInt8.ofNat v.toNat])
theorem sbL_eq (x y : Nat) (v : Int) : sbL x y v = bytesL x ++ bytesL y ++ [UInt8.ofNat v.toNat] := Classical.choose_spec (⟨bytesL x ++ bytesL y ++ [UInt8.ofNat v.toNat], rfl⟩ : ∃ l : List UInt8, l = bytesL x ++ bytesL y ++ [UInt8.ofNat v.toNat])
noncomputable def sbR (x y : Nat) (v : Int) : RV := match rgB x y v with
  | true => .tup [.pl (.string (bstr (sbL x y v))), .pl (.int .i64 0)]
  | false => .tup [.pl (.string ⟨#[]⟩), .pl (.int .i64 1)]
noncomputable def sbG : List DV → Option RV
  | [.pl v] => match toSg v with
    | some (x, y, b) => some (sbR x y b)
    | none => none
  | _ => none
theorem rg_v {x y : Nat} {v : Int} (h : rgB x y v = true) : v = 0 ∨ v = 1 := by
  unfold rgB at h
  simp only [Bool.and_eq_true, Bool.or_eq_true, beq_iff_eq] at h
  exact h.2.2.2
theorem sb_walk (x y : Nat) (v : Int) (hx : x < full) (hy : y < full) : Spec Try.prog 14 [.pl (sgV x y v)] (sbR x y v) := by
  have hΓ : Env.ok [(39, rgG), (29, bytesG)] Try.prog := ok_cons rg_ok (ok_cons bytes_ok (ok_nil _))
  have tx := toN_lt hx
  have ty := toN_lt hy
  have t := toSg_lt (b := v) hx hy
  have hb : ∀ l : List UInt8, (bstr l).size = l.length := bstr_size'
  have l1 := bytesL_len x
  have l2 := bytesL_len y
  unfold sbR
  refine Spec.of_vx hΓ follows_mixed Try.func14 rfl (by kernel_rfl) (T := [(3, .alc)]) (by simp [Try.ntmps14]) (by kernel_rfl) rfl Try.ntmps14 (res := [.tmp 2, .tmp 3]) rfl ?_
  intro W
  cases h : rgB x y v with
  | false => simp -implicitDefEqProofs (maxSteps := 10000000) only [vy_succ, vmB, slim, slimOp, gO, gSO, qSO, quietOp, cS, qSB, eK, calmOp, guardS, gK, qK, putK, plK, dOk, St.ev, St.get, St.mem, St.set, St.setm, St.put, lookA, look, newK, nextver, initT, seqE, blockQ, bodyQ, resK, retV, AV.rdv, agg_uV, ↓binK, ↓intK, unK, ↓loadK, ↓withKey_eq, ↓idxAddrK, ↓indexK, ↓partK, ↓fieldK, ↓fieldAddrK, ↓convK, ↓callK, wrG, updK, ↓lenK, ↓mmK, ↓appK, ↓copyK, ↓sliceK, ↓toArrK, nilK, evs, plains, seqParts, capsOf, capsD, AV.dv, AV.cont, ↓buildV_eq, fillL, placesOf, ↓storeK, wrL, RV.av, DV.av, List.set, Nat.reduceEqDiff, Nat.reduceAdd, Nat.reduceSub, Nat.reduceMul, Nat.reduceLT, Nat.reduceLeDiff, Nat.reduceMod, Nat.reduceDiv, Int.reduceLT, Int.reduceLE, Int.reduceToNat, ↓reduceIte, reduceCtorEq, Value.oneCell', Int.reduceAdd, Int.reduceSub, Int.reduceMod, Int.reduceMul, Int.reduceNeg, Int.reduceBEq, Int.reduceBNe, Int.reduceTDiv, Int.reduceTMod, Int.reduceEq, tyB, Try.underlying13, Try.underlying25, Try.underlying26, Try.underlying39, Try.underlying40, Try.underlying72, Try.underlying73, rgG, t, h, cells_sg, agg_sg, isNil_sg]
  | true =>
    rcases rg_v h with rfl | rfl
    · have hs : bytesL x ++ bytesL y ++ [0] = sbL x y 0 := by rw [sbL_eq]; rfl
      have hu : u8s [Value.int .u8 0] = some [0] := by rfl
      simp -implicitDefEqProofs (maxSteps := 10000000) only [vy_succ, vmB, slim, slimOp, gO, gSO, qSO, quietOp, cS, qSB, eK, calmOp, guardS, gK, qK, putK, plK, dOk, St.ev, St.get, St.mem, St.set, St.setm, St.put, lookA, look, newK, nextver, initT, seqE, blockQ, bodyQ, resK, retV, AV.rdv, agg_uV, ↓binK, ↓intK, unK, ↓loadK, ↓withKey_eq, ↓idxAddrK, ↓indexK, ↓partK, ↓fieldK, ↓fieldAddrK, ↓convK, ↓callK, wrG, updK, ↓lenK, ↓mmK, ↓appK, ↓copyK, ↓sliceK, ↓toArrK, nilK, evs, plains, seqParts, capsOf, capsD, AV.dv, AV.cont, ↓buildV_eq, fillL, placesOf, ↓storeK, wrL, RV.av, DV.av, List.set, Nat.reduceEqDiff, Nat.reduceAdd, Nat.reduceSub, Nat.reduceMul, Nat.reduceLT, Nat.reduceLeDiff, Nat.reduceMod, Nat.reduceDiv, Int.reduceLT, Int.reduceLE, Int.reduceToNat, ↓reduceIte, reduceCtorEq, Value.oneCell', Int.reduceAdd, Int.reduceSub, Int.reduceMod, Int.reduceMul, Int.reduceNeg, Int.reduceBEq, Int.reduceBNe, Int.reduceTDiv, Int.reduceTMod, Int.reduceEq, tyB, Try.underlying13, Try.underlying25, Try.underlying26, Try.underlying39, Try.underlying40, Try.underlying72, Try.underlying73, rgG, bytesG, tx, ty, t, h, hb, l1, l2, hs, hu, cells_sg, agg_sg, isNil_sg, bstr_append, List.length_append]
    · have hs : bytesL x ++ bytesL y ++ [1] = sbL x y 1 := by rw [sbL_eq]; rfl
      have hu : u8s [Value.int .u8 1] = some [1] := by rfl
      simp -implicitDefEqProofs (maxSteps := 10000000) only [vy_succ, vmB, slim, slimOp, gO, gSO, qSO, quietOp, cS, qSB, eK, calmOp, guardS, gK, qK, putK, plK, dOk, St.ev, St.get, St.mem, St.set, St.setm, St.put, lookA, look, newK, nextver, initT, seqE, blockQ, bodyQ, resK, retV, AV.rdv, agg_uV, ↓binK, ↓intK, unK, ↓loadK, ↓withKey_eq, ↓idxAddrK, ↓indexK, ↓partK, ↓fieldK, ↓fieldAddrK, ↓convK, ↓callK, wrG, updK, ↓lenK, ↓mmK, ↓appK, ↓copyK, ↓sliceK, ↓toArrK, nilK, evs, plains, seqParts, capsOf, capsD, AV.dv, AV.cont, ↓buildV_eq, fillL, placesOf, ↓storeK, wrL, RV.av, DV.av, List.set, Nat.reduceEqDiff, Nat.reduceAdd, Nat.reduceSub, Nat.reduceMul, Nat.reduceLT, Nat.reduceLeDiff, Nat.reduceMod, Nat.reduceDiv, Int.reduceLT, Int.reduceLE, Int.reduceToNat, ↓reduceIte, reduceCtorEq, Value.oneCell', Int.reduceAdd, Int.reduceSub, Int.reduceMod, Int.reduceMul, Int.reduceNeg, Int.reduceBEq, Int.reduceBNe, Int.reduceTDiv, Int.reduceTMod, Int.reduceEq, tyB, Try.underlying13, Try.underlying25, Try.underlying26, Try.underlying39, Try.underlying40, Try.underlying72, Try.underlying73, rgG, bytesG, tx, ty, t, h, hb, l1, l2, hs, hu, cells_sg, agg_sg, isNil_sg, bstr_append, List.length_append]
theorem sb_ok : ∀ ds r, sbG ds = some r → Spec Try.prog 14 ds r := by
  intro ds r h
  unfold sbG at h
  split at h
  case h_2 => cases h
  split at h
  case h_2 => cases h
  rename_i x y b hv
  cases h
  obtain ⟨rfl, hx, hy⟩ := toSg_eq hv
  exact sb_walk x y b hx hy
noncomputable def rsbG : List DV → Option RV
  | [.pl v] => match toSg v with
    | some (x, y, b) => if rgB x y b = true then some (.one (.pl (.string (bstr (sbL x y b))))) else none
    | none => none
  | _ => none
theorem rsb_walk (x y : Nat) (v : Int) (hx : x < full) (hy : y < full) (h : rgB x y v = true) : Spec Try.prog 18 [.pl (sgV x y v)] (.one (.pl (.string (bstr (sbL x y v))))) := by
  have hΓ : Env.ok [(34, bytesG)] Try.prog := ok_cons rbytes_ok (ok_nil _)
  have tx := toN_lt hx
  have ty := toN_lt hy
  have hb : ∀ l : List UInt8, (bstr l).size = l.length := bstr_size'
  have l1 := bytesL_len x
  have l2 := bytesL_len y
  refine Spec.of_vx hΓ follows_mixed Try.func18 rfl (by kernel_rfl) (T := [(1, .alc)]) (by simp [Try.ntmps18]) (by kernel_rfl) rfl Try.ntmps18 (res := [.tmp 2]) rfl ?_
  intro W
  rcases rg_v h with rfl | rfl
  · have hs : bytesL x ++ bytesL y ++ [0] = sbL x y 0 := by rw [sbL_eq]; rfl
    have hu : u8s [Value.int .u8 0] = some [0] := by rfl
    simp -implicitDefEqProofs (maxSteps := 10000000) only [vy_succ, vmB, slim, slimOp, gO, gSO, qSO, quietOp, cS, qSB, eK, calmOp, guardS, gK, qK, putK, plK, dOk, St.ev, St.get, St.mem, St.set, St.setm, St.put, lookA, look, newK, nextver, initT, seqE, blockQ, bodyQ, resK, retV, AV.rdv, agg_uV, ↓binK, ↓intK, unK, ↓loadK, ↓withKey_eq, ↓idxAddrK, ↓indexK, ↓partK, ↓fieldK, ↓fieldAddrK, ↓convK, ↓callK, wrG, updK, ↓lenK, ↓mmK, ↓appK, ↓copyK, ↓sliceK, ↓toArrK, nilK, evs, plains, seqParts, capsOf, capsD, AV.dv, AV.cont, ↓buildV_eq, fillL, placesOf, ↓storeK, wrL, RV.av, DV.av, List.set, Nat.reduceEqDiff, Nat.reduceAdd, Nat.reduceSub, Nat.reduceMul, Nat.reduceLT, Nat.reduceLeDiff, Nat.reduceMod, Nat.reduceDiv, Int.reduceLT, Int.reduceLE, Int.reduceToNat, ↓reduceIte, reduceCtorEq, Value.oneCell', Int.reduceAdd, Int.reduceSub, Int.reduceMod, Int.reduceMul, Int.reduceNeg, Int.reduceBEq, Int.reduceBNe, Int.reduceTDiv, Int.reduceTMod, Int.reduceEq, tyB, Try.underlying13, Try.underlying25, Try.underlying26, Try.underlying39, Try.underlying40, Try.underlying72, Try.underlying73, bytesG, tx, ty, hb, l1, l2, hs, hu, cells_sg, agg_sg, isNil_sg, bstr_append, List.length_append]
  · have hs : bytesL x ++ bytesL y ++ [1] = sbL x y 1 := by rw [sbL_eq]; rfl
    have hu : u8s [Value.int .u8 1] = some [1] := by rfl
    simp -implicitDefEqProofs (maxSteps := 10000000) only [vy_succ, vmB, slim, slimOp, gO, gSO, qSO, quietOp, cS, qSB, eK, calmOp, guardS, gK, qK, putK, plK, dOk, St.ev, St.get, St.mem, St.set, St.setm, St.put, lookA, look, newK, nextver, initT, seqE, blockQ, bodyQ, resK, retV, AV.rdv, agg_uV, ↓binK, ↓intK, unK, ↓loadK, ↓withKey_eq, ↓idxAddrK, ↓indexK, ↓partK, ↓fieldK, ↓fieldAddrK, ↓convK, ↓callK, wrG, updK, ↓lenK, ↓mmK, ↓appK, ↓copyK, ↓sliceK, ↓toArrK, nilK, evs, plains, seqParts, capsOf, capsD, AV.dv, AV.cont, ↓buildV_eq, fillL, placesOf, ↓storeK, wrL, RV.av, DV.av, List.set, Nat.reduceEqDiff, Nat.reduceAdd, Nat.reduceSub, Nat.reduceMul, Nat.reduceLT, Nat.reduceLeDiff, Nat.reduceMod, Nat.reduceDiv, Int.reduceLT, Int.reduceLE, Int.reduceToNat, ↓reduceIte, reduceCtorEq, Value.oneCell', Int.reduceAdd, Int.reduceSub, Int.reduceMod, Int.reduceMul, Int.reduceNeg, Int.reduceBEq, Int.reduceBNe, Int.reduceTDiv, Int.reduceTMod, Int.reduceEq, tyB, Try.underlying13, Try.underlying25, Try.underlying26, Try.underlying39, Try.underlying40, Try.underlying72, Try.underlying73, bytesG, tx, ty, hb, l1, l2, hs, hu, cells_sg, agg_sg, isNil_sg, bstr_append, List.length_append]
theorem rsb_ok : ∀ ds r, rsbG ds = some r → Spec Try.prog 18 ds r := by
  intro ds r h
  unfold rsbG at h
  split at h
  case h_2 => cases h
  split at h
  case h_2 => cases h
  rename_i x y b hv
  split at h
  case isFalse => cases h
  rename_i hr
  cases h
  obtain ⟨rfl, hx, hy⟩ := toSg_eq hv
  exact rsb_walk x y b hx hy hr

/-! ### The signature of bytes -/
noncomputable def sfX (s : ByteArray) : Nat := Classical.choose (⟨strN (s.extract 0 32).data.toList, rfl⟩ : ∃ y : Nat, y = strN (s.extract 0 32).data.toList)
theorem sfX_eq (s : ByteArray) : sfX s = strN (s.extract 0 32).data.toList := Classical.choose_spec (⟨strN (s.extract 0 32).data.toList, rfl⟩ : ∃ y : Nat, y = strN (s.extract 0 32).data.toList)
noncomputable def sfY (s : ByteArray) : Nat := Classical.choose (⟨strN (s.extract 32 64).data.toList, rfl⟩ : ∃ y : Nat, y = strN (s.extract 32 64).data.toList)
theorem sfY_eq (s : ByteArray) : sfY s = strN (s.extract 32 64).data.toList := Classical.choose_spec (⟨strN (s.extract 32 64).data.toList, rfl⟩ : ∃ y : Nat, y = strN (s.extract 32 64).data.toList)
theorem sfX_lt (s : ByteArray) : sfX s < full := by rw [sfX_eq]; exact strN_lt _ (by rw [Array.length_toList]; show (s.extract 0 32).size ≤ 32; rw [ByteArray.size_extract]; omega)
theorem sfY_lt (s : ByteArray) : sfY s < full := by rw [sfY_eq]; exact strN_lt _ (by rw [Array.length_toList]; show (s.extract 32 64).size ≤ 32; rw [ByteArray.size_extract]; omega)
noncomputable def sfV (s : ByteArray) : Nat := Classical.choose (⟨((s[64]? : Option UInt8).getD 0).toNat, rfl⟩ : ∃ y : Nat, y = ((s[64]? : Option UInt8).getD 0).toNat)
theorem sfV_eq (s : ByteArray) : sfV s = ((s[64]? : Option UInt8).getD 0).toNat := Classical.choose_spec (⟨((s[64]? : Option UInt8).getD 0).toNat, rfl⟩ : ∃ y : Nat, y = ((s[64]? : Option UInt8).getD 0).toNat)
theorem sfV_lt (s : ByteArray) : sfV s < 256 := by rw [sfV_eq]; exact UInt8.toNat_lt _
noncomputable def sfR (s : ByteArray) : RV := match decide (s.size = 65) with
  | true => (match rgB (sfX s) (sfY s) (sfV s : Nat) with
    | true => .tup [.pl (sgV (sfX s) (sfY s) (sfV s : Nat)), .pl (.int .i64 0)]
    | false => .tup [.pl (sgV 0 0 0), .pl (.int .i64 4)])
  | false => .tup [.pl (sgV 0 0 0), .pl (.int .i64 4)]
noncomputable def sfG : List DV → Option RV
  | [.pl (.string s)] => if s.size ≤ 80 then some (sfR s) else none
  | _ => none
theorem sf_walk (s : ByteArray) (hs : s.size ≤ 80) : Spec Try.prog 15 [.pl (.string s)] (sfR s) := by
  have hΓ : Env.ok [(39, rgG), (40, fromG)] Try.prog := ok_cons rg_ok (ok_cons from_ok (ok_nil _))
  unfold sfR
  refine Spec.of_vx hΓ follows_mixed Try.func15 rfl (by kernel_rfl) (T := []) (by simp [Try.ntmps15]) (by kernel_rfl) rfl Try.ntmps15 (res := [.cell 2 40, .tmp 3]) rfl ?_
  intro W
  cases h0 : decide (s.size = 65) with
  | false =>
    have h0' : ((s.size : Int) != 65) = true := by
      have := of_decide_eq_false h0
      rw [bne_iff_ne]; omega
    simp -implicitDefEqProofs (maxSteps := 10000000) only [vy_succ, vmB, slim, slimOp, gO, gSO, qSO, quietOp, cS, qSB, eK, calmOp, guardS, gK, qK, putK, plK, dOk, St.ev, St.get, St.mem, St.set, St.setm, St.put, lookA, look, newK, nextver, initT, seqE, blockQ, bodyQ, resK, retV, AV.rdv, agg_uV, ↓binK, ↓intK, unK, ↓loadK, ↓withKey_eq, ↓idxAddrK, ↓indexK, ↓partK, ↓fieldK, ↓fieldAddrK, ↓convK, ↓callK, wrG, updK, ↓lenK, ↓mmK, ↓appK, ↓copyK, ↓sliceK, ↓toArrK, nilK, evs, plains, seqParts, capsOf, capsD, AV.dv, AV.cont, ↓buildV_eq, fillL, placesOf, ↓storeK, wrL, RV.av, DV.av, List.set, Nat.reduceEqDiff, Nat.reduceAdd, Nat.reduceSub, Nat.reduceMul, Nat.reduceLT, Nat.reduceLeDiff, Nat.reduceMod, Nat.reduceDiv, Int.reduceLT, Int.reduceLE, Int.reduceToNat, ↓reduceIte, reduceCtorEq, Value.oneCell', Int.reduceAdd, Int.reduceSub, Int.reduceMod, Int.reduceMul, Int.reduceNeg, Int.reduceBEq, Int.reduceBNe, Int.reduceTDiv, Int.reduceTMod, Int.reduceEq, tyB, Try.underlying13, Try.underlying25, Try.underlying26, Try.underlying39, Try.underlying40, Try.underlying72, Try.underlying73, h0', sgV_lit, cells_sg, agg_sg, isNil_sg]
  | true =>
    have h0' : s.size = 65 := of_decide_eq_true h0
    have c1 : ((s.size : Int) != 65) = false := by rw [h0']; rfl
    have x1 := (sfX_eq s).symm
    have y1 := (sfY_eq s).symm
    have t := toSg_lt (b := (sfV s : Int)) (sfX_lt s) (sfY_lt s)
    have v1 := (sfV_eq s).symm
    have v2 : IntKind.i64.wrap (sfV s : Int) = (sfV s : Int) := by have := sfV_lt s; exact i64_in (by omega) (by omega)
    have c2 : ((s.extract 0 32).size ≤ 32) = True := eq_true (by simp [ByteArray.size_extract]; omega)
    have c3 : ((s.extract 32 64).size ≤ 32) = True := eq_true (by simp [ByteArray.size_extract]; omega)
    cases h : rgB (sfX s) (sfY s) (sfV s : Nat) with
    | false => simp -implicitDefEqProofs (maxSteps := 10000000) only [vy_succ, vmB, slim, slimOp, gO, gSO, qSO, quietOp, cS, qSB, eK, calmOp, guardS, gK, qK, putK, plK, dOk, St.ev, St.get, St.mem, St.set, St.setm, St.put, lookA, look, newK, nextver, initT, seqE, blockQ, bodyQ, resK, retV, AV.rdv, agg_uV, ↓binK, ↓intK, unK, ↓loadK, ↓withKey_eq, ↓idxAddrK, ↓indexK, ↓partK, ↓fieldK, ↓fieldAddrK, ↓convK, ↓callK, wrG, updK, ↓lenK, ↓mmK, ↓appK, ↓copyK, ↓sliceK, ↓toArrK, nilK, evs, plains, seqParts, capsOf, capsD, AV.dv, AV.cont, ↓buildV_eq, fillL, placesOf, ↓storeK, wrL, RV.av, DV.av, List.set, Nat.reduceEqDiff, Nat.reduceAdd, Nat.reduceSub, Nat.reduceMul, Nat.reduceLT, Nat.reduceLeDiff, Nat.reduceMod, Nat.reduceDiv, Int.reduceLT, Int.reduceLE, Int.reduceToNat, ↓reduceIte, reduceCtorEq, Value.oneCell', Int.reduceAdd, Int.reduceSub, Int.reduceMod, Int.reduceMul, Int.reduceNeg, Int.reduceBEq, Int.reduceBNe, Int.reduceTDiv, Int.reduceTMod, Int.reduceEq, tyB, Try.underlying13, Try.underlying25, Try.underlying26, Try.underlying39, Try.underlying40, Try.underlying72, Try.underlying73, rgG, fromG, h0', c1, c2, c3, x1, y1, v1, v2, t, h, cells_sg, agg_sg, isNil_sg, sgV_lit]
    | true => simp -implicitDefEqProofs (maxSteps := 10000000) only [vy_succ, vmB, slim, slimOp, gO, gSO, qSO, quietOp, cS, qSB, eK, calmOp, guardS, gK, qK, putK, plK, dOk, St.ev, St.get, St.mem, St.set, St.setm, St.put, lookA, look, newK, nextver, initT, seqE, blockQ, bodyQ, resK, retV, AV.rdv, agg_uV, ↓binK, ↓intK, unK, ↓loadK, ↓withKey_eq, ↓idxAddrK, ↓indexK, ↓partK, ↓fieldK, ↓fieldAddrK, ↓convK, ↓callK, wrG, updK, ↓lenK, ↓mmK, ↓appK, ↓copyK, ↓sliceK, ↓toArrK, nilK, evs, plains, seqParts, capsOf, capsD, AV.dv, AV.cont, ↓buildV_eq, fillL, placesOf, ↓storeK, wrL, RV.av, DV.av, List.set, Nat.reduceEqDiff, Nat.reduceAdd, Nat.reduceSub, Nat.reduceMul, Nat.reduceLT, Nat.reduceLeDiff, Nat.reduceMod, Nat.reduceDiv, Int.reduceLT, Int.reduceLE, Int.reduceToNat, ↓reduceIte, reduceCtorEq, Value.oneCell', Int.reduceAdd, Int.reduceSub, Int.reduceMod, Int.reduceMul, Int.reduceNeg, Int.reduceBEq, Int.reduceBNe, Int.reduceTDiv, Int.reduceTMod, Int.reduceEq, tyB, Try.underlying13, Try.underlying25, Try.underlying26, Try.underlying39, Try.underlying40, Try.underlying72, Try.underlying73, rgG, fromG, h0', c1, c2, c3, x1, y1, v1, v2, t, h, cells_sg, agg_sg, isNil_sg, sgV_lit]
theorem sf_ok : ∀ ds r, sfG ds = some r → Spec Try.prog 15 ds r := by
  intro ds r h
  unfold sfG at h
  split at h
  case h_2 => cases h
  rename_i s
  split at h
  case isFalse => cases h
  rename_i hs
  cases h
  exact sf_walk s hs
theorem rsf_walk (s : ByteArray) (hs : s.size ≤ 80) : Spec Try.prog 16 [.pl (.string s)] (sfR s) := by
  have hΓ : Env.ok [(17, rgG), (41, rfromG)] Try.prog := ok_cons rrg_ok (ok_cons rfrom_ok (ok_nil _))
  unfold sfR
  refine Spec.of_vx hΓ follows_mixed Try.func16 rfl (by kernel_rfl) (T := [(3, .alc)]) (by simp [Try.ntmps16]) (by kernel_rfl) rfl Try.ntmps16 (res := [.cell 2 40, .tmp 3]) rfl ?_
  intro W
  cases h0 : decide (s.size = 65) with
  | false =>
    have h0' : ((s.size : Int) != 65) = true := by
      have := of_decide_eq_false h0
      rw [bne_iff_ne]; omega
    simp -implicitDefEqProofs (maxSteps := 10000000) only [vy_succ, vmB, slim, slimOp, gO, gSO, qSO, quietOp, cS, qSB, eK, calmOp, guardS, gK, qK, putK, plK, dOk, St.ev, St.get, St.mem, St.set, St.setm, St.put, lookA, look, newK, nextver, initT, seqE, blockQ, bodyQ, resK, retV, AV.rdv, agg_uV, ↓binK, ↓intK, unK, ↓loadK, ↓withKey_eq, ↓idxAddrK, ↓indexK, ↓partK, ↓fieldK, ↓fieldAddrK, ↓convK, ↓callK, wrG, updK, ↓lenK, ↓mmK, ↓appK, ↓copyK, ↓sliceK, ↓toArrK, nilK, evs, plains, seqParts, capsOf, capsD, AV.dv, AV.cont, ↓buildV_eq, fillL, placesOf, ↓storeK, wrL, RV.av, DV.av, List.set, Nat.reduceEqDiff, Nat.reduceAdd, Nat.reduceSub, Nat.reduceMul, Nat.reduceLT, Nat.reduceLeDiff, Nat.reduceMod, Nat.reduceDiv, Int.reduceLT, Int.reduceLE, Int.reduceToNat, ↓reduceIte, reduceCtorEq, Value.oneCell', Int.reduceAdd, Int.reduceSub, Int.reduceMod, Int.reduceMul, Int.reduceNeg, Int.reduceBEq, Int.reduceBNe, Int.reduceTDiv, Int.reduceTMod, Int.reduceEq, tyB, Try.underlying13, Try.underlying25, Try.underlying26, Try.underlying39, Try.underlying40, Try.underlying72, Try.underlying73, h0', sgV_lit, cells_sg, agg_sg, isNil_sg]
  | true =>
    have h0' : s.size = 65 := of_decide_eq_true h0
    have c1 : ((s.size : Int) != 65) = false := by rw [h0']; rfl
    have x1 := (sfX_eq s).symm
    have y1 := (sfY_eq s).symm
    have t := toSg_lt (b := (sfV s : Int)) (sfX_lt s) (sfY_lt s)
    have v1 := (sfV_eq s).symm
    have v2 : IntKind.i64.wrap (sfV s : Int) = (sfV s : Int) := by have := sfV_lt s; exact i64_in (by omega) (by omega)
    have c2 : ((s.extract 0 32).size ≤ 40) = True := eq_true (by simp [ByteArray.size_extract]; omega)
    have c3 : ((s.extract 32 64).size ≤ 40) = True := eq_true (by simp [ByteArray.size_extract]; omega)
    cases h : rgB (sfX s) (sfY s) (sfV s : Nat) with
    | false => simp -implicitDefEqProofs (maxSteps := 10000000) only [vy_succ, vmB, slim, slimOp, gO, gSO, qSO, quietOp, cS, qSB, eK, calmOp, guardS, gK, qK, putK, plK, dOk, St.ev, St.get, St.mem, St.set, St.setm, St.put, lookA, look, newK, nextver, initT, seqE, blockQ, bodyQ, resK, retV, AV.rdv, agg_uV, ↓binK, ↓intK, unK, ↓loadK, ↓withKey_eq, ↓idxAddrK, ↓indexK, ↓partK, ↓fieldK, ↓fieldAddrK, ↓convK, ↓callK, wrG, updK, ↓lenK, ↓mmK, ↓appK, ↓copyK, ↓sliceK, ↓toArrK, nilK, evs, plains, seqParts, capsOf, capsD, AV.dv, AV.cont, ↓buildV_eq, fillL, placesOf, ↓storeK, wrL, RV.av, DV.av, List.set, Nat.reduceEqDiff, Nat.reduceAdd, Nat.reduceSub, Nat.reduceMul, Nat.reduceLT, Nat.reduceLeDiff, Nat.reduceMod, Nat.reduceDiv, Int.reduceLT, Int.reduceLE, Int.reduceToNat, ↓reduceIte, reduceCtorEq, Value.oneCell', Int.reduceAdd, Int.reduceSub, Int.reduceMod, Int.reduceMul, Int.reduceNeg, Int.reduceBEq, Int.reduceBNe, Int.reduceTDiv, Int.reduceTMod, Int.reduceEq, tyB, Try.underlying13, Try.underlying25, Try.underlying26, Try.underlying39, Try.underlying40, Try.underlying72, Try.underlying73, rgG, rfromG, h0', c1, c2, c3, x1, y1, v1, v2, t, h, cells_sg, agg_sg, isNil_sg, sgV_lit]
    | true => simp -implicitDefEqProofs (maxSteps := 10000000) only [vy_succ, vmB, slim, slimOp, gO, gSO, qSO, quietOp, cS, qSB, eK, calmOp, guardS, gK, qK, putK, plK, dOk, St.ev, St.get, St.mem, St.set, St.setm, St.put, lookA, look, newK, nextver, initT, seqE, blockQ, bodyQ, resK, retV, AV.rdv, agg_uV, ↓binK, ↓intK, unK, ↓loadK, ↓withKey_eq, ↓idxAddrK, ↓indexK, ↓partK, ↓fieldK, ↓fieldAddrK, ↓convK, ↓callK, wrG, updK, ↓lenK, ↓mmK, ↓appK, ↓copyK, ↓sliceK, ↓toArrK, nilK, evs, plains, seqParts, capsOf, capsD, AV.dv, AV.cont, ↓buildV_eq, fillL, placesOf, ↓storeK, wrL, RV.av, DV.av, List.set, Nat.reduceEqDiff, Nat.reduceAdd, Nat.reduceSub, Nat.reduceMul, Nat.reduceLT, Nat.reduceLeDiff, Nat.reduceMod, Nat.reduceDiv, Int.reduceLT, Int.reduceLE, Int.reduceToNat, ↓reduceIte, reduceCtorEq, Value.oneCell', Int.reduceAdd, Int.reduceSub, Int.reduceMod, Int.reduceMul, Int.reduceNeg, Int.reduceBEq, Int.reduceBNe, Int.reduceTDiv, Int.reduceTMod, Int.reduceEq, tyB, Try.underlying13, Try.underlying25, Try.underlying26, Try.underlying39, Try.underlying40, Try.underlying72, Try.underlying73, rgG, rfromG, h0', c1, c2, c3, x1, y1, v1, v2, t, h, cells_sg, agg_sg, isNil_sg, sgV_lit]
theorem rsf_ok : ∀ ds r, sfG ds = some r → Spec Try.prog 16 ds r := by
  intro ds r h
  unfold sfG at h
  split at h
  case h_2 => cases h
  rename_i s
  split at h
  case isFalse => cases h
  rename_i hs
  cases h
  exact rsf_walk s hs
end Go.Vm
