/- Texts of the proof, laid together: Kd, Str, Ke, Kf, Jn, Ko, Kg, Kv, Yc. No condition. -/
import Derived.Test.YtphocbfdakjmaaaPart9
import Derived.Test.YtphocbfdakjmaaaPart2
import Derived.Test.YtphocbfdakjmaaaPart3
import Derived.Shelf.Strings.OnBuilder
import Derived.Test.YtphocbfdakjmaaaPart8
import Derived.Test.YtphocbfdakjmaaaPart5
/- The sums' mixing, the document's too. No condition. -/
set_option maxRecDepth 100000
set_option linter.unusedSimpArgs false
set_option linter.unusedVariables false
namespace Go.Vm
open Go Go.RowKit Go.Proofs

theorem cells_byV : byV.cells = #[.int .i64 0, .int .i64 1, .int .i64 62, .int .i64 28, .int .i64 27, .int .i64 36, .int .i64 44, .int .i64 6, .int .i64 55, .int .i64 20, .int .i64 3, .int .i64 10, .int .i64 43, .int .i64 25, .int .i64 39, .int .i64 41, .int .i64 45, .int .i64 15, .int .i64 21, .int .i64 8, .int .i64 18, .int .i64 2, .int .i64 61, .int .i64 56, .int .i64 14] := by rw [byV_eq]; rfl
theorem cells_toV : toV.cells = #[.int .i64 0, .int .i64 10, .int .i64 20, .int .i64 5, .int .i64 15, .int .i64 16, .int .i64 1, .int .i64 11, .int .i64 21, .int .i64 6, .int .i64 7, .int .i64 17, .int .i64 2, .int .i64 12, .int .i64 22, .int .i64 23, .int .i64 8, .int .i64 18, .int .i64 3, .int .i64 13, .int .i64 14, .int .i64 24, .int .i64 9, .int .i64 19, .int .i64 4] := by rw [toV_eq]; rfl
theorem mixN_24 (A : K25) : mixN 24 (cut A) = mixN 24 A := mixN_cut 23 A
theorem isNil_byV : isNil byV = false := by rw [byV_eq]; rfl
theorem isNil_toV : isNil toV = false := by rw [toV_eq]; rfl
theorem fold_byV : Value.agg #[.int .i64 0, .int .i64 1, .int .i64 62, .int .i64 28, .int .i64 27, .int .i64 36, .int .i64 44, .int .i64 6, .int .i64 55, .int .i64 20, .int .i64 3, .int .i64 10, .int .i64 43, .int .i64 25, .int .i64 39, .int .i64 41, .int .i64 45, .int .i64 15, .int .i64 21, .int .i64 8, .int .i64 18, .int .i64 2, .int .i64 61, .int .i64 56, .int .i64 14] = byV := byV_eq.symm
theorem fold_toV : Value.agg #[.int .i64 0, .int .i64 10, .int .i64 20, .int .i64 5, .int .i64 15, .int .i64 16, .int .i64 1, .int .i64 11, .int .i64 21, .int .i64 6, .int .i64 7, .int .i64 17, .int .i64 2, .int .i64 12, .int .i64 22, .int .i64 23, .int .i64 8, .int .i64 18, .int .i64 3, .int .i64 13, .int .i64 14, .int .i64 24, .int .i64 9, .int .i64 19, .int .i64 4] = toV := toV_eq.symm

noncomputable def mixG : List DV → Option RV
  | [.pl va] => match toK va with
    | some A => some (.one (.pl (kV (mixN 24 A))))
    | none => none
  | _ => none

set_option maxHeartbeats 400000000 in
theorem mix_walk (A : K25) : Spec Try.prog 88 [.pl (kV A)] (.one (.pl (kV (mixN 24 A)))) := by
  have hΓ : Env.ok [(96, turnsG), (97, constsG), (98, roundG)] Try.prog := ok_cons kTurns_ok (ok_cons consts_ok (ok_cons round_ok (ok_nil _)))
  have hf := kV_fold A
  refine Spec.of_vx hΓ follows_mixed Try.func88 rfl (by kernel_rfl) (T := []) (by simp [Try.ntmps88]) (by kernel_rfl) rfl Try.ntmps88 (res := [.cell 2 87]) rfl ?_
  intro W
  simp -implicitDefEqProofs (maxSteps := 100000000) only [vy_succ, vmB, slim, slimOp, gO, gSO, qSO, quietOp, cS, qSB, eK, calmOp, guardS, gK, qK, putK, plK, dOk, St.ev, St.get, St.mem, St.set, St.setm, St.put, lookA, look, newK, nextver, initT, seqE, blockQ, bodyQ, resK, retV, AV.rdv, agg_uV, ↓binK, ↓intK, unK, ↓loadK, ↓withKey_eq, ↓idxAddrK, ↓indexK, ↓partK, ↓fieldK, ↓fieldAddrK, ↓convK, ↓callK, wrG, updK, ↓lenK, ↓mmK, ↓appK, ↓copyK, ↓sliceK, ↓toArrK, nilK, evs, plains, seqParts, capsOf, capsD, AV.dv, AV.cont, ↓buildV_eq, fillL, placesOf, ↓storeK, wrL, RV.av, DV.av, List.set, Nat.reduceEqDiff, Nat.reduceAdd, Nat.reduceSub, Nat.reduceMul, Nat.reduceLT, Nat.reduceLeDiff, Nat.reduceMod, Nat.reduceDiv, Int.reduceLT, Int.reduceLE, Int.reduceToNat, ↓reduceIte, reduceCtorEq, Value.oneCell', Int.reduceAdd, Int.reduceSub, Int.reduceMod, Int.reduceMul, Int.reduceNeg, Int.reduceBEq, Int.reduceBNe, Int.reduceTDiv, Int.reduceTMod, Int.reduceEq, tyB, Try.underlying13, Try.underlying25, Try.underlying26, Try.underlying39, Try.underlying40, Try.underlying72, Try.underlying73, cells_kV, hf, turnsG, constsG, rcV_eq, cells_byV, cells_toV, fold_byV, fold_toV]
  refine VT_rounds hΓ follows_mixed 25 ?_
  simp -implicitDefEqProofs (maxSteps := 100000000) only [vy_succ, vmB, slim, slimOp, gO, gSO, qSO, quietOp, cS, qSB, eK, calmOp, guardS, gK, qK, putK, plK, dOk, St.ev, St.get, St.mem, St.set, St.setm, St.put, lookA, look, newK, nextver, initT, seqE, blockQ, bodyQ, resK, retV, AV.rdv, agg_uV, ↓binK, ↓intK, unK, ↓loadK, ↓withKey_eq, ↓idxAddrK, ↓indexK, ↓partK, ↓fieldK, ↓fieldAddrK, ↓convK, ↓callK, wrG, updK, ↓lenK, ↓mmK, ↓appK, ↓copyK, ↓sliceK, ↓toArrK, nilK, evs, plains, seqParts, capsOf, capsD, AV.dv, AV.cont, ↓buildV_eq, fillL, placesOf, ↓storeK, wrL, RV.av, DV.av, List.set, Nat.reduceEqDiff, Nat.reduceAdd, Nat.reduceSub, Nat.reduceMul, Nat.reduceLT, Nat.reduceLeDiff, Nat.reduceMod, Nat.reduceDiv, Int.reduceLT, Int.reduceLE, Int.reduceToNat, ↓reduceIte, reduceCtorEq, Value.oneCell', Int.reduceAdd, Int.reduceSub, Int.reduceMod, Int.reduceMul, Int.reduceNeg, Int.reduceBEq, Int.reduceBNe, Int.reduceTDiv, Int.reduceTMod, Int.reduceEq, tyB, Try.underlying13, Try.underlying25, Try.underlying26, Try.underlying39, Try.underlying40, Try.underlying72, Try.underlying73, cells_kV, hf, foldM, fold_byV, fold_toV, isNil_byV, isNil_toV, isNil_kV, roundG, toK_kV, isT_self, rnd_cut, mixN_24, stR_0, okR_0, stR_1, okR_1, stR_2, okR_2, stR_3, okR_3, stR_4, okR_4, stR_5, okR_5, stR_6, okR_6, stR_7, okR_7, stR_8, okR_8, stR_9, okR_9, stR_10, okR_10, stR_11, okR_11, stR_12, okR_12, stR_13, okR_13, stR_14, okR_14, stR_15, okR_15, stR_16, okR_16, stR_17, okR_17, stR_18, okR_18, stR_19, okR_19, stR_20, okR_20, stR_21, okR_21, stR_22, okR_22, stR_23, okR_23]

theorem mix_ok : ∀ ds r, mixG ds = some r → Spec Try.prog 88 ds r := by
  intro ds r h
  unfold mixG at h
  split at h
  case h_2 => cases h
  rename_i va
  split at h
  case h_2 => cases h
  rename_i A hA
  cases h
  obtain ⟨rfl, hA'⟩ := toK_eq hA
  exact mix_walk A

theorem xor0_tn (y : W64) : bits .xor .u64 0 (tn y) = tn y := by
  have : tn 0#64 = 0 := by rw [tn_eq]; rfl
  rw [← this, bits_xor_tn, BitVec.zero_xor]
theorem sub_not_tn' (y : W64) : (18446744073709551615 - tn y) % 18446744073709551616 = tn (~~~y) := by
  rw [← sub_not_tn, IntKind.wrap_u64]
noncomputable def rroundG : List DV → Option RV
  | [.pl va, .pl (.int .i64 i)] => match toK va with
    | some A => if 0 ≤ i ∧ i < 24 then some (.one (.pl (kV (rnd A (rcw i.toNat))))) else none
    | none => none
  | _ => none

set_option maxHeartbeats 400000000 in
theorem rround_walk (A : K25) (i : Nat) (hi : i < 24) : Spec Try.prog 92 [.pl (kV A), .pl (.int .i64 i)] (.one (.pl (kV (rnd A (rcw i))))) := by
  have hΓ : Env.ok [(101, kAtG), (102, rotlG), (103, turnG), (104, lastG)] Try.prog := ok_cons kAt_ok (ok_cons kLeft_ok (ok_cons turn_ok (ok_cons last_ok (ok_nil _))))
  have i0 : (0 : Int) ≤ (i : Int) := by omega
  have i1 : (i : Int) < 24 := by omega
  have i2 : ((i : Nat) : Int).toNat = i := by omega
  refine Spec.of_vx hΓ follows_mixed Try.func92 rfl (by kernel_rfl) (T := []) (by simp [Try.ntmps92]) (by kernel_rfl) rfl Try.ntmps92 (res := [.cell 4 87]) rfl ?_
  intro W
  simp -implicitDefEqProofs (maxSteps := 100000000) only [kV, vy_succ, vmB, slim, slimOp, gO, gSO, qSO, quietOp, cS, qSB, eK, calmOp, guardS, gK, qK, putK, plK, dOk, St.ev, St.get, St.mem, St.set, St.setm, St.put, lookA, look, newK, nextver, initT, seqE, blockQ, bodyQ, resK, retV, AV.rdv, agg_uV, ↓binK, ↓intK, unK, ↓loadK, ↓withKey_eq, ↓idxAddrK, ↓indexK, ↓partK, ↓fieldK, ↓fieldAddrK, ↓convK, ↓callK, wrG, updK, ↓lenK, ↓mmK, ↓appK, ↓copyK, ↓sliceK, ↓toArrK, nilK, evs, plains, seqParts, capsOf, capsD, AV.dv, AV.cont, ↓buildV_eq, fillL, placesOf, ↓storeK, wrL, RV.av, DV.av, List.set, Nat.reduceEqDiff, Nat.reduceAdd, Nat.reduceSub, Nat.reduceMul, Nat.reduceLT, Nat.reduceLeDiff, Nat.reduceMod, Nat.reduceDiv, Int.reduceLT, Int.reduceLE, Int.reduceToNat, ↓reduceIte, reduceCtorEq, Value.oneCell', Int.reduceAdd, Int.reduceSub, Int.reduceMod, Int.reduceMul, Int.reduceNeg, Int.reduceBEq, Int.reduceBNe, Int.reduceTDiv, Int.reduceTMod, Int.reduceEq, tyB, Try.underlying13, Try.underlying25, Try.underlying26, Try.underlying39, Try.underlying40, Try.underlying72, Try.underlying73]
  refine VT_rounds hΓ follows_mixed 6 ?_
  simp -implicitDefEqProofs (maxSteps := 100000000) only [↓sub_not_tn, vy_succ, vmB, slim, slimOp, gO, gSO, qSO, quietOp, cS, qSB, eK, calmOp, guardS, gK, qK, putK, plK, dOk, St.ev, St.get, St.mem, St.set, St.setm, St.put, lookA, look, newK, nextver, initT, seqE, blockQ, bodyQ, resK, retV, AV.rdv, agg_uV, ↓binK, ↓intK, unK, ↓loadK, ↓withKey_eq, ↓idxAddrK, ↓indexK, ↓partK, ↓fieldK, ↓fieldAddrK, ↓convK, ↓callK, wrG, updK, ↓lenK, ↓mmK, ↓appK, ↓copyK, ↓sliceK, ↓toArrK, nilK, evs, plains, seqParts, capsOf, capsD, AV.dv, AV.cont, ↓buildV_eq, fillL, placesOf, ↓storeK, wrL, RV.av, DV.av, List.set, Nat.reduceEqDiff, Nat.reduceAdd, Nat.reduceSub, Nat.reduceMul, Nat.reduceLT, Nat.reduceLeDiff, Nat.reduceMod, Nat.reduceDiv, Int.reduceLT, Int.reduceLE, Int.reduceToNat, ↓reduceIte, reduceCtorEq, Value.oneCell', Int.reduceAdd, Int.reduceSub, Int.reduceMod, Int.reduceMul, Int.reduceNeg, Int.reduceBEq, Int.reduceBNe, Int.reduceTDiv, Int.reduceTMod, Int.reduceEq, tyB, Try.underlying13, Try.underlying25, Try.underlying26, Try.underlying39, Try.underlying40, Try.underlying72, Try.underlying73, kAtG, turnG, rotlG, lastG, okW_tn, nt_tn, i0, i1, i2, sub_not_tn', xor0_tn, bits_xor_tn, bits_and_tn, fC0, fC1, fC2, fC3, fC4, fD0, fD1, fD2, fD3, fD4, fB0, fB1, fB2, fB3, fB4, fB5, fB6, fB7, fB8, fB9, fB10, fB11, fB12, fB13, fB14, fB15, fB16, fB17, fB18, fB19, fB20, fB21, fB22, fB23, fB24, fE0, fE1, fE2, fE3, fE4, fE5, fE6, fE7, fE8, fE9, fE10, fE11, fE12, fE13, fE14, fE15, fE16, fE17, fE18, fE19, fE20, fE21, fE22, fE23, fE24, byT_0, byT_1, byT_2, byT_3, byT_4, byT_5, byT_6, byT_7, byT_8, byT_9, byT_10, byT_11, byT_12, byT_13, byT_14, byT_15, byT_16, byT_17, byT_18, byT_19, byT_20, byT_21, byT_22, byT_23, byT_24, rnd_0, rnd_1, rnd_2, rnd_3, rnd_4, rnd_5, rnd_6, rnd_7, rnd_8, rnd_9, rnd_10, rnd_11, rnd_12, rnd_13, rnd_14, rnd_15, rnd_16, rnd_17, rnd_18, rnd_19, rnd_20, rnd_21, rnd_22, rnd_23, rnd_24]
  iterate 5
    refine VT_rounds hΓ follows_mixed 6 ?_
    simp -implicitDefEqProofs (maxSteps := 100000000) only [↓sub_not_tn, vy_succ, vmB, slim, slimOp, gO, gSO, qSO, quietOp, cS, qSB, eK, calmOp, guardS, gK, qK, putK, plK, dOk, St.ev, St.get, St.mem, St.set, St.setm, St.put, lookA, look, newK, nextver, initT, seqE, blockQ, bodyQ, resK, retV, AV.rdv, agg_uV, ↓binK, ↓intK, unK, ↓loadK, ↓withKey_eq, ↓idxAddrK, ↓indexK, ↓partK, ↓fieldK, ↓fieldAddrK, ↓convK, ↓callK, wrG, updK, ↓lenK, ↓mmK, ↓appK, ↓copyK, ↓sliceK, ↓toArrK, nilK, evs, plains, seqParts, capsOf, capsD, AV.dv, AV.cont, ↓buildV_eq, fillL, placesOf, ↓storeK, wrL, RV.av, DV.av, List.set, Nat.reduceEqDiff, Nat.reduceAdd, Nat.reduceSub, Nat.reduceMul, Nat.reduceLT, Nat.reduceLeDiff, Nat.reduceMod, Nat.reduceDiv, Int.reduceLT, Int.reduceLE, Int.reduceToNat, ↓reduceIte, reduceCtorEq, Value.oneCell', Int.reduceAdd, Int.reduceSub, Int.reduceMod, Int.reduceMul, Int.reduceNeg, Int.reduceBEq, Int.reduceBNe, Int.reduceTDiv, Int.reduceTMod, Int.reduceEq, tyB, Try.underlying13, Try.underlying25, Try.underlying26, Try.underlying39, Try.underlying40, Try.underlying72, Try.underlying73, kAtG, turnG, rotlG, lastG, okW_tn, nt_tn, i0, i1, i2, sub_not_tn', xor0_tn, bits_xor_tn, bits_and_tn, fC0, fC1, fC2, fC3, fC4, fD0, fD1, fD2, fD3, fD4, fB0, fB1, fB2, fB3, fB4, fB5, fB6, fB7, fB8, fB9, fB10, fB11, fB12, fB13, fB14, fB15, fB16, fB17, fB18, fB19, fB20, fB21, fB22, fB23, fB24, fE0, fE1, fE2, fE3, fE4, fE5, fE6, fE7, fE8, fE9, fE10, fE11, fE12, fE13, fE14, fE15, fE16, fE17, fE18, fE19, fE20, fE21, fE22, fE23, fE24, byT_0, byT_1, byT_2, byT_3, byT_4, byT_5, byT_6, byT_7, byT_8, byT_9, byT_10, byT_11, byT_12, byT_13, byT_14, byT_15, byT_16, byT_17, byT_18, byT_19, byT_20, byT_21, byT_22, byT_23, byT_24, rnd_0, rnd_1, rnd_2, rnd_3, rnd_4, rnd_5, rnd_6, rnd_7, rnd_8, rnd_9, rnd_10, rnd_11, rnd_12, rnd_13, rnd_14, rnd_15, rnd_16, rnd_17, rnd_18, rnd_19, rnd_20, rnd_21, rnd_22, rnd_23, rnd_24]
  refine VT_rounds hΓ follows_mixed 6 ?_
  simp -implicitDefEqProofs (maxSteps := 100000000) only [↓sub_not_tn, vy_succ, vmB, slim, slimOp, gO, gSO, qSO, quietOp, cS, qSB, eK, calmOp, guardS, gK, qK, putK, plK, dOk, St.ev, St.get, St.mem, St.set, St.setm, St.put, lookA, look, newK, nextver, initT, seqE, blockQ, bodyQ, resK, retV, AV.rdv, agg_uV, ↓binK, ↓intK, unK, ↓loadK, ↓withKey_eq, ↓idxAddrK, ↓indexK, ↓partK, ↓fieldK, ↓fieldAddrK, ↓convK, ↓callK, wrG, updK, ↓lenK, ↓mmK, ↓appK, ↓copyK, ↓sliceK, ↓toArrK, nilK, evs, plains, seqParts, capsOf, capsD, AV.dv, AV.cont, ↓buildV_eq, fillL, placesOf, ↓storeK, wrL, RV.av, DV.av, List.set, Nat.reduceEqDiff, Nat.reduceAdd, Nat.reduceSub, Nat.reduceMul, Nat.reduceLT, Nat.reduceLeDiff, Nat.reduceMod, Nat.reduceDiv, Int.reduceLT, Int.reduceLE, Int.reduceToNat, ↓reduceIte, reduceCtorEq, Value.oneCell', Int.reduceAdd, Int.reduceSub, Int.reduceMod, Int.reduceMul, Int.reduceNeg, Int.reduceBEq, Int.reduceBNe, Int.reduceTDiv, Int.reduceTMod, Int.reduceEq, tyB, Try.underlying13, Try.underlying25, Try.underlying26, Try.underlying39, Try.underlying40, Try.underlying72, Try.underlying73, kAtG, turnG, rotlG, lastG, okW_tn, nt_tn, i0, i1, i2, sub_not_tn', xor0_tn, bits_xor_tn, bits_and_tn, fC0, fC1, fC2, fC3, fC4, fD0, fD1, fD2, fD3, fD4, fB0, fB1, fB2, fB3, fB4, fB5, fB6, fB7, fB8, fB9, fB10, fB11, fB12, fB13, fB14, fB15, fB16, fB17, fB18, fB19, fB20, fB21, fB22, fB23, fB24, fE0, fE1, fE2, fE3, fE4, fE5, fE6, fE7, fE8, fE9, fE10, fE11, fE12, fE13, fE14, fE15, fE16, fE17, fE18, fE19, fE20, fE21, fE22, fE23, fE24, byT_0, byT_1, byT_2, byT_3, byT_4, byT_5, byT_6, byT_7, byT_8, byT_9, byT_10, byT_11, byT_12, byT_13, byT_14, byT_15, byT_16, byT_17, byT_18, byT_19, byT_20, byT_21, byT_22, byT_23, byT_24, rnd_0, rnd_1, rnd_2, rnd_3, rnd_4, rnd_5, rnd_6, rnd_7, rnd_8, rnd_9, rnd_10, rnd_11, rnd_12, rnd_13, rnd_14, rnd_15, rnd_16, rnd_17, rnd_18, rnd_19, rnd_20, rnd_21, rnd_22, rnd_23, rnd_24]
  iterate 5
    refine VT_rounds hΓ follows_mixed 6 ?_
    simp -implicitDefEqProofs (maxSteps := 100000000) only [↓sub_not_tn, vy_succ, vmB, slim, slimOp, gO, gSO, qSO, quietOp, cS, qSB, eK, calmOp, guardS, gK, qK, putK, plK, dOk, St.ev, St.get, St.mem, St.set, St.setm, St.put, lookA, look, newK, nextver, initT, seqE, blockQ, bodyQ, resK, retV, AV.rdv, agg_uV, ↓binK, ↓intK, unK, ↓loadK, ↓withKey_eq, ↓idxAddrK, ↓indexK, ↓partK, ↓fieldK, ↓fieldAddrK, ↓convK, ↓callK, wrG, updK, ↓lenK, ↓mmK, ↓appK, ↓copyK, ↓sliceK, ↓toArrK, nilK, evs, plains, seqParts, capsOf, capsD, AV.dv, AV.cont, ↓buildV_eq, fillL, placesOf, ↓storeK, wrL, RV.av, DV.av, List.set, Nat.reduceEqDiff, Nat.reduceAdd, Nat.reduceSub, Nat.reduceMul, Nat.reduceLT, Nat.reduceLeDiff, Nat.reduceMod, Nat.reduceDiv, Int.reduceLT, Int.reduceLE, Int.reduceToNat, ↓reduceIte, reduceCtorEq, Value.oneCell', Int.reduceAdd, Int.reduceSub, Int.reduceMod, Int.reduceMul, Int.reduceNeg, Int.reduceBEq, Int.reduceBNe, Int.reduceTDiv, Int.reduceTMod, Int.reduceEq, tyB, Try.underlying13, Try.underlying25, Try.underlying26, Try.underlying39, Try.underlying40, Try.underlying72, Try.underlying73, kAtG, turnG, rotlG, lastG, okW_tn, nt_tn, i0, i1, i2, sub_not_tn', xor0_tn, bits_xor_tn, bits_and_tn, fC0, fC1, fC2, fC3, fC4, fD0, fD1, fD2, fD3, fD4, fB0, fB1, fB2, fB3, fB4, fB5, fB6, fB7, fB8, fB9, fB10, fB11, fB12, fB13, fB14, fB15, fB16, fB17, fB18, fB19, fB20, fB21, fB22, fB23, fB24, fE0, fE1, fE2, fE3, fE4, fE5, fE6, fE7, fE8, fE9, fE10, fE11, fE12, fE13, fE14, fE15, fE16, fE17, fE18, fE19, fE20, fE21, fE22, fE23, fE24, byT_0, byT_1, byT_2, byT_3, byT_4, byT_5, byT_6, byT_7, byT_8, byT_9, byT_10, byT_11, byT_12, byT_13, byT_14, byT_15, byT_16, byT_17, byT_18, byT_19, byT_20, byT_21, byT_22, byT_23, byT_24, rnd_0, rnd_1, rnd_2, rnd_3, rnd_4, rnd_5, rnd_6, rnd_7, rnd_8, rnd_9, rnd_10, rnd_11, rnd_12, rnd_13, rnd_14, rnd_15, rnd_16, rnd_17, rnd_18, rnd_19, rnd_20, rnd_21, rnd_22, rnd_23, rnd_24]
  refine VT_rounds hΓ follows_mixed 6 ?_
  simp -implicitDefEqProofs (maxSteps := 100000000) only [↓sub_not_tn, vy_succ, vmB, slim, slimOp, gO, gSO, qSO, quietOp, cS, qSB, eK, calmOp, guardS, gK, qK, putK, plK, dOk, St.ev, St.get, St.mem, St.set, St.setm, St.put, lookA, look, newK, nextver, initT, seqE, blockQ, bodyQ, resK, retV, AV.rdv, agg_uV, ↓binK, ↓intK, unK, ↓loadK, ↓withKey_eq, ↓idxAddrK, ↓indexK, ↓partK, ↓fieldK, ↓fieldAddrK, ↓convK, ↓callK, wrG, updK, ↓lenK, ↓mmK, ↓appK, ↓copyK, ↓sliceK, ↓toArrK, nilK, evs, plains, seqParts, capsOf, capsD, AV.dv, AV.cont, ↓buildV_eq, fillL, placesOf, ↓storeK, wrL, RV.av, DV.av, List.set, Nat.reduceEqDiff, Nat.reduceAdd, Nat.reduceSub, Nat.reduceMul, Nat.reduceLT, Nat.reduceLeDiff, Nat.reduceMod, Nat.reduceDiv, Int.reduceLT, Int.reduceLE, Int.reduceToNat, ↓reduceIte, reduceCtorEq, Value.oneCell', Int.reduceAdd, Int.reduceSub, Int.reduceMod, Int.reduceMul, Int.reduceNeg, Int.reduceBEq, Int.reduceBNe, Int.reduceTDiv, Int.reduceTMod, Int.reduceEq, tyB, Try.underlying13, Try.underlying25, Try.underlying26, Try.underlying39, Try.underlying40, Try.underlying72, Try.underlying73, kAtG, turnG, rotlG, lastG, okW_tn, nt_tn, i0, i1, i2, sub_not_tn', xor0_tn, bits_xor_tn, bits_and_tn, fC0, fC1, fC2, fC3, fC4, fD0, fD1, fD2, fD3, fD4, fB0, fB1, fB2, fB3, fB4, fB5, fB6, fB7, fB8, fB9, fB10, fB11, fB12, fB13, fB14, fB15, fB16, fB17, fB18, fB19, fB20, fB21, fB22, fB23, fB24, fE0, fE1, fE2, fE3, fE4, fE5, fE6, fE7, fE8, fE9, fE10, fE11, fE12, fE13, fE14, fE15, fE16, fE17, fE18, fE19, fE20, fE21, fE22, fE23, fE24, byT_0, byT_1, byT_2, byT_3, byT_4, byT_5, byT_6, byT_7, byT_8, byT_9, byT_10, byT_11, byT_12, byT_13, byT_14, byT_15, byT_16, byT_17, byT_18, byT_19, byT_20, byT_21, byT_22, byT_23, byT_24, rnd_0, rnd_1, rnd_2, rnd_3, rnd_4, rnd_5, rnd_6, rnd_7, rnd_8, rnd_9, rnd_10, rnd_11, rnd_12, rnd_13, rnd_14, rnd_15, rnd_16, rnd_17, rnd_18, rnd_19, rnd_20, rnd_21, rnd_22, rnd_23, rnd_24]
  iterate 5
    refine VT_rounds hΓ follows_mixed 6 ?_
    simp -implicitDefEqProofs (maxSteps := 100000000) only [↓sub_not_tn, vy_succ, vmB, slim, slimOp, gO, gSO, qSO, quietOp, cS, qSB, eK, calmOp, guardS, gK, qK, putK, plK, dOk, St.ev, St.get, St.mem, St.set, St.setm, St.put, lookA, look, newK, nextver, initT, seqE, blockQ, bodyQ, resK, retV, AV.rdv, agg_uV, ↓binK, ↓intK, unK, ↓loadK, ↓withKey_eq, ↓idxAddrK, ↓indexK, ↓partK, ↓fieldK, ↓fieldAddrK, ↓convK, ↓callK, wrG, updK, ↓lenK, ↓mmK, ↓appK, ↓copyK, ↓sliceK, ↓toArrK, nilK, evs, plains, seqParts, capsOf, capsD, AV.dv, AV.cont, ↓buildV_eq, fillL, placesOf, ↓storeK, wrL, RV.av, DV.av, List.set, Nat.reduceEqDiff, Nat.reduceAdd, Nat.reduceSub, Nat.reduceMul, Nat.reduceLT, Nat.reduceLeDiff, Nat.reduceMod, Nat.reduceDiv, Int.reduceLT, Int.reduceLE, Int.reduceToNat, ↓reduceIte, reduceCtorEq, Value.oneCell', Int.reduceAdd, Int.reduceSub, Int.reduceMod, Int.reduceMul, Int.reduceNeg, Int.reduceBEq, Int.reduceBNe, Int.reduceTDiv, Int.reduceTMod, Int.reduceEq, tyB, Try.underlying13, Try.underlying25, Try.underlying26, Try.underlying39, Try.underlying40, Try.underlying72, Try.underlying73, kAtG, turnG, rotlG, lastG, okW_tn, nt_tn, i0, i1, i2, sub_not_tn', xor0_tn, bits_xor_tn, bits_and_tn, fC0, fC1, fC2, fC3, fC4, fD0, fD1, fD2, fD3, fD4, fB0, fB1, fB2, fB3, fB4, fB5, fB6, fB7, fB8, fB9, fB10, fB11, fB12, fB13, fB14, fB15, fB16, fB17, fB18, fB19, fB20, fB21, fB22, fB23, fB24, fE0, fE1, fE2, fE3, fE4, fE5, fE6, fE7, fE8, fE9, fE10, fE11, fE12, fE13, fE14, fE15, fE16, fE17, fE18, fE19, fE20, fE21, fE22, fE23, fE24, byT_0, byT_1, byT_2, byT_3, byT_4, byT_5, byT_6, byT_7, byT_8, byT_9, byT_10, byT_11, byT_12, byT_13, byT_14, byT_15, byT_16, byT_17, byT_18, byT_19, byT_20, byT_21, byT_22, byT_23, byT_24, rnd_0, rnd_1, rnd_2, rnd_3, rnd_4, rnd_5, rnd_6, rnd_7, rnd_8, rnd_9, rnd_10, rnd_11, rnd_12, rnd_13, rnd_14, rnd_15, rnd_16, rnd_17, rnd_18, rnd_19, rnd_20, rnd_21, rnd_22, rnd_23, rnd_24]

theorem rround_ok : ∀ ds r, rroundG ds = some r → Spec Try.prog 92 ds r := by
  intro ds r h
  unfold rroundG at h
  split at h
  case h_2 => cases h
  rename_i va i
  split at h
  case h_2 => cases h
  rename_i A hA
  split at h
  case isFalse => cases h
  rename_i hc
  cases h
  obtain ⟨rfl, hA'⟩ := toK_eq hA
  obtain ⟨i, rfl⟩ := Int.eq_ofNat_of_zero_le hc.1
  have := rround_walk A i (by omega)
  rw [Int.toNat_natCast]
  exact this

set_option maxHeartbeats 400000000 in
theorem rmix_walk (A : K25) : Spec Try.prog 72 [.pl (kV A)] (.one (.pl (kV (mixN 24 A)))) := by
  have hΓ : Env.ok [(92, rroundG)] Try.prog := ok_cons rround_ok (ok_nil _)
  have hf := kV_fold A
  refine Spec.of_vx hΓ follows_mixed Try.func72 rfl (by kernel_rfl) (T := []) (by simp [Try.ntmps72]) (by kernel_rfl) rfl Try.ntmps72 (res := [.cell 2 87]) rfl ?_
  intro W
  simp -implicitDefEqProofs (maxSteps := 100000000) only [vy_succ, vmB, slim, slimOp, gO, gSO, qSO, quietOp, cS, qSB, eK, calmOp, guardS, gK, qK, putK, plK, dOk, St.ev, St.get, St.mem, St.set, St.setm, St.put, lookA, look, newK, nextver, initT, seqE, blockQ, bodyQ, resK, retV, AV.rdv, agg_uV, ↓binK, ↓intK, unK, ↓loadK, ↓withKey_eq, ↓idxAddrK, ↓indexK, ↓partK, ↓fieldK, ↓fieldAddrK, ↓convK, ↓callK, wrG, updK, ↓lenK, ↓mmK, ↓appK, ↓copyK, ↓sliceK, ↓toArrK, nilK, evs, plains, seqParts, capsOf, capsD, AV.dv, AV.cont, ↓buildV_eq, fillL, placesOf, ↓storeK, wrL, RV.av, DV.av, List.set, Nat.reduceEqDiff, Nat.reduceAdd, Nat.reduceSub, Nat.reduceMul, Nat.reduceLT, Nat.reduceLeDiff, Nat.reduceMod, Nat.reduceDiv, Int.reduceLT, Int.reduceLE, Int.reduceToNat, ↓reduceIte, reduceCtorEq, Value.oneCell', Int.reduceAdd, Int.reduceSub, Int.reduceMod, Int.reduceMul, Int.reduceNeg, Int.reduceBEq, Int.reduceBNe, Int.reduceTDiv, Int.reduceTMod, Int.reduceEq, tyB, Try.underlying13, Try.underlying25, Try.underlying26, Try.underlying39, Try.underlying40, Try.underlying72, Try.underlying73, cells_kV, hf]
  refine VT_rounds hΓ follows_mixed 25 ?_
  simp -implicitDefEqProofs (maxSteps := 100000000) only [vy_succ, vmB, slim, slimOp, gO, gSO, qSO, quietOp, cS, qSB, eK, calmOp, guardS, gK, qK, putK, plK, dOk, St.ev, St.get, St.mem, St.set, St.setm, St.put, lookA, look, newK, nextver, initT, seqE, blockQ, bodyQ, resK, retV, AV.rdv, agg_uV, ↓binK, ↓intK, unK, ↓loadK, ↓withKey_eq, ↓idxAddrK, ↓indexK, ↓partK, ↓fieldK, ↓fieldAddrK, ↓convK, ↓callK, wrG, updK, ↓lenK, ↓mmK, ↓appK, ↓copyK, ↓sliceK, ↓toArrK, nilK, evs, plains, seqParts, capsOf, capsD, AV.dv, AV.cont, ↓buildV_eq, fillL, placesOf, ↓storeK, wrL, RV.av, DV.av, List.set, Nat.reduceEqDiff, Nat.reduceAdd, Nat.reduceSub, Nat.reduceMul, Nat.reduceLT, Nat.reduceLeDiff, Nat.reduceMod, Nat.reduceDiv, Int.reduceLT, Int.reduceLE, Int.reduceToNat, ↓reduceIte, reduceCtorEq, Value.oneCell', Int.reduceAdd, Int.reduceSub, Int.reduceMod, Int.reduceMul, Int.reduceNeg, Int.reduceBEq, Int.reduceBNe, Int.reduceTDiv, Int.reduceTMod, Int.reduceEq, tyB, Try.underlying13, Try.underlying25, Try.underlying26, Try.underlying39, Try.underlying40, Try.underlying72, Try.underlying73, cells_kV, hf, foldM, isNil_kV, rroundG, toK_kV, rnd_cut, mixN_1, mixN_succ, mixN_24]

theorem rmix_ok : ∀ ds r, mixG ds = some r → Spec Try.prog 72 ds r := by
  intro ds r h
  unfold mixG at h
  split at h
  case h_2 => cases h
  rename_i va
  split at h
  case h_2 => cases h
  rename_i A hA
  cases h
  obtain ⟨rfl, hA'⟩ := toK_eq hA
  exact rmix_walk A
end Go.Vm

/- Strings as lists of bytes. No condition. -/
set_option maxRecDepth 100000
set_option linter.unusedSimpArgs false
set_option linter.unusedVariables false
namespace Go.Vm
open Go Go.RowKit Go.Proofs

theorem loop_toList (b : ByteArray) : ∀ (n i : Nat) (r : List UInt8), b.size - i = n → ByteArray.toList.loop b i r = r.reverse ++ b.data.toList.drop i
  | 0, i, r, h => by
    unfold ByteArray.toList.loop
    rw [if_neg (by omega), List.drop_eq_nil_of_le (by simp; exact Nat.le_of_sub_eq_zero h), List.append_nil]
  | n + 1, i, r, h => by
    unfold ByteArray.toList.loop
    have hi : i < b.size := by omega
    rw [if_pos hi, loop_toList b n (i + 1) _ (by omega)]
    have h2 : i < b.data.toList.length := by simpa using hi
    rw [List.drop_eq_getElem_cons h2]
    have h3 : b.get! i = b.data.toList[i] := by
      show b.data[i]! = _
      have h4 : i < b.data.size := hi
      rw [getElem!_pos b.data i h4]; rfl
    rw [h3]
    simp
theorem ba_toList (b : ByteArray) : b.toList = b.data.toList := by
  have := loop_toList b _ 0 [] rfl
  simpa [ByteArray.toList] using this
theorem bstr_toList (l : List UInt8) : (bstr l).toList = l := by rw [ba_toList]; rfl
theorem bstr_size' (l : List UInt8) : (bstr l).size = l.length := by simp [bstr, ByteArray.size]
theorem bstr_of (s : ByteArray) : s = bstr s.data.toList := by simp [bstr]
theorem bstr_append (a b : List UInt8) : bstr a ++ bstr b = bstr (a ++ b) := by
  apply ByteArray.ext
  simp [bstr]
theorem bstr_extract (l : List UInt8) (i j : Nat) : (bstr l).extract i j = bstr ((l.drop i).take (j - i)) := by
  apply ByteArray.ext
  simp only [bstr, ByteArray.data_extract]
  rw [List.extract_toArray, List.extract_eq_drop_take']
  simp [List.drop_take]
theorem bstr_drop (l : List UInt8) (i : Nat) : (bstr l).extract i l.length = bstr (l.drop i) := by
  rw [bstr_extract, List.take_of_length_le (by simp)]
theorem bstr_take (l : List UInt8) (i : Nat) : (bstr l).extract 0 i = bstr (l.take i) := by
  rw [bstr_extract, List.drop_zero, Nat.sub_zero]
theorem bstr_get (l : List UInt8) (i : Nat) : (bstr l)[i]?.getD 0 = l[i]?.getD 0 := by
  by_cases h : i < l.length
  · have h2 : i < (bstr l).size := by rw [bstr_size']; exact h
    rw [getElem?_pos (bstr l) i h2, List.getElem?_eq_getElem h]
    rfl
  · have h2 : ¬ i < (bstr l).size := by rw [bstr_size']; exact h
    rw [getElem?_neg (bstr l) i h2, List.getElem?_eq_none (by omega)]

/-- bytes as values -/
noncomputable def vB : List UInt8 → List Value := Classical.choose (⟨fun l => l.map fun b => .int .u8 (b.toNat : Int), rfl⟩ : ∃ y : List UInt8 → List Value, y = fun l => l.map fun b => .int .u8 (b.toNat : Int))
theorem vB_eq : vB = fun l => l.map fun b => .int .u8 (b.toNat : Int) := Classical.choose_spec (⟨fun l => l.map fun b => .int .u8 (b.toNat : Int), rfl⟩ : ∃ y : List UInt8 → List Value, y = fun l => l.map fun b => .int .u8 (b.toNat : Int))
theorem vB_len (l : List UInt8) : (vB l).length = l.length := by rw [vB_eq]; simp
theorem vB_append (a b : List UInt8) : vB a ++ vB b = vB (a ++ b) := by rw [vB_eq]; simp
theorem vB_drop (l : List UInt8) (k : Nat) : (vB l).drop k = vB (l.drop k) := by rw [vB_eq]; simp
theorem vB_take (l : List UInt8) (k : Nat) : (vB l).take k = vB (l.take k) := by rw [vB_eq]; simp
theorem vB_nil : vB [] = [] := by rw [vB_eq]; rfl
theorem vB_get (l : List UInt8) (i : Nat) (h : i < l.length) : (vB l)[i]?.getD undef = .int .u8 ((l[i]?.getD 0).toNat : Int) := by
  rw [vB_eq]; simp [h]
theorem vB_u8s (l : List UInt8) : u8s (vB l) = some l := by
  have e : vB l = (l.map fun b => ((b.toNat : Nat) : Int)).map (Value.int .u8) := by rw [vB_eq, List.map_map]; rfl
  rw [e, u8s_map, List.map_map]
  congr 1
  clear e
  induction l with
  | nil => rfl
  | cons b l ih => rw [List.map_cons, ih]; simp
theorem vB_all (l : List UInt8) : (vB l).all Value.oneCell' = true := by
  rw [vB_eq]; simp [Value.oneCell']
theorem vB_of (l : List UInt8) : (l.map fun b => Value.int .u8 (b.toNat : Int)) = vB l := by rw [vB_eq]
theorem wrL_one : ∀ (L : List Value) (i : Nat) (v : Value), wrL L i [v] = L.set i v
  | _, _, _ => rfl
theorem vB_set (l : List UInt8) (i : Nat) (b : UInt8) : (vB l).set i (.int .u8 (b.toNat : Int)) = vB (l.set i b) := by rw [vB_eq]; simp [List.map_set]
end Go.Vm

/- The sum of a text, in lists of bytes. No condition. -/
set_option maxRecDepth 100000
set_option linter.unusedSimpArgs false
set_option linter.unusedVariables false
namespace Go.Vm
open Go Go.RowKit Go.Proofs

noncomputable def bt : List UInt8 → Nat → W64 := Classical.choose (⟨fun l j => BitVec.ofNat 64 (l[j]?.getD 0).toNat, rfl⟩ : ∃ y : List UInt8 → Nat → W64, y = fun l j => BitVec.ofNat 64 (l[j]?.getD 0).toNat)
theorem bt_eq : bt = fun l j => BitVec.ofNat 64 (l[j]?.getD 0).toNat := Classical.choose_spec (⟨fun l j => BitVec.ofNat 64 (l[j]?.getD 0).toNat, rfl⟩ : ∃ y : List UInt8 → Nat → W64, y = fun l j => BitVec.ofNat 64 (l[j]?.getD 0).toNat)
noncomputable def wd : List UInt8 → W64 := Classical.choose (⟨fun l => bt l 0 <<< 0 ^^^ bt l 1 <<< 8 ^^^ bt l 2 <<< 16 ^^^ bt l 3 <<< 24 ^^^ bt l 4 <<< 32 ^^^ bt l 5 <<< 40 ^^^ bt l 6 <<< 48 ^^^ bt l 7 <<< 56, rfl⟩ : ∃ y : List UInt8 → W64, y = fun l => bt l 0 <<< 0 ^^^ bt l 1 <<< 8 ^^^ bt l 2 <<< 16 ^^^ bt l 3 <<< 24 ^^^ bt l 4 <<< 32 ^^^ bt l 5 <<< 40 ^^^ bt l 6 <<< 48 ^^^ bt l 7 <<< 56)
theorem wd_eq : wd = fun l => bt l 0 <<< 0 ^^^ bt l 1 <<< 8 ^^^ bt l 2 <<< 16 ^^^ bt l 3 <<< 24 ^^^ bt l 4 <<< 32 ^^^ bt l 5 <<< 40 ^^^ bt l 6 <<< 48 ^^^ bt l 7 <<< 56 := Classical.choose_spec (⟨fun l => bt l 0 <<< 0 ^^^ bt l 1 <<< 8 ^^^ bt l 2 <<< 16 ^^^ bt l 3 <<< 24 ^^^ bt l 4 <<< 32 ^^^ bt l 5 <<< 40 ^^^ bt l 6 <<< 48 ^^^ bt l 7 <<< 56, rfl⟩ : ∃ y : List UInt8 → W64, y = fun l => bt l 0 <<< 0 ^^^ bt l 1 <<< 8 ^^^ bt l 2 <<< 16 ^^^ bt l 3 <<< 24 ^^^ bt l 4 <<< 32 ^^^ bt l 5 <<< 40 ^^^ bt l 6 <<< 48 ^^^ bt l 7 <<< 56)
noncomputable def xb : K25 → List UInt8 → K25 := Classical.choose (⟨fun (A : K25) l i => if i < 17 then A i ^^^ wd (l.drop (8 * i)) else A i, rfl⟩ : ∃ y : K25 → List UInt8 → K25, y = fun (A : K25) l i => if i < 17 then A i ^^^ wd (l.drop (8 * i)) else A i)
theorem xb_eq : xb = fun (A : K25) l i => if i < 17 then A i ^^^ wd (l.drop (8 * i)) else A i := Classical.choose_spec (⟨fun (A : K25) l i => if i < 17 then A i ^^^ wd (l.drop (8 * i)) else A i, rfl⟩ : ∃ y : K25 → List UInt8 → K25, y = fun (A : K25) l i => if i < 17 then A i ^^^ wd (l.drop (8 * i)) else A i)
noncomputable def absN0 : Nat → K25 → List UInt8 → K25
  | 0, A, _ => A
  | n + 1, A, l => absN0 n (mixN 24 (xb A l)) (l.drop 136)
noncomputable def absN : Nat → K25 → List UInt8 → K25 := Classical.choose (⟨absN0, rfl⟩ : ∃ y : Nat → K25 → List UInt8 → K25, y = absN0)
theorem absN_eq : absN = absN0 := Classical.choose_spec (⟨absN0, rfl⟩ : ∃ y : Nat → K25 → List UInt8 → K25, y = absN0)
noncomputable def lo8 : W64 → UInt8 := Classical.choose (⟨fun x => UInt8.ofNat x.toNat, rfl⟩ : ∃ y : W64 → UInt8, y = fun x => UInt8.ofNat x.toNat)
theorem lo8_eq : lo8 = fun x => UInt8.ofNat x.toNat := Classical.choose_spec (⟨fun x => UInt8.ofNat x.toNat, rfl⟩ : ∃ y : W64 → UInt8, y = fun x => UInt8.ofNat x.toNat)
noncomputable def outL : K25 → List UInt8 := Classical.choose (⟨fun (A : K25) => [lo8 (A 0 >>> (0 : Nat) : W64), lo8 (A 0 >>> (8 : Nat) : W64), lo8 (A 0 >>> (16 : Nat) : W64), lo8 (A 0 >>> (24 : Nat) : W64), lo8 (A 0 >>> (32 : Nat) : W64), lo8 (A 0 >>> (40 : Nat) : W64), lo8 (A 0 >>> (48 : Nat) : W64), lo8 (A 0 >>> (56 : Nat) : W64), lo8 (A 1 >>> (0 : Nat) : W64), lo8 (A 1 >>> (8 : Nat) : W64), lo8 (A 1 >>> (16 : Nat) : W64), lo8 (A 1 >>> (24 : Nat) : W64), lo8 (A 1 >>> (32 : Nat) : W64), lo8 (A 1 >>> (40 : Nat) : W64), lo8 (A 1 >>> (48 : Nat) : W64), lo8 (A 1 >>> (56 : Nat) : W64), lo8 (A 2 >>> (0 : Nat) : W64), lo8 (A 2 >>> (8 : Nat) : W64), lo8 (A 2 >>> (16 : Nat) : W64), lo8 (A 2 >>> (24 : Nat) : W64), lo8 (A 2 >>> (32 : Nat) : W64), lo8 (A 2 >>> (40 : Nat) : W64), lo8 (A 2 >>> (48 : Nat) : W64), lo8 (A 2 >>> (56 : Nat) : W64), lo8 (A 3 >>> (0 : Nat) : W64), lo8 (A 3 >>> (8 : Nat) : W64), lo8 (A 3 >>> (16 : Nat) : W64), lo8 (A 3 >>> (24 : Nat) : W64), lo8 (A 3 >>> (32 : Nat) : W64), lo8 (A 3 >>> (40 : Nat) : W64), lo8 (A 3 >>> (48 : Nat) : W64), lo8 (A 3 >>> (56 : Nat) : W64)], rfl⟩ : ∃ y : K25 → List UInt8, y = fun (A : K25) => [lo8 (A 0 >>> (0 : Nat) : W64), lo8 (A 0 >>> (8 : Nat) : W64), lo8 (A 0 >>> (16 : Nat) : W64), lo8 (A 0 >>> (24 : Nat) : W64), lo8 (A 0 >>> (32 : Nat) : W64), lo8 (A 0 >>> (40 : Nat) : W64), lo8 (A 0 >>> (48 : Nat) : W64), lo8 (A 0 >>> (56 : Nat) : W64), lo8 (A 1 >>> (0 : Nat) : W64), lo8 (A 1 >>> (8 : Nat) : W64), lo8 (A 1 >>> (16 : Nat) : W64), lo8 (A 1 >>> (24 : Nat) : W64), lo8 (A 1 >>> (32 : Nat) : W64), lo8 (A 1 >>> (40 : Nat) : W64), lo8 (A 1 >>> (48 : Nat) : W64), lo8 (A 1 >>> (56 : Nat) : W64), lo8 (A 2 >>> (0 : Nat) : W64), lo8 (A 2 >>> (8 : Nat) : W64), lo8 (A 2 >>> (16 : Nat) : W64), lo8 (A 2 >>> (24 : Nat) : W64), lo8 (A 2 >>> (32 : Nat) : W64), lo8 (A 2 >>> (40 : Nat) : W64), lo8 (A 2 >>> (48 : Nat) : W64), lo8 (A 2 >>> (56 : Nat) : W64), lo8 (A 3 >>> (0 : Nat) : W64), lo8 (A 3 >>> (8 : Nat) : W64), lo8 (A 3 >>> (16 : Nat) : W64), lo8 (A 3 >>> (24 : Nat) : W64), lo8 (A 3 >>> (32 : Nat) : W64), lo8 (A 3 >>> (40 : Nat) : W64), lo8 (A 3 >>> (48 : Nat) : W64), lo8 (A 3 >>> (56 : Nat) : W64)])
theorem outL_eq : outL = fun (A : K25) => [lo8 (A 0 >>> (0 : Nat) : W64), lo8 (A 0 >>> (8 : Nat) : W64), lo8 (A 0 >>> (16 : Nat) : W64), lo8 (A 0 >>> (24 : Nat) : W64), lo8 (A 0 >>> (32 : Nat) : W64), lo8 (A 0 >>> (40 : Nat) : W64), lo8 (A 0 >>> (48 : Nat) : W64), lo8 (A 0 >>> (56 : Nat) : W64), lo8 (A 1 >>> (0 : Nat) : W64), lo8 (A 1 >>> (8 : Nat) : W64), lo8 (A 1 >>> (16 : Nat) : W64), lo8 (A 1 >>> (24 : Nat) : W64), lo8 (A 1 >>> (32 : Nat) : W64), lo8 (A 1 >>> (40 : Nat) : W64), lo8 (A 1 >>> (48 : Nat) : W64), lo8 (A 1 >>> (56 : Nat) : W64), lo8 (A 2 >>> (0 : Nat) : W64), lo8 (A 2 >>> (8 : Nat) : W64), lo8 (A 2 >>> (16 : Nat) : W64), lo8 (A 2 >>> (24 : Nat) : W64), lo8 (A 2 >>> (32 : Nat) : W64), lo8 (A 2 >>> (40 : Nat) : W64), lo8 (A 2 >>> (48 : Nat) : W64), lo8 (A 2 >>> (56 : Nat) : W64), lo8 (A 3 >>> (0 : Nat) : W64), lo8 (A 3 >>> (8 : Nat) : W64), lo8 (A 3 >>> (16 : Nat) : W64), lo8 (A 3 >>> (24 : Nat) : W64), lo8 (A 3 >>> (32 : Nat) : W64), lo8 (A 3 >>> (40 : Nat) : W64), lo8 (A 3 >>> (48 : Nat) : W64), lo8 (A 3 >>> (56 : Nat) : W64)] := Classical.choose_spec (⟨fun (A : K25) => [lo8 (A 0 >>> (0 : Nat) : W64), lo8 (A 0 >>> (8 : Nat) : W64), lo8 (A 0 >>> (16 : Nat) : W64), lo8 (A 0 >>> (24 : Nat) : W64), lo8 (A 0 >>> (32 : Nat) : W64), lo8 (A 0 >>> (40 : Nat) : W64), lo8 (A 0 >>> (48 : Nat) : W64), lo8 (A 0 >>> (56 : Nat) : W64), lo8 (A 1 >>> (0 : Nat) : W64), lo8 (A 1 >>> (8 : Nat) : W64), lo8 (A 1 >>> (16 : Nat) : W64), lo8 (A 1 >>> (24 : Nat) : W64), lo8 (A 1 >>> (32 : Nat) : W64), lo8 (A 1 >>> (40 : Nat) : W64), lo8 (A 1 >>> (48 : Nat) : W64), lo8 (A 1 >>> (56 : Nat) : W64), lo8 (A 2 >>> (0 : Nat) : W64), lo8 (A 2 >>> (8 : Nat) : W64), lo8 (A 2 >>> (16 : Nat) : W64), lo8 (A 2 >>> (24 : Nat) : W64), lo8 (A 2 >>> (32 : Nat) : W64), lo8 (A 2 >>> (40 : Nat) : W64), lo8 (A 2 >>> (48 : Nat) : W64), lo8 (A 2 >>> (56 : Nat) : W64), lo8 (A 3 >>> (0 : Nat) : W64), lo8 (A 3 >>> (8 : Nat) : W64), lo8 (A 3 >>> (16 : Nat) : W64), lo8 (A 3 >>> (24 : Nat) : W64), lo8 (A 3 >>> (32 : Nat) : W64), lo8 (A 3 >>> (40 : Nat) : W64), lo8 (A 3 >>> (48 : Nat) : W64), lo8 (A 3 >>> (56 : Nat) : W64)], rfl⟩ : ∃ y : K25 → List UInt8, y = fun (A : K25) => [lo8 (A 0 >>> (0 : Nat) : W64), lo8 (A 0 >>> (8 : Nat) : W64), lo8 (A 0 >>> (16 : Nat) : W64), lo8 (A 0 >>> (24 : Nat) : W64), lo8 (A 0 >>> (32 : Nat) : W64), lo8 (A 0 >>> (40 : Nat) : W64), lo8 (A 0 >>> (48 : Nat) : W64), lo8 (A 0 >>> (56 : Nat) : W64), lo8 (A 1 >>> (0 : Nat) : W64), lo8 (A 1 >>> (8 : Nat) : W64), lo8 (A 1 >>> (16 : Nat) : W64), lo8 (A 1 >>> (24 : Nat) : W64), lo8 (A 1 >>> (32 : Nat) : W64), lo8 (A 1 >>> (40 : Nat) : W64), lo8 (A 1 >>> (48 : Nat) : W64), lo8 (A 1 >>> (56 : Nat) : W64), lo8 (A 2 >>> (0 : Nat) : W64), lo8 (A 2 >>> (8 : Nat) : W64), lo8 (A 2 >>> (16 : Nat) : W64), lo8 (A 2 >>> (24 : Nat) : W64), lo8 (A 2 >>> (32 : Nat) : W64), lo8 (A 2 >>> (40 : Nat) : W64), lo8 (A 2 >>> (48 : Nat) : W64), lo8 (A 2 >>> (56 : Nat) : W64), lo8 (A 3 >>> (0 : Nat) : W64), lo8 (A 3 >>> (8 : Nat) : W64), lo8 (A 3 >>> (16 : Nat) : W64), lo8 (A 3 >>> (24 : Nat) : W64), lo8 (A 3 >>> (32 : Nat) : W64), lo8 (A 3 >>> (40 : Nat) : W64), lo8 (A 3 >>> (48 : Nat) : W64), lo8 (A 3 >>> (56 : Nat) : W64)])
noncomputable def tailL : Nat → List UInt8 := Classical.choose (⟨fun k => if k = 1 then [129] else 1 :: (List.replicate (k - 2) 0 ++ [128]), rfl⟩ : ∃ y : Nat → List UInt8, y = fun k => if k = 1 then [129] else 1 :: (List.replicate (k - 2) 0 ++ [128]))
theorem tailL_eq : tailL = fun k => if k = 1 then [129] else 1 :: (List.replicate (k - 2) 0 ++ [128]) := Classical.choose_spec (⟨fun k => if k = 1 then [129] else 1 :: (List.replicate (k - 2) 0 ++ [128]), rfl⟩ : ∃ y : Nat → List UInt8, y = fun k => if k = 1 then [129] else 1 :: (List.replicate (k - 2) 0 ++ [128]))
noncomputable def padL : List UInt8 → List UInt8 := Classical.choose (⟨fun l => l ++ tailL (136 - l.length % 136), rfl⟩ : ∃ y : List UInt8 → List UInt8, y = fun l => l ++ tailL (136 - l.length % 136))
theorem padL_eq : padL = fun l => l ++ tailL (136 - l.length % 136) := Classical.choose_spec (⟨fun l => l ++ tailL (136 - l.length % 136), rfl⟩ : ∃ y : List UInt8 → List UInt8, y = fun l => l ++ tailL (136 - l.length % 136))
noncomputable def zk : K25 := Classical.choose (⟨fun _ => 0#64, rfl⟩ : ∃ y : K25, y = fun _ => 0#64)
theorem zk_eq : zk = fun _ => 0#64 := Classical.choose_spec (⟨fun _ => 0#64, rfl⟩ : ∃ y : K25, y = fun _ => 0#64)
noncomputable def sumL : List UInt8 → List UInt8 := Classical.choose (⟨fun l => outL (absN ((l.length / 136) + 1) zk (padL l)), rfl⟩ : ∃ y : List UInt8 → List UInt8, y = fun l => outL (absN ((l.length / 136) + 1) zk (padL l)))
theorem sumL_eq : sumL = fun l => outL (absN ((l.length / 136) + 1) zk (padL l)) := Classical.choose_spec (⟨fun l => outL (absN ((l.length / 136) + 1) zk (padL l)), rfl⟩ : ∃ y : List UInt8 → List UInt8, y = fun l => outL (absN ((l.length / 136) + 1) zk (padL l)))
theorem absN_0 (A : K25) (l : List UInt8) : absN 0 A l = A := by rw [absN_eq]; rfl
theorem absN_succ (n : Nat) (A : K25) (l : List UInt8) : absN (n + 1) A l = absN n (mixN 24 (xb A l)) (l.drop 136) := by rw [absN_eq]; rfl
theorem bt_drop (l : List UInt8) (m j : Nat) : bt (l.drop m) j = bt l (m + j) := by
  rw [bt_eq]; simp only [List.getElem?_drop]
theorem bt_take (l : List UInt8) (m j : Nat) (h : j < m) : bt (l.take m) j = bt l j := by
  rw [bt_eq]; simp only [List.getElem?_take_of_lt h]
theorem wd_take (l : List UInt8) : wd (l.take 8) = wd l := by
  rw [wd_eq]
  simp only
  rw [bt_take l 8 0 (by omega), bt_take l 8 1 (by omega), bt_take l 8 2 (by omega), bt_take l 8 3 (by omega), bt_take l 8 4 (by omega), bt_take l 8 5 (by omega), bt_take l 8 6 (by omega), bt_take l 8 7 (by omega)]
theorem tn_bt (l : List UInt8) (j : Nat) : (((bstr l)[j]?.getD 0).toNat : Int) = tn (bt l j) := by
  rw [bstr_get, tn_eq, bt_eq]
  simp only [BitVec.toNat_ofNat]
  have := (l[j]?.getD 0).toNat_lt
  omega
theorem bt_lt (l : List UInt8) (j : Nat) : (bt l j).toNat < 256 := by
  rw [bt_eq]
  simp only [BitVec.toNat_ofNat]
  have := (l[j]?.getD 0).toNat_lt
  omega
theorem tn_mod (x : W64) : tn x % 18446744073709551616 = tn x := Int.emod_eq_of_lt (tn_lt x).1 (tn_lt x).2
theorem lo8_tn (x : W64) : tn x % 256 = ((lo8 x).toNat : Int) := by
  rw [tn_eq, lo8_eq]
  simp only [UInt8.toNat_ofNat']
  omega
theorem lo8_tmod (x : W64) : (tn x).tmod 256 = ((lo8 x).toNat : Int) := by
  rw [Int.tmod_eq_emod_of_nonneg (tn_lt x).1, lo8_tn]
theorem u8_mod (b : UInt8) : ((b.toNat : Nat) : Int) % 256 = (b.toNat : Int) := by
  have := b.toNat_lt
  omega
theorem xb_len (A : K25) (l : List UInt8) (i : Nat) (h : 17 ≤ i) : xb A l i = A i := by
  rw [xb_eq]; simp only; rw [if_neg (by omega)]
theorem outL_len (A : K25) : (outL A).length = 32 := by rw [outL_eq]; rfl
theorem sumL_len (l : List UInt8) : (sumL l).length = 32 := by rw [sumL_eq]; exact outL_len _
theorem tailL_len (k : Nat) (h : 0 < k) : (tailL k).length = k := by
  rw [tailL_eq]
  simp only
  split
  · simp; omega
  · simp; omega
theorem padL_len (l : List UInt8) : (padL l).length = 136 * (l.length / 136 + 1) := by
  rw [padL_eq]
  simp only [List.length_append]
  rw [tailL_len _ (by omega)]
  omega
/-- bytes that come one behind the other make a number -/
theorem xor_add (X y m : Nat) (h : X < 2 ^ m) : X ^^^ y * 2 ^ m = X + y * 2 ^ m := by
  have e : X + y * 2 ^ m = 2 ^ m * y + X := by rw [Nat.mul_comm y, Nat.add_comm]
  rw [e]
  apply Nat.eq_of_testBit_eq
  intro j
  rw [Nat.testBit_two_pow_mul_add _ h, Nat.testBit_xor, Nat.testBit_mul_two_pow]
  by_cases hj : j < m
  · have hm : ¬ m ≤ j := by omega
    simp [hj, hm]
  · have hm : m ≤ j := by omega
    have : X.testBit j = false := Nat.testBit_lt_two_pow (Nat.lt_of_lt_of_le h (Nat.pow_le_pow_right (by omega) (by omega)))
    simp [hj, this, hm]
theorem xor_shl (X b : W64) (m : Nat) (hm : m ≤ 56) (hX : X.toNat < 2 ^ m) (hb : b.toNat < 256) : (X ^^^ b <<< m).toNat = X.toNat + b.toNat * 2 ^ m ∧ (X ^^^ b <<< m).toNat < 2 ^ (m + 8) := by
  have h1 : b.toNat * 2 ^ m < 2 ^ 64 := by
    have : b.toNat * 2 ^ m < 256 * 2 ^ m := Nat.mul_lt_mul_of_pos_right hb (Nat.pow_pos (by omega))
    have h2 : 256 * 2 ^ m ≤ 256 * 2 ^ 56 := Nat.mul_le_mul_left _ (Nat.pow_le_pow_right (by omega) hm)
    omega
  have h3 : (X ^^^ b <<< m).toNat = X.toNat + b.toNat * 2 ^ m := by
    rw [BitVec.toNat_xor, BitVec.toNat_shiftLeft, Nat.shiftLeft_eq, Nat.mod_eq_of_lt h1]
    exact xor_add _ _ _ hX
  refine ⟨h3, ?_⟩
  rw [h3, Nat.pow_add]
  have : b.toNat * 2 ^ m ≤ 255 * 2 ^ m := Nat.mul_le_mul_right _ (by omega)
  omega
theorem wd_nat (l : List UInt8) : (wd l).toNat = (bt l 0).toNat * 1 + (bt l 1).toNat * 256 + (bt l 2).toNat * 65536 + (bt l 3).toNat * 16777216 + (bt l 4).toNat * 4294967296 + (bt l 5).toNat * 1099511627776 + (bt l 6).toNat * 281474976710656 + (bt l 7).toNat * 72057594037927936 := by
  rw [wd_eq]
  simp only
  have h0 := bt_lt l 0
  have e0 : (bt l 0 <<< 0).toNat = (bt l 0).toNat := by simp
  have l0 : (bt l 0 <<< 0).toNat < 2 ^ 8 := by omega
  have h1 := xor_shl _ _ 8 (by omega) l0 (bt_lt l 1)
  have h2 := xor_shl _ _ 16 (by omega) h1.2 (bt_lt l 2)
  have h3 := xor_shl _ _ 24 (by omega) h2.2 (bt_lt l 3)
  have h4 := xor_shl _ _ 32 (by omega) h3.2 (bt_lt l 4)
  have h5 := xor_shl _ _ 40 (by omega) h4.2 (bt_lt l 5)
  have h6 := xor_shl _ _ 48 (by omega) h5.2 (bt_lt l 6)
  have h7 := xor_shl _ _ 56 (by omega) h6.2 (bt_lt l 7)
  rw [h7.1, h6.1, h5.1, h4.1, h3.1, h2.1, h1.1, e0]
  simp only [Nat.reducePow, Nat.mul_one]
theorem wd_tn (l : List UInt8) : tn (wd l) = tn (bt l 0) * 1 + tn (bt l 1) * 256 + tn (bt l 2) * 65536 + tn (bt l 3) * 16777216 + tn (bt l 4) * 4294967296 + tn (bt l 5) * 1099511627776 + tn (bt l 6) * 281474976710656 + tn (bt l 7) * 72057594037927936 := by
  have := wd_nat l
  rw [tn_eq]
  simp only
  rw [this]
  omega
theorem xbF_0 (A : K25) (l : List UInt8) : A 0 ^^^ bt l 0 <<< 0 ^^^ bt l 1 <<< 8 ^^^ bt l 2 <<< 16 ^^^ bt l 3 <<< 24 ^^^ bt l 4 <<< 32 ^^^ bt l 5 <<< 40 ^^^ bt l 6 <<< 48 ^^^ bt l 7 <<< 56 = xb A l 0 := by
  rw [xb_eq, wd_eq]
  simp only [Nat.reduceLT, if_true, bt_drop, Nat.reduceAdd, Nat.reduceMul]
  simp only [BitVec.xor_assoc]
theorem xbG_0 (A : K25) (l : List UInt8) : A 0 ^^^ wd (l.drop 0) = xb A l 0 := by
  rw [xb_eq]
  rfl
theorem xbF_1 (A : K25) (l : List UInt8) : A 1 ^^^ bt l 8 <<< 0 ^^^ bt l 9 <<< 8 ^^^ bt l 10 <<< 16 ^^^ bt l 11 <<< 24 ^^^ bt l 12 <<< 32 ^^^ bt l 13 <<< 40 ^^^ bt l 14 <<< 48 ^^^ bt l 15 <<< 56 = xb A l 1 := by
  rw [xb_eq, wd_eq]
  simp only [Nat.reduceLT, if_true, bt_drop, Nat.reduceAdd, Nat.reduceMul]
  simp only [BitVec.xor_assoc]
theorem xbG_1 (A : K25) (l : List UInt8) : A 1 ^^^ wd (l.drop 8) = xb A l 1 := by
  rw [xb_eq]
  rfl
theorem xbF_2 (A : K25) (l : List UInt8) : A 2 ^^^ bt l 16 <<< 0 ^^^ bt l 17 <<< 8 ^^^ bt l 18 <<< 16 ^^^ bt l 19 <<< 24 ^^^ bt l 20 <<< 32 ^^^ bt l 21 <<< 40 ^^^ bt l 22 <<< 48 ^^^ bt l 23 <<< 56 = xb A l 2 := by
  rw [xb_eq, wd_eq]
  simp only [Nat.reduceLT, if_true, bt_drop, Nat.reduceAdd, Nat.reduceMul]
  simp only [BitVec.xor_assoc]
theorem xbG_2 (A : K25) (l : List UInt8) : A 2 ^^^ wd (l.drop 16) = xb A l 2 := by
  rw [xb_eq]
  rfl
theorem xbF_3 (A : K25) (l : List UInt8) : A 3 ^^^ bt l 24 <<< 0 ^^^ bt l 25 <<< 8 ^^^ bt l 26 <<< 16 ^^^ bt l 27 <<< 24 ^^^ bt l 28 <<< 32 ^^^ bt l 29 <<< 40 ^^^ bt l 30 <<< 48 ^^^ bt l 31 <<< 56 = xb A l 3 := by
  rw [xb_eq, wd_eq]
  simp only [Nat.reduceLT, if_true, bt_drop, Nat.reduceAdd, Nat.reduceMul]
  simp only [BitVec.xor_assoc]
theorem xbG_3 (A : K25) (l : List UInt8) : A 3 ^^^ wd (l.drop 24) = xb A l 3 := by
  rw [xb_eq]
  rfl
theorem xbF_4 (A : K25) (l : List UInt8) : A 4 ^^^ bt l 32 <<< 0 ^^^ bt l 33 <<< 8 ^^^ bt l 34 <<< 16 ^^^ bt l 35 <<< 24 ^^^ bt l 36 <<< 32 ^^^ bt l 37 <<< 40 ^^^ bt l 38 <<< 48 ^^^ bt l 39 <<< 56 = xb A l 4 := by
  rw [xb_eq, wd_eq]
  simp only [Nat.reduceLT, if_true, bt_drop, Nat.reduceAdd, Nat.reduceMul]
  simp only [BitVec.xor_assoc]
theorem xbG_4 (A : K25) (l : List UInt8) : A 4 ^^^ wd (l.drop 32) = xb A l 4 := by
  rw [xb_eq]
  rfl
theorem xbF_5 (A : K25) (l : List UInt8) : A 5 ^^^ bt l 40 <<< 0 ^^^ bt l 41 <<< 8 ^^^ bt l 42 <<< 16 ^^^ bt l 43 <<< 24 ^^^ bt l 44 <<< 32 ^^^ bt l 45 <<< 40 ^^^ bt l 46 <<< 48 ^^^ bt l 47 <<< 56 = xb A l 5 := by
  rw [xb_eq, wd_eq]
  simp only [Nat.reduceLT, if_true, bt_drop, Nat.reduceAdd, Nat.reduceMul]
  simp only [BitVec.xor_assoc]
theorem xbG_5 (A : K25) (l : List UInt8) : A 5 ^^^ wd (l.drop 40) = xb A l 5 := by
  rw [xb_eq]
  rfl
theorem xbF_6 (A : K25) (l : List UInt8) : A 6 ^^^ bt l 48 <<< 0 ^^^ bt l 49 <<< 8 ^^^ bt l 50 <<< 16 ^^^ bt l 51 <<< 24 ^^^ bt l 52 <<< 32 ^^^ bt l 53 <<< 40 ^^^ bt l 54 <<< 48 ^^^ bt l 55 <<< 56 = xb A l 6 := by
  rw [xb_eq, wd_eq]
  simp only [Nat.reduceLT, if_true, bt_drop, Nat.reduceAdd, Nat.reduceMul]
  simp only [BitVec.xor_assoc]
theorem xbG_6 (A : K25) (l : List UInt8) : A 6 ^^^ wd (l.drop 48) = xb A l 6 := by
  rw [xb_eq]
  rfl
theorem xbF_7 (A : K25) (l : List UInt8) : A 7 ^^^ bt l 56 <<< 0 ^^^ bt l 57 <<< 8 ^^^ bt l 58 <<< 16 ^^^ bt l 59 <<< 24 ^^^ bt l 60 <<< 32 ^^^ bt l 61 <<< 40 ^^^ bt l 62 <<< 48 ^^^ bt l 63 <<< 56 = xb A l 7 := by
  rw [xb_eq, wd_eq]
  simp only [Nat.reduceLT, if_true, bt_drop, Nat.reduceAdd, Nat.reduceMul]
  simp only [BitVec.xor_assoc]
theorem xbG_7 (A : K25) (l : List UInt8) : A 7 ^^^ wd (l.drop 56) = xb A l 7 := by
  rw [xb_eq]
  rfl
theorem xbF_8 (A : K25) (l : List UInt8) : A 8 ^^^ bt l 64 <<< 0 ^^^ bt l 65 <<< 8 ^^^ bt l 66 <<< 16 ^^^ bt l 67 <<< 24 ^^^ bt l 68 <<< 32 ^^^ bt l 69 <<< 40 ^^^ bt l 70 <<< 48 ^^^ bt l 71 <<< 56 = xb A l 8 := by
  rw [xb_eq, wd_eq]
  simp only [Nat.reduceLT, if_true, bt_drop, Nat.reduceAdd, Nat.reduceMul]
  simp only [BitVec.xor_assoc]
theorem xbG_8 (A : K25) (l : List UInt8) : A 8 ^^^ wd (l.drop 64) = xb A l 8 := by
  rw [xb_eq]
  rfl
theorem xbF_9 (A : K25) (l : List UInt8) : A 9 ^^^ bt l 72 <<< 0 ^^^ bt l 73 <<< 8 ^^^ bt l 74 <<< 16 ^^^ bt l 75 <<< 24 ^^^ bt l 76 <<< 32 ^^^ bt l 77 <<< 40 ^^^ bt l 78 <<< 48 ^^^ bt l 79 <<< 56 = xb A l 9 := by
  rw [xb_eq, wd_eq]
  simp only [Nat.reduceLT, if_true, bt_drop, Nat.reduceAdd, Nat.reduceMul]
  simp only [BitVec.xor_assoc]
theorem xbG_9 (A : K25) (l : List UInt8) : A 9 ^^^ wd (l.drop 72) = xb A l 9 := by
  rw [xb_eq]
  rfl
theorem xbF_10 (A : K25) (l : List UInt8) : A 10 ^^^ bt l 80 <<< 0 ^^^ bt l 81 <<< 8 ^^^ bt l 82 <<< 16 ^^^ bt l 83 <<< 24 ^^^ bt l 84 <<< 32 ^^^ bt l 85 <<< 40 ^^^ bt l 86 <<< 48 ^^^ bt l 87 <<< 56 = xb A l 10 := by
  rw [xb_eq, wd_eq]
  simp only [Nat.reduceLT, if_true, bt_drop, Nat.reduceAdd, Nat.reduceMul]
  simp only [BitVec.xor_assoc]
theorem xbG_10 (A : K25) (l : List UInt8) : A 10 ^^^ wd (l.drop 80) = xb A l 10 := by
  rw [xb_eq]
  rfl
theorem xbF_11 (A : K25) (l : List UInt8) : A 11 ^^^ bt l 88 <<< 0 ^^^ bt l 89 <<< 8 ^^^ bt l 90 <<< 16 ^^^ bt l 91 <<< 24 ^^^ bt l 92 <<< 32 ^^^ bt l 93 <<< 40 ^^^ bt l 94 <<< 48 ^^^ bt l 95 <<< 56 = xb A l 11 := by
  rw [xb_eq, wd_eq]
  simp only [Nat.reduceLT, if_true, bt_drop, Nat.reduceAdd, Nat.reduceMul]
  simp only [BitVec.xor_assoc]
theorem xbG_11 (A : K25) (l : List UInt8) : A 11 ^^^ wd (l.drop 88) = xb A l 11 := by
  rw [xb_eq]
  rfl
theorem xbF_12 (A : K25) (l : List UInt8) : A 12 ^^^ bt l 96 <<< 0 ^^^ bt l 97 <<< 8 ^^^ bt l 98 <<< 16 ^^^ bt l 99 <<< 24 ^^^ bt l 100 <<< 32 ^^^ bt l 101 <<< 40 ^^^ bt l 102 <<< 48 ^^^ bt l 103 <<< 56 = xb A l 12 := by
  rw [xb_eq, wd_eq]
  simp only [Nat.reduceLT, if_true, bt_drop, Nat.reduceAdd, Nat.reduceMul]
  simp only [BitVec.xor_assoc]
theorem xbG_12 (A : K25) (l : List UInt8) : A 12 ^^^ wd (l.drop 96) = xb A l 12 := by
  rw [xb_eq]
  rfl
theorem xbF_13 (A : K25) (l : List UInt8) : A 13 ^^^ bt l 104 <<< 0 ^^^ bt l 105 <<< 8 ^^^ bt l 106 <<< 16 ^^^ bt l 107 <<< 24 ^^^ bt l 108 <<< 32 ^^^ bt l 109 <<< 40 ^^^ bt l 110 <<< 48 ^^^ bt l 111 <<< 56 = xb A l 13 := by
  rw [xb_eq, wd_eq]
  simp only [Nat.reduceLT, if_true, bt_drop, Nat.reduceAdd, Nat.reduceMul]
  simp only [BitVec.xor_assoc]
theorem xbG_13 (A : K25) (l : List UInt8) : A 13 ^^^ wd (l.drop 104) = xb A l 13 := by
  rw [xb_eq]
  rfl
theorem xbF_14 (A : K25) (l : List UInt8) : A 14 ^^^ bt l 112 <<< 0 ^^^ bt l 113 <<< 8 ^^^ bt l 114 <<< 16 ^^^ bt l 115 <<< 24 ^^^ bt l 116 <<< 32 ^^^ bt l 117 <<< 40 ^^^ bt l 118 <<< 48 ^^^ bt l 119 <<< 56 = xb A l 14 := by
  rw [xb_eq, wd_eq]
  simp only [Nat.reduceLT, if_true, bt_drop, Nat.reduceAdd, Nat.reduceMul]
  simp only [BitVec.xor_assoc]
theorem xbG_14 (A : K25) (l : List UInt8) : A 14 ^^^ wd (l.drop 112) = xb A l 14 := by
  rw [xb_eq]
  rfl
theorem xbF_15 (A : K25) (l : List UInt8) : A 15 ^^^ bt l 120 <<< 0 ^^^ bt l 121 <<< 8 ^^^ bt l 122 <<< 16 ^^^ bt l 123 <<< 24 ^^^ bt l 124 <<< 32 ^^^ bt l 125 <<< 40 ^^^ bt l 126 <<< 48 ^^^ bt l 127 <<< 56 = xb A l 15 := by
  rw [xb_eq, wd_eq]
  simp only [Nat.reduceLT, if_true, bt_drop, Nat.reduceAdd, Nat.reduceMul]
  simp only [BitVec.xor_assoc]
theorem xbG_15 (A : K25) (l : List UInt8) : A 15 ^^^ wd (l.drop 120) = xb A l 15 := by
  rw [xb_eq]
  rfl
theorem xbF_16 (A : K25) (l : List UInt8) : A 16 ^^^ bt l 128 <<< 0 ^^^ bt l 129 <<< 8 ^^^ bt l 130 <<< 16 ^^^ bt l 131 <<< 24 ^^^ bt l 132 <<< 32 ^^^ bt l 133 <<< 40 ^^^ bt l 134 <<< 48 ^^^ bt l 135 <<< 56 = xb A l 16 := by
  rw [xb_eq, wd_eq]
  simp only [Nat.reduceLT, if_true, bt_drop, Nat.reduceAdd, Nat.reduceMul]
  simp only [BitVec.xor_assoc]
theorem xbG_16 (A : K25) (l : List UInt8) : A 16 ^^^ wd (l.drop 128) = xb A l 16 := by
  rw [xb_eq]
  rfl
theorem out_u8s (A : K25) : u8s [.int .u8 ((lo8 (A 0 >>> 0)).toNat : Int), .int .u8 ((lo8 (A 0 >>> 8)).toNat : Int), .int .u8 ((lo8 (A 0 >>> 16)).toNat : Int), .int .u8 ((lo8 (A 0 >>> 24)).toNat : Int), .int .u8 ((lo8 (A 0 >>> 32)).toNat : Int), .int .u8 ((lo8 (A 0 >>> 40)).toNat : Int), .int .u8 ((lo8 (A 0 >>> 48)).toNat : Int), .int .u8 ((lo8 (A 0 >>> 56)).toNat : Int), .int .u8 ((lo8 (A 1 >>> 0)).toNat : Int), .int .u8 ((lo8 (A 1 >>> 8)).toNat : Int), .int .u8 ((lo8 (A 1 >>> 16)).toNat : Int), .int .u8 ((lo8 (A 1 >>> 24)).toNat : Int), .int .u8 ((lo8 (A 1 >>> 32)).toNat : Int), .int .u8 ((lo8 (A 1 >>> 40)).toNat : Int), .int .u8 ((lo8 (A 1 >>> 48)).toNat : Int), .int .u8 ((lo8 (A 1 >>> 56)).toNat : Int), .int .u8 ((lo8 (A 2 >>> 0)).toNat : Int), .int .u8 ((lo8 (A 2 >>> 8)).toNat : Int), .int .u8 ((lo8 (A 2 >>> 16)).toNat : Int), .int .u8 ((lo8 (A 2 >>> 24)).toNat : Int), .int .u8 ((lo8 (A 2 >>> 32)).toNat : Int), .int .u8 ((lo8 (A 2 >>> 40)).toNat : Int), .int .u8 ((lo8 (A 2 >>> 48)).toNat : Int), .int .u8 ((lo8 (A 2 >>> 56)).toNat : Int), .int .u8 ((lo8 (A 3 >>> 0)).toNat : Int), .int .u8 ((lo8 (A 3 >>> 8)).toNat : Int), .int .u8 ((lo8 (A 3 >>> 16)).toNat : Int), .int .u8 ((lo8 (A 3 >>> 24)).toNat : Int), .int .u8 ((lo8 (A 3 >>> 32)).toNat : Int), .int .u8 ((lo8 (A 3 >>> 40)).toNat : Int), .int .u8 ((lo8 (A 3 >>> 48)).toNat : Int), .int .u8 ((lo8 (A 3 >>> 56)).toNat : Int)] = some (outL A) := by
  have := vB_u8s (outL A)
  rw [vB_eq, outL_eq] at this
  rw [outL_eq]
  exact this
end Go.Vm

/- The sum of a text. No condition. -/
set_option maxRecDepth 100000
set_option linter.unusedSimpArgs false
set_option linter.unusedVariables false
namespace Go.Vm
open Go Go.RowKit Go.Proofs

noncomputable def kCl (A : K25) : List Value := [.int .u64 (tn (A 0)), .int .u64 (tn (A 1)), .int .u64 (tn (A 2)), .int .u64 (tn (A 3)), .int .u64 (tn (A 4)), .int .u64 (tn (A 5)), .int .u64 (tn (A 6)), .int .u64 (tn (A 7)), .int .u64 (tn (A 8)), .int .u64 (tn (A 9)), .int .u64 (tn (A 10)), .int .u64 (tn (A 11)), .int .u64 (tn (A 12)), .int .u64 (tn (A 13)), .int .u64 (tn (A 14)), .int .u64 (tn (A 15)), .int .u64 (tn (A 16)), .int .u64 (tn (A 17)), .int .u64 (tn (A 18)), .int .u64 (tn (A 19)), .int .u64 (tn (A 20)), .int .u64 (tn (A 21)), .int .u64 (tn (A 22)), .int .u64 (tn (A 23)), .int .u64 (tn (A 24))]
theorem tail1 (k : Nat) (h : 0 < k) : ∃ T : List UInt8, wrL (List.replicate k (Value.int .u8 0)) 0 [.int .u8 1] = vB T ∧ T.length = k ∧
    (∃ c : UInt8, (T[k - 1]?.getD 0) = c ∧ ∃ d : UInt8, bits .or .u8 (c.toNat : Int) 128 = (d.toNat : Int) ∧ T.set (k - 1) d = tailL k) := by
  obtain ⟨n, rfl⟩ : ∃ n, k = n + 1 := ⟨k - 1, by omega⟩
  refine ⟨1 :: List.replicate n 0, ?_, by simp, ?_⟩
  · rw [vB_eq, List.replicate_succ, wrL_one]
    simp
  · cases n with
    | zero => exact ⟨1, rfl, 129, by decide, by rw [tailL_eq]; rfl⟩
    | succ n =>
      refine ⟨0, by simp, 128, by decide, ?_⟩
      rw [tailL_eq]
      simp only
      rw [if_neg (by omega), show n + 1 + 1 - 1 = n + 1 by omega, show n + 1 + 1 - 2 = n by omega, List.set_cons_succ]
      congr 1
      rw [List.replicate_succ']
      rw [List.set_append_right _ _ (by simp)]
      simp
theorem zk_tn (i : Nat) : tn (zk i) = 0 := by rw [zk_eq, tn_eq]; rfl
noncomputable def kSumG : List DV → Option RV
  | [.pl (.string s)] => if s.size ≤ 1000000 then some (.one (.pl (.string (bstr (sumL s.data.toList))))) else none
  | _ => none
noncomputable def ksS (x : Nat × K25 × List UInt8) : St := ⟨[(4, .ptr 4 0 0), (0, .pl (.string (bstr x.2.2)))], [(4, ⟨0, 87, kCl x.2.1⟩)]⟩

set_option maxHeartbeats 400000000 in
theorem ksum_walk (t : List UInt8) (ht : t.length ≤ 1000000) : Spec Try.prog 68 [.pl (.string (bstr t))] (.one (.pl (.string (bstr (sumL t))))) := by
  have hΓ : Env.ok [(88, mixG)] Try.prog := ok_cons mix_ok (ok_nil _)
  generalize hk : 136 - t.length % 136 = k
  have hk0 : 0 < k := by omega
  have hk1 : k ≤ 136 := by omega
  obtain ⟨T, hT1, hT2, c, hT3, d, hT4, hT5⟩ := tail1 k hk0
  have sz := bstr_size' t
  have e1 : ((t.length : Nat) : Int).tmod 136 = ((t.length % 136 : Nat) : Int) := by rw [Int.tmod_eq_emod_of_nonneg (by omega)]; omega
  have e2 : IntKind.i64.wrap (136 - ((t.length % 136 : Nat) : Int)) = (k : Int) := by rw [i64_in (by omega) (by omega)]; omega
  have e3 : (0 : Int) ≤ (k : Int) := by omega
  have e4 : (1 : Int) * (k : Int) ≤ 281474976710656 := by omega
  have e5 : (k : Int) ≤ 9223372036854775807 := by omega
  have e6 : (0 : Int) < (k : Int) := by omega
  have e7 : IntKind.i64.wrap ((k : Int) - 1) = ((k - 1 : Nat) : Int) := by rw [i64_in (by omega) (by omega)]; omega
  have e8 : ((k - 1 : Nat) : Int) < (k : Int) := by omega
  have e9 : (0 : Int) ≤ ((k - 1 : Nat) : Int) := by omega
  have f1 := List.length_replicate (n := k) (a := Value.int .u8 0)
  have f2 := vB_len T
  have f3 : (vB T)[k - 1]?.getD undef = .int .u8 (c.toNat : Int) := by rw [vB_get _ _ (by omega), hT3]
  have f4 : (vB T).set (k - 1) (.int .u8 (d.toNat : Int)) = vB (tailL k) := by rw [vB_set, hT5]
  have f5 := vB_len (tailL k)
  have f6 : (vB (tailL k)).take k = vB (tailL k) := by rw [vB_take, List.take_of_length_le (by rw [tailL_len _ hk0]; omega)]
  have f7 := tailL_len k hk0
  have f8 : t.length + k ≤ 9223372036854775807 := by omega
  have f9 : k - 1 + 1 ≤ k := by omega
  have f10 : k - 1 < k := by omega
  have g1 : 1 ≤ k := hk0
  refine Spec.of_vx hΓ follows_mixed Try.func68 rfl (by kernel_rfl) (T := []) (by simp [Try.ntmps68]) (by kernel_rfl) rfl Try.ntmps68 (res := [.tmp 2]) rfl ?_
  intro W
  simp -implicitDefEqProofs (maxSteps := 100000000) only [hT1, f4, vy_succ, vmB, slim, slimOp, gO, gSO, qSO, quietOp, cS, qSB, eK, calmOp, guardS, gK, qK, putK, plK, dOk, St.ev, St.get, St.mem, St.set, St.setm, St.put, lookA, look, newK, nextver, initT, seqE, blockQ, bodyQ, resK, retV, AV.rdv, agg_uV, ↓binK, ↓intK, unK, ↓loadK, ↓withKey_eq, ↓idxAddrK, ↓indexK, ↓partK, ↓fieldK, ↓fieldAddrK, ↓convK, ↓callK, wrG, updK, ↓lenK, ↓mmK, ↓appK, ↓copyK, ↓sliceK, ↓toArrK, nilK, evs, plains, seqParts, capsOf, capsD, AV.dv, AV.cont, ↓buildV_eq, fillL, placesOf, ↓storeK, wrL, RV.av, DV.av, List.set, Nat.reduceEqDiff, Nat.reduceAdd, Nat.reduceSub, Nat.reduceMul, Nat.reduceLT, Nat.reduceLeDiff, Nat.reduceMod, Nat.reduceDiv, Int.reduceLT, Int.reduceLE, Int.reduceToNat, ↓reduceIte, reduceCtorEq, Value.oneCell', Int.reduceAdd, Int.reduceSub, Int.reduceMod, Int.reduceMul, Int.reduceNeg, Int.reduceBEq, Int.reduceBNe, Int.reduceTDiv, Int.reduceTMod, Int.reduceEq, tyB, Try.underlying13, Try.underlying25, Try.underlying26, Try.underlying39, Try.underlying40, Try.underlying72, Try.underlying73, sz, e1, e2, e3, e4, e5, e6, e7, e8, e9, Int.toNat_natCast, f1, f2, f3, f5, f6, f7, f8, f9, f10, g1, hT2, hT4, vB_u8s, bstr_append, bstr_size', wrL_one, Nat.mul_one, Int.ofNat_one]
  have hp : padL t = t ++ tailL k := by rw [padL_eq, ← hk]
  have hl : (padL t).length = 136 * (t.length / 136 + 1) := padL_len t
  have hsum : sumL t = outL (absN (t.length / 136 + 1) zk (padL t)) := by rw [sumL_eq]
  rw [hsum]
  generalize hR : absN (t.length / 136 + 1) zk (padL t) = R
  clear hsum e1 e2 e3 e4 e5 e6 e7 e8 e9 f1 f2 f3 f4 f5 f6 f7 f8 f9 f10 g1 hT1 hT2 hT3 hT4 hT5 hk0 hk1 sz
  refine VT_loop hΓ follows_mixed ksS (fun x => x.2.2.length = 136 * x.1 ∧ absN x.1 x.2.1 x.2.2 = R) (fun x => x.1) (t.length / 136 + 1, zk, padL t) (Sub.of (by simp -implicitDefEqProofs (maxSteps := 100000000) only [subT, ksS, look, lookA, newK, St.get, St.mem, List.map_cons, List.map_nil, List.all_cons, List.all_nil, List.length_cons, List.length_nil, List.getElem?_cons_zero, List.getElem?_cons_succ, Nat.reduceEqDiff, Nat.reduceAdd, Option.some.injEq, ↓reduceIte, true_and, and_true, reduceCtorEq, beq_self_eq_true, Bool.and_true, ne_eq, not_false_eq_true, not_true_eq_false, Nat.add_zero, Nat.zero_add, Nat.reduceSub, Nat.reduceMul, Int.cast_ofNat_Int, Int.reduceAdd, Int.reduceSub, Int.reduceMul, hp]) (by simp -implicitDefEqProofs (maxSteps := 100000000) only [subM, ksS, kCl, zk_tn, look, lookA, newK, St.get, St.mem, List.map_cons, List.map_nil, List.all_cons, List.all_nil, List.length_cons, List.length_nil, List.getElem?_cons_zero, List.getElem?_cons_succ, Nat.reduceEqDiff, Nat.reduceAdd, Option.some.injEq, ↓reduceIte, true_and, and_true, reduceCtorEq, beq_self_eq_true, Bool.and_true, ne_eq, not_false_eq_true, not_true_eq_false, Nat.add_zero, Nat.zero_add, Nat.reduceSub, Nat.reduceMul, Int.cast_ofNat_Int, Int.reduceAdd, Int.reduceSub, Int.reduceMul]) rfl) ⟨hl, hR⟩ ?_
  rintro ⟨n, A, l⟩ ⟨h1, h2⟩
  simp only at h1 h2
  have q1 : ∀ s : List UInt8, (bstr s).toList = s := bstr_toList
  have q2 : (⟨#[]⟩ : ByteArray).toList = [] := by rw [ba_toList]
  rcases n with _ | n
  · have hl0 : l = [] := List.eq_nil_of_length_eq_zero (by omega)
    subst hl0
    rw [absN_0] at h2
    subst h2
    have hb : (([] : List UInt8) == []) = true := rfl
    simp -implicitDefEqProofs (maxSteps := 100000000) only [vy_succ, vmB, slim, slimOp, gO, gSO, qSO, quietOp, cS, qSB, eK, calmOp, guardS, gK, qK, putK, plK, dOk, St.ev, St.get, St.mem, St.set, St.setm, St.put, lookA, look, newK, nextver, initT, seqE, blockQ, bodyQ, resK, retV, AV.rdv, agg_uV, ↓binK, ↓intK, unK, ↓loadK, ↓withKey_eq, ↓idxAddrK, ↓indexK, ↓partK, ↓fieldK, ↓fieldAddrK, ↓convK, ↓callK, wrG, updK, ↓lenK, ↓mmK, ↓appK, ↓copyK, ↓sliceK, ↓toArrK, nilK, evs, plains, seqParts, capsOf, capsD, AV.dv, AV.cont, ↓buildV_eq, fillL, placesOf, ↓storeK, wrL, RV.av, DV.av, List.set, Nat.reduceEqDiff, Nat.reduceAdd, Nat.reduceSub, Nat.reduceMul, Nat.reduceLT, Nat.reduceLeDiff, Nat.reduceMod, Nat.reduceDiv, Int.reduceLT, Int.reduceLE, Int.reduceToNat, ↓reduceIte, reduceCtorEq, Value.oneCell', Int.reduceAdd, Int.reduceSub, Int.reduceMod, Int.reduceMul, Int.reduceNeg, Int.reduceBEq, Int.reduceBNe, Int.reduceTDiv, Int.reduceTMod, Int.reduceEq, tyB, Try.underlying13, Try.underlying25, Try.underlying26, Try.underlying39, Try.underlying40, Try.underlying72, Try.underlying73, ksS, q1, q2, hb]
    refine VT_rounds hΓ follows_mixed 5 ?_
    simp -implicitDefEqProofs (maxSteps := 100000000) only [vy_succ, vmB, slim, slimOp, gO, gSO, qSO, quietOp, cS, qSB, eK, calmOp, guardS, gK, qK, putK, plK, dOk, St.ev, St.get, St.mem, St.set, St.setm, St.put, lookA, look, newK, nextver, initT, seqE, blockQ, bodyQ, resK, retV, AV.rdv, agg_uV, ↓binK, ↓intK, unK, ↓loadK, ↓withKey_eq, ↓idxAddrK, ↓indexK, ↓partK, ↓fieldK, ↓fieldAddrK, ↓convK, ↓callK, wrG, updK, ↓lenK, ↓mmK, ↓appK, ↓copyK, ↓sliceK, ↓toArrK, nilK, evs, plains, seqParts, capsOf, capsD, AV.dv, AV.cont, ↓buildV_eq, fillL, placesOf, ↓storeK, wrL, RV.av, DV.av, List.set, Nat.reduceEqDiff, Nat.reduceAdd, Nat.reduceSub, Nat.reduceMul, Nat.reduceLT, Nat.reduceLeDiff, Nat.reduceMod, Nat.reduceDiv, Int.reduceLT, Int.reduceLE, Int.reduceToNat, ↓reduceIte, reduceCtorEq, Value.oneCell', Int.reduceAdd, Int.reduceSub, Int.reduceMod, Int.reduceMul, Int.reduceNeg, Int.reduceBEq, Int.reduceBNe, Int.reduceTDiv, Int.reduceTMod, Int.reduceEq, tyB, Try.underlying13, Try.underlying25, Try.underlying26, Try.underlying39, Try.underlying40, Try.underlying72, Try.underlying73, kCl]
    iterate 4
      refine VT_rounds hΓ follows_mixed 9 ?_
      simp -implicitDefEqProofs (maxSteps := 100000000) only [↓shr_tn, vy_succ, vmB, slim, slimOp, gO, gSO, qSO, quietOp, cS, qSB, eK, calmOp, guardS, gK, qK, putK, plK, dOk, St.ev, St.get, St.mem, St.set, St.setm, St.put, lookA, look, newK, nextver, initT, seqE, blockQ, bodyQ, resK, retV, AV.rdv, agg_uV, ↓binK, ↓intK, unK, ↓loadK, ↓withKey_eq, ↓idxAddrK, ↓indexK, ↓partK, ↓fieldK, ↓fieldAddrK, ↓convK, ↓callK, wrG, updK, ↓lenK, ↓mmK, ↓appK, ↓copyK, ↓sliceK, ↓toArrK, nilK, evs, plains, seqParts, capsOf, capsD, AV.dv, AV.cont, ↓buildV_eq, fillL, placesOf, ↓storeK, wrL, RV.av, DV.av, List.set, Nat.reduceEqDiff, Nat.reduceAdd, Nat.reduceSub, Nat.reduceMul, Nat.reduceLT, Nat.reduceLeDiff, Nat.reduceMod, Nat.reduceDiv, Int.reduceLT, Int.reduceLE, Int.reduceToNat, ↓reduceIte, reduceCtorEq, Value.oneCell', Int.reduceAdd, Int.reduceSub, Int.reduceMod, Int.reduceMul, Int.reduceNeg, Int.reduceBEq, Int.reduceBNe, Int.reduceTDiv, Int.reduceTMod, Int.reduceEq, tyB, Try.underlying13, Try.underlying25, Try.underlying26, Try.underlying39, Try.underlying40, Try.underlying72, Try.underlying73, shr_tn, lo8_tn, kCl, out_u8s]
  · rw [absN_succ] at h2
    have hb : (l == ([] : List UInt8)) = false := by
      cases l with
      | nil => simp at h1
      | cons => rfl
    have hs : ∀ c : Int, c < 136 → (c < ((l.length : Nat) : Int)) = True := fun c hc => by simp; omega
    have hd : (bstr l).size = l.length := bstr_size' l
    simp -implicitDefEqProofs (maxSteps := 100000000) only [vy_succ, vmB, slim, slimOp, gO, gSO, qSO, quietOp, cS, qSB, eK, calmOp, guardS, gK, qK, putK, plK, dOk, St.ev, St.get, St.mem, St.set, St.setm, St.put, lookA, look, newK, nextver, initT, seqE, blockQ, bodyQ, resK, retV, AV.rdv, agg_uV, ↓binK, ↓intK, unK, ↓loadK, ↓withKey_eq, ↓idxAddrK, ↓indexK, ↓partK, ↓fieldK, ↓fieldAddrK, ↓convK, ↓callK, wrG, updK, ↓lenK, ↓mmK, ↓appK, ↓copyK, ↓sliceK, ↓toArrK, nilK, evs, plains, seqParts, capsOf, capsD, AV.dv, AV.cont, ↓buildV_eq, fillL, placesOf, ↓storeK, wrL, RV.av, DV.av, List.set, Nat.reduceEqDiff, Nat.reduceAdd, Nat.reduceSub, Nat.reduceMul, Nat.reduceLT, Nat.reduceLeDiff, Nat.reduceMod, Nat.reduceDiv, Int.reduceLT, Int.reduceLE, Int.reduceToNat, ↓reduceIte, reduceCtorEq, Value.oneCell', Int.reduceAdd, Int.reduceSub, Int.reduceMod, Int.reduceMul, Int.reduceNeg, Int.reduceBEq, Int.reduceBNe, Int.reduceTDiv, Int.reduceTMod, Int.reduceEq, tyB, Try.underlying13, Try.underlying25, Try.underlying26, Try.underlying39, Try.underlying40, Try.underlying72, Try.underlying73, ksS, q1, q2, hb]
    refine VT_rounds hΓ follows_mixed 18 ?_
    have hf := kV_fold (xb A l)
    have h136 : (136 : Int) ≤ ((l.length : Nat) : Int) := by omega
    have x17 : A 17 = xb A l 17 := (xb_len A l 17 (by omega)).symm
    have x18 : A 18 = xb A l 18 := (xb_len A l 18 (by omega)).symm
    have x19 : A 19 = xb A l 19 := (xb_len A l 19 (by omega)).symm
    have x20 : A 20 = xb A l 20 := (xb_len A l 20 (by omega)).symm
    have x21 : A 21 = xb A l 21 := (xb_len A l 21 (by omega)).symm
    have x22 : A 22 = xb A l 22 := (xb_len A l 22 (by omega)).symm
    have x23 : A 23 = xb A l 23 := (xb_len A l 23 (by omega)).symm
    have x24 : A 24 = xb A l 24 := (xb_len A l 24 (by omega)).symm
    simp -implicitDefEqProofs (maxSteps := 100000000) only [vy_succ, vmB, slim, slimOp, gO, gSO, qSO, quietOp, cS, qSB, eK, calmOp, guardS, gK, qK, putK, plK, dOk, St.ev, St.get, St.mem, St.set, St.setm, St.put, lookA, look, newK, nextver, initT, seqE, blockQ, bodyQ, resK, retV, AV.rdv, agg_uV, ↓binK, ↓intK, unK, ↓loadK, ↓withKey_eq, ↓idxAddrK, ↓indexK, ↓partK, ↓fieldK, ↓fieldAddrK, ↓convK, ↓callK, wrG, updK, ↓lenK, ↓mmK, ↓appK, ↓copyK, ↓sliceK, ↓toArrK, nilK, evs, plains, seqParts, capsOf, capsD, AV.dv, AV.cont, ↓buildV_eq, fillL, placesOf, ↓storeK, wrL, RV.av, DV.av, List.set, Nat.reduceEqDiff, Nat.reduceAdd, Nat.reduceSub, Nat.reduceMul, Nat.reduceLT, Nat.reduceLeDiff, Nat.reduceMod, Nat.reduceDiv, Int.reduceLT, Int.reduceLE, Int.reduceToNat, ↓reduceIte, reduceCtorEq, Value.oneCell', Int.reduceAdd, Int.reduceSub, Int.reduceMod, Int.reduceMul, Int.reduceNeg, Int.reduceBEq, Int.reduceBNe, Int.reduceTDiv, Int.reduceTMod, Int.reduceEq, tyB, Try.underlying13, Try.underlying25, Try.underlying26, Try.underlying39, Try.underlying40, Try.underlying72, Try.underlying73, kCl, x17, x18, x19, x20, x21, x22, x23, x24]
    iterate 17
      refine VT_rounds hΓ follows_mixed 9 ?_
      simp -implicitDefEqProofs (maxSteps := 100000000) only [↓shl_tn, vy_succ, vmB, slim, slimOp, gO, gSO, qSO, quietOp, cS, qSB, eK, calmOp, guardS, gK, qK, putK, plK, dOk, St.ev, St.get, St.mem, St.set, St.setm, St.put, lookA, look, newK, nextver, initT, seqE, blockQ, bodyQ, resK, retV, AV.rdv, agg_uV, ↓binK, ↓intK, unK, ↓loadK, ↓withKey_eq, ↓idxAddrK, ↓indexK, ↓partK, ↓fieldK, ↓fieldAddrK, ↓convK, ↓callK, wrG, updK, ↓lenK, ↓mmK, ↓appK, ↓copyK, ↓sliceK, ↓toArrK, nilK, evs, plains, seqParts, capsOf, capsD, AV.dv, AV.cont, ↓buildV_eq, fillL, placesOf, ↓storeK, wrL, RV.av, DV.av, List.set, Nat.reduceEqDiff, Nat.reduceAdd, Nat.reduceSub, Nat.reduceMul, Nat.reduceLT, Nat.reduceLeDiff, Nat.reduceMod, Nat.reduceDiv, Int.reduceLT, Int.reduceLE, Int.reduceToNat, ↓reduceIte, reduceCtorEq, Value.oneCell', Int.reduceAdd, Int.reduceSub, Int.reduceMod, Int.reduceMul, Int.reduceNeg, Int.reduceBEq, Int.reduceBNe, Int.reduceTDiv, Int.reduceTMod, Int.reduceEq, tyB, Try.underlying13, Try.underlying25, Try.underlying26, Try.underlying39, Try.underlying40, Try.underlying72, Try.underlying73, hs, tn_bt, tn_mod, shl_tn, bits_xor_tn, hf, cells_kV, isNil_kV, mixG, toK_kV, mixN_24, hd, h136, Int.toNat_natCast, bstr_drop, xbF_0 A l, xbF_1 A l, xbF_2 A l, xbF_3 A l, xbF_4 A l, xbF_5 A l, xbF_6 A l, xbF_7 A l, xbF_8 A l, xbF_9 A l, xbF_10 A l, xbF_11 A l, xbF_12 A l, xbF_13 A l, xbF_14 A l, xbF_15 A l, xbF_16 A l]
    exact ⟨Int.le_refl _, (n, mixN 24 (xb A l), l.drop 136), ⟨(by simp only [List.length_drop]; omega), h2⟩, Nat.lt_succ_self n, Sub.of (by simp -implicitDefEqProofs (maxSteps := 100000000) only [subT, ksS, look, lookA, newK, St.get, St.mem, List.map_cons, List.map_nil, List.all_cons, List.all_nil, List.length_cons, List.length_nil, List.getElem?_cons_zero, List.getElem?_cons_succ, Nat.reduceEqDiff, Nat.reduceAdd, Option.some.injEq, ↓reduceIte, true_and, and_true, reduceCtorEq, beq_self_eq_true, Bool.and_true, ne_eq, not_false_eq_true, not_true_eq_false, Nat.add_zero, Nat.zero_add, Nat.reduceSub, Nat.reduceMul, Int.cast_ofNat_Int, Int.reduceAdd, Int.reduceSub, Int.reduceMul]) (by simp -implicitDefEqProofs (maxSteps := 100000000) only [subM, ksS, kCl, look, lookA, newK, St.get, St.mem, List.map_cons, List.map_nil, List.all_cons, List.all_nil, List.length_cons, List.length_nil, List.getElem?_cons_zero, List.getElem?_cons_succ, Nat.reduceEqDiff, Nat.reduceAdd, Option.some.injEq, ↓reduceIte, true_and, and_true, reduceCtorEq, beq_self_eq_true, Bool.and_true, ne_eq, not_false_eq_true, not_true_eq_false, Nat.add_zero, Nat.zero_add, Nat.reduceSub, Nat.reduceMul, Int.cast_ofNat_Int, Int.reduceAdd, Int.reduceSub, Int.reduceMul]) rfl⟩

theorem ksum_ok : ∀ ds r, kSumG ds = some r → Spec Try.prog 68 ds r := by
  intro ds r h
  unfold kSumG at h
  split at h
  case h_2 => cases h
  rename_i s
  split at h
  case isFalse => cases h
  rename_i hs
  cases h
  have := ksum_walk s.data.toList hs
  rw [← bstr_of] at this
  exact this
end Go.Vm

/- strings.Join, by the library's contract laid at this translation. No condition. -/
set_option maxRecDepth 100000
set_option linter.unusedSimpArgs false
set_option linter.unusedVariables false
namespace Go.Vm
open Go Go.RowKit Go.Proofs Go.Shelf

def jnRen : Go.Shelf.Ren := ⟨fun | 156 => 69 | 165 => 89 | 166 => 90 | 169 => 91 | 240 => 99 | 241 => 100 | 276 => 106 | 277 => 107 | n => n, fun | 31 => 84 | 9 => 9 | 3 => 3 | 4 => 4 | 0 => 0 | 20 => 20 | 72 => 103 | 76 => 107 | 70 => 101 | 37 => 64 | 75 => 106 | 127 => 120 | 164 => 125 | 5 => 5 | 80 => 109 | n => n, fun | n => n⟩
theorem jnLays : Go.Proofs.Lays.n156 Try.prog jnRen := {
  mixed := by kernel_rfl
  f156 := Try.func69.trans (congrArg some (by kernel_rfl))
  f165 := Try.func89.trans (congrArg some (by kernel_rfl))
  f166 := Try.func90.trans (congrArg some (by kernel_rfl))
  f169 := Try.func91.trans (congrArg some (by kernel_rfl))
  f240 := Try.func99.trans (congrArg some (by kernel_rfl))
  f241 := Try.func100.trans (congrArg some (by kernel_rfl))
  f276 := Try.func106.trans (congrArg some (by kernel_rfl))
  f277 := Try.func107.trans (congrArg some (by kernel_rfl))
  t0 := Try.underlying0
  a0 := Try.isAgg0
  z0 := Try.sizeOf0
  v0 := Try.zeroValue0
  t3 := Try.underlying3
  a3 := Try.isAgg3
  z3 := Try.sizeOf3
  v3 := Try.zeroValue3
  t4 := Try.underlying4
  a4 := Try.isAgg4
  z4 := Try.sizeOf4
  v4 := Try.zeroValue4
  t9 := Try.underlying9
  a9 := Try.isAgg9
  z9 := Try.sizeOf9
  v9 := Try.zeroValue9
  t20 := Try.underlying20
  a20 := Try.isAgg20
  z20 := Try.sizeOf20
  v20 := Try.zeroValue20
  t31 := Try.underlying84
  a31 := Try.isAgg84
  z31 := Try.sizeOf84
  v31 := Try.zeroValue84
  t37 := Try.underlying64
  a37 := Try.isAgg64
  z37 := Try.sizeOf64
  v37 := Try.zeroValue64
  t70 := Try.underlying101
  a70 := Try.isAgg101
  z70 := Try.sizeOf101
  v70 := Try.zeroValue101
  t72 := Try.underlying103
  a72 := Try.isAgg103
  z72 := Try.sizeOf103
  v72 := Try.zeroValue103
  t75 := Try.underlying106
  a75 := Try.isAgg106
  z75 := Try.sizeOf106
  v75 := Try.zeroValue106
  t76 := Try.underlying107
  a76 := Try.isAgg107
  z76 := Try.sizeOf107
  v76 := Try.zeroValue107
  t127 := Try.underlying120
  a127 := Try.isAgg120
  z127 := Try.sizeOf120
  v127 := Try.zeroValue120
  t164 := Try.underlying125
  a164 := Try.isAgg125
  z164 := Try.sizeOf125
  v164 := Try.zeroValue125 }
theorem jnExtra : Builder.Extra Try.prog jnRen := {
  sizeBuilder := by kernel_rfl
  liesBuilder := by kernel_rfl
  t5 := Try.underlying5
  a5 := Try.isAgg5
  z5 := Try.sizeOf5
  v5 := Try.zeroValue5
  infoByte := by kernel_rfl
  cellsByte := by kernel_rfl
  sizeByte := by kernel_rfl
  neB5 := by decide }

theorem jn_nosep (xs : List (List UInt8)) : Lib.join xs [] = xs.flatten := by
  unfold Lib.join List.intercalate
  induction xs with
  | nil => rfl
  | cons x xs ih =>
    cases xs with
    | nil => rfl
    | cons y ys =>
      rw [List.intersperse_cons_cons]
      simp only [List.flatten_cons, List.nil_append]
      rw [ih]
      rfl
def strsV (xs : List (List UInt8)) : List Value := xs.map fun l => .string (bstr l)
theorem joins_walk (xs : List (List UInt8)) (hn : xs.length ≤ 1000) (hl : xs.flatten.length ≤ 100000000) : Spec Try.prog 69 [.vec (strsV xs), .pl (.string ⟨#[]⟩)] (.one (.pl (.string (bstr xs.flatten)))) := by
  refine Spec.of_calls Try.func69 rfl (by kernel_rfl) fun w vs hv => ?_
  match vs, hv with
  | [v, s], hv =>
    obtain ⟨hv, hs, _⟩ := hv
    have hs' : s = .string ⟨#[]⟩ := hs
    subst hs'
    have he : (⟨(Lib.join ((xs.map bstr).map (·.data.toList)) (⟨#[]⟩ : ByteArray).data.toList).toArray⟩ : ByteArray) = bstr xs.flatten := by
      have h1 : (xs.map bstr).map (fun b : ByteArray => b.data.toList) = xs := by
        rw [List.map_map]
        have : ((fun b : ByteArray => b.data.toList) ∘ bstr) = id := rfl
        rw [this, List.map_id]
      have h2 : (⟨#[]⟩ : ByteArray).data.toList = [] := rfl
      rw [h1, h2, jn_nosep]
      rfl
    rcases hv with ⟨hx, rfl⟩ | ⟨b, o, cap, c, e, fz, rfl, hc, _, hx, h3, h4⟩
    · have hx0 : xs = [] := by simpa [strsV] using hx
      subst hx0
      refine (Any.strings_Join_none jnLays jnExtra none 0 ⟨#[]⟩ w).mono fun e w' ⟨h1, h2⟩ => ⟨_, h1, rfl, ?_⟩
      rw [h2]
      exact Below.refl _ _
    · have hlen : (strsV xs).length = xs.length := by simp [strsV]
      have hbk : b < w.heap.size := (Array.getElem?_eq_some_iff.1 hc).1
      have hcells : ∀ (j : Nat) (x : ByteArray), (xs.map bstr)[j]? = some x → w.cell? ⟨b, o + j, none⟩ = some (.string x) := fun j x hj => by
        have h1 : (strsV xs)[j]? = some (.string x) := by
          rw [List.getElem?_map] at hj
          cases hxj : xs[j]? with
          | none => rw [hxj] at hj; cases hj
          | some y =>
            rw [hxj] at hj
            simp only [Option.map_some, Option.some.injEq] at hj
            simp [strsV, hxj, hj]
        rw [← hx, List.getElem?_take] at h1
        split at h1
        · rw [List.getElem?_drop] at h1
          simp only [World.cell?, hc]
          simpa using h1
        · cases h1
      have h5 := Any.strings_Join jnLays jnExtra b o cap (xs.map bstr) ⟨#[]⟩ w hcells hbk (by rw [List.length_map]; omega) (by rw [List.length_map]; omega) (by
        have h1 : (xs.map bstr).map (fun b : ByteArray => b.data.toList) = xs := by
          rw [List.map_map]
          have : ((fun b : ByteArray => b.data.toList) ∘ bstr) = id := rfl
          rw [this, List.map_id]
        have h2 : (⟨#[]⟩ : ByteArray).data.toList = [] := rfl
        rw [h1, h2, jn_nosep]
        omega)
      rw [he, List.length_map] at h5
      rw [hlen]
      exact h5.mono fun e w' ⟨h1, h2⟩ => ⟨_, h1, rfl, h2⟩

def joinG : List DV → Option RV
  | [.vec [], .pl (.string s)] => if s.size = 0 then some (.one (.pl (.string (bstr [])))) else none
  | [.vec [.string a], .pl (.string s)] => if s.size = 0 ∧ a.size ≤ 10000000 then some (.one (.pl (.string a))) else none
  | [.vec [.string a, .string b], .pl (.string s)] => if s.size = 0 ∧ a.size ≤ 10000000 ∧ b.size ≤ 10000000 then some (.one (.pl (.string (bstr (a.data.toList ++ b.data.toList))))) else none
  | [.vec [.string a, .string b, .string c], .pl (.string s)] => if s.size = 0 ∧ a.size ≤ 10000000 ∧ b.size ≤ 10000000 ∧ c.size ≤ 10000000 then some (.one (.pl (.string (bstr (a.data.toList ++ (b.data.toList ++ c.data.toList)))))) else none
  | _ => none
theorem size0 {s : ByteArray} (h : s.size = 0) : s = ⟨#[]⟩ := by
  have h1 : s.data.size = 0 := h
  have : s.data = #[] := Array.eq_empty_of_size_eq_zero h1
  cases s
  simp only at this
  rw [this]
theorem join_ok : ∀ ds r, joinG ds = some r → Spec Try.prog 69 ds r := by
  intro ds r h
  unfold joinG at h
  split at h
  · split at h
    · rename_i s hs
      cases h
      rw [size0 hs]
      exact joins_walk [] (by simp) (by simp)
    · cases h
  · split at h
    · rename_i a s hs
      cases h
      rw [size0 hs.1]
      have h1 : a.data.toList.length = a.size := Array.length_toList
      have := joins_walk [a.data.toList] (by simp only [List.length_cons, List.length_nil]; omega) (by simp only [List.flatten_cons, List.flatten_nil, List.length_append, List.length_nil]; omega)
      simp only [strsV, List.map_cons, List.map_nil, List.flatten_cons, List.flatten_nil, List.append_nil] at this
      rw [← bstr_of] at this
      exact this
    · cases h
  · split at h
    · rename_i a b s hs
      cases h
      rw [size0 hs.1]
      have h1 : a.data.toList.length = a.size := Array.length_toList
      have h2 : b.data.toList.length = b.size := Array.length_toList
      have := joins_walk [a.data.toList, b.data.toList] (by simp only [List.length_cons, List.length_nil]; omega) (by simp only [List.flatten_cons, List.flatten_nil, List.length_append, List.length_nil]; omega)
      simp only [strsV, List.map_cons, List.map_nil, List.flatten_cons, List.flatten_nil, List.append_nil] at this
      rw [← bstr_of, ← bstr_of] at this
      exact this
    · cases h
  · split at h
    · rename_i a b c s hs
      cases h
      rw [size0 hs.1]
      have h1 : a.data.toList.length = a.size := Array.length_toList
      have h2 : b.data.toList.length = b.size := Array.length_toList
      have h3 : c.data.toList.length = c.size := Array.length_toList
      have := joins_walk [a.data.toList, b.data.toList, c.data.toList] (by simp only [List.length_cons, List.length_nil]; omega) (by simp only [List.flatten_cons, List.flatten_nil, List.length_append, List.length_nil]; omega)
      simp only [strsV, List.map_cons, List.map_nil, List.flatten_cons, List.flatten_nil, List.append_nil] at this
      rw [← bstr_of, ← bstr_of, ← bstr_of] at this
      exact this
    · cases h
  · cases h
end Go.Vm

/- Contract: keccak.Of. No condition. -/
set_option maxRecDepth 100000
set_option linter.unusedSimpArgs false
set_option linter.unusedVariables false
namespace Go.Vm
open Go Go.RowKit Go.Proofs

theorem sumG_a (s : ByteArray) (h : s.size ≤ 1000000) : kSumG [.pl (.string s)] = some (.one (.pl (.string (bstr (sumL s.data.toList))))) := by unfold kSumG; exact if_pos h
noncomputable def kOfG : List DV → Option RV
  | [.vec xs] => match joinG [.vec xs, .pl (.string ⟨#[]⟩)] with
    | some (.one (.pl (.string s))) => if s.size ≤ 1000000 then some (.one (.pl (.string (bstr (sumL s.data.toList))))) else none
    | _ => none
  | _ => none
theorem kOf_ok : ∀ ds r, kOfG ds = some r → Spec Try.prog 28 ds r := by
  intro ds r h
  unfold kOfG at h
  split at h
  case h_2 => cases h
  rename_i xs
  split at h
  case h_2 => cases h
  rename_i s hj
  split at h
  case isFalse => cases h
  rename_i hc
  cases h
  have hΓ : Env.ok [(68, kSumG), (69, joinG)] Try.prog := ok_cons ksum_ok (ok_cons join_ok (ok_nil _))
  have b1 := sumG_a s hc
  refine Spec.of_vx hΓ follows_mixed Try.func28 rfl (by kernel_rfl) (T := []) (by simp [Try.ntmps28]) (by kernel_rfl) rfl Try.ntmps28 (res := [.tmp 2]) rfl ?_
  intro W
  simp -implicitDefEqProofs (maxSteps := 100000000) only [vy_succ, vmB, slim, slimOp, gO, gSO, qSO, quietOp, cS, qSB, eK, calmOp, guardS, gK, qK, putK, plK, dOk, St.ev, St.get, St.mem, St.set, St.setm, St.put, lookA, look, newK, nextver, initT, seqE, blockQ, bodyQ, resK, retV, AV.rdv, agg_uV, ↓binK, ↓intK, unK, ↓loadK, ↓withKey_eq, ↓idxAddrK, ↓indexK, ↓partK, ↓fieldK, ↓fieldAddrK, ↓convK, ↓callK, wrG, updK, ↓lenK, ↓mmK, ↓appK, ↓copyK, ↓sliceK, ↓toArrK, nilK, evs, plains, seqParts, capsOf, capsD, AV.dv, AV.cont, ↓buildV_eq, fillL, placesOf, ↓storeK, wrL, RV.av, DV.av, List.set, Nat.reduceEqDiff, Nat.reduceAdd, Nat.reduceSub, Nat.reduceMul, Nat.reduceLT, Nat.reduceLeDiff, Nat.reduceMod, Nat.reduceDiv, Int.reduceLT, Int.reduceLE, Int.reduceToNat, ↓reduceIte, reduceCtorEq, Value.oneCell', Int.reduceAdd, Int.reduceSub, Int.reduceMod, Int.reduceMul, Int.reduceNeg, Int.reduceBEq, Int.reduceBNe, Int.reduceTDiv, Int.reduceTMod, Int.reduceEq, tyB, Try.underlying13, Try.underlying25, Try.underlying26, Try.underlying39, Try.underlying40, Try.underlying72, Try.underlying73, hj, b1]
theorem ofG_0 : kOfG [.vec []] = some (.one (.pl (.string (bstr (sumL []))))) := by
  have hj : joinG [.vec [], .pl (.string ⟨#[]⟩)] = some (.one (.pl (.string (bstr [])))) := rfl
  unfold kOfG
  simp only
  rw [hj]
  exact if_pos (by rw [bstr_size']; simp)
theorem ofG_1 (s : ByteArray) (hs : s.size ≤ 100000) : kOfG [.vec [.string s]] = some (.one (.pl (.string (bstr (sumL s.data.toList))))) := by
  have hj : joinG [.vec [.string s], .pl (.string ⟨#[]⟩)] = some (.one (.pl (.string s))) := by
    unfold joinG
    exact if_pos ⟨rfl, by omega⟩
  unfold kOfG
  simp only
  rw [hj]
  exact if_pos (by omega)
theorem ofG_3 (s t u : ByteArray) (hs : s.size ≤ 10000) (ht : t.size ≤ 10000) (hu : u.size ≤ 10000) : kOfG [.vec [.string s, .string t, .string u]] = some (.one (.pl (.string (bstr (sumL (s.data.toList ++ (t.data.toList ++ u.data.toList))))))) := by
  have hj : joinG [.vec [.string s, .string t, .string u], .pl (.string ⟨#[]⟩)] = some (.one (.pl (.string (bstr (s.data.toList ++ (t.data.toList ++ u.data.toList)))))) := by
    unfold joinG
    exact if_pos ⟨rfl, by omega, by omega, by omega⟩
  have h1 : s.data.toList.length = s.size := Array.length_toList
  have h2 : t.data.toList.length = t.size := Array.length_toList
  have h3 : u.data.toList.length = u.size := Array.length_toList
  unfold kOfG
  simp only
  rw [hj]
  exact if_pos (by rw [bstr_size', List.length_append, List.length_append]; omega)
theorem ofG_2 (s t : ByteArray) (hs : s.size ≤ 10000) (ht : t.size ≤ 10000) : kOfG [.vec [.string s, .string t]] = some (.one (.pl (.string (bstr (sumL (s.data.toList ++ t.data.toList)))))) := by
  have hj : joinG [.vec [.string s, .string t], .pl (.string ⟨#[]⟩)] = some (.one (.pl (.string (bstr (s.data.toList ++ t.data.toList))))) := by
    unfold joinG
    exact if_pos ⟨rfl, by omega, by omega⟩
  have h1 : s.data.toList.length = s.size := Array.length_toList
  have h2 : t.data.toList.length = t.size := Array.length_toList
  unfold kOfG
  simp only
  rw [hj]
  exact if_pos (by rw [bstr_size', List.length_append]; omega)
end Go.Vm

/- The document's sum of a text. No condition. -/
set_option maxRecDepth 100000
set_option linter.unusedSimpArgs false
set_option linter.unusedVariables false
namespace Go.Vm
open Go Go.RowKit Go.Proofs

noncomputable def wordG : List DV → Option RV
  | [.pl (.string s)] => if s.size = 8 then some (.one (.pl (.int .u64 (tn (wd s.data.toList))))) else none
  | _ => none
theorem word_walk (l : List UInt8) (hl : l.length = 8) : Spec Try.prog 71 [.pl (.string (bstr l))] (.one (.pl (.int .u64 (tn (wd l))))) := by
  have hΓ : Env.ok [] Try.prog := ok_nil _
  have hs : ∀ c : Int, c < 8 → (c < ((l.length : Nat) : Int)) = True := fun c hc => by simp; omega
  have hd : (bstr l).size = l.length := bstr_size' l
  have hw := wd_tn l
  generalize wd l = w at *
  have b0 := bt_lt l 0
  have t0 : tn (bt l 0) = ((bt l 0).toNat : Int) := by rw [tn_eq]
  have b1 := bt_lt l 1
  have t1 : tn (bt l 1) = ((bt l 1).toNat : Int) := by rw [tn_eq]
  have b2 := bt_lt l 2
  have t2 : tn (bt l 2) = ((bt l 2).toNat : Int) := by rw [tn_eq]
  have b3 := bt_lt l 3
  have t3 : tn (bt l 3) = ((bt l 3).toNat : Int) := by rw [tn_eq]
  have b4 := bt_lt l 4
  have t4 : tn (bt l 4) = ((bt l 4).toNat : Int) := by rw [tn_eq]
  have b5 := bt_lt l 5
  have t5 : tn (bt l 5) = ((bt l 5).toNat : Int) := by rw [tn_eq]
  have b6 := bt_lt l 6
  have t6 : tn (bt l 6) = ((bt l 6).toNat : Int) := by rw [tn_eq]
  have b7 := bt_lt l 7
  have t7 : tn (bt l 7) = ((bt l 7).toNat : Int) := by rw [tn_eq]
  refine Spec.of_vx hΓ follows_mixed Try.func71 rfl (by kernel_rfl) (T := []) (by simp [Try.ntmps71]) (by kernel_rfl) rfl Try.ntmps71 (res := [.tmp 2]) rfl ?_
  intro W
  simp -implicitDefEqProofs (maxSteps := 100000000) only [vy_succ, vmB, slim, slimOp, gO, gSO, qSO, quietOp, cS, qSB, eK, calmOp, guardS, gK, qK, putK, plK, dOk, St.ev, St.get, St.mem, St.set, St.setm, St.put, lookA, look, newK, nextver, initT, seqE, blockQ, bodyQ, resK, retV, AV.rdv, agg_uV, ↓binK, ↓intK, unK, ↓loadK, ↓withKey_eq, ↓idxAddrK, ↓indexK, ↓partK, ↓fieldK, ↓fieldAddrK, ↓convK, ↓callK, wrG, updK, ↓lenK, ↓mmK, ↓appK, ↓copyK, ↓sliceK, ↓toArrK, nilK, evs, plains, seqParts, capsOf, capsD, AV.dv, AV.cont, ↓buildV_eq, fillL, placesOf, ↓storeK, wrL, RV.av, DV.av, List.set, Nat.reduceEqDiff, Nat.reduceAdd, Nat.reduceSub, Nat.reduceMul, Nat.reduceLT, Nat.reduceLeDiff, Nat.reduceMod, Nat.reduceDiv, Int.reduceLT, Int.reduceLE, Int.reduceToNat, ↓reduceIte, reduceCtorEq, Value.oneCell', Int.reduceAdd, Int.reduceSub, Int.reduceMod, Int.reduceMul, Int.reduceNeg, Int.reduceBEq, Int.reduceBNe, Int.reduceTDiv, Int.reduceTMod, Int.reduceEq, tyB, Try.underlying13, Try.underlying25, Try.underlying26, Try.underlying39, Try.underlying40, Try.underlying72, Try.underlying73]
  refine VT_rounds hΓ follows_mixed 9 ?_
  simp -implicitDefEqProofs (maxSteps := 100000000) only [vy_succ, vmB, slim, slimOp, gO, gSO, qSO, quietOp, cS, qSB, eK, calmOp, guardS, gK, qK, putK, plK, dOk, St.ev, St.get, St.mem, St.set, St.setm, St.put, lookA, look, newK, nextver, initT, seqE, blockQ, bodyQ, resK, retV, AV.rdv, agg_uV, ↓binK, ↓intK, unK, ↓loadK, ↓withKey_eq, ↓idxAddrK, ↓indexK, ↓partK, ↓fieldK, ↓fieldAddrK, ↓convK, ↓callK, wrG, updK, ↓lenK, ↓mmK, ↓appK, ↓copyK, ↓sliceK, ↓toArrK, nilK, evs, plains, seqParts, capsOf, capsD, AV.dv, AV.cont, ↓buildV_eq, fillL, placesOf, ↓storeK, wrL, RV.av, DV.av, List.set, Nat.reduceEqDiff, Nat.reduceAdd, Nat.reduceSub, Nat.reduceMul, Nat.reduceLT, Nat.reduceLeDiff, Nat.reduceMod, Nat.reduceDiv, Int.reduceLT, Int.reduceLE, Int.reduceToNat, ↓reduceIte, reduceCtorEq, Value.oneCell', Int.reduceAdd, Int.reduceSub, Int.reduceMod, Int.reduceMul, Int.reduceNeg, Int.reduceBEq, Int.reduceBNe, Int.reduceTDiv, Int.reduceTMod, Int.reduceEq, tyB, Try.underlying13, Try.underlying25, Try.underlying26, Try.underlying39, Try.underlying40, Try.underlying72, Try.underlying73, hs, hd, tn_bt, tn_mod]
  congr 4
  rw [hw]
  simp only [t0, t1, t2, t3, t4, t5, t6, t7]
  omega

theorem word_ok : ∀ ds r, wordG ds = some r → Spec Try.prog 71 ds r := by
  intro ds r h
  unfold wordG at h
  split at h
  case h_2 => cases h
  rename_i s
  split at h
  case isFalse => cases h
  rename_i hs
  cases h
  have := word_walk s.data.toList hs
  rw [← bstr_of] at this
  exact this

noncomputable def lP : List UInt8 → Nat → List UInt8 := Classical.choose (⟨fun t j => t ++ 1 :: List.replicate j 0, rfl⟩ : ∃ y : List UInt8 → Nat → List UInt8, y = fun t j => t ++ 1 :: List.replicate j 0)
theorem lP_eq : lP = fun t j => t ++ 1 :: List.replicate j 0 := Classical.choose_spec (⟨fun t j => t ++ 1 :: List.replicate j 0, rfl⟩ : ∃ y : List UInt8 → Nat → List UInt8, y = fun t j => t ++ 1 :: List.replicate j 0)
noncomputable def rsS (t : List UInt8) (j : Nat) : St := ⟨[(3, .sl 10 (j + 1) 0 (t.length + 1 + j))], [(10, ⟨j + 1, 5, vB (lP t j)⟩)]⟩
noncomputable def kRtS (P : List UInt8) (L v : Nat) (x : Nat × K25 × Nat) : St := ⟨[(3, .sl 10 v 0 L), (4, .ptr 4 0 0), (5, .pl (.int .i64 (x.2.2 : Int)))], [(10, ⟨v, 5, vB P⟩), (4, ⟨0, 87, kCl x.2.1⟩)]⟩
theorem tail2 (t : List UInt8) (j : Nat) (h : j + 1 = 136 - t.length % 136) : ∃ c : UInt8, (lP t j)[t.length + 1 + j - 1]?.getD 0 = c ∧ ∃ d : UInt8, ((c.toNat : Int) + 128) % 256 = (d.toNat : Int) ∧ (lP t j).set (t.length + 1 + j - 1) d = padL t := by
  have e : t.length + 1 + j - 1 = t.length + j := by omega
  rw [lP_eq, padL_eq, tailL_eq, e]
  simp only
  rw [← h]
  cases j with
  | zero => exact ⟨1, by simp, 129, by decide, by rw [if_pos rfl]; simp⟩
  | succ j =>
    refine ⟨0, ?_, 128, by decide, ?_⟩
    · rw [List.getElem?_append_right (by omega), show t.length + (j + 1) - t.length = j + 1 by omega]
      simp
    · rw [if_neg (by omega), List.set_append_right _ _ (by omega), show t.length + (j + 1) - t.length = j + 1 by omega, List.set_cons_succ, List.replicate_succ', List.set_append_right _ _ (by simp)]
      simp

set_option maxHeartbeats 400000000 in
theorem rsum_walk (t : List UInt8) (ht : t.length ≤ 1000000) : Spec Try.prog 33 [.pl (.string (bstr t))] (.one (.pl (.string (bstr (sumL t))))) := by
  have hΓ : Env.ok [(72, mixG), (71, wordG)] Try.prog := ok_cons rmix_ok (ok_cons word_ok (ok_nil _))
  have sz := bstr_size' t
  have hv : ((bstr t).data.toList.map fun b => Value.int .u8 (b.toNat : Int)) = vB t := vB_of t
  have l1 := vB_len t
  have h1 : (t.length + 1) * 1 ≤ 140737488355328 := by omega
  have h2 : t.length + 1 ≤ 140737488355328 := by omega
  generalize hk : 136 - t.length % 136 = k
  have hk0 : 0 < k := by omega
  have hk1 : k ≤ 136 := by omega
  have z0 : vB t ++ [Value.int .u8 1] = vB (lP t 0) := by rw [lP_eq, vB_eq]; simp
  have zj : ∀ j, vB (lP t j) ++ [Value.int .u8 0] = vB (lP t (j + 1)) := fun j => by rw [lP_eq, vB_eq]; simp [List.replicate_succ']
  have zl : ∀ j, (vB (lP t j)).length = t.length + 1 + j := fun j => by rw [vB_len, lP_eq]; simp; omega
  refine Spec.of_vx hΓ follows_mixed Try.func33 rfl (by kernel_rfl) (T := []) (by simp [Try.ntmps33]) (by kernel_rfl) rfl Try.ntmps33 (res := [.tmp 2]) rfl ?_
  intro W
  simp -implicitDefEqProofs (maxSteps := 100000000) only [hv, vy_succ, vmB, slim, slimOp, gO, gSO, qSO, quietOp, cS, qSB, eK, calmOp, guardS, gK, qK, putK, plK, dOk, St.ev, St.get, St.mem, St.set, St.setm, St.put, lookA, look, newK, nextver, initT, seqE, blockQ, bodyQ, resK, retV, AV.rdv, agg_uV, ↓binK, ↓intK, unK, ↓loadK, ↓withKey_eq, ↓idxAddrK, ↓indexK, ↓partK, ↓fieldK, ↓fieldAddrK, ↓convK, ↓callK, wrG, updK, ↓lenK, ↓mmK, ↓appK, ↓copyK, ↓sliceK, ↓toArrK, nilK, evs, plains, seqParts, capsOf, capsD, AV.dv, AV.cont, ↓buildV_eq, fillL, placesOf, ↓storeK, wrL, RV.av, DV.av, List.set, Nat.reduceEqDiff, Nat.reduceAdd, Nat.reduceSub, Nat.reduceMul, Nat.reduceLT, Nat.reduceLeDiff, Nat.reduceMod, Nat.reduceDiv, Int.reduceLT, Int.reduceLE, Int.reduceToNat, ↓reduceIte, reduceCtorEq, Value.oneCell', Int.reduceAdd, Int.reduceSub, Int.reduceMod, Int.reduceMul, Int.reduceNeg, Int.reduceBEq, Int.reduceBNe, Int.reduceTDiv, Int.reduceTMod, Int.reduceEq, tyB, Try.underlying13, Try.underlying25, Try.underlying26, Try.underlying39, Try.underlying40, Try.underlying72, Try.underlying73, sz, l1, h1, h2, z0]
  refine VT_loop hΓ follows_mixed (rsS t) (fun j => j < k) (fun j => 136 - j) 0 (Sub.of (by simp -implicitDefEqProofs (maxSteps := 100000000) only [subT, rsS, look, lookA, newK, St.get, St.mem, List.map_cons, List.map_nil, List.all_cons, List.all_nil, List.length_cons, List.length_nil, List.getElem?_cons_zero, List.getElem?_cons_succ, Nat.reduceEqDiff, Nat.reduceAdd, Option.some.injEq, ↓reduceIte, true_and, and_true, reduceCtorEq, beq_self_eq_true, Bool.and_true, ne_eq, not_false_eq_true, not_true_eq_false, Nat.add_zero, Nat.zero_add, Nat.reduceSub, Nat.reduceMul, Int.cast_ofNat_Int, Int.reduceAdd, Int.reduceSub, Int.reduceMul]) (by simp -implicitDefEqProofs (maxSteps := 100000000) only [subM, rsS, look, lookA, newK, St.get, St.mem, List.map_cons, List.map_nil, List.all_cons, List.all_nil, List.length_cons, List.length_nil, List.getElem?_cons_zero, List.getElem?_cons_succ, Nat.reduceEqDiff, Nat.reduceAdd, Option.some.injEq, ↓reduceIte, true_and, and_true, reduceCtorEq, beq_self_eq_true, Bool.and_true, ne_eq, not_false_eq_true, not_true_eq_false, Nat.add_zero, Nat.zero_add, Nat.reduceSub, Nat.reduceMul, Int.cast_ofNat_Int, Int.reduceAdd, Int.reduceSub, Int.reduceMul]) rfl) hk0 ?_
  intro j hj
  have zj' := zj j
  have zl' := zl j
  have f1 : ((t.length + 1 + j : Nat) : Int).tmod 136 = (((t.length + 1 + j) % 136 : Nat) : Int) := by rw [Int.tmod_eq_emod_of_nonneg (by omega)]; omega
  by_cases hlt : j + 1 < k
  · have f2 : decide ((0 : Int) < (((t.length + 1 + j) % 136 : Nat) : Int)) = true := decide_eq_true (by omega)
    have f3 : t.length + 1 + j + 1 ≤ 140737488355328 := by omega
    have f4 : (t.length + 1 + j + 1) * 1 ≤ 140737488355328 := by omega
    simp -implicitDefEqProofs (maxSteps := 100000000) only [vy_succ, vmB, slim, slimOp, gO, gSO, qSO, quietOp, cS, qSB, eK, calmOp, guardS, gK, qK, putK, plK, dOk, St.ev, St.get, St.mem, St.set, St.setm, St.put, lookA, look, newK, nextver, initT, seqE, blockQ, bodyQ, resK, retV, AV.rdv, agg_uV, ↓binK, ↓intK, unK, ↓loadK, ↓withKey_eq, ↓idxAddrK, ↓indexK, ↓partK, ↓fieldK, ↓fieldAddrK, ↓convK, ↓callK, wrG, updK, ↓lenK, ↓mmK, ↓appK, ↓copyK, ↓sliceK, ↓toArrK, nilK, evs, plains, seqParts, capsOf, capsD, AV.dv, AV.cont, ↓buildV_eq, fillL, placesOf, ↓storeK, wrL, RV.av, DV.av, List.set, Nat.reduceEqDiff, Nat.reduceAdd, Nat.reduceSub, Nat.reduceMul, Nat.reduceLT, Nat.reduceLeDiff, Nat.reduceMod, Nat.reduceDiv, Int.reduceLT, Int.reduceLE, Int.reduceToNat, ↓reduceIte, reduceCtorEq, Value.oneCell', Int.reduceAdd, Int.reduceSub, Int.reduceMod, Int.reduceMul, Int.reduceNeg, Int.reduceBEq, Int.reduceBNe, Int.reduceTDiv, Int.reduceTMod, Int.reduceEq, tyB, Try.underlying13, Try.underlying25, Try.underlying26, Try.underlying39, Try.underlying40, Try.underlying72, Try.underlying73, rsS, f1, f2, f3, f4, zj', zl']
    have f5 : t.length + 1 + (j + 1) = t.length + 1 + j + 1 := by omega
    exact ⟨j + 1, hlt, (by show 136 - (j + 1) < 136 - j; omega), Sub.of (by simp -implicitDefEqProofs (maxSteps := 100000000) only [subT, rsS, look, lookA, newK, St.get, St.mem, List.map_cons, List.map_nil, List.all_cons, List.all_nil, List.length_cons, List.length_nil, List.getElem?_cons_zero, List.getElem?_cons_succ, Nat.reduceEqDiff, Nat.reduceAdd, Option.some.injEq, ↓reduceIte, true_and, and_true, reduceCtorEq, beq_self_eq_true, Bool.and_true, ne_eq, not_false_eq_true, not_true_eq_false, Nat.add_zero, Nat.zero_add, Nat.reduceSub, Nat.reduceMul, Int.cast_ofNat_Int, Int.reduceAdd, Int.reduceSub, Int.reduceMul, f5]) (by simp -implicitDefEqProofs (maxSteps := 100000000) only [subM, rsS, look, lookA, newK, St.get, St.mem, List.map_cons, List.map_nil, List.all_cons, List.all_nil, List.length_cons, List.length_nil, List.getElem?_cons_zero, List.getElem?_cons_succ, Nat.reduceEqDiff, Nat.reduceAdd, Option.some.injEq, ↓reduceIte, true_and, and_true, reduceCtorEq, beq_self_eq_true, Bool.and_true, ne_eq, not_false_eq_true, not_true_eq_false, Nat.add_zero, Nat.zero_add, Nat.reduceSub, Nat.reduceMul, Int.cast_ofNat_Int, Int.reduceAdd, Int.reduceSub, Int.reduceMul]) rfl⟩
  · have f2 : decide ((0 : Int) < (((t.length + 1 + j) % 136 : Nat) : Int)) = false := decide_eq_false (by omega)
    obtain ⟨c, hc, d, hd, hset⟩ := tail2 t j (by omega)
    have hpl : (vB (padL t)).length = t.length + 1 + j := by rw [vB_len, padL_len]; omega
    have hPl : (padL t).length = 136 * (t.length / 136 + 1) := padL_len t
    have hsum : sumL t = outL (absN (t.length / 136 + 1) zk (padL t)) := by rw [sumL_eq]
    rw [hsum]
    generalize hR : absN (t.length / 136 + 1) zk (padL t) = R
    clear hsum
    generalize hL : t.length + 1 + j = L at *
    have L0 : 0 < L := by omega
    have f3 : IntKind.i64.wrap ((L : Int) - 1) = ((L - 1 : Nat) : Int) := by rw [i64_in (by omega) (by omega)]; omega
    have f4 : ((L - 1 : Nat) : Int) < (L : Int) := by omega
    have f5 : (0 : Int) ≤ ((L - 1 : Nat) : Int) := by omega
    have f6 : L - 1 < L := by omega
    have f7 : L - 1 + 1 ≤ L := by omega
    have f8 : (vB (lP t j))[L - 1]?.getD undef = .int .u8 (c.toNat : Int) := by
      have h := vB_len (lP t j)
      rw [vB_get _ _ (by omega), hc]
    have f9 : (vB (lP t j)).set (L - 1) (.int .u8 (d.toNat : Int)) = vB (padL t) := by rw [vB_set, hset]
    simp -implicitDefEqProofs (maxSteps := 100000000) only [vy_succ, vmB, slim, slimOp, gO, gSO, qSO, quietOp, cS, qSB, eK, calmOp, guardS, gK, qK, putK, plK, dOk, St.ev, St.get, St.mem, St.set, St.setm, St.put, lookA, look, newK, nextver, initT, seqE, blockQ, bodyQ, resK, retV, AV.rdv, agg_uV, ↓binK, ↓intK, unK, ↓loadK, ↓withKey_eq, ↓idxAddrK, ↓indexK, ↓partK, ↓fieldK, ↓fieldAddrK, ↓convK, ↓callK, wrG, updK, ↓lenK, ↓mmK, ↓appK, ↓copyK, ↓sliceK, ↓toArrK, nilK, evs, plains, seqParts, capsOf, capsD, AV.dv, AV.cont, ↓buildV_eq, fillL, placesOf, ↓storeK, wrL, RV.av, DV.av, List.set, Nat.reduceEqDiff, Nat.reduceAdd, Nat.reduceSub, Nat.reduceMul, Nat.reduceLT, Nat.reduceLeDiff, Nat.reduceMod, Nat.reduceDiv, Int.reduceLT, Int.reduceLE, Int.reduceToNat, ↓reduceIte, reduceCtorEq, Value.oneCell', Int.reduceAdd, Int.reduceSub, Int.reduceMod, Int.reduceMul, Int.reduceNeg, Int.reduceBEq, Int.reduceBNe, Int.reduceTDiv, Int.reduceTMod, Int.reduceEq, tyB, Try.underlying13, Try.underlying25, Try.underlying26, Try.underlying39, Try.underlying40, Try.underlying72, Try.underlying73, rsS, hL, f1, f2, f3, f4, f5, f6, f7, f8, f9, hd, wrL_one, Int.toNat_natCast, zl', Nat.mul_one]
    have hjv : ∃ v, j + 1 = v := ⟨_, rfl⟩
    obtain ⟨v, hv⟩ := hjv
    rw [hv]
    generalize hP : padL t = P at *
    clear f1 f2 f3 f4 f5 f6 f7 f8 f9 zj zl zj' zl' z0 h1 h2 l1 sz hset
    have q1 : L = 136 * (t.length / 136 + 1) := by rw [← hPl, ← hpl, vB_len]
    refine VT_loop hΓ follows_mixed (kRtS P L v) (fun x : Nat × K25 × Nat => x.2.2 + 136 * x.1 = L ∧ absN x.1 x.2.1 (P.drop x.2.2) = R) (fun x : Nat × K25 × Nat => x.1) ((t.length / 136 + 1, zk, (0 : Nat)) : Nat × K25 × Nat) (Sub.of (st' := kRtS P L v (t.length / 136 + 1, zk, 0)) (by simp -implicitDefEqProofs (maxSteps := 100000000) only [subT, kRtS, look, lookA, newK, St.get, St.mem, List.map_cons, List.map_nil, List.all_cons, List.all_nil, List.length_cons, List.length_nil, List.getElem?_cons_zero, List.getElem?_cons_succ, Nat.reduceEqDiff, Nat.reduceAdd, Option.some.injEq, ↓reduceIte, true_and, and_true, reduceCtorEq, beq_self_eq_true, Bool.and_true, ne_eq, not_false_eq_true, not_true_eq_false, Nat.add_zero, Nat.zero_add, Nat.reduceSub, Nat.reduceMul, Int.cast_ofNat_Int, Int.reduceAdd, Int.reduceSub, Int.reduceMul, Int.natCast_zero]) (by simp -implicitDefEqProofs (maxSteps := 100000000) only [subM, kRtS, kCl, zk_tn, look, lookA, newK, St.get, St.mem, List.map_cons, List.map_nil, List.all_cons, List.all_nil, List.length_cons, List.length_nil, List.getElem?_cons_zero, List.getElem?_cons_succ, Nat.reduceEqDiff, Nat.reduceAdd, Option.some.injEq, ↓reduceIte, true_and, and_true, reduceCtorEq, beq_self_eq_true, Bool.and_true, ne_eq, not_false_eq_true, not_true_eq_false, Nat.add_zero, Nat.zero_add, Nat.reduceSub, Nat.reduceMul, Int.cast_ofNat_Int, Int.reduceAdd, Int.reduceSub, Int.reduceMul]) rfl) ⟨by show 0 + 136 * (t.length / 136 + 1) = L; omega, hR⟩ ?_
    rintro ⟨n, A, F⟩ ⟨g1, g2⟩
    simp only at g1 g2
    rcases n with _ | n
    · rw [absN_0] at g2
      subst g2
      have f1 : decide ((F : Int) < (L : Int)) = false := decide_eq_false (by omega)
      simp -implicitDefEqProofs (maxSteps := 100000000) only [vy_succ, vmB, slim, slimOp, gO, gSO, qSO, quietOp, cS, qSB, eK, calmOp, guardS, gK, qK, putK, plK, dOk, St.ev, St.get, St.mem, St.set, St.setm, St.put, lookA, look, newK, nextver, initT, seqE, blockQ, bodyQ, resK, retV, AV.rdv, agg_uV, ↓binK, ↓intK, unK, ↓loadK, ↓withKey_eq, ↓idxAddrK, ↓indexK, ↓partK, ↓fieldK, ↓fieldAddrK, ↓convK, ↓callK, wrG, updK, ↓lenK, ↓mmK, ↓appK, ↓copyK, ↓sliceK, ↓toArrK, nilK, evs, plains, seqParts, capsOf, capsD, AV.dv, AV.cont, ↓buildV_eq, fillL, placesOf, ↓storeK, wrL, RV.av, DV.av, List.set, Nat.reduceEqDiff, Nat.reduceAdd, Nat.reduceSub, Nat.reduceMul, Nat.reduceLT, Nat.reduceLeDiff, Nat.reduceMod, Nat.reduceDiv, Int.reduceLT, Int.reduceLE, Int.reduceToNat, ↓reduceIte, reduceCtorEq, Value.oneCell', Int.reduceAdd, Int.reduceSub, Int.reduceMod, Int.reduceMul, Int.reduceNeg, Int.reduceBEq, Int.reduceBNe, Int.reduceTDiv, Int.reduceTMod, Int.reduceEq, tyB, Try.underlying13, Try.underlying25, Try.underlying26, Try.underlying39, Try.underlying40, Try.underlying72, Try.underlying73, kRtS, f1]
      refine VT_rounds hΓ follows_mixed 33 ?_
      simp -implicitDefEqProofs (maxSteps := 100000000) only [↓shr_tn, vy_succ, vmB, slim, slimOp, gO, gSO, qSO, quietOp, cS, qSB, eK, calmOp, guardS, gK, qK, putK, plK, dOk, St.ev, St.get, St.mem, St.set, St.setm, St.put, lookA, look, newK, nextver, initT, seqE, blockQ, bodyQ, resK, retV, AV.rdv, agg_uV, ↓binK, ↓intK, unK, ↓loadK, ↓withKey_eq, ↓idxAddrK, ↓indexK, ↓partK, ↓fieldK, ↓fieldAddrK, ↓convK, ↓callK, wrG, updK, ↓lenK, ↓mmK, ↓appK, ↓copyK, ↓sliceK, ↓toArrK, nilK, evs, plains, seqParts, capsOf, capsD, AV.dv, AV.cont, ↓buildV_eq, fillL, placesOf, ↓storeK, wrL, RV.av, DV.av, List.set, Nat.reduceEqDiff, Nat.reduceAdd, Nat.reduceSub, Nat.reduceMul, Nat.reduceLT, Nat.reduceLeDiff, Nat.reduceMod, Nat.reduceDiv, Int.reduceLT, Int.reduceLE, Int.reduceToNat, ↓reduceIte, reduceCtorEq, Value.oneCell', Int.reduceAdd, Int.reduceSub, Int.reduceMod, Int.reduceMul, Int.reduceNeg, Int.reduceBEq, Int.reduceBNe, Int.reduceTDiv, Int.reduceTMod, Int.reduceEq, tyB, Try.underlying13, Try.underlying25, Try.underlying26, Try.underlying39, Try.underlying40, Try.underlying72, Try.underlying73, shr_tn, lo8_tmod, u8_mod, kCl, out_u8s]
    · rw [absN_succ] at g2
      have f1 : decide ((F : Int) < (L : Int)) = true := decide_eq_true (by omega)
      have w0 : IntKind.i64.wrap ((F : Int) + 0) = (F : Int) := by rw [i64_in (by omega) (by omega)]; omega
      have w1 : ∀ c : Int, 0 ≤ c → c ≤ 136 → IntKind.i64.wrap ((F : Int) + c) = ((F + c.toNat : Nat) : Int) := fun c h h' => by rw [i64_in (by omega) (by omega)]; omega
      have w2 : ∀ c : Nat, c ≤ 128 → IntKind.i64.wrap (((F + c : Nat) : Int) + 8) = ((F + (c + 8) : Nat) : Int) := fun c h => by rw [i64_in (by omega) (by omega)]; omega
      have p0 : ∀ x : Nat, ((0 : Int) ≤ (x : Int)) = True := fun x => by simp
      have p1 : ∀ c : Nat, c < 136 → (((F + c : Nat) : Int) < (L : Int)) = True := fun c h => eq_true (by omega)
      have p2 : ∀ c : Nat, c ≤ 136 → (((F + c : Nat) : Int) ≤ (L : Int)) = True := fun c h => eq_true (by omega)
      have p3 : ∀ c d : Nat, c ≤ d → (((F + c : Nat) : Int) ≤ ((F + d : Nat) : Int)) = True := fun c d h => eq_true (by omega)
      have p4 : ∀ d : Nat, (((F : Nat) : Int) ≤ ((F + d : Nat) : Int)) = True := fun d => eq_true (by omega)
      have p5 : ((F : Nat) : Int) < (L : Int) := by omega
      have p6 : ∀ c : Nat, c ≤ 128 → (F + c + 8 ≤ L) = True := fun c h => eq_true (by omega)
      have p7 : F + 8 ≤ L := by omega
      have p8 : ∀ d : Nat, F + d - F = d := fun d => by omega
      have hq : ∀ l : List UInt8, (bstr l).data.toList = l := fun l => rfl
      have hz : ∀ c : Nat, c ≤ 128 → (bstr ((P.drop (F + c)).take 8)).size = 8 := fun c h => by rw [bstr_size', List.length_take, List.length_drop]; omega
      have hz0 : (bstr ((P.drop F).take 8)).size = 8 := by rw [bstr_size', List.length_take, List.length_drop]; omega
      have hf := kV_fold (xb A (P.drop F))
      have x17 : A 17 = xb A (P.drop F) 17 := (xb_len A (P.drop F) 17 (by omega)).symm
      have x18 : A 18 = xb A (P.drop F) 18 := (xb_len A (P.drop F) 18 (by omega)).symm
      have x19 : A 19 = xb A (P.drop F) 19 := (xb_len A (P.drop F) 19 (by omega)).symm
      have x20 : A 20 = xb A (P.drop F) 20 := (xb_len A (P.drop F) 20 (by omega)).symm
      have x21 : A 21 = xb A (P.drop F) 21 := (xb_len A (P.drop F) 21 (by omega)).symm
      have x22 : A 22 = xb A (P.drop F) 22 := (xb_len A (P.drop F) 22 (by omega)).symm
      have x23 : A 23 = xb A (P.drop F) 23 := (xb_len A (P.drop F) 23 (by omega)).symm
      have x24 : A 24 = xb A (P.drop F) 24 := (xb_len A (P.drop F) 24 (by omega)).symm
      have y0 : A 0 ^^^ wd (P.drop F) = xb A (P.drop F) 0 := xbG_0 A (P.drop F)
      have y1 : A 1 ^^^ wd (P.drop (F + 8)) = xb A (P.drop F) 1 := by rw [← xbG_1, List.drop_drop]
      have y2 : A 2 ^^^ wd (P.drop (F + 16)) = xb A (P.drop F) 2 := by rw [← xbG_2, List.drop_drop]
      have y3 : A 3 ^^^ wd (P.drop (F + 24)) = xb A (P.drop F) 3 := by rw [← xbG_3, List.drop_drop]
      have y4 : A 4 ^^^ wd (P.drop (F + 32)) = xb A (P.drop F) 4 := by rw [← xbG_4, List.drop_drop]
      have y5 : A 5 ^^^ wd (P.drop (F + 40)) = xb A (P.drop F) 5 := by rw [← xbG_5, List.drop_drop]
      have y6 : A 6 ^^^ wd (P.drop (F + 48)) = xb A (P.drop F) 6 := by rw [← xbG_6, List.drop_drop]
      have y7 : A 7 ^^^ wd (P.drop (F + 56)) = xb A (P.drop F) 7 := by rw [← xbG_7, List.drop_drop]
      have y8 : A 8 ^^^ wd (P.drop (F + 64)) = xb A (P.drop F) 8 := by rw [← xbG_8, List.drop_drop]
      have y9 : A 9 ^^^ wd (P.drop (F + 72)) = xb A (P.drop F) 9 := by rw [← xbG_9, List.drop_drop]
      have y10 : A 10 ^^^ wd (P.drop (F + 80)) = xb A (P.drop F) 10 := by rw [← xbG_10, List.drop_drop]
      have y11 : A 11 ^^^ wd (P.drop (F + 88)) = xb A (P.drop F) 11 := by rw [← xbG_11, List.drop_drop]
      have y12 : A 12 ^^^ wd (P.drop (F + 96)) = xb A (P.drop F) 12 := by rw [← xbG_12, List.drop_drop]
      have y13 : A 13 ^^^ wd (P.drop (F + 104)) = xb A (P.drop F) 13 := by rw [← xbG_13, List.drop_drop]
      have y14 : A 14 ^^^ wd (P.drop (F + 112)) = xb A (P.drop F) 14 := by rw [← xbG_14, List.drop_drop]
      have y15 : A 15 ^^^ wd (P.drop (F + 120)) = xb A (P.drop F) 15 := by rw [← xbG_15, List.drop_drop]
      have y16 : A 16 ^^^ wd (P.drop (F + 128)) = xb A (P.drop F) 16 := by rw [← xbG_16, List.drop_drop]
      simp -implicitDefEqProofs (maxSteps := 100000000) only [vy_succ, vmB, slim, slimOp, gO, gSO, qSO, quietOp, cS, qSB, eK, calmOp, guardS, gK, qK, putK, plK, dOk, St.ev, St.get, St.mem, St.set, St.setm, St.put, lookA, look, newK, nextver, initT, seqE, blockQ, bodyQ, resK, retV, AV.rdv, agg_uV, ↓binK, ↓intK, unK, ↓loadK, ↓withKey_eq, ↓idxAddrK, ↓indexK, ↓partK, ↓fieldK, ↓fieldAddrK, ↓convK, ↓callK, wrG, updK, ↓lenK, ↓mmK, ↓appK, ↓copyK, ↓sliceK, ↓toArrK, nilK, evs, plains, seqParts, capsOf, capsD, AV.dv, AV.cont, ↓buildV_eq, fillL, placesOf, ↓storeK, wrL, RV.av, DV.av, List.set, Nat.reduceEqDiff, Nat.reduceAdd, Nat.reduceSub, Nat.reduceMul, Nat.reduceLT, Nat.reduceLeDiff, Nat.reduceMod, Nat.reduceDiv, Int.reduceLT, Int.reduceLE, Int.reduceToNat, ↓reduceIte, reduceCtorEq, Value.oneCell', Int.reduceAdd, Int.reduceSub, Int.reduceMod, Int.reduceMul, Int.reduceNeg, Int.reduceBEq, Int.reduceBNe, Int.reduceTDiv, Int.reduceTMod, Int.reduceEq, tyB, Try.underlying13, Try.underlying25, Try.underlying26, Try.underlying39, Try.underlying40, Try.underlying72, Try.underlying73, kRtS, f1, kCl, x17, x18, x19, x20, x21, x22, x23, x24]
      refine VT_rounds hΓ follows_mixed 18 ?_
      simp -implicitDefEqProofs (maxSteps := 100000000) only [w0, w1, w2, vy_succ, vmB, slim, slimOp, gO, gSO, qSO, quietOp, cS, qSB, eK, calmOp, guardS, gK, qK, putK, plK, dOk, St.ev, St.get, St.mem, St.set, St.setm, St.put, lookA, look, newK, nextver, initT, seqE, blockQ, bodyQ, resK, retV, AV.rdv, agg_uV, ↓binK, ↓intK, unK, ↓loadK, ↓withKey_eq, ↓idxAddrK, ↓indexK, ↓partK, ↓fieldK, ↓fieldAddrK, ↓convK, ↓callK, wrG, updK, ↓lenK, ↓mmK, ↓appK, ↓copyK, ↓sliceK, ↓toArrK, nilK, evs, plains, seqParts, capsOf, capsD, AV.dv, AV.cont, ↓buildV_eq, fillL, placesOf, ↓storeK, wrL, RV.av, DV.av, List.set, Nat.reduceEqDiff, Nat.reduceAdd, Nat.reduceSub, Nat.reduceMul, Nat.reduceLT, Nat.reduceLeDiff, Nat.reduceMod, Nat.reduceDiv, Int.reduceLT, Int.reduceLE, Int.reduceToNat, ↓reduceIte, reduceCtorEq, Value.oneCell', Int.reduceAdd, Int.reduceSub, Int.reduceMod, Int.reduceMul, Int.reduceNeg, Int.reduceBEq, Int.reduceBNe, Int.reduceTDiv, Int.reduceTMod, Int.reduceEq, tyB, Try.underlying13, Try.underlying25, Try.underlying26, Try.underlying39, Try.underlying40, Try.underlying72, Try.underlying73, p0, p1, p2, p3, p4, p5, p6, p7, p8, hpl, vB_drop, vB_take, vB_u8s, wordG, hq, hz, hz0, wd_take, bits_xor_tn, Nat.add_sub_add_left, Int.toNat_natCast, hf, cells_kV, isNil_kV, mixG, toK_kV, mixN_24, y0, y1, y2, y3, y4, y5, y6, y7, y8, y9, y10, y11, y12, y13, y14, y15, y16]
      exact ⟨(n, mixN 24 (xb A (P.drop F)), F + 136), ⟨(by show F + 136 + 136 * n = L; omega), (by rw [← g2, List.drop_drop])⟩, Nat.lt_succ_self n, Sub.of (by simp -implicitDefEqProofs (maxSteps := 100000000) only [subT, kRtS, look, lookA, newK, St.get, St.mem, List.map_cons, List.map_nil, List.all_cons, List.all_nil, List.length_cons, List.length_nil, List.getElem?_cons_zero, List.getElem?_cons_succ, Nat.reduceEqDiff, Nat.reduceAdd, Option.some.injEq, ↓reduceIte, true_and, and_true, reduceCtorEq, beq_self_eq_true, Bool.and_true, ne_eq, not_false_eq_true, not_true_eq_false, Nat.add_zero, Nat.zero_add, Nat.reduceSub, Nat.reduceMul, Int.cast_ofNat_Int, Int.reduceAdd, Int.reduceSub, Int.reduceMul]) (by simp -implicitDefEqProofs (maxSteps := 100000000) only [subM, kRtS, kCl, look, lookA, newK, St.get, St.mem, List.map_cons, List.map_nil, List.all_cons, List.all_nil, List.length_cons, List.length_nil, List.getElem?_cons_zero, List.getElem?_cons_succ, Nat.reduceEqDiff, Nat.reduceAdd, Option.some.injEq, ↓reduceIte, true_and, and_true, reduceCtorEq, beq_self_eq_true, Bool.and_true, ne_eq, not_false_eq_true, not_true_eq_false, Nat.add_zero, Nat.zero_add, Nat.reduceSub, Nat.reduceMul, Int.cast_ofNat_Int, Int.reduceAdd, Int.reduceSub, Int.reduceMul]) rfl⟩

theorem rsum_ok : ∀ ds r, kSumG ds = some r → Spec Try.prog 33 ds r := by
  intro ds r h
  unfold kSumG at h
  split at h
  case h_2 => cases h
  rename_i s
  split at h
  case isFalse => cases h
  rename_i hs
  cases h
  have := rsum_walk s.data.toList hs
  rw [← bstr_of] at this
  exact this
end Go.Vm

/- The sum of the base's bytes, worked out. No condition. -/
set_option maxRecDepth 100000
set_option linter.unusedSimpArgs false
set_option linter.unusedVariables false
namespace Go.Vm
open Go Go.RowKit Go.Proofs Go.Ec

def ofL (l : List W64) : K25 := fun i => l.getD i 0
def rol0 (x : W64) (k : Nat) : W64 := x <<< k ||| x >>> (64 - k)
def kC0 (A : K25) (x : Nat) : W64 := A x ^^^ A (x + 5) ^^^ A (x + 10) ^^^ A (x + 15) ^^^ A (x + 20)
def kD0 (A : K25) (x : Nat) : W64 := kC0 A ((x + 4) % 5) ^^^ rol0 (kC0 A ((x + 1) % 5)) 1
def sr0 (j : Nat) : Nat := ([0, 6, 12, 18, 24, 3, 9, 10, 16, 22, 1, 7, 13, 19, 20, 4, 5, 11, 17, 23, 2, 8, 14, 15, 21] : List Nat).getD j 0
def by0 (j : Nat) : Nat := ([0, 1, 62, 28, 27, 36, 44, 6, 55, 20, 3, 10, 43, 25, 39, 41, 45, 15, 21, 8, 18, 2, 61, 56, 14] : List Nat).getD j 0
def kB0 (A : K25) (j : Nat) : W64 := rol0 (A (sr0 j) ^^^ kD0 A (sr0 j % 5)) (by0 (sr0 j))
def kE0 (A : K25) (i : Nat) : W64 := kB0 A i ^^^ ~~~(kB0 A (i / 5 * 5 + (i + 1) % 5)) &&& kB0 A (i / 5 * 5 + (i + 2) % 5)
def rnd0 (A : K25) (c : W64) (i : Nat) : W64 := if i = 0 then kE0 A 0 ^^^ c else if i < 25 then kE0 A i else 0
theorem rol_0 : rol = rol0 := rol_eq
theorem kC_0 : kC = kC0 := kC_eq
theorem kD_0 : kD = kD0 := by rw [kD_eq, kC_0, rol_0]; rfl
theorem srT_0' : srT = sr0 := srT_eq
theorem byT_0' : byT = by0 := byT_eq
theorem kB_0 : kB = kB0 := by rw [kB_eq, kD_0, rol_0, srT_0', byT_0']; rfl
theorem kE_0 : kE = kE0 := by rw [kE_eq, kB_0]; rfl
theorem rnd_0' : rnd = rnd0 := by rw [rnd_eq, kE_0]; rfl
theorem rnd_step (l l' : List W64) (c : W64) (hl : l'.length = 25) (h : ∀ i, i < 25 → rnd0 (ofL l) c i = l'.getD i 0) : rnd (ofL l) c = ofL l' := by
  rw [rnd_0']
  funext i
  by_cases hi : i < 25
  · exact h i hi
  · have e : ofL l' i = 0 := by unfold ofL; rw [List.getD_eq_getElem?_getD, List.getElem?_eq_none (by omega)]; rfl
    rw [e]
    unfold rnd0
    rw [if_neg (by omega), if_neg hi]
theorem rcw_nt (k : Nat) (n : Nat) (h : rcT k = (n : Int)) : rcw k = BitVec.ofNat 64 n := by
  rw [rcw_eq, nt_eq]; simp only [h]; exact BitVec.ofInt_natCast 64 n
def kS0 : List W64 := [12446784959294127737, 507648704348594261, 15647983601658403586, 10959500993137603161, 7333165478880885320, 12107946354257142877, 1825230698222721021, 13318288670677026716, 1, 0, 0, 0, 0, 0, 0, 0, 9223372036854775808, 0, 0, 0, 0, 0, 0, 0, 0]
def kS1 : List W64 := [6147971067010992689, 1876153753126214278, 11687062968877581082, 17750475127143040403, 1364682289028149339, 1027244746182266560, 3150245938057466390, 16886574177629905641, 6801149347803128144, 313691013372951397, 10719973574864325803, 16805296323909071301, 13468913885800402523, 8098377563087180416, 13179556767843239086, 15585664471952107018, 6407783409991285683, 3407303225009728413, 9827768119413240126, 1021865858411123001, 9652356509403333293, 11951718323505581892, 5540211513624755404, 3349618883719306652, 2245310120953577523]
def kS2 : List W64 := [9545368450931707425, 6103372658215168530, 7763591259973919506, 17848246576876516643, 12947006784223601021, 5505958432284116247, 2018212747768846420, 8447910178675968831, 15101621917694966059, 159939953062725845, 6064315107748091666, 9120501678261838620, 1651067134317061638, 11896695035590222660, 14673522992868187909, 11407096183005478742, 12687687913063921994, 6308545391313956332, 10294446521914786389, 8132747113889628817, 12665506115741070870, 5481670591257031969, 6959126744159306184, 16862145795090028173, 1693413769624635400]
def kS3 : List W64 := [4267680060616796381, 579814908073199446, 13791422340505577077, 4812296360446488545, 706710581062528071, 1271596614307356765, 11752830566704005059, 16762047622692872806, 5478091182564988854, 12300848449997010808, 5008977000257078002, 3871043231972770140, 7633546833167738716, 5532015364872513692, 7165461145452843687, 14083097586322905112, 484177406022666024, 3228067398285052987, 14623191040636660016, 17178877281466522028, 11173616120886968902, 12563382713311594488, 17422959636601913414, 748172302641650029, 6442387590352047615]
def kS4 : List W64 := [11837680179835353509, 13410646769476190334, 4952104528092970989, 1277989282364619929, 7047691804931419402, 5342080017024537996, 12493632100243897395, 11574884222087161430, 10055621988896330210, 18165963603145537309, 17487306100669846078, 18119694806115350196, 9618717773767475380, 12825705048106922506, 5527631064903321271, 9002700491634594573, 1303087153295520743, 14024905377583470358, 10187605913754835402, 14556652007414753711, 4021238888784077478, 10026775072947815113, 16782994756348503350, 4749223681402529788, 17593480719839225540]
def kS5 : List W64 := [15058388053019221123, 9974640622492302870, 8723369104006252492, 17886918876202208039, 14050617480229670164, 12483290973113457777, 15930457174237073020, 8551516979707312727, 2365711919889953607, 11109191870527486081, 14368473327293248273, 5587541537406898950, 3789619646445963886, 18394813622038995130, 11862182497780370241, 16555824809559328481, 5412517034377761979, 7838744382045772683, 17771373447938391051, 6694972750624542577, 3266019767555548540, 12208565774212995082, 15248425339155570907, 9452177465067154405, 12259306221190545071]
def kS6 : List W64 := [10013278077612867761, 1474259117612355964, 2879183728813378546, 4148321736889135143, 12626595382835406416, 9293618296869397405, 4938129218782373532, 16664402468043493161, 15681752965807490247, 10226721186221201007, 9743597131668940838, 1852918534640912642, 3450560585401044087, 1011300051746069993, 6899631175538953180, 16704795931792727434, 234975023581710291, 13825457614871906661, 11891675625821231111, 6058124696498741224, 5580821739077533620, 15813398562387544400, 15492403653148091095, 2606924993814857282, 18193002710699230399]
def kS7 : List W64 := [17827615796375011906, 15391292426169837866, 6249362430162252556, 9710251416279846582, 10105912379249709577, 2650823036450594119, 15664387409857930322, 1662177558731048463, 7334746813663443739, 5344349277605330821, 16404032918086284602, 2714828603363454990, 11511462880717494872, 9204587968020011070, 3039720999628762020, 9367911649924092033, 15015623358785985977, 14161256907096502116, 13580755754158028805, 6706815580275343004, 9092003422247875906, 4680058580954471423, 7166209016848120547, 7537872251933034799, 14960328169997702102]
def kS8 : List W64 := [4346157385650240285, 12747278687979473800, 3961466678184963067, 1226740751023409601, 17409835424652035951, 18118317986929652408, 2423471940579465391, 6193589401598264539, 14617452826383948483, 3011110326659342099, 15356859773637796445, 10332624466522692422, 13952365950720710612, 10772327730834177540, 6604526622933835094, 6572223820726321970, 12184520449208502169, 18342003984771950954, 11609127758758902949, 10944988614007186857, 10804558890251926615, 16572010099335580323, 11065538473118167171, 17148339691171097690, 18417427264340804677]
def kS9 : List W64 := [8311848369386851567, 3230369989570986678, 13081493150349318572, 7434478931272561067, 15369978940703765400, 3470470700861193646, 2249687778378918720, 9313084128945660265, 153966631549696496, 6118983537052511125, 14977980535898290196, 18177565235984922020, 14924189921399902730, 15876903356041657148, 7094217940934814543, 1583378852536698098, 16321296331298992044, 14177497292578464099, 16553325849587323095, 648459780626778444, 11254275351218238802, 17957596676216042993, 289859803151954995, 13895570894519165226, 16749880478013190335]
def kS10 : List W64 := [13273112571084993025, 9721218316213618435, 7824170422330108613, 8107343850455108834, 1032921731793673868, 18399178888865308163, 7934429767556016305, 2141953109194568018, 575593999526914918, 4397453199245880949, 1407101242017024730, 4760322799491398725, 7812580022732182880, 2803358680990760564, 11917978172376795409, 11125129958775343160, 14948216858779419195, 5040337628865093567, 3973591364729081967, 12893413016423199688, 17257522768735559333, 9664548231428163547, 9178157335604473256, 17125141530137873823, 3086001205950466466]
def kS11 : List W64 := [3558824827103517856, 11571718876325132530, 11622592850317408742, 11451969422274649614, 7748472094946007775, 11708971041613666165, 15194888609098468909, 356585898603786203, 1114503999738702362, 9862786600993572479, 1263754907628321736, 1074634268687110450, 9705722904114278002, 11178441218769045114, 4916578521287547311, 11727595293308849208, 1284664860691755635, 17780436577107051558, 8647777739289450528, 7116046839887150837, 8650581182815156850, 114598025308178617, 13787433734616184716, 11081932096594241469, 11662678542997502451]
def kS12 : List W64 := [14904032757431871081, 1833367409297251611, 10017274157448560410, 2565622001502473760, 14045034576029116318, 7915295257839387862, 8298107784104063204, 7015881885816143476, 9905722942461894066, 1344909847083554569, 1812622167082365918, 13635919833101455094, 6329735965916182372, 4775292262716237883, 4110210121577861853, 6413457930787679200, 12066042808624618022, 9140075296723726086, 3647307869590857955, 17027383216867295599, 9717427822941613517, 18083647396905638099, 15260861372150040278, 5366806573868552890, 4884586890848314528]
def kS13 : List W64 := [11525420944026756391, 18214196730449270852, 16800459377548193, 11560628052597248771, 6265811172570832472, 10533518685195787741, 7726347921332555985, 8102971164141328786, 14849296198520950841, 730792256244643001, 13519574209307208262, 17224902856140070007, 15990674751894835706, 14976057936773525297, 11246247402535995241, 5902052041245227697, 8934381382493077539, 12180751395560369125, 1916218345209719657, 4816456847919208520, 10281050804854773104, 12180863626829662534, 9754408195920163773, 11477169766461609764, 14546999400930527400]
def kS14 : List W64 := [19053535572813391, 3254051246563625587, 659083417359583494, 6811129456922046764, 3418024805626189822, 14100825555534820255, 12190553255631085462, 16427050095616155725, 869054706934327455, 16771147328648398294, 2368125158103282750, 9444193741055805136, 15316860623166084929, 12045208517887612069, 17521819835406632750, 7633891305081537305, 11005095080216094945, 9332182169786266629, 7619752011440268517, 17694609612799368934, 17951520926239439274, 4486714420226338035, 9066495453831349264, 4308744824697230123, 2001970315205741107]
def kS15 : List W64 := [652529623428270178, 17280104991395114182, 7007206083772549446, 7741229147703988740, 6448935170842353916, 11013809384219108563, 16400734725861116728, 10341095433006776725, 11058702026384810582, 12777209949380924920, 11951139618199245599, 17041423964292953794, 7216355067642355390, 207515968366616245, 1901061013279155703, 8599781125096371868, 15795751314943543212, 14138459405122963919, 3315967806219200930, 1398910219540554142, 4438407371450813028, 15250803631669692762, 11728431483141932951, 6413419354055774522, 11827282418758221653]
def kS16 : List W64 := [2094324497629059468, 18410952481960957365, 16998304749590217317, 10472165452090246182, 2957324439160666018, 11571218197299437198, 10884245048476333031, 14222447518032019201, 3951467359830295629, 5600569637552148405, 15218276486119930487, 3973585765572339826, 14890164401722076945, 1342608030262973757, 12623147848651941794, 3322497216572940071, 11951459963232749422, 12503682638979366249, 16300721124851136151, 13752709708348952717, 15247005133059479192, 5547289112688542651, 13306898888049496214, 6092884065202787358, 16049924118934415550]
def kS17 : List W64 := [8910310858846878695, 1336314419790737403, 10693316814692799935, 6542397894220716213, 13006074077733845705, 2259420849075044304, 5119086992943463354, 12576841053068198003, 17243829523025335896, 11612152736619845273, 383844063022455255, 4006692605074657292, 13728196051602548078, 3273366119087763354, 9906580987388778484, 1680054105485861071, 3453069422874564879, 2445652586356073816, 14164153117556706949, 8168539158903213924, 901711995758321870, 7316122978914772712, 17086048163525799525, 9605845784660679421, 13117633953147762592]
def kS18 : List W64 := [3928262691071299283, 1825779283928386589, 16117989046544885133, 3991199164750354166, 3467299420957931229, 4432177862723599763, 11358991721456225845, 9095440129232165448, 12060666814550608555, 1044957007450258942, 11814458915802680441, 12010980000818125249, 1655513237225870257, 11784137439362558749, 14110185025029303704, 17415060416690423902, 529664923344494531, 12450465908267372407, 11626351226785062331, 11834094352327133990, 16994420149643952424, 9271207796368776981, 15602893061487868717, 14641683616207151565, 4315750413167832587]
def kS19 : List W64 := [2104031709389910310, 14738801326702933344, 6802142155068579670, 7137316528851226856, 9086556789983446272, 11916693453768624479, 4881231900193264915, 9313447982761345159, 3394093884336321260, 10474177048825784559, 17371057877526256670, 4740340113041605954, 12216639345813621796, 15347236007256038288, 15444483364815817398, 4299768620770362377, 5023964618276179751, 9544900469916855909, 10207604521930120530, 10078274342904233802, 10481368004061407778, 5776659037760175816, 7134133881635865801, 14401152220392620418, 10763325800383934934]
def kS20 : List W64 := [612344474104722813, 11590833022060788176, 11072834976406496541, 9385776222077155930, 2141808173806412478, 11978092556803861355, 12570321765401777987, 9509547776701424480, 8280740594698023816, 11234988926224570323, 2408306135397045118, 14249712112678810543, 8764307970830112783, 7765937589232241792, 5245578492655674593, 16887635652617528453, 4357957631484519025, 15459167334733117100, 87758573240896788, 4907018245667702475, 579560492342551185, 1006755977026394382, 5304323144621126173, 6489373177897975058, 6339236642932280530]
def kS21 : List W64 := [11597546057742254830, 12005282741731989367, 195670314949206852, 6657866423513679341, 12256623533632225988, 16854991480178193290, 17982640710881986741, 14575357283352355434, 8795935212429922005, 16604140825544672254, 7545804711227691862, 16110388991371485924, 5225150021780061988, 11026287904518793994, 5800002214672294434, 14355833416585153643, 8315235467183314836, 13674218171206826069, 9821310629384017487, 14580916750094659268, 4520376952911183229, 3584425990944671759, 13135653121694848148, 2104640822699963469, 7289638768227246036]
def kS22 : List W64 := [6286240025342736281, 13745111842840629545, 7392041947598255469, 14890298487628900405, 9420990692771067897, 1479255071804271313, 5146600945701750318, 18141473291710640994, 17591338002926922935, 7442291661101979235, 5152579487721739168, 153165356671926743, 1692654426060755285, 4946229325953040208, 9574254826078407096, 3113411579334602112, 13778208479528151927, 13535202115647067203, 3133359169298806084, 286673899484045105, 15365947002241303175, 1152814135981554710, 6020169162900646241, 2274385874519417967, 18111774317694436075]
def kS23 : List W64 := [12985457897057534354, 266370476577644034, 16607233548730408584, 17765841099381523301, 12635634046860480280, 518019492209386289, 7793729894236376637, 4913239630937532274, 6762527185600229709, 2405973505345037220, 12815094650699368655, 4908010728896454485, 18390943308343599329, 5837469124899805113, 6612102576462588155, 3224490175415626262, 8093782937661960536, 15269540748214020566, 15504321565339717650, 13118621657035987053, 14884958655455242563, 11489967232403887828, 3609923983723131244, 2893145274369606729, 15406614195748271792]
def kS24 : List W64 := [12562634669738469056, 5928249483024958272, 13257574057394117129, 16094520544017629880, 14979511871581324652, 5658247198910444907, 12095304490324344827, 13371193797678042564, 3702659389917089387, 9131219029868206035, 1449777034409982508, 2025719396696261666, 6973059317260079475, 9387780226299198499, 14282461711030732716, 7462661846291167221, 13385766764523110248, 833643460064714359, 10464762274677988957, 15389302551230459728, 9816374635301549375, 17024903306643033914, 6080338986015629281, 14176032724109458222, 9088842648982976696]
theorem kst0 : rnd (ofL kS0) (rcw 0) = ofL kS1 := by
  rw [rcw_nt 0 1 rcT_0]
  exact rnd_step kS0 kS1 1#64 rfl (by decide +kernel)
theorem kst1 : rnd (ofL kS1) (rcw 1) = ofL kS2 := by
  rw [rcw_nt 1 32898 rcT_1]
  exact rnd_step kS1 kS2 32898#64 rfl (by decide +kernel)
theorem kst2 : rnd (ofL kS2) (rcw 2) = ofL kS3 := by
  rw [rcw_nt 2 9223372036854808714 rcT_2]
  exact rnd_step kS2 kS3 9223372036854808714#64 rfl (by decide +kernel)
theorem kst3 : rnd (ofL kS3) (rcw 3) = ofL kS4 := by
  rw [rcw_nt 3 9223372039002292224 rcT_3]
  exact rnd_step kS3 kS4 9223372039002292224#64 rfl (by decide +kernel)
theorem kst4 : rnd (ofL kS4) (rcw 4) = ofL kS5 := by
  rw [rcw_nt 4 32907 rcT_4]
  exact rnd_step kS4 kS5 32907#64 rfl (by decide +kernel)
theorem kst5 : rnd (ofL kS5) (rcw 5) = ofL kS6 := by
  rw [rcw_nt 5 2147483649 rcT_5]
  exact rnd_step kS5 kS6 2147483649#64 rfl (by decide +kernel)
theorem kst6 : rnd (ofL kS6) (rcw 6) = ofL kS7 := by
  rw [rcw_nt 6 9223372039002292353 rcT_6]
  exact rnd_step kS6 kS7 9223372039002292353#64 rfl (by decide +kernel)
theorem kst7 : rnd (ofL kS7) (rcw 7) = ofL kS8 := by
  rw [rcw_nt 7 9223372036854808585 rcT_7]
  exact rnd_step kS7 kS8 9223372036854808585#64 rfl (by decide +kernel)
theorem kst8 : rnd (ofL kS8) (rcw 8) = ofL kS9 := by
  rw [rcw_nt 8 138 rcT_8]
  exact rnd_step kS8 kS9 138#64 rfl (by decide +kernel)
theorem kst9 : rnd (ofL kS9) (rcw 9) = ofL kS10 := by
  rw [rcw_nt 9 136 rcT_9]
  exact rnd_step kS9 kS10 136#64 rfl (by decide +kernel)
theorem kst10 : rnd (ofL kS10) (rcw 10) = ofL kS11 := by
  rw [rcw_nt 10 2147516425 rcT_10]
  exact rnd_step kS10 kS11 2147516425#64 rfl (by decide +kernel)
theorem kst11 : rnd (ofL kS11) (rcw 11) = ofL kS12 := by
  rw [rcw_nt 11 2147483658 rcT_11]
  exact rnd_step kS11 kS12 2147483658#64 rfl (by decide +kernel)
theorem kst12 : rnd (ofL kS12) (rcw 12) = ofL kS13 := by
  rw [rcw_nt 12 2147516555 rcT_12]
  exact rnd_step kS12 kS13 2147516555#64 rfl (by decide +kernel)
theorem kst13 : rnd (ofL kS13) (rcw 13) = ofL kS14 := by
  rw [rcw_nt 13 9223372036854775947 rcT_13]
  exact rnd_step kS13 kS14 9223372036854775947#64 rfl (by decide +kernel)
theorem kst14 : rnd (ofL kS14) (rcw 14) = ofL kS15 := by
  rw [rcw_nt 14 9223372036854808713 rcT_14]
  exact rnd_step kS14 kS15 9223372036854808713#64 rfl (by decide +kernel)
theorem kst15 : rnd (ofL kS15) (rcw 15) = ofL kS16 := by
  rw [rcw_nt 15 9223372036854808579 rcT_15]
  exact rnd_step kS15 kS16 9223372036854808579#64 rfl (by decide +kernel)
theorem kst16 : rnd (ofL kS16) (rcw 16) = ofL kS17 := by
  rw [rcw_nt 16 9223372036854808578 rcT_16]
  exact rnd_step kS16 kS17 9223372036854808578#64 rfl (by decide +kernel)
theorem kst17 : rnd (ofL kS17) (rcw 17) = ofL kS18 := by
  rw [rcw_nt 17 9223372036854775936 rcT_17]
  exact rnd_step kS17 kS18 9223372036854775936#64 rfl (by decide +kernel)
theorem kst18 : rnd (ofL kS18) (rcw 18) = ofL kS19 := by
  rw [rcw_nt 18 32778 rcT_18]
  exact rnd_step kS18 kS19 32778#64 rfl (by decide +kernel)
theorem kst19 : rnd (ofL kS19) (rcw 19) = ofL kS20 := by
  rw [rcw_nt 19 9223372039002259466 rcT_19]
  exact rnd_step kS19 kS20 9223372039002259466#64 rfl (by decide +kernel)
theorem kst20 : rnd (ofL kS20) (rcw 20) = ofL kS21 := by
  rw [rcw_nt 20 9223372039002292353 rcT_20]
  exact rnd_step kS20 kS21 9223372039002292353#64 rfl (by decide +kernel)
theorem kst21 : rnd (ofL kS21) (rcw 21) = ofL kS22 := by
  rw [rcw_nt 21 9223372036854808704 rcT_21]
  exact rnd_step kS21 kS22 9223372036854808704#64 rfl (by decide +kernel)
theorem kst22 : rnd (ofL kS22) (rcw 22) = ofL kS23 := by
  rw [rcw_nt 22 2147483649 rcT_22]
  exact rnd_step kS22 kS23 2147483649#64 rfl (by decide +kernel)
theorem kst23 : rnd (ofL kS23) (rcw 23) = ofL kS24 := by
  rw [rcw_nt 23 9223372039002292232 rcT_23]
  exact rnd_step kS23 kS24 9223372039002292232#64 rfl (by decide +kernel)
theorem kmix : mixN 24 (ofL kS0) = ofL kS24 := by
  rw [← mixN_succ 23, ← mixN_succ 22, ← mixN_succ 21, ← mixN_succ 20, ← mixN_succ 19, ← mixN_succ 18, ← mixN_succ 17, ← mixN_succ 16, ← mixN_succ 15, ← mixN_succ 14, ← mixN_succ 13, ← mixN_succ 12, ← mixN_succ 11, ← mixN_succ 10, ← mixN_succ 9, ← mixN_succ 8, ← mixN_succ 7, ← mixN_succ 6, ← mixN_succ 5, ← mixN_succ 4, ← mixN_succ 3, ← mixN_succ 2, ← mixN_succ 1, ← mixN_succ 0, mixN_0, kst0, kst1, kst2, kst3, kst4, kst5, kst6, kst7, kst8, kst9, kst10, kst11, kst12, kst13, kst14, kst15, kst16, kst17, kst18, kst19, kst20, kst21, kst22, kst23]
def msgL : List UInt8 := [121, 190, 102, 126, 249, 220, 187, 172, 85, 160, 98, 149, 206, 135, 11, 7, 2, 155, 252, 219, 45, 206, 40, 217, 89, 242, 129, 91, 22, 248, 23, 152, 72, 58, 218, 119, 38, 163, 196, 101, 93, 164, 251, 252, 14, 17, 8, 168, 253, 23, 180, 72, 166, 133, 84, 25, 156, 71, 208, 143, 251, 16, 212, 184]
theorem msg_eq : bytesL bX ++ bytesL bY = msgL := by
  rw [bytesL_eq, bytesL_eq]
  simp only [byteN_eq]
  decide +kernel
theorem pad_msg : padL msgL = [121, 190, 102, 126, 249, 220, 187, 172, 85, 160, 98, 149, 206, 135, 11, 7, 2, 155, 252, 219, 45, 206, 40, 217, 89, 242, 129, 91, 22, 248, 23, 152, 72, 58, 218, 119, 38, 163, 196, 101, 93, 164, 251, 252, 14, 17, 8, 168, 253, 23, 180, 72, 166, 133, 84, 25, 156, 71, 208, 143, 251, 16, 212, 184, 1, 0, 0, 0, 0, 0, 0, 0, 0, 0, 0, 0, 0, 0, 0, 0, 0, 0, 0, 0, 0, 0, 0, 0, 0, 0, 0, 0, 0, 0, 0, 0, 0, 0, 0, 0, 0, 0, 0, 0, 0, 0, 0, 0, 0, 0, 0, 0, 0, 0, 0, 0, 0, 0, 0, 0, 0, 0, 0, 0, 0, 0, 0, 0, 0, 0, 0, 0, 0, 0, 0, 128] := by rw [padL_eq, tailL_eq]; decide +kernel
def bt0 (l : List UInt8) (j : Nat) : W64 := BitVec.ofNat 64 (l[j]?.getD 0).toNat
def wd0 (l : List UInt8) : W64 := bt0 l 0 <<< 0 ^^^ bt0 l 1 <<< 8 ^^^ bt0 l 2 <<< 16 ^^^ bt0 l 3 <<< 24 ^^^ bt0 l 4 <<< 32 ^^^ bt0 l 5 <<< 40 ^^^ bt0 l 6 <<< 48 ^^^ bt0 l 7 <<< 56
theorem bt_0 : bt = bt0 := bt_eq
theorem wd_0 : wd = wd0 := by rw [wd_eq, bt_0]; rfl
theorem kinit : xb zk (padL msgL) = ofL kS0 := by
  rw [pad_msg, xb_eq, wd_0, zk_eq]
  funext i
  by_cases hi : i < 25
  · revert i
    decide +kernel
  · have e : ofL kS0 i = 0 := by unfold ofL; rw [List.getD_eq_getElem?_getD, List.getElem?_eq_none (by show 25 ≤ i; omega)]; rfl
    rw [e]
    simp only
    rw [if_neg (by omega)]
    rfl
theorem lo8_0 : lo8 = fun x => UInt8.ofNat x.toNat := lo8_eq
theorem sum_base : ((sumL (bytesL bX ++ bytesL bY)).drop 12).take 4 = [126, 95, 69, 82] := by
  rw [msg_eq, sumL_eq]
  have l : msgL.length = 64 := rfl
  simp only [l, Nat.reduceDiv, Nat.zero_add]
  rw [absN_succ, absN_0, kinit, kmix, outL_eq, lo8_0]
  decide +kernel
end Go.Vm

/- Contracts: addresses. No condition. -/
set_option maxRecDepth 100000
set_option linter.unusedSimpArgs false
set_option linter.unusedVariables false
namespace Go.Vm
open Go Go.RowKit Go.Proofs Go.Ec

noncomputable def adr (x y : Nat) : List UInt8 := Classical.choose (⟨(sumL (bytesL x ++ bytesL y)).drop 12, rfl⟩ : ∃ l : List UInt8, l = (sumL (bytesL x ++ bytesL y)).drop 12)
theorem adr_eq (x y : Nat) : adr x y = (sumL (bytesL x ++ bytesL y)).drop 12 := Classical.choose_spec (⟨(sumL (bytesL x ++ bytesL y)).drop 12, rfl⟩ : ∃ l : List UInt8, l = (sumL (bytesL x ++ bytesL y)).drop 12)
theorem adr_len (x y : Nat) : (adr x y).length = 20 := by rw [adr_eq, List.length_drop, sumL_len]
theorem adr_cut (x y : Nat) : (bstr (sumL (bytesL x ++ bytesL y))).extract 12 32 = bstr (adr x y) := by
  rw [bstr_extract, adr_eq, List.take_of_length_le]
  rw [List.length_drop, sumL_len]; omega
theorem bytesL_len (x : Nat) : (bytesL x).length = 32 := by rw [bytesL_eq, List.length_map, List.length_range]
theorem kof_2 (x y : Nat) : kOfG [.vec [.string (bstr (bytesL x)), .string (bstr (bytesL y))]] = some (.one (.pl (.string (bstr (sumL (bytesL x ++ bytesL y)))))) :=
  ofG_2 (bstr (bytesL x)) (bstr (bytesL y)) (by rw [bstr_size', bytesL_len]; omega) (by rw [bstr_size', bytesL_len]; omega)
theorem ksum_2 (x y : Nat) : kSumG [.pl (.string (bstr (bytesL x ++ bytesL y)))] = some (.one (.pl (.string (bstr (sumL (bytesL x ++ bytesL y)))))) :=
  sumG_a (bstr (bytesL x ++ bytesL y)) (by rw [bstr_size', List.length_append, bytesL_len, bytesL_len]; omega)
noncomputable def soB (x y : Nat) (b : Bool) : Bool := !b && onB x y b
noncomputable def soR (x y : Nat) (b : Bool) : RV := match soB x y b with
  | true => .tup [.pl (.string (bstr (adr x y))), .pl (.int .i64 0)]
  | false => .tup [.pl (.string ⟨#[]⟩), .pl (.int .i64 1)]
noncomputable def soG : List DV → Option RV
  | [.pl v] => match toR v with
    | some (x, y, b) => some (soR x y b)
    | none => none
  | _ => none
theorem so_walk (x y : Nat) (b : Bool) (hx : x < full) (hy : y < full) : Spec Try.prog 7 [.pl (ptV x y b)] (soR x y b) := by
  have hΓ : Env.ok [(27, onG), (29, bytesG), (28, kOfG)] Try.prog := ok_cons on_ok (ok_cons bytes_ok (ok_cons kOf_ok (ok_nil _)))
  have t := fun b => toR_lt (b := b) hx hy
  have tx := toN_lt hx
  have ty := toN_lt hy
  have hb : ∀ l : List UInt8, (bstr l).size = l.length := bstr_size'
  have hl := sumL_len (bytesL x ++ bytesL y)
  have hc := adr_cut x y
  have hk := kof_2 x y
  unfold soR soB
  refine Spec.of_vx hΓ follows_mixed Try.func7 rfl (by kernel_rfl) (T := []) (by simp [Try.ntmps7]) (by kernel_rfl) rfl Try.ntmps7 (res := [.tmp 2, .tmp 3]) rfl ?_
  intro W
  cases b with
  | true => simp -implicitDefEqProofs (maxSteps := 10000000) only [vy_succ, vmB, slim, slimOp, gO, gSO, qSO, quietOp, cS, qSB, eK, calmOp, guardS, gK, qK, putK, plK, dOk, St.ev, St.get, St.mem, St.set, St.setm, St.put, lookA, look, newK, nextver, initT, seqE, blockQ, bodyQ, resK, retV, AV.rdv, agg_uV, ↓binK, ↓intK, unK, ↓loadK, ↓withKey_eq, ↓idxAddrK, ↓indexK, ↓partK, ↓fieldK, ↓fieldAddrK, ↓convK, ↓callK, wrG, updK, ↓lenK, ↓mmK, ↓appK, ↓copyK, ↓sliceK, ↓toArrK, nilK, evs, plains, seqParts, capsOf, capsD, AV.dv, AV.cont, ↓buildV_eq, fillL, placesOf, ↓storeK, wrL, RV.av, DV.av, List.set, Nat.reduceEqDiff, Nat.reduceAdd, Nat.reduceSub, Nat.reduceMul, Nat.reduceLT, Nat.reduceLeDiff, Nat.reduceMod, Nat.reduceDiv, Int.reduceLT, Int.reduceLE, Int.reduceToNat, ↓reduceIte, reduceCtorEq, Value.oneCell', Int.reduceAdd, Int.reduceSub, Int.reduceMod, Int.reduceMul, Int.reduceNeg, Int.reduceBEq, Int.reduceBNe, Int.reduceTDiv, Int.reduceTMod, Int.reduceEq, tyB, Try.underlying13, Try.underlying25, Try.underlying26, Try.underlying39, Try.underlying40, Try.underlying72, Try.underlying73, cells_pt, agg_pt, isNil_pt, ptV_lit, cells_w, agg_w, isNil_w, valm, ↓binK_eqPt, ↓binK_eqU, ↓binK_neU, eqU_v, onG, t, Bool.not_true, Bool.false_and]
  | false =>
    cases h : onB x y false with
    | false => simp -implicitDefEqProofs (maxSteps := 10000000) only [vy_succ, vmB, slim, slimOp, gO, gSO, qSO, quietOp, cS, qSB, eK, calmOp, guardS, gK, qK, putK, plK, dOk, St.ev, St.get, St.mem, St.set, St.setm, St.put, lookA, look, newK, nextver, initT, seqE, blockQ, bodyQ, resK, retV, AV.rdv, agg_uV, ↓binK, ↓intK, unK, ↓loadK, ↓withKey_eq, ↓idxAddrK, ↓indexK, ↓partK, ↓fieldK, ↓fieldAddrK, ↓convK, ↓callK, wrG, updK, ↓lenK, ↓mmK, ↓appK, ↓copyK, ↓sliceK, ↓toArrK, nilK, evs, plains, seqParts, capsOf, capsD, AV.dv, AV.cont, ↓buildV_eq, fillL, placesOf, ↓storeK, wrL, RV.av, DV.av, List.set, Nat.reduceEqDiff, Nat.reduceAdd, Nat.reduceSub, Nat.reduceMul, Nat.reduceLT, Nat.reduceLeDiff, Nat.reduceMod, Nat.reduceDiv, Int.reduceLT, Int.reduceLE, Int.reduceToNat, ↓reduceIte, reduceCtorEq, Value.oneCell', Int.reduceAdd, Int.reduceSub, Int.reduceMod, Int.reduceMul, Int.reduceNeg, Int.reduceBEq, Int.reduceBNe, Int.reduceTDiv, Int.reduceTMod, Int.reduceEq, tyB, Try.underlying13, Try.underlying25, Try.underlying26, Try.underlying39, Try.underlying40, Try.underlying72, Try.underlying73, cells_pt, agg_pt, isNil_pt, ptV_lit, cells_w, agg_w, isNil_w, valm, ↓binK_eqPt, ↓binK_eqU, ↓binK_neU, eqU_v, onG, t, h, Bool.not_false, Bool.true_and]
    | true => simp -implicitDefEqProofs (maxSteps := 10000000) only [vy_succ, vmB, slim, slimOp, gO, gSO, qSO, quietOp, cS, qSB, eK, calmOp, guardS, gK, qK, putK, plK, dOk, St.ev, St.get, St.mem, St.set, St.setm, St.put, lookA, look, newK, nextver, initT, seqE, blockQ, bodyQ, resK, retV, AV.rdv, agg_uV, ↓binK, ↓intK, unK, ↓loadK, ↓withKey_eq, ↓idxAddrK, ↓indexK, ↓partK, ↓fieldK, ↓fieldAddrK, ↓convK, ↓callK, wrG, updK, ↓lenK, ↓mmK, ↓appK, ↓copyK, ↓sliceK, ↓toArrK, nilK, evs, plains, seqParts, capsOf, capsD, AV.dv, AV.cont, ↓buildV_eq, fillL, placesOf, ↓storeK, wrL, RV.av, DV.av, List.set, Nat.reduceEqDiff, Nat.reduceAdd, Nat.reduceSub, Nat.reduceMul, Nat.reduceLT, Nat.reduceLeDiff, Nat.reduceMod, Nat.reduceDiv, Int.reduceLT, Int.reduceLE, Int.reduceToNat, ↓reduceIte, reduceCtorEq, Value.oneCell', Int.reduceAdd, Int.reduceSub, Int.reduceMod, Int.reduceMul, Int.reduceNeg, Int.reduceBEq, Int.reduceBNe, Int.reduceTDiv, Int.reduceTMod, Int.reduceEq, tyB, Try.underlying13, Try.underlying25, Try.underlying26, Try.underlying39, Try.underlying40, Try.underlying72, Try.underlying73, cells_pt, agg_pt, isNil_pt, ptV_lit, cells_w, agg_w, isNil_w, valm, ↓binK_eqPt, ↓binK_eqU, ↓binK_neU, eqU_v, onG, bytesG, tx, ty, t, h, hb, hl, hc, hk, Bool.not_false, Bool.true_and]
theorem so_ok : ∀ ds r, soG ds = some r → Spec Try.prog 7 ds r := by
  intro ds r h
  unfold soG at h
  split at h
  case h_2 => cases h
  split at h
  case h_2 => cases h
  rename_i x y b hv
  cases h
  obtain ⟨rfl, hx, hy⟩ := toR_eq hv
  exact so_walk x y b hx hy
/-- the reference's -/
noncomputable def raG : List DV → Option RV
  | [.pl v] => match toR v with
    | some (x, y, b) => some (.one (.pl (.string (bstr (adr x y)))))
    | none => none
  | _ => none
theorem ra_walk (x y : Nat) (b : Bool) (hx : x < full) (hy : y < full) : Spec Try.prog 9 [.pl (ptV x y b)] (.one (.pl (.string (bstr (adr x y))))) := by
  have hΓ : Env.ok [(34, bytesG), (33, kSumG)] Try.prog := ok_cons rbytes_ok (ok_cons rsum_ok (ok_nil _))
  have tx := toN_lt hx
  have ty := toN_lt hy
  have hb : ∀ l : List UInt8, (bstr l).size = l.length := bstr_size'
  have hl := sumL_len (bytesL x ++ bytesL y)
  have hc := adr_cut x y
  have hk := ksum_2 x y
  have hle : (bytesL x).length + (bytesL y).length ≤ 9223372036854775807 := by rw [bytesL_len, bytesL_len]; omega
  refine Spec.of_vx hΓ follows_mixed Try.func9 rfl (by kernel_rfl) (T := []) (by simp [Try.ntmps9]) (by kernel_rfl) rfl Try.ntmps9 (res := [.tmp 2]) rfl ?_
  intro W
  simp -implicitDefEqProofs (maxSteps := 10000000) only [vy_succ, vmB, slim, slimOp, gO, gSO, qSO, quietOp, cS, qSB, eK, calmOp, guardS, gK, qK, putK, plK, dOk, St.ev, St.get, St.mem, St.set, St.setm, St.put, lookA, look, newK, nextver, initT, seqE, blockQ, bodyQ, resK, retV, AV.rdv, agg_uV, ↓binK, ↓intK, unK, ↓loadK, ↓withKey_eq, ↓idxAddrK, ↓indexK, ↓partK, ↓fieldK, ↓fieldAddrK, ↓convK, ↓callK, wrG, updK, ↓lenK, ↓mmK, ↓appK, ↓copyK, ↓sliceK, ↓toArrK, nilK, evs, plains, seqParts, capsOf, capsD, AV.dv, AV.cont, ↓buildV_eq, fillL, placesOf, ↓storeK, wrL, RV.av, DV.av, List.set, Nat.reduceEqDiff, Nat.reduceAdd, Nat.reduceSub, Nat.reduceMul, Nat.reduceLT, Nat.reduceLeDiff, Nat.reduceMod, Nat.reduceDiv, Int.reduceLT, Int.reduceLE, Int.reduceToNat, ↓reduceIte, reduceCtorEq, Value.oneCell', Int.reduceAdd, Int.reduceSub, Int.reduceMod, Int.reduceMul, Int.reduceNeg, Int.reduceBEq, Int.reduceBNe, Int.reduceTDiv, Int.reduceTMod, Int.reduceEq, tyB, Try.underlying13, Try.underlying25, Try.underlying26, Try.underlying39, Try.underlying40, Try.underlying72, Try.underlying73, cells_pt, agg_pt, isNil_pt, ptV_lit, cells_w, agg_w, isNil_w, valm, ↓binK_eqPt, ↓binK_eqU, ↓binK_neU, eqU_v, bytesG, tx, ty, hb, hl, hc, hk, bstr_append, hle]
theorem ra_ok : ∀ ds r, raG ds = some r → Spec Try.prog 9 ds r := by
  intro ds r h
  unfold raG at h
  split at h
  case h_2 => cases h
  split at h
  case h_2 => cases h
  rename_i x y b hv
  cases h
  obtain ⟨rfl, hx, hy⟩ := toR_eq hv
  exact ra_walk x y b hx hy
/-! ### A secret's -/
theorem pN_1' : pN 1 = 115792089237316195423570985008687907852837564279074904382605163141518161494337 := by rw [pN_eq, cOf_eq, full_eq]; simp
theorem bt_iff {a : Nat} (h : btB a = true) : 0 < a ∧ a < pN 1 := by
  unfold btB at h
  rw [Bool.and_eq_true, decide_eq_true_iff, decide_eq_true_iff] at h
  omega
theorem sec_rb {a : Nat} (h : btB a = true) : rb (nsm a base0) = false := by
  have h1 := bt_iff h
  rw [pN_1'] at h1
  have := base_small h1.1 h1.2
  cases hp : nsm a base0 with
  | o => exact absurd hp this
  | a x y => rfl
theorem sec_on {a : Nat} (h : btB a = true) : onB (rx (nsm a base0)) (ry (nsm a base0)) false = true := by
  have := onB_p (nsm_on base_on a)
  rw [sec_rb h] at this
  exact this
noncomputable def saR (a : Nat) : RV := match btB a with
  | true => .tup [.pl (.string (bstr (adr (rx (nsm a base0)) (ry (nsm a base0))))), .pl (.int .i64 0)]
  | false => .tup [.pl (.string ⟨#[]⟩), .pl (.int .i64 1)]
noncomputable def saG : List DV → Option RV
  | [.pl v] => match toN v with
    | some a => some (saR a)
    | none => none
  | _ => none
theorem sa_walk (a : Nat) (ha : a < full) : Spec Try.prog 6 [.pl (uV a)] (saR a) := by
  have hΓ : Env.ok [(26, btG), (13, ptBG), (12, tiG), (7, soG)] Try.prog := ok_cons bt_ok (ok_cons ptB_ok (ok_cons tim_ok (ok_cons so_ok (ok_nil _))))
  have ta := toN_lt ha
  have ma : a % full = a := Nat.mod_eq_of_lt ha
  have e : ptOf bX bY false = base0 := rfl
  unfold saR
  refine Spec.of_vx hΓ follows_mixed Try.func6 rfl (by kernel_rfl) (T := [(3, .alc)]) (by simp [Try.ntmps6]) (by kernel_rfl) rfl Try.ntmps6 (res := [.tmp 2, .tmp 3]) rfl ?_
  intro W
  cases h : btB a with
  | false => simp -implicitDefEqProofs (maxSteps := 10000000) only [vy_succ, vmB, slim, slimOp, gO, gSO, qSO, quietOp, cS, qSB, eK, calmOp, guardS, gK, qK, putK, plK, dOk, St.ev, St.get, St.mem, St.set, St.setm, St.put, lookA, look, newK, nextver, initT, seqE, blockQ, bodyQ, resK, retV, AV.rdv, agg_uV, ↓binK, ↓intK, unK, ↓loadK, ↓withKey_eq, ↓idxAddrK, ↓indexK, ↓partK, ↓fieldK, ↓fieldAddrK, ↓convK, ↓callK, wrG, updK, ↓lenK, ↓mmK, ↓appK, ↓copyK, ↓sliceK, ↓toArrK, nilK, evs, plains, seqParts, capsOf, capsD, AV.dv, AV.cont, ↓buildV_eq, fillL, placesOf, ↓storeK, wrL, RV.av, DV.av, List.set, Nat.reduceEqDiff, Nat.reduceAdd, Nat.reduceSub, Nat.reduceMul, Nat.reduceLT, Nat.reduceLeDiff, Nat.reduceMod, Nat.reduceDiv, Int.reduceLT, Int.reduceLE, Int.reduceToNat, ↓reduceIte, reduceCtorEq, Value.oneCell', Int.reduceAdd, Int.reduceSub, Int.reduceMod, Int.reduceMul, Int.reduceNeg, Int.reduceBEq, Int.reduceBNe, Int.reduceTDiv, Int.reduceTMod, Int.reduceEq, tyB, Try.underlying13, Try.underlying25, Try.underlying26, Try.underlying39, Try.underlying40, Try.underlying72, Try.underlying73, cells_pt, agg_pt, isNil_pt, ptV_lit, cells_w, agg_w, isNil_w, valm, ↓binK_eqPt, ↓binK_eqU, ↓binK_neU, eqU_v, btG, ta, h]
  | true =>
    have h1 := sec_rb h
    have h2 := sec_on h
    have h3 : soB (rx (nsm a base0)) (ry (nsm a base0)) false = true := by unfold soB; rw [h2]; rfl
    have t := toR_lt (b := false) (rx_lt (nsm a base0)) (ry_lt (nsm a base0))
    simp -implicitDefEqProofs (maxSteps := 10000000) only [vy_succ, vmB, slim, slimOp, gO, gSO, qSO, quietOp, cS, qSB, eK, calmOp, guardS, gK, qK, putK, plK, dOk, St.ev, St.get, St.mem, St.set, St.setm, St.put, lookA, look, newK, nextver, initT, seqE, blockQ, bodyQ, resK, retV, AV.rdv, agg_uV, ↓binK, ↓intK, unK, ↓loadK, ↓withKey_eq, ↓idxAddrK, ↓indexK, ↓partK, ↓fieldK, ↓fieldAddrK, ↓convK, ↓callK, wrG, updK, ↓lenK, ↓mmK, ↓appK, ↓copyK, ↓sliceK, ↓toArrK, nilK, evs, plains, seqParts, capsOf, capsD, AV.dv, AV.cont, ↓buildV_eq, fillL, placesOf, ↓storeK, wrL, RV.av, DV.av, List.set, Nat.reduceEqDiff, Nat.reduceAdd, Nat.reduceSub, Nat.reduceMul, Nat.reduceLT, Nat.reduceLeDiff, Nat.reduceMod, Nat.reduceDiv, Int.reduceLT, Int.reduceLE, Int.reduceToNat, ↓reduceIte, reduceCtorEq, Value.oneCell', Int.reduceAdd, Int.reduceSub, Int.reduceMod, Int.reduceMul, Int.reduceNeg, Int.reduceBEq, Int.reduceBNe, Int.reduceTDiv, Int.reduceTMod, Int.reduceEq, tyB, Try.underlying13, Try.underlying25, Try.underlying26, Try.underlying39, Try.underlying40, Try.underlying72, Try.underlying73, cells_pt, agg_pt, isNil_pt, ptV_lit, cells_w, agg_w, isNil_w, valm, ↓binK_eqPt, ↓binK_eqU, ↓binK_neU, eqU_v, btG, ta, h, ptBG, tiG, soG, soR, toR_base, base_onB, ma, e, h1, h3, t]
theorem sa_ok : ∀ ds r, saG ds = some r → Spec Try.prog 6 ds r := by
  intro ds r h
  unfold saG at h
  split at h
  case h_2 => cases h
  split at h
  case h_2 => cases h
  rename_i a ha
  cases h
  obtain ⟨rfl, ha'⟩ := toN_eq ha
  exact sa_walk a ha'
/-! ### alive -/
theorem bt_1 : btB 1 = true := by
  unfold btB
  rw [pN_1']
  decide
theorem nsm_1 : nsm 1 base0 = base0 := by
  show padd (nsm 0 base0) base0 = base0
  exact o_padd _
theorem adr_1 : (adr bX bY).take 4 = [126, 95, 69, 82] := by rw [adr_eq]; exact sum_base
theorem sa_1 : saR 1 = .tup [.pl (.string (bstr (adr bX bY))), .pl (.int .i64 0)] := by
  unfold saR
  rw [bt_1, nsm_1, rx_base, ry_base]
noncomputable def slG : List DV → Option RV
  | [] => some (.one (.pl (.bool true)))
  | _ => none
theorem sl_ok : ∀ ds r, slG ds = some r → Spec Try.prog 11 ds r := by
  intro ds r h
  unfold slG at h
  split at h
  case h_2 => cases h
  cases h
  have hΓ : Env.ok [(6, saG)] Try.prog := ok_cons sa_ok (ok_nil _)
  have h1 := sa_1
  have h2 := adr_1
  have h3 := adr_len bX bY
  have h4 : (⟨#[126, 95, 69, 82]⟩ : ByteArray).toList = [126, 95, 69, 82] := by rw [ba_toList]
  have h5 : ([126, 95, 69, 82] : List UInt8) == [126, 95, 69, 82] := by decide
  have hb : ∀ l : List UInt8, (bstr l).size = l.length := bstr_size'
  have ht : ∀ l : List UInt8, (bstr l).toList = l := bstr_toList
  have m1 : 1 % full = 1 := Nat.mod_eq_of_lt (by rw [full_eq]; decide)
  refine Spec.of_vx hΓ follows_mixed Try.func11 rfl (by kernel_rfl) (T := []) (by simp [Try.ntmps11]) (by kernel_rfl) rfl Try.ntmps11 (res := [.tmp 0]) rfl ?_
  intro W
  simp -implicitDefEqProofs (maxSteps := 100000000) only [vy_succ, vmB, slim, slimOp, gO, gSO, qSO, quietOp, cS, qSB, eK, calmOp, guardS, gK, qK, putK, plK, dOk, St.ev, St.get, St.mem, St.set, St.setm, St.put, lookA, look, newK, nextver, initT, seqE, blockQ, bodyQ, resK, retV, AV.rdv, agg_uV, ↓binK, ↓intK, unK, ↓loadK, ↓withKey_eq, ↓idxAddrK, ↓indexK, ↓partK, ↓fieldK, ↓fieldAddrK, ↓convK, ↓callK, wrG, updK, ↓lenK, ↓mmK, ↓appK, ↓copyK, ↓sliceK, ↓toArrK, nilK, evs, plains, seqParts, capsOf, capsD, AV.dv, AV.cont, ↓buildV_eq, fillL, placesOf, ↓storeK, wrL, RV.av, DV.av, List.set, Nat.reduceEqDiff, Nat.reduceAdd, Nat.reduceSub, Nat.reduceMul, Nat.reduceLT, Nat.reduceLeDiff, Nat.reduceMod, Nat.reduceDiv, Int.reduceLT, Int.reduceLE, Int.reduceToNat, ↓reduceIte, reduceCtorEq, Value.oneCell', Int.reduceAdd, Int.reduceSub, Int.reduceMod, Int.reduceMul, Int.reduceNeg, Int.reduceBEq, Int.reduceBNe, Int.reduceTDiv, Int.reduceTMod, Int.reduceEq, tyB, Try.underlying13, Try.underlying25, Try.underlying26, Try.underlying39, Try.underlying40, Try.underlying72, Try.underlying73, saG, toN_one, h1, h2, h3, h4, h5, hb, ht, bstr_take, Int.reduceLE]
end Go.Vm
