/- Texts of the proof, laid together: Yb, Ka, Kb, Kc. No condition. -/
import Derived.Test.YtphocbfdakjmaaaPart8
import Derived.Test.YtphocbfdakjmaaaPart2
import Derived.Test.YtphocbfdakjmaaaPart3
import Derived.Laws.Bits64b
/- Signatures as values; which may be. No condition. -/
set_option maxRecDepth 100000
set_option linter.unusedSimpArgs false
set_option linter.unusedVariables false
namespace Go.Vm
open Go Go.RowKit Go.Proofs

noncomputable def sgC (x y : Nat) (v : Int) : List Value := [.int .u64 (w0 x : Nat), .int .u64 (w1 x : Nat), .int .u64 (w2 x : Nat), .int .u64 (w3 x : Nat), .int .u64 (w0 y : Nat), .int .u64 (w1 y : Nat), .int .u64 (w2 y : Nat), .int .u64 (w3 y : Nat), .int .i64 v]
noncomputable def sgV (x y : Nat) (v : Int) : Value := .agg (sgC x y v).toArray
theorem cells_sg (x y : Nat) (v : Int) : (sgV x y v).cells = #[.int .u64 (w0 x : Nat), .int .u64 (w1 x : Nat), .int .u64 (w2 x : Nat), .int .u64 (w3 x : Nat), .int .u64 (w0 y : Nat), .int .u64 (w1 y : Nat), .int .u64 (w2 y : Nat), .int .u64 (w3 y : Nat), .int .i64 v] := rfl
theorem agg_sg (x y : Nat) (v : Int) : Value.agg #[.int .u64 (w0 x : Nat), .int .u64 (w1 x : Nat), .int .u64 (w2 x : Nat), .int .u64 (w3 x : Nat), .int .u64 (w0 y : Nat), .int .u64 (w1 y : Nat), .int .u64 (w2 y : Nat), .int .u64 (w3 y : Nat), .int .i64 v] = sgV x y v := rfl
theorem isNil_sg (x y : Nat) (v : Int) : isNil (sgV x y v) = false := rfl
theorem sgV_lit (v : Int) : Value.agg #[.int .u64 0, .int .u64 0, .int .u64 0, .int .u64 0, .int .u64 0, .int .u64 0, .int .u64 0, .int .u64 0, .int .i64 v] = sgV 0 0 v := by
  rw [← agg_sg, w_0.1, w_0.2.1, w_0.2.2.1, w_0.2.2.2]; rfl
theorem sgV_inj {x y x' y' : Nat} {v v' : Int} (hx : x < full) (hy : y < full) (hx' : x' < full) (hy' : y' < full) (h : sgV x y v = sgV x' y' v') : x = x' ∧ y = y' ∧ v = v' := by
  rw [← agg_sg, ← agg_sg] at h
  injection h with h
  injection h with h
  simp only [List.cons.injEq, Value.int.injEq, true_and, Int.ofNat_inj, and_true] at h
  obtain ⟨a0, a1, a2, a3, c0, c1, c2, c3, e⟩ := h
  exact ⟨num_inj hx hx' a0 a1 a2 a3, num_inj hy hy' c0 c1 c2 c3, e⟩
noncomputable def toSg : Value → Option (Nat × Nat × Int) := fun v => open Classical in if h : ∃ q : Nat × Nat × Int, (q.1 < full ∧ q.2.1 < full) ∧ v = sgV q.1 q.2.1 q.2.2 then some (Classical.choose h) else none
theorem toSg_lt {x y : Nat} {b : Int} (hx : x < full) (hy : y < full) : toSg (sgV x y b) = some (x, y, b) := by
  have h : ∃ q : Nat × Nat × Int, (q.1 < full ∧ q.2.1 < full) ∧ sgV x y b = sgV q.1 q.2.1 q.2.2 := ⟨(x, y, b), ⟨hx, hy⟩, rfl⟩
  unfold toSg
  rw [dif_pos h]
  obtain ⟨⟨h1, h2⟩, h3⟩ := Classical.choose_spec h
  obtain ⟨e1, e2, e3⟩ := sgV_inj hx hy h1 h2 h3
  generalize Classical.choose h = q at *
  obtain ⟨x', y', b'⟩ := q
  simp only at e1 e2 e3
  rw [e1, e2, e3]
theorem toSg_eq {v : Value} {x y : Nat} {b : Int} (h : toSg v = some (x, y, b)) : v = sgV x y b ∧ x < full ∧ y < full := by
  unfold toSg at h
  split at h
  case isFalse => cases h
  rename_i h0
  injection h with h
  obtain ⟨⟨h1, h2⟩, h3⟩ := Classical.choose_spec h0
  rw [h] at h1 h2 h3
  exact ⟨h3, h1, h2⟩
theorem sart_x (x y : Nat) (b : Int) : partK Try.prog 24 (sgC x y b).toArray 0 (fun v => v = uV x) := by
  unfold partK
  rw [g_24, s_24]
  rfl
theorem sart_y (x y : Nat) (b : Int) : partK Try.prog 24 (sgC x y b).toArray 4 (fun v => v = uV y) := by
  unfold partK
  rw [g_24, s_24]
  rfl
theorem sart_b (x y : Nat) (b : Int) : partK Try.prog 3 (sgC x y b).toArray 8 (fun v => v = .int .i64 b) := by
  unfold partK
  rw [g_3]
  exact ⟨by show 8 < 9; omega, rfl⟩
theorem eqV_sg (x y x' y' : Nat) (b b' : Int) : eqV Try.prog 40 (sgC x y b).toArray (sgC x' y' b').toArray = some (eqU x x' && (eqU y y' && (b == b'))) := by
  apply eqV_of
  intro w
  have ht : Try.prog.underlying 40 = some (.struct (Try.prog.fieldsOf 40)) := by
    simp [Program.fieldsOf, Try.underlying40]
  have hp : Try.prog.stoodInHeld 40 = false := by kernel_rfl
  have e1 : Op.equal 40 (.agg (sgC x y b).toArray) (.agg (sgC x' y' b').toArray) = Op.equalIn (9999 + 1) 40 (.agg (sgC x y b).toArray) (.agg (sgC x' y' b').toArray) := rfl
  rw [e1, run_equalIn_struct w 9999 _ _ _ ht hp]
  have hf : ∃ f1 f2 f3 : Field, (Try.prog.fieldsOf 40).toList = [f1, f2, f3] ∧ (f1.name ≠ "_" ∧ f1.type = 24 ∧ f1.offset = 0) ∧ (f2.name ≠ "_" ∧ f2.type = 24 ∧ f2.offset = 4) ∧ (f3.name ≠ "_" ∧ f3.type = 3 ∧ f3.offset = 8) := by
    simp only [Program.fieldsOf, Try.underlying40]
    exact ⟨_, _, _, rfl, ⟨by decide, rfl, rfl⟩, ⟨by decide, rfl, rfl⟩, ⟨by decide, rfl, rfl⟩⟩
  obtain ⟨f1, f2, f3, hl, ⟨a1, a2, a3⟩, ⟨b1, b2, b3⟩, ⟨c1, c2, c3⟩⟩ := hf
  rw [hl]
  simp only [Op.eqFields, if_pos a1, if_pos b1, if_pos c1, a2, a3, b2, b3, c2, c3, Sem.run_bind, part_of (sart_x x y b), part_of (sart_x x' y' b'), part_of (sart_y x y b), part_of (sart_y x' y' b'), part_of (sart_b x y b), part_of (sart_b x' y' b'), Result.andThen_ok]
  have r1 := fun a b w => run_eqU 9997 a b w
  simp only [Nat.reduceAdd] at r1
  rw [r1, Result.andThen_ok]
  cases h1 : eqU x x' with
  | false => simp
  | true =>
    simp only [Bool.not_true, Bool.false_eq_true, if_false, Sem.run_bind, part_of (sart_y x y b), part_of (sart_y x' y' b'), Result.andThen_ok]
    rw [r1, Result.andThen_ok]
    cases h2 : eqU y y' with
    | false => simp
    | true =>
      have r3 := run_equalIn_int (P := Try.prog) w 9998 3 .i64 .i64 b b' Try.underlying3
      simp only [Nat.reduceAdd] at r3
      simp only [Bool.not_true, Bool.false_eq_true, if_false, Sem.run_bind, part_of (sart_b x y b), part_of (sart_b x' y' b'), Result.andThen_ok]
      rw [r3, Result.andThen_ok]
      cases hb : (b == b') <;> simp
theorem binK_neSg (x y x' y' : Nat) (b b' : Int) (K : Value → Prop) : binK Try.prog .neq 40 (sgV x y b) (sgV x' y' b') K = K (.bool (!(eqU x x' && (eqU y y' && (b == b'))))) := by
  apply propext
  show (Try.prog.eqGuardType Try.prog.depth 40 = false ∧ ∃ c, eqV Try.prog 40 (sgC x y b).toArray (sgC x' y' b').toArray = some c ∧ K (.bool !c)) ↔ _
  rw [eqV_sg]
  constructor
  · rintro ⟨_, c, hc, hk⟩; cases hc; exact hk
  · intro h; exact ⟨q_40, _, rfl, h⟩

/-- which may be -/
noncomputable def rgB (x y : Nat) (v : Int) : Bool := btB x && (btB y && (!hiB y && (v == 0 || v == 1)))
noncomputable def rgG : List DV → Option RV
  | [.pl v] => match toSg v with
    | some (x, y, b) => some (.one (.pl (.bool (rgB x y b))))
    | none => none
  | _ => none
theorem rg_walk (x y : Nat) (v : Int) (hx : x < full) (hy : y < full) : Spec Try.prog 39 [.pl (sgV x y v)] (.one (.pl (.bool (rgB x y v)))) := by
  have hΓ : Env.ok [(26, btG), (74, hiG)] Try.prog := ok_cons bt_ok (ok_cons hi_ok (ok_nil _))
  have tx := toN_lt hx
  have ty := toN_lt hy
  unfold rgB
  refine Spec.of_vx hΓ follows_mixed Try.func39 rfl (by kernel_rfl) (T := []) (by simp [Try.ntmps39]) (by kernel_rfl) rfl Try.ntmps39 (res := [.tmp 2]) rfl ?_
  intro W
  cases h1 : btB x
  · simp -implicitDefEqProofs (maxSteps := 10000000) only [vy_succ, vmB, slim, slimOp, gO, gSO, qSO, quietOp, cS, qSB, eK, calmOp, guardS, gK, qK, putK, plK, dOk, St.ev, St.get, St.mem, St.set, St.setm, St.put, lookA, look, newK, nextver, initT, seqE, blockQ, bodyQ, resK, retV, AV.rdv, agg_uV, ↓binK, ↓intK, unK, ↓loadK, ↓withKey_eq, ↓idxAddrK, ↓indexK, ↓partK, ↓fieldK, ↓fieldAddrK, ↓convK, ↓callK, wrG, updK, ↓lenK, ↓mmK, ↓appK, ↓copyK, ↓sliceK, ↓toArrK, nilK, evs, plains, seqParts, capsOf, capsD, AV.dv, AV.cont, ↓buildV_eq, fillL, placesOf, ↓storeK, wrL, RV.av, DV.av, List.set, Nat.reduceEqDiff, Nat.reduceAdd, Nat.reduceSub, Nat.reduceMul, Nat.reduceLT, Nat.reduceLeDiff, Nat.reduceMod, Nat.reduceDiv, Int.reduceLT, Int.reduceLE, Int.reduceToNat, ↓reduceIte, reduceCtorEq, Value.oneCell', Int.reduceAdd, Int.reduceSub, Int.reduceMod, Int.reduceMul, Int.reduceNeg, Int.reduceBEq, Int.reduceBNe, Int.reduceTDiv, Int.reduceTMod, Int.reduceEq, tyB, Try.underlying13, Try.underlying25, Try.underlying26, Try.underlying39, Try.underlying40, Try.underlying72, Try.underlying73, btG, hiG, tx, ty, h1, cells_sg, agg_sg, isNil_sg, Bool.false_and]
  · cases h2 : btB y
    · simp -implicitDefEqProofs (maxSteps := 10000000) only [vy_succ, vmB, slim, slimOp, gO, gSO, qSO, quietOp, cS, qSB, eK, calmOp, guardS, gK, qK, putK, plK, dOk, St.ev, St.get, St.mem, St.set, St.setm, St.put, lookA, look, newK, nextver, initT, seqE, blockQ, bodyQ, resK, retV, AV.rdv, agg_uV, ↓binK, ↓intK, unK, ↓loadK, ↓withKey_eq, ↓idxAddrK, ↓indexK, ↓partK, ↓fieldK, ↓fieldAddrK, ↓convK, ↓callK, wrG, updK, ↓lenK, ↓mmK, ↓appK, ↓copyK, ↓sliceK, ↓toArrK, nilK, evs, plains, seqParts, capsOf, capsD, AV.dv, AV.cont, ↓buildV_eq, fillL, placesOf, ↓storeK, wrL, RV.av, DV.av, List.set, Nat.reduceEqDiff, Nat.reduceAdd, Nat.reduceSub, Nat.reduceMul, Nat.reduceLT, Nat.reduceLeDiff, Nat.reduceMod, Nat.reduceDiv, Int.reduceLT, Int.reduceLE, Int.reduceToNat, ↓reduceIte, reduceCtorEq, Value.oneCell', Int.reduceAdd, Int.reduceSub, Int.reduceMod, Int.reduceMul, Int.reduceNeg, Int.reduceBEq, Int.reduceBNe, Int.reduceTDiv, Int.reduceTMod, Int.reduceEq, tyB, Try.underlying13, Try.underlying25, Try.underlying26, Try.underlying39, Try.underlying40, Try.underlying72, Try.underlying73, btG, hiG, tx, ty, h1, h2, cells_sg, agg_sg, isNil_sg, Bool.false_and, Bool.true_and]
    · cases h3 : hiB y
      · cases h4 : (v == 0)
        · simp -implicitDefEqProofs (maxSteps := 10000000) only [vy_succ, vmB, slim, slimOp, gO, gSO, qSO, quietOp, cS, qSB, eK, calmOp, guardS, gK, qK, putK, plK, dOk, St.ev, St.get, St.mem, St.set, St.setm, St.put, lookA, look, newK, nextver, initT, seqE, blockQ, bodyQ, resK, retV, AV.rdv, agg_uV, ↓binK, ↓intK, unK, ↓loadK, ↓withKey_eq, ↓idxAddrK, ↓indexK, ↓partK, ↓fieldK, ↓fieldAddrK, ↓convK, ↓callK, wrG, updK, ↓lenK, ↓mmK, ↓appK, ↓copyK, ↓sliceK, ↓toArrK, nilK, evs, plains, seqParts, capsOf, capsD, AV.dv, AV.cont, ↓buildV_eq, fillL, placesOf, ↓storeK, wrL, RV.av, DV.av, List.set, Nat.reduceEqDiff, Nat.reduceAdd, Nat.reduceSub, Nat.reduceMul, Nat.reduceLT, Nat.reduceLeDiff, Nat.reduceMod, Nat.reduceDiv, Int.reduceLT, Int.reduceLE, Int.reduceToNat, ↓reduceIte, reduceCtorEq, Value.oneCell', Int.reduceAdd, Int.reduceSub, Int.reduceMod, Int.reduceMul, Int.reduceNeg, Int.reduceBEq, Int.reduceBNe, Int.reduceTDiv, Int.reduceTMod, Int.reduceEq, tyB, Try.underlying13, Try.underlying25, Try.underlying26, Try.underlying39, Try.underlying40, Try.underlying72, Try.underlying73, btG, hiG, tx, ty, h1, h2, h3, h4, cells_sg, agg_sg, isNil_sg, Bool.false_and, Bool.true_and, Bool.false_or, Bool.not_false]
        · simp -implicitDefEqProofs (maxSteps := 10000000) only [vy_succ, vmB, slim, slimOp, gO, gSO, qSO, quietOp, cS, qSB, eK, calmOp, guardS, gK, qK, putK, plK, dOk, St.ev, St.get, St.mem, St.set, St.setm, St.put, lookA, look, newK, nextver, initT, seqE, blockQ, bodyQ, resK, retV, AV.rdv, agg_uV, ↓binK, ↓intK, unK, ↓loadK, ↓withKey_eq, ↓idxAddrK, ↓indexK, ↓partK, ↓fieldK, ↓fieldAddrK, ↓convK, ↓callK, wrG, updK, ↓lenK, ↓mmK, ↓appK, ↓copyK, ↓sliceK, ↓toArrK, nilK, evs, plains, seqParts, capsOf, capsD, AV.dv, AV.cont, ↓buildV_eq, fillL, placesOf, ↓storeK, wrL, RV.av, DV.av, List.set, Nat.reduceEqDiff, Nat.reduceAdd, Nat.reduceSub, Nat.reduceMul, Nat.reduceLT, Nat.reduceLeDiff, Nat.reduceMod, Nat.reduceDiv, Int.reduceLT, Int.reduceLE, Int.reduceToNat, ↓reduceIte, reduceCtorEq, Value.oneCell', Int.reduceAdd, Int.reduceSub, Int.reduceMod, Int.reduceMul, Int.reduceNeg, Int.reduceBEq, Int.reduceBNe, Int.reduceTDiv, Int.reduceTMod, Int.reduceEq, tyB, Try.underlying13, Try.underlying25, Try.underlying26, Try.underlying39, Try.underlying40, Try.underlying72, Try.underlying73, btG, hiG, tx, ty, h1, h2, h3, h4, cells_sg, agg_sg, isNil_sg, Bool.false_and, Bool.true_and, Bool.true_or, Bool.not_false]
      · simp -implicitDefEqProofs (maxSteps := 10000000) only [vy_succ, vmB, slim, slimOp, gO, gSO, qSO, quietOp, cS, qSB, eK, calmOp, guardS, gK, qK, putK, plK, dOk, St.ev, St.get, St.mem, St.set, St.setm, St.put, lookA, look, newK, nextver, initT, seqE, blockQ, bodyQ, resK, retV, AV.rdv, agg_uV, ↓binK, ↓intK, unK, ↓loadK, ↓withKey_eq, ↓idxAddrK, ↓indexK, ↓partK, ↓fieldK, ↓fieldAddrK, ↓convK, ↓callK, wrG, updK, ↓lenK, ↓mmK, ↓appK, ↓copyK, ↓sliceK, ↓toArrK, nilK, evs, plains, seqParts, capsOf, capsD, AV.dv, AV.cont, ↓buildV_eq, fillL, placesOf, ↓storeK, wrL, RV.av, DV.av, List.set, Nat.reduceEqDiff, Nat.reduceAdd, Nat.reduceSub, Nat.reduceMul, Nat.reduceLT, Nat.reduceLeDiff, Nat.reduceMod, Nat.reduceDiv, Int.reduceLT, Int.reduceLE, Int.reduceToNat, ↓reduceIte, reduceCtorEq, Value.oneCell', Int.reduceAdd, Int.reduceSub, Int.reduceMod, Int.reduceMul, Int.reduceNeg, Int.reduceBEq, Int.reduceBNe, Int.reduceTDiv, Int.reduceTMod, Int.reduceEq, tyB, Try.underlying13, Try.underlying25, Try.underlying26, Try.underlying39, Try.underlying40, Try.underlying72, Try.underlying73, btG, hiG, tx, ty, h1, h2, h3, cells_sg, agg_sg, isNil_sg, Bool.false_and, Bool.true_and, Bool.not_true]
theorem rg_ok : ∀ ds r, rgG ds = some r → Spec Try.prog 39 ds r := by
  intro ds r h
  unfold rgG at h
  split at h
  case h_2 => cases h
  rename_i v
  split at h
  case h_2 => cases h
  rename_i x y b hv
  cases h
  obtain ⟨rfl, hx, hy⟩ := toSg_eq hv
  exact rg_walk x y b hx hy
theorem rrg_walk (x y : Nat) (v : Int) (hx : x < full) (hy : y < full) : Spec Try.prog 17 [.pl (sgV x y v)] (.one (.pl (.bool (rgB x y v)))) := by
  have hΓ : Env.ok [(10, btG), (42, hiG)] Try.prog := ok_cons rbt_ok (ok_cons rhi_ok (ok_nil _))
  have tx := toN_lt hx
  have ty := toN_lt hy
  have hv : (v == 0 || v == 1) = (decide (0 ≤ v) && decide (v ≤ 1)) := by
    rw [Bool.eq_iff_iff]; simp only [Bool.or_eq_true, beq_iff_eq, Bool.and_eq_true, decide_eq_true_eq]; omega
  unfold rgB
  rw [hv]
  refine Spec.of_vx hΓ follows_mixed Try.func17 rfl (by kernel_rfl) (T := []) (by simp [Try.ntmps17]) (by kernel_rfl) rfl Try.ntmps17 (res := [.tmp 2]) rfl ?_
  intro W
  cases h1 : btB x
  · simp -implicitDefEqProofs (maxSteps := 10000000) only [vy_succ, vmB, slim, slimOp, gO, gSO, qSO, quietOp, cS, qSB, eK, calmOp, guardS, gK, qK, putK, plK, dOk, St.ev, St.get, St.mem, St.set, St.setm, St.put, lookA, look, newK, nextver, initT, seqE, blockQ, bodyQ, resK, retV, AV.rdv, agg_uV, ↓binK, ↓intK, unK, ↓loadK, ↓withKey_eq, ↓idxAddrK, ↓indexK, ↓partK, ↓fieldK, ↓fieldAddrK, ↓convK, ↓callK, wrG, updK, ↓lenK, ↓mmK, ↓appK, ↓copyK, ↓sliceK, ↓toArrK, nilK, evs, plains, seqParts, capsOf, capsD, AV.dv, AV.cont, ↓buildV_eq, fillL, placesOf, ↓storeK, wrL, RV.av, DV.av, List.set, Nat.reduceEqDiff, Nat.reduceAdd, Nat.reduceSub, Nat.reduceMul, Nat.reduceLT, Nat.reduceLeDiff, Nat.reduceMod, Nat.reduceDiv, Int.reduceLT, Int.reduceLE, Int.reduceToNat, ↓reduceIte, reduceCtorEq, Value.oneCell', Int.reduceAdd, Int.reduceSub, Int.reduceMod, Int.reduceMul, Int.reduceNeg, Int.reduceBEq, Int.reduceBNe, Int.reduceTDiv, Int.reduceTMod, Int.reduceEq, tyB, Try.underlying13, Try.underlying25, Try.underlying26, Try.underlying39, Try.underlying40, Try.underlying72, Try.underlying73, btG, hiG, tx, ty, h1, cells_sg, agg_sg, isNil_sg, Bool.false_and]
  · cases h2 : btB y
    · simp -implicitDefEqProofs (maxSteps := 10000000) only [vy_succ, vmB, slim, slimOp, gO, gSO, qSO, quietOp, cS, qSB, eK, calmOp, guardS, gK, qK, putK, plK, dOk, St.ev, St.get, St.mem, St.set, St.setm, St.put, lookA, look, newK, nextver, initT, seqE, blockQ, bodyQ, resK, retV, AV.rdv, agg_uV, ↓binK, ↓intK, unK, ↓loadK, ↓withKey_eq, ↓idxAddrK, ↓indexK, ↓partK, ↓fieldK, ↓fieldAddrK, ↓convK, ↓callK, wrG, updK, ↓lenK, ↓mmK, ↓appK, ↓copyK, ↓sliceK, ↓toArrK, nilK, evs, plains, seqParts, capsOf, capsD, AV.dv, AV.cont, ↓buildV_eq, fillL, placesOf, ↓storeK, wrL, RV.av, DV.av, List.set, Nat.reduceEqDiff, Nat.reduceAdd, Nat.reduceSub, Nat.reduceMul, Nat.reduceLT, Nat.reduceLeDiff, Nat.reduceMod, Nat.reduceDiv, Int.reduceLT, Int.reduceLE, Int.reduceToNat, ↓reduceIte, reduceCtorEq, Value.oneCell', Int.reduceAdd, Int.reduceSub, Int.reduceMod, Int.reduceMul, Int.reduceNeg, Int.reduceBEq, Int.reduceBNe, Int.reduceTDiv, Int.reduceTMod, Int.reduceEq, tyB, Try.underlying13, Try.underlying25, Try.underlying26, Try.underlying39, Try.underlying40, Try.underlying72, Try.underlying73, btG, hiG, tx, ty, h1, h2, cells_sg, agg_sg, isNil_sg, Bool.false_and, Bool.true_and]
    · cases h3 : hiB y
      · cases h4 : decide (0 ≤ v)
        · simp -implicitDefEqProofs (maxSteps := 10000000) only [vy_succ, vmB, slim, slimOp, gO, gSO, qSO, quietOp, cS, qSB, eK, calmOp, guardS, gK, qK, putK, plK, dOk, St.ev, St.get, St.mem, St.set, St.setm, St.put, lookA, look, newK, nextver, initT, seqE, blockQ, bodyQ, resK, retV, AV.rdv, agg_uV, ↓binK, ↓intK, unK, ↓loadK, ↓withKey_eq, ↓idxAddrK, ↓indexK, ↓partK, ↓fieldK, ↓fieldAddrK, ↓convK, ↓callK, wrG, updK, ↓lenK, ↓mmK, ↓appK, ↓copyK, ↓sliceK, ↓toArrK, nilK, evs, plains, seqParts, capsOf, capsD, AV.dv, AV.cont, ↓buildV_eq, fillL, placesOf, ↓storeK, wrL, RV.av, DV.av, List.set, Nat.reduceEqDiff, Nat.reduceAdd, Nat.reduceSub, Nat.reduceMul, Nat.reduceLT, Nat.reduceLeDiff, Nat.reduceMod, Nat.reduceDiv, Int.reduceLT, Int.reduceLE, Int.reduceToNat, ↓reduceIte, reduceCtorEq, Value.oneCell', Int.reduceAdd, Int.reduceSub, Int.reduceMod, Int.reduceMul, Int.reduceNeg, Int.reduceBEq, Int.reduceBNe, Int.reduceTDiv, Int.reduceTMod, Int.reduceEq, tyB, Try.underlying13, Try.underlying25, Try.underlying26, Try.underlying39, Try.underlying40, Try.underlying72, Try.underlying73, btG, hiG, tx, ty, h1, h2, h3, h4, cells_sg, agg_sg, isNil_sg, Bool.false_and, Bool.true_and, Bool.not_false]
        · simp -implicitDefEqProofs (maxSteps := 10000000) only [vy_succ, vmB, slim, slimOp, gO, gSO, qSO, quietOp, cS, qSB, eK, calmOp, guardS, gK, qK, putK, plK, dOk, St.ev, St.get, St.mem, St.set, St.setm, St.put, lookA, look, newK, nextver, initT, seqE, blockQ, bodyQ, resK, retV, AV.rdv, agg_uV, ↓binK, ↓intK, unK, ↓loadK, ↓withKey_eq, ↓idxAddrK, ↓indexK, ↓partK, ↓fieldK, ↓fieldAddrK, ↓convK, ↓callK, wrG, updK, ↓lenK, ↓mmK, ↓appK, ↓copyK, ↓sliceK, ↓toArrK, nilK, evs, plains, seqParts, capsOf, capsD, AV.dv, AV.cont, ↓buildV_eq, fillL, placesOf, ↓storeK, wrL, RV.av, DV.av, List.set, Nat.reduceEqDiff, Nat.reduceAdd, Nat.reduceSub, Nat.reduceMul, Nat.reduceLT, Nat.reduceLeDiff, Nat.reduceMod, Nat.reduceDiv, Int.reduceLT, Int.reduceLE, Int.reduceToNat, ↓reduceIte, reduceCtorEq, Value.oneCell', Int.reduceAdd, Int.reduceSub, Int.reduceMod, Int.reduceMul, Int.reduceNeg, Int.reduceBEq, Int.reduceBNe, Int.reduceTDiv, Int.reduceTMod, Int.reduceEq, tyB, Try.underlying13, Try.underlying25, Try.underlying26, Try.underlying39, Try.underlying40, Try.underlying72, Try.underlying73, btG, hiG, tx, ty, h1, h2, h3, h4, cells_sg, agg_sg, isNil_sg, Bool.false_and, Bool.true_and, Bool.not_false]
      · simp -implicitDefEqProofs (maxSteps := 10000000) only [vy_succ, vmB, slim, slimOp, gO, gSO, qSO, quietOp, cS, qSB, eK, calmOp, guardS, gK, qK, putK, plK, dOk, St.ev, St.get, St.mem, St.set, St.setm, St.put, lookA, look, newK, nextver, initT, seqE, blockQ, bodyQ, resK, retV, AV.rdv, agg_uV, ↓binK, ↓intK, unK, ↓loadK, ↓withKey_eq, ↓idxAddrK, ↓indexK, ↓partK, ↓fieldK, ↓fieldAddrK, ↓convK, ↓callK, wrG, updK, ↓lenK, ↓mmK, ↓appK, ↓copyK, ↓sliceK, ↓toArrK, nilK, evs, plains, seqParts, capsOf, capsD, AV.dv, AV.cont, ↓buildV_eq, fillL, placesOf, ↓storeK, wrL, RV.av, DV.av, List.set, Nat.reduceEqDiff, Nat.reduceAdd, Nat.reduceSub, Nat.reduceMul, Nat.reduceLT, Nat.reduceLeDiff, Nat.reduceMod, Nat.reduceDiv, Int.reduceLT, Int.reduceLE, Int.reduceToNat, ↓reduceIte, reduceCtorEq, Value.oneCell', Int.reduceAdd, Int.reduceSub, Int.reduceMod, Int.reduceMul, Int.reduceNeg, Int.reduceBEq, Int.reduceBNe, Int.reduceTDiv, Int.reduceTMod, Int.reduceEq, tyB, Try.underlying13, Try.underlying25, Try.underlying26, Try.underlying39, Try.underlying40, Try.underlying72, Try.underlying73, btG, hiG, tx, ty, h1, h2, h3, cells_sg, agg_sg, isNil_sg, Bool.false_and, Bool.true_and, Bool.not_true]
theorem rrg_ok : ∀ ds r, rgG ds = some r → Spec Try.prog 17 ds r := by
  intro ds r h
  unfold rgG at h
  split at h
  case h_2 => cases h
  rename_i v
  split at h
  case h_2 => cases h
  rename_i x y b hv
  cases h
  obtain ⟨rfl, hx, hy⟩ := toSg_eq hv
  exact rrg_walk x y b hx hy
end Go.Vm

/- Words of 64 bits; small contracts. No condition. -/
set_option maxRecDepth 100000
set_option linter.unusedSimpArgs false
set_option linter.unusedVariables false
namespace Go.Vm
open Go Go.RowKit Go.Proofs

abbrev W64 := BitVec 64
noncomputable def tn : W64 → Int := Classical.choose (⟨fun x => ((x.toNat : Nat) : Int), rfl⟩ : ∃ y : W64 → Int, y = fun x => ((x.toNat : Nat) : Int))
theorem tn_eq : tn = fun x => ((x.toNat : Nat) : Int) := Classical.choose_spec (⟨fun x => ((x.toNat : Nat) : Int), rfl⟩ : ∃ y : W64 → Int, y = fun x => ((x.toNat : Nat) : Int))
noncomputable def nt : Int → W64 := Classical.choose (⟨fun x => BitVec.ofInt 64 x, rfl⟩ : ∃ y : Int → W64, y = fun x => BitVec.ofInt 64 x)
theorem nt_eq : nt = fun x => BitVec.ofInt 64 x := Classical.choose_spec (⟨fun x => BitVec.ofInt 64 x, rfl⟩ : ∃ y : Int → W64, y = fun x => BitVec.ofInt 64 x)
theorem nt_tn (x : W64) : nt (tn x) = x := by rw [nt_eq, tn_eq]; simp
theorem tn_inj {x y : W64} (h : tn x = tn y) : x = y := by rw [← nt_tn x, h, nt_tn]
theorem tn_lt (x : W64) : 0 ≤ tn x ∧ tn x < 18446744073709551616 := by
  rw [tn_eq]
  have := x.isLt
  simp only
  omega
theorem okW_tn (x : W64) : okW (tn x) = true := okW_of (tn_lt x).1 (tn_lt x).2
theorem tn_nt {x : Int} (h : okW x = true) : tn (nt x) = x := by
  simp only [okW_eq, decide_eq_true_eq] at h
  rw [nt_eq, tn_eq]
  simp only [BitVec.toNat_ofInt]
  omega
theorem u64_wrap (n : Nat) (h : n < 18446744073709551616) : IntKind.u64.wrap (n : Int) = (n : Int) := by
  rw [IntKind.wrap_u64]; omega
theorem bits_xor_tn (x y : W64) : bits .xor .u64 (tn x) (tn y) = tn (x ^^^ y) := by
  have e : ∀ z : W64, BitVec.ofInt 64 (tn z) = z := fun z => by have := nt_tn z; rw [nt_eq] at this; exact this
  show IntKind.u64.wrap ((BitVec.ofInt 64 (tn x) ^^^ BitVec.ofInt 64 (tn y)).toNat : Int) = _
  rw [e, e, u64_wrap _ (x ^^^ y).isLt, tn_eq]
theorem bits_and_tn (x y : W64) : bits .and .u64 (tn x) (tn y) = tn (x &&& y) := by
  have e : ∀ z : W64, BitVec.ofInt 64 (tn z) = z := fun z => by have := nt_tn z; rw [nt_eq] at this; exact this
  show IntKind.u64.wrap ((BitVec.ofInt 64 (tn x) &&& BitVec.ofInt 64 (tn y)).toNat : Int) = _
  rw [e, e, u64_wrap _ (x &&& y).isLt, tn_eq]
theorem bits_or_tn (x y : W64) : bits .or .u64 (tn x) (tn y) = tn (x ||| y) := by
  have e : ∀ z : W64, BitVec.ofInt 64 (tn z) = z := fun z => by have := nt_tn z; rw [nt_eq] at this; exact this
  show IntKind.u64.wrap ((BitVec.ofInt 64 (tn x) ||| BitVec.ofInt 64 (tn y)).toNat : Int) = _
  rw [e, e, u64_wrap _ (x ||| y).isLt, tn_eq]
theorem tn_all : tn (BitVec.allOnes 64) = 18446744073709551615 := by rw [tn_eq]; decide
theorem not_xor (y : W64) : BitVec.allOnes 64 ^^^ y = ~~~y := BitVec.allOnes_xor
theorem unK_not (n : Int) (K : Value → Prop) : unK .xor (.int .u64 n) K = K (.int .u64 (bits .xor .u64 18446744073709551615 n)) := by
  have : (if IntKind.u64.signed then (-1 : Int) else IntKind.u64.max) = 18446744073709551615 := by decide
  show K (.int .u64 (bits .xor .u64 (if IntKind.u64.signed then -1 else IntKind.u64.max) n)) = _
  rw [this]
theorem bits_not_tn (y : W64) : bits .xor .u64 18446744073709551615 (tn y) = tn (~~~y) := by
  rw [← tn_all, bits_xor_tn, not_xor]
theorem sub_not_tn (y : W64) : IntKind.u64.wrap (18446744073709551615 - tn y) = tn (~~~y) := by
  rw [tn_eq]
  simp only [BitVec.toNat_not]
  rw [IntKind.wrap_u64]
  have := y.isLt
  omega

theorem and_63 (k : Int) (h : 0 ≤ k) (h' : k < 64) : bits .and .u64 k 63 = k := by
  obtain ⟨n, rfl⟩ := Int.eq_ofNat_of_zero_le h
  have := bits_and_u64_nat n 63 (by omega) (by omega)
  have e : bits .and .u64 (n : Int) 63 = ((n &&& 63 : Nat) : Int) := this
  rw [e]
  have h2 : n &&& (2 ^ 6 - 1) = n % 2 ^ 6 := Nat.and_two_pow_sub_one_eq_mod n 6
  have h3 : n &&& 63 = n % 64 := h2
  rw [h3]
  omega

noncomputable def rol : W64 → Nat → W64 := Classical.choose (⟨fun (x : W64) (k : Nat) => (x <<< k ||| x >>> (64 - k) : W64), rfl⟩ : ∃ y : W64 → Nat → W64, y = fun (x : W64) (k : Nat) => (x <<< k ||| x >>> (64 - k) : W64))
theorem rol_eq : rol = fun (x : W64) (k : Nat) => (x <<< k ||| x >>> (64 - k) : W64) := Classical.choose_spec (⟨fun (x : W64) (k : Nat) => (x <<< k ||| x >>> (64 - k) : W64), rfl⟩ : ∃ y : W64 → Nat → W64, y = fun (x : W64) (k : Nat) => (x <<< k ||| x >>> (64 - k) : W64))
theorem shl_tn (x : W64) (k : Nat) (h : k ≤ 64) : IntKind.u64.wrap (tn x * 2 ^ (min k IntKind.u64.bits)) = tn (x <<< k) := by
  have hb : IntKind.u64.bits = 64 := rfl
  rw [hb, Nat.min_eq_left h, tn_eq, IntKind.wrap_u64]
  simp only [BitVec.toNat_shiftLeft, Nat.shiftLeft_eq]
  have : ((x.toNat * 2 ^ k : Nat) : Int) = (x.toNat : Int) * 2 ^ k := by simp
  rw [← this]
  omega
theorem shr_tn (x : W64) (k : Nat) (h : k ≤ 64) : (tn x).fdiv (2 ^ (min k IntKind.u64.bits)) = tn (x >>> k) := by
  have hb : IntKind.u64.bits = 64 := rfl
  rw [hb, Nat.min_eq_left h, tn_eq]
  simp only [BitVec.toNat_ushiftRight, Nat.shiftRight_eq_div_pow]
  rw [Int.fdiv_eq_ediv_of_nonneg _ (by exact Int.le_of_lt (Int.pow_pos (by omega)))]
  simp

noncomputable def rotlG : List DV → Option RV
  | [.pl (.int .u64 x), .pl (.int .i64 k)] => if okW x = true ∧ 0 ≤ k ∧ k < 64 then some (.one (.pl (.int .u64 (tn (rol (nt x) k.toNat))))) else none
  | _ => none

set_option maxHeartbeats 4000000 in
theorem rotl_ok : ∀ ds r, rotlG ds = some r → Spec Try.prog 105 ds r := by
  intro ds r h
  unfold rotlG at h
  split at h
  case h_2 => cases h
  rename_i x k
  split at h
  case isFalse => cases h
  rename_i hc
  obtain ⟨hx, h0, h1⟩ := hc
  cases h
  obtain ⟨X, rfl⟩ : ∃ X, x = tn X := ⟨nt x, (tn_nt hx).symm⟩
  obtain ⟨k, rfl⟩ := Int.eq_ofNat_of_zero_le h0
  have hΓ : Env.ok [] Try.prog := ok_nil _
  have e1 := and_63 (k : Int) h0 h1
  have e2 : IntKind.u64.wrap (k : Int) = k := by rw [IntKind.wrap_u64]; omega
  have e3 : ((k : Int)).toNat = k := by omega
  have e4 : IntKind.u64.wrap (64 - (k : Int)) = 64 - (k : Int) := by rw [IntKind.wrap_u64]; omega
  have e5 : (64 - (k : Int)).toNat = 64 - k := by omega
  have e6 : (0 : Int) ≤ 64 - (k : Int) := by omega
  have s1 := shl_tn X k (by omega)
  have s2 := shr_tn X (64 - k) (by omega)
  rw [nt_tn, e3]
  have hr : rol X k = X <<< k ||| X >>> (64 - k) := by rw [rol_eq]
  rw [hr]
  refine Spec.of_vx hΓ follows_mixed Try.func105 rfl (by kernel_rfl) (T := []) (by simp [Try.ntmps105]) (by kernel_rfl) rfl Try.ntmps105 (res := [.tmp 4]) rfl ?_
  intro W
  simp -implicitDefEqProofs (maxSteps := 10000000) only [↓e1, ↓e2, ↓e4, ↓s1, ↓s2, vmB, slim, slimOp, gO, gSO, qSO, quietOp, cS, qSB, eK, calmOp, guardS, gK, qK, putK, plK, dOk, St.ev, St.get, St.mem, St.set, St.setm, St.put, lookA, look, newK, nextver, initT, seqE, blockQ, bodyQ, resK, retV, AV.rdv, agg_uV, ↓binK, ↓intK, unK, ↓loadK, ↓withKey_eq, ↓idxAddrK, ↓indexK, ↓partK, ↓fieldK, ↓fieldAddrK, ↓convK, ↓callK, wrG, updK, ↓lenK, ↓mmK, ↓appK, ↓copyK, ↓sliceK, ↓toArrK, nilK, evs, plains, seqParts, capsOf, capsD, AV.dv, AV.cont, ↓buildV_eq, fillL, placesOf, ↓storeK, wrL, RV.av, DV.av, List.set, Nat.reduceEqDiff, Nat.reduceAdd, Nat.reduceSub, Nat.reduceMul, Nat.reduceLT, Nat.reduceLeDiff, Nat.reduceMod, Nat.reduceDiv, Int.reduceLT, Int.reduceLE, Int.reduceToNat, ↓reduceIte, reduceCtorEq, Value.oneCell', Int.reduceAdd, Int.reduceSub, Int.reduceMod, Int.reduceMul, Int.reduceNeg, Int.reduceBEq, Int.reduceBNe, Int.reduceTDiv, Int.reduceTMod, Int.reduceEq, tyB, Try.underlying13, Try.underlying25, Try.underlying26, Try.underlying39, Try.underlying40, Try.underlying72, Try.underlying73, e1, e2, e3, e4, e5, e6, h0, s1, s2, bits_or_tn]

theorem kLeft_ok : ∀ ds r, rotlG ds = some r → Spec Try.prog 102 ds r := by
  intro ds r h
  unfold rotlG at h
  split at h
  case h_2 => cases h
  rename_i x k
  split at h
  case isFalse => cases h
  rename_i hc
  obtain ⟨hx, h0, h1⟩ := hc
  cases h
  obtain ⟨X, rfl⟩ : ∃ X, x = tn X := ⟨nt x, (tn_nt hx).symm⟩
  obtain ⟨k, rfl⟩ := Int.eq_ofNat_of_zero_le h0
  have hΓ : Env.ok [] Try.prog := ok_nil _
  have e2 : IntKind.u64.wrap (k : Int) = k := by rw [IntKind.wrap_u64]; omega
  have e3 : ((k : Int)).toNat = k := by omega
  have e4 : IntKind.u64.wrap (64 - (k : Int)) = 64 - (k : Int) := by rw [IntKind.wrap_u64]; omega
  have e7 : IntKind.i64.wrap (64 - (k : Int)) = 64 - (k : Int) := i64_in (by omega) (by omega)
  have e5 : (64 - (k : Int)).toNat = 64 - k := by omega
  have e6 : (0 : Int) ≤ 64 - (k : Int) := by omega
  have s1 := shl_tn X k (by omega)
  have s2 := shr_tn X (64 - k) (by omega)
  rw [nt_tn, e3]
  by_cases hk : k = 0
  · subst hk
    have hr : rol X 0 = X := by
      rw [rol_eq]
      apply BitVec.eq_of_getLsbD_eq
      intro i hi
      simp
    rw [hr]
    refine Spec.of_vx hΓ follows_mixed Try.func102 rfl (by kernel_rfl) (T := []) (by simp [Try.ntmps102]) (by kernel_rfl) rfl Try.ntmps102 (res := [.tmp 4]) rfl ?_
    intro W
    simp -implicitDefEqProofs (maxSteps := 10000000) only [vmB, slim, slimOp, gO, gSO, qSO, quietOp, cS, qSB, eK, calmOp, guardS, gK, qK, putK, plK, dOk, St.ev, St.get, St.mem, St.set, St.setm, St.put, lookA, look, newK, nextver, initT, seqE, blockQ, bodyQ, resK, retV, AV.rdv, agg_uV, ↓binK, ↓intK, unK, ↓loadK, ↓withKey_eq, ↓idxAddrK, ↓indexK, ↓partK, ↓fieldK, ↓fieldAddrK, ↓convK, ↓callK, wrG, updK, ↓lenK, ↓mmK, ↓appK, ↓copyK, ↓sliceK, ↓toArrK, nilK, evs, plains, seqParts, capsOf, capsD, AV.dv, AV.cont, ↓buildV_eq, fillL, placesOf, ↓storeK, wrL, RV.av, DV.av, List.set, Nat.reduceEqDiff, Nat.reduceAdd, Nat.reduceSub, Nat.reduceMul, Nat.reduceLT, Nat.reduceLeDiff, Nat.reduceMod, Nat.reduceDiv, Int.reduceLT, Int.reduceLE, Int.reduceToNat, ↓reduceIte, reduceCtorEq, Value.oneCell', Int.reduceAdd, Int.reduceSub, Int.reduceMod, Int.reduceMul, Int.reduceNeg, Int.reduceBEq, Int.reduceBNe, Int.reduceTDiv, Int.reduceTMod, Int.reduceEq, tyB, Try.underlying13, Try.underlying25, Try.underlying26, Try.underlying39, Try.underlying40, Try.underlying72, Try.underlying73, Int.natCast_zero]
  · have hr : rol X k = X <<< k ||| X >>> (64 - k) := by rw [rol_eq]
    have b0 : ((k : Int) == 0) = false := by simp; omega
    rw [hr]
    refine Spec.of_vx hΓ follows_mixed Try.func102 rfl (by kernel_rfl) (T := []) (by simp [Try.ntmps102]) (by kernel_rfl) rfl Try.ntmps102 (res := [.tmp 4]) rfl ?_
    intro W
    simp -implicitDefEqProofs (maxSteps := 10000000) only [↓e2, ↓e4, ↓e7, ↓s1, ↓s2, vmB, slim, slimOp, gO, gSO, qSO, quietOp, cS, qSB, eK, calmOp, guardS, gK, qK, putK, plK, dOk, St.ev, St.get, St.mem, St.set, St.setm, St.put, lookA, look, newK, nextver, initT, seqE, blockQ, bodyQ, resK, retV, AV.rdv, agg_uV, ↓binK, ↓intK, unK, ↓loadK, ↓withKey_eq, ↓idxAddrK, ↓indexK, ↓partK, ↓fieldK, ↓fieldAddrK, ↓convK, ↓callK, wrG, updK, ↓lenK, ↓mmK, ↓appK, ↓copyK, ↓sliceK, ↓toArrK, nilK, evs, plains, seqParts, capsOf, capsD, AV.dv, AV.cont, ↓buildV_eq, fillL, placesOf, ↓storeK, wrL, RV.av, DV.av, List.set, Nat.reduceEqDiff, Nat.reduceAdd, Nat.reduceSub, Nat.reduceMul, Nat.reduceLT, Nat.reduceLeDiff, Nat.reduceMod, Nat.reduceDiv, Int.reduceLT, Int.reduceLE, Int.reduceToNat, ↓reduceIte, reduceCtorEq, Value.oneCell', Int.reduceAdd, Int.reduceSub, Int.reduceMod, Int.reduceMul, Int.reduceNeg, Int.reduceBEq, Int.reduceBNe, Int.reduceTDiv, Int.reduceTMod, Int.reduceEq, tyB, Try.underlying13, Try.underlying25, Try.underlying26, Try.underlying39, Try.underlying40, Try.underlying72, Try.underlying73, e2, e3, e4, e5, e6, e7, h0, s1, s2, bits_or_tn, b0]

def kAtG : List DV → Option RV
  | [.pl (.int .i64 x), .pl (.int .i64 y)] => if 0 ≤ x ∧ x < 1000 ∧ 0 ≤ y ∧ y < 1000 then some (.one (.pl (.int .i64 (x % 5 + 5 * (y % 5))))) else none
  | _ => none

theorem kAt_ok : ∀ ds r, kAtG ds = some r → Spec Try.prog 101 ds r := by
  intro ds r h
  unfold kAtG at h
  split at h
  case h_2 => cases h
  rename_i x y
  split at h
  case isFalse => cases h
  rename_i hc
  cases h
  have hΓ : Env.ok [] Try.prog := ok_nil _
  have e1 : x.tmod 5 = x % 5 := by rw [Int.tmod_eq_emod_of_nonneg (by omega)]
  have e2 : y.tmod 5 = y % 5 := by rw [Int.tmod_eq_emod_of_nonneg (by omega)]
  have e3 : IntKind.i64.wrap (5 * (y % 5)) = 5 * (y % 5) := i64_in (by omega) (by omega)
  have e4 : IntKind.i64.wrap (x % 5 + 5 * (y % 5)) = x % 5 + 5 * (y % 5) := i64_in (by omega) (by omega)
  refine Spec.of_vx hΓ follows_mixed Try.func101 rfl (by kernel_rfl) (T := []) (by simp [Try.ntmps101]) (by kernel_rfl) rfl Try.ntmps101 (res := [.tmp 4]) rfl ?_
  intro W
  simp -implicitDefEqProofs (maxSteps := 10000000) only [vmB, slim, slimOp, gO, gSO, qSO, quietOp, cS, qSB, eK, calmOp, guardS, gK, qK, putK, plK, dOk, St.ev, St.get, St.mem, St.set, St.setm, St.put, lookA, look, newK, nextver, initT, seqE, blockQ, bodyQ, resK, retV, AV.rdv, agg_uV, ↓binK, ↓intK, unK, ↓loadK, ↓withKey_eq, ↓idxAddrK, ↓indexK, ↓partK, ↓fieldK, ↓fieldAddrK, ↓convK, ↓callK, wrG, updK, ↓lenK, ↓mmK, ↓appK, ↓copyK, ↓sliceK, ↓toArrK, nilK, evs, plains, seqParts, capsOf, capsD, AV.dv, AV.cont, ↓buildV_eq, fillL, placesOf, ↓storeK, wrL, RV.av, DV.av, List.set, Nat.reduceEqDiff, Nat.reduceAdd, Nat.reduceSub, Nat.reduceMul, Nat.reduceLT, Nat.reduceLeDiff, Nat.reduceMod, Nat.reduceDiv, Int.reduceLT, Int.reduceLE, Int.reduceToNat, ↓reduceIte, reduceCtorEq, Value.oneCell', Int.reduceAdd, Int.reduceSub, Int.reduceMod, Int.reduceMul, Int.reduceNeg, Int.reduceBEq, Int.reduceBNe, Int.reduceTDiv, Int.reduceTMod, Int.reduceEq, tyB, Try.underlying13, Try.underlying25, Try.underlying26, Try.underlying39, Try.underlying40, Try.underlying72, Try.underlying73, e1, e2, e3, e4]

noncomputable def byV : Value := Classical.choose (⟨.agg #[.int .i64 0, .int .i64 1, .int .i64 62, .int .i64 28, .int .i64 27, .int .i64 36, .int .i64 44, .int .i64 6, .int .i64 55, .int .i64 20, .int .i64 3, .int .i64 10, .int .i64 43, .int .i64 25, .int .i64 39, .int .i64 41, .int .i64 45, .int .i64 15, .int .i64 21, .int .i64 8, .int .i64 18, .int .i64 2, .int .i64 61, .int .i64 56, .int .i64 14], rfl⟩ : ∃ y : Value, y = .agg #[.int .i64 0, .int .i64 1, .int .i64 62, .int .i64 28, .int .i64 27, .int .i64 36, .int .i64 44, .int .i64 6, .int .i64 55, .int .i64 20, .int .i64 3, .int .i64 10, .int .i64 43, .int .i64 25, .int .i64 39, .int .i64 41, .int .i64 45, .int .i64 15, .int .i64 21, .int .i64 8, .int .i64 18, .int .i64 2, .int .i64 61, .int .i64 56, .int .i64 14])
theorem byV_eq : byV = .agg #[.int .i64 0, .int .i64 1, .int .i64 62, .int .i64 28, .int .i64 27, .int .i64 36, .int .i64 44, .int .i64 6, .int .i64 55, .int .i64 20, .int .i64 3, .int .i64 10, .int .i64 43, .int .i64 25, .int .i64 39, .int .i64 41, .int .i64 45, .int .i64 15, .int .i64 21, .int .i64 8, .int .i64 18, .int .i64 2, .int .i64 61, .int .i64 56, .int .i64 14] := Classical.choose_spec (⟨.agg #[.int .i64 0, .int .i64 1, .int .i64 62, .int .i64 28, .int .i64 27, .int .i64 36, .int .i64 44, .int .i64 6, .int .i64 55, .int .i64 20, .int .i64 3, .int .i64 10, .int .i64 43, .int .i64 25, .int .i64 39, .int .i64 41, .int .i64 45, .int .i64 15, .int .i64 21, .int .i64 8, .int .i64 18, .int .i64 2, .int .i64 61, .int .i64 56, .int .i64 14], rfl⟩ : ∃ y : Value, y = .agg #[.int .i64 0, .int .i64 1, .int .i64 62, .int .i64 28, .int .i64 27, .int .i64 36, .int .i64 44, .int .i64 6, .int .i64 55, .int .i64 20, .int .i64 3, .int .i64 10, .int .i64 43, .int .i64 25, .int .i64 39, .int .i64 41, .int .i64 45, .int .i64 15, .int .i64 21, .int .i64 8, .int .i64 18, .int .i64 2, .int .i64 61, .int .i64 56, .int .i64 14])
noncomputable def toV : Value := Classical.choose (⟨.agg #[.int .i64 0, .int .i64 10, .int .i64 20, .int .i64 5, .int .i64 15, .int .i64 16, .int .i64 1, .int .i64 11, .int .i64 21, .int .i64 6, .int .i64 7, .int .i64 17, .int .i64 2, .int .i64 12, .int .i64 22, .int .i64 23, .int .i64 8, .int .i64 18, .int .i64 3, .int .i64 13, .int .i64 14, .int .i64 24, .int .i64 9, .int .i64 19, .int .i64 4], rfl⟩ : ∃ y : Value, y = .agg #[.int .i64 0, .int .i64 10, .int .i64 20, .int .i64 5, .int .i64 15, .int .i64 16, .int .i64 1, .int .i64 11, .int .i64 21, .int .i64 6, .int .i64 7, .int .i64 17, .int .i64 2, .int .i64 12, .int .i64 22, .int .i64 23, .int .i64 8, .int .i64 18, .int .i64 3, .int .i64 13, .int .i64 14, .int .i64 24, .int .i64 9, .int .i64 19, .int .i64 4])
theorem toV_eq : toV = .agg #[.int .i64 0, .int .i64 10, .int .i64 20, .int .i64 5, .int .i64 15, .int .i64 16, .int .i64 1, .int .i64 11, .int .i64 21, .int .i64 6, .int .i64 7, .int .i64 17, .int .i64 2, .int .i64 12, .int .i64 22, .int .i64 23, .int .i64 8, .int .i64 18, .int .i64 3, .int .i64 13, .int .i64 14, .int .i64 24, .int .i64 9, .int .i64 19, .int .i64 4] := Classical.choose_spec (⟨.agg #[.int .i64 0, .int .i64 10, .int .i64 20, .int .i64 5, .int .i64 15, .int .i64 16, .int .i64 1, .int .i64 11, .int .i64 21, .int .i64 6, .int .i64 7, .int .i64 17, .int .i64 2, .int .i64 12, .int .i64 22, .int .i64 23, .int .i64 8, .int .i64 18, .int .i64 3, .int .i64 13, .int .i64 14, .int .i64 24, .int .i64 9, .int .i64 19, .int .i64 4], rfl⟩ : ∃ y : Value, y = .agg #[.int .i64 0, .int .i64 10, .int .i64 20, .int .i64 5, .int .i64 15, .int .i64 16, .int .i64 1, .int .i64 11, .int .i64 21, .int .i64 6, .int .i64 7, .int .i64 17, .int .i64 2, .int .i64 12, .int .i64 22, .int .i64 23, .int .i64 8, .int .i64 18, .int .i64 3, .int .i64 13, .int .i64 14, .int .i64 24, .int .i64 9, .int .i64 19, .int .i64 4])
noncomputable def rcV : Value := Classical.choose (⟨.agg #[.int .u64 1, .int .u64 32898, .int .u64 9223372036854808714, .int .u64 9223372039002292224, .int .u64 32907, .int .u64 2147483649, .int .u64 9223372039002292353, .int .u64 9223372036854808585, .int .u64 138, .int .u64 136, .int .u64 2147516425, .int .u64 2147483658, .int .u64 2147516555, .int .u64 9223372036854775947, .int .u64 9223372036854808713, .int .u64 9223372036854808579, .int .u64 9223372036854808578, .int .u64 9223372036854775936, .int .u64 32778, .int .u64 9223372039002259466, .int .u64 9223372039002292353, .int .u64 9223372036854808704, .int .u64 2147483649, .int .u64 9223372039002292232], rfl⟩ : ∃ y : Value, y = .agg #[.int .u64 1, .int .u64 32898, .int .u64 9223372036854808714, .int .u64 9223372039002292224, .int .u64 32907, .int .u64 2147483649, .int .u64 9223372039002292353, .int .u64 9223372036854808585, .int .u64 138, .int .u64 136, .int .u64 2147516425, .int .u64 2147483658, .int .u64 2147516555, .int .u64 9223372036854775947, .int .u64 9223372036854808713, .int .u64 9223372036854808579, .int .u64 9223372036854808578, .int .u64 9223372036854775936, .int .u64 32778, .int .u64 9223372039002259466, .int .u64 9223372039002292353, .int .u64 9223372036854808704, .int .u64 2147483649, .int .u64 9223372039002292232])
theorem rcV_eq : rcV = .agg #[.int .u64 1, .int .u64 32898, .int .u64 9223372036854808714, .int .u64 9223372039002292224, .int .u64 32907, .int .u64 2147483649, .int .u64 9223372039002292353, .int .u64 9223372036854808585, .int .u64 138, .int .u64 136, .int .u64 2147516425, .int .u64 2147483658, .int .u64 2147516555, .int .u64 9223372036854775947, .int .u64 9223372036854808713, .int .u64 9223372036854808579, .int .u64 9223372036854808578, .int .u64 9223372036854775936, .int .u64 32778, .int .u64 9223372039002259466, .int .u64 9223372039002292353, .int .u64 9223372036854808704, .int .u64 2147483649, .int .u64 9223372039002292232] := Classical.choose_spec (⟨.agg #[.int .u64 1, .int .u64 32898, .int .u64 9223372036854808714, .int .u64 9223372039002292224, .int .u64 32907, .int .u64 2147483649, .int .u64 9223372039002292353, .int .u64 9223372036854808585, .int .u64 138, .int .u64 136, .int .u64 2147516425, .int .u64 2147483658, .int .u64 2147516555, .int .u64 9223372036854775947, .int .u64 9223372036854808713, .int .u64 9223372036854808579, .int .u64 9223372036854808578, .int .u64 9223372036854775936, .int .u64 32778, .int .u64 9223372039002259466, .int .u64 9223372039002292353, .int .u64 9223372036854808704, .int .u64 2147483649, .int .u64 9223372039002292232], rfl⟩ : ∃ y : Value, y = .agg #[.int .u64 1, .int .u64 32898, .int .u64 9223372036854808714, .int .u64 9223372039002292224, .int .u64 32907, .int .u64 2147483649, .int .u64 9223372039002292353, .int .u64 9223372036854808585, .int .u64 138, .int .u64 136, .int .u64 2147516425, .int .u64 2147483658, .int .u64 2147516555, .int .u64 9223372036854775947, .int .u64 9223372036854808713, .int .u64 9223372036854808579, .int .u64 9223372036854808578, .int .u64 9223372036854775936, .int .u64 32778, .int .u64 9223372039002259466, .int .u64 9223372039002292353, .int .u64 9223372036854808704, .int .u64 2147483649, .int .u64 9223372039002292232])
noncomputable def turnsG : List DV → Option RV
  | [] => some (.tup [.pl byV, .pl toV])
  | _ => none
noncomputable def constsG : List DV → Option RV
  | [] => some (.one (.pl rcV))
  | _ => none

theorem consts_ok : ∀ ds r, constsG ds = some r → Spec Try.prog 97 ds r := by
  intro ds r h
  unfold constsG at h
  split at h
  case h_2 => cases h
  cases h
  have hΓ : Env.ok [] Try.prog := ok_nil _
  rw [rcV_eq]
  refine Spec.of_vx hΓ follows_mixed Try.func97 rfl (by kernel_rfl) (T := []) (by simp [Try.ntmps97]) (by kernel_rfl) rfl Try.ntmps97 (res := [.cell 0 117]) rfl ?_
  intro W
  simp -implicitDefEqProofs (maxSteps := 10000000) only [vy_succ, vmB, slim, slimOp, gO, gSO, qSO, quietOp, cS, qSB, eK, calmOp, guardS, gK, qK, putK, plK, dOk, St.ev, St.get, St.mem, St.set, St.setm, St.put, lookA, look, newK, nextver, initT, seqE, blockQ, bodyQ, resK, retV, AV.rdv, agg_uV, ↓binK, ↓intK, unK, ↓loadK, ↓withKey_eq, ↓idxAddrK, ↓indexK, ↓partK, ↓fieldK, ↓fieldAddrK, ↓convK, ↓callK, wrG, updK, ↓lenK, ↓mmK, ↓appK, ↓copyK, ↓sliceK, ↓toArrK, nilK, evs, plains, seqParts, capsOf, capsD, AV.dv, AV.cont, ↓buildV_eq, fillL, placesOf, ↓storeK, wrL, RV.av, DV.av, List.set, Nat.reduceEqDiff, Nat.reduceAdd, Nat.reduceSub, Nat.reduceMul, Nat.reduceLT, Nat.reduceLeDiff, Nat.reduceMod, Nat.reduceDiv, Int.reduceLT, Int.reduceLE, Int.reduceToNat, ↓reduceIte, reduceCtorEq, Value.oneCell', Int.reduceAdd, Int.reduceSub, Int.reduceMod, Int.reduceMul, Int.reduceNeg, Int.reduceBEq, Int.reduceBNe, Int.reduceTDiv, Int.reduceTMod, Int.reduceEq, tyB, Try.underlying13, Try.underlying25, Try.underlying26, Try.underlying39, Try.underlying40, Try.underlying72, Try.underlying73]

def turnsTree : OT := .alt 0 (.alt 1 (.alt 2 (.alt 3 (.done) (.stop)) (.stop)) (.alt 2 (.alt 1 (.alt 3 (.done) (.stop)) (.stop)) (.stop))) (.alt 1 (.alt 0 (.alt 2 (.alt 3 (.done) (.stop)) (.stop)) (.stop)) (.stop))
set_option maxHeartbeats 40000000 in
theorem kTurns_ok : ∀ ds r, turnsG ds = some r → Spec Try.prog 96 ds r := by
  intro ds r h
  unfold turnsG at h
  split at h
  case h_2 => cases h
  cases h
  have hΓ : Env.ok [] Try.prog := ok_nil _
  rw [byV_eq, toV_eq]
  refine Spec.of_vx hΓ follows_mixed Try.func96 rfl (by kernel_rfl) (T := [(15, turnsTree)]) (by simp [Try.ntmps96]) (by kernel_rfl) rfl Try.ntmps96 (res := [.cell 0 114, .cell 1 114]) rfl ?_
  intro W
  simp -implicitDefEqProofs (maxSteps := 10000000) only [vy_succ, vmB, slim, slimOp, gO, gSO, qSO, quietOp, cS, qSB, eK, calmOp, guardS, gK, qK, putK, plK, dOk, St.ev, St.get, St.mem, St.set, St.setm, St.put, lookA, look, newK, nextver, initT, seqE, blockQ, bodyQ, resK, retV, AV.rdv, agg_uV, ↓binK, ↓intK, unK, ↓loadK, ↓withKey_eq, ↓idxAddrK, ↓indexK, ↓partK, ↓fieldK, ↓fieldAddrK, ↓convK, ↓callK, wrG, updK, ↓lenK, ↓mmK, ↓appK, ↓copyK, ↓sliceK, ↓toArrK, nilK, evs, plains, seqParts, capsOf, capsD, AV.dv, AV.cont, ↓buildV_eq, fillL, placesOf, ↓storeK, wrL, RV.av, DV.av, List.set, Nat.reduceEqDiff, Nat.reduceAdd, Nat.reduceSub, Nat.reduceMul, Nat.reduceLT, Nat.reduceLeDiff, Nat.reduceMod, Nat.reduceDiv, Int.reduceLT, Int.reduceLE, Int.reduceToNat, ↓reduceIte, reduceCtorEq, Value.oneCell', Int.reduceAdd, Int.reduceSub, Int.reduceMod, Int.reduceMul, Int.reduceNeg, Int.reduceBEq, Int.reduceBNe, Int.reduceTDiv, Int.reduceTMod, Int.reduceEq, tyB, Try.underlying13, Try.underlying25, Try.underlying26, Try.underlying39, Try.underlying40, Try.underlying72, Try.underlying73, turnsTree]
  refine VT_rounds hΓ follows_mixed 25 ?_
  simp -implicitDefEqProofs (maxSteps := 100000000) only [vy_succ, vmB, slim, slimOp, gO, gSO, qSO, quietOp, cS, qSB, eK, calmOp, guardS, gK, qK, putK, plK, dOk, St.ev, St.get, St.mem, St.set, St.setm, St.put, lookA, look, newK, nextver, initT, seqE, blockQ, bodyQ, resK, retV, AV.rdv, agg_uV, ↓binK, ↓intK, unK, ↓loadK, ↓withKey_eq, ↓idxAddrK, ↓indexK, ↓partK, ↓fieldK, ↓fieldAddrK, ↓convK, ↓callK, wrG, updK, ↓lenK, ↓mmK, ↓appK, ↓copyK, ↓sliceK, ↓toArrK, nilK, evs, plains, seqParts, capsOf, capsD, AV.dv, AV.cont, ↓buildV_eq, fillL, placesOf, ↓storeK, wrL, RV.av, DV.av, List.set, Nat.reduceEqDiff, Nat.reduceAdd, Nat.reduceSub, Nat.reduceMul, Nat.reduceLT, Nat.reduceLeDiff, Nat.reduceMod, Nat.reduceDiv, Int.reduceLT, Int.reduceLE, Int.reduceToNat, ↓reduceIte, reduceCtorEq, Value.oneCell', Int.reduceAdd, Int.reduceSub, Int.reduceMod, Int.reduceMul, Int.reduceNeg, Int.reduceBEq, Int.reduceBNe, Int.reduceTDiv, Int.reduceTMod, Int.reduceEq, tyB, Try.underlying13, Try.underlying25, Try.underlying26, Try.underlying39, Try.underlying40, Try.underlying72, Try.underlying73, turnsTree]
  refine VT_rounds hΓ follows_mixed 26 ?_
  simp -implicitDefEqProofs (maxSteps := 100000000) only [vy_succ, vmB, slim, slimOp, gO, gSO, qSO, quietOp, cS, qSB, eK, calmOp, guardS, gK, qK, putK, plK, dOk, St.ev, St.get, St.mem, St.set, St.setm, St.put, lookA, look, newK, nextver, initT, seqE, blockQ, bodyQ, resK, retV, AV.rdv, agg_uV, ↓binK, ↓intK, unK, ↓loadK, ↓withKey_eq, ↓idxAddrK, ↓indexK, ↓partK, ↓fieldK, ↓fieldAddrK, ↓convK, ↓callK, wrG, updK, ↓lenK, ↓mmK, ↓appK, ↓copyK, ↓sliceK, ↓toArrK, nilK, evs, plains, seqParts, capsOf, capsD, AV.dv, AV.cont, ↓buildV_eq, fillL, placesOf, ↓storeK, wrL, RV.av, DV.av, List.set, Nat.reduceEqDiff, Nat.reduceAdd, Nat.reduceSub, Nat.reduceMul, Nat.reduceLT, Nat.reduceLeDiff, Nat.reduceMod, Nat.reduceDiv, Int.reduceLT, Int.reduceLE, Int.reduceToNat, ↓reduceIte, reduceCtorEq, Value.oneCell', Int.reduceAdd, Int.reduceSub, Int.reduceMod, Int.reduceMul, Int.reduceNeg, Int.reduceBEq, Int.reduceBNe, Int.reduceTDiv, Int.reduceTMod, Int.reduceEq, tyB, Try.underlying13, Try.underlying25, Try.underlying26, Try.underlying39, Try.underlying40, Try.underlying72, Try.underlying73, turnsTree]

end Go.Vm

/- The sums' round and mixing. No condition. -/
set_option maxRecDepth 100000
set_option linter.unusedSimpArgs false
set_option linter.unusedVariables false
namespace Go.Vm
open Go Go.RowKit Go.Proofs

abbrev K25 := Nat → W64
noncomputable def kV (A : K25) : Value := .agg #[.int .u64 (tn (A 0)), .int .u64 (tn (A 1)), .int .u64 (tn (A 2)), .int .u64 (tn (A 3)), .int .u64 (tn (A 4)), .int .u64 (tn (A 5)), .int .u64 (tn (A 6)), .int .u64 (tn (A 7)), .int .u64 (tn (A 8)), .int .u64 (tn (A 9)), .int .u64 (tn (A 10)), .int .u64 (tn (A 11)), .int .u64 (tn (A 12)), .int .u64 (tn (A 13)), .int .u64 (tn (A 14)), .int .u64 (tn (A 15)), .int .u64 (tn (A 16)), .int .u64 (tn (A 17)), .int .u64 (tn (A 18)), .int .u64 (tn (A 19)), .int .u64 (tn (A 20)), .int .u64 (tn (A 21)), .int .u64 (tn (A 22)), .int .u64 (tn (A 23)), .int .u64 (tn (A 24))]
theorem kV_fold (A : K25) : Value.agg #[.int .u64 (tn (A 0)), .int .u64 (tn (A 1)), .int .u64 (tn (A 2)), .int .u64 (tn (A 3)), .int .u64 (tn (A 4)), .int .u64 (tn (A 5)), .int .u64 (tn (A 6)), .int .u64 (tn (A 7)), .int .u64 (tn (A 8)), .int .u64 (tn (A 9)), .int .u64 (tn (A 10)), .int .u64 (tn (A 11)), .int .u64 (tn (A 12)), .int .u64 (tn (A 13)), .int .u64 (tn (A 14)), .int .u64 (tn (A 15)), .int .u64 (tn (A 16)), .int .u64 (tn (A 17)), .int .u64 (tn (A 18)), .int .u64 (tn (A 19)), .int .u64 (tn (A 20)), .int .u64 (tn (A 21)), .int .u64 (tn (A 22)), .int .u64 (tn (A 23)), .int .u64 (tn (A 24))] = kV A := rfl
theorem cells_kV (A : K25) : (kV A).cells = #[.int .u64 (tn (A 0)), .int .u64 (tn (A 1)), .int .u64 (tn (A 2)), .int .u64 (tn (A 3)), .int .u64 (tn (A 4)), .int .u64 (tn (A 5)), .int .u64 (tn (A 6)), .int .u64 (tn (A 7)), .int .u64 (tn (A 8)), .int .u64 (tn (A 9)), .int .u64 (tn (A 10)), .int .u64 (tn (A 11)), .int .u64 (tn (A 12)), .int .u64 (tn (A 13)), .int .u64 (tn (A 14)), .int .u64 (tn (A 15)), .int .u64 (tn (A 16)), .int .u64 (tn (A 17)), .int .u64 (tn (A 18)), .int .u64 (tn (A 19)), .int .u64 (tn (A 20)), .int .u64 (tn (A 21)), .int .u64 (tn (A 22)), .int .u64 (tn (A 23)), .int .u64 (tn (A 24))] := rfl
theorem isNil_kV (A : K25) : isNil (kV A) = false := rfl
theorem kV_inj {A B : K25} (h : kV A = kV B) : ∀ i, i < 25 → A i = B i := by
  unfold kV at h
  simp only [Value.agg.injEq, Array.mk.injEq, List.cons.injEq, Value.int.injEq, true_and, and_true] at h
  obtain ⟨h0, h1, h2, h3, h4, h5, h6, h7, h8, h9, h10, h11, h12, h13, h14, h15, h16, h17, h18, h19, h20, h21, h22, h23, h24⟩ := h
  intro i hi
  by_cases e0 : i = 0
  · subst e0; exact tn_inj h0
  by_cases e1 : i = 1
  · subst e1; exact tn_inj h1
  by_cases e2 : i = 2
  · subst e2; exact tn_inj h2
  by_cases e3 : i = 3
  · subst e3; exact tn_inj h3
  by_cases e4 : i = 4
  · subst e4; exact tn_inj h4
  by_cases e5 : i = 5
  · subst e5; exact tn_inj h5
  by_cases e6 : i = 6
  · subst e6; exact tn_inj h6
  by_cases e7 : i = 7
  · subst e7; exact tn_inj h7
  by_cases e8 : i = 8
  · subst e8; exact tn_inj h8
  by_cases e9 : i = 9
  · subst e9; exact tn_inj h9
  by_cases e10 : i = 10
  · subst e10; exact tn_inj h10
  by_cases e11 : i = 11
  · subst e11; exact tn_inj h11
  by_cases e12 : i = 12
  · subst e12; exact tn_inj h12
  by_cases e13 : i = 13
  · subst e13; exact tn_inj h13
  by_cases e14 : i = 14
  · subst e14; exact tn_inj h14
  by_cases e15 : i = 15
  · subst e15; exact tn_inj h15
  by_cases e16 : i = 16
  · subst e16; exact tn_inj h16
  by_cases e17 : i = 17
  · subst e17; exact tn_inj h17
  by_cases e18 : i = 18
  · subst e18; exact tn_inj h18
  by_cases e19 : i = 19
  · subst e19; exact tn_inj h19
  by_cases e20 : i = 20
  · subst e20; exact tn_inj h20
  by_cases e21 : i = 21
  · subst e21; exact tn_inj h21
  by_cases e22 : i = 22
  · subst e22; exact tn_inj h22
  by_cases e23 : i = 23
  · subst e23; exact tn_inj h23
  by_cases e24 : i = 24
  · subst e24; exact tn_inj h24
  omega
theorem kV_eq {A B : K25} (h : ∀ i, i < 25 → A i = B i) : kV A = kV B := by
  unfold kV
  rw [h 0 (by omega), h 1 (by omega), h 2 (by omega), h 3 (by omega), h 4 (by omega), h 5 (by omega), h 6 (by omega), h 7 (by omega), h 8 (by omega), h 9 (by omega), h 10 (by omega), h 11 (by omega), h 12 (by omega), h 13 (by omega), h 14 (by omega), h 15 (by omega), h 16 (by omega), h 17 (by omega), h 18 (by omega), h 19 (by omega), h 20 (by omega), h 21 (by omega), h 22 (by omega), h 23 (by omega), h 24 (by omega)]
noncomputable def cut : K25 → K25 := Classical.choose (⟨fun (A : K25) (i : Nat) => if i < 25 then A i else (0 : W64), rfl⟩ : ∃ y : K25 → K25, y = fun (A : K25) (i : Nat) => if i < 25 then A i else (0 : W64))
theorem cut_eq : cut = fun (A : K25) (i : Nat) => if i < 25 then A i else (0 : W64) := Classical.choose_spec (⟨fun (A : K25) (i : Nat) => if i < 25 then A i else (0 : W64), rfl⟩ : ∃ y : K25 → K25, y = fun (A : K25) (i : Nat) => if i < 25 then A i else (0 : W64))
theorem cut_at (A : K25) {i : Nat} (h : i < 25) : cut A i = A i := by rw [cut_eq]; exact if_pos h
theorem kV_cut (A : K25) : kV (cut A) = kV A := kV_eq fun i h => cut_at A h
theorem cut_of {A B : K25} (h : ∀ i, i < 25 → A i = B i) : cut A = cut B := by
  rw [cut_eq]
  funext i
  simp only
  split
  · exact h i ‹_›
  · rfl
noncomputable def toK : Value → Option K25 := Classical.choose (⟨_, rfl⟩ : ∃ f : Value → Option K25, f = fun v => @dite _ (∃ A, v = kV A) (Classical.propDecidable _) (fun h => some (cut h.choose)) (fun _ => none))
theorem toK_def : toK = fun v => @dite _ (∃ A, v = kV A) (Classical.propDecidable _) (fun h => some (cut h.choose)) (fun _ => none) := Classical.choose_spec (⟨_, rfl⟩ : ∃ f : Value → Option K25, f = fun v => @dite _ (∃ A, v = kV A) (Classical.propDecidable _) (fun h => some (cut h.choose)) (fun _ => none))
theorem toK_kV (A : K25) : toK (kV A) = some (cut A) := by
  rw [toK_def]
  have h : ∃ B, kV A = kV B := ⟨A, rfl⟩
  simp only
  rw [dif_pos h]
  congr 1
  exact cut_of fun i hi => (kV_inj h.choose_spec i hi).symm
theorem toK_eq {v : Value} {A : K25} (h : toK v = some A) : v = kV A ∧ A = cut A := by
  rw [toK_def] at h
  simp only at h
  split at h
  · rename_i hc
    cases h
    exact ⟨by rw [kV_cut]; exact hc.choose_spec, cut_of fun i hi => (cut_at _ hi).symm⟩
  · cases h

noncomputable def byT : Nat → Nat := Classical.choose (⟨fun i => ([0, 1, 62, 28, 27, 36, 44, 6, 55, 20, 3, 10, 43, 25, 39, 41, 45, 15, 21, 8, 18, 2, 61, 56, 14] : List Nat).getD i 0, rfl⟩ : ∃ y : Nat → Nat, y = fun i => ([0, 1, 62, 28, 27, 36, 44, 6, 55, 20, 3, 10, 43, 25, 39, 41, 45, 15, 21, 8, 18, 2, 61, 56, 14] : List Nat).getD i 0)
theorem byT_eq : byT = fun i => ([0, 1, 62, 28, 27, 36, 44, 6, 55, 20, 3, 10, 43, 25, 39, 41, 45, 15, 21, 8, 18, 2, 61, 56, 14] : List Nat).getD i 0 := Classical.choose_spec (⟨fun i => ([0, 1, 62, 28, 27, 36, 44, 6, 55, 20, 3, 10, 43, 25, 39, 41, 45, 15, 21, 8, 18, 2, 61, 56, 14] : List Nat).getD i 0, rfl⟩ : ∃ y : Nat → Nat, y = fun i => ([0, 1, 62, 28, 27, 36, 44, 6, 55, 20, 3, 10, 43, 25, 39, 41, 45, 15, 21, 8, 18, 2, 61, 56, 14] : List Nat).getD i 0)
theorem byT_0 : byT 0 = 0 := by rw [byT_eq]; rfl
theorem byT_1 : byT 1 = 1 := by rw [byT_eq]; rfl
theorem byT_2 : byT 2 = 62 := by rw [byT_eq]; rfl
theorem byT_3 : byT 3 = 28 := by rw [byT_eq]; rfl
theorem byT_4 : byT 4 = 27 := by rw [byT_eq]; rfl
theorem byT_5 : byT 5 = 36 := by rw [byT_eq]; rfl
theorem byT_6 : byT 6 = 44 := by rw [byT_eq]; rfl
theorem byT_7 : byT 7 = 6 := by rw [byT_eq]; rfl
theorem byT_8 : byT 8 = 55 := by rw [byT_eq]; rfl
theorem byT_9 : byT 9 = 20 := by rw [byT_eq]; rfl
theorem byT_10 : byT 10 = 3 := by rw [byT_eq]; rfl
theorem byT_11 : byT 11 = 10 := by rw [byT_eq]; rfl
theorem byT_12 : byT 12 = 43 := by rw [byT_eq]; rfl
theorem byT_13 : byT 13 = 25 := by rw [byT_eq]; rfl
theorem byT_14 : byT 14 = 39 := by rw [byT_eq]; rfl
theorem byT_15 : byT 15 = 41 := by rw [byT_eq]; rfl
theorem byT_16 : byT 16 = 45 := by rw [byT_eq]; rfl
theorem byT_17 : byT 17 = 15 := by rw [byT_eq]; rfl
theorem byT_18 : byT 18 = 21 := by rw [byT_eq]; rfl
theorem byT_19 : byT 19 = 8 := by rw [byT_eq]; rfl
theorem byT_20 : byT 20 = 18 := by rw [byT_eq]; rfl
theorem byT_21 : byT 21 = 2 := by rw [byT_eq]; rfl
theorem byT_22 : byT 22 = 61 := by rw [byT_eq]; rfl
theorem byT_23 : byT 23 = 56 := by rw [byT_eq]; rfl
theorem byT_24 : byT 24 = 14 := by rw [byT_eq]; rfl
noncomputable def srT : Nat → Nat := Classical.choose (⟨fun i => ([0, 6, 12, 18, 24, 3, 9, 10, 16, 22, 1, 7, 13, 19, 20, 4, 5, 11, 17, 23, 2, 8, 14, 15, 21] : List Nat).getD i 0, rfl⟩ : ∃ y : Nat → Nat, y = fun i => ([0, 6, 12, 18, 24, 3, 9, 10, 16, 22, 1, 7, 13, 19, 20, 4, 5, 11, 17, 23, 2, 8, 14, 15, 21] : List Nat).getD i 0)
theorem srT_eq : srT = fun i => ([0, 6, 12, 18, 24, 3, 9, 10, 16, 22, 1, 7, 13, 19, 20, 4, 5, 11, 17, 23, 2, 8, 14, 15, 21] : List Nat).getD i 0 := Classical.choose_spec (⟨fun i => ([0, 6, 12, 18, 24, 3, 9, 10, 16, 22, 1, 7, 13, 19, 20, 4, 5, 11, 17, 23, 2, 8, 14, 15, 21] : List Nat).getD i 0, rfl⟩ : ∃ y : Nat → Nat, y = fun i => ([0, 6, 12, 18, 24, 3, 9, 10, 16, 22, 1, 7, 13, 19, 20, 4, 5, 11, 17, 23, 2, 8, 14, 15, 21] : List Nat).getD i 0)
theorem srT_0 : srT 0 = 0 := by rw [srT_eq]; rfl
theorem srT_1 : srT 1 = 6 := by rw [srT_eq]; rfl
theorem srT_2 : srT 2 = 12 := by rw [srT_eq]; rfl
theorem srT_3 : srT 3 = 18 := by rw [srT_eq]; rfl
theorem srT_4 : srT 4 = 24 := by rw [srT_eq]; rfl
theorem srT_5 : srT 5 = 3 := by rw [srT_eq]; rfl
theorem srT_6 : srT 6 = 9 := by rw [srT_eq]; rfl
theorem srT_7 : srT 7 = 10 := by rw [srT_eq]; rfl
theorem srT_8 : srT 8 = 16 := by rw [srT_eq]; rfl
theorem srT_9 : srT 9 = 22 := by rw [srT_eq]; rfl
theorem srT_10 : srT 10 = 1 := by rw [srT_eq]; rfl
theorem srT_11 : srT 11 = 7 := by rw [srT_eq]; rfl
theorem srT_12 : srT 12 = 13 := by rw [srT_eq]; rfl
theorem srT_13 : srT 13 = 19 := by rw [srT_eq]; rfl
theorem srT_14 : srT 14 = 20 := by rw [srT_eq]; rfl
theorem srT_15 : srT 15 = 4 := by rw [srT_eq]; rfl
theorem srT_16 : srT 16 = 5 := by rw [srT_eq]; rfl
theorem srT_17 : srT 17 = 11 := by rw [srT_eq]; rfl
theorem srT_18 : srT 18 = 17 := by rw [srT_eq]; rfl
theorem srT_19 : srT 19 = 23 := by rw [srT_eq]; rfl
theorem srT_20 : srT 20 = 2 := by rw [srT_eq]; rfl
theorem srT_21 : srT 21 = 8 := by rw [srT_eq]; rfl
theorem srT_22 : srT 22 = 14 := by rw [srT_eq]; rfl
theorem srT_23 : srT 23 = 15 := by rw [srT_eq]; rfl
theorem srT_24 : srT 24 = 21 := by rw [srT_eq]; rfl
noncomputable def rcT : Nat → Int := Classical.choose (⟨fun i => ([1, 32898, 9223372036854808714, 9223372039002292224, 32907, 2147483649, 9223372039002292353, 9223372036854808585, 138, 136, 2147516425, 2147483658, 2147516555, 9223372036854775947, 9223372036854808713, 9223372036854808579, 9223372036854808578, 9223372036854775936, 32778, 9223372039002259466, 9223372039002292353, 9223372036854808704, 2147483649, 9223372039002292232] : List Int).getD i 0, rfl⟩ : ∃ y : Nat → Int, y = fun i => ([1, 32898, 9223372036854808714, 9223372039002292224, 32907, 2147483649, 9223372039002292353, 9223372036854808585, 138, 136, 2147516425, 2147483658, 2147516555, 9223372036854775947, 9223372036854808713, 9223372036854808579, 9223372036854808578, 9223372036854775936, 32778, 9223372039002259466, 9223372039002292353, 9223372036854808704, 2147483649, 9223372039002292232] : List Int).getD i 0)
theorem rcT_eq : rcT = fun i => ([1, 32898, 9223372036854808714, 9223372039002292224, 32907, 2147483649, 9223372039002292353, 9223372036854808585, 138, 136, 2147516425, 2147483658, 2147516555, 9223372036854775947, 9223372036854808713, 9223372036854808579, 9223372036854808578, 9223372036854775936, 32778, 9223372039002259466, 9223372039002292353, 9223372036854808704, 2147483649, 9223372039002292232] : List Int).getD i 0 := Classical.choose_spec (⟨fun i => ([1, 32898, 9223372036854808714, 9223372039002292224, 32907, 2147483649, 9223372039002292353, 9223372036854808585, 138, 136, 2147516425, 2147483658, 2147516555, 9223372036854775947, 9223372036854808713, 9223372036854808579, 9223372036854808578, 9223372036854775936, 32778, 9223372039002259466, 9223372039002292353, 9223372036854808704, 2147483649, 9223372039002292232] : List Int).getD i 0, rfl⟩ : ∃ y : Nat → Int, y = fun i => ([1, 32898, 9223372036854808714, 9223372039002292224, 32907, 2147483649, 9223372039002292353, 9223372036854808585, 138, 136, 2147516425, 2147483658, 2147516555, 9223372036854775947, 9223372036854808713, 9223372036854808579, 9223372036854808578, 9223372036854775936, 32778, 9223372039002259466, 9223372039002292353, 9223372036854808704, 2147483649, 9223372039002292232] : List Int).getD i 0)
theorem rcT_0 : rcT 0 = 1 := by rw [rcT_eq]; rfl
theorem rcT_1 : rcT 1 = 32898 := by rw [rcT_eq]; rfl
theorem rcT_2 : rcT 2 = 9223372036854808714 := by rw [rcT_eq]; rfl
theorem rcT_3 : rcT 3 = 9223372039002292224 := by rw [rcT_eq]; rfl
theorem rcT_4 : rcT 4 = 32907 := by rw [rcT_eq]; rfl
theorem rcT_5 : rcT 5 = 2147483649 := by rw [rcT_eq]; rfl
theorem rcT_6 : rcT 6 = 9223372039002292353 := by rw [rcT_eq]; rfl
theorem rcT_7 : rcT 7 = 9223372036854808585 := by rw [rcT_eq]; rfl
theorem rcT_8 : rcT 8 = 138 := by rw [rcT_eq]; rfl
theorem rcT_9 : rcT 9 = 136 := by rw [rcT_eq]; rfl
theorem rcT_10 : rcT 10 = 2147516425 := by rw [rcT_eq]; rfl
theorem rcT_11 : rcT 11 = 2147483658 := by rw [rcT_eq]; rfl
theorem rcT_12 : rcT 12 = 2147516555 := by rw [rcT_eq]; rfl
theorem rcT_13 : rcT 13 = 9223372036854775947 := by rw [rcT_eq]; rfl
theorem rcT_14 : rcT 14 = 9223372036854808713 := by rw [rcT_eq]; rfl
theorem rcT_15 : rcT 15 = 9223372036854808579 := by rw [rcT_eq]; rfl
theorem rcT_16 : rcT 16 = 9223372036854808578 := by rw [rcT_eq]; rfl
theorem rcT_17 : rcT 17 = 9223372036854775936 := by rw [rcT_eq]; rfl
theorem rcT_18 : rcT 18 = 32778 := by rw [rcT_eq]; rfl
theorem rcT_19 : rcT 19 = 9223372039002259466 := by rw [rcT_eq]; rfl
theorem rcT_20 : rcT 20 = 9223372039002292353 := by rw [rcT_eq]; rfl
theorem rcT_21 : rcT 21 = 9223372036854808704 := by rw [rcT_eq]; rfl
theorem rcT_22 : rcT 22 = 2147483649 := by rw [rcT_eq]; rfl
theorem rcT_23 : rcT 23 = 9223372039002292232 := by rw [rcT_eq]; rfl
noncomputable def kC : K25 → Nat → W64 := Classical.choose (⟨fun (A : K25) (x : Nat) => A x ^^^ A (x + 5) ^^^ A (x + 10) ^^^ A (x + 15) ^^^ A (x + 20), rfl⟩ : ∃ y : K25 → Nat → W64, y = fun (A : K25) (x : Nat) => A x ^^^ A (x + 5) ^^^ A (x + 10) ^^^ A (x + 15) ^^^ A (x + 20))
theorem kC_eq : kC = fun (A : K25) (x : Nat) => A x ^^^ A (x + 5) ^^^ A (x + 10) ^^^ A (x + 15) ^^^ A (x + 20) := Classical.choose_spec (⟨fun (A : K25) (x : Nat) => A x ^^^ A (x + 5) ^^^ A (x + 10) ^^^ A (x + 15) ^^^ A (x + 20), rfl⟩ : ∃ y : K25 → Nat → W64, y = fun (A : K25) (x : Nat) => A x ^^^ A (x + 5) ^^^ A (x + 10) ^^^ A (x + 15) ^^^ A (x + 20))
noncomputable def kD : K25 → Nat → W64 := Classical.choose (⟨fun (A : K25) (x : Nat) => kC A ((x + 4) % 5) ^^^ rol (kC A ((x + 1) % 5)) 1, rfl⟩ : ∃ y : K25 → Nat → W64, y = fun (A : K25) (x : Nat) => kC A ((x + 4) % 5) ^^^ rol (kC A ((x + 1) % 5)) 1)
theorem kD_eq : kD = fun (A : K25) (x : Nat) => kC A ((x + 4) % 5) ^^^ rol (kC A ((x + 1) % 5)) 1 := Classical.choose_spec (⟨fun (A : K25) (x : Nat) => kC A ((x + 4) % 5) ^^^ rol (kC A ((x + 1) % 5)) 1, rfl⟩ : ∃ y : K25 → Nat → W64, y = fun (A : K25) (x : Nat) => kC A ((x + 4) % 5) ^^^ rol (kC A ((x + 1) % 5)) 1)
noncomputable def kB : K25 → Nat → W64 := Classical.choose (⟨fun (A : K25) (j : Nat) => rol (A (srT j) ^^^ kD A (srT j % 5)) (byT (srT j)), rfl⟩ : ∃ y : K25 → Nat → W64, y = fun (A : K25) (j : Nat) => rol (A (srT j) ^^^ kD A (srT j % 5)) (byT (srT j)))
theorem kB_eq : kB = fun (A : K25) (j : Nat) => rol (A (srT j) ^^^ kD A (srT j % 5)) (byT (srT j)) := Classical.choose_spec (⟨fun (A : K25) (j : Nat) => rol (A (srT j) ^^^ kD A (srT j % 5)) (byT (srT j)), rfl⟩ : ∃ y : K25 → Nat → W64, y = fun (A : K25) (j : Nat) => rol (A (srT j) ^^^ kD A (srT j % 5)) (byT (srT j)))
noncomputable def kE : K25 → Nat → W64 := Classical.choose (⟨fun (A : K25) (i : Nat) => kB A i ^^^ ~~~(kB A (i / 5 * 5 + (i + 1) % 5)) &&& kB A (i / 5 * 5 + (i + 2) % 5), rfl⟩ : ∃ y : K25 → Nat → W64, y = fun (A : K25) (i : Nat) => kB A i ^^^ ~~~(kB A (i / 5 * 5 + (i + 1) % 5)) &&& kB A (i / 5 * 5 + (i + 2) % 5))
theorem kE_eq : kE = fun (A : K25) (i : Nat) => kB A i ^^^ ~~~(kB A (i / 5 * 5 + (i + 1) % 5)) &&& kB A (i / 5 * 5 + (i + 2) % 5) := Classical.choose_spec (⟨fun (A : K25) (i : Nat) => kB A i ^^^ ~~~(kB A (i / 5 * 5 + (i + 1) % 5)) &&& kB A (i / 5 * 5 + (i + 2) % 5), rfl⟩ : ∃ y : K25 → Nat → W64, y = fun (A : K25) (i : Nat) => kB A i ^^^ ~~~(kB A (i / 5 * 5 + (i + 1) % 5)) &&& kB A (i / 5 * 5 + (i + 2) % 5))
noncomputable def rnd : K25 → W64 → K25 := Classical.choose (⟨fun (A : K25) (c : W64) (i : Nat) => if i = 0 then kE A 0 ^^^ c else if i < 25 then kE A i else 0, rfl⟩ : ∃ y : K25 → W64 → K25, y = fun (A : K25) (c : W64) (i : Nat) => if i = 0 then kE A 0 ^^^ c else if i < 25 then kE A i else 0)
theorem rnd_eq : rnd = fun (A : K25) (c : W64) (i : Nat) => if i = 0 then kE A 0 ^^^ c else if i < 25 then kE A i else 0 := Classical.choose_spec (⟨fun (A : K25) (c : W64) (i : Nat) => if i = 0 then kE A 0 ^^^ c else if i < 25 then kE A i else 0, rfl⟩ : ∃ y : K25 → W64 → K25, y = fun (A : K25) (c : W64) (i : Nat) => if i = 0 then kE A 0 ^^^ c else if i < 25 then kE A i else 0)
theorem fC0 (A : K25) : A 0 ^^^ A 5 ^^^ A 10 ^^^ A 15 ^^^ A 20 = kC A 0 := by rw [kC_eq]
theorem fC1 (A : K25) : A 1 ^^^ A 6 ^^^ A 11 ^^^ A 16 ^^^ A 21 = kC A 1 := by rw [kC_eq]
theorem fC2 (A : K25) : A 2 ^^^ A 7 ^^^ A 12 ^^^ A 17 ^^^ A 22 = kC A 2 := by rw [kC_eq]
theorem fC3 (A : K25) : A 3 ^^^ A 8 ^^^ A 13 ^^^ A 18 ^^^ A 23 = kC A 3 := by rw [kC_eq]
theorem fC4 (A : K25) : A 4 ^^^ A 9 ^^^ A 14 ^^^ A 19 ^^^ A 24 = kC A 4 := by rw [kC_eq]
theorem fD0 (A : K25) : kC A 4 ^^^ rol (kC A 1) 1 = kD A 0 := by rw [kD_eq]
theorem fD1 (A : K25) : kC A 0 ^^^ rol (kC A 2) 1 = kD A 1 := by rw [kD_eq]
theorem fD2 (A : K25) : kC A 1 ^^^ rol (kC A 3) 1 = kD A 2 := by rw [kD_eq]
theorem fD3 (A : K25) : kC A 2 ^^^ rol (kC A 4) 1 = kD A 3 := by rw [kD_eq]
theorem fD4 (A : K25) : kC A 3 ^^^ rol (kC A 0) 1 = kD A 4 := by rw [kD_eq]
theorem fB0 (A : K25) : rol (A 0 ^^^ kD A 0) 0 = kB A 0 := by simp only [kB_eq, srT_0, byT_0, Nat.reduceMod]
theorem fB1 (A : K25) : rol (A 1 ^^^ kD A 1) 1 = kB A 10 := by simp only [kB_eq, srT_10, byT_1, Nat.reduceMod]
theorem fB2 (A : K25) : rol (A 2 ^^^ kD A 2) 62 = kB A 20 := by simp only [kB_eq, srT_20, byT_2, Nat.reduceMod]
theorem fB3 (A : K25) : rol (A 3 ^^^ kD A 3) 28 = kB A 5 := by simp only [kB_eq, srT_5, byT_3, Nat.reduceMod]
theorem fB4 (A : K25) : rol (A 4 ^^^ kD A 4) 27 = kB A 15 := by simp only [kB_eq, srT_15, byT_4, Nat.reduceMod]
theorem fB5 (A : K25) : rol (A 5 ^^^ kD A 0) 36 = kB A 16 := by simp only [kB_eq, srT_16, byT_5, Nat.reduceMod]
theorem fB6 (A : K25) : rol (A 6 ^^^ kD A 1) 44 = kB A 1 := by simp only [kB_eq, srT_1, byT_6, Nat.reduceMod]
theorem fB7 (A : K25) : rol (A 7 ^^^ kD A 2) 6 = kB A 11 := by simp only [kB_eq, srT_11, byT_7, Nat.reduceMod]
theorem fB8 (A : K25) : rol (A 8 ^^^ kD A 3) 55 = kB A 21 := by simp only [kB_eq, srT_21, byT_8, Nat.reduceMod]
theorem fB9 (A : K25) : rol (A 9 ^^^ kD A 4) 20 = kB A 6 := by simp only [kB_eq, srT_6, byT_9, Nat.reduceMod]
theorem fB10 (A : K25) : rol (A 10 ^^^ kD A 0) 3 = kB A 7 := by simp only [kB_eq, srT_7, byT_10, Nat.reduceMod]
theorem fB11 (A : K25) : rol (A 11 ^^^ kD A 1) 10 = kB A 17 := by simp only [kB_eq, srT_17, byT_11, Nat.reduceMod]
theorem fB12 (A : K25) : rol (A 12 ^^^ kD A 2) 43 = kB A 2 := by simp only [kB_eq, srT_2, byT_12, Nat.reduceMod]
theorem fB13 (A : K25) : rol (A 13 ^^^ kD A 3) 25 = kB A 12 := by simp only [kB_eq, srT_12, byT_13, Nat.reduceMod]
theorem fB14 (A : K25) : rol (A 14 ^^^ kD A 4) 39 = kB A 22 := by simp only [kB_eq, srT_22, byT_14, Nat.reduceMod]
theorem fB15 (A : K25) : rol (A 15 ^^^ kD A 0) 41 = kB A 23 := by simp only [kB_eq, srT_23, byT_15, Nat.reduceMod]
theorem fB16 (A : K25) : rol (A 16 ^^^ kD A 1) 45 = kB A 8 := by simp only [kB_eq, srT_8, byT_16, Nat.reduceMod]
theorem fB17 (A : K25) : rol (A 17 ^^^ kD A 2) 15 = kB A 18 := by simp only [kB_eq, srT_18, byT_17, Nat.reduceMod]
theorem fB18 (A : K25) : rol (A 18 ^^^ kD A 3) 21 = kB A 3 := by simp only [kB_eq, srT_3, byT_18, Nat.reduceMod]
theorem fB19 (A : K25) : rol (A 19 ^^^ kD A 4) 8 = kB A 13 := by simp only [kB_eq, srT_13, byT_19, Nat.reduceMod]
theorem fB20 (A : K25) : rol (A 20 ^^^ kD A 0) 18 = kB A 14 := by simp only [kB_eq, srT_14, byT_20, Nat.reduceMod]
theorem fB21 (A : K25) : rol (A 21 ^^^ kD A 1) 2 = kB A 24 := by simp only [kB_eq, srT_24, byT_21, Nat.reduceMod]
theorem fB22 (A : K25) : rol (A 22 ^^^ kD A 2) 61 = kB A 9 := by simp only [kB_eq, srT_9, byT_22, Nat.reduceMod]
theorem fB23 (A : K25) : rol (A 23 ^^^ kD A 3) 56 = kB A 19 := by simp only [kB_eq, srT_19, byT_23, Nat.reduceMod]
theorem fB24 (A : K25) : rol (A 24 ^^^ kD A 4) 14 = kB A 4 := by simp only [kB_eq, srT_4, byT_24, Nat.reduceMod]
theorem fE0 (A : K25) : kB A 0 ^^^ ~~~(kB A 1) &&& kB A 2 = kE A 0 := by rw [kE_eq]
theorem fE1 (A : K25) : kB A 1 ^^^ ~~~(kB A 2) &&& kB A 3 = kE A 1 := by rw [kE_eq]
theorem fE2 (A : K25) : kB A 2 ^^^ ~~~(kB A 3) &&& kB A 4 = kE A 2 := by rw [kE_eq]
theorem fE3 (A : K25) : kB A 3 ^^^ ~~~(kB A 4) &&& kB A 0 = kE A 3 := by rw [kE_eq]
theorem fE4 (A : K25) : kB A 4 ^^^ ~~~(kB A 0) &&& kB A 1 = kE A 4 := by rw [kE_eq]
theorem fE5 (A : K25) : kB A 5 ^^^ ~~~(kB A 6) &&& kB A 7 = kE A 5 := by rw [kE_eq]
theorem fE6 (A : K25) : kB A 6 ^^^ ~~~(kB A 7) &&& kB A 8 = kE A 6 := by rw [kE_eq]
theorem fE7 (A : K25) : kB A 7 ^^^ ~~~(kB A 8) &&& kB A 9 = kE A 7 := by rw [kE_eq]
theorem fE8 (A : K25) : kB A 8 ^^^ ~~~(kB A 9) &&& kB A 5 = kE A 8 := by rw [kE_eq]
theorem fE9 (A : K25) : kB A 9 ^^^ ~~~(kB A 5) &&& kB A 6 = kE A 9 := by rw [kE_eq]
theorem fE10 (A : K25) : kB A 10 ^^^ ~~~(kB A 11) &&& kB A 12 = kE A 10 := by rw [kE_eq]
theorem fE11 (A : K25) : kB A 11 ^^^ ~~~(kB A 12) &&& kB A 13 = kE A 11 := by rw [kE_eq]
theorem fE12 (A : K25) : kB A 12 ^^^ ~~~(kB A 13) &&& kB A 14 = kE A 12 := by rw [kE_eq]
theorem fE13 (A : K25) : kB A 13 ^^^ ~~~(kB A 14) &&& kB A 10 = kE A 13 := by rw [kE_eq]
theorem fE14 (A : K25) : kB A 14 ^^^ ~~~(kB A 10) &&& kB A 11 = kE A 14 := by rw [kE_eq]
theorem fE15 (A : K25) : kB A 15 ^^^ ~~~(kB A 16) &&& kB A 17 = kE A 15 := by rw [kE_eq]
theorem fE16 (A : K25) : kB A 16 ^^^ ~~~(kB A 17) &&& kB A 18 = kE A 16 := by rw [kE_eq]
theorem fE17 (A : K25) : kB A 17 ^^^ ~~~(kB A 18) &&& kB A 19 = kE A 17 := by rw [kE_eq]
theorem fE18 (A : K25) : kB A 18 ^^^ ~~~(kB A 19) &&& kB A 15 = kE A 18 := by rw [kE_eq]
theorem fE19 (A : K25) : kB A 19 ^^^ ~~~(kB A 15) &&& kB A 16 = kE A 19 := by rw [kE_eq]
theorem fE20 (A : K25) : kB A 20 ^^^ ~~~(kB A 21) &&& kB A 22 = kE A 20 := by rw [kE_eq]
theorem fE21 (A : K25) : kB A 21 ^^^ ~~~(kB A 22) &&& kB A 23 = kE A 21 := by rw [kE_eq]
theorem fE22 (A : K25) : kB A 22 ^^^ ~~~(kB A 23) &&& kB A 24 = kE A 22 := by rw [kE_eq]
theorem fE23 (A : K25) : kB A 23 ^^^ ~~~(kB A 24) &&& kB A 20 = kE A 23 := by rw [kE_eq]
theorem fE24 (A : K25) : kB A 24 ^^^ ~~~(kB A 20) &&& kB A 21 = kE A 24 := by rw [kE_eq]
theorem rnd_0 (A : K25) (c : W64) : rnd A c 0 = kE A 0 ^^^ c := by rw [rnd_eq]; rfl
theorem rnd_1 (A : K25) (c : W64) : rnd A c 1 = kE A 1 := by rw [rnd_eq]; rfl
theorem rnd_2 (A : K25) (c : W64) : rnd A c 2 = kE A 2 := by rw [rnd_eq]; rfl
theorem rnd_3 (A : K25) (c : W64) : rnd A c 3 = kE A 3 := by rw [rnd_eq]; rfl
theorem rnd_4 (A : K25) (c : W64) : rnd A c 4 = kE A 4 := by rw [rnd_eq]; rfl
theorem rnd_5 (A : K25) (c : W64) : rnd A c 5 = kE A 5 := by rw [rnd_eq]; rfl
theorem rnd_6 (A : K25) (c : W64) : rnd A c 6 = kE A 6 := by rw [rnd_eq]; rfl
theorem rnd_7 (A : K25) (c : W64) : rnd A c 7 = kE A 7 := by rw [rnd_eq]; rfl
theorem rnd_8 (A : K25) (c : W64) : rnd A c 8 = kE A 8 := by rw [rnd_eq]; rfl
theorem rnd_9 (A : K25) (c : W64) : rnd A c 9 = kE A 9 := by rw [rnd_eq]; rfl
theorem rnd_10 (A : K25) (c : W64) : rnd A c 10 = kE A 10 := by rw [rnd_eq]; rfl
theorem rnd_11 (A : K25) (c : W64) : rnd A c 11 = kE A 11 := by rw [rnd_eq]; rfl
theorem rnd_12 (A : K25) (c : W64) : rnd A c 12 = kE A 12 := by rw [rnd_eq]; rfl
theorem rnd_13 (A : K25) (c : W64) : rnd A c 13 = kE A 13 := by rw [rnd_eq]; rfl
theorem rnd_14 (A : K25) (c : W64) : rnd A c 14 = kE A 14 := by rw [rnd_eq]; rfl
theorem rnd_15 (A : K25) (c : W64) : rnd A c 15 = kE A 15 := by rw [rnd_eq]; rfl
theorem rnd_16 (A : K25) (c : W64) : rnd A c 16 = kE A 16 := by rw [rnd_eq]; rfl
theorem rnd_17 (A : K25) (c : W64) : rnd A c 17 = kE A 17 := by rw [rnd_eq]; rfl
theorem rnd_18 (A : K25) (c : W64) : rnd A c 18 = kE A 18 := by rw [rnd_eq]; rfl
theorem rnd_19 (A : K25) (c : W64) : rnd A c 19 = kE A 19 := by rw [rnd_eq]; rfl
theorem rnd_20 (A : K25) (c : W64) : rnd A c 20 = kE A 20 := by rw [rnd_eq]; rfl
theorem rnd_21 (A : K25) (c : W64) : rnd A c 21 = kE A 21 := by rw [rnd_eq]; rfl
theorem rnd_22 (A : K25) (c : W64) : rnd A c 22 = kE A 22 := by rw [rnd_eq]; rfl
theorem rnd_23 (A : K25) (c : W64) : rnd A c 23 = kE A 23 := by rw [rnd_eq]; rfl
theorem rnd_24 (A : K25) (c : W64) : rnd A c 24 = kE A 24 := by rw [rnd_eq]; rfl

theorem kC_cut (A : K25) {x : Nat} (h : x < 5) : kC (cut A) x = kC A x := by
  rw [kC_eq]
  simp only
  rw [cut_at A (show x < 25 by omega), cut_at A (show x + 5 < 25 by omega), cut_at A (show x + 10 < 25 by omega), cut_at A (show x + 15 < 25 by omega), cut_at A (show x + 20 < 25 by omega)]
theorem kD_cut (A : K25) (x : Nat) : kD (cut A) x = kD A x := by
  rw [kD_eq]
  simp only
  rw [kC_cut A (Nat.mod_lt _ (by omega)), kC_cut A (Nat.mod_lt _ (by omega))]
theorem srT_lt (j : Nat) : srT j < 25 := by
  rw [srT_eq]
  by_cases h : j < 25
  · simp only
    have : ∀ j, j < 25 → ([0, 6, 12, 18, 24, 3, 9, 10, 16, 22, 1, 7, 13, 19, 20, 4, 5, 11, 17, 23, 2, 8, 14, 15, 21] : List Nat).getD j 0 < 25 := by decide
    exact this j h
  · simp only
    rw [List.getD_eq_getElem?_getD, List.getElem?_eq_none (by simp; omega)]
    decide
theorem kB_cut (A : K25) (j : Nat) : kB (cut A) j = kB A j := by
  rw [kB_eq]
  simp only
  rw [cut_at A (srT_lt j), kD_cut]
theorem kE_cut (A : K25) (j : Nat) : kE (cut A) j = kE A j := by
  rw [kE_eq]
  simp only [kB_cut]
theorem rnd_cut (A : K25) (c : W64) : rnd (cut A) c = rnd A c := by
  rw [rnd_eq]
  simp only [kE_cut]

noncomputable def isT : Value → Value → Bool := Classical.choose (⟨_, rfl⟩ : ∃ f : Value → Value → Bool, f = fun v u => @decide (v = byV ∧ u = toV) (Classical.propDecidable _))
theorem isT_eq : isT = fun v u => @decide (v = byV ∧ u = toV) (Classical.propDecidable _) := Classical.choose_spec (⟨_, rfl⟩ : ∃ f : Value → Value → Bool, f = fun v u => @decide (v = byV ∧ u = toV) (Classical.propDecidable _))
theorem isT_self : isT byV toV = true := by rw [isT_eq]; simp
theorem isT_out {v u : Value} (h : isT v u = true) : v = byV ∧ u = toV := by rw [isT_eq] at h; simpa using h
noncomputable def roundG : List DV → Option RV
  | [.pl va, .pl vb, .pl vt, .pl (.int .u64 c)] => match toK va with
    | some A => if (isT vb vt && okW c) = true then some (.one (.pl (kV (rnd A (nt c))))) else none
    | none => none
  | _ => none

set_option maxHeartbeats 400000000 in
theorem round_walk (A : K25) (c : W64) : Spec Try.prog 98 [.pl (kV A), .pl byV, .pl toV, .pl (.int .u64 (tn c))] (.one (.pl (kV (rnd A c)))) := by
  have hΓ : Env.ok [(105, rotlG)] Try.prog := ok_cons rotl_ok (ok_nil _)
  rw [byV_eq, toV_eq]
  refine Spec.of_vx hΓ follows_mixed Try.func98 rfl (by kernel_rfl) (T := []) (by simp [Try.ntmps98]) (by kernel_rfl) rfl Try.ntmps98 (res := [.cell 8 87]) rfl ?_
  intro W
  simp -implicitDefEqProofs (maxSteps := 100000000) only [kV, vy_succ, vmB, slim, slimOp, gO, gSO, qSO, quietOp, cS, qSB, eK, calmOp, guardS, gK, qK, putK, plK, dOk, St.ev, St.get, St.mem, St.set, St.setm, St.put, lookA, look, newK, nextver, initT, seqE, blockQ, bodyQ, resK, retV, AV.rdv, agg_uV, ↓binK, ↓intK, unK, ↓loadK, ↓withKey_eq, ↓idxAddrK, ↓indexK, ↓partK, ↓fieldK, ↓fieldAddrK, ↓convK, ↓callK, wrG, updK, ↓lenK, ↓mmK, ↓appK, ↓copyK, ↓sliceK, ↓toArrK, nilK, evs, plains, seqParts, capsOf, capsD, AV.dv, AV.cont, ↓buildV_eq, fillL, placesOf, ↓storeK, wrL, RV.av, DV.av, List.set, Nat.reduceEqDiff, Nat.reduceAdd, Nat.reduceSub, Nat.reduceMul, Nat.reduceLT, Nat.reduceLeDiff, Nat.reduceMod, Nat.reduceDiv, Int.reduceLT, Int.reduceLE, Int.reduceToNat, ↓reduceIte, reduceCtorEq, Value.oneCell', Int.reduceAdd, Int.reduceSub, Int.reduceMod, Int.reduceMul, Int.reduceNeg, Int.reduceBEq, Int.reduceBNe, Int.reduceTDiv, Int.reduceTMod, Int.reduceEq, tyB, Try.underlying13, Try.underlying25, Try.underlying26, Try.underlying39, Try.underlying40, Try.underlying72, Try.underlying73]
  refine VT_rounds hΓ follows_mixed 6 ?_
  simp -implicitDefEqProofs (maxSteps := 100000000) only [vy_succ, vmB, slim, slimOp, gO, gSO, qSO, quietOp, cS, qSB, eK, calmOp, guardS, gK, qK, putK, plK, dOk, St.ev, St.get, St.mem, St.set, St.setm, St.put, lookA, look, newK, nextver, initT, seqE, blockQ, bodyQ, resK, retV, AV.rdv, agg_uV, ↓binK, ↓intK, unK, ↓loadK, ↓withKey_eq, ↓idxAddrK, ↓indexK, ↓partK, ↓fieldK, ↓fieldAddrK, ↓convK, ↓callK, wrG, updK, ↓lenK, ↓mmK, ↓appK, ↓copyK, ↓sliceK, ↓toArrK, nilK, evs, plains, seqParts, capsOf, capsD, AV.dv, AV.cont, ↓buildV_eq, fillL, placesOf, ↓storeK, wrL, RV.av, DV.av, List.set, Nat.reduceEqDiff, Nat.reduceAdd, Nat.reduceSub, Nat.reduceMul, Nat.reduceLT, Nat.reduceLeDiff, Nat.reduceMod, Nat.reduceDiv, Int.reduceLT, Int.reduceLE, Int.reduceToNat, ↓reduceIte, reduceCtorEq, Value.oneCell', Int.reduceAdd, Int.reduceSub, Int.reduceMod, Int.reduceMul, Int.reduceNeg, Int.reduceBEq, Int.reduceBNe, Int.reduceTDiv, Int.reduceTMod, Int.reduceEq, tyB, Try.underlying13, Try.underlying25, Try.underlying26, Try.underlying39, Try.underlying40, Try.underlying72, Try.underlying73, rotlG, okW_tn, nt_tn, bits_xor_tn, bits_and_tn, ↓unK_not, bits_not_tn, fC0, fC1, fC2, fC3, fC4, fD0, fD1, fD2, fD3, fD4, fB0, fB1, fB2, fB3, fB4, fB5, fB6, fB7, fB8, fB9, fB10, fB11, fB12, fB13, fB14, fB15, fB16, fB17, fB18, fB19, fB20, fB21, fB22, fB23, fB24, fE0, fE1, fE2, fE3, fE4, fE5, fE6, fE7, fE8, fE9, fE10, fE11, fE12, fE13, fE14, fE15, fE16, fE17, fE18, fE19, fE20, fE21, fE22, fE23, fE24]
  refine VT_rounds hΓ follows_mixed 6 ?_
  simp -implicitDefEqProofs (maxSteps := 100000000) only [vy_succ, vmB, slim, slimOp, gO, gSO, qSO, quietOp, cS, qSB, eK, calmOp, guardS, gK, qK, putK, plK, dOk, St.ev, St.get, St.mem, St.set, St.setm, St.put, lookA, look, newK, nextver, initT, seqE, blockQ, bodyQ, resK, retV, AV.rdv, agg_uV, ↓binK, ↓intK, unK, ↓loadK, ↓withKey_eq, ↓idxAddrK, ↓indexK, ↓partK, ↓fieldK, ↓fieldAddrK, ↓convK, ↓callK, wrG, updK, ↓lenK, ↓mmK, ↓appK, ↓copyK, ↓sliceK, ↓toArrK, nilK, evs, plains, seqParts, capsOf, capsD, AV.dv, AV.cont, ↓buildV_eq, fillL, placesOf, ↓storeK, wrL, RV.av, DV.av, List.set, Nat.reduceEqDiff, Nat.reduceAdd, Nat.reduceSub, Nat.reduceMul, Nat.reduceLT, Nat.reduceLeDiff, Nat.reduceMod, Nat.reduceDiv, Int.reduceLT, Int.reduceLE, Int.reduceToNat, ↓reduceIte, reduceCtorEq, Value.oneCell', Int.reduceAdd, Int.reduceSub, Int.reduceMod, Int.reduceMul, Int.reduceNeg, Int.reduceBEq, Int.reduceBNe, Int.reduceTDiv, Int.reduceTMod, Int.reduceEq, tyB, Try.underlying13, Try.underlying25, Try.underlying26, Try.underlying39, Try.underlying40, Try.underlying72, Try.underlying73, rotlG, okW_tn, nt_tn, bits_xor_tn, bits_and_tn, ↓unK_not, bits_not_tn, fC0, fC1, fC2, fC3, fC4, fD0, fD1, fD2, fD3, fD4, fB0, fB1, fB2, fB3, fB4, fB5, fB6, fB7, fB8, fB9, fB10, fB11, fB12, fB13, fB14, fB15, fB16, fB17, fB18, fB19, fB20, fB21, fB22, fB23, fB24, fE0, fE1, fE2, fE3, fE4, fE5, fE6, fE7, fE8, fE9, fE10, fE11, fE12, fE13, fE14, fE15, fE16, fE17, fE18, fE19, fE20, fE21, fE22, fE23, fE24]
  refine VT_rounds hΓ follows_mixed 26 ?_
  simp -implicitDefEqProofs (maxSteps := 100000000) only [vy_succ, vmB, slim, slimOp, gO, gSO, qSO, quietOp, cS, qSB, eK, calmOp, guardS, gK, qK, putK, plK, dOk, St.ev, St.get, St.mem, St.set, St.setm, St.put, lookA, look, newK, nextver, initT, seqE, blockQ, bodyQ, resK, retV, AV.rdv, agg_uV, ↓binK, ↓intK, unK, ↓loadK, ↓withKey_eq, ↓idxAddrK, ↓indexK, ↓partK, ↓fieldK, ↓fieldAddrK, ↓convK, ↓callK, wrG, updK, ↓lenK, ↓mmK, ↓appK, ↓copyK, ↓sliceK, ↓toArrK, nilK, evs, plains, seqParts, capsOf, capsD, AV.dv, AV.cont, ↓buildV_eq, fillL, placesOf, ↓storeK, wrL, RV.av, DV.av, List.set, Nat.reduceEqDiff, Nat.reduceAdd, Nat.reduceSub, Nat.reduceMul, Nat.reduceLT, Nat.reduceLeDiff, Nat.reduceMod, Nat.reduceDiv, Int.reduceLT, Int.reduceLE, Int.reduceToNat, ↓reduceIte, reduceCtorEq, Value.oneCell', Int.reduceAdd, Int.reduceSub, Int.reduceMod, Int.reduceMul, Int.reduceNeg, Int.reduceBEq, Int.reduceBNe, Int.reduceTDiv, Int.reduceTMod, Int.reduceEq, tyB, Try.underlying13, Try.underlying25, Try.underlying26, Try.underlying39, Try.underlying40, Try.underlying72, Try.underlying73, rotlG, okW_tn, nt_tn, bits_xor_tn, bits_and_tn, ↓unK_not, bits_not_tn, fC0, fC1, fC2, fC3, fC4, fD0, fD1, fD2, fD3, fD4, fB0, fB1, fB2, fB3, fB4, fB5, fB6, fB7, fB8, fB9, fB10, fB11, fB12, fB13, fB14, fB15, fB16, fB17, fB18, fB19, fB20, fB21, fB22, fB23, fB24, fE0, fE1, fE2, fE3, fE4, fE5, fE6, fE7, fE8, fE9, fE10, fE11, fE12, fE13, fE14, fE15, fE16, fE17, fE18, fE19, fE20, fE21, fE22, fE23, fE24]
  refine VT_rounds hΓ follows_mixed 26 ?_
  simp -implicitDefEqProofs (maxSteps := 100000000) only [vy_succ, vmB, slim, slimOp, gO, gSO, qSO, quietOp, cS, qSB, eK, calmOp, guardS, gK, qK, putK, plK, dOk, St.ev, St.get, St.mem, St.set, St.setm, St.put, lookA, look, newK, nextver, initT, seqE, blockQ, bodyQ, resK, retV, AV.rdv, agg_uV, ↓binK, ↓intK, unK, ↓loadK, ↓withKey_eq, ↓idxAddrK, ↓indexK, ↓partK, ↓fieldK, ↓fieldAddrK, ↓convK, ↓callK, wrG, updK, ↓lenK, ↓mmK, ↓appK, ↓copyK, ↓sliceK, ↓toArrK, nilK, evs, plains, seqParts, capsOf, capsD, AV.dv, AV.cont, ↓buildV_eq, fillL, placesOf, ↓storeK, wrL, RV.av, DV.av, List.set, Nat.reduceEqDiff, Nat.reduceAdd, Nat.reduceSub, Nat.reduceMul, Nat.reduceLT, Nat.reduceLeDiff, Nat.reduceMod, Nat.reduceDiv, Int.reduceLT, Int.reduceLE, Int.reduceToNat, ↓reduceIte, reduceCtorEq, Value.oneCell', Int.reduceAdd, Int.reduceSub, Int.reduceMod, Int.reduceMul, Int.reduceNeg, Int.reduceBEq, Int.reduceBNe, Int.reduceTDiv, Int.reduceTMod, Int.reduceEq, tyB, Try.underlying13, Try.underlying25, Try.underlying26, Try.underlying39, Try.underlying40, Try.underlying72, Try.underlying73, rotlG, okW_tn, nt_tn, bits_xor_tn, bits_and_tn, ↓unK_not, bits_not_tn, fC0, fC1, fC2, fC3, fC4, fD0, fD1, fD2, fD3, fD4, fB0, fB1, fB2, fB3, fB4, fB5, fB6, fB7, fB8, fB9, fB10, fB11, fB12, fB13, fB14, fB15, fB16, fB17, fB18, fB19, fB20, fB21, fB22, fB23, fB24, fE0, fE1, fE2, fE3, fE4, fE5, fE6, fE7, fE8, fE9, fE10, fE11, fE12, fE13, fE14, fE15, fE16, fE17, fE18, fE19, fE20, fE21, fE22, fE23, fE24, rnd_0, rnd_1, rnd_2, rnd_3, rnd_4, rnd_5, rnd_6, rnd_7, rnd_8, rnd_9, rnd_10, rnd_11, rnd_12, rnd_13, rnd_14, rnd_15, rnd_16, rnd_17, rnd_18, rnd_19, rnd_20, rnd_21, rnd_22, rnd_23, rnd_24]

theorem round_ok : ∀ ds r, roundG ds = some r → Spec Try.prog 98 ds r := by
  intro ds r h
  unfold roundG at h
  split at h
  case h_2 => cases h
  rename_i va vb vt c
  split at h
  case h_2 => cases h
  rename_i A hA
  split at h
  case isFalse => cases h
  rename_i hc
  rw [Bool.and_eq_true] at hc
  obtain ⟨ht, hc⟩ := hc
  obtain ⟨rfl, rfl⟩ := isT_out ht
  cases h
  obtain ⟨rfl, hA'⟩ := toK_eq hA
  have := round_walk A (nt c)
  rw [tn_nt hc] at this
  exact this

end Go.Vm

/- The sums' mixing, the document's too. No condition. -/
set_option maxRecDepth 100000
set_option linter.unusedSimpArgs false
set_option linter.unusedVariables false
namespace Go.Vm
open Go Go.RowKit Go.Proofs

noncomputable def rcw : Nat → W64 := Classical.choose (⟨fun (k : Nat) => nt (rcT k), rfl⟩ : ∃ y : Nat → W64, y = fun (k : Nat) => nt (rcT k))
theorem rcw_eq : rcw = fun (k : Nat) => nt (rcT k) := Classical.choose_spec (⟨fun (k : Nat) => nt (rcT k), rfl⟩ : ∃ y : Nat → W64, y = fun (k : Nat) => nt (rcT k))
theorem ntR_0 : nt 1 = rcw 0 := by rw [rcw_eq]; simp only [rcT_0]
theorem okR_0 : okW 1 = true := okW_of (by omega) (by omega)
theorem ntR_1 : nt 32898 = rcw 1 := by rw [rcw_eq]; simp only [rcT_1]
theorem okR_1 : okW 32898 = true := okW_of (by omega) (by omega)
theorem ntR_2 : nt 9223372036854808714 = rcw 2 := by rw [rcw_eq]; simp only [rcT_2]
theorem okR_2 : okW 9223372036854808714 = true := okW_of (by omega) (by omega)
theorem ntR_3 : nt 9223372039002292224 = rcw 3 := by rw [rcw_eq]; simp only [rcT_3]
theorem okR_3 : okW 9223372039002292224 = true := okW_of (by omega) (by omega)
theorem ntR_4 : nt 32907 = rcw 4 := by rw [rcw_eq]; simp only [rcT_4]
theorem okR_4 : okW 32907 = true := okW_of (by omega) (by omega)
theorem ntR_5 : nt 2147483649 = rcw 5 := by rw [rcw_eq]; simp only [rcT_5]
theorem okR_5 : okW 2147483649 = true := okW_of (by omega) (by omega)
theorem ntR_6 : nt 9223372039002292353 = rcw 6 := by rw [rcw_eq]; simp only [rcT_6]
theorem okR_6 : okW 9223372039002292353 = true := okW_of (by omega) (by omega)
theorem ntR_7 : nt 9223372036854808585 = rcw 7 := by rw [rcw_eq]; simp only [rcT_7]
theorem okR_7 : okW 9223372036854808585 = true := okW_of (by omega) (by omega)
theorem ntR_8 : nt 138 = rcw 8 := by rw [rcw_eq]; simp only [rcT_8]
theorem okR_8 : okW 138 = true := okW_of (by omega) (by omega)
theorem ntR_9 : nt 136 = rcw 9 := by rw [rcw_eq]; simp only [rcT_9]
theorem okR_9 : okW 136 = true := okW_of (by omega) (by omega)
theorem ntR_10 : nt 2147516425 = rcw 10 := by rw [rcw_eq]; simp only [rcT_10]
theorem okR_10 : okW 2147516425 = true := okW_of (by omega) (by omega)
theorem ntR_11 : nt 2147483658 = rcw 11 := by rw [rcw_eq]; simp only [rcT_11]
theorem okR_11 : okW 2147483658 = true := okW_of (by omega) (by omega)
theorem ntR_12 : nt 2147516555 = rcw 12 := by rw [rcw_eq]; simp only [rcT_12]
theorem okR_12 : okW 2147516555 = true := okW_of (by omega) (by omega)
theorem ntR_13 : nt 9223372036854775947 = rcw 13 := by rw [rcw_eq]; simp only [rcT_13]
theorem okR_13 : okW 9223372036854775947 = true := okW_of (by omega) (by omega)
theorem ntR_14 : nt 9223372036854808713 = rcw 14 := by rw [rcw_eq]; simp only [rcT_14]
theorem okR_14 : okW 9223372036854808713 = true := okW_of (by omega) (by omega)
theorem ntR_15 : nt 9223372036854808579 = rcw 15 := by rw [rcw_eq]; simp only [rcT_15]
theorem okR_15 : okW 9223372036854808579 = true := okW_of (by omega) (by omega)
theorem ntR_16 : nt 9223372036854808578 = rcw 16 := by rw [rcw_eq]; simp only [rcT_16]
theorem okR_16 : okW 9223372036854808578 = true := okW_of (by omega) (by omega)
theorem ntR_17 : nt 9223372036854775936 = rcw 17 := by rw [rcw_eq]; simp only [rcT_17]
theorem okR_17 : okW 9223372036854775936 = true := okW_of (by omega) (by omega)
theorem ntR_18 : nt 32778 = rcw 18 := by rw [rcw_eq]; simp only [rcT_18]
theorem okR_18 : okW 32778 = true := okW_of (by omega) (by omega)
theorem ntR_19 : nt 9223372039002259466 = rcw 19 := by rw [rcw_eq]; simp only [rcT_19]
theorem okR_19 : okW 9223372039002259466 = true := okW_of (by omega) (by omega)
theorem ntR_20 : nt 9223372039002292353 = rcw 20 := by rw [rcw_eq]; simp only [rcT_20]
theorem okR_20 : okW 9223372039002292353 = true := okW_of (by omega) (by omega)
theorem ntR_21 : nt 9223372036854808704 = rcw 21 := by rw [rcw_eq]; simp only [rcT_21]
theorem okR_21 : okW 9223372036854808704 = true := okW_of (by omega) (by omega)
theorem ntR_22 : nt 2147483649 = rcw 22 := by rw [rcw_eq]; simp only [rcT_22]
theorem okR_22 : okW 2147483649 = true := okW_of (by omega) (by omega)
theorem ntR_23 : nt 9223372039002292232 = rcw 23 := by rw [rcw_eq]; simp only [rcT_23]
theorem okR_23 : okW 9223372039002292232 = true := okW_of (by omega) (by omega)
noncomputable def mixN0 : Nat → K25 → K25
  | 0, A => A
  | k + 1, A => rnd (mixN0 k A) (rcw k)
noncomputable def mixN : Nat → K25 → K25 := Classical.choose (⟨mixN0, rfl⟩ : ∃ y : Nat → K25 → K25, y = mixN0)
theorem mixN_eq : mixN = mixN0 := Classical.choose_spec (⟨mixN0, rfl⟩ : ∃ y : Nat → K25 → K25, y = mixN0)
theorem mixN_0 (A : K25) : mixN 0 A = A := by rw [mixN_eq]; rfl
theorem mixN_succ (k : Nat) (A : K25) : rnd (mixN k A) (rcw k) = mixN (k + 1) A := by rw [mixN_eq]; rfl
theorem mixN_1 (A : K25) : rnd A (rcw 0) = mixN 1 A := by rw [← mixN_succ, mixN_0]
theorem mixN_cut (k : Nat) (A : K25) : mixN (k + 1) (cut A) = mixN (k + 1) A := by
  induction k with
  | zero => rw [← mixN_succ, ← mixN_succ, mixN_0, mixN_0, rnd_cut]
  | succ k ih => rw [← mixN_succ, ih, mixN_succ]
theorem foldM (k : Nat) (A : K25) : Value.agg #[.int .u64 (tn (mixN k A 0)), .int .u64 (tn (mixN k A 1)), .int .u64 (tn (mixN k A 2)), .int .u64 (tn (mixN k A 3)), .int .u64 (tn (mixN k A 4)), .int .u64 (tn (mixN k A 5)), .int .u64 (tn (mixN k A 6)), .int .u64 (tn (mixN k A 7)), .int .u64 (tn (mixN k A 8)), .int .u64 (tn (mixN k A 9)), .int .u64 (tn (mixN k A 10)), .int .u64 (tn (mixN k A 11)), .int .u64 (tn (mixN k A 12)), .int .u64 (tn (mixN k A 13)), .int .u64 (tn (mixN k A 14)), .int .u64 (tn (mixN k A 15)), .int .u64 (tn (mixN k A 16)), .int .u64 (tn (mixN k A 17)), .int .u64 (tn (mixN k A 18)), .int .u64 (tn (mixN k A 19)), .int .u64 (tn (mixN k A 20)), .int .u64 (tn (mixN k A 21)), .int .u64 (tn (mixN k A 22)), .int .u64 (tn (mixN k A 23)), .int .u64 (tn (mixN k A 24))] = kV (mixN k A) := rfl
theorem stR_0 (A : K25) : rnd A (nt 1) = mixN 1 A := by rw [ntR_0, mixN_1]
theorem stR_1 (A : K25) : rnd (mixN 1 A) (nt 32898) = mixN 2 A := by rw [ntR_1, mixN_succ]
theorem stR_2 (A : K25) : rnd (mixN 2 A) (nt 9223372036854808714) = mixN 3 A := by rw [ntR_2, mixN_succ]
theorem stR_3 (A : K25) : rnd (mixN 3 A) (nt 9223372039002292224) = mixN 4 A := by rw [ntR_3, mixN_succ]
theorem stR_4 (A : K25) : rnd (mixN 4 A) (nt 32907) = mixN 5 A := by rw [ntR_4, mixN_succ]
theorem stR_5 (A : K25) : rnd (mixN 5 A) (nt 2147483649) = mixN 6 A := by rw [ntR_5, mixN_succ]
theorem stR_6 (A : K25) : rnd (mixN 6 A) (nt 9223372039002292353) = mixN 7 A := by rw [ntR_6, mixN_succ]
theorem stR_7 (A : K25) : rnd (mixN 7 A) (nt 9223372036854808585) = mixN 8 A := by rw [ntR_7, mixN_succ]
theorem stR_8 (A : K25) : rnd (mixN 8 A) (nt 138) = mixN 9 A := by rw [ntR_8, mixN_succ]
theorem stR_9 (A : K25) : rnd (mixN 9 A) (nt 136) = mixN 10 A := by rw [ntR_9, mixN_succ]
theorem stR_10 (A : K25) : rnd (mixN 10 A) (nt 2147516425) = mixN 11 A := by rw [ntR_10, mixN_succ]
theorem stR_11 (A : K25) : rnd (mixN 11 A) (nt 2147483658) = mixN 12 A := by rw [ntR_11, mixN_succ]
theorem stR_12 (A : K25) : rnd (mixN 12 A) (nt 2147516555) = mixN 13 A := by rw [ntR_12, mixN_succ]
theorem stR_13 (A : K25) : rnd (mixN 13 A) (nt 9223372036854775947) = mixN 14 A := by rw [ntR_13, mixN_succ]
theorem stR_14 (A : K25) : rnd (mixN 14 A) (nt 9223372036854808713) = mixN 15 A := by rw [ntR_14, mixN_succ]
theorem stR_15 (A : K25) : rnd (mixN 15 A) (nt 9223372036854808579) = mixN 16 A := by rw [ntR_15, mixN_succ]
theorem stR_16 (A : K25) : rnd (mixN 16 A) (nt 9223372036854808578) = mixN 17 A := by rw [ntR_16, mixN_succ]
theorem stR_17 (A : K25) : rnd (mixN 17 A) (nt 9223372036854775936) = mixN 18 A := by rw [ntR_17, mixN_succ]
theorem stR_18 (A : K25) : rnd (mixN 18 A) (nt 32778) = mixN 19 A := by rw [ntR_18, mixN_succ]
theorem stR_19 (A : K25) : rnd (mixN 19 A) (nt 9223372039002259466) = mixN 20 A := by rw [ntR_19, mixN_succ]
theorem stR_20 (A : K25) : rnd (mixN 20 A) (nt 9223372039002292353) = mixN 21 A := by rw [ntR_20, mixN_succ]
theorem stR_21 (A : K25) : rnd (mixN 21 A) (nt 9223372036854808704) = mixN 22 A := by rw [ntR_21, mixN_succ]
theorem stR_22 (A : K25) : rnd (mixN 22 A) (nt 2147483649) = mixN 23 A := by rw [ntR_22, mixN_succ]
theorem stR_23 (A : K25) : rnd (mixN 23 A) (nt 9223372039002292232) = mixN 24 A := by rw [ntR_23, mixN_succ]

/-! ### The document's -/
noncomputable def turnG : List DV → Option RV
  | [.pl (.int .i64 x), .pl (.int .i64 y)] => if 0 ≤ x ∧ x < 5 ∧ 0 ≤ y ∧ y < 5 then some (.one (.pl (.int .i64 (byT (x.toNat + 5 * y.toNat) : Nat)))) else none
  | _ => none

set_option maxHeartbeats 400000000 in
theorem turn_ok : ∀ ds r, turnG ds = some r → Spec Try.prog 103 ds r := by
  intro ds r h
  unfold turnG at h
  split at h
  case h_2 => cases h
  rename_i x y
  split at h
  case isFalse => cases h
  rename_i hc
  cases h
  have hΓ : Env.ok [] Try.prog := ok_nil _
  have hx : x = 0 ∨ x = 1 ∨ x = 2 ∨ x = 3 ∨ x = 4 := by omega
  have hy : y = 0 ∨ y = 1 ∨ y = 2 ∨ y = 3 ∨ y = 4 := by omega
  clear hc
  rcases hx with rfl | rfl | rfl | rfl | rfl <;> rcases hy with rfl | rfl | rfl | rfl | rfl
  all_goals
    refine Spec.of_vx hΓ follows_mixed Try.func103 rfl (by kernel_rfl) (T := []) (by simp [Try.ntmps103]) (by kernel_rfl) rfl Try.ntmps103 (res := [.tmp 4]) rfl ?_
    intro W
    simp -implicitDefEqProofs (maxSteps := 100000000) only [vy_succ, vmB, slim, slimOp, gO, gSO, qSO, quietOp, cS, qSB, eK, calmOp, guardS, gK, qK, putK, plK, dOk, St.ev, St.get, St.mem, St.set, St.setm, St.put, lookA, look, newK, nextver, initT, seqE, blockQ, bodyQ, resK, retV, AV.rdv, agg_uV, ↓binK, ↓intK, unK, ↓loadK, ↓withKey_eq, ↓idxAddrK, ↓indexK, ↓partK, ↓fieldK, ↓fieldAddrK, ↓convK, ↓callK, wrG, updK, ↓lenK, ↓mmK, ↓appK, ↓copyK, ↓sliceK, ↓toArrK, nilK, evs, plains, seqParts, capsOf, capsD, AV.dv, AV.cont, ↓buildV_eq, fillL, placesOf, ↓storeK, wrL, RV.av, DV.av, List.set, Nat.reduceEqDiff, Nat.reduceAdd, Nat.reduceSub, Nat.reduceMul, Nat.reduceLT, Nat.reduceLeDiff, Nat.reduceMod, Nat.reduceDiv, Int.reduceLT, Int.reduceLE, Int.reduceToNat, ↓reduceIte, reduceCtorEq, Value.oneCell', Int.reduceAdd, Int.reduceSub, Int.reduceMod, Int.reduceMul, Int.reduceNeg, Int.reduceBEq, Int.reduceBNe, Int.reduceTDiv, Int.reduceTMod, Int.reduceEq, tyB, Try.underlying13, Try.underlying25, Try.underlying26, Try.underlying39, Try.underlying40, Try.underlying72, Try.underlying73]
    refine VT_rounds hΓ follows_mixed 25 ?_
    simp -implicitDefEqProofs (maxSteps := 100000000) only [vy_succ, vmB, slim, slimOp, gO, gSO, qSO, quietOp, cS, qSB, eK, calmOp, guardS, gK, qK, putK, plK, dOk, St.ev, St.get, St.mem, St.set, St.setm, St.put, lookA, look, newK, nextver, initT, seqE, blockQ, bodyQ, resK, retV, AV.rdv, agg_uV, ↓binK, ↓intK, unK, ↓loadK, ↓withKey_eq, ↓idxAddrK, ↓indexK, ↓partK, ↓fieldK, ↓fieldAddrK, ↓convK, ↓callK, wrG, updK, ↓lenK, ↓mmK, ↓appK, ↓copyK, ↓sliceK, ↓toArrK, nilK, evs, plains, seqParts, capsOf, capsD, AV.dv, AV.cont, ↓buildV_eq, fillL, placesOf, ↓storeK, wrL, RV.av, DV.av, List.set, Nat.reduceEqDiff, Nat.reduceAdd, Nat.reduceSub, Nat.reduceMul, Nat.reduceLT, Nat.reduceLeDiff, Nat.reduceMod, Nat.reduceDiv, Int.reduceLT, Int.reduceLE, Int.reduceToNat, ↓reduceIte, reduceCtorEq, Value.oneCell', Int.reduceAdd, Int.reduceSub, Int.reduceMod, Int.reduceMul, Int.reduceNeg, Int.reduceBEq, Int.reduceBNe, Int.reduceTDiv, Int.reduceTMod, Int.reduceEq, tyB, Try.underlying13, Try.underlying25, Try.underlying26, Try.underlying39, Try.underlying40, Try.underlying72, Try.underlying73, byT_0, byT_1, byT_2, byT_3, byT_4, byT_5, byT_6, byT_7, byT_8, byT_9, byT_10, byT_11, byT_12, byT_13, byT_14, byT_15, byT_16, byT_17, byT_18, byT_19, byT_20, byT_21, byT_22, byT_23, byT_24, Int.cast_ofNat_Int]

noncomputable def rowL : List Value := Classical.choose (⟨[.int .i64 1, .int .i64 0, .int .i64 0, .int .i64 0, .int .i64 0, .int .i64 0, .int .i64 0, .int .i64 0, .int .i64 1, .int .i64 0, .int .i64 1, .int .i64 1, .int .i64 0, .int .i64 0, .int .i64 0, .int .i64 1, .int .i64 1, .int .i64 1, .int .i64 1, .int .i64 0, .int .i64 1, .int .i64 0, .int .i64 0, .int .i64 0, .int .i64 0, .int .i64 1, .int .i64 1, .int .i64 1, .int .i64 1, .int .i64 1, .int .i64 1, .int .i64 1, .int .i64 1, .int .i64 0, .int .i64 0, .int .i64 1, .int .i64 0, .int .i64 0, .int .i64 0, .int .i64 0, .int .i64 1, .int .i64 0, .int .i64 1, .int .i64 0, .int .i64 0, .int .i64 1, .int .i64 1, .int .i64 1, .int .i64 1, .int .i64 1, .int .i64 0, .int .i64 1, .int .i64 0, .int .i64 1, .int .i64 0, .int .i64 1, .int .i64 0, .int .i64 1, .int .i64 1, .int .i64 1, .int .i64 0, .int .i64 0, .int .i64 0, .int .i64 0, .int .i64 0, .int .i64 1, .int .i64 1, .int .i64 0, .int .i64 0, .int .i64 0, .int .i64 1, .int .i64 0, .int .i64 1, .int .i64 0, .int .i64 1, .int .i64 1, .int .i64 0, .int .i64 0, .int .i64 1, .int .i64 1, .int .i64 0, .int .i64 0, .int .i64 1, .int .i64 0, .int .i64 1, .int .i64 1, .int .i64 1, .int .i64 1, .int .i64 1, .int .i64 1, .int .i64 0, .int .i64 1, .int .i64 1, .int .i64 1, .int .i64 1, .int .i64 0, .int .i64 0, .int .i64 1, .int .i64 1, .int .i64 0, .int .i64 1, .int .i64 1, .int .i64 1, .int .i64 0, .int .i64 1, .int .i64 1, .int .i64 1, .int .i64 0, .int .i64 0, .int .i64 1, .int .i64 0, .int .i64 1, .int .i64 0, .int .i64 1, .int .i64 0, .int .i64 0, .int .i64 1, .int .i64 0, .int .i64 1, .int .i64 0, .int .i64 0, .int .i64 0, .int .i64 1, .int .i64 0, .int .i64 0, .int .i64 1, .int .i64 0, .int .i64 1, .int .i64 1, .int .i64 0, .int .i64 1, .int .i64 0, .int .i64 0, .int .i64 0, .int .i64 1, .int .i64 1, .int .i64 0, .int .i64 0, .int .i64 1, .int .i64 1, .int .i64 1, .int .i64 0, .int .i64 0, .int .i64 1, .int .i64 1, .int .i64 1, .int .i64 1, .int .i64 0, .int .i64 0, .int .i64 0, .int .i64 1, .int .i64 1, .int .i64 0, .int .i64 1, .int .i64 1, .int .i64 0, .int .i64 0, .int .i64 0, .int .i64 0, .int .i64 1, .int .i64 0, .int .i64 0, .int .i64 0, .int .i64 1, .int .i64 0, .int .i64 1, .int .i64 1, .int .i64 1], rfl⟩ : ∃ y : List Value, y = [.int .i64 1, .int .i64 0, .int .i64 0, .int .i64 0, .int .i64 0, .int .i64 0, .int .i64 0, .int .i64 0, .int .i64 1, .int .i64 0, .int .i64 1, .int .i64 1, .int .i64 0, .int .i64 0, .int .i64 0, .int .i64 1, .int .i64 1, .int .i64 1, .int .i64 1, .int .i64 0, .int .i64 1, .int .i64 0, .int .i64 0, .int .i64 0, .int .i64 0, .int .i64 1, .int .i64 1, .int .i64 1, .int .i64 1, .int .i64 1, .int .i64 1, .int .i64 1, .int .i64 1, .int .i64 0, .int .i64 0, .int .i64 1, .int .i64 0, .int .i64 0, .int .i64 0, .int .i64 0, .int .i64 1, .int .i64 0, .int .i64 1, .int .i64 0, .int .i64 0, .int .i64 1, .int .i64 1, .int .i64 1, .int .i64 1, .int .i64 1, .int .i64 0, .int .i64 1, .int .i64 0, .int .i64 1, .int .i64 0, .int .i64 1, .int .i64 0, .int .i64 1, .int .i64 1, .int .i64 1, .int .i64 0, .int .i64 0, .int .i64 0, .int .i64 0, .int .i64 0, .int .i64 1, .int .i64 1, .int .i64 0, .int .i64 0, .int .i64 0, .int .i64 1, .int .i64 0, .int .i64 1, .int .i64 0, .int .i64 1, .int .i64 1, .int .i64 0, .int .i64 0, .int .i64 1, .int .i64 1, .int .i64 0, .int .i64 0, .int .i64 1, .int .i64 0, .int .i64 1, .int .i64 1, .int .i64 1, .int .i64 1, .int .i64 1, .int .i64 1, .int .i64 0, .int .i64 1, .int .i64 1, .int .i64 1, .int .i64 1, .int .i64 0, .int .i64 0, .int .i64 1, .int .i64 1, .int .i64 0, .int .i64 1, .int .i64 1, .int .i64 1, .int .i64 0, .int .i64 1, .int .i64 1, .int .i64 1, .int .i64 0, .int .i64 0, .int .i64 1, .int .i64 0, .int .i64 1, .int .i64 0, .int .i64 1, .int .i64 0, .int .i64 0, .int .i64 1, .int .i64 0, .int .i64 1, .int .i64 0, .int .i64 0, .int .i64 0, .int .i64 1, .int .i64 0, .int .i64 0, .int .i64 1, .int .i64 0, .int .i64 1, .int .i64 1, .int .i64 0, .int .i64 1, .int .i64 0, .int .i64 0, .int .i64 0, .int .i64 1, .int .i64 1, .int .i64 0, .int .i64 0, .int .i64 1, .int .i64 1, .int .i64 1, .int .i64 0, .int .i64 0, .int .i64 1, .int .i64 1, .int .i64 1, .int .i64 1, .int .i64 0, .int .i64 0, .int .i64 0, .int .i64 1, .int .i64 1, .int .i64 0, .int .i64 1, .int .i64 1, .int .i64 0, .int .i64 0, .int .i64 0, .int .i64 0, .int .i64 1, .int .i64 0, .int .i64 0, .int .i64 0, .int .i64 1, .int .i64 0, .int .i64 1, .int .i64 1, .int .i64 1])
theorem rowL_eq : rowL = [.int .i64 1, .int .i64 0, .int .i64 0, .int .i64 0, .int .i64 0, .int .i64 0, .int .i64 0, .int .i64 0, .int .i64 1, .int .i64 0, .int .i64 1, .int .i64 1, .int .i64 0, .int .i64 0, .int .i64 0, .int .i64 1, .int .i64 1, .int .i64 1, .int .i64 1, .int .i64 0, .int .i64 1, .int .i64 0, .int .i64 0, .int .i64 0, .int .i64 0, .int .i64 1, .int .i64 1, .int .i64 1, .int .i64 1, .int .i64 1, .int .i64 1, .int .i64 1, .int .i64 1, .int .i64 0, .int .i64 0, .int .i64 1, .int .i64 0, .int .i64 0, .int .i64 0, .int .i64 0, .int .i64 1, .int .i64 0, .int .i64 1, .int .i64 0, .int .i64 0, .int .i64 1, .int .i64 1, .int .i64 1, .int .i64 1, .int .i64 1, .int .i64 0, .int .i64 1, .int .i64 0, .int .i64 1, .int .i64 0, .int .i64 1, .int .i64 0, .int .i64 1, .int .i64 1, .int .i64 1, .int .i64 0, .int .i64 0, .int .i64 0, .int .i64 0, .int .i64 0, .int .i64 1, .int .i64 1, .int .i64 0, .int .i64 0, .int .i64 0, .int .i64 1, .int .i64 0, .int .i64 1, .int .i64 0, .int .i64 1, .int .i64 1, .int .i64 0, .int .i64 0, .int .i64 1, .int .i64 1, .int .i64 0, .int .i64 0, .int .i64 1, .int .i64 0, .int .i64 1, .int .i64 1, .int .i64 1, .int .i64 1, .int .i64 1, .int .i64 1, .int .i64 0, .int .i64 1, .int .i64 1, .int .i64 1, .int .i64 1, .int .i64 0, .int .i64 0, .int .i64 1, .int .i64 1, .int .i64 0, .int .i64 1, .int .i64 1, .int .i64 1, .int .i64 0, .int .i64 1, .int .i64 1, .int .i64 1, .int .i64 0, .int .i64 0, .int .i64 1, .int .i64 0, .int .i64 1, .int .i64 0, .int .i64 1, .int .i64 0, .int .i64 0, .int .i64 1, .int .i64 0, .int .i64 1, .int .i64 0, .int .i64 0, .int .i64 0, .int .i64 1, .int .i64 0, .int .i64 0, .int .i64 1, .int .i64 0, .int .i64 1, .int .i64 1, .int .i64 0, .int .i64 1, .int .i64 0, .int .i64 0, .int .i64 0, .int .i64 1, .int .i64 1, .int .i64 0, .int .i64 0, .int .i64 1, .int .i64 1, .int .i64 1, .int .i64 0, .int .i64 0, .int .i64 1, .int .i64 1, .int .i64 1, .int .i64 1, .int .i64 0, .int .i64 0, .int .i64 0, .int .i64 1, .int .i64 1, .int .i64 0, .int .i64 1, .int .i64 1, .int .i64 0, .int .i64 0, .int .i64 0, .int .i64 0, .int .i64 1, .int .i64 0, .int .i64 0, .int .i64 0, .int .i64 1, .int .i64 0, .int .i64 1, .int .i64 1, .int .i64 1] := Classical.choose_spec (⟨[.int .i64 1, .int .i64 0, .int .i64 0, .int .i64 0, .int .i64 0, .int .i64 0, .int .i64 0, .int .i64 0, .int .i64 1, .int .i64 0, .int .i64 1, .int .i64 1, .int .i64 0, .int .i64 0, .int .i64 0, .int .i64 1, .int .i64 1, .int .i64 1, .int .i64 1, .int .i64 0, .int .i64 1, .int .i64 0, .int .i64 0, .int .i64 0, .int .i64 0, .int .i64 1, .int .i64 1, .int .i64 1, .int .i64 1, .int .i64 1, .int .i64 1, .int .i64 1, .int .i64 1, .int .i64 0, .int .i64 0, .int .i64 1, .int .i64 0, .int .i64 0, .int .i64 0, .int .i64 0, .int .i64 1, .int .i64 0, .int .i64 1, .int .i64 0, .int .i64 0, .int .i64 1, .int .i64 1, .int .i64 1, .int .i64 1, .int .i64 1, .int .i64 0, .int .i64 1, .int .i64 0, .int .i64 1, .int .i64 0, .int .i64 1, .int .i64 0, .int .i64 1, .int .i64 1, .int .i64 1, .int .i64 0, .int .i64 0, .int .i64 0, .int .i64 0, .int .i64 0, .int .i64 1, .int .i64 1, .int .i64 0, .int .i64 0, .int .i64 0, .int .i64 1, .int .i64 0, .int .i64 1, .int .i64 0, .int .i64 1, .int .i64 1, .int .i64 0, .int .i64 0, .int .i64 1, .int .i64 1, .int .i64 0, .int .i64 0, .int .i64 1, .int .i64 0, .int .i64 1, .int .i64 1, .int .i64 1, .int .i64 1, .int .i64 1, .int .i64 1, .int .i64 0, .int .i64 1, .int .i64 1, .int .i64 1, .int .i64 1, .int .i64 0, .int .i64 0, .int .i64 1, .int .i64 1, .int .i64 0, .int .i64 1, .int .i64 1, .int .i64 1, .int .i64 0, .int .i64 1, .int .i64 1, .int .i64 1, .int .i64 0, .int .i64 0, .int .i64 1, .int .i64 0, .int .i64 1, .int .i64 0, .int .i64 1, .int .i64 0, .int .i64 0, .int .i64 1, .int .i64 0, .int .i64 1, .int .i64 0, .int .i64 0, .int .i64 0, .int .i64 1, .int .i64 0, .int .i64 0, .int .i64 1, .int .i64 0, .int .i64 1, .int .i64 1, .int .i64 0, .int .i64 1, .int .i64 0, .int .i64 0, .int .i64 0, .int .i64 1, .int .i64 1, .int .i64 0, .int .i64 0, .int .i64 1, .int .i64 1, .int .i64 1, .int .i64 0, .int .i64 0, .int .i64 1, .int .i64 1, .int .i64 1, .int .i64 1, .int .i64 0, .int .i64 0, .int .i64 0, .int .i64 1, .int .i64 1, .int .i64 0, .int .i64 1, .int .i64 1, .int .i64 0, .int .i64 0, .int .i64 0, .int .i64 0, .int .i64 1, .int .i64 0, .int .i64 0, .int .i64 0, .int .i64 1, .int .i64 0, .int .i64 1, .int .i64 1, .int .i64 1], rfl⟩ : ∃ y : List Value, y = [.int .i64 1, .int .i64 0, .int .i64 0, .int .i64 0, .int .i64 0, .int .i64 0, .int .i64 0, .int .i64 0, .int .i64 1, .int .i64 0, .int .i64 1, .int .i64 1, .int .i64 0, .int .i64 0, .int .i64 0, .int .i64 1, .int .i64 1, .int .i64 1, .int .i64 1, .int .i64 0, .int .i64 1, .int .i64 0, .int .i64 0, .int .i64 0, .int .i64 0, .int .i64 1, .int .i64 1, .int .i64 1, .int .i64 1, .int .i64 1, .int .i64 1, .int .i64 1, .int .i64 1, .int .i64 0, .int .i64 0, .int .i64 1, .int .i64 0, .int .i64 0, .int .i64 0, .int .i64 0, .int .i64 1, .int .i64 0, .int .i64 1, .int .i64 0, .int .i64 0, .int .i64 1, .int .i64 1, .int .i64 1, .int .i64 1, .int .i64 1, .int .i64 0, .int .i64 1, .int .i64 0, .int .i64 1, .int .i64 0, .int .i64 1, .int .i64 0, .int .i64 1, .int .i64 1, .int .i64 1, .int .i64 0, .int .i64 0, .int .i64 0, .int .i64 0, .int .i64 0, .int .i64 1, .int .i64 1, .int .i64 0, .int .i64 0, .int .i64 0, .int .i64 1, .int .i64 0, .int .i64 1, .int .i64 0, .int .i64 1, .int .i64 1, .int .i64 0, .int .i64 0, .int .i64 1, .int .i64 1, .int .i64 0, .int .i64 0, .int .i64 1, .int .i64 0, .int .i64 1, .int .i64 1, .int .i64 1, .int .i64 1, .int .i64 1, .int .i64 1, .int .i64 0, .int .i64 1, .int .i64 1, .int .i64 1, .int .i64 1, .int .i64 0, .int .i64 0, .int .i64 1, .int .i64 1, .int .i64 0, .int .i64 1, .int .i64 1, .int .i64 1, .int .i64 0, .int .i64 1, .int .i64 1, .int .i64 1, .int .i64 0, .int .i64 0, .int .i64 1, .int .i64 0, .int .i64 1, .int .i64 0, .int .i64 1, .int .i64 0, .int .i64 0, .int .i64 1, .int .i64 0, .int .i64 1, .int .i64 0, .int .i64 0, .int .i64 0, .int .i64 1, .int .i64 0, .int .i64 0, .int .i64 1, .int .i64 0, .int .i64 1, .int .i64 1, .int .i64 0, .int .i64 1, .int .i64 0, .int .i64 0, .int .i64 0, .int .i64 1, .int .i64 1, .int .i64 0, .int .i64 0, .int .i64 1, .int .i64 1, .int .i64 1, .int .i64 0, .int .i64 0, .int .i64 1, .int .i64 1, .int .i64 1, .int .i64 1, .int .i64 0, .int .i64 0, .int .i64 0, .int .i64 1, .int .i64 1, .int .i64 0, .int .i64 1, .int .i64 1, .int .i64 0, .int .i64 0, .int .i64 0, .int .i64 0, .int .i64 1, .int .i64 0, .int .i64 0, .int .i64 0, .int .i64 1, .int .i64 0, .int .i64 1, .int .i64 1, .int .i64 1])
theorem rowL_len : rowL.length = 168 := by rw [rowL_eq]; rfl
theorem rowL_0 : rowL[0]? = some (.int .i64 1) := by rw [rowL_eq]; rfl
theorem rowL_1 : rowL[1]? = some (.int .i64 0) := by rw [rowL_eq]; rfl
theorem rowL_2 : rowL[2]? = some (.int .i64 0) := by rw [rowL_eq]; rfl
theorem rowL_3 : rowL[3]? = some (.int .i64 0) := by rw [rowL_eq]; rfl
theorem rowL_4 : rowL[4]? = some (.int .i64 0) := by rw [rowL_eq]; rfl
theorem rowL_5 : rowL[5]? = some (.int .i64 0) := by rw [rowL_eq]; rfl
theorem rowL_6 : rowL[6]? = some (.int .i64 0) := by rw [rowL_eq]; rfl
theorem rowL_7 : rowL[7]? = some (.int .i64 0) := by rw [rowL_eq]; rfl
theorem rowL_8 : rowL[8]? = some (.int .i64 1) := by rw [rowL_eq]; rfl
theorem rowL_9 : rowL[9]? = some (.int .i64 0) := by rw [rowL_eq]; rfl
theorem rowL_10 : rowL[10]? = some (.int .i64 1) := by rw [rowL_eq]; rfl
theorem rowL_11 : rowL[11]? = some (.int .i64 1) := by rw [rowL_eq]; rfl
theorem rowL_12 : rowL[12]? = some (.int .i64 0) := by rw [rowL_eq]; rfl
theorem rowL_13 : rowL[13]? = some (.int .i64 0) := by rw [rowL_eq]; rfl
theorem rowL_14 : rowL[14]? = some (.int .i64 0) := by rw [rowL_eq]; rfl
theorem rowL_15 : rowL[15]? = some (.int .i64 1) := by rw [rowL_eq]; rfl
theorem rowL_16 : rowL[16]? = some (.int .i64 1) := by rw [rowL_eq]; rfl
theorem rowL_17 : rowL[17]? = some (.int .i64 1) := by rw [rowL_eq]; rfl
theorem rowL_18 : rowL[18]? = some (.int .i64 1) := by rw [rowL_eq]; rfl
theorem rowL_19 : rowL[19]? = some (.int .i64 0) := by rw [rowL_eq]; rfl
theorem rowL_20 : rowL[20]? = some (.int .i64 1) := by rw [rowL_eq]; rfl
theorem rowL_21 : rowL[21]? = some (.int .i64 0) := by rw [rowL_eq]; rfl
theorem rowL_22 : rowL[22]? = some (.int .i64 0) := by rw [rowL_eq]; rfl
theorem rowL_23 : rowL[23]? = some (.int .i64 0) := by rw [rowL_eq]; rfl
theorem rowL_24 : rowL[24]? = some (.int .i64 0) := by rw [rowL_eq]; rfl
theorem rowL_25 : rowL[25]? = some (.int .i64 1) := by rw [rowL_eq]; rfl
theorem rowL_26 : rowL[26]? = some (.int .i64 1) := by rw [rowL_eq]; rfl
theorem rowL_27 : rowL[27]? = some (.int .i64 1) := by rw [rowL_eq]; rfl
theorem rowL_28 : rowL[28]? = some (.int .i64 1) := by rw [rowL_eq]; rfl
theorem rowL_29 : rowL[29]? = some (.int .i64 1) := by rw [rowL_eq]; rfl
theorem rowL_30 : rowL[30]? = some (.int .i64 1) := by rw [rowL_eq]; rfl
theorem rowL_31 : rowL[31]? = some (.int .i64 1) := by rw [rowL_eq]; rfl
theorem rowL_32 : rowL[32]? = some (.int .i64 1) := by rw [rowL_eq]; rfl
theorem rowL_33 : rowL[33]? = some (.int .i64 0) := by rw [rowL_eq]; rfl
theorem rowL_34 : rowL[34]? = some (.int .i64 0) := by rw [rowL_eq]; rfl
theorem rowL_35 : rowL[35]? = some (.int .i64 1) := by rw [rowL_eq]; rfl
theorem rowL_36 : rowL[36]? = some (.int .i64 0) := by rw [rowL_eq]; rfl
theorem rowL_37 : rowL[37]? = some (.int .i64 0) := by rw [rowL_eq]; rfl
theorem rowL_38 : rowL[38]? = some (.int .i64 0) := by rw [rowL_eq]; rfl
theorem rowL_39 : rowL[39]? = some (.int .i64 0) := by rw [rowL_eq]; rfl
theorem rowL_40 : rowL[40]? = some (.int .i64 1) := by rw [rowL_eq]; rfl
theorem rowL_41 : rowL[41]? = some (.int .i64 0) := by rw [rowL_eq]; rfl
theorem rowL_42 : rowL[42]? = some (.int .i64 1) := by rw [rowL_eq]; rfl
theorem rowL_43 : rowL[43]? = some (.int .i64 0) := by rw [rowL_eq]; rfl
theorem rowL_44 : rowL[44]? = some (.int .i64 0) := by rw [rowL_eq]; rfl
theorem rowL_45 : rowL[45]? = some (.int .i64 1) := by rw [rowL_eq]; rfl
theorem rowL_46 : rowL[46]? = some (.int .i64 1) := by rw [rowL_eq]; rfl
theorem rowL_47 : rowL[47]? = some (.int .i64 1) := by rw [rowL_eq]; rfl
theorem rowL_48 : rowL[48]? = some (.int .i64 1) := by rw [rowL_eq]; rfl
theorem rowL_49 : rowL[49]? = some (.int .i64 1) := by rw [rowL_eq]; rfl
theorem rowL_50 : rowL[50]? = some (.int .i64 0) := by rw [rowL_eq]; rfl
theorem rowL_51 : rowL[51]? = some (.int .i64 1) := by rw [rowL_eq]; rfl
theorem rowL_52 : rowL[52]? = some (.int .i64 0) := by rw [rowL_eq]; rfl
theorem rowL_53 : rowL[53]? = some (.int .i64 1) := by rw [rowL_eq]; rfl
theorem rowL_54 : rowL[54]? = some (.int .i64 0) := by rw [rowL_eq]; rfl
theorem rowL_55 : rowL[55]? = some (.int .i64 1) := by rw [rowL_eq]; rfl
theorem rowL_56 : rowL[56]? = some (.int .i64 0) := by rw [rowL_eq]; rfl
theorem rowL_57 : rowL[57]? = some (.int .i64 1) := by rw [rowL_eq]; rfl
theorem rowL_58 : rowL[58]? = some (.int .i64 1) := by rw [rowL_eq]; rfl
theorem rowL_59 : rowL[59]? = some (.int .i64 1) := by rw [rowL_eq]; rfl
theorem rowL_60 : rowL[60]? = some (.int .i64 0) := by rw [rowL_eq]; rfl
theorem rowL_61 : rowL[61]? = some (.int .i64 0) := by rw [rowL_eq]; rfl
theorem rowL_62 : rowL[62]? = some (.int .i64 0) := by rw [rowL_eq]; rfl
theorem rowL_63 : rowL[63]? = some (.int .i64 0) := by rw [rowL_eq]; rfl
theorem rowL_64 : rowL[64]? = some (.int .i64 0) := by rw [rowL_eq]; rfl
theorem rowL_65 : rowL[65]? = some (.int .i64 1) := by rw [rowL_eq]; rfl
theorem rowL_66 : rowL[66]? = some (.int .i64 1) := by rw [rowL_eq]; rfl
theorem rowL_67 : rowL[67]? = some (.int .i64 0) := by rw [rowL_eq]; rfl
theorem rowL_68 : rowL[68]? = some (.int .i64 0) := by rw [rowL_eq]; rfl
theorem rowL_69 : rowL[69]? = some (.int .i64 0) := by rw [rowL_eq]; rfl
theorem rowL_70 : rowL[70]? = some (.int .i64 1) := by rw [rowL_eq]; rfl
theorem rowL_71 : rowL[71]? = some (.int .i64 0) := by rw [rowL_eq]; rfl
theorem rowL_72 : rowL[72]? = some (.int .i64 1) := by rw [rowL_eq]; rfl
theorem rowL_73 : rowL[73]? = some (.int .i64 0) := by rw [rowL_eq]; rfl
theorem rowL_74 : rowL[74]? = some (.int .i64 1) := by rw [rowL_eq]; rfl
theorem rowL_75 : rowL[75]? = some (.int .i64 1) := by rw [rowL_eq]; rfl
theorem rowL_76 : rowL[76]? = some (.int .i64 0) := by rw [rowL_eq]; rfl
theorem rowL_77 : rowL[77]? = some (.int .i64 0) := by rw [rowL_eq]; rfl
theorem rowL_78 : rowL[78]? = some (.int .i64 1) := by rw [rowL_eq]; rfl
theorem rowL_79 : rowL[79]? = some (.int .i64 1) := by rw [rowL_eq]; rfl
theorem rowL_80 : rowL[80]? = some (.int .i64 0) := by rw [rowL_eq]; rfl
theorem rowL_81 : rowL[81]? = some (.int .i64 0) := by rw [rowL_eq]; rfl
theorem rowL_82 : rowL[82]? = some (.int .i64 1) := by rw [rowL_eq]; rfl
theorem rowL_83 : rowL[83]? = some (.int .i64 0) := by rw [rowL_eq]; rfl
theorem rowL_84 : rowL[84]? = some (.int .i64 1) := by rw [rowL_eq]; rfl
theorem rowL_85 : rowL[85]? = some (.int .i64 1) := by rw [rowL_eq]; rfl
theorem rowL_86 : rowL[86]? = some (.int .i64 1) := by rw [rowL_eq]; rfl
theorem rowL_87 : rowL[87]? = some (.int .i64 1) := by rw [rowL_eq]; rfl
theorem rowL_88 : rowL[88]? = some (.int .i64 1) := by rw [rowL_eq]; rfl
theorem rowL_89 : rowL[89]? = some (.int .i64 1) := by rw [rowL_eq]; rfl
theorem rowL_90 : rowL[90]? = some (.int .i64 0) := by rw [rowL_eq]; rfl
theorem rowL_91 : rowL[91]? = some (.int .i64 1) := by rw [rowL_eq]; rfl
theorem rowL_92 : rowL[92]? = some (.int .i64 1) := by rw [rowL_eq]; rfl
theorem rowL_93 : rowL[93]? = some (.int .i64 1) := by rw [rowL_eq]; rfl
theorem rowL_94 : rowL[94]? = some (.int .i64 1) := by rw [rowL_eq]; rfl
theorem rowL_95 : rowL[95]? = some (.int .i64 0) := by rw [rowL_eq]; rfl
theorem rowL_96 : rowL[96]? = some (.int .i64 0) := by rw [rowL_eq]; rfl
theorem rowL_97 : rowL[97]? = some (.int .i64 1) := by rw [rowL_eq]; rfl
theorem rowL_98 : rowL[98]? = some (.int .i64 1) := by rw [rowL_eq]; rfl
theorem rowL_99 : rowL[99]? = some (.int .i64 0) := by rw [rowL_eq]; rfl
theorem rowL_100 : rowL[100]? = some (.int .i64 1) := by rw [rowL_eq]; rfl
theorem rowL_101 : rowL[101]? = some (.int .i64 1) := by rw [rowL_eq]; rfl
theorem rowL_102 : rowL[102]? = some (.int .i64 1) := by rw [rowL_eq]; rfl
theorem rowL_103 : rowL[103]? = some (.int .i64 0) := by rw [rowL_eq]; rfl
theorem rowL_104 : rowL[104]? = some (.int .i64 1) := by rw [rowL_eq]; rfl
theorem rowL_105 : rowL[105]? = some (.int .i64 1) := by rw [rowL_eq]; rfl
theorem rowL_106 : rowL[106]? = some (.int .i64 1) := by rw [rowL_eq]; rfl
theorem rowL_107 : rowL[107]? = some (.int .i64 0) := by rw [rowL_eq]; rfl
theorem rowL_108 : rowL[108]? = some (.int .i64 0) := by rw [rowL_eq]; rfl
theorem rowL_109 : rowL[109]? = some (.int .i64 1) := by rw [rowL_eq]; rfl
theorem rowL_110 : rowL[110]? = some (.int .i64 0) := by rw [rowL_eq]; rfl
theorem rowL_111 : rowL[111]? = some (.int .i64 1) := by rw [rowL_eq]; rfl
theorem rowL_112 : rowL[112]? = some (.int .i64 0) := by rw [rowL_eq]; rfl
theorem rowL_113 : rowL[113]? = some (.int .i64 1) := by rw [rowL_eq]; rfl
theorem rowL_114 : rowL[114]? = some (.int .i64 0) := by rw [rowL_eq]; rfl
theorem rowL_115 : rowL[115]? = some (.int .i64 0) := by rw [rowL_eq]; rfl
theorem rowL_116 : rowL[116]? = some (.int .i64 1) := by rw [rowL_eq]; rfl
theorem rowL_117 : rowL[117]? = some (.int .i64 0) := by rw [rowL_eq]; rfl
theorem rowL_118 : rowL[118]? = some (.int .i64 1) := by rw [rowL_eq]; rfl
theorem rowL_119 : rowL[119]? = some (.int .i64 0) := by rw [rowL_eq]; rfl
theorem rowL_120 : rowL[120]? = some (.int .i64 0) := by rw [rowL_eq]; rfl
theorem rowL_121 : rowL[121]? = some (.int .i64 0) := by rw [rowL_eq]; rfl
theorem rowL_122 : rowL[122]? = some (.int .i64 1) := by rw [rowL_eq]; rfl
theorem rowL_123 : rowL[123]? = some (.int .i64 0) := by rw [rowL_eq]; rfl
theorem rowL_124 : rowL[124]? = some (.int .i64 0) := by rw [rowL_eq]; rfl
theorem rowL_125 : rowL[125]? = some (.int .i64 1) := by rw [rowL_eq]; rfl
theorem rowL_126 : rowL[126]? = some (.int .i64 0) := by rw [rowL_eq]; rfl
theorem rowL_127 : rowL[127]? = some (.int .i64 1) := by rw [rowL_eq]; rfl
theorem rowL_128 : rowL[128]? = some (.int .i64 1) := by rw [rowL_eq]; rfl
theorem rowL_129 : rowL[129]? = some (.int .i64 0) := by rw [rowL_eq]; rfl
theorem rowL_130 : rowL[130]? = some (.int .i64 1) := by rw [rowL_eq]; rfl
theorem rowL_131 : rowL[131]? = some (.int .i64 0) := by rw [rowL_eq]; rfl
theorem rowL_132 : rowL[132]? = some (.int .i64 0) := by rw [rowL_eq]; rfl
theorem rowL_133 : rowL[133]? = some (.int .i64 0) := by rw [rowL_eq]; rfl
theorem rowL_134 : rowL[134]? = some (.int .i64 1) := by rw [rowL_eq]; rfl
theorem rowL_135 : rowL[135]? = some (.int .i64 1) := by rw [rowL_eq]; rfl
theorem rowL_136 : rowL[136]? = some (.int .i64 0) := by rw [rowL_eq]; rfl
theorem rowL_137 : rowL[137]? = some (.int .i64 0) := by rw [rowL_eq]; rfl
theorem rowL_138 : rowL[138]? = some (.int .i64 1) := by rw [rowL_eq]; rfl
theorem rowL_139 : rowL[139]? = some (.int .i64 1) := by rw [rowL_eq]; rfl
theorem rowL_140 : rowL[140]? = some (.int .i64 1) := by rw [rowL_eq]; rfl
theorem rowL_141 : rowL[141]? = some (.int .i64 0) := by rw [rowL_eq]; rfl
theorem rowL_142 : rowL[142]? = some (.int .i64 0) := by rw [rowL_eq]; rfl
theorem rowL_143 : rowL[143]? = some (.int .i64 1) := by rw [rowL_eq]; rfl
theorem rowL_144 : rowL[144]? = some (.int .i64 1) := by rw [rowL_eq]; rfl
theorem rowL_145 : rowL[145]? = some (.int .i64 1) := by rw [rowL_eq]; rfl
theorem rowL_146 : rowL[146]? = some (.int .i64 1) := by rw [rowL_eq]; rfl
theorem rowL_147 : rowL[147]? = some (.int .i64 0) := by rw [rowL_eq]; rfl
theorem rowL_148 : rowL[148]? = some (.int .i64 0) := by rw [rowL_eq]; rfl
theorem rowL_149 : rowL[149]? = some (.int .i64 0) := by rw [rowL_eq]; rfl
theorem rowL_150 : rowL[150]? = some (.int .i64 1) := by rw [rowL_eq]; rfl
theorem rowL_151 : rowL[151]? = some (.int .i64 1) := by rw [rowL_eq]; rfl
theorem rowL_152 : rowL[152]? = some (.int .i64 0) := by rw [rowL_eq]; rfl
theorem rowL_153 : rowL[153]? = some (.int .i64 1) := by rw [rowL_eq]; rfl
theorem rowL_154 : rowL[154]? = some (.int .i64 1) := by rw [rowL_eq]; rfl
theorem rowL_155 : rowL[155]? = some (.int .i64 0) := by rw [rowL_eq]; rfl
theorem rowL_156 : rowL[156]? = some (.int .i64 0) := by rw [rowL_eq]; rfl
theorem rowL_157 : rowL[157]? = some (.int .i64 0) := by rw [rowL_eq]; rfl
theorem rowL_158 : rowL[158]? = some (.int .i64 0) := by rw [rowL_eq]; rfl
theorem rowL_159 : rowL[159]? = some (.int .i64 1) := by rw [rowL_eq]; rfl
theorem rowL_160 : rowL[160]? = some (.int .i64 0) := by rw [rowL_eq]; rfl
theorem rowL_161 : rowL[161]? = some (.int .i64 0) := by rw [rowL_eq]; rfl
theorem rowL_162 : rowL[162]? = some (.int .i64 0) := by rw [rowL_eq]; rfl
theorem rowL_163 : rowL[163]? = some (.int .i64 1) := by rw [rowL_eq]; rfl
theorem rowL_164 : rowL[164]? = some (.int .i64 0) := by rw [rowL_eq]; rfl
theorem rowL_165 : rowL[165]? = some (.int .i64 1) := by rw [rowL_eq]; rfl
theorem rowL_166 : rowL[166]? = some (.int .i64 1) := by rw [rowL_eq]; rfl
theorem rowL_167 : rowL[167]? = some (.int .i64 1) := by rw [rowL_eq]; rfl
theorem xr_256 : bits .xor .i64 256 369 = 113 := by decide +kernel
theorem xr_258 : bits .xor .i64 258 369 = 115 := by decide +kernel
theorem xr_260 : bits .xor .i64 260 369 = 117 := by decide +kernel
theorem xr_264 : bits .xor .i64 264 369 = 121 := by decide +kernel
theorem xr_272 : bits .xor .i64 272 369 = 97 := by decide +kernel
theorem xr_274 : bits .xor .i64 274 369 = 99 := by decide +kernel
theorem xr_276 : bits .xor .i64 276 369 = 101 := by decide +kernel
theorem xr_278 : bits .xor .i64 278 369 = 103 := by decide +kernel
theorem xr_280 : bits .xor .i64 280 369 = 105 := by decide +kernel
theorem xr_286 : bits .xor .i64 286 369 = 111 := by decide +kernel
theorem xr_288 : bits .xor .i64 288 369 = 81 := by decide +kernel
theorem xr_292 : bits .xor .i64 292 369 = 85 := by decide +kernel
theorem xr_296 : bits .xor .i64 296 369 = 89 := by decide +kernel
theorem xr_298 : bits .xor .i64 298 369 = 91 := by decide +kernel
theorem xr_302 : bits .xor .i64 302 369 = 95 := by decide +kernel
theorem xr_304 : bits .xor .i64 304 369 = 65 := by decide +kernel
theorem xr_308 : bits .xor .i64 308 369 = 69 := by decide +kernel
theorem xr_310 : bits .xor .i64 310 369 = 71 := by decide +kernel
theorem xr_312 : bits .xor .i64 312 369 = 73 := by decide +kernel
theorem xr_316 : bits .xor .i64 316 369 = 77 := by decide +kernel
theorem xr_318 : bits .xor .i64 318 369 = 79 := by decide +kernel
theorem xr_322 : bits .xor .i64 322 369 = 51 := by decide +kernel
theorem xr_324 : bits .xor .i64 324 369 = 53 := by decide +kernel
theorem xr_326 : bits .xor .i64 326 369 = 55 := by decide +kernel
theorem xr_330 : bits .xor .i64 330 369 = 59 := by decide +kernel
theorem xr_334 : bits .xor .i64 334 369 = 63 := by decide +kernel
theorem xr_336 : bits .xor .i64 336 369 = 33 := by decide +kernel
theorem xr_338 : bits .xor .i64 338 369 = 35 := by decide +kernel
theorem xr_340 : bits .xor .i64 340 369 = 37 := by decide +kernel
theorem xr_342 : bits .xor .i64 342 369 = 39 := by decide +kernel
theorem xr_350 : bits .xor .i64 350 369 = 47 := by decide +kernel
theorem xr_352 : bits .xor .i64 352 369 = 17 := by decide +kernel
theorem xr_354 : bits .xor .i64 354 369 = 19 := by decide +kernel
theorem xr_356 : bits .xor .i64 356 369 = 21 := by decide +kernel
theorem xr_362 : bits .xor .i64 362 369 = 27 := by decide +kernel
theorem xr_364 : bits .xor .i64 364 369 = 29 := by decide +kernel
theorem xr_366 : bits .xor .i64 366 369 = 31 := by decide +kernel
theorem xr_374 : bits .xor .i64 374 369 = 7 := by decide +kernel
theorem xr_376 : bits .xor .i64 376 369 = 9 := by decide +kernel
theorem xr_378 : bits .xor .i64 378 369 = 11 := by decide +kernel
theorem xr_380 : bits .xor .i64 380 369 = 13 := by decide +kernel
theorem xr_386 : bits .xor .i64 386 369 = 243 := by decide +kernel
theorem xr_388 : bits .xor .i64 388 369 = 245 := by decide +kernel
theorem xr_390 : bits .xor .i64 390 369 = 247 := by decide +kernel
theorem xr_396 : bits .xor .i64 396 369 = 253 := by decide +kernel
theorem xr_398 : bits .xor .i64 398 369 = 255 := by decide +kernel
theorem xr_402 : bits .xor .i64 402 369 = 227 := by decide +kernel
theorem xr_404 : bits .xor .i64 404 369 = 229 := by decide +kernel
theorem xr_408 : bits .xor .i64 408 369 = 233 := by decide +kernel
theorem xr_410 : bits .xor .i64 410 369 = 235 := by decide +kernel
theorem xr_412 : bits .xor .i64 412 369 = 237 := by decide +kernel
theorem xr_414 : bits .xor .i64 414 369 = 239 := by decide +kernel
theorem xr_416 : bits .xor .i64 416 369 = 209 := by decide +kernel
theorem xr_418 : bits .xor .i64 418 369 = 211 := by decide +kernel
theorem xr_420 : bits .xor .i64 420 369 = 213 := by decide +kernel
theorem xr_422 : bits .xor .i64 422 369 = 215 := by decide +kernel
theorem xr_424 : bits .xor .i64 424 369 = 217 := by decide +kernel
theorem xr_426 : bits .xor .i64 426 369 = 219 := by decide +kernel
theorem xr_430 : bits .xor .i64 430 369 = 223 := by decide +kernel
theorem xr_432 : bits .xor .i64 432 369 = 193 := by decide +kernel
theorem xr_434 : bits .xor .i64 434 369 = 195 := by decide +kernel
theorem xr_438 : bits .xor .i64 438 369 = 199 := by decide +kernel
theorem xr_440 : bits .xor .i64 440 369 = 201 := by decide +kernel
theorem xr_444 : bits .xor .i64 444 369 = 205 := by decide +kernel
theorem xr_446 : bits .xor .i64 446 369 = 207 := by decide +kernel
theorem xr_448 : bits .xor .i64 448 369 = 177 := by decide +kernel
theorem xr_452 : bits .xor .i64 452 369 = 181 := by decide +kernel
theorem xr_454 : bits .xor .i64 454 369 = 183 := by decide +kernel
theorem xr_458 : bits .xor .i64 458 369 = 187 := by decide +kernel
theorem xr_460 : bits .xor .i64 460 369 = 189 := by decide +kernel
theorem xr_464 : bits .xor .i64 464 369 = 161 := by decide +kernel
theorem xr_466 : bits .xor .i64 466 369 = 163 := by decide +kernel
theorem xr_468 : bits .xor .i64 468 369 = 165 := by decide +kernel
theorem xr_470 : bits .xor .i64 470 369 = 167 := by decide +kernel
theorem xr_472 : bits .xor .i64 472 369 = 169 := by decide +kernel
theorem xr_474 : bits .xor .i64 474 369 = 171 := by decide +kernel
theorem xr_478 : bits .xor .i64 478 369 = 175 := by decide +kernel
theorem xr_484 : bits .xor .i64 484 369 = 149 := by decide +kernel
theorem xr_486 : bits .xor .i64 486 369 = 151 := by decide +kernel
theorem xr_490 : bits .xor .i64 490 369 = 155 := by decide +kernel
theorem xr_494 : bits .xor .i64 494 369 = 159 := by decide +kernel
theorem xr_496 : bits .xor .i64 496 369 = 129 := by decide +kernel
theorem xr_504 : bits .xor .i64 504 369 = 137 := by decide +kernel
theorem xr_506 : bits .xor .i64 506 369 = 139 := by decide +kernel
theorem xr_510 : bits .xor .i64 510 369 = 143 := by decide +kernel
noncomputable def rowG : List DV → Option RV
  | [.pl (.int .i64 n)] => if n = 168 then some (.one (.vec rowL)) else none
  | _ => none
set_option maxHeartbeats 400000000 in
theorem row_ok : ∀ ds r, rowG ds = some r → Spec Try.prog 108 ds r := by
  intro ds r h
  unfold rowG at h
  split at h
  case h_2 => cases h
  rename_i n
  split at h
  case isFalse => cases h
  rename_i hc
  subst hc
  cases h
  have hΓ : Env.ok [] Try.prog := ok_nil _
  rw [rowL_eq]
  refine Spec.of_vx hΓ follows_mixed Try.func108 rfl (by kernel_rfl) (T := []) (by simp [Try.ntmps108]) (by kernel_rfl) rfl Try.ntmps108 (res := [.tmp 2]) rfl ?_
  intro W
  simp -implicitDefEqProofs (maxSteps := 100000000) only [vy_succ, vmB, slim, slimOp, gO, gSO, qSO, quietOp, cS, qSB, eK, calmOp, guardS, gK, qK, putK, plK, dOk, St.ev, St.get, St.mem, St.set, St.setm, St.put, lookA, look, newK, nextver, initT, seqE, blockQ, bodyQ, resK, retV, AV.rdv, agg_uV, ↓binK, ↓intK, unK, ↓loadK, ↓withKey_eq, ↓idxAddrK, ↓indexK, ↓partK, ↓fieldK, ↓fieldAddrK, ↓convK, ↓callK, wrG, updK, ↓lenK, ↓mmK, ↓appK, ↓copyK, ↓sliceK, ↓toArrK, nilK, evs, plains, seqParts, capsOf, capsD, AV.dv, AV.cont, ↓buildV_eq, fillL, placesOf, ↓storeK, wrL, RV.av, DV.av, List.set, Nat.reduceEqDiff, Nat.reduceAdd, Nat.reduceSub, Nat.reduceMul, Nat.reduceLT, Nat.reduceLeDiff, Nat.reduceMod, Nat.reduceDiv, Int.reduceLT, Int.reduceLE, Int.reduceToNat, ↓reduceIte, reduceCtorEq, Value.oneCell', Int.reduceAdd, Int.reduceSub, Int.reduceMod, Int.reduceMul, Int.reduceNeg, Int.reduceBEq, Int.reduceBNe, Int.reduceTDiv, Int.reduceTMod, Int.reduceEq, tyB, Try.underlying13, Try.underlying25, Try.underlying26, Try.underlying39, Try.underlying40, Try.underlying72, Try.underlying73]
  refine VT_rounds hΓ follows_mixed 169 ?_
  simp -implicitDefEqProofs (maxSteps := 100000000) only [vy_succ, vmB, slim, slimOp, gO, gSO, qSO, quietOp, cS, qSB, eK, calmOp, guardS, gK, qK, putK, plK, dOk, St.ev, St.get, St.mem, St.set, St.setm, St.put, lookA, look, newK, nextver, initT, seqE, blockQ, bodyQ, resK, retV, AV.rdv, agg_uV, ↓binK, ↓intK, unK, ↓loadK, ↓withKey_eq, ↓idxAddrK, ↓indexK, ↓partK, ↓fieldK, ↓fieldAddrK, ↓convK, ↓callK, wrG, updK, ↓lenK, ↓mmK, ↓appK, ↓copyK, ↓sliceK, ↓toArrK, nilK, evs, plains, seqParts, capsOf, capsD, AV.dv, AV.cont, ↓buildV_eq, fillL, placesOf, ↓storeK, wrL, RV.av, DV.av, List.set, Nat.reduceEqDiff, Nat.reduceAdd, Nat.reduceSub, Nat.reduceMul, Nat.reduceLT, Nat.reduceLeDiff, Nat.reduceMod, Nat.reduceDiv, Int.reduceLT, Int.reduceLE, Int.reduceToNat, ↓reduceIte, reduceCtorEq, Value.oneCell', Int.reduceAdd, Int.reduceSub, Int.reduceMod, Int.reduceMul, Int.reduceNeg, Int.reduceBEq, Int.reduceBNe, Int.reduceTDiv, Int.reduceTMod, Int.reduceEq, tyB, Try.underlying13, Try.underlying25, Try.underlying26, Try.underlying39, Try.underlying40, Try.underlying72, Try.underlying73, xr_256, xr_258, xr_260, xr_264, xr_272, xr_274, xr_276, xr_278, xr_280, xr_286, xr_288, xr_292, xr_296, xr_298, xr_302, xr_304, xr_308, xr_310, xr_312, xr_316, xr_318, xr_322, xr_324, xr_326, xr_330, xr_334, xr_336, xr_338, xr_340, xr_342, xr_350, xr_352, xr_354, xr_356, xr_362, xr_364, xr_366, xr_374, xr_376, xr_378, xr_380, xr_386, xr_388, xr_390, xr_396, xr_398, xr_402, xr_404, xr_408, xr_410, xr_412, xr_414, xr_416, xr_418, xr_420, xr_422, xr_424, xr_426, xr_430, xr_432, xr_434, xr_438, xr_440, xr_444, xr_446, xr_448, xr_452, xr_454, xr_458, xr_460, xr_464, xr_466, xr_468, xr_470, xr_472, xr_474, xr_478, xr_484, xr_486, xr_490, xr_494, xr_496, xr_504, xr_506, xr_510]

theorem or_0_1 : bits .or .u64 0 1 = 1 := by decide +kernel
theorem or_0_2 : bits .or .u64 0 2 = 2 := by decide +kernel
theorem or_0_8 : bits .or .u64 0 8 = 8 := by decide +kernel
theorem or_0_128 : bits .or .u64 0 128 = 128 := by decide +kernel
theorem or_0_32768 : bits .or .u64 0 32768 = 32768 := by decide +kernel
theorem or_1_2 : bits .or .u64 1 2 = 3 := by decide +kernel
theorem or_1_8 : bits .or .u64 1 8 = 9 := by decide +kernel
theorem or_1_128 : bits .or .u64 1 128 = 129 := by decide +kernel
theorem or_1_2147483648 : bits .or .u64 1 2147483648 = 2147483649 := by decide +kernel
theorem or_2_8 : bits .or .u64 2 8 = 10 := by decide +kernel
theorem or_2_128 : bits .or .u64 2 128 = 130 := by decide +kernel
theorem or_2_32768 : bits .or .u64 2 32768 = 32770 := by decide +kernel
theorem or_3_8 : bits .or .u64 3 8 = 11 := by decide +kernel
theorem or_3_32768 : bits .or .u64 3 32768 = 32771 := by decide +kernel
theorem or_8_128 : bits .or .u64 8 128 = 136 := by decide +kernel
theorem or_8_32768 : bits .or .u64 8 32768 = 32776 := by decide +kernel
theorem or_9_128 : bits .or .u64 9 128 = 137 := by decide +kernel
theorem or_9_32768 : bits .or .u64 9 32768 = 32777 := by decide +kernel
theorem or_10_128 : bits .or .u64 10 128 = 138 := by decide +kernel
theorem or_10_32768 : bits .or .u64 10 32768 = 32778 := by decide +kernel
theorem or_10_2147483648 : bits .or .u64 10 2147483648 = 2147483658 := by decide +kernel
theorem or_11_128 : bits .or .u64 11 128 = 139 := by decide +kernel
theorem or_128_32768 : bits .or .u64 128 32768 = 32896 := by decide +kernel
theorem or_128_9223372036854775808 : bits .or .u64 128 9223372036854775808 = 9223372036854775936 := by decide +kernel
theorem or_129_32768 : bits .or .u64 129 32768 = 32897 := by decide +kernel
theorem or_130_32768 : bits .or .u64 130 32768 = 32898 := by decide +kernel
theorem or_137_32768 : bits .or .u64 137 32768 = 32905 := by decide +kernel
theorem or_138_32768 : bits .or .u64 138 32768 = 32906 := by decide +kernel
theorem or_139_32768 : bits .or .u64 139 32768 = 32907 := by decide +kernel
theorem or_139_9223372036854775808 : bits .or .u64 139 9223372036854775808 = 9223372036854775947 := by decide +kernel
theorem or_32768_2147483648 : bits .or .u64 32768 2147483648 = 2147516416 := by decide +kernel
theorem or_32770_9223372036854775808 : bits .or .u64 32770 9223372036854775808 = 9223372036854808578 := by decide +kernel
theorem or_32771_9223372036854775808 : bits .or .u64 32771 9223372036854775808 = 9223372036854808579 := by decide +kernel
theorem or_32776_2147483648 : bits .or .u64 32776 2147483648 = 2147516424 := by decide +kernel
theorem or_32777_2147483648 : bits .or .u64 32777 2147483648 = 2147516425 := by decide +kernel
theorem or_32777_9223372036854775808 : bits .or .u64 32777 9223372036854775808 = 9223372036854808585 := by decide +kernel
theorem or_32896_9223372036854775808 : bits .or .u64 32896 9223372036854775808 = 9223372036854808704 := by decide +kernel
theorem or_32897_2147483648 : bits .or .u64 32897 2147483648 = 2147516545 := by decide +kernel
theorem or_32905_9223372036854775808 : bits .or .u64 32905 9223372036854775808 = 9223372036854808713 := by decide +kernel
theorem or_32906_9223372036854775808 : bits .or .u64 32906 9223372036854775808 = 9223372036854808714 := by decide +kernel
theorem or_32907_2147483648 : bits .or .u64 32907 2147483648 = 2147516555 := by decide +kernel
theorem or_2147483658_9223372036854775808 : bits .or .u64 2147483658 9223372036854775808 = 9223372039002259466 := by decide +kernel
theorem or_2147516416_9223372036854775808 : bits .or .u64 2147516416 9223372036854775808 = 9223372039002292224 := by decide +kernel
theorem or_2147516424_9223372036854775808 : bits .or .u64 2147516424 9223372036854775808 = 9223372039002292232 := by decide +kernel
theorem or_2147516545_9223372036854775808 : bits .or .u64 2147516545 9223372036854775808 = 9223372039002292353 := by decide +kernel
theorem pw_0 : IntKind.u64.wrap (1 * 2 ^ (min 0 IntKind.u64.bits)) = 1 := by decide +kernel
theorem pm_0 : (1 * 2 ^ (min 0 IntKind.u64.bits)) % 18446744073709551616 = (1 : Int) := by decide +kernel
theorem pw_1 : IntKind.u64.wrap (1 * 2 ^ (min 1 IntKind.u64.bits)) = 2 := by decide +kernel
theorem pm_1 : (1 * 2 ^ (min 1 IntKind.u64.bits)) % 18446744073709551616 = (2 : Int) := by decide +kernel
theorem pw_3 : IntKind.u64.wrap (1 * 2 ^ (min 3 IntKind.u64.bits)) = 8 := by decide +kernel
theorem pm_3 : (1 * 2 ^ (min 3 IntKind.u64.bits)) % 18446744073709551616 = (8 : Int) := by decide +kernel
theorem pw_7 : IntKind.u64.wrap (1 * 2 ^ (min 7 IntKind.u64.bits)) = 128 := by decide +kernel
theorem pm_7 : (1 * 2 ^ (min 7 IntKind.u64.bits)) % 18446744073709551616 = (128 : Int) := by decide +kernel
theorem pw_15 : IntKind.u64.wrap (1 * 2 ^ (min 15 IntKind.u64.bits)) = 32768 := by decide +kernel
theorem pm_15 : (1 * 2 ^ (min 15 IntKind.u64.bits)) % 18446744073709551616 = (32768 : Int) := by decide +kernel
theorem pw_31 : IntKind.u64.wrap (1 * 2 ^ (min 31 IntKind.u64.bits)) = 2147483648 := by decide +kernel
theorem pm_31 : (1 * 2 ^ (min 31 IntKind.u64.bits)) % 18446744073709551616 = (2147483648 : Int) := by decide +kernel
theorem pw_63 : IntKind.u64.wrap (1 * 2 ^ (min 63 IntKind.u64.bits)) = 9223372036854775808 := by decide +kernel
theorem pm_63 : (1 * 2 ^ (min 63 IntKind.u64.bits)) % 18446744073709551616 = (9223372036854775808 : Int) := by decide +kernel
noncomputable def lastG : List DV → Option RV
  | [.pl (.int .i64 i)] => if 0 ≤ i ∧ i < 24 then some (.one (.pl (.int .u64 (tn (rcw i.toNat))))) else none
  | _ => none
theorem tn_rcw (k : Nat) (h : k < 24) : tn (rcw k) = rcT k := by
  rw [rcw_eq]
  refine tn_nt ?_
  have : ∀ k, k < 24 → 0 ≤ ([1, 32898, 9223372036854808714, 9223372039002292224, 32907, 2147483649, 9223372039002292353, 9223372036854808585, 138, 136, 2147516425, 2147483658, 2147516555, 9223372036854775947, 9223372036854808713, 9223372036854808579, 9223372036854808578, 9223372036854775936, 32778, 9223372039002259466, 9223372039002292353, 9223372036854808704, 2147483649, 9223372039002292232] : List Int).getD k 0 ∧ ([1, 32898, 9223372036854808714, 9223372039002292224, 32907, 2147483649, 9223372039002292353, 9223372036854808585, 138, 136, 2147516425, 2147483658, 2147516555, 9223372036854775947, 9223372036854808713, 9223372036854808579, 9223372036854808578, 9223372036854775936, 32778, 9223372039002259466, 9223372039002292353, 9223372036854808704, 2147483649, 9223372039002292232] : List Int).getD k 0 < 18446744073709551616 := by decide +kernel
  rw [rcT_eq]
  exact okW_of (this k h).1 (this k h).2
set_option maxHeartbeats 400000000 in
theorem last_ok : ∀ ds r, lastG ds = some r → Spec Try.prog 104 ds r := by
  intro ds r h
  unfold lastG at h
  split at h
  case h_2 => cases h
  rename_i i
  split at h
  case isFalse => cases h
  rename_i hc
  cases h
  rw [tn_rcw _ (by omega)]
  have hΓ : Env.ok [(108, rowG)] Try.prog := ok_cons row_ok (ok_nil _)
  have hx : i = 0 ∨ i = 1 ∨ i = 2 ∨ i = 3 ∨ i = 4 ∨ i = 5 ∨ i = 6 ∨ i = 7 ∨ i = 8 ∨ i = 9 ∨ i = 10 ∨ i = 11 ∨ i = 12 ∨ i = 13 ∨ i = 14 ∨ i = 15 ∨ i = 16 ∨ i = 17 ∨ i = 18 ∨ i = 19 ∨ i = 20 ∨ i = 21 ∨ i = 22 ∨ i = 23 := by omega
  clear hc
  rcases hx with rfl | rfl | rfl | rfl | rfl | rfl | rfl | rfl | rfl | rfl | rfl | rfl | rfl | rfl | rfl | rfl | rfl | rfl | rfl | rfl | rfl | rfl | rfl | rfl
  all_goals
    refine Spec.of_vx hΓ follows_mixed Try.func104 rfl (by kernel_rfl) (T := []) (by simp [Try.ntmps104]) (by kernel_rfl) rfl Try.ntmps104 (res := [.tmp 2]) rfl ?_
    intro W
    simp -implicitDefEqProofs (maxSteps := 100000000) only [vy_succ, vmB, slim, slimOp, gO, gSO, qSO, quietOp, cS, qSB, eK, calmOp, guardS, gK, qK, putK, plK, dOk, St.ev, St.get, St.mem, St.set, St.setm, St.put, lookA, look, newK, nextver, initT, seqE, blockQ, bodyQ, resK, retV, AV.rdv, agg_uV, ↓binK, ↓intK, unK, ↓loadK, ↓withKey_eq, ↓idxAddrK, ↓indexK, ↓partK, ↓fieldK, ↓fieldAddrK, ↓convK, ↓callK, wrG, updK, ↓lenK, ↓mmK, ↓appK, ↓copyK, ↓sliceK, ↓toArrK, nilK, evs, plains, seqParts, capsOf, capsD, AV.dv, AV.cont, ↓buildV_eq, fillL, placesOf, ↓storeK, wrL, RV.av, DV.av, List.set, Nat.reduceEqDiff, Nat.reduceAdd, Nat.reduceSub, Nat.reduceMul, Nat.reduceLT, Nat.reduceLeDiff, Nat.reduceMod, Nat.reduceDiv, Int.reduceLT, Int.reduceLE, Int.reduceToNat, ↓reduceIte, reduceCtorEq, Value.oneCell', Int.reduceAdd, Int.reduceSub, Int.reduceMod, Int.reduceMul, Int.reduceNeg, Int.reduceBEq, Int.reduceBNe, Int.reduceTDiv, Int.reduceTMod, Int.reduceEq, tyB, Try.underlying13, Try.underlying25, Try.underlying26, Try.underlying39, Try.underlying40, Try.underlying72, Try.underlying73, rowG]
    refine VT_rounds hΓ follows_mixed 8 ?_
    simp -implicitDefEqProofs (maxSteps := 100000000) only [vy_succ, vmB, slim, slimOp, gO, gSO, qSO, quietOp, cS, qSB, eK, calmOp, guardS, gK, qK, putK, plK, dOk, St.ev, St.get, St.mem, St.set, St.setm, St.put, lookA, look, newK, nextver, initT, seqE, blockQ, bodyQ, resK, retV, AV.rdv, agg_uV, ↓binK, ↓intK, unK, ↓loadK, ↓withKey_eq, ↓idxAddrK, ↓indexK, ↓partK, ↓fieldK, ↓fieldAddrK, ↓convK, ↓callK, wrG, updK, ↓lenK, ↓mmK, ↓appK, ↓copyK, ↓sliceK, ↓toArrK, nilK, evs, plains, seqParts, capsOf, capsD, AV.dv, AV.cont, ↓buildV_eq, fillL, placesOf, ↓storeK, wrL, RV.av, DV.av, List.set, Nat.reduceEqDiff, Nat.reduceAdd, Nat.reduceSub, Nat.reduceMul, Nat.reduceLT, Nat.reduceLeDiff, Nat.reduceMod, Nat.reduceDiv, Int.reduceLT, Int.reduceLE, Int.reduceToNat, ↓reduceIte, reduceCtorEq, Value.oneCell', Int.reduceAdd, Int.reduceSub, Int.reduceMod, Int.reduceMul, Int.reduceNeg, Int.reduceBEq, Int.reduceBNe, Int.reduceTDiv, Int.reduceTMod, Int.reduceEq, tyB, Try.underlying13, Try.underlying25, Try.underlying26, Try.underlying39, Try.underlying40, Try.underlying72, Try.underlying73, rowL_len, rowL_0, rowL_1, rowL_2, rowL_3, rowL_4, rowL_5, rowL_6, rowL_7, rowL_8, rowL_9, rowL_10, rowL_11, rowL_12, rowL_13, rowL_14, rowL_15, rowL_16, rowL_17, rowL_18, rowL_19, rowL_20, rowL_21, rowL_22, rowL_23, rowL_24, rowL_25, rowL_26, rowL_27, rowL_28, rowL_29, rowL_30, rowL_31, rowL_32, rowL_33, rowL_34, rowL_35, rowL_36, rowL_37, rowL_38, rowL_39, rowL_40, rowL_41, rowL_42, rowL_43, rowL_44, rowL_45, rowL_46, rowL_47, rowL_48, rowL_49, rowL_50, rowL_51, rowL_52, rowL_53, rowL_54, rowL_55, rowL_56, rowL_57, rowL_58, rowL_59, rowL_60, rowL_61, rowL_62, rowL_63, rowL_64, rowL_65, rowL_66, rowL_67, rowL_68, rowL_69, rowL_70, rowL_71, rowL_72, rowL_73, rowL_74, rowL_75, rowL_76, rowL_77, rowL_78, rowL_79, rowL_80, rowL_81, rowL_82, rowL_83, rowL_84, rowL_85, rowL_86, rowL_87, rowL_88, rowL_89, rowL_90, rowL_91, rowL_92, rowL_93, rowL_94, rowL_95, rowL_96, rowL_97, rowL_98, rowL_99, rowL_100, rowL_101, rowL_102, rowL_103, rowL_104, rowL_105, rowL_106, rowL_107, rowL_108, rowL_109, rowL_110, rowL_111, rowL_112, rowL_113, rowL_114, rowL_115, rowL_116, rowL_117, rowL_118, rowL_119, rowL_120, rowL_121, rowL_122, rowL_123, rowL_124, rowL_125, rowL_126, rowL_127, rowL_128, rowL_129, rowL_130, rowL_131, rowL_132, rowL_133, rowL_134, rowL_135, rowL_136, rowL_137, rowL_138, rowL_139, rowL_140, rowL_141, rowL_142, rowL_143, rowL_144, rowL_145, rowL_146, rowL_147, rowL_148, rowL_149, rowL_150, rowL_151, rowL_152, rowL_153, rowL_154, rowL_155, rowL_156, rowL_157, rowL_158, rowL_159, rowL_160, rowL_161, rowL_162, rowL_163, rowL_164, rowL_165, rowL_166, rowL_167, or_0_1, or_0_2, or_0_8, or_0_128, or_0_32768, or_1_2, or_1_8, or_1_128, or_1_2147483648, or_2_8, or_2_128, or_2_32768, or_3_8, or_3_32768, or_8_128, or_8_32768, or_9_128, or_9_32768, or_10_128, or_10_32768, or_10_2147483648, or_11_128, or_128_32768, or_128_9223372036854775808, or_129_32768, or_130_32768, or_137_32768, or_138_32768, or_139_32768, or_139_9223372036854775808, or_32768_2147483648, or_32770_9223372036854775808, or_32771_9223372036854775808, or_32776_2147483648, or_32777_2147483648, or_32777_9223372036854775808, or_32896_9223372036854775808, or_32897_2147483648, or_32905_9223372036854775808, or_32906_9223372036854775808, or_32907_2147483648, or_2147483658_9223372036854775808, or_2147516416_9223372036854775808, or_2147516424_9223372036854775808, or_2147516545_9223372036854775808, ↓pw_0, pm_0, ↓pw_1, pm_1, ↓pw_3, pm_3, ↓pw_7, pm_7, ↓pw_15, pm_15, ↓pw_31, pm_31, ↓pw_63, pm_63, rcT_0, rcT_1, rcT_2, rcT_3, rcT_4, rcT_5, rcT_6, rcT_7, rcT_8, rcT_9, rcT_10, rcT_11, rcT_12, rcT_13, rcT_14, rcT_15, rcT_16, rcT_17, rcT_18, rcT_19, rcT_20, rcT_21, rcT_22, rcT_23]

end Go.Vm
