/- Texts of the proof, laid together: By, Bs, Ya. No condition. -/
import Derived.Test.YtphocbfdakjmaaaPart3
import Derived.Test.YtphocbfdakjmaaaPart7
/- Contracts: Bytes, From. No condition. -/
set_option maxRecDepth 100000
set_option linter.unusedSimpArgs false
set_option linter.unusedVariables false
namespace Go.Vm
open Go Go.RowKit Go.Proofs

noncomputable def byteN (a k : Nat) : Nat := Classical.choose (⟨a / 256 ^ k % 256, rfl⟩ : ∃ x : Nat, x = a / 256 ^ k % 256)
theorem byteN_eq (a k : Nat) : byteN a k = a / 256 ^ k % 256 := Classical.choose_spec (⟨a / 256 ^ k % 256, rfl⟩ : ∃ x : Nat, x = a / 256 ^ k % 256)
theorem byteN_lt (a k : Nat) : byteN a k < 256 := by rw [byteN_eq]; exact Nat.mod_lt _ (by omega)

theorem shr_min8 (x n : Nat) (h : n ≤ 64) : (x : Int).fdiv (2 ^ (min ((n : Int).toNat) IntKind.u64.bits)) = ((x / 2 ^ n : Nat) : Int) := by
  have e : min ((n : Int).toNat) IntKind.u64.bits = n := by
    have : IntKind.u64.bits = 64 := rfl
    omega
  rw [e, Int.fdiv_eq_ediv_of_nonneg _ (by exact Int.le_of_lt (Int.pow_pos (by omega)))]
  simp
theorem byte_w0 (a r : Nat) (hr : r < 8) : (w0 a : Int).fdiv (2 ^ (min ((8 * (r : Int)).toNat) IntKind.u64.bits)) % 256 = (byteN a (0 + r) : Nat) := by
  have := shr_min8 (w0 a) (8 * r) (by omega)
  have e : ((8 * r : Nat) : Int) = 8 * (r : Int) := by omega
  rw [e] at this
  rw [this, byteN_eq, w0_eq]
  have hc : r = 0 ∨ r = 1 ∨ r = 2 ∨ r = 3 ∨ r = 4 ∨ r = 5 ∨ r = 6 ∨ r = 7 := by omega
  rcases hc with rfl | rfl | rfl | rfl | rfl | rfl | rfl | rfl <;> simp only [Nat.reduceMul, Nat.reduceAdd, Nat.reducePow] <;> omega
theorem byte_w1 (a r : Nat) (hr : r < 8) : (w1 a : Int).fdiv (2 ^ (min ((8 * (r : Int)).toNat) IntKind.u64.bits)) % 256 = (byteN a (8 + r) : Nat) := by
  have := shr_min8 (w1 a) (8 * r) (by omega)
  have e : ((8 * r : Nat) : Int) = 8 * (r : Int) := by omega
  rw [e] at this
  rw [this, byteN_eq, w1_eq]
  have hc : r = 0 ∨ r = 1 ∨ r = 2 ∨ r = 3 ∨ r = 4 ∨ r = 5 ∨ r = 6 ∨ r = 7 := by omega
  rcases hc with rfl | rfl | rfl | rfl | rfl | rfl | rfl | rfl <;> simp only [Nat.reduceMul, Nat.reduceAdd, Nat.reducePow] <;> omega
theorem byte_w2 (a r : Nat) (hr : r < 8) : (w2 a : Int).fdiv (2 ^ (min ((8 * (r : Int)).toNat) IntKind.u64.bits)) % 256 = (byteN a (16 + r) : Nat) := by
  have := shr_min8 (w2 a) (8 * r) (by omega)
  have e : ((8 * r : Nat) : Int) = 8 * (r : Int) := by omega
  rw [e] at this
  rw [this, byteN_eq, w2_eq]
  have hc : r = 0 ∨ r = 1 ∨ r = 2 ∨ r = 3 ∨ r = 4 ∨ r = 5 ∨ r = 6 ∨ r = 7 := by omega
  rcases hc with rfl | rfl | rfl | rfl | rfl | rfl | rfl | rfl <;> simp only [Nat.reduceMul, Nat.reduceAdd, Nat.reducePow] <;> omega
theorem byte_w3 (a r : Nat) (hr : r < 8) : (w3 a : Int).fdiv (2 ^ (min ((8 * (r : Int)).toNat) IntKind.u64.bits)) % 256 = (byteN a (24 + r) : Nat) := by
  have := shr_min8 (w3 a) (8 * r) (by omega)
  have e : ((8 * r : Nat) : Int) = 8 * (r : Int) := by omega
  rw [e] at this
  rw [this, byteN_eq, w3_eq]
  have hc : r = 0 ∨ r = 1 ∨ r = 2 ∨ r = 3 ∨ r = 4 ∨ r = 5 ∨ r = 6 ∨ r = 7 := by omega
  rcases hc with rfl | rfl | rfl | rfl | rfl | rfl | rfl | rfl <;> simp only [Nat.reduceMul, Nat.reduceAdd, Nat.reducePow] <;> omega

noncomputable def bytesL (a : Nat) : List UInt8 := Classical.choose (⟨(List.range 32).map fun j => UInt8.ofNat (byteN a (31 - j)), rfl⟩ : ∃ l : List UInt8, l = (List.range 32).map fun j => UInt8.ofNat (byteN a (31 - j)))
theorem bytesL_eq (a : Nat) : bytesL a = (List.range 32).map fun j => UInt8.ofNat (byteN a (31 - j)) := Classical.choose_spec (⟨(List.range 32).map fun j => UInt8.ofNat (byteN a (31 - j)), rfl⟩ : ∃ l : List UInt8, l = (List.range 32).map fun j => UInt8.ofNat (byteN a (31 - j)))
noncomputable def bL0 (a i : Nat) : List Value := (List.range 32).map fun j => .int .u8 ((if j < i then byteN a (31 - j) else 0 : Nat) : Int)
noncomputable def bL (a i : Nat) : List Value := Classical.choose (⟨bL0 a i, rfl⟩ : ∃ l : List Value, l = bL0 a i)
theorem bL_eq (a i : Nat) : bL a i = bL0 a i := Classical.choose_spec (⟨bL0 a i, rfl⟩ : ∃ l : List Value, l = bL0 a i)
theorem bL_len (a i : Nat) : (bL a i).length = 32 := by rw [bL_eq]; simp [bL0]
theorem bL_set (a i : Nat) (h : i < 32) : (bL a i).set i (.int .u8 (byteN a (31 - i) : Nat)) = bL a (i + 1) := by
  rw [bL_eq, bL_eq]
  apply List.ext_getElem
  · simp [bL0]
  · intro j h1 h2
    simp only [bL0, List.getElem_set, List.getElem_map, List.getElem_range]
    by_cases e : i = j
    · subst e; simp
    · rw [if_neg e]
      congr 2
      by_cases h3 : j < i
      · rw [if_pos h3, if_pos (by omega)]
      · rw [if_neg h3, if_neg (by omega)]
theorem bL_0 (a : Nat) : bL a 0 = [.int .u8 0, .int .u8 0, .int .u8 0, .int .u8 0, .int .u8 0, .int .u8 0, .int .u8 0, .int .u8 0, .int .u8 0, .int .u8 0, .int .u8 0, .int .u8 0, .int .u8 0, .int .u8 0, .int .u8 0, .int .u8 0, .int .u8 0, .int .u8 0, .int .u8 0, .int .u8 0, .int .u8 0, .int .u8 0, .int .u8 0, .int .u8 0, .int .u8 0, .int .u8 0, .int .u8 0, .int .u8 0, .int .u8 0, .int .u8 0, .int .u8 0, .int .u8 0] := by
  rw [bL_eq]; rfl
theorem bL_take (a : Nat) : (bL a 32).take 32 = bL a 32 := List.take_of_length_le (by rw [bL_len]; omega)
theorem bL_u8s (a : Nat) : u8s (bL a 32) = some (bytesL a) := by
  have e : bL a 32 = ((List.range 32).map fun j => ((byteN a (31 - j) : Nat) : Int)).map (Value.int .u8) := by
    rw [bL_eq]
    apply List.ext_getElem
    · simp [bL0]
    · intro j h1 h2
      have h3 : j < 32 := by simpa [bL0] using h1
      simp [bL0, h3]
  rw [e, u8s_map, bytesL_eq, List.map_map]
  rfl

noncomputable def bytesG : List DV → Option RV
  | [.pl va] => match toN va with
    | some a => some (.one (.pl (.string (bstr (bytesL a)))))
    | _ => none
  | _ => none

noncomputable def byS (a i : Nat) : St := ⟨[(6, .pl (.int .i64 (i : Nat))), (3, .ptr 3 0 0), (1, .ptr 1 0 0)], [(3, ⟨0, 86, bL a i⟩), (1, uC a)]⟩

set_option maxHeartbeats 4000000 in
theorem bytes_ok : ∀ ds r, bytesG ds = some r → Spec Try.prog 29 ds r := by
  intro ds r h
  unfold bytesG at h
  split at h
  case h_2 => cases h
  rename_i va
  split at h
  case h_2 => cases h
  rename_i a ha
  cases h
  obtain ⟨rfl, ha'⟩ := toN_eq ha
  have hΓ : Env.ok [] Try.prog := ok_nil _
  refine Spec.of_vx hΓ follows_mixed Try.func29 rfl (by kernel_rfl) (T := []) (by simp [Try.ntmps29]) (by kernel_rfl) rfl Try.ntmps29 (res := [.tmp 2]) rfl ?_
  intro W
  simp -implicitDefEqProofs (maxSteps := 10000000) only [vy_succ, vmB, slim, slimOp, gO, gSO, qSO, quietOp, cS, qSB, eK, calmOp, guardS, gK, qK, putK, plK, dOk, St.ev, St.get, St.mem, St.set, St.setm, St.put, lookA, look, newK, nextver, initT, seqE, blockQ, bodyQ, resK, retV, AV.rdv, agg_uV, ↓binK, ↓intK, unK, ↓loadK, ↓withKey_eq, ↓idxAddrK, ↓indexK, ↓partK, ↓fieldK, ↓fieldAddrK, ↓convK, ↓callK, wrG, updK, ↓lenK, ↓mmK, ↓appK, ↓copyK, ↓sliceK, ↓toArrK, nilK, evs, plains, seqParts, capsOf, capsD, AV.dv, AV.cont, ↓buildV_eq, fillL, placesOf, ↓storeK, wrL, RV.av, DV.av, List.set, Nat.reduceEqDiff, Nat.reduceAdd, Nat.reduceSub, Nat.reduceMul, Nat.reduceLT, Nat.reduceLeDiff, Nat.reduceMod, Nat.reduceDiv, Int.reduceLT, Int.reduceLE, Int.reduceToNat, ↓reduceIte, reduceCtorEq, Value.oneCell', Int.reduceAdd, Int.reduceSub, Int.reduceMod, Int.reduceMul, Int.reduceNeg, Int.reduceBEq, Int.reduceBNe, Int.reduceTDiv, Int.reduceTMod, Int.reduceEq, tyB, Try.underlying13, Try.underlying25, Try.underlying26, Try.underlying39, Try.underlying40, Try.underlying72, Try.underlying73]
  refine VT_loop hΓ follows_mixed (byS a) (fun i => i ≤ 32) (fun i => 32 - i) 0 (Sub.of (by simp -implicitDefEqProofs only [subT, byS, look, lookA, newK, St.get, St.mem, List.map_cons, List.map_nil, List.all_cons, List.all_nil, List.length_cons, List.length_nil, List.getElem?_cons_zero, List.getElem?_cons_succ, Nat.reduceEqDiff, Nat.reduceAdd, Option.some.injEq, ↓reduceIte, true_and, and_true, reduceCtorEq, beq_self_eq_true, Bool.and_true, ne_eq, not_false_eq_true, not_true_eq_false, Nat.add_zero, Nat.zero_add, Nat.reduceSub, Nat.reduceMul, Int.cast_ofNat_Int, Int.reduceAdd, Int.reduceSub, Int.reduceMul, Int.natCast_zero]) (by simp -implicitDefEqProofs only [subM, byS, uC, bL_0, look, lookA, newK, St.get, St.mem, List.map_cons, List.map_nil, List.all_cons, List.all_nil, List.length_cons, List.length_nil, List.getElem?_cons_zero, List.getElem?_cons_succ, Nat.reduceEqDiff, Nat.reduceAdd, Option.some.injEq, ↓reduceIte, true_and, and_true, reduceCtorEq, beq_self_eq_true, Bool.and_true, ne_eq, not_false_eq_true, not_true_eq_false, Nat.add_zero, Nat.zero_add, Nat.reduceSub, Nat.reduceMul, Int.cast_ofNat_Int, Int.reduceAdd, Int.reduceSub, Int.reduceMul, Int.natCast_zero]) rfl) (by omega) ?_
  intro i hi
  by_cases hlt : i < 32
  · have r0 : decide ((i : Int) < 32) = true := decide_eq_true (by omega)
    obtain ⟨q, r, k, hr, hq, hk, hk2⟩ : ∃ q r k : Nat, r < 8 ∧ q < 4 ∧ 31 - i = k ∧ k = 8 * q + r := ⟨(31 - i) / 8, (31 - i) % 8, 31 - i, by omega, by omega, rfl, by omega⟩
    have r1 : IntKind.i64.wrap (31 - (i : Int)) = (k : Int) := by
      rw [i64_in (by omega) (by omega)]; omega
    have r2 : (k : Int).tmod 8 = (r : Int) := by rw [Int.tmod_eq_emod_of_nonneg (by omega)]; omega
    have r3 : IntKind.i64.wrap (8 * (r : Int)) = 8 * (r : Int) := i64_in (by omega) (by omega)
    have r4 : (0 : Int) ≤ 8 * (r : Int) := by omega
    have r5 : (0 : Int) ≤ (i : Int) := by omega
    have r6 : (i : Int) < 32 := by omega
    have hle : i ≤ 31 := by omega
    have r7 : IntKind.i64.wrap ((i : Int) + 1) = (i : Int) + 1 := i64_in (by omega) (by omega)
    have hset := bL_set a i hlt
    rw [hk] at hset
    have hq4 : q = 0 ∨ q = 1 ∨ q = 2 ∨ q = 3 := by omega
    rcases hq4 with rfl | rfl | rfl | rfl
    · have r8 : (k : Int).tdiv 8 = 0 := by rw [Int.tdiv_eq_ediv_of_nonneg (by omega)]; omega
      have r9 := byte_w0 a r hr
      rw [show 0 + r = k by omega] at r9
      simp -implicitDefEqProofs (maxSteps := 10000000) only [byS, uC, bL_len, Int.toNat_natCast, Nat.mul_one, r0, r1, r2, r3, r4, r5, r6, r7, r8, r9, hset, hlt, hle, vy_succ, vmB, slim, slimOp, gO, gSO, qSO, quietOp, cS, qSB, eK, calmOp, guardS, gK, qK, putK, plK, dOk, St.ev, St.get, St.mem, St.set, St.setm, St.put, lookA, look, newK, nextver, initT, seqE, blockQ, bodyQ, resK, retV, AV.rdv, agg_uV, ↓binK, ↓intK, unK, ↓loadK, ↓withKey_eq, ↓idxAddrK, ↓indexK, ↓partK, ↓fieldK, ↓fieldAddrK, ↓convK, ↓callK, wrG, updK, ↓lenK, ↓mmK, ↓appK, ↓copyK, ↓sliceK, ↓toArrK, nilK, evs, plains, seqParts, capsOf, capsD, AV.dv, AV.cont, ↓buildV_eq, fillL, placesOf, ↓storeK, wrL, RV.av, DV.av, List.set, Nat.reduceEqDiff, Nat.reduceAdd, Nat.reduceSub, Nat.reduceMul, Nat.reduceLT, Nat.reduceLeDiff, Nat.reduceMod, Nat.reduceDiv, Int.reduceLT, Int.reduceLE, Int.reduceToNat, ↓reduceIte, reduceCtorEq, Value.oneCell', Int.reduceAdd, Int.reduceSub, Int.reduceMod, Int.reduceMul, Int.reduceNeg, Int.reduceBEq, Int.reduceBNe, Int.reduceTDiv, Int.reduceTMod, Int.reduceEq, tyB, Try.underlying13, Try.underlying25, Try.underlying26, Try.underlying39, Try.underlying40, Try.underlying72, Try.underlying73]
      exact ⟨i + 1, by omega, (by show 32 - (i + 1) < 32 - i; omega), Sub.of (by simp -implicitDefEqProofs only [subT, byS, look, lookA, newK, St.get, St.mem, List.map_cons, List.map_nil, List.all_cons, List.all_nil, List.length_cons, List.length_nil, List.getElem?_cons_zero, List.getElem?_cons_succ, Nat.reduceEqDiff, Nat.reduceAdd, Option.some.injEq, ↓reduceIte, true_and, and_true, reduceCtorEq, beq_self_eq_true, Bool.and_true, ne_eq, not_false_eq_true, not_true_eq_false, Nat.add_zero, Nat.zero_add, Nat.reduceSub, Nat.reduceMul, Int.cast_ofNat_Int, Int.reduceAdd, Int.reduceSub, Int.reduceMul, Int.natCast_add, Int.natCast_one]) (by simp -implicitDefEqProofs only [subM, byS, uC, look, lookA, newK, St.get, St.mem, List.map_cons, List.map_nil, List.all_cons, List.all_nil, List.length_cons, List.length_nil, List.getElem?_cons_zero, List.getElem?_cons_succ, Nat.reduceEqDiff, Nat.reduceAdd, Option.some.injEq, ↓reduceIte, true_and, and_true, reduceCtorEq, beq_self_eq_true, Bool.and_true, ne_eq, not_false_eq_true, not_true_eq_false, Nat.add_zero, Nat.zero_add, Nat.reduceSub, Nat.reduceMul, Int.cast_ofNat_Int, Int.reduceAdd, Int.reduceSub, Int.reduceMul]) rfl⟩
    · have r8 : (k : Int).tdiv 8 = 1 := by rw [Int.tdiv_eq_ediv_of_nonneg (by omega)]; omega
      have r9 := byte_w1 a r hr
      rw [show 8 + r = k by omega] at r9
      simp -implicitDefEqProofs (maxSteps := 10000000) only [byS, uC, bL_len, Int.toNat_natCast, Nat.mul_one, r0, r1, r2, r3, r4, r5, r6, r7, r8, r9, hset, hlt, hle, vy_succ, vmB, slim, slimOp, gO, gSO, qSO, quietOp, cS, qSB, eK, calmOp, guardS, gK, qK, putK, plK, dOk, St.ev, St.get, St.mem, St.set, St.setm, St.put, lookA, look, newK, nextver, initT, seqE, blockQ, bodyQ, resK, retV, AV.rdv, agg_uV, ↓binK, ↓intK, unK, ↓loadK, ↓withKey_eq, ↓idxAddrK, ↓indexK, ↓partK, ↓fieldK, ↓fieldAddrK, ↓convK, ↓callK, wrG, updK, ↓lenK, ↓mmK, ↓appK, ↓copyK, ↓sliceK, ↓toArrK, nilK, evs, plains, seqParts, capsOf, capsD, AV.dv, AV.cont, ↓buildV_eq, fillL, placesOf, ↓storeK, wrL, RV.av, DV.av, List.set, Nat.reduceEqDiff, Nat.reduceAdd, Nat.reduceSub, Nat.reduceMul, Nat.reduceLT, Nat.reduceLeDiff, Nat.reduceMod, Nat.reduceDiv, Int.reduceLT, Int.reduceLE, Int.reduceToNat, ↓reduceIte, reduceCtorEq, Value.oneCell', Int.reduceAdd, Int.reduceSub, Int.reduceMod, Int.reduceMul, Int.reduceNeg, Int.reduceBEq, Int.reduceBNe, Int.reduceTDiv, Int.reduceTMod, Int.reduceEq, tyB, Try.underlying13, Try.underlying25, Try.underlying26, Try.underlying39, Try.underlying40, Try.underlying72, Try.underlying73]
      exact ⟨i + 1, by omega, (by show 32 - (i + 1) < 32 - i; omega), Sub.of (by simp -implicitDefEqProofs only [subT, byS, look, lookA, newK, St.get, St.mem, List.map_cons, List.map_nil, List.all_cons, List.all_nil, List.length_cons, List.length_nil, List.getElem?_cons_zero, List.getElem?_cons_succ, Nat.reduceEqDiff, Nat.reduceAdd, Option.some.injEq, ↓reduceIte, true_and, and_true, reduceCtorEq, beq_self_eq_true, Bool.and_true, ne_eq, not_false_eq_true, not_true_eq_false, Nat.add_zero, Nat.zero_add, Nat.reduceSub, Nat.reduceMul, Int.cast_ofNat_Int, Int.reduceAdd, Int.reduceSub, Int.reduceMul, Int.natCast_add, Int.natCast_one]) (by simp -implicitDefEqProofs only [subM, byS, uC, look, lookA, newK, St.get, St.mem, List.map_cons, List.map_nil, List.all_cons, List.all_nil, List.length_cons, List.length_nil, List.getElem?_cons_zero, List.getElem?_cons_succ, Nat.reduceEqDiff, Nat.reduceAdd, Option.some.injEq, ↓reduceIte, true_and, and_true, reduceCtorEq, beq_self_eq_true, Bool.and_true, ne_eq, not_false_eq_true, not_true_eq_false, Nat.add_zero, Nat.zero_add, Nat.reduceSub, Nat.reduceMul, Int.cast_ofNat_Int, Int.reduceAdd, Int.reduceSub, Int.reduceMul]) rfl⟩
    · have r8 : (k : Int).tdiv 8 = 2 := by rw [Int.tdiv_eq_ediv_of_nonneg (by omega)]; omega
      have r9 := byte_w2 a r hr
      rw [show 16 + r = k by omega] at r9
      simp -implicitDefEqProofs (maxSteps := 10000000) only [byS, uC, bL_len, Int.toNat_natCast, Nat.mul_one, r0, r1, r2, r3, r4, r5, r6, r7, r8, r9, hset, hlt, hle, vy_succ, vmB, slim, slimOp, gO, gSO, qSO, quietOp, cS, qSB, eK, calmOp, guardS, gK, qK, putK, plK, dOk, St.ev, St.get, St.mem, St.set, St.setm, St.put, lookA, look, newK, nextver, initT, seqE, blockQ, bodyQ, resK, retV, AV.rdv, agg_uV, ↓binK, ↓intK, unK, ↓loadK, ↓withKey_eq, ↓idxAddrK, ↓indexK, ↓partK, ↓fieldK, ↓fieldAddrK, ↓convK, ↓callK, wrG, updK, ↓lenK, ↓mmK, ↓appK, ↓copyK, ↓sliceK, ↓toArrK, nilK, evs, plains, seqParts, capsOf, capsD, AV.dv, AV.cont, ↓buildV_eq, fillL, placesOf, ↓storeK, wrL, RV.av, DV.av, List.set, Nat.reduceEqDiff, Nat.reduceAdd, Nat.reduceSub, Nat.reduceMul, Nat.reduceLT, Nat.reduceLeDiff, Nat.reduceMod, Nat.reduceDiv, Int.reduceLT, Int.reduceLE, Int.reduceToNat, ↓reduceIte, reduceCtorEq, Value.oneCell', Int.reduceAdd, Int.reduceSub, Int.reduceMod, Int.reduceMul, Int.reduceNeg, Int.reduceBEq, Int.reduceBNe, Int.reduceTDiv, Int.reduceTMod, Int.reduceEq, tyB, Try.underlying13, Try.underlying25, Try.underlying26, Try.underlying39, Try.underlying40, Try.underlying72, Try.underlying73]
      exact ⟨i + 1, by omega, (by show 32 - (i + 1) < 32 - i; omega), Sub.of (by simp -implicitDefEqProofs only [subT, byS, look, lookA, newK, St.get, St.mem, List.map_cons, List.map_nil, List.all_cons, List.all_nil, List.length_cons, List.length_nil, List.getElem?_cons_zero, List.getElem?_cons_succ, Nat.reduceEqDiff, Nat.reduceAdd, Option.some.injEq, ↓reduceIte, true_and, and_true, reduceCtorEq, beq_self_eq_true, Bool.and_true, ne_eq, not_false_eq_true, not_true_eq_false, Nat.add_zero, Nat.zero_add, Nat.reduceSub, Nat.reduceMul, Int.cast_ofNat_Int, Int.reduceAdd, Int.reduceSub, Int.reduceMul, Int.natCast_add, Int.natCast_one]) (by simp -implicitDefEqProofs only [subM, byS, uC, look, lookA, newK, St.get, St.mem, List.map_cons, List.map_nil, List.all_cons, List.all_nil, List.length_cons, List.length_nil, List.getElem?_cons_zero, List.getElem?_cons_succ, Nat.reduceEqDiff, Nat.reduceAdd, Option.some.injEq, ↓reduceIte, true_and, and_true, reduceCtorEq, beq_self_eq_true, Bool.and_true, ne_eq, not_false_eq_true, not_true_eq_false, Nat.add_zero, Nat.zero_add, Nat.reduceSub, Nat.reduceMul, Int.cast_ofNat_Int, Int.reduceAdd, Int.reduceSub, Int.reduceMul]) rfl⟩
    · have r8 : (k : Int).tdiv 8 = 3 := by rw [Int.tdiv_eq_ediv_of_nonneg (by omega)]; omega
      have r9 := byte_w3 a r hr
      rw [show 24 + r = k by omega] at r9
      simp -implicitDefEqProofs (maxSteps := 10000000) only [byS, uC, bL_len, Int.toNat_natCast, Nat.mul_one, r0, r1, r2, r3, r4, r5, r6, r7, r8, r9, hset, hlt, hle, vy_succ, vmB, slim, slimOp, gO, gSO, qSO, quietOp, cS, qSB, eK, calmOp, guardS, gK, qK, putK, plK, dOk, St.ev, St.get, St.mem, St.set, St.setm, St.put, lookA, look, newK, nextver, initT, seqE, blockQ, bodyQ, resK, retV, AV.rdv, agg_uV, ↓binK, ↓intK, unK, ↓loadK, ↓withKey_eq, ↓idxAddrK, ↓indexK, ↓partK, ↓fieldK, ↓fieldAddrK, ↓convK, ↓callK, wrG, updK, ↓lenK, ↓mmK, ↓appK, ↓copyK, ↓sliceK, ↓toArrK, nilK, evs, plains, seqParts, capsOf, capsD, AV.dv, AV.cont, ↓buildV_eq, fillL, placesOf, ↓storeK, wrL, RV.av, DV.av, List.set, Nat.reduceEqDiff, Nat.reduceAdd, Nat.reduceSub, Nat.reduceMul, Nat.reduceLT, Nat.reduceLeDiff, Nat.reduceMod, Nat.reduceDiv, Int.reduceLT, Int.reduceLE, Int.reduceToNat, ↓reduceIte, reduceCtorEq, Value.oneCell', Int.reduceAdd, Int.reduceSub, Int.reduceMod, Int.reduceMul, Int.reduceNeg, Int.reduceBEq, Int.reduceBNe, Int.reduceTDiv, Int.reduceTMod, Int.reduceEq, tyB, Try.underlying13, Try.underlying25, Try.underlying26, Try.underlying39, Try.underlying40, Try.underlying72, Try.underlying73]
      exact ⟨i + 1, by omega, (by show 32 - (i + 1) < 32 - i; omega), Sub.of (by simp -implicitDefEqProofs only [subT, byS, look, lookA, newK, St.get, St.mem, List.map_cons, List.map_nil, List.all_cons, List.all_nil, List.length_cons, List.length_nil, List.getElem?_cons_zero, List.getElem?_cons_succ, Nat.reduceEqDiff, Nat.reduceAdd, Option.some.injEq, ↓reduceIte, true_and, and_true, reduceCtorEq, beq_self_eq_true, Bool.and_true, ne_eq, not_false_eq_true, not_true_eq_false, Nat.add_zero, Nat.zero_add, Nat.reduceSub, Nat.reduceMul, Int.cast_ofNat_Int, Int.reduceAdd, Int.reduceSub, Int.reduceMul, Int.natCast_add, Int.natCast_one]) (by simp -implicitDefEqProofs only [subM, byS, uC, look, lookA, newK, St.get, St.mem, List.map_cons, List.map_nil, List.all_cons, List.all_nil, List.length_cons, List.length_nil, List.getElem?_cons_zero, List.getElem?_cons_succ, Nat.reduceEqDiff, Nat.reduceAdd, Option.some.injEq, ↓reduceIte, true_and, and_true, reduceCtorEq, beq_self_eq_true, Bool.and_true, ne_eq, not_false_eq_true, not_true_eq_false, Nat.add_zero, Nat.zero_add, Nat.reduceSub, Nat.reduceMul, Int.cast_ofNat_Int, Int.reduceAdd, Int.reduceSub, Int.reduceMul]) rfl⟩
  · have r0 : decide ((i : Int) < 32) = false := decide_eq_false (by omega)
    have e : i = 32 := by omega
    subst e
    simp -implicitDefEqProofs (maxSteps := 10000000) only [vy_succ, vmB, slim, slimOp, gO, gSO, qSO, quietOp, cS, qSB, eK, calmOp, guardS, gK, qK, putK, plK, dOk, St.ev, St.get, St.mem, St.set, St.setm, St.put, lookA, look, newK, nextver, initT, seqE, blockQ, bodyQ, resK, retV, AV.rdv, agg_uV, ↓binK, ↓intK, unK, ↓loadK, ↓withKey_eq, ↓idxAddrK, ↓indexK, ↓partK, ↓fieldK, ↓fieldAddrK, ↓convK, ↓callK, wrG, updK, ↓lenK, ↓mmK, ↓appK, ↓copyK, ↓sliceK, ↓toArrK, nilK, evs, plains, seqParts, capsOf, capsD, AV.dv, AV.cont, ↓buildV_eq, fillL, placesOf, ↓storeK, wrL, RV.av, DV.av, List.set, Nat.reduceEqDiff, Nat.reduceAdd, Nat.reduceSub, Nat.reduceMul, Nat.reduceLT, Nat.reduceLeDiff, Nat.reduceMod, Nat.reduceDiv, Int.reduceLT, Int.reduceLE, Int.reduceToNat, ↓reduceIte, reduceCtorEq, Value.oneCell', Int.reduceAdd, Int.reduceSub, Int.reduceMod, Int.reduceMul, Int.reduceNeg, Int.reduceBEq, Int.reduceBNe, Int.reduceTDiv, Int.reduceTMod, Int.reduceEq, tyB, Try.underlying13, Try.underlying25, Try.underlying26, Try.underlying39, Try.underlying40, Try.underlying72, Try.underlying73, byS, uC, bL_len, bL_take, bL_u8s, r0]

/-! ### From -/
theorem put_w0 (o b r : Nat) (hr : r < 8) (hb : b < 256) (hz : o % 256 ^ (0 + r + 1) = 0) : bits .or .u64 (w0 o : Nat) (IntKind.u64.wrap ((b : Int) * 2 ^ (min ((8 * (r : Int)).toNat) IntKind.u64.bits))) = (w0 (o + b * 256 ^ (0 + r)) : Nat) ∧ w1 (o + b * 256 ^ (0 + r)) = w1 o ∧ w2 (o + b * 256 ^ (0 + r)) = w2 o ∧ w3 (o + b * 256 ^ (0 + r)) = w3 o := by
  have key : ∀ n, (8 * (r : Int)).toNat = n → n ≤ 64 → w0 o % 2 ^ n = 0 → b * 2 ^ n < 2 ^ n * 256 → w0 o + b * 2 ^ n < 18446744073709551616 → bits .or .u64 (w0 o : Nat) (IntKind.u64.wrap ((b : Int) * 2 ^ (min ((8 * (r : Int)).toNat) IntKind.u64.bits))) = ((w0 o ||| b * 2 ^ n : Nat) : Int) := by
    intro n e hn h1 h2 h3
    have e1 : min ((8 * (r : Int)).toNat) IntKind.u64.bits = n := by
      have : IntKind.u64.bits = 64 := rfl
      omega
    have e2 : IntKind.u64.wrap ((b : Int) * 2 ^ n) = ((b * 2 ^ n : Nat) : Int) := by
      have : ((b * 2 ^ n : Nat) : Int) = (b : Int) * 2 ^ n := by simp
      rw [← this]
      exact u64_nat _ (by omega)
    rw [e1, e2]
    exact bits_or_u64_nat _ _ (w0_lt o) (by omega)
  simp only [w0_eq, w1_eq, w2_eq, w3_eq] at *
  have hc : r = 0 ∨ r = 1 ∨ r = 2 ∨ r = 3 ∨ r = 4 ∨ r = 5 ∨ r = 6 ∨ r = 7 := by omega
  rcases hc with rfl | rfl | rfl | rfl | rfl | rfl | rfl | rfl <;> simp only [Nat.reduceMul, Nat.reduceAdd, Nat.reducePow] at hz ⊢
  · refine ⟨?_, by omega, by omega, by omega⟩
    rw [key 0 rfl (by omega) (by simp only [Nat.reducePow]; omega) (by simp only [Nat.reducePow]; omega) (by simp only [Nat.reducePow]; omega)]
    have h9 := Nat.two_pow_add_eq_or_of_lt (i := 8) (b := b * 1) (by simp only [Nat.reducePow]; omega) ((o % 18446744073709551616) / 256)
    simp only [Nat.reducePow] at h9 ⊢
    rw [show 256 * ((o % 18446744073709551616) / 256) = o % 18446744073709551616 by omega] at h9
    rw [← h9]
    omega
  · refine ⟨?_, by omega, by omega, by omega⟩
    rw [key 8 rfl (by omega) (by simp only [Nat.reducePow]; omega) (by simp only [Nat.reducePow]; omega) (by simp only [Nat.reducePow]; omega)]
    have h9 := Nat.two_pow_add_eq_or_of_lt (i := 16) (b := b * 256) (by simp only [Nat.reducePow]; omega) ((o % 18446744073709551616) / 65536)
    simp only [Nat.reducePow] at h9 ⊢
    rw [show 65536 * ((o % 18446744073709551616) / 65536) = o % 18446744073709551616 by omega] at h9
    rw [← h9]
    omega
  · refine ⟨?_, by omega, by omega, by omega⟩
    rw [key 16 rfl (by omega) (by simp only [Nat.reducePow]; omega) (by simp only [Nat.reducePow]; omega) (by simp only [Nat.reducePow]; omega)]
    have h9 := Nat.two_pow_add_eq_or_of_lt (i := 24) (b := b * 65536) (by simp only [Nat.reducePow]; omega) ((o % 18446744073709551616) / 16777216)
    simp only [Nat.reducePow] at h9 ⊢
    rw [show 16777216 * ((o % 18446744073709551616) / 16777216) = o % 18446744073709551616 by omega] at h9
    rw [← h9]
    omega
  · refine ⟨?_, by omega, by omega, by omega⟩
    rw [key 24 rfl (by omega) (by simp only [Nat.reducePow]; omega) (by simp only [Nat.reducePow]; omega) (by simp only [Nat.reducePow]; omega)]
    have h9 := Nat.two_pow_add_eq_or_of_lt (i := 32) (b := b * 16777216) (by simp only [Nat.reducePow]; omega) ((o % 18446744073709551616) / 4294967296)
    simp only [Nat.reducePow] at h9 ⊢
    rw [show 4294967296 * ((o % 18446744073709551616) / 4294967296) = o % 18446744073709551616 by omega] at h9
    rw [← h9]
    omega
  · refine ⟨?_, by omega, by omega, by omega⟩
    rw [key 32 rfl (by omega) (by simp only [Nat.reducePow]; omega) (by simp only [Nat.reducePow]; omega) (by simp only [Nat.reducePow]; omega)]
    have h9 := Nat.two_pow_add_eq_or_of_lt (i := 40) (b := b * 4294967296) (by simp only [Nat.reducePow]; omega) ((o % 18446744073709551616) / 1099511627776)
    simp only [Nat.reducePow] at h9 ⊢
    rw [show 1099511627776 * ((o % 18446744073709551616) / 1099511627776) = o % 18446744073709551616 by omega] at h9
    rw [← h9]
    omega
  · refine ⟨?_, by omega, by omega, by omega⟩
    rw [key 40 rfl (by omega) (by simp only [Nat.reducePow]; omega) (by simp only [Nat.reducePow]; omega) (by simp only [Nat.reducePow]; omega)]
    have h9 := Nat.two_pow_add_eq_or_of_lt (i := 48) (b := b * 1099511627776) (by simp only [Nat.reducePow]; omega) ((o % 18446744073709551616) / 281474976710656)
    simp only [Nat.reducePow] at h9 ⊢
    rw [show 281474976710656 * ((o % 18446744073709551616) / 281474976710656) = o % 18446744073709551616 by omega] at h9
    rw [← h9]
    omega
  · refine ⟨?_, by omega, by omega, by omega⟩
    rw [key 48 rfl (by omega) (by simp only [Nat.reducePow]; omega) (by simp only [Nat.reducePow]; omega) (by simp only [Nat.reducePow]; omega)]
    have h9 := Nat.two_pow_add_eq_or_of_lt (i := 56) (b := b * 281474976710656) (by simp only [Nat.reducePow]; omega) ((o % 18446744073709551616) / 72057594037927936)
    simp only [Nat.reducePow] at h9 ⊢
    rw [show 72057594037927936 * ((o % 18446744073709551616) / 72057594037927936) = o % 18446744073709551616 by omega] at h9
    rw [← h9]
    omega
  · refine ⟨?_, by omega, by omega, by omega⟩
    rw [key 56 rfl (by omega) (by simp only [Nat.reducePow]; omega) (by simp only [Nat.reducePow]; omega) (by simp only [Nat.reducePow]; omega)]
    have h9 := Nat.two_pow_add_eq_or_of_lt (i := 64) (b := b * 72057594037927936) (by simp only [Nat.reducePow]; omega) ((o % 18446744073709551616) / 18446744073709551616)
    simp only [Nat.reducePow] at h9 ⊢
    rw [show 18446744073709551616 * ((o % 18446744073709551616) / 18446744073709551616) = o % 18446744073709551616 by omega] at h9
    rw [← h9]
    omega
theorem put_w1 (o b r : Nat) (hr : r < 8) (hb : b < 256) (hz : o % 256 ^ (8 + r + 1) = 0) : bits .or .u64 (w1 o : Nat) (IntKind.u64.wrap ((b : Int) * 2 ^ (min ((8 * (r : Int)).toNat) IntKind.u64.bits))) = (w1 (o + b * 256 ^ (8 + r)) : Nat) ∧ w0 (o + b * 256 ^ (8 + r)) = w0 o ∧ w2 (o + b * 256 ^ (8 + r)) = w2 o ∧ w3 (o + b * 256 ^ (8 + r)) = w3 o := by
  have key : ∀ n, (8 * (r : Int)).toNat = n → n ≤ 64 → w1 o % 2 ^ n = 0 → b * 2 ^ n < 2 ^ n * 256 → w1 o + b * 2 ^ n < 18446744073709551616 → bits .or .u64 (w1 o : Nat) (IntKind.u64.wrap ((b : Int) * 2 ^ (min ((8 * (r : Int)).toNat) IntKind.u64.bits))) = ((w1 o ||| b * 2 ^ n : Nat) : Int) := by
    intro n e hn h1 h2 h3
    have e1 : min ((8 * (r : Int)).toNat) IntKind.u64.bits = n := by
      have : IntKind.u64.bits = 64 := rfl
      omega
    have e2 : IntKind.u64.wrap ((b : Int) * 2 ^ n) = ((b * 2 ^ n : Nat) : Int) := by
      have : ((b * 2 ^ n : Nat) : Int) = (b : Int) * 2 ^ n := by simp
      rw [← this]
      exact u64_nat _ (by omega)
    rw [e1, e2]
    exact bits_or_u64_nat _ _ (w1_lt o) (by omega)
  simp only [w0_eq, w1_eq, w2_eq, w3_eq] at *
  have hc : r = 0 ∨ r = 1 ∨ r = 2 ∨ r = 3 ∨ r = 4 ∨ r = 5 ∨ r = 6 ∨ r = 7 := by omega
  rcases hc with rfl | rfl | rfl | rfl | rfl | rfl | rfl | rfl <;> simp only [Nat.reduceMul, Nat.reduceAdd, Nat.reducePow] at hz ⊢
  · refine ⟨?_, by omega, by omega, by omega⟩
    rw [key 0 rfl (by omega) (by simp only [Nat.reducePow]; omega) (by simp only [Nat.reducePow]; omega) (by simp only [Nat.reducePow]; omega)]
    have h9 := Nat.two_pow_add_eq_or_of_lt (i := 8) (b := b * 1) (by simp only [Nat.reducePow]; omega) ((o / 18446744073709551616 % 18446744073709551616) / 256)
    simp only [Nat.reducePow] at h9 ⊢
    rw [show 256 * ((o / 18446744073709551616 % 18446744073709551616) / 256) = o / 18446744073709551616 % 18446744073709551616 by omega] at h9
    rw [← h9]
    omega
  · refine ⟨?_, by omega, by omega, by omega⟩
    rw [key 8 rfl (by omega) (by simp only [Nat.reducePow]; omega) (by simp only [Nat.reducePow]; omega) (by simp only [Nat.reducePow]; omega)]
    have h9 := Nat.two_pow_add_eq_or_of_lt (i := 16) (b := b * 256) (by simp only [Nat.reducePow]; omega) ((o / 18446744073709551616 % 18446744073709551616) / 65536)
    simp only [Nat.reducePow] at h9 ⊢
    rw [show 65536 * ((o / 18446744073709551616 % 18446744073709551616) / 65536) = o / 18446744073709551616 % 18446744073709551616 by omega] at h9
    rw [← h9]
    omega
  · refine ⟨?_, by omega, by omega, by omega⟩
    rw [key 16 rfl (by omega) (by simp only [Nat.reducePow]; omega) (by simp only [Nat.reducePow]; omega) (by simp only [Nat.reducePow]; omega)]
    have h9 := Nat.two_pow_add_eq_or_of_lt (i := 24) (b := b * 65536) (by simp only [Nat.reducePow]; omega) ((o / 18446744073709551616 % 18446744073709551616) / 16777216)
    simp only [Nat.reducePow] at h9 ⊢
    rw [show 16777216 * ((o / 18446744073709551616 % 18446744073709551616) / 16777216) = o / 18446744073709551616 % 18446744073709551616 by omega] at h9
    rw [← h9]
    omega
  · refine ⟨?_, by omega, by omega, by omega⟩
    rw [key 24 rfl (by omega) (by simp only [Nat.reducePow]; omega) (by simp only [Nat.reducePow]; omega) (by simp only [Nat.reducePow]; omega)]
    have h9 := Nat.two_pow_add_eq_or_of_lt (i := 32) (b := b * 16777216) (by simp only [Nat.reducePow]; omega) ((o / 18446744073709551616 % 18446744073709551616) / 4294967296)
    simp only [Nat.reducePow] at h9 ⊢
    rw [show 4294967296 * ((o / 18446744073709551616 % 18446744073709551616) / 4294967296) = o / 18446744073709551616 % 18446744073709551616 by omega] at h9
    rw [← h9]
    omega
  · refine ⟨?_, by omega, by omega, by omega⟩
    rw [key 32 rfl (by omega) (by simp only [Nat.reducePow]; omega) (by simp only [Nat.reducePow]; omega) (by simp only [Nat.reducePow]; omega)]
    have h9 := Nat.two_pow_add_eq_or_of_lt (i := 40) (b := b * 4294967296) (by simp only [Nat.reducePow]; omega) ((o / 18446744073709551616 % 18446744073709551616) / 1099511627776)
    simp only [Nat.reducePow] at h9 ⊢
    rw [show 1099511627776 * ((o / 18446744073709551616 % 18446744073709551616) / 1099511627776) = o / 18446744073709551616 % 18446744073709551616 by omega] at h9
    rw [← h9]
    omega
  · refine ⟨?_, by omega, by omega, by omega⟩
    rw [key 40 rfl (by omega) (by simp only [Nat.reducePow]; omega) (by simp only [Nat.reducePow]; omega) (by simp only [Nat.reducePow]; omega)]
    have h9 := Nat.two_pow_add_eq_or_of_lt (i := 48) (b := b * 1099511627776) (by simp only [Nat.reducePow]; omega) ((o / 18446744073709551616 % 18446744073709551616) / 281474976710656)
    simp only [Nat.reducePow] at h9 ⊢
    rw [show 281474976710656 * ((o / 18446744073709551616 % 18446744073709551616) / 281474976710656) = o / 18446744073709551616 % 18446744073709551616 by omega] at h9
    rw [← h9]
    omega
  · refine ⟨?_, by omega, by omega, by omega⟩
    rw [key 48 rfl (by omega) (by simp only [Nat.reducePow]; omega) (by simp only [Nat.reducePow]; omega) (by simp only [Nat.reducePow]; omega)]
    have h9 := Nat.two_pow_add_eq_or_of_lt (i := 56) (b := b * 281474976710656) (by simp only [Nat.reducePow]; omega) ((o / 18446744073709551616 % 18446744073709551616) / 72057594037927936)
    simp only [Nat.reducePow] at h9 ⊢
    rw [show 72057594037927936 * ((o / 18446744073709551616 % 18446744073709551616) / 72057594037927936) = o / 18446744073709551616 % 18446744073709551616 by omega] at h9
    rw [← h9]
    omega
  · refine ⟨?_, by omega, by omega, by omega⟩
    rw [key 56 rfl (by omega) (by simp only [Nat.reducePow]; omega) (by simp only [Nat.reducePow]; omega) (by simp only [Nat.reducePow]; omega)]
    have h9 := Nat.two_pow_add_eq_or_of_lt (i := 64) (b := b * 72057594037927936) (by simp only [Nat.reducePow]; omega) ((o / 18446744073709551616 % 18446744073709551616) / 18446744073709551616)
    simp only [Nat.reducePow] at h9 ⊢
    rw [show 18446744073709551616 * ((o / 18446744073709551616 % 18446744073709551616) / 18446744073709551616) = o / 18446744073709551616 % 18446744073709551616 by omega] at h9
    rw [← h9]
    omega
theorem put_w2 (o b r : Nat) (hr : r < 8) (hb : b < 256) (hz : o % 256 ^ (16 + r + 1) = 0) : bits .or .u64 (w2 o : Nat) (IntKind.u64.wrap ((b : Int) * 2 ^ (min ((8 * (r : Int)).toNat) IntKind.u64.bits))) = (w2 (o + b * 256 ^ (16 + r)) : Nat) ∧ w0 (o + b * 256 ^ (16 + r)) = w0 o ∧ w1 (o + b * 256 ^ (16 + r)) = w1 o ∧ w3 (o + b * 256 ^ (16 + r)) = w3 o := by
  have key : ∀ n, (8 * (r : Int)).toNat = n → n ≤ 64 → w2 o % 2 ^ n = 0 → b * 2 ^ n < 2 ^ n * 256 → w2 o + b * 2 ^ n < 18446744073709551616 → bits .or .u64 (w2 o : Nat) (IntKind.u64.wrap ((b : Int) * 2 ^ (min ((8 * (r : Int)).toNat) IntKind.u64.bits))) = ((w2 o ||| b * 2 ^ n : Nat) : Int) := by
    intro n e hn h1 h2 h3
    have e1 : min ((8 * (r : Int)).toNat) IntKind.u64.bits = n := by
      have : IntKind.u64.bits = 64 := rfl
      omega
    have e2 : IntKind.u64.wrap ((b : Int) * 2 ^ n) = ((b * 2 ^ n : Nat) : Int) := by
      have : ((b * 2 ^ n : Nat) : Int) = (b : Int) * 2 ^ n := by simp
      rw [← this]
      exact u64_nat _ (by omega)
    rw [e1, e2]
    exact bits_or_u64_nat _ _ (w2_lt o) (by omega)
  simp only [w0_eq, w1_eq, w2_eq, w3_eq] at *
  have hc : r = 0 ∨ r = 1 ∨ r = 2 ∨ r = 3 ∨ r = 4 ∨ r = 5 ∨ r = 6 ∨ r = 7 := by omega
  rcases hc with rfl | rfl | rfl | rfl | rfl | rfl | rfl | rfl <;> simp only [Nat.reduceMul, Nat.reduceAdd, Nat.reducePow] at hz ⊢
  · refine ⟨?_, by omega, by omega, by omega⟩
    rw [key 0 rfl (by omega) (by simp only [Nat.reducePow]; omega) (by simp only [Nat.reducePow]; omega) (by simp only [Nat.reducePow]; omega)]
    have h9 := Nat.two_pow_add_eq_or_of_lt (i := 8) (b := b * 1) (by simp only [Nat.reducePow]; omega) ((o / 340282366920938463463374607431768211456 % 18446744073709551616) / 256)
    simp only [Nat.reducePow] at h9 ⊢
    rw [show 256 * ((o / 340282366920938463463374607431768211456 % 18446744073709551616) / 256) = o / 340282366920938463463374607431768211456 % 18446744073709551616 by omega] at h9
    rw [← h9]
    omega
  · refine ⟨?_, by omega, by omega, by omega⟩
    rw [key 8 rfl (by omega) (by simp only [Nat.reducePow]; omega) (by simp only [Nat.reducePow]; omega) (by simp only [Nat.reducePow]; omega)]
    have h9 := Nat.two_pow_add_eq_or_of_lt (i := 16) (b := b * 256) (by simp only [Nat.reducePow]; omega) ((o / 340282366920938463463374607431768211456 % 18446744073709551616) / 65536)
    simp only [Nat.reducePow] at h9 ⊢
    rw [show 65536 * ((o / 340282366920938463463374607431768211456 % 18446744073709551616) / 65536) = o / 340282366920938463463374607431768211456 % 18446744073709551616 by omega] at h9
    rw [← h9]
    omega
  · refine ⟨?_, by omega, by omega, by omega⟩
    rw [key 16 rfl (by omega) (by simp only [Nat.reducePow]; omega) (by simp only [Nat.reducePow]; omega) (by simp only [Nat.reducePow]; omega)]
    have h9 := Nat.two_pow_add_eq_or_of_lt (i := 24) (b := b * 65536) (by simp only [Nat.reducePow]; omega) ((o / 340282366920938463463374607431768211456 % 18446744073709551616) / 16777216)
    simp only [Nat.reducePow] at h9 ⊢
    rw [show 16777216 * ((o / 340282366920938463463374607431768211456 % 18446744073709551616) / 16777216) = o / 340282366920938463463374607431768211456 % 18446744073709551616 by omega] at h9
    rw [← h9]
    omega
  · refine ⟨?_, by omega, by omega, by omega⟩
    rw [key 24 rfl (by omega) (by simp only [Nat.reducePow]; omega) (by simp only [Nat.reducePow]; omega) (by simp only [Nat.reducePow]; omega)]
    have h9 := Nat.two_pow_add_eq_or_of_lt (i := 32) (b := b * 16777216) (by simp only [Nat.reducePow]; omega) ((o / 340282366920938463463374607431768211456 % 18446744073709551616) / 4294967296)
    simp only [Nat.reducePow] at h9 ⊢
    rw [show 4294967296 * ((o / 340282366920938463463374607431768211456 % 18446744073709551616) / 4294967296) = o / 340282366920938463463374607431768211456 % 18446744073709551616 by omega] at h9
    rw [← h9]
    omega
  · refine ⟨?_, by omega, by omega, by omega⟩
    rw [key 32 rfl (by omega) (by simp only [Nat.reducePow]; omega) (by simp only [Nat.reducePow]; omega) (by simp only [Nat.reducePow]; omega)]
    have h9 := Nat.two_pow_add_eq_or_of_lt (i := 40) (b := b * 4294967296) (by simp only [Nat.reducePow]; omega) ((o / 340282366920938463463374607431768211456 % 18446744073709551616) / 1099511627776)
    simp only [Nat.reducePow] at h9 ⊢
    rw [show 1099511627776 * ((o / 340282366920938463463374607431768211456 % 18446744073709551616) / 1099511627776) = o / 340282366920938463463374607431768211456 % 18446744073709551616 by omega] at h9
    rw [← h9]
    omega
  · refine ⟨?_, by omega, by omega, by omega⟩
    rw [key 40 rfl (by omega) (by simp only [Nat.reducePow]; omega) (by simp only [Nat.reducePow]; omega) (by simp only [Nat.reducePow]; omega)]
    have h9 := Nat.two_pow_add_eq_or_of_lt (i := 48) (b := b * 1099511627776) (by simp only [Nat.reducePow]; omega) ((o / 340282366920938463463374607431768211456 % 18446744073709551616) / 281474976710656)
    simp only [Nat.reducePow] at h9 ⊢
    rw [show 281474976710656 * ((o / 340282366920938463463374607431768211456 % 18446744073709551616) / 281474976710656) = o / 340282366920938463463374607431768211456 % 18446744073709551616 by omega] at h9
    rw [← h9]
    omega
  · refine ⟨?_, by omega, by omega, by omega⟩
    rw [key 48 rfl (by omega) (by simp only [Nat.reducePow]; omega) (by simp only [Nat.reducePow]; omega) (by simp only [Nat.reducePow]; omega)]
    have h9 := Nat.two_pow_add_eq_or_of_lt (i := 56) (b := b * 281474976710656) (by simp only [Nat.reducePow]; omega) ((o / 340282366920938463463374607431768211456 % 18446744073709551616) / 72057594037927936)
    simp only [Nat.reducePow] at h9 ⊢
    rw [show 72057594037927936 * ((o / 340282366920938463463374607431768211456 % 18446744073709551616) / 72057594037927936) = o / 340282366920938463463374607431768211456 % 18446744073709551616 by omega] at h9
    rw [← h9]
    omega
  · refine ⟨?_, by omega, by omega, by omega⟩
    rw [key 56 rfl (by omega) (by simp only [Nat.reducePow]; omega) (by simp only [Nat.reducePow]; omega) (by simp only [Nat.reducePow]; omega)]
    have h9 := Nat.two_pow_add_eq_or_of_lt (i := 64) (b := b * 72057594037927936) (by simp only [Nat.reducePow]; omega) ((o / 340282366920938463463374607431768211456 % 18446744073709551616) / 18446744073709551616)
    simp only [Nat.reducePow] at h9 ⊢
    rw [show 18446744073709551616 * ((o / 340282366920938463463374607431768211456 % 18446744073709551616) / 18446744073709551616) = o / 340282366920938463463374607431768211456 % 18446744073709551616 by omega] at h9
    rw [← h9]
    omega
theorem put_w3 (o b r : Nat) (hr : r < 8) (hb : b < 256) (hz : o % 256 ^ (24 + r + 1) = 0) : bits .or .u64 (w3 o : Nat) (IntKind.u64.wrap ((b : Int) * 2 ^ (min ((8 * (r : Int)).toNat) IntKind.u64.bits))) = (w3 (o + b * 256 ^ (24 + r)) : Nat) ∧ w0 (o + b * 256 ^ (24 + r)) = w0 o ∧ w1 (o + b * 256 ^ (24 + r)) = w1 o ∧ w2 (o + b * 256 ^ (24 + r)) = w2 o := by
  have key : ∀ n, (8 * (r : Int)).toNat = n → n ≤ 64 → w3 o % 2 ^ n = 0 → b * 2 ^ n < 2 ^ n * 256 → w3 o + b * 2 ^ n < 18446744073709551616 → bits .or .u64 (w3 o : Nat) (IntKind.u64.wrap ((b : Int) * 2 ^ (min ((8 * (r : Int)).toNat) IntKind.u64.bits))) = ((w3 o ||| b * 2 ^ n : Nat) : Int) := by
    intro n e hn h1 h2 h3
    have e1 : min ((8 * (r : Int)).toNat) IntKind.u64.bits = n := by
      have : IntKind.u64.bits = 64 := rfl
      omega
    have e2 : IntKind.u64.wrap ((b : Int) * 2 ^ n) = ((b * 2 ^ n : Nat) : Int) := by
      have : ((b * 2 ^ n : Nat) : Int) = (b : Int) * 2 ^ n := by simp
      rw [← this]
      exact u64_nat _ (by omega)
    rw [e1, e2]
    exact bits_or_u64_nat _ _ (w3_lt o) (by omega)
  simp only [w0_eq, w1_eq, w2_eq, w3_eq] at *
  have hc : r = 0 ∨ r = 1 ∨ r = 2 ∨ r = 3 ∨ r = 4 ∨ r = 5 ∨ r = 6 ∨ r = 7 := by omega
  rcases hc with rfl | rfl | rfl | rfl | rfl | rfl | rfl | rfl <;> simp only [Nat.reduceMul, Nat.reduceAdd, Nat.reducePow] at hz ⊢
  · refine ⟨?_, by omega, by omega, by omega⟩
    rw [key 0 rfl (by omega) (by simp only [Nat.reducePow]; omega) (by simp only [Nat.reducePow]; omega) (by simp only [Nat.reducePow]; omega)]
    have h9 := Nat.two_pow_add_eq_or_of_lt (i := 8) (b := b * 1) (by simp only [Nat.reducePow]; omega) ((o / 6277101735386680763835789423207666416102355444464034512896 % 18446744073709551616) / 256)
    simp only [Nat.reducePow] at h9 ⊢
    rw [show 256 * ((o / 6277101735386680763835789423207666416102355444464034512896 % 18446744073709551616) / 256) = o / 6277101735386680763835789423207666416102355444464034512896 % 18446744073709551616 by omega] at h9
    rw [← h9]
    omega
  · refine ⟨?_, by omega, by omega, by omega⟩
    rw [key 8 rfl (by omega) (by simp only [Nat.reducePow]; omega) (by simp only [Nat.reducePow]; omega) (by simp only [Nat.reducePow]; omega)]
    have h9 := Nat.two_pow_add_eq_or_of_lt (i := 16) (b := b * 256) (by simp only [Nat.reducePow]; omega) ((o / 6277101735386680763835789423207666416102355444464034512896 % 18446744073709551616) / 65536)
    simp only [Nat.reducePow] at h9 ⊢
    rw [show 65536 * ((o / 6277101735386680763835789423207666416102355444464034512896 % 18446744073709551616) / 65536) = o / 6277101735386680763835789423207666416102355444464034512896 % 18446744073709551616 by omega] at h9
    rw [← h9]
    omega
  · refine ⟨?_, by omega, by omega, by omega⟩
    rw [key 16 rfl (by omega) (by simp only [Nat.reducePow]; omega) (by simp only [Nat.reducePow]; omega) (by simp only [Nat.reducePow]; omega)]
    have h9 := Nat.two_pow_add_eq_or_of_lt (i := 24) (b := b * 65536) (by simp only [Nat.reducePow]; omega) ((o / 6277101735386680763835789423207666416102355444464034512896 % 18446744073709551616) / 16777216)
    simp only [Nat.reducePow] at h9 ⊢
    rw [show 16777216 * ((o / 6277101735386680763835789423207666416102355444464034512896 % 18446744073709551616) / 16777216) = o / 6277101735386680763835789423207666416102355444464034512896 % 18446744073709551616 by omega] at h9
    rw [← h9]
    omega
  · refine ⟨?_, by omega, by omega, by omega⟩
    rw [key 24 rfl (by omega) (by simp only [Nat.reducePow]; omega) (by simp only [Nat.reducePow]; omega) (by simp only [Nat.reducePow]; omega)]
    have h9 := Nat.two_pow_add_eq_or_of_lt (i := 32) (b := b * 16777216) (by simp only [Nat.reducePow]; omega) ((o / 6277101735386680763835789423207666416102355444464034512896 % 18446744073709551616) / 4294967296)
    simp only [Nat.reducePow] at h9 ⊢
    rw [show 4294967296 * ((o / 6277101735386680763835789423207666416102355444464034512896 % 18446744073709551616) / 4294967296) = o / 6277101735386680763835789423207666416102355444464034512896 % 18446744073709551616 by omega] at h9
    rw [← h9]
    omega
  · refine ⟨?_, by omega, by omega, by omega⟩
    rw [key 32 rfl (by omega) (by simp only [Nat.reducePow]; omega) (by simp only [Nat.reducePow]; omega) (by simp only [Nat.reducePow]; omega)]
    have h9 := Nat.two_pow_add_eq_or_of_lt (i := 40) (b := b * 4294967296) (by simp only [Nat.reducePow]; omega) ((o / 6277101735386680763835789423207666416102355444464034512896 % 18446744073709551616) / 1099511627776)
    simp only [Nat.reducePow] at h9 ⊢
    rw [show 1099511627776 * ((o / 6277101735386680763835789423207666416102355444464034512896 % 18446744073709551616) / 1099511627776) = o / 6277101735386680763835789423207666416102355444464034512896 % 18446744073709551616 by omega] at h9
    rw [← h9]
    omega
  · refine ⟨?_, by omega, by omega, by omega⟩
    rw [key 40 rfl (by omega) (by simp only [Nat.reducePow]; omega) (by simp only [Nat.reducePow]; omega) (by simp only [Nat.reducePow]; omega)]
    have h9 := Nat.two_pow_add_eq_or_of_lt (i := 48) (b := b * 1099511627776) (by simp only [Nat.reducePow]; omega) ((o / 6277101735386680763835789423207666416102355444464034512896 % 18446744073709551616) / 281474976710656)
    simp only [Nat.reducePow] at h9 ⊢
    rw [show 281474976710656 * ((o / 6277101735386680763835789423207666416102355444464034512896 % 18446744073709551616) / 281474976710656) = o / 6277101735386680763835789423207666416102355444464034512896 % 18446744073709551616 by omega] at h9
    rw [← h9]
    omega
  · refine ⟨?_, by omega, by omega, by omega⟩
    rw [key 48 rfl (by omega) (by simp only [Nat.reducePow]; omega) (by simp only [Nat.reducePow]; omega) (by simp only [Nat.reducePow]; omega)]
    have h9 := Nat.two_pow_add_eq_or_of_lt (i := 56) (b := b * 281474976710656) (by simp only [Nat.reducePow]; omega) ((o / 6277101735386680763835789423207666416102355444464034512896 % 18446744073709551616) / 72057594037927936)
    simp only [Nat.reducePow] at h9 ⊢
    rw [show 72057594037927936 * ((o / 6277101735386680763835789423207666416102355444464034512896 % 18446744073709551616) / 72057594037927936) = o / 6277101735386680763835789423207666416102355444464034512896 % 18446744073709551616 by omega] at h9
    rw [← h9]
    omega
  · refine ⟨?_, by omega, by omega, by omega⟩
    rw [key 56 rfl (by omega) (by simp only [Nat.reducePow]; omega) (by simp only [Nat.reducePow]; omega) (by simp only [Nat.reducePow]; omega)]
    have h9 := Nat.two_pow_add_eq_or_of_lt (i := 64) (b := b * 72057594037927936) (by simp only [Nat.reducePow]; omega) ((o / 6277101735386680763835789423207666416102355444464034512896 % 18446744073709551616) / 18446744073709551616)
    simp only [Nat.reducePow] at h9 ⊢
    rw [show 18446744073709551616 * ((o / 6277101735386680763835789423207666416102355444464034512896 % 18446744073709551616) / 18446744073709551616) = o / 6277101735386680763835789423207666416102355444464034512896 % 18446744073709551616 by omega] at h9
    rw [← h9]
    omega

def strN (l : List UInt8) : Nat := l.foldl (fun n b => 256 * n + b.toNat) 0
theorem strN_snoc (l : List UInt8) (b : UInt8) : strN (l ++ [b]) = 256 * strN l + b.toNat := by simp [strN]
noncomputable def fP (s : ByteArray) (i : Nat) : Nat := Classical.choose (⟨strN (s.data.toList.take i) * 256 ^ (s.size - i), rfl⟩ : ∃ x : Nat, x = strN (s.data.toList.take i) * 256 ^ (s.size - i))
theorem fP_eq (s : ByteArray) (i : Nat) : fP s i = strN (s.data.toList.take i) * 256 ^ (s.size - i) := Classical.choose_spec (⟨strN (s.data.toList.take i) * 256 ^ (s.size - i), rfl⟩ : ∃ x : Nat, x = strN (s.data.toList.take i) * 256 ^ (s.size - i))
theorem fP_0 (s : ByteArray) : fP s 0 = 0 := by rw [fP_eq]; simp [strN]
theorem fP_end (s : ByteArray) : fP s s.size = strN s.data.toList := by
  rw [fP_eq, Nat.sub_self, Nat.pow_zero, Nat.mul_one, List.take_of_length_le (by simp)]
theorem fP_step (s : ByteArray) (i k : Nat) (h : i < s.size) (hk : s.size - 1 - i = k) : fP s (i + 1) = fP s i + (s[i]?.getD 0).toNat * 256 ^ k ∧ fP s i % 256 ^ (k + 1) = 0 := by
  have e : s.size - i = k + 1 := by omega
  have e2 : s.size - (i + 1) = k := by omega
  have hd : s.data.toList[i]? = some (s[i]?.getD 0) := by
    have h2 : i < s.data.size := h
    simp [h2, h]
    rfl
  rw [fP_eq, fP_eq, e, e2]
  constructor
  · rw [List.take_add_one, hd]
    simp only [Option.toList_some]
    rw [strN_snoc, Nat.add_mul, Nat.pow_succ]
    congr 1
    rw [Nat.mul_comm 256, Nat.mul_assoc, Nat.mul_comm 256]
  · exact Nat.mul_mod_left _ _

noncomputable def fromG : List DV → Option RV
  | [.pl (.string s)] => some (if s.size ≤ 32 then .tup [.pl (uV (strN s.data.toList)), .pl (.int .i64 0)] else .tup [.pl (uV 0), .pl (.int .i64 4)])
  | _ => none

noncomputable def frS (s : ByteArray) (i : Nat) : St := ⟨[(13, .pl (.int .i64 (i : Nat))), (12, .pl (.int .i64 (s.size : Nat))), (4, .ptr 4 0 0), (2, .ptr 2 0 0), (0, .pl (.string s))], [(4, uC (fP s i)), (2, ⟨0, 24, [.int .u64 0, .int .u64 0, .int .u64 0, .int .u64 0]⟩)]⟩

set_option maxHeartbeats 4000000 in
theorem from_long (s : ByteArray) (hs : ¬ s.size ≤ 32) : Spec Try.prog 40 [.pl (.string s)] (.tup [.pl (uV 0), .pl (.int .i64 4)]) := by
  have hΓ : Env.ok [] Try.prog := ok_nil _
  have r0 : decide (32 < (s.size : Int)) = true := decide_eq_true (by omega)
  refine Spec.of_vx hΓ follows_mixed Try.func40 rfl (by kernel_rfl) (T := []) (by simp [Try.ntmps40]) (by kernel_rfl) rfl Try.ntmps40 (res := [.cell 2 24, .tmp 3]) rfl ?_
  intro W
  simp -implicitDefEqProofs (maxSteps := 10000000) only [vy_succ, vmB, slim, slimOp, gO, gSO, qSO, quietOp, cS, qSB, eK, calmOp, guardS, gK, qK, putK, plK, dOk, St.ev, St.get, St.mem, St.set, St.setm, St.put, lookA, look, newK, nextver, initT, seqE, blockQ, bodyQ, resK, retV, AV.rdv, agg_uV, ↓binK, ↓intK, unK, ↓loadK, ↓withKey_eq, ↓idxAddrK, ↓indexK, ↓partK, ↓fieldK, ↓fieldAddrK, ↓convK, ↓callK, wrG, updK, ↓lenK, ↓mmK, ↓appK, ↓copyK, ↓sliceK, ↓toArrK, nilK, evs, plains, seqParts, capsOf, capsD, AV.dv, AV.cont, ↓buildV_eq, fillL, placesOf, ↓storeK, wrL, RV.av, DV.av, List.set, Nat.reduceEqDiff, Nat.reduceAdd, Nat.reduceSub, Nat.reduceMul, Nat.reduceLT, Nat.reduceLeDiff, Nat.reduceMod, Nat.reduceDiv, Int.reduceLT, Int.reduceLE, Int.reduceToNat, ↓reduceIte, reduceCtorEq, Value.oneCell', Int.reduceAdd, Int.reduceSub, Int.reduceMod, Int.reduceMul, Int.reduceNeg, Int.reduceBEq, Int.reduceBNe, Int.reduceTDiv, Int.reduceTMod, Int.reduceEq, tyB, Try.underlying13, Try.underlying25, Try.underlying26, Try.underlying39, Try.underlying40, Try.underlying72, Try.underlying73, r0]
  rw [show Value.agg #[.int .u64 0, .int .u64 0, .int .u64 0, .int .u64 0] = uV 0 from uV_0]

set_option maxHeartbeats 4000000 in
theorem from_short (s : ByteArray) (hs : s.size ≤ 32) : Spec Try.prog 40 [.pl (.string s)] (.tup [.pl (uV (strN s.data.toList)), .pl (.int .i64 0)]) := by
  have hΓ : Env.ok [] Try.prog := ok_nil _
  have r0 : decide (32 < (s.size : Int)) = false := decide_eq_false (by omega)
  have hz := fP_0 s
  refine Spec.of_vx hΓ follows_mixed Try.func40 rfl (by kernel_rfl) (T := []) (by simp [Try.ntmps40]) (by kernel_rfl) rfl Try.ntmps40 (res := [.cell 2 24, .tmp 3]) rfl ?_
  intro W
  simp -implicitDefEqProofs (maxSteps := 10000000) only [vy_succ, vmB, slim, slimOp, gO, gSO, qSO, quietOp, cS, qSB, eK, calmOp, guardS, gK, qK, putK, plK, dOk, St.ev, St.get, St.mem, St.set, St.setm, St.put, lookA, look, newK, nextver, initT, seqE, blockQ, bodyQ, resK, retV, AV.rdv, agg_uV, ↓binK, ↓intK, unK, ↓loadK, ↓withKey_eq, ↓idxAddrK, ↓indexK, ↓partK, ↓fieldK, ↓fieldAddrK, ↓convK, ↓callK, wrG, updK, ↓lenK, ↓mmK, ↓appK, ↓copyK, ↓sliceK, ↓toArrK, nilK, evs, plains, seqParts, capsOf, capsD, AV.dv, AV.cont, ↓buildV_eq, fillL, placesOf, ↓storeK, wrL, RV.av, DV.av, List.set, Nat.reduceEqDiff, Nat.reduceAdd, Nat.reduceSub, Nat.reduceMul, Nat.reduceLT, Nat.reduceLeDiff, Nat.reduceMod, Nat.reduceDiv, Int.reduceLT, Int.reduceLE, Int.reduceToNat, ↓reduceIte, reduceCtorEq, Value.oneCell', Int.reduceAdd, Int.reduceSub, Int.reduceMod, Int.reduceMul, Int.reduceNeg, Int.reduceBEq, Int.reduceBNe, Int.reduceTDiv, Int.reduceTMod, Int.reduceEq, tyB, Try.underlying13, Try.underlying25, Try.underlying26, Try.underlying39, Try.underlying40, Try.underlying72, Try.underlying73, r0]
  refine VT_loop hΓ follows_mixed (frS s) (fun i => i ≤ s.size) (fun i => s.size - i) 0 (Sub.of (by simp -implicitDefEqProofs only [subT, frS, look, lookA, newK, St.get, St.mem, List.map_cons, List.map_nil, List.all_cons, List.all_nil, List.length_cons, List.length_nil, List.getElem?_cons_zero, List.getElem?_cons_succ, Nat.reduceEqDiff, Nat.reduceAdd, Option.some.injEq, ↓reduceIte, true_and, and_true, reduceCtorEq, beq_self_eq_true, Bool.and_true, ne_eq, not_false_eq_true, not_true_eq_false, Nat.add_zero, Nat.zero_add, Nat.reduceSub, Nat.reduceMul, Int.cast_ofNat_Int, Int.reduceAdd, Int.reduceSub, Int.reduceMul, Int.natCast_zero]) (by simp -implicitDefEqProofs only [subM, frS, uC, hz, w_zero, look, lookA, newK, St.get, St.mem, List.map_cons, List.map_nil, List.all_cons, List.all_nil, List.length_cons, List.length_nil, List.getElem?_cons_zero, List.getElem?_cons_succ, Nat.reduceEqDiff, Nat.reduceAdd, Option.some.injEq, ↓reduceIte, true_and, and_true, reduceCtorEq, beq_self_eq_true, Bool.and_true, ne_eq, not_false_eq_true, not_true_eq_false, Nat.add_zero, Nat.zero_add, Nat.reduceSub, Nat.reduceMul, Int.cast_ofNat_Int, Int.reduceAdd, Int.reduceSub, Int.reduceMul, Int.natCast_zero]) rfl) (by omega) ?_
  intro i hi
  by_cases hlt : i < s.size
  · have q0 : decide ((i : Int) < (s.size : Int)) = true := decide_eq_true (by omega)
    obtain ⟨q, r, k, hr, hq, hk, hk2⟩ : ∃ q r k : Nat, r < 8 ∧ q < 4 ∧ s.size - 1 - i = k ∧ k = 8 * q + r := ⟨(s.size - 1 - i) / 8, (s.size - 1 - i) % 8, s.size - 1 - i, by omega, by omega, rfl, by omega⟩
    obtain ⟨hstep, hmod⟩ := fP_step s i k hlt hk
    have hb : (s[i]?.getD 0).toNat < 256 := UInt8.toNat_lt _
    generalize hB : s[i]?.getD 0 = B at *
    have q1 : IntKind.i64.wrap (IntKind.i64.wrap ((s.size : Int) - 1) - (i : Int)) = (k : Int) := by
      rw [i64_in (x := (s.size : Int) - 1) (by omega) (by omega), i64_in (by omega) (by omega)]; omega
    have q2 : (k : Int).tmod 8 = (r : Int) := by rw [Int.tmod_eq_emod_of_nonneg (by omega)]; omega
    have q3 : IntKind.i64.wrap (8 * (r : Int)) = 8 * (r : Int) := i64_in (by omega) (by omega)
    have q4 : (0 : Int) ≤ 8 * (r : Int) := by omega
    have q5 : (0 : Int) ≤ (i : Int) := by omega
    have q6 : (i : Int) < (s.size : Int) := by omega
    have q7 : IntKind.i64.wrap ((i : Int) + 1) = (i : Int) + 1 := i64_in (by omega) (by omega)
    have q8 : IntKind.u64.wrap ((B.toNat : Nat) : Int) = ((B.toNat : Nat) : Int) := u64_nat _ (by omega)
    rw [IntKind.wrap_u64] at q8
    have hq4 : q = 0 ∨ q = 1 ∨ q = 2 ∨ q = 3 := by omega
    rcases hq4 with rfl | rfl | rfl | rfl
    · have q9 : (k : Int).tdiv 8 = 0 := by rw [Int.tdiv_eq_ediv_of_nonneg (by omega)]; omega
      have hp := put_w0 (fP s i) B.toNat r hr hb (by rw [show 0 + r = k by omega]; exact hmod)
      rw [show 0 + r = k by omega, ← hstep, IntKind.wrap_u64] at hp
      obtain ⟨p0, p1, p2, p3⟩ := hp
      simp -implicitDefEqProofs (maxSteps := 10000000) only [frS, uC, hB, Int.toNat_natCast, q0, q1, q2, q3, q4, q5, q6, q7, q8, q9, p0, vy_succ, vmB, slim, slimOp, gO, gSO, qSO, quietOp, cS, qSB, eK, calmOp, guardS, gK, qK, putK, plK, dOk, St.ev, St.get, St.mem, St.set, St.setm, St.put, lookA, look, newK, nextver, initT, seqE, blockQ, bodyQ, resK, retV, AV.rdv, agg_uV, ↓binK, ↓intK, unK, ↓loadK, ↓withKey_eq, ↓idxAddrK, ↓indexK, ↓partK, ↓fieldK, ↓fieldAddrK, ↓convK, ↓callK, wrG, updK, ↓lenK, ↓mmK, ↓appK, ↓copyK, ↓sliceK, ↓toArrK, nilK, evs, plains, seqParts, capsOf, capsD, AV.dv, AV.cont, ↓buildV_eq, fillL, placesOf, ↓storeK, wrL, RV.av, DV.av, List.set, Nat.reduceEqDiff, Nat.reduceAdd, Nat.reduceSub, Nat.reduceMul, Nat.reduceLT, Nat.reduceLeDiff, Nat.reduceMod, Nat.reduceDiv, Int.reduceLT, Int.reduceLE, Int.reduceToNat, ↓reduceIte, reduceCtorEq, Value.oneCell', Int.reduceAdd, Int.reduceSub, Int.reduceMod, Int.reduceMul, Int.reduceNeg, Int.reduceBEq, Int.reduceBNe, Int.reduceTDiv, Int.reduceTMod, Int.reduceEq, tyB, Try.underlying13, Try.underlying25, Try.underlying26, Try.underlying39, Try.underlying40, Try.underlying72, Try.underlying73]
      exact ⟨i + 1, by omega, (by show s.size - (i + 1) < s.size - i; omega), Sub.of (by simp -implicitDefEqProofs only [subT, frS, look, lookA, newK, St.get, St.mem, List.map_cons, List.map_nil, List.all_cons, List.all_nil, List.length_cons, List.length_nil, List.getElem?_cons_zero, List.getElem?_cons_succ, Nat.reduceEqDiff, Nat.reduceAdd, Option.some.injEq, ↓reduceIte, true_and, and_true, reduceCtorEq, beq_self_eq_true, Bool.and_true, ne_eq, not_false_eq_true, not_true_eq_false, Nat.add_zero, Nat.zero_add, Nat.reduceSub, Nat.reduceMul, Int.cast_ofNat_Int, Int.reduceAdd, Int.reduceSub, Int.reduceMul, Int.natCast_add, Int.natCast_one]) (by simp -implicitDefEqProofs only [subM, frS, uC, p1, p2, p3, look, lookA, newK, St.get, St.mem, List.map_cons, List.map_nil, List.all_cons, List.all_nil, List.length_cons, List.length_nil, List.getElem?_cons_zero, List.getElem?_cons_succ, Nat.reduceEqDiff, Nat.reduceAdd, Option.some.injEq, ↓reduceIte, true_and, and_true, reduceCtorEq, beq_self_eq_true, Bool.and_true, ne_eq, not_false_eq_true, not_true_eq_false, Nat.add_zero, Nat.zero_add, Nat.reduceSub, Nat.reduceMul, Int.cast_ofNat_Int, Int.reduceAdd, Int.reduceSub, Int.reduceMul]) rfl⟩
    · have q9 : (k : Int).tdiv 8 = 1 := by rw [Int.tdiv_eq_ediv_of_nonneg (by omega)]; omega
      have hp := put_w1 (fP s i) B.toNat r hr hb (by rw [show 8 + r = k by omega]; exact hmod)
      rw [show 8 + r = k by omega, ← hstep, IntKind.wrap_u64] at hp
      obtain ⟨p0, p1, p2, p3⟩ := hp
      simp -implicitDefEqProofs (maxSteps := 10000000) only [frS, uC, hB, Int.toNat_natCast, q0, q1, q2, q3, q4, q5, q6, q7, q8, q9, p0, vy_succ, vmB, slim, slimOp, gO, gSO, qSO, quietOp, cS, qSB, eK, calmOp, guardS, gK, qK, putK, plK, dOk, St.ev, St.get, St.mem, St.set, St.setm, St.put, lookA, look, newK, nextver, initT, seqE, blockQ, bodyQ, resK, retV, AV.rdv, agg_uV, ↓binK, ↓intK, unK, ↓loadK, ↓withKey_eq, ↓idxAddrK, ↓indexK, ↓partK, ↓fieldK, ↓fieldAddrK, ↓convK, ↓callK, wrG, updK, ↓lenK, ↓mmK, ↓appK, ↓copyK, ↓sliceK, ↓toArrK, nilK, evs, plains, seqParts, capsOf, capsD, AV.dv, AV.cont, ↓buildV_eq, fillL, placesOf, ↓storeK, wrL, RV.av, DV.av, List.set, Nat.reduceEqDiff, Nat.reduceAdd, Nat.reduceSub, Nat.reduceMul, Nat.reduceLT, Nat.reduceLeDiff, Nat.reduceMod, Nat.reduceDiv, Int.reduceLT, Int.reduceLE, Int.reduceToNat, ↓reduceIte, reduceCtorEq, Value.oneCell', Int.reduceAdd, Int.reduceSub, Int.reduceMod, Int.reduceMul, Int.reduceNeg, Int.reduceBEq, Int.reduceBNe, Int.reduceTDiv, Int.reduceTMod, Int.reduceEq, tyB, Try.underlying13, Try.underlying25, Try.underlying26, Try.underlying39, Try.underlying40, Try.underlying72, Try.underlying73]
      exact ⟨i + 1, by omega, (by show s.size - (i + 1) < s.size - i; omega), Sub.of (by simp -implicitDefEqProofs only [subT, frS, look, lookA, newK, St.get, St.mem, List.map_cons, List.map_nil, List.all_cons, List.all_nil, List.length_cons, List.length_nil, List.getElem?_cons_zero, List.getElem?_cons_succ, Nat.reduceEqDiff, Nat.reduceAdd, Option.some.injEq, ↓reduceIte, true_and, and_true, reduceCtorEq, beq_self_eq_true, Bool.and_true, ne_eq, not_false_eq_true, not_true_eq_false, Nat.add_zero, Nat.zero_add, Nat.reduceSub, Nat.reduceMul, Int.cast_ofNat_Int, Int.reduceAdd, Int.reduceSub, Int.reduceMul, Int.natCast_add, Int.natCast_one]) (by simp -implicitDefEqProofs only [subM, frS, uC, p1, p2, p3, look, lookA, newK, St.get, St.mem, List.map_cons, List.map_nil, List.all_cons, List.all_nil, List.length_cons, List.length_nil, List.getElem?_cons_zero, List.getElem?_cons_succ, Nat.reduceEqDiff, Nat.reduceAdd, Option.some.injEq, ↓reduceIte, true_and, and_true, reduceCtorEq, beq_self_eq_true, Bool.and_true, ne_eq, not_false_eq_true, not_true_eq_false, Nat.add_zero, Nat.zero_add, Nat.reduceSub, Nat.reduceMul, Int.cast_ofNat_Int, Int.reduceAdd, Int.reduceSub, Int.reduceMul]) rfl⟩
    · have q9 : (k : Int).tdiv 8 = 2 := by rw [Int.tdiv_eq_ediv_of_nonneg (by omega)]; omega
      have hp := put_w2 (fP s i) B.toNat r hr hb (by rw [show 16 + r = k by omega]; exact hmod)
      rw [show 16 + r = k by omega, ← hstep, IntKind.wrap_u64] at hp
      obtain ⟨p0, p1, p2, p3⟩ := hp
      simp -implicitDefEqProofs (maxSteps := 10000000) only [frS, uC, hB, Int.toNat_natCast, q0, q1, q2, q3, q4, q5, q6, q7, q8, q9, p0, vy_succ, vmB, slim, slimOp, gO, gSO, qSO, quietOp, cS, qSB, eK, calmOp, guardS, gK, qK, putK, plK, dOk, St.ev, St.get, St.mem, St.set, St.setm, St.put, lookA, look, newK, nextver, initT, seqE, blockQ, bodyQ, resK, retV, AV.rdv, agg_uV, ↓binK, ↓intK, unK, ↓loadK, ↓withKey_eq, ↓idxAddrK, ↓indexK, ↓partK, ↓fieldK, ↓fieldAddrK, ↓convK, ↓callK, wrG, updK, ↓lenK, ↓mmK, ↓appK, ↓copyK, ↓sliceK, ↓toArrK, nilK, evs, plains, seqParts, capsOf, capsD, AV.dv, AV.cont, ↓buildV_eq, fillL, placesOf, ↓storeK, wrL, RV.av, DV.av, List.set, Nat.reduceEqDiff, Nat.reduceAdd, Nat.reduceSub, Nat.reduceMul, Nat.reduceLT, Nat.reduceLeDiff, Nat.reduceMod, Nat.reduceDiv, Int.reduceLT, Int.reduceLE, Int.reduceToNat, ↓reduceIte, reduceCtorEq, Value.oneCell', Int.reduceAdd, Int.reduceSub, Int.reduceMod, Int.reduceMul, Int.reduceNeg, Int.reduceBEq, Int.reduceBNe, Int.reduceTDiv, Int.reduceTMod, Int.reduceEq, tyB, Try.underlying13, Try.underlying25, Try.underlying26, Try.underlying39, Try.underlying40, Try.underlying72, Try.underlying73]
      exact ⟨i + 1, by omega, (by show s.size - (i + 1) < s.size - i; omega), Sub.of (by simp -implicitDefEqProofs only [subT, frS, look, lookA, newK, St.get, St.mem, List.map_cons, List.map_nil, List.all_cons, List.all_nil, List.length_cons, List.length_nil, List.getElem?_cons_zero, List.getElem?_cons_succ, Nat.reduceEqDiff, Nat.reduceAdd, Option.some.injEq, ↓reduceIte, true_and, and_true, reduceCtorEq, beq_self_eq_true, Bool.and_true, ne_eq, not_false_eq_true, not_true_eq_false, Nat.add_zero, Nat.zero_add, Nat.reduceSub, Nat.reduceMul, Int.cast_ofNat_Int, Int.reduceAdd, Int.reduceSub, Int.reduceMul, Int.natCast_add, Int.natCast_one]) (by simp -implicitDefEqProofs only [subM, frS, uC, p1, p2, p3, look, lookA, newK, St.get, St.mem, List.map_cons, List.map_nil, List.all_cons, List.all_nil, List.length_cons, List.length_nil, List.getElem?_cons_zero, List.getElem?_cons_succ, Nat.reduceEqDiff, Nat.reduceAdd, Option.some.injEq, ↓reduceIte, true_and, and_true, reduceCtorEq, beq_self_eq_true, Bool.and_true, ne_eq, not_false_eq_true, not_true_eq_false, Nat.add_zero, Nat.zero_add, Nat.reduceSub, Nat.reduceMul, Int.cast_ofNat_Int, Int.reduceAdd, Int.reduceSub, Int.reduceMul]) rfl⟩
    · have q9 : (k : Int).tdiv 8 = 3 := by rw [Int.tdiv_eq_ediv_of_nonneg (by omega)]; omega
      have hp := put_w3 (fP s i) B.toNat r hr hb (by rw [show 24 + r = k by omega]; exact hmod)
      rw [show 24 + r = k by omega, ← hstep, IntKind.wrap_u64] at hp
      obtain ⟨p0, p1, p2, p3⟩ := hp
      simp -implicitDefEqProofs (maxSteps := 10000000) only [frS, uC, hB, Int.toNat_natCast, q0, q1, q2, q3, q4, q5, q6, q7, q8, q9, p0, vy_succ, vmB, slim, slimOp, gO, gSO, qSO, quietOp, cS, qSB, eK, calmOp, guardS, gK, qK, putK, plK, dOk, St.ev, St.get, St.mem, St.set, St.setm, St.put, lookA, look, newK, nextver, initT, seqE, blockQ, bodyQ, resK, retV, AV.rdv, agg_uV, ↓binK, ↓intK, unK, ↓loadK, ↓withKey_eq, ↓idxAddrK, ↓indexK, ↓partK, ↓fieldK, ↓fieldAddrK, ↓convK, ↓callK, wrG, updK, ↓lenK, ↓mmK, ↓appK, ↓copyK, ↓sliceK, ↓toArrK, nilK, evs, plains, seqParts, capsOf, capsD, AV.dv, AV.cont, ↓buildV_eq, fillL, placesOf, ↓storeK, wrL, RV.av, DV.av, List.set, Nat.reduceEqDiff, Nat.reduceAdd, Nat.reduceSub, Nat.reduceMul, Nat.reduceLT, Nat.reduceLeDiff, Nat.reduceMod, Nat.reduceDiv, Int.reduceLT, Int.reduceLE, Int.reduceToNat, ↓reduceIte, reduceCtorEq, Value.oneCell', Int.reduceAdd, Int.reduceSub, Int.reduceMod, Int.reduceMul, Int.reduceNeg, Int.reduceBEq, Int.reduceBNe, Int.reduceTDiv, Int.reduceTMod, Int.reduceEq, tyB, Try.underlying13, Try.underlying25, Try.underlying26, Try.underlying39, Try.underlying40, Try.underlying72, Try.underlying73]
      exact ⟨i + 1, by omega, (by show s.size - (i + 1) < s.size - i; omega), Sub.of (by simp -implicitDefEqProofs only [subT, frS, look, lookA, newK, St.get, St.mem, List.map_cons, List.map_nil, List.all_cons, List.all_nil, List.length_cons, List.length_nil, List.getElem?_cons_zero, List.getElem?_cons_succ, Nat.reduceEqDiff, Nat.reduceAdd, Option.some.injEq, ↓reduceIte, true_and, and_true, reduceCtorEq, beq_self_eq_true, Bool.and_true, ne_eq, not_false_eq_true, not_true_eq_false, Nat.add_zero, Nat.zero_add, Nat.reduceSub, Nat.reduceMul, Int.cast_ofNat_Int, Int.reduceAdd, Int.reduceSub, Int.reduceMul, Int.natCast_add, Int.natCast_one]) (by simp -implicitDefEqProofs only [subM, frS, uC, p1, p2, p3, look, lookA, newK, St.get, St.mem, List.map_cons, List.map_nil, List.all_cons, List.all_nil, List.length_cons, List.length_nil, List.getElem?_cons_zero, List.getElem?_cons_succ, Nat.reduceEqDiff, Nat.reduceAdd, Option.some.injEq, ↓reduceIte, true_and, and_true, reduceCtorEq, beq_self_eq_true, Bool.and_true, ne_eq, not_false_eq_true, not_true_eq_false, Nat.add_zero, Nat.zero_add, Nat.reduceSub, Nat.reduceMul, Int.cast_ofNat_Int, Int.reduceAdd, Int.reduceSub, Int.reduceMul]) rfl⟩
  · have q0 : decide ((i : Int) < (s.size : Int)) = false := decide_eq_false (by omega)
    have e : i = s.size := by omega
    subst e
    have hend := fP_end s
    simp -implicitDefEqProofs (maxSteps := 10000000) only [vy_succ, vmB, slim, slimOp, gO, gSO, qSO, quietOp, cS, qSB, eK, calmOp, guardS, gK, qK, putK, plK, dOk, St.ev, St.get, St.mem, St.set, St.setm, St.put, lookA, look, newK, nextver, initT, seqE, blockQ, bodyQ, resK, retV, AV.rdv, agg_uV, ↓binK, ↓intK, unK, ↓loadK, ↓withKey_eq, ↓idxAddrK, ↓indexK, ↓partK, ↓fieldK, ↓fieldAddrK, ↓convK, ↓callK, wrG, updK, ↓lenK, ↓mmK, ↓appK, ↓copyK, ↓sliceK, ↓toArrK, nilK, evs, plains, seqParts, capsOf, capsD, AV.dv, AV.cont, ↓buildV_eq, fillL, placesOf, ↓storeK, wrL, RV.av, DV.av, List.set, Nat.reduceEqDiff, Nat.reduceAdd, Nat.reduceSub, Nat.reduceMul, Nat.reduceLT, Nat.reduceLeDiff, Nat.reduceMod, Nat.reduceDiv, Int.reduceLT, Int.reduceLE, Int.reduceToNat, ↓reduceIte, reduceCtorEq, Value.oneCell', Int.reduceAdd, Int.reduceSub, Int.reduceMod, Int.reduceMul, Int.reduceNeg, Int.reduceBEq, Int.reduceBNe, Int.reduceTDiv, Int.reduceTMod, Int.reduceEq, tyB, Try.underlying13, Try.underlying25, Try.underlying26, Try.underlying39, Try.underlying40, Try.underlying72, Try.underlying73, frS, uC, hend, q0]

theorem from_ok : ∀ ds r, fromG ds = some r → Spec Try.prog 40 ds r := by
  intro ds r h
  unfold fromG at h
  split at h
  case h_2 => cases h
  rename_i s
  cases h
  split
  · rename_i hs; exact from_short s hs
  · rename_i hs; exact from_long s hs
end Go.Vm

/- Contracts of the reference: Bytes, Bits, From. No condition. -/
set_option maxRecDepth 100000
set_option linter.unusedSimpArgs false
set_option linter.unusedVariables false
namespace Go.Vm
open Go Go.RowKit Go.Proofs

/-! ### Bytes -/
theorem pow_65536 (i : Nat) : 65536 ^ i = 256 ^ (2 * i) := by rw [show (65536 : Nat) = 256 ^ 2 from rfl, ← Nat.pow_mul]
theorem dg_high (a i : Nat) : dg a i / 256 = byteN a (2 * i + 1) := by
  rw [dg_eq, byteN_eq, pow_65536, Nat.pow_succ, ← Nat.div_div_eq_div_mul]
  generalize a / 256 ^ (2 * i) = y
  omega
theorem dg_low (a i : Nat) : dg a i % 256 = byteN a (2 * i) := by
  rw [dg_eq, byteN_eq, pow_65536]
  generalize a / 256 ^ (2 * i) = y
  omega
noncomputable def bV (a k : Nat) : List Value := Classical.choose (⟨(List.range k).map fun q => .int .u8 (byteN a (31 - q) : Nat), rfl⟩ : ∃ l : List Value, l = (List.range k).map fun q => .int .u8 (byteN a (31 - q) : Nat))
theorem bV_eq (a k : Nat) : bV a k = (List.range k).map fun q => .int .u8 (byteN a (31 - q) : Nat) := Classical.choose_spec (⟨(List.range k).map fun q => .int .u8 (byteN a (31 - q) : Nat), rfl⟩ : ∃ l : List Value, l = (List.range k).map fun q => .int .u8 (byteN a (31 - q) : Nat))
theorem bV_len (a k : Nat) : (bV a k).length = k := by rw [bV_eq]; simp
theorem bV_0 (a : Nat) : bV a 0 = [] := by rw [bV_eq]; rfl
theorem bV_snoc (a t i : Nat) (h : i + t = 15) : bV a (2 * t) ++ [.int .u8 (byteN a (2 * i + 1) : Nat), .int .u8 (byteN a (2 * i) : Nat)] = bV a (2 * (t + 1)) := by
  rw [show 2 * (t + 1) = 2 * t + 1 + 1 by omega, bV_eq, bV_eq, List.range_succ, List.range_succ]
  simp only [List.map_append, List.map_cons, List.map_nil, List.append_assoc, List.cons_append, List.nil_append]
  rw [show 31 - (2 * t) = 2 * i + 1 by omega, show 31 - (2 * t + 1) = 2 * i by omega]
theorem bV_u8s (a : Nat) : u8s (bV a 32) = some (bytesL a) := by
  have e : bV a 32 = ((List.range 32).map fun j => ((byteN a (31 - j) : Nat) : Int)).map (Value.int .u8) := by rw [bV_eq, List.map_map]; rfl
  rw [e, u8s_map, bytesL_eq, List.map_map]
  rfl

noncomputable def rbS (a t : Nat) : St := ⟨[(5, .pl (.int .i64 (15 - (t : Int)))), (4, .sl 8 t 0 (2 * t)), (3, .vec true (digV 16 a))], [(8, ⟨t, 5, bV a (2 * t)⟩)]⟩

set_option maxHeartbeats 4000000 in
theorem rbytes_walk (a : Nat) (ha : a < full) : Spec Try.prog 34 [.pl (uV a)] (.one (.pl (.string (bstr (bytesL a))))) := by
  have hΓ : Env.ok [(35, ofG)] Try.prog := ok_cons of_ok (ok_nil _)
  have ta : toN (uV a) = some a := toN_lt ha
  have ld := digV_len 16 a
  refine Spec.of_vx hΓ follows_mixed Try.func34 rfl (by kernel_rfl) (T := []) (by simp [Try.ntmps34]) (by kernel_rfl) rfl Try.ntmps34 (res := [.tmp 2]) rfl ?_
  intro W
  simp -implicitDefEqProofs (maxSteps := 10000000) only [vy_succ, vmB, slim, slimOp, gO, gSO, qSO, quietOp, cS, qSB, eK, calmOp, guardS, gK, qK, putK, plK, dOk, St.ev, St.get, St.mem, St.set, St.setm, St.put, lookA, look, newK, nextver, initT, seqE, blockQ, bodyQ, resK, retV, AV.rdv, agg_uV, ↓binK, ↓intK, unK, ↓loadK, ↓withKey_eq, ↓idxAddrK, ↓indexK, ↓partK, ↓fieldK, ↓fieldAddrK, ↓convK, ↓callK, wrG, updK, ↓lenK, ↓mmK, ↓appK, ↓copyK, ↓sliceK, ↓toArrK, nilK, evs, plains, seqParts, capsOf, capsD, AV.dv, AV.cont, ↓buildV_eq, fillL, placesOf, ↓storeK, wrL, RV.av, DV.av, List.set, Nat.reduceEqDiff, Nat.reduceAdd, Nat.reduceSub, Nat.reduceMul, Nat.reduceLT, Nat.reduceLeDiff, Nat.reduceMod, Nat.reduceDiv, Int.reduceLT, Int.reduceLE, Int.reduceToNat, ↓reduceIte, reduceCtorEq, Value.oneCell', Int.reduceAdd, Int.reduceSub, Int.reduceMod, Int.reduceMul, Int.reduceNeg, Int.reduceBEq, Int.reduceBNe, Int.reduceTDiv, Int.reduceTMod, Int.reduceEq, tyB, Try.underlying13, Try.underlying25, Try.underlying26, Try.underlying39, Try.underlying40, Try.underlying72, Try.underlying73, ofG, ta]
  refine VT_loop hΓ follows_mixed (rbS a) (fun t => t ≤ 16) (fun t => 16 - t) 0 (Sub.of (by simp -implicitDefEqProofs only [subT, rbS, look, lookA, newK, St.get, St.mem, List.map_cons, List.map_nil, List.all_cons, List.all_nil, List.length_cons, List.length_nil, List.getElem?_cons_zero, List.getElem?_cons_succ, Nat.reduceEqDiff, Nat.reduceAdd, Option.some.injEq, ↓reduceIte, true_and, and_true, reduceCtorEq, beq_self_eq_true, Bool.and_true, ne_eq, not_false_eq_true, not_true_eq_false, Nat.add_zero, Nat.zero_add, Nat.reduceSub, Nat.reduceMul, Int.cast_ofNat_Int, Int.reduceAdd, Int.reduceSub, Int.reduceMul, Int.natCast_zero, Int.sub_zero, Nat.mul_zero]) (by simp -implicitDefEqProofs only [subM, rbS, bV_0, look, lookA, newK, St.get, St.mem, List.map_cons, List.map_nil, List.all_cons, List.all_nil, List.length_cons, List.length_nil, List.getElem?_cons_zero, List.getElem?_cons_succ, Nat.reduceEqDiff, Nat.reduceAdd, Option.some.injEq, ↓reduceIte, true_and, and_true, reduceCtorEq, beq_self_eq_true, Bool.and_true, ne_eq, not_false_eq_true, not_true_eq_false, Nat.add_zero, Nat.zero_add, Nat.reduceSub, Nat.reduceMul, Int.cast_ofNat_Int, Int.reduceAdd, Int.reduceSub, Int.reduceMul, Int.natCast_zero, Nat.mul_zero]) rfl) (by omega) ?_
  intro t ht
  have lb := bV_len a (2 * t)
  by_cases hlt : t < 16
  · obtain ⟨i, hi⟩ : ∃ i, i + t = 15 := ⟨15 - t, by omega⟩
    have e : (15 : Int) - (t : Int) = (i : Int) := by omega
    have r0 : decide (0 ≤ (i : Int)) = true := decide_eq_true (by omega)
    have r1 : (0 : Int) ≤ (i : Int) := by omega
    have r2 : IntKind.i64.wrap ((i : Int) - 1) = 15 - ((t : Int) + 1) := by rw [i64_in (by omega) (by omega)]; omega
    have r3 := digV_get 16 a i (by omega)
    have r4 : (i : Int) < 16 := by omega
    have hd := dg_lt a i
    have h1 := dg_high a i
    have h2 := dg_low a i
    have b1 := byteN_lt a (2 * i + 1)
    have b2 := byteN_lt a (2 * i)
    have f1 : IntKind.i64.wrap (((dg a i : Nat) : Int).tdiv 256) = ((byteN a (2 * i + 1) : Nat) : Int) := by rw [Int.tdiv_eq_ediv_of_nonneg (by omega), ← h1, i64_in (by omega) (by omega)]; omega
    have f2 : ((dg a i : Nat) : Int).tmod 256 = ((byteN a (2 * i) : Nat) : Int) := by rw [Int.tmod_eq_emod_of_nonneg (by omega), ← h2]; omega
    have f3 : ((byteN a (2 * i + 1) : Nat) : Int) % 256 = ((byteN a (2 * i + 1) : Nat) : Int) := by omega
    have f4 : ((byteN a (2 * i) : Nat) : Int) % 256 = ((byteN a (2 * i) : Nat) : Int) := by omega
    have hs := bV_snoc a t i hi
    have e2 : 2 * (t + 1) = 2 * t + 2 := by omega
    simp -implicitDefEqProofs (maxSteps := 10000000) only [rbS, e, lb, ld, r0, r1, r2, r3, r4, f1, f2, f3, f4, hs, Int.toNat_natCast, vy_succ, vmB, slim, slimOp, gO, gSO, qSO, quietOp, cS, qSB, eK, calmOp, guardS, gK, qK, putK, plK, dOk, St.ev, St.get, St.mem, St.set, St.setm, St.put, lookA, look, newK, nextver, initT, seqE, blockQ, bodyQ, resK, retV, AV.rdv, agg_uV, ↓binK, ↓intK, unK, ↓loadK, ↓withKey_eq, ↓idxAddrK, ↓indexK, ↓partK, ↓fieldK, ↓fieldAddrK, ↓convK, ↓callK, wrG, updK, ↓lenK, ↓mmK, ↓appK, ↓copyK, ↓sliceK, ↓toArrK, nilK, evs, plains, seqParts, capsOf, capsD, AV.dv, AV.cont, ↓buildV_eq, fillL, placesOf, ↓storeK, wrL, RV.av, DV.av, List.set, Nat.reduceEqDiff, Nat.reduceAdd, Nat.reduceSub, Nat.reduceMul, Nat.reduceLT, Nat.reduceLeDiff, Nat.reduceMod, Nat.reduceDiv, Int.reduceLT, Int.reduceLE, Int.reduceToNat, ↓reduceIte, reduceCtorEq, Value.oneCell', Int.reduceAdd, Int.reduceSub, Int.reduceMod, Int.reduceMul, Int.reduceNeg, Int.reduceBEq, Int.reduceBNe, Int.reduceTDiv, Int.reduceTMod, Int.reduceEq, tyB, Try.underlying13, Try.underlying25, Try.underlying26, Try.underlying39, Try.underlying40, Try.underlying72, Try.underlying73]
    refine ⟨?_, ?_, t + 1, by omega, (by show 16 - (t + 1) < 16 - t; omega), Sub.of (by simp -implicitDefEqProofs only [subT, rbS, e2, look, lookA, newK, St.get, St.mem, List.map_cons, List.map_nil, List.all_cons, List.all_nil, List.length_cons, List.length_nil, List.getElem?_cons_zero, List.getElem?_cons_succ, Nat.reduceEqDiff, Nat.reduceAdd, Option.some.injEq, ↓reduceIte, true_and, and_true, reduceCtorEq, beq_self_eq_true, Bool.and_true, ne_eq, not_false_eq_true, not_true_eq_false, Nat.add_zero, Nat.zero_add, Nat.reduceSub, Nat.reduceMul, Int.cast_ofNat_Int, Int.reduceAdd, Int.reduceSub, Int.reduceMul, Int.natCast_add, Int.natCast_one]) (by simp -implicitDefEqProofs only [subM, rbS, e2, look, lookA, newK, St.get, St.mem, List.map_cons, List.map_nil, List.all_cons, List.all_nil, List.length_cons, List.length_nil, List.getElem?_cons_zero, List.getElem?_cons_succ, Nat.reduceEqDiff, Nat.reduceAdd, Option.some.injEq, ↓reduceIte, true_and, and_true, reduceCtorEq, beq_self_eq_true, Bool.and_true, ne_eq, not_false_eq_true, not_true_eq_false, Nat.add_zero, Nat.zero_add, Nat.reduceSub, Nat.reduceMul, Int.cast_ofNat_Int, Int.reduceAdd, Int.reduceSub, Int.reduceMul]) rfl⟩
    all_goals omega
  · have e : t = 16 := by omega
    subst e
    have r0 : decide (0 ≤ (15 : Int) - ((16 : Nat) : Int)) = false := by decide
    have ht : (bV a 32).take 32 = bV a 32 := List.take_of_length_le (by rw [bV_len]; omega)
    have l32 := bV_len a 32
    have hu := bV_u8s a
    simp -implicitDefEqProofs (maxSteps := 10000000) only [vy_succ, vmB, slim, slimOp, gO, gSO, qSO, quietOp, cS, qSB, eK, calmOp, guardS, gK, qK, putK, plK, dOk, St.ev, St.get, St.mem, St.set, St.setm, St.put, lookA, look, newK, nextver, initT, seqE, blockQ, bodyQ, resK, retV, AV.rdv, agg_uV, ↓binK, ↓intK, unK, ↓loadK, ↓withKey_eq, ↓idxAddrK, ↓indexK, ↓partK, ↓fieldK, ↓fieldAddrK, ↓convK, ↓callK, wrG, updK, ↓lenK, ↓mmK, ↓appK, ↓copyK, ↓sliceK, ↓toArrK, nilK, evs, plains, seqParts, capsOf, capsD, AV.dv, AV.cont, ↓buildV_eq, fillL, placesOf, ↓storeK, wrL, RV.av, DV.av, List.set, Nat.reduceEqDiff, Nat.reduceAdd, Nat.reduceSub, Nat.reduceMul, Nat.reduceLT, Nat.reduceLeDiff, Nat.reduceMod, Nat.reduceDiv, Int.reduceLT, Int.reduceLE, Int.reduceToNat, ↓reduceIte, reduceCtorEq, Value.oneCell', Int.reduceAdd, Int.reduceSub, Int.reduceMod, Int.reduceMul, Int.reduceNeg, Int.reduceBEq, Int.reduceBNe, Int.reduceTDiv, Int.reduceTMod, Int.reduceEq, tyB, Try.underlying13, Try.underlying25, Try.underlying26, Try.underlying39, Try.underlying40, Try.underlying72, Try.underlying73, rbS, l32, r0, ht, hu]

theorem rbytes_ok : ∀ ds r, bytesG ds = some r → Spec Try.prog 34 ds r := by
  intro ds r h
  unfold bytesG at h
  split at h
  case h_2 => cases h
  rename_i va
  split at h
  case h_2 => cases h
  rename_i a ha
  cases h
  obtain ⟨rfl, ha'⟩ := toN_eq ha
  exact rbytes_walk a ha'

/-! ### Bits -/
noncomputable def mB (a i : Nat) : Nat := Classical.choose (⟨blen (a % 2 ^ i), rfl⟩ : ∃ x : Nat, x = blen (a % 2 ^ i))
theorem mB_eq (a i : Nat) : mB a i = blen (a % 2 ^ i) := Classical.choose_spec (⟨blen (a % 2 ^ i), rfl⟩ : ∃ x : Nat, x = blen (a % 2 ^ i))
theorem mB_0 (a : Nat) : mB a 0 = 0 := by rw [mB_eq, Nat.pow_zero, Nat.mod_one]; rfl
theorem mB_end {a : Nat} (h : a < full) : mB a 256 = blen a := by rw [mB_eq, ← full_pow, Nat.mod_eq_of_lt h]
theorem mod_bit (a i : Nat) : a % 2 ^ (i + 1) = a % 2 ^ i + 2 ^ i * (a.testBit i).toNat := by
  rw [Nat.pow_succ, Nat.mod_mul, Nat.testBit_eq_decide_div_mod_eq]
  rcases Nat.mod_two_eq_zero_or_one (a / 2 ^ i) with h | h <;> rw [h] <;> rfl
theorem mB_step (a i : Nat) : mB a (i + 1) = if a.testBit i = true then i + 1 else mB a i := by
  rw [mB_eq, mB_eq, mod_bit]
  cases a.testBit i with
  | false => simp
  | true =>
    simp only [Bool.toNat_true, Nat.mul_one, if_true]
    have h0 : 0 < 2 ^ i := Nat.pow_pos (by omega)
    have h1 := Nat.mod_lt a h0
    have h2 := blen_lt (a % 2 ^ i + 2 ^ i) (i + 1) (by rw [Nat.pow_succ]; omega)
    have h3 := lt_blen (a % 2 ^ i + 2 ^ i)
    rcases Nat.lt_or_ge (blen (a % 2 ^ i + 2 ^ i)) (i + 1) with h4 | h4
    · exfalso
      have : 2 ^ blen (a % 2 ^ i + 2 ^ i) ≤ 2 ^ i := Nat.pow_le_pow_right (by omega) (by omega)
      omega
    · omega
noncomputable def vP (s : ByteArray) (i : Nat) : Nat := Classical.choose (⟨strN (s.data.toList.take i), rfl⟩ : ∃ x : Nat, x = strN (s.data.toList.take i))
theorem vP_eq (s : ByteArray) (i : Nat) : vP s i = strN (s.data.toList.take i) := Classical.choose_spec (⟨strN (s.data.toList.take i), rfl⟩ : ∃ x : Nat, x = strN (s.data.toList.take i))
theorem vP_0 (s : ByteArray) : vP s 0 = 0 := by rw [vP_eq]; simp [strN]
theorem vP_end (s : ByteArray) : vP s s.size = strN s.data.toList := by rw [vP_eq, List.take_of_length_le (by simp)]
theorem vP_step (s : ByteArray) (i : Nat) (h : i < s.size) : vP s (i + 1) = vP s i * 256 + (s[i]?.getD 0).toNat := by
  have hd : s.data.toList[i]? = some (s[i]?.getD 0) := by
    have h2 : i < s.data.size := h
    simp [h2, h]
    rfl
  rw [vP_eq, vP_eq, List.take_add_one, hd]
  simp only [Option.toList_some]
  rw [strN_snoc, Nat.mul_comm]
theorem toD_small {b : Nat} (h : b < 65536) : toD [.int .i64 (b : Nat)] = some (1, b) := by
  have e : digV 1 b = [.int .i64 (b : Nat)] := by
    rw [digV_eq]; simp [List.range, List.range.loop, dg_eq]; omega
  rw [← e]
  exact toD_digV (by omega)
noncomputable def rfromG : List DV → Option RV
  | [.pl (.string s)] => if s.size ≤ 40 then some (.one (.pl (uV (strN s.data.toList)))) else none
  | _ => none
noncomputable def rfS (s : ByteArray) (x : Nat × Nat) : St := ⟨[(3, .vec true (digV x.2 (vP s x.1))), (4, .pl (.int .i64 (x.1 : Nat))), (0, .pl (.string s)), (2, .ptr 2 0 0)], [(2, ⟨0, 24, [.int .u64 0, .int .u64 0, .int .u64 0, .int .u64 0]⟩)]⟩

def rfTree : OT := .alt 0 (.alt 1 (.alt 2 (.alt 3 (.alt 4 (.alt 5 (.alt 6 (.alt 7 (.alt 8 (.alt 9 (.done) (.stop)) (.stop)) (.stop)) (.stop)) (.stop)) (.stop)) (.alt 4 (.alt 3 (.alt 5 (.alt 6 (.alt 7 (.alt 8 (.alt 9 (.done) (.stop)) (.stop)) (.stop)) (.stop)) (.stop)) (.stop)) (.stop))) (.alt 3 (.alt 2 (.alt 4 (.alt 5 (.alt 6 (.alt 7 (.alt 8 (.alt 9 (.done) (.stop)) (.stop)) (.stop)) (.stop)) (.stop)) (.stop)) (.alt 4 (.alt 2 (.alt 5 (.alt 6 (.alt 7 (.alt 8 (.alt 9 (.done) (.stop)) (.stop)) (.stop)) (.stop)) (.stop)) (.alt 5 (.alt 2 (.alt 6 (.alt 7 (.alt 8 (.alt 9 (.done) (.stop)) (.stop)) (.stop)) (.stop)) (.alt 6 (.alt 2 (.alt 7 (.alt 8 (.alt 9 (.done) (.stop)) (.stop)) (.stop)) (.alt 7 (.alt 2 (.alt 8 (.alt 9 (.done) (.stop)) (.stop)) (.stop)) (.stop))) (.stop))) (.stop))) (.stop))) (.alt 4 (.alt 2 (.alt 3 (.alt 5 (.alt 6 (.alt 7 (.alt 8 (.alt 9 (.done) (.stop)) (.stop)) (.stop)) (.stop)) (.stop)) (.stop)) (.alt 3 (.alt 2 (.alt 5 (.alt 6 (.alt 7 (.alt 8 (.alt 9 (.done) (.stop)) (.stop)) (.stop)) (.stop)) (.stop)) (.alt 5 (.alt 2 (.alt 6 (.alt 7 (.alt 8 (.alt 9 (.done) (.stop)) (.stop)) (.stop)) (.stop)) (.alt 6 (.alt 2 (.alt 7 (.alt 8 (.alt 9 (.done) (.stop)) (.stop)) (.stop)) (.alt 7 (.alt 2 (.alt 8 (.alt 9 (.done) (.stop)) (.stop)) (.stop)) (.stop))) (.stop))) (.stop))) (.stop))) (.stop)))) (.alt 3 (.alt 1 (.alt 2 (.alt 4 (.alt 5 (.alt 6 (.alt 7 (.alt 8 (.alt 9 (.done) (.stop)) (.stop)) (.stop)) (.stop)) (.stop)) (.stop)) (.alt 4 (.alt 2 (.alt 5 (.alt 6 (.alt 7 (.alt 8 (.alt 9 (.done) (.stop)) (.stop)) (.stop)) (.stop)) (.stop)) (.alt 5 (.alt 2 (.alt 6 (.alt 7 (.alt 8 (.alt 9 (.done) (.stop)) (.stop)) (.stop)) (.stop)) (.alt 6 (.alt 2 (.alt 7 (.alt 8 (.alt 9 (.done) (.stop)) (.stop)) (.stop)) (.alt 7 (.alt 2 (.alt 8 (.alt 9 (.done) (.stop)) (.stop)) (.stop)) (.stop))) (.stop))) (.stop))) (.stop))) (.alt 4 (.alt 1 (.alt 2 (.alt 5 (.alt 6 (.alt 7 (.alt 8 (.alt 9 (.done) (.stop)) (.stop)) (.stop)) (.stop)) (.stop)) (.alt 5 (.alt 2 (.alt 6 (.alt 7 (.alt 8 (.alt 9 (.done) (.stop)) (.stop)) (.stop)) (.stop)) (.alt 6 (.alt 2 (.alt 7 (.alt 8 (.alt 9 (.done) (.stop)) (.stop)) (.stop)) (.alt 7 (.alt 2 (.alt 8 (.alt 9 (.done) (.stop)) (.stop)) (.stop)) (.stop))) (.stop))) (.stop))) (.alt 5 (.alt 1 (.alt 2 (.alt 6 (.alt 7 (.alt 8 (.alt 9 (.done) (.stop)) (.stop)) (.stop)) (.stop)) (.alt 6 (.alt 2 (.alt 7 (.alt 8 (.alt 9 (.done) (.stop)) (.stop)) (.stop)) (.alt 7 (.alt 2 (.alt 8 (.alt 9 (.done) (.stop)) (.stop)) (.stop)) (.stop))) (.stop))) (.alt 6 (.alt 1 (.alt 2 (.alt 7 (.alt 8 (.alt 9 (.done) (.stop)) (.stop)) (.stop)) (.alt 7 (.alt 2 (.alt 8 (.alt 9 (.done) (.stop)) (.stop)) (.stop)) (.stop))) (.alt 7 (.alt 1 (.alt 2 (.alt 8 (.alt 9 (.done) (.stop)) (.stop)) (.stop)) (.stop)) (.stop))) (.stop))) (.stop))) (.stop))) (.alt 4 (.alt 1 (.alt 2 (.alt 3 (.alt 5 (.alt 6 (.alt 7 (.alt 8 (.alt 9 (.done) (.stop)) (.stop)) (.stop)) (.stop)) (.stop)) (.stop)) (.alt 3 (.alt 2 (.alt 5 (.alt 6 (.alt 7 (.alt 8 (.alt 9 (.done) (.stop)) (.stop)) (.stop)) (.stop)) (.stop)) (.alt 5 (.alt 2 (.alt 6 (.alt 7 (.alt 8 (.alt 9 (.done) (.stop)) (.stop)) (.stop)) (.stop)) (.alt 6 (.alt 2 (.alt 7 (.alt 8 (.alt 9 (.done) (.stop)) (.stop)) (.stop)) (.alt 7 (.alt 2 (.alt 8 (.alt 9 (.done) (.stop)) (.stop)) (.stop)) (.stop))) (.stop))) (.stop))) (.stop))) (.alt 3 (.alt 1 (.alt 2 (.alt 5 (.alt 6 (.alt 7 (.alt 8 (.alt 9 (.done) (.stop)) (.stop)) (.stop)) (.stop)) (.stop)) (.alt 5 (.alt 2 (.alt 6 (.alt 7 (.alt 8 (.alt 9 (.done) (.stop)) (.stop)) (.stop)) (.stop)) (.alt 6 (.alt 2 (.alt 7 (.alt 8 (.alt 9 (.done) (.stop)) (.stop)) (.stop)) (.alt 7 (.alt 2 (.alt 8 (.alt 9 (.done) (.stop)) (.stop)) (.stop)) (.stop))) (.stop))) (.stop))) (.alt 5 (.alt 1 (.alt 2 (.alt 6 (.alt 7 (.alt 8 (.alt 9 (.done) (.stop)) (.stop)) (.stop)) (.stop)) (.alt 6 (.alt 2 (.alt 7 (.alt 8 (.alt 9 (.done) (.stop)) (.stop)) (.stop)) (.alt 7 (.alt 2 (.alt 8 (.alt 9 (.done) (.stop)) (.stop)) (.stop)) (.stop))) (.stop))) (.alt 6 (.alt 1 (.alt 2 (.alt 7 (.alt 8 (.alt 9 (.done) (.stop)) (.stop)) (.stop)) (.alt 7 (.alt 2 (.alt 8 (.alt 9 (.done) (.stop)) (.stop)) (.stop)) (.stop))) (.alt 7 (.alt 1 (.alt 2 (.alt 8 (.alt 9 (.done) (.stop)) (.stop)) (.stop)) (.stop)) (.stop))) (.stop))) (.stop))) (.stop))) (.stop)))) (.alt 1 (.alt 0 (.alt 2 (.alt 3 (.alt 4 (.alt 5 (.alt 6 (.alt 7 (.alt 8 (.alt 9 (.done) (.stop)) (.stop)) (.stop)) (.stop)) (.stop)) (.stop)) (.alt 4 (.alt 3 (.alt 5 (.alt 6 (.alt 7 (.alt 8 (.alt 9 (.done) (.stop)) (.stop)) (.stop)) (.stop)) (.stop)) (.stop)) (.stop))) (.alt 3 (.alt 2 (.alt 4 (.alt 5 (.alt 6 (.alt 7 (.alt 8 (.alt 9 (.done) (.stop)) (.stop)) (.stop)) (.stop)) (.stop)) (.stop)) (.alt 4 (.alt 2 (.alt 5 (.alt 6 (.alt 7 (.alt 8 (.alt 9 (.done) (.stop)) (.stop)) (.stop)) (.stop)) (.stop)) (.alt 5 (.alt 2 (.alt 6 (.alt 7 (.alt 8 (.alt 9 (.done) (.stop)) (.stop)) (.stop)) (.stop)) (.alt 6 (.alt 2 (.alt 7 (.alt 8 (.alt 9 (.done) (.stop)) (.stop)) (.stop)) (.alt 7 (.alt 2 (.alt 8 (.alt 9 (.done) (.stop)) (.stop)) (.stop)) (.stop))) (.stop))) (.stop))) (.stop))) (.alt 4 (.alt 2 (.alt 3 (.alt 5 (.alt 6 (.alt 7 (.alt 8 (.alt 9 (.done) (.stop)) (.stop)) (.stop)) (.stop)) (.stop)) (.stop)) (.alt 3 (.alt 2 (.alt 5 (.alt 6 (.alt 7 (.alt 8 (.alt 9 (.done) (.stop)) (.stop)) (.stop)) (.stop)) (.stop)) (.alt 5 (.alt 2 (.alt 6 (.alt 7 (.alt 8 (.alt 9 (.done) (.stop)) (.stop)) (.stop)) (.stop)) (.alt 6 (.alt 2 (.alt 7 (.alt 8 (.alt 9 (.done) (.stop)) (.stop)) (.stop)) (.alt 7 (.alt 2 (.alt 8 (.alt 9 (.done) (.stop)) (.stop)) (.stop)) (.stop))) (.stop))) (.stop))) (.stop))) (.stop)))) (.alt 3 (.alt 0 (.alt 2 (.alt 4 (.alt 5 (.alt 6 (.alt 7 (.alt 8 (.alt 9 (.done) (.stop)) (.stop)) (.stop)) (.stop)) (.stop)) (.stop)) (.alt 4 (.alt 2 (.alt 5 (.alt 6 (.alt 7 (.alt 8 (.alt 9 (.done) (.stop)) (.stop)) (.stop)) (.stop)) (.stop)) (.alt 5 (.alt 2 (.alt 6 (.alt 7 (.alt 8 (.alt 9 (.done) (.stop)) (.stop)) (.stop)) (.stop)) (.alt 6 (.alt 2 (.alt 7 (.alt 8 (.alt 9 (.done) (.stop)) (.stop)) (.stop)) (.alt 7 (.alt 2 (.alt 8 (.alt 9 (.done) (.stop)) (.stop)) (.stop)) (.stop))) (.stop))) (.stop))) (.stop))) (.alt 4 (.alt 0 (.alt 2 (.alt 5 (.alt 6 (.alt 7 (.alt 8 (.alt 9 (.done) (.stop)) (.stop)) (.stop)) (.stop)) (.stop)) (.alt 5 (.alt 2 (.alt 6 (.alt 7 (.alt 8 (.alt 9 (.done) (.stop)) (.stop)) (.stop)) (.stop)) (.alt 6 (.alt 2 (.alt 7 (.alt 8 (.alt 9 (.done) (.stop)) (.stop)) (.stop)) (.alt 7 (.alt 2 (.alt 8 (.alt 9 (.done) (.stop)) (.stop)) (.stop)) (.stop))) (.stop))) (.stop))) (.alt 5 (.alt 0 (.alt 2 (.alt 6 (.alt 7 (.alt 8 (.alt 9 (.done) (.stop)) (.stop)) (.stop)) (.stop)) (.alt 6 (.alt 2 (.alt 7 (.alt 8 (.alt 9 (.done) (.stop)) (.stop)) (.stop)) (.alt 7 (.alt 2 (.alt 8 (.alt 9 (.done) (.stop)) (.stop)) (.stop)) (.stop))) (.stop))) (.alt 6 (.alt 0 (.alt 2 (.alt 7 (.alt 8 (.alt 9 (.done) (.stop)) (.stop)) (.stop)) (.alt 7 (.alt 2 (.alt 8 (.alt 9 (.done) (.stop)) (.stop)) (.stop)) (.stop))) (.alt 7 (.alt 0 (.alt 2 (.alt 8 (.alt 9 (.done) (.stop)) (.stop)) (.stop)) (.stop)) (.stop))) (.stop))) (.stop))) (.stop))) (.alt 4 (.alt 0 (.alt 2 (.alt 3 (.alt 5 (.alt 6 (.alt 7 (.alt 8 (.alt 9 (.done) (.stop)) (.stop)) (.stop)) (.stop)) (.stop)) (.stop)) (.alt 3 (.alt 2 (.alt 5 (.alt 6 (.alt 7 (.alt 8 (.alt 9 (.done) (.stop)) (.stop)) (.stop)) (.stop)) (.stop)) (.alt 5 (.alt 2 (.alt 6 (.alt 7 (.alt 8 (.alt 9 (.done) (.stop)) (.stop)) (.stop)) (.stop)) (.alt 6 (.alt 2 (.alt 7 (.alt 8 (.alt 9 (.done) (.stop)) (.stop)) (.stop)) (.alt 7 (.alt 2 (.alt 8 (.alt 9 (.done) (.stop)) (.stop)) (.stop)) (.stop))) (.stop))) (.stop))) (.stop))) (.alt 3 (.alt 0 (.alt 2 (.alt 5 (.alt 6 (.alt 7 (.alt 8 (.alt 9 (.done) (.stop)) (.stop)) (.stop)) (.stop)) (.stop)) (.alt 5 (.alt 2 (.alt 6 (.alt 7 (.alt 8 (.alt 9 (.done) (.stop)) (.stop)) (.stop)) (.stop)) (.alt 6 (.alt 2 (.alt 7 (.alt 8 (.alt 9 (.done) (.stop)) (.stop)) (.stop)) (.alt 7 (.alt 2 (.alt 8 (.alt 9 (.done) (.stop)) (.stop)) (.stop)) (.stop))) (.stop))) (.stop))) (.alt 5 (.alt 0 (.alt 2 (.alt 6 (.alt 7 (.alt 8 (.alt 9 (.done) (.stop)) (.stop)) (.stop)) (.stop)) (.alt 6 (.alt 2 (.alt 7 (.alt 8 (.alt 9 (.done) (.stop)) (.stop)) (.stop)) (.alt 7 (.alt 2 (.alt 8 (.alt 9 (.done) (.stop)) (.stop)) (.stop)) (.stop))) (.stop))) (.alt 6 (.alt 0 (.alt 2 (.alt 7 (.alt 8 (.alt 9 (.done) (.stop)) (.stop)) (.stop)) (.alt 7 (.alt 2 (.alt 8 (.alt 9 (.done) (.stop)) (.stop)) (.stop)) (.stop))) (.alt 7 (.alt 0 (.alt 2 (.alt 8 (.alt 9 (.done) (.stop)) (.stop)) (.stop)) (.stop)) (.stop))) (.stop))) (.stop))) (.stop))) (.stop)))) (.alt 3 (.alt 0 (.alt 1 (.alt 2 (.alt 4 (.alt 5 (.alt 6 (.alt 7 (.alt 8 (.alt 9 (.done) (.stop)) (.stop)) (.stop)) (.stop)) (.stop)) (.stop)) (.alt 4 (.alt 2 (.alt 5 (.alt 6 (.alt 7 (.alt 8 (.alt 9 (.done) (.stop)) (.stop)) (.stop)) (.stop)) (.stop)) (.alt 5 (.alt 2 (.alt 6 (.alt 7 (.alt 8 (.alt 9 (.done) (.stop)) (.stop)) (.stop)) (.stop)) (.alt 6 (.alt 2 (.alt 7 (.alt 8 (.alt 9 (.done) (.stop)) (.stop)) (.stop)) (.alt 7 (.alt 2 (.alt 8 (.alt 9 (.done) (.stop)) (.stop)) (.stop)) (.stop))) (.stop))) (.stop))) (.stop))) (.alt 4 (.alt 1 (.alt 2 (.alt 5 (.alt 6 (.alt 7 (.alt 8 (.alt 9 (.done) (.stop)) (.stop)) (.stop)) (.stop)) (.stop)) (.alt 5 (.alt 2 (.alt 6 (.alt 7 (.alt 8 (.alt 9 (.done) (.stop)) (.stop)) (.stop)) (.stop)) (.alt 6 (.alt 2 (.alt 7 (.alt 8 (.alt 9 (.done) (.stop)) (.stop)) (.stop)) (.alt 7 (.alt 2 (.alt 8 (.alt 9 (.done) (.stop)) (.stop)) (.stop)) (.stop))) (.stop))) (.stop))) (.alt 5 (.alt 1 (.alt 2 (.alt 6 (.alt 7 (.alt 8 (.alt 9 (.done) (.stop)) (.stop)) (.stop)) (.stop)) (.alt 6 (.alt 2 (.alt 7 (.alt 8 (.alt 9 (.done) (.stop)) (.stop)) (.stop)) (.alt 7 (.alt 2 (.alt 8 (.alt 9 (.done) (.stop)) (.stop)) (.stop)) (.stop))) (.stop))) (.alt 6 (.alt 1 (.alt 2 (.alt 7 (.alt 8 (.alt 9 (.done) (.stop)) (.stop)) (.stop)) (.alt 7 (.alt 2 (.alt 8 (.alt 9 (.done) (.stop)) (.stop)) (.stop)) (.stop))) (.alt 7 (.alt 1 (.alt 2 (.alt 8 (.alt 9 (.done) (.stop)) (.stop)) (.stop)) (.stop)) (.stop))) (.stop))) (.stop))) (.stop))) (.alt 1 (.alt 0 (.alt 2 (.alt 4 (.alt 5 (.alt 6 (.alt 7 (.alt 8 (.alt 9 (.done) (.stop)) (.stop)) (.stop)) (.stop)) (.stop)) (.stop)) (.alt 4 (.alt 2 (.alt 5 (.alt 6 (.alt 7 (.alt 8 (.alt 9 (.done) (.stop)) (.stop)) (.stop)) (.stop)) (.stop)) (.alt 5 (.alt 2 (.alt 6 (.alt 7 (.alt 8 (.alt 9 (.done) (.stop)) (.stop)) (.stop)) (.stop)) (.alt 6 (.alt 2 (.alt 7 (.alt 8 (.alt 9 (.done) (.stop)) (.stop)) (.stop)) (.alt 7 (.alt 2 (.alt 8 (.alt 9 (.done) (.stop)) (.stop)) (.stop)) (.stop))) (.stop))) (.stop))) (.stop))) (.alt 4 (.alt 0 (.alt 2 (.alt 5 (.alt 6 (.alt 7 (.alt 8 (.alt 9 (.done) (.stop)) (.stop)) (.stop)) (.stop)) (.stop)) (.alt 5 (.alt 2 (.alt 6 (.alt 7 (.alt 8 (.alt 9 (.done) (.stop)) (.stop)) (.stop)) (.stop)) (.alt 6 (.alt 2 (.alt 7 (.alt 8 (.alt 9 (.done) (.stop)) (.stop)) (.stop)) (.alt 7 (.alt 2 (.alt 8 (.alt 9 (.done) (.stop)) (.stop)) (.stop)) (.stop))) (.stop))) (.stop))) (.alt 5 (.alt 0 (.alt 2 (.alt 6 (.alt 7 (.alt 8 (.alt 9 (.done) (.stop)) (.stop)) (.stop)) (.stop)) (.alt 6 (.alt 2 (.alt 7 (.alt 8 (.alt 9 (.done) (.stop)) (.stop)) (.stop)) (.alt 7 (.alt 2 (.alt 8 (.alt 9 (.done) (.stop)) (.stop)) (.stop)) (.stop))) (.stop))) (.alt 6 (.alt 0 (.alt 2 (.alt 7 (.alt 8 (.alt 9 (.done) (.stop)) (.stop)) (.stop)) (.alt 7 (.alt 2 (.alt 8 (.alt 9 (.done) (.stop)) (.stop)) (.stop)) (.stop))) (.alt 7 (.alt 0 (.alt 2 (.alt 8 (.alt 9 (.done) (.stop)) (.stop)) (.stop)) (.stop)) (.stop))) (.stop))) (.stop))) (.stop))) (.alt 4 (.alt 0 (.alt 1 (.alt 2 (.alt 5 (.alt 6 (.alt 7 (.alt 8 (.alt 9 (.done) (.stop)) (.stop)) (.stop)) (.stop)) (.stop)) (.alt 5 (.alt 2 (.alt 6 (.alt 7 (.alt 8 (.alt 9 (.done) (.stop)) (.stop)) (.stop)) (.stop)) (.alt 6 (.alt 2 (.alt 7 (.alt 8 (.alt 9 (.done) (.stop)) (.stop)) (.stop)) (.alt 7 (.alt 2 (.alt 8 (.alt 9 (.done) (.stop)) (.stop)) (.stop)) (.stop))) (.stop))) (.stop))) (.alt 5 (.alt 1 (.alt 2 (.alt 6 (.alt 7 (.alt 8 (.alt 9 (.done) (.stop)) (.stop)) (.stop)) (.stop)) (.alt 6 (.alt 2 (.alt 7 (.alt 8 (.alt 9 (.done) (.stop)) (.stop)) (.stop)) (.alt 7 (.alt 2 (.alt 8 (.alt 9 (.done) (.stop)) (.stop)) (.stop)) (.stop))) (.stop))) (.alt 6 (.alt 1 (.alt 2 (.alt 7 (.alt 8 (.alt 9 (.done) (.stop)) (.stop)) (.stop)) (.alt 7 (.alt 2 (.alt 8 (.alt 9 (.done) (.stop)) (.stop)) (.stop)) (.stop))) (.alt 7 (.alt 1 (.alt 2 (.alt 8 (.alt 9 (.done) (.stop)) (.stop)) (.stop)) (.stop)) (.stop))) (.stop))) (.stop))) (.alt 1 (.alt 0 (.alt 2 (.alt 5 (.alt 6 (.alt 7 (.alt 8 (.alt 9 (.done) (.stop)) (.stop)) (.stop)) (.stop)) (.stop)) (.alt 5 (.alt 2 (.alt 6 (.alt 7 (.alt 8 (.alt 9 (.done) (.stop)) (.stop)) (.stop)) (.stop)) (.alt 6 (.alt 2 (.alt 7 (.alt 8 (.alt 9 (.done) (.stop)) (.stop)) (.stop)) (.alt 7 (.alt 2 (.alt 8 (.alt 9 (.done) (.stop)) (.stop)) (.stop)) (.stop))) (.stop))) (.stop))) (.alt 5 (.alt 0 (.alt 2 (.alt 6 (.alt 7 (.alt 8 (.alt 9 (.done) (.stop)) (.stop)) (.stop)) (.stop)) (.alt 6 (.alt 2 (.alt 7 (.alt 8 (.alt 9 (.done) (.stop)) (.stop)) (.stop)) (.alt 7 (.alt 2 (.alt 8 (.alt 9 (.done) (.stop)) (.stop)) (.stop)) (.stop))) (.stop))) (.alt 6 (.alt 0 (.alt 2 (.alt 7 (.alt 8 (.alt 9 (.done) (.stop)) (.stop)) (.stop)) (.alt 7 (.alt 2 (.alt 8 (.alt 9 (.done) (.stop)) (.stop)) (.stop)) (.stop))) (.alt 7 (.alt 0 (.alt 2 (.alt 8 (.alt 9 (.done) (.stop)) (.stop)) (.stop)) (.stop)) (.stop))) (.stop))) (.stop))) (.alt 5 (.alt 0 (.alt 1 (.alt 2 (.alt 6 (.alt 7 (.alt 8 (.alt 9 (.done) (.stop)) (.stop)) (.stop)) (.stop)) (.alt 6 (.alt 2 (.alt 7 (.alt 8 (.alt 9 (.done) (.stop)) (.stop)) (.stop)) (.alt 7 (.alt 2 (.alt 8 (.alt 9 (.done) (.stop)) (.stop)) (.stop)) (.stop))) (.stop))) (.alt 6 (.alt 1 (.alt 2 (.alt 7 (.alt 8 (.alt 9 (.done) (.stop)) (.stop)) (.stop)) (.alt 7 (.alt 2 (.alt 8 (.alt 9 (.done) (.stop)) (.stop)) (.stop)) (.stop))) (.alt 7 (.alt 1 (.alt 2 (.alt 8 (.alt 9 (.done) (.stop)) (.stop)) (.stop)) (.stop)) (.stop))) (.stop))) (.alt 1 (.alt 0 (.alt 2 (.alt 6 (.alt 7 (.alt 8 (.alt 9 (.done) (.stop)) (.stop)) (.stop)) (.stop)) (.alt 6 (.alt 2 (.alt 7 (.alt 8 (.alt 9 (.done) (.stop)) (.stop)) (.stop)) (.alt 7 (.alt 2 (.alt 8 (.alt 9 (.done) (.stop)) (.stop)) (.stop)) (.stop))) (.stop))) (.alt 6 (.alt 0 (.alt 2 (.alt 7 (.alt 8 (.alt 9 (.done) (.stop)) (.stop)) (.stop)) (.alt 7 (.alt 2 (.alt 8 (.alt 9 (.done) (.stop)) (.stop)) (.stop)) (.stop))) (.alt 7 (.alt 0 (.alt 2 (.alt 8 (.alt 9 (.done) (.stop)) (.stop)) (.stop)) (.stop)) (.stop))) (.stop))) (.alt 6 (.alt 0 (.alt 1 (.alt 2 (.alt 7 (.alt 8 (.alt 9 (.done) (.stop)) (.stop)) (.stop)) (.alt 7 (.alt 2 (.alt 8 (.alt 9 (.done) (.stop)) (.stop)) (.stop)) (.stop))) (.alt 7 (.alt 1 (.alt 2 (.alt 8 (.alt 9 (.done) (.stop)) (.stop)) (.stop)) (.stop)) (.stop))) (.alt 1 (.alt 0 (.alt 2 (.alt 7 (.alt 8 (.alt 9 (.done) (.stop)) (.stop)) (.stop)) (.alt 7 (.alt 2 (.alt 8 (.alt 9 (.done) (.stop)) (.stop)) (.stop)) (.stop))) (.alt 7 (.alt 0 (.alt 2 (.alt 8 (.alt 9 (.done) (.stop)) (.stop)) (.stop)) (.stop)) (.stop))) (.alt 7 (.alt 0 (.alt 1 (.alt 2 (.alt 8 (.alt 9 (.done) (.stop)) (.stop)) (.stop)) (.stop)) (.alt 1 (.alt 0 (.alt 2 (.alt 8 (.alt 9 (.done) (.stop)) (.stop)) (.stop)) (.stop)) (.stop))) (.stop)))) (.stop)))) (.stop)))) (.stop)))) (.alt 4 (.alt 0 (.alt 1 (.alt 2 (.alt 3 (.alt 5 (.alt 6 (.alt 7 (.alt 8 (.alt 9 (.done) (.stop)) (.stop)) (.stop)) (.stop)) (.stop)) (.stop)) (.alt 3 (.alt 2 (.alt 5 (.alt 6 (.alt 7 (.alt 8 (.alt 9 (.done) (.stop)) (.stop)) (.stop)) (.stop)) (.stop)) (.alt 5 (.alt 2 (.alt 6 (.alt 7 (.alt 8 (.alt 9 (.done) (.stop)) (.stop)) (.stop)) (.stop)) (.alt 6 (.alt 2 (.alt 7 (.alt 8 (.alt 9 (.done) (.stop)) (.stop)) (.stop)) (.alt 7 (.alt 2 (.alt 8 (.alt 9 (.done) (.stop)) (.stop)) (.stop)) (.stop))) (.stop))) (.stop))) (.stop))) (.alt 3 (.alt 1 (.alt 2 (.alt 5 (.alt 6 (.alt 7 (.alt 8 (.alt 9 (.done) (.stop)) (.stop)) (.stop)) (.stop)) (.stop)) (.alt 5 (.alt 2 (.alt 6 (.alt 7 (.alt 8 (.alt 9 (.done) (.stop)) (.stop)) (.stop)) (.stop)) (.alt 6 (.alt 2 (.alt 7 (.alt 8 (.alt 9 (.done) (.stop)) (.stop)) (.stop)) (.alt 7 (.alt 2 (.alt 8 (.alt 9 (.done) (.stop)) (.stop)) (.stop)) (.stop))) (.stop))) (.stop))) (.alt 5 (.alt 1 (.alt 2 (.alt 6 (.alt 7 (.alt 8 (.alt 9 (.done) (.stop)) (.stop)) (.stop)) (.stop)) (.alt 6 (.alt 2 (.alt 7 (.alt 8 (.alt 9 (.done) (.stop)) (.stop)) (.stop)) (.alt 7 (.alt 2 (.alt 8 (.alt 9 (.done) (.stop)) (.stop)) (.stop)) (.stop))) (.stop))) (.alt 6 (.alt 1 (.alt 2 (.alt 7 (.alt 8 (.alt 9 (.done) (.stop)) (.stop)) (.stop)) (.alt 7 (.alt 2 (.alt 8 (.alt 9 (.done) (.stop)) (.stop)) (.stop)) (.stop))) (.alt 7 (.alt 1 (.alt 2 (.alt 8 (.alt 9 (.done) (.stop)) (.stop)) (.stop)) (.stop)) (.stop))) (.stop))) (.stop))) (.stop))) (.alt 1 (.alt 0 (.alt 2 (.alt 3 (.alt 5 (.alt 6 (.alt 7 (.alt 8 (.alt 9 (.done) (.stop)) (.stop)) (.stop)) (.stop)) (.stop)) (.stop)) (.alt 3 (.alt 2 (.alt 5 (.alt 6 (.alt 7 (.alt 8 (.alt 9 (.done) (.stop)) (.stop)) (.stop)) (.stop)) (.stop)) (.alt 5 (.alt 2 (.alt 6 (.alt 7 (.alt 8 (.alt 9 (.done) (.stop)) (.stop)) (.stop)) (.stop)) (.alt 6 (.alt 2 (.alt 7 (.alt 8 (.alt 9 (.done) (.stop)) (.stop)) (.stop)) (.alt 7 (.alt 2 (.alt 8 (.alt 9 (.done) (.stop)) (.stop)) (.stop)) (.stop))) (.stop))) (.stop))) (.stop))) (.alt 3 (.alt 0 (.alt 2 (.alt 5 (.alt 6 (.alt 7 (.alt 8 (.alt 9 (.done) (.stop)) (.stop)) (.stop)) (.stop)) (.stop)) (.alt 5 (.alt 2 (.alt 6 (.alt 7 (.alt 8 (.alt 9 (.done) (.stop)) (.stop)) (.stop)) (.stop)) (.alt 6 (.alt 2 (.alt 7 (.alt 8 (.alt 9 (.done) (.stop)) (.stop)) (.stop)) (.alt 7 (.alt 2 (.alt 8 (.alt 9 (.done) (.stop)) (.stop)) (.stop)) (.stop))) (.stop))) (.stop))) (.alt 5 (.alt 0 (.alt 2 (.alt 6 (.alt 7 (.alt 8 (.alt 9 (.done) (.stop)) (.stop)) (.stop)) (.stop)) (.alt 6 (.alt 2 (.alt 7 (.alt 8 (.alt 9 (.done) (.stop)) (.stop)) (.stop)) (.alt 7 (.alt 2 (.alt 8 (.alt 9 (.done) (.stop)) (.stop)) (.stop)) (.stop))) (.stop))) (.alt 6 (.alt 0 (.alt 2 (.alt 7 (.alt 8 (.alt 9 (.done) (.stop)) (.stop)) (.stop)) (.alt 7 (.alt 2 (.alt 8 (.alt 9 (.done) (.stop)) (.stop)) (.stop)) (.stop))) (.alt 7 (.alt 0 (.alt 2 (.alt 8 (.alt 9 (.done) (.stop)) (.stop)) (.stop)) (.stop)) (.stop))) (.stop))) (.stop))) (.stop))) (.alt 3 (.alt 0 (.alt 1 (.alt 2 (.alt 5 (.alt 6 (.alt 7 (.alt 8 (.alt 9 (.done) (.stop)) (.stop)) (.stop)) (.stop)) (.stop)) (.alt 5 (.alt 2 (.alt 6 (.alt 7 (.alt 8 (.alt 9 (.done) (.stop)) (.stop)) (.stop)) (.stop)) (.alt 6 (.alt 2 (.alt 7 (.alt 8 (.alt 9 (.done) (.stop)) (.stop)) (.stop)) (.alt 7 (.alt 2 (.alt 8 (.alt 9 (.done) (.stop)) (.stop)) (.stop)) (.stop))) (.stop))) (.stop))) (.alt 5 (.alt 1 (.alt 2 (.alt 6 (.alt 7 (.alt 8 (.alt 9 (.done) (.stop)) (.stop)) (.stop)) (.stop)) (.alt 6 (.alt 2 (.alt 7 (.alt 8 (.alt 9 (.done) (.stop)) (.stop)) (.stop)) (.alt 7 (.alt 2 (.alt 8 (.alt 9 (.done) (.stop)) (.stop)) (.stop)) (.stop))) (.stop))) (.alt 6 (.alt 1 (.alt 2 (.alt 7 (.alt 8 (.alt 9 (.done) (.stop)) (.stop)) (.stop)) (.alt 7 (.alt 2 (.alt 8 (.alt 9 (.done) (.stop)) (.stop)) (.stop)) (.stop))) (.alt 7 (.alt 1 (.alt 2 (.alt 8 (.alt 9 (.done) (.stop)) (.stop)) (.stop)) (.stop)) (.stop))) (.stop))) (.stop))) (.alt 1 (.alt 0 (.alt 2 (.alt 5 (.alt 6 (.alt 7 (.alt 8 (.alt 9 (.done) (.stop)) (.stop)) (.stop)) (.stop)) (.stop)) (.alt 5 (.alt 2 (.alt 6 (.alt 7 (.alt 8 (.alt 9 (.done) (.stop)) (.stop)) (.stop)) (.stop)) (.alt 6 (.alt 2 (.alt 7 (.alt 8 (.alt 9 (.done) (.stop)) (.stop)) (.stop)) (.alt 7 (.alt 2 (.alt 8 (.alt 9 (.done) (.stop)) (.stop)) (.stop)) (.stop))) (.stop))) (.stop))) (.alt 5 (.alt 0 (.alt 2 (.alt 6 (.alt 7 (.alt 8 (.alt 9 (.done) (.stop)) (.stop)) (.stop)) (.stop)) (.alt 6 (.alt 2 (.alt 7 (.alt 8 (.alt 9 (.done) (.stop)) (.stop)) (.stop)) (.alt 7 (.alt 2 (.alt 8 (.alt 9 (.done) (.stop)) (.stop)) (.stop)) (.stop))) (.stop))) (.alt 6 (.alt 0 (.alt 2 (.alt 7 (.alt 8 (.alt 9 (.done) (.stop)) (.stop)) (.stop)) (.alt 7 (.alt 2 (.alt 8 (.alt 9 (.done) (.stop)) (.stop)) (.stop)) (.stop))) (.alt 7 (.alt 0 (.alt 2 (.alt 8 (.alt 9 (.done) (.stop)) (.stop)) (.stop)) (.stop)) (.stop))) (.stop))) (.stop))) (.alt 5 (.alt 0 (.alt 1 (.alt 2 (.alt 6 (.alt 7 (.alt 8 (.alt 9 (.done) (.stop)) (.stop)) (.stop)) (.stop)) (.alt 6 (.alt 2 (.alt 7 (.alt 8 (.alt 9 (.done) (.stop)) (.stop)) (.stop)) (.alt 7 (.alt 2 (.alt 8 (.alt 9 (.done) (.stop)) (.stop)) (.stop)) (.stop))) (.stop))) (.alt 6 (.alt 1 (.alt 2 (.alt 7 (.alt 8 (.alt 9 (.done) (.stop)) (.stop)) (.stop)) (.alt 7 (.alt 2 (.alt 8 (.alt 9 (.done) (.stop)) (.stop)) (.stop)) (.stop))) (.alt 7 (.alt 1 (.alt 2 (.alt 8 (.alt 9 (.done) (.stop)) (.stop)) (.stop)) (.stop)) (.stop))) (.stop))) (.alt 1 (.alt 0 (.alt 2 (.alt 6 (.alt 7 (.alt 8 (.alt 9 (.done) (.stop)) (.stop)) (.stop)) (.stop)) (.alt 6 (.alt 2 (.alt 7 (.alt 8 (.alt 9 (.done) (.stop)) (.stop)) (.stop)) (.alt 7 (.alt 2 (.alt 8 (.alt 9 (.done) (.stop)) (.stop)) (.stop)) (.stop))) (.stop))) (.alt 6 (.alt 0 (.alt 2 (.alt 7 (.alt 8 (.alt 9 (.done) (.stop)) (.stop)) (.stop)) (.alt 7 (.alt 2 (.alt 8 (.alt 9 (.done) (.stop)) (.stop)) (.stop)) (.stop))) (.alt 7 (.alt 0 (.alt 2 (.alt 8 (.alt 9 (.done) (.stop)) (.stop)) (.stop)) (.stop)) (.stop))) (.stop))) (.alt 6 (.alt 0 (.alt 1 (.alt 2 (.alt 7 (.alt 8 (.alt 9 (.done) (.stop)) (.stop)) (.stop)) (.alt 7 (.alt 2 (.alt 8 (.alt 9 (.done) (.stop)) (.stop)) (.stop)) (.stop))) (.alt 7 (.alt 1 (.alt 2 (.alt 8 (.alt 9 (.done) (.stop)) (.stop)) (.stop)) (.stop)) (.stop))) (.alt 1 (.alt 0 (.alt 2 (.alt 7 (.alt 8 (.alt 9 (.done) (.stop)) (.stop)) (.stop)) (.alt 7 (.alt 2 (.alt 8 (.alt 9 (.done) (.stop)) (.stop)) (.stop)) (.stop))) (.alt 7 (.alt 0 (.alt 2 (.alt 8 (.alt 9 (.done) (.stop)) (.stop)) (.stop)) (.stop)) (.stop))) (.alt 7 (.alt 0 (.alt 1 (.alt 2 (.alt 8 (.alt 9 (.done) (.stop)) (.stop)) (.stop)) (.stop)) (.alt 1 (.alt 0 (.alt 2 (.alt 8 (.alt 9 (.done) (.stop)) (.stop)) (.stop)) (.stop)) (.stop))) (.stop)))) (.stop)))) (.stop)))) (.stop)))) (.stop))))

set_option maxHeartbeats 40000000 in
theorem rfrom_walk (s : ByteArray) (hs : s.size ≤ 40) : Spec Try.prog 41 [.pl (.string s)] (.one (.pl (uV (strN s.data.toList)))) := by
  have hΓ : Env.ok [(62, timesG), (63, sumG), (75, toG)] Try.prog := ok_cons times_ok (ok_cons sum_ok (ok_cons to_ok (ok_nil _)))
  have d0 : digV 0 (vP s 0) = [] := digV_0 _
  refine Spec.of_vx hΓ follows_mixed Try.func41 rfl (by kernel_rfl) (T := [(5, rfTree)]) (by simp [Try.ntmps41]) (by kernel_rfl) rfl Try.ntmps41 (res := [.cell 2 24]) rfl ?_
  intro W
  simp -implicitDefEqProofs (maxSteps := 10000000) only [vy_succ, vmB, slim, slimOp, gO, gSO, qSO, quietOp, cS, qSB, eK, calmOp, guardS, gK, qK, putK, plK, dOk, St.ev, St.get, St.mem, St.set, St.setm, St.put, lookA, look, newK, nextver, initT, seqE, blockQ, bodyQ, resK, retV, AV.rdv, agg_uV, ↓binK, ↓intK, unK, ↓loadK, ↓withKey_eq, ↓idxAddrK, ↓indexK, ↓partK, ↓fieldK, ↓fieldAddrK, ↓convK, ↓callK, wrG, updK, ↓lenK, ↓mmK, ↓appK, ↓copyK, ↓sliceK, ↓toArrK, nilK, evs, plains, seqParts, capsOf, capsD, AV.dv, AV.cont, ↓buildV_eq, fillL, placesOf, ↓storeK, wrL, RV.av, DV.av, List.set, Nat.reduceEqDiff, Nat.reduceAdd, Nat.reduceSub, Nat.reduceMul, Nat.reduceLT, Nat.reduceLeDiff, Nat.reduceMod, Nat.reduceDiv, Int.reduceLT, Int.reduceLE, Int.reduceToNat, ↓reduceIte, reduceCtorEq, Value.oneCell', Int.reduceAdd, Int.reduceSub, Int.reduceMod, Int.reduceMul, Int.reduceNeg, Int.reduceBEq, Int.reduceBNe, Int.reduceTDiv, Int.reduceTMod, Int.reduceEq, tyB, Try.underlying13, Try.underlying25, Try.underlying26, Try.underlying39, Try.underlying40, Try.underlying72, Try.underlying73]
  refine VT_toVec 3 true [] [(4, .pl (.int .i64 0)), (0, .pl (.string s)), (2, .ptr 2 0 0)] [(2, ⟨0, 24, [.int .u64 0, .int .u64 0, .int .u64 0, .int .u64 0]⟩)] (Sub.of (by simp -implicitDefEqProofs only [subT, look, lookA, newK, St.get, St.mem, List.map_cons, List.map_nil, List.all_cons, List.all_nil, List.length_cons, List.length_nil, List.getElem?_cons_zero, List.getElem?_cons_succ, Nat.reduceEqDiff, Nat.reduceAdd, Option.some.injEq, ↓reduceIte, true_and, and_true, reduceCtorEq, beq_self_eq_true, Bool.and_true, ne_eq, not_false_eq_true, not_true_eq_false, Nat.add_zero, Nat.zero_add, Nat.reduceSub, Nat.reduceMul, Int.cast_ofNat_Int, Int.reduceAdd, Int.reduceSub, Int.reduceMul]) (by simp -implicitDefEqProofs only [subM, look, lookA, newK, St.get, St.mem, List.map_cons, List.map_nil, List.all_cons, List.all_nil, List.length_cons, List.length_nil, List.getElem?_cons_zero, List.getElem?_cons_succ, Nat.reduceEqDiff, Nat.reduceAdd, Option.some.injEq, ↓reduceIte, true_and, and_true, reduceCtorEq, beq_self_eq_true, Bool.and_true, ne_eq, not_false_eq_true, not_true_eq_false, Nat.add_zero, Nat.zero_add, Nat.reduceSub, Nat.reduceMul, Int.cast_ofNat_Int, Int.reduceAdd, Int.reduceSub, Int.reduceMul]) rfl) (k := 5) (off := 0) (len := 0) (blk := ⟨0, 3, []⟩) rfl rfl (by decide) rfl rfl ?_
  refine VT_loop hΓ follows_mixed (rfS s) (fun x => x.1 ≤ s.size ∧ x.2 ≤ 3 * x.1 ∧ vP s x.1 < 65536 ^ x.2) (fun x => s.size - x.1) (0, 0) (Sub.of (by simp -implicitDefEqProofs only [subT, rfS, d0, look, lookA, newK, St.get, St.mem, List.map_cons, List.map_nil, List.all_cons, List.all_nil, List.length_cons, List.length_nil, List.getElem?_cons_zero, List.getElem?_cons_succ, Nat.reduceEqDiff, Nat.reduceAdd, Option.some.injEq, ↓reduceIte, true_and, and_true, reduceCtorEq, beq_self_eq_true, Bool.and_true, ne_eq, not_false_eq_true, not_true_eq_false, Nat.add_zero, Nat.zero_add, Nat.reduceSub, Nat.reduceMul, Int.cast_ofNat_Int, Int.reduceAdd, Int.reduceSub, Int.reduceMul, Int.natCast_zero]) (by simp -implicitDefEqProofs only [subM, rfS, look, lookA, newK, St.get, St.mem, List.map_cons, List.map_nil, List.all_cons, List.all_nil, List.length_cons, List.length_nil, List.getElem?_cons_zero, List.getElem?_cons_succ, Nat.reduceEqDiff, Nat.reduceAdd, Option.some.injEq, ↓reduceIte, true_and, and_true, reduceCtorEq, beq_self_eq_true, Bool.and_true, ne_eq, not_false_eq_true, not_true_eq_false, Nat.add_zero, Nat.zero_add, Nat.reduceSub, Nat.reduceMul, Int.cast_ofNat_Int, Int.reduceAdd, Int.reduceSub, Int.reduceMul]) rfl) ⟨by omega, by omega, by rw [vP_0]; exact bpow_pos 0⟩ ?_
  rintro ⟨i, L⟩ ⟨h1, h2, h3⟩
  simp only at h1 h2 h3
  by_cases hlt : i < s.size
  · have hst := vP_step s i hlt
    have hb : (s[i]?.getD 0).toNat < 256 := UInt8.toNat_lt _
    generalize hB : s[i]?.getD 0 = B at *
    have r0 : decide ((i : Int) < (s.size : Int)) = true := decide_eq_true (by omega)
    have r1 : (0 : Int) ≤ (i : Int) := by omega
    have r2 : (i : Int) < (s.size : Int) := by omega
    have r3 : IntKind.i64.wrap ((i : Int) + 1) = (i : Int) + 1 := i64_in (by omega) (by omega)
    have r4 : IntKind.i64.wrap ((B.toNat : Nat) : Int) = ((B.toNat : Nat) : Int) := i64_in (by omega) (by omega)
    have tv := toD_digV h3
    have t256 : toD [.int .i64 256] = some (1, 256) := toD_small (b := 256) (by decide)
    have tb := toD_small (show B.toNat < 65536 by omega)
    generalize hv : vP s i = v at *
    have hvm : v * 256 < 65536 ^ (L + 1 + 1) := by
      rw [Nat.pow_succ, Nat.pow_succ]
      have := Nat.mul_le_mul_right 256 (Nat.le_of_lt h3)
      have h4 := bpow_pos L
      omega
    have tv2 := toD_digV hvm
    have hlt2 := sumN_lt hvm (show B.toNat < 65536 ^ 1 by omega)
    have hle2 := sumN_le (L + 1 + 1) (v * 256) 1 B.toNat
    generalize hk : sumN (L + 1 + 1) (v * 256) 1 B.toNat = k at *
    have c1 : (L + 1 ≤ 1000) = True := eq_true (by omega)
    have c2 : (L + 1 + 1 + 1 ≤ 1000) = True := eq_true (by omega)
    simp -implicitDefEqProofs (maxSteps := 10000000) only [vy_succ, vmB, slim, slimOp, gO, gSO, qSO, quietOp, cS, qSB, eK, calmOp, guardS, gK, qK, putK, plK, dOk, St.ev, St.get, St.mem, St.set, St.setm, St.put, lookA, look, newK, nextver, initT, seqE, blockQ, bodyQ, resK, retV, AV.rdv, agg_uV, ↓binK, ↓intK, unK, ↓loadK, ↓withKey_eq, ↓idxAddrK, ↓indexK, ↓partK, ↓fieldK, ↓fieldAddrK, ↓convK, ↓callK, wrG, updK, ↓lenK, ↓mmK, ↓appK, ↓copyK, ↓sliceK, ↓toArrK, nilK, evs, plains, seqParts, capsOf, capsD, AV.dv, AV.cont, ↓buildV_eq, fillL, placesOf, ↓storeK, wrL, RV.av, DV.av, List.set, Nat.reduceEqDiff, Nat.reduceAdd, Nat.reduceSub, Nat.reduceMul, Nat.reduceLT, Nat.reduceLeDiff, Nat.reduceMod, Nat.reduceDiv, Int.reduceLT, Int.reduceLE, Int.reduceToNat, ↓reduceIte, reduceCtorEq, Value.oneCell', Int.reduceAdd, Int.reduceSub, Int.reduceMod, Int.reduceMul, Int.reduceNeg, Int.reduceBEq, Int.reduceBNe, Int.reduceTDiv, Int.reduceTMod, Int.reduceEq, tyB, Try.underlying13, Try.underlying25, Try.underlying26, Try.underlying39, Try.underlying40, Try.underlying72, Try.underlying73, rfTree, rfS, timesG, sumG, hv, hB, tv, t256, tb, tv2, hk, c1, c2, r0, r1, r2, r3, r4, Int.toNat_natCast]
    repeat' apply And.intro
    all_goals exact ⟨(i + 1, k), ⟨by show i + 1 ≤ s.size; omega, by show k ≤ 3 * (i + 1); omega, by show vP s (i + 1) < 65536 ^ k; rw [hst]; exact hlt2⟩, (by show s.size - (i + 1) < s.size - i; omega), Sub.of (by simp -implicitDefEqProofs only [subT, rfS, hst, look, lookA, newK, St.get, St.mem, List.map_cons, List.map_nil, List.all_cons, List.all_nil, List.length_cons, List.length_nil, List.getElem?_cons_zero, List.getElem?_cons_succ, Nat.reduceEqDiff, Nat.reduceAdd, Option.some.injEq, ↓reduceIte, true_and, and_true, reduceCtorEq, beq_self_eq_true, Bool.and_true, ne_eq, not_false_eq_true, not_true_eq_false, Nat.add_zero, Nat.zero_add, Nat.reduceSub, Nat.reduceMul, Int.cast_ofNat_Int, Int.reduceAdd, Int.reduceSub, Int.reduceMul, Int.natCast_add, Int.natCast_one]) (by simp -implicitDefEqProofs only [subM, rfS, look, lookA, newK, St.get, St.mem, List.map_cons, List.map_nil, List.all_cons, List.all_nil, List.length_cons, List.length_nil, List.getElem?_cons_zero, List.getElem?_cons_succ, Nat.reduceEqDiff, Nat.reduceAdd, Option.some.injEq, ↓reduceIte, true_and, and_true, reduceCtorEq, beq_self_eq_true, Bool.and_true, ne_eq, not_false_eq_true, not_true_eq_false, Nat.add_zero, Nat.zero_add, Nat.reduceSub, Nat.reduceMul, Int.cast_ofNat_Int, Int.reduceAdd, Int.reduceSub, Int.reduceMul]) rfl⟩
  · have e : i = s.size := by omega
    subst e
    have r0 : decide (((s.size : Nat) : Int) < ((s.size : Nat) : Int)) = false := decide_eq_false (by omega)
    have tv := toD_digV h3
    have hend := vP_end s
    rw [hend] at tv
    have c1 : (L ≤ 1000) = True := eq_true (by omega)
    simp -implicitDefEqProofs (maxSteps := 10000000) only [vy_succ, vmB, slim, slimOp, gO, gSO, qSO, quietOp, cS, qSB, eK, calmOp, guardS, gK, qK, putK, plK, dOk, St.ev, St.get, St.mem, St.set, St.setm, St.put, lookA, look, newK, nextver, initT, seqE, blockQ, bodyQ, resK, retV, AV.rdv, agg_uV, ↓binK, ↓intK, unK, ↓loadK, ↓withKey_eq, ↓idxAddrK, ↓indexK, ↓partK, ↓fieldK, ↓fieldAddrK, ↓convK, ↓callK, wrG, updK, ↓lenK, ↓mmK, ↓appK, ↓copyK, ↓sliceK, ↓toArrK, nilK, evs, plains, seqParts, capsOf, capsD, AV.dv, AV.cont, ↓buildV_eq, fillL, placesOf, ↓storeK, wrL, RV.av, DV.av, List.set, Nat.reduceEqDiff, Nat.reduceAdd, Nat.reduceSub, Nat.reduceMul, Nat.reduceLT, Nat.reduceLeDiff, Nat.reduceMod, Nat.reduceDiv, Int.reduceLT, Int.reduceLE, Int.reduceToNat, ↓reduceIte, reduceCtorEq, Value.oneCell', Int.reduceAdd, Int.reduceSub, Int.reduceMod, Int.reduceMul, Int.reduceNeg, Int.reduceBEq, Int.reduceBNe, Int.reduceTDiv, Int.reduceTMod, Int.reduceEq, tyB, Try.underlying13, Try.underlying25, Try.underlying26, Try.underlying39, Try.underlying40, Try.underlying72, Try.underlying73, rfS, toG, hend, tv, c1, r0]

theorem rfrom_ok : ∀ ds r, rfromG ds = some r → Spec Try.prog 41 ds r := by
  intro ds r h
  unfold rfromG at h
  split at h
  case h_2 => cases h
  rename_i s
  split at h
  case isFalse => cases h
  rename_i hs
  cases h
  exact rfrom_walk s hs
end Go.Vm

/- Contracts: between, high, mul, turned, number of a signature; their references. No condition. -/
set_option maxRecDepth 100000
set_option linter.unusedSimpArgs false
set_option linter.unusedVariables false
namespace Go.Vm
open Go Go.RowKit Go.Proofs

noncomputable def btB (a : Nat) : Bool := decide (a ≠ 0) && decide (a < pN 1)
noncomputable def hiB (a : Nat) : Bool := decide (pN 1 < a + a)
theorem cmp_neg (a b : Nat) : decide (cmpN a b < 0) = decide (a < b) := by
  apply decide_eq_decide.2
  unfold cmpN
  split
  · rename_i h; exact ⟨fun _ => h, fun _ => by decide⟩
  · rename_i h
    split
    · exact ⟨fun h1 => absurd h1 (by decide), fun h1 => absurd h1 h⟩
    · exact ⟨fun h1 => absurd h1 (by decide), fun h1 => absurd h1 h⟩
theorem cmp_pos (a b : Nat) : decide (0 < cmpN a b) = decide (b < a) := by
  apply decide_eq_decide.2
  unfold cmpN
  split
  · rename_i h; exact ⟨fun h1 => absurd h1 (by decide), fun h1 => by omega⟩
  · rename_i h
    split
    · rename_i h2; exact ⟨fun _ => h2, fun _ => by decide⟩
    · rename_i h2; exact ⟨fun h1 => absurd h1 (by decide), fun h1 => absurd h1 h2⟩
noncomputable def btG : List DV → Option RV
  | [.pl v] => match toN v with
    | some a => some (.one (.pl (.bool (btB a))))
    | none => none
  | _ => none
noncomputable def hiG : List DV → Option RV
  | [.pl v] => match toN v with
    | some a => some (.one (.pl (.bool (hiB a))))
    | none => none
  | _ => none
theorem isW1' : isW 1 = true := rfl
theorem toN_p (w : Int) : toN (uV (pN w)) = some (pN w) := toN_lt (pN_lt w)
theorem pN_m (w : Int) : pN w % full = pN w := Nat.mod_eq_of_lt (pN_lt w)
theorem bt_ok : ∀ ds r, btG ds = some r → Spec Try.prog 26 ds r := by
  intro ds r h
  unfold btG at h
  split at h
  case h_2 => cases h
  rename_i v
  split at h
  case h_2 => cases h
  rename_i a ha
  cases h
  obtain ⟨rfl, ha'⟩ := toN_eq ha
  have hΓ : Env.ok [(65, primeG), (66, cmpG)] Try.prog := ok_cons prime_ok (ok_cons cmp_ok (ok_nil _))
  have ma : a % full = a := Nat.mod_eq_of_lt ha'
  have eq0 : eqU a 0 = decide (a = 0) := eqU_lt ha' full_pos
  refine Spec.of_vx hΓ follows_mixed Try.func26 rfl (by kernel_rfl) (T := []) (by simp [Try.ntmps26]) (by kernel_rfl) rfl Try.ntmps26 (res := [.tmp 2]) rfl ?_
  intro W
  by_cases h0 : a = 0
  · have e1 : eqU a 0 = true := by rw [eq0]; exact decide_eq_true h0
    have e2 : btB a = false := by unfold btB; rw [decide_eq_false (fun h => h h0), Bool.false_and]
    simp -implicitDefEqProofs (maxSteps := 10000000) only [vy_succ, vmB, slim, slimOp, gO, gSO, qSO, quietOp, cS, qSB, eK, calmOp, guardS, gK, qK, putK, plK, dOk, St.ev, St.get, St.mem, St.set, St.setm, St.put, lookA, look, newK, nextver, initT, seqE, blockQ, bodyQ, resK, retV, AV.rdv, agg_uV, ↓binK, ↓intK, unK, ↓loadK, ↓withKey_eq, ↓idxAddrK, ↓indexK, ↓partK, ↓fieldK, ↓fieldAddrK, ↓convK, ↓callK, wrG, updK, ↓lenK, ↓mmK, ↓appK, ↓copyK, ↓sliceK, ↓toArrK, nilK, evs, plains, seqParts, capsOf, capsD, AV.dv, AV.cont, ↓buildV_eq, fillL, placesOf, ↓storeK, wrL, RV.av, DV.av, List.set, Nat.reduceEqDiff, Nat.reduceAdd, Nat.reduceSub, Nat.reduceMul, Nat.reduceLT, Nat.reduceLeDiff, Nat.reduceMod, Nat.reduceDiv, Int.reduceLT, Int.reduceLE, Int.reduceToNat, ↓reduceIte, reduceCtorEq, Value.oneCell', Int.reduceAdd, Int.reduceSub, Int.reduceMod, Int.reduceMul, Int.reduceNeg, Int.reduceBEq, Int.reduceBNe, Int.reduceTDiv, Int.reduceTMod, Int.reduceEq, tyB, Try.underlying13, Try.underlying25, Try.underlying26, Try.underlying39, Try.underlying40, Try.underlying72, Try.underlying73, primeG, cmpG, ma, pN_m, isW1', ↓binK_neU0, e1, e2]
  · have e1 : eqU a 0 = false := by rw [eq0]; exact decide_eq_false h0
    have e2 : btB a = decide (a < pN 1) := by unfold btB; rw [decide_eq_true h0, Bool.true_and]
    simp -implicitDefEqProofs (maxSteps := 10000000) only [vy_succ, vmB, slim, slimOp, gO, gSO, qSO, quietOp, cS, qSB, eK, calmOp, guardS, gK, qK, putK, plK, dOk, St.ev, St.get, St.mem, St.set, St.setm, St.put, lookA, look, newK, nextver, initT, seqE, blockQ, bodyQ, resK, retV, AV.rdv, agg_uV, ↓binK, ↓intK, unK, ↓loadK, ↓withKey_eq, ↓idxAddrK, ↓indexK, ↓partK, ↓fieldK, ↓fieldAddrK, ↓convK, ↓callK, wrG, updK, ↓lenK, ↓mmK, ↓appK, ↓copyK, ↓sliceK, ↓toArrK, nilK, evs, plains, seqParts, capsOf, capsD, AV.dv, AV.cont, ↓buildV_eq, fillL, placesOf, ↓storeK, wrL, RV.av, DV.av, List.set, Nat.reduceEqDiff, Nat.reduceAdd, Nat.reduceSub, Nat.reduceMul, Nat.reduceLT, Nat.reduceLeDiff, Nat.reduceMod, Nat.reduceDiv, Int.reduceLT, Int.reduceLE, Int.reduceToNat, ↓reduceIte, reduceCtorEq, Value.oneCell', Int.reduceAdd, Int.reduceSub, Int.reduceMod, Int.reduceMul, Int.reduceNeg, Int.reduceBEq, Int.reduceBNe, Int.reduceTDiv, Int.reduceTMod, Int.reduceEq, tyB, Try.underlying13, Try.underlying25, Try.underlying26, Try.underlying39, Try.underlying40, Try.underlying72, Try.underlying73, primeG, cmpG, ma, pN_m, isW1', ↓binK_neU0, e1, e2, cmp_neg]
theorem hi_ok : ∀ ds r, hiG ds = some r → Spec Try.prog 74 ds r := by
  intro ds r h
  unfold hiG at h
  split at h
  case h_2 => cases h
  rename_i v
  split at h
  case h_2 => cases h
  rename_i a ha
  cases h
  obtain ⟨rfl, ha'⟩ := toN_eq ha
  have hΓ : Env.ok [(65, primeG), (66, cmpG), (83, addG)] Try.prog := ok_cons prime_ok (ok_cons cmp_ok (ok_cons add_ok (ok_nil _)))
  have ma : a % full = a := Nat.mod_eq_of_lt ha'
  have hp := pN_lt 1
  refine Spec.of_vx hΓ follows_mixed Try.func74 rfl (by kernel_rfl) (T := []) (by simp [Try.ntmps74]) (by kernel_rfl) rfl Try.ntmps74 (res := [.tmp 2]) rfl ?_
  intro W
  by_cases h0 : full ≤ a + a
  · have e1 := decide_eq_true h0
    have e2 : hiB a = true := decide_eq_true (by omega)
    simp -implicitDefEqProofs (maxSteps := 10000000) only [vy_succ, vmB, slim, slimOp, gO, gSO, qSO, quietOp, cS, qSB, eK, calmOp, guardS, gK, qK, putK, plK, dOk, St.ev, St.get, St.mem, St.set, St.setm, St.put, lookA, look, newK, nextver, initT, seqE, blockQ, bodyQ, resK, retV, AV.rdv, agg_uV, ↓binK, ↓intK, unK, ↓loadK, ↓withKey_eq, ↓idxAddrK, ↓indexK, ↓partK, ↓fieldK, ↓fieldAddrK, ↓convK, ↓callK, wrG, updK, ↓lenK, ↓mmK, ↓appK, ↓copyK, ↓sliceK, ↓toArrK, nilK, evs, plains, seqParts, capsOf, capsD, AV.dv, AV.cont, ↓buildV_eq, fillL, placesOf, ↓storeK, wrL, RV.av, DV.av, List.set, Nat.reduceEqDiff, Nat.reduceAdd, Nat.reduceSub, Nat.reduceMul, Nat.reduceLT, Nat.reduceLeDiff, Nat.reduceMod, Nat.reduceDiv, Int.reduceLT, Int.reduceLE, Int.reduceToNat, ↓reduceIte, reduceCtorEq, Value.oneCell', Int.reduceAdd, Int.reduceSub, Int.reduceMod, Int.reduceMul, Int.reduceNeg, Int.reduceBEq, Int.reduceBNe, Int.reduceTDiv, Int.reduceTMod, Int.reduceEq, tyB, Try.underlying13, Try.underlying25, Try.underlying26, Try.underlying39, Try.underlying40, Try.underlying72, Try.underlying73, primeG, cmpG, addG, ma, pN_m, isW1', e1, e2]
  · have e1 := decide_eq_false h0
    have e2 : hiB a = decide (pN 1 < a + a) := rfl
    have m2 : (a + a) % full = a + a := Nat.mod_eq_of_lt (by omega)
    simp -implicitDefEqProofs (maxSteps := 10000000) only [vy_succ, vmB, slim, slimOp, gO, gSO, qSO, quietOp, cS, qSB, eK, calmOp, guardS, gK, qK, putK, plK, dOk, St.ev, St.get, St.mem, St.set, St.setm, St.put, lookA, look, newK, nextver, initT, seqE, blockQ, bodyQ, resK, retV, AV.rdv, agg_uV, ↓binK, ↓intK, unK, ↓loadK, ↓withKey_eq, ↓idxAddrK, ↓indexK, ↓partK, ↓fieldK, ↓fieldAddrK, ↓convK, ↓callK, wrG, updK, ↓lenK, ↓mmK, ↓appK, ↓copyK, ↓sliceK, ↓toArrK, nilK, evs, plains, seqParts, capsOf, capsD, AV.dv, AV.cont, ↓buildV_eq, fillL, placesOf, ↓storeK, wrL, RV.av, DV.av, List.set, Nat.reduceEqDiff, Nat.reduceAdd, Nat.reduceSub, Nat.reduceMul, Nat.reduceLT, Nat.reduceLeDiff, Nat.reduceMod, Nat.reduceDiv, Int.reduceLT, Int.reduceLE, Int.reduceToNat, ↓reduceIte, reduceCtorEq, Value.oneCell', Int.reduceAdd, Int.reduceSub, Int.reduceMod, Int.reduceMul, Int.reduceNeg, Int.reduceBEq, Int.reduceBNe, Int.reduceTDiv, Int.reduceTMod, Int.reduceEq, tyB, Try.underlying13, Try.underlying25, Try.underlying26, Try.underlying39, Try.underlying40, Try.underlying72, Try.underlying73, primeG, cmpG, addG, ma, m2, pN_m, isW1', e1, e2, cmp_pos]
theorem rbt_ok : ∀ ds r, btG ds = some r → Spec Try.prog 10 ds r := by
  intro ds r h
  unfold btG at h
  split at h
  case h_2 => cases h
  rename_i v
  split at h
  case h_2 => cases h
  rename_i a ha
  cases h
  obtain ⟨rfl, ha'⟩ := toN_eq ha
  have hΓ : Env.ok [(36, rmodG), (35, ofG), (37, lessG)] Try.prog := ok_cons rmod_ok (ok_cons of_ok (ok_cons less_ok (ok_nil _)))
  have ma : a % full = a := Nat.mod_eq_of_lt ha'
  have eq0 : eqU a 0 = decide (a = 0) := eqU_lt ha' full_pos
  have d1 := toD_16 ha'
  have d2 := toD_16 (pN_lt 1)
  refine Spec.of_vx hΓ follows_mixed Try.func10 rfl (by kernel_rfl) (T := []) (by simp [Try.ntmps10]) (by kernel_rfl) rfl Try.ntmps10 (res := [.tmp 2]) rfl ?_
  intro W
  by_cases h0 : a = 0
  · have e1 : eqU a 0 = true := by rw [eq0]; exact decide_eq_true h0
    have e2 : btB a = false := by unfold btB; rw [decide_eq_false (fun h => h h0), Bool.false_and]
    simp -implicitDefEqProofs (maxSteps := 10000000) only [vy_succ, vmB, slim, slimOp, gO, gSO, qSO, quietOp, cS, qSB, eK, calmOp, guardS, gK, qK, putK, plK, dOk, St.ev, St.get, St.mem, St.set, St.setm, St.put, lookA, look, newK, nextver, initT, seqE, blockQ, bodyQ, resK, retV, AV.rdv, agg_uV, ↓binK, ↓intK, unK, ↓loadK, ↓withKey_eq, ↓idxAddrK, ↓indexK, ↓partK, ↓fieldK, ↓fieldAddrK, ↓convK, ↓callK, wrG, updK, ↓lenK, ↓mmK, ↓appK, ↓copyK, ↓sliceK, ↓toArrK, nilK, evs, plains, seqParts, capsOf, capsD, AV.dv, AV.cont, ↓buildV_eq, fillL, placesOf, ↓storeK, wrL, RV.av, DV.av, List.set, Nat.reduceEqDiff, Nat.reduceAdd, Nat.reduceSub, Nat.reduceMul, Nat.reduceLT, Nat.reduceLeDiff, Nat.reduceMod, Nat.reduceDiv, Int.reduceLT, Int.reduceLE, Int.reduceToNat, ↓reduceIte, reduceCtorEq, Value.oneCell', Int.reduceAdd, Int.reduceSub, Int.reduceMod, Int.reduceMul, Int.reduceNeg, Int.reduceBEq, Int.reduceBNe, Int.reduceTDiv, Int.reduceTMod, Int.reduceEq, tyB, Try.underlying13, Try.underlying25, Try.underlying26, Try.underlying39, Try.underlying40, Try.underlying72, Try.underlying73, rmodG, ofG, lessG, ma, pN_m, isW1', d1, d2, ↓binK_neU0, e1, e2]
  · have e1 : eqU a 0 = false := by rw [eq0]; exact decide_eq_false h0
    have e2 : btB a = decide (a < pN 1) := by unfold btB; rw [decide_eq_true h0, Bool.true_and]
    simp -implicitDefEqProofs (maxSteps := 10000000) only [vy_succ, vmB, slim, slimOp, gO, gSO, qSO, quietOp, cS, qSB, eK, calmOp, guardS, gK, qK, putK, plK, dOk, St.ev, St.get, St.mem, St.set, St.setm, St.put, lookA, look, newK, nextver, initT, seqE, blockQ, bodyQ, resK, retV, AV.rdv, agg_uV, ↓binK, ↓intK, unK, ↓loadK, ↓withKey_eq, ↓idxAddrK, ↓indexK, ↓partK, ↓fieldK, ↓fieldAddrK, ↓convK, ↓callK, wrG, updK, ↓lenK, ↓mmK, ↓appK, ↓copyK, ↓sliceK, ↓toArrK, nilK, evs, plains, seqParts, capsOf, capsD, AV.dv, AV.cont, ↓buildV_eq, fillL, placesOf, ↓storeK, wrL, RV.av, DV.av, List.set, Nat.reduceEqDiff, Nat.reduceAdd, Nat.reduceSub, Nat.reduceMul, Nat.reduceLT, Nat.reduceLeDiff, Nat.reduceMod, Nat.reduceDiv, Int.reduceLT, Int.reduceLE, Int.reduceToNat, ↓reduceIte, reduceCtorEq, Value.oneCell', Int.reduceAdd, Int.reduceSub, Int.reduceMod, Int.reduceMul, Int.reduceNeg, Int.reduceBEq, Int.reduceBNe, Int.reduceTDiv, Int.reduceTMod, Int.reduceEq, tyB, Try.underlying13, Try.underlying25, Try.underlying26, Try.underlying39, Try.underlying40, Try.underlying72, Try.underlying73, rmodG, ofG, lessG, ma, pN_m, isW1', d1, d2, ↓binK_neU0, e1, e2]
theorem rhi_ok : ∀ ds r, hiG ds = some r → Spec Try.prog 42 ds r := by
  intro ds r h
  unfold hiG at h
  split at h
  case h_2 => cases h
  rename_i v
  split at h
  case h_2 => cases h
  rename_i a ha
  cases h
  obtain ⟨rfl, ha'⟩ := toN_eq ha
  have hΓ : Env.ok [(36, rmodG), (35, ofG), (37, lessG), (63, sumG)] Try.prog := ok_cons rmod_ok (ok_cons of_ok (ok_cons less_ok (ok_cons sum_ok (ok_nil _))))
  have ma : a % full = a := Nat.mod_eq_of_lt ha'
  have d1 := toD_16 ha'
  have d2 := toD_16 (pN_lt 1)
  have ha2 : a < 65536 ^ 16 := by rw [← full_d]; exact ha'
  have d3 := toD_digV (sumN_lt ha2 ha2)
  have hle := sumN_le 16 a 16 a
  have c0 : (16 + sumN 16 a 16 a ≤ 1000) = True := eq_true (by omega)
  have e2 : hiB a = decide (pN 1 < a + a) := rfl
  refine Spec.of_vx hΓ follows_mixed Try.func42 rfl (by kernel_rfl) (T := []) (by simp [Try.ntmps42]) (by kernel_rfl) rfl Try.ntmps42 (res := [.tmp 2]) rfl ?_
  intro W
  simp -implicitDefEqProofs (maxSteps := 10000000) only [vy_succ, vmB, slim, slimOp, gO, gSO, qSO, quietOp, cS, qSB, eK, calmOp, guardS, gK, qK, putK, plK, dOk, St.ev, St.get, St.mem, St.set, St.setm, St.put, lookA, look, newK, nextver, initT, seqE, blockQ, bodyQ, resK, retV, AV.rdv, agg_uV, ↓binK, ↓intK, unK, ↓loadK, ↓withKey_eq, ↓idxAddrK, ↓indexK, ↓partK, ↓fieldK, ↓fieldAddrK, ↓convK, ↓callK, wrG, updK, ↓lenK, ↓mmK, ↓appK, ↓copyK, ↓sliceK, ↓toArrK, nilK, evs, plains, seqParts, capsOf, capsD, AV.dv, AV.cont, ↓buildV_eq, fillL, placesOf, ↓storeK, wrL, RV.av, DV.av, List.set, Nat.reduceEqDiff, Nat.reduceAdd, Nat.reduceSub, Nat.reduceMul, Nat.reduceLT, Nat.reduceLeDiff, Nat.reduceMod, Nat.reduceDiv, Int.reduceLT, Int.reduceLE, Int.reduceToNat, ↓reduceIte, reduceCtorEq, Value.oneCell', Int.reduceAdd, Int.reduceSub, Int.reduceMod, Int.reduceMul, Int.reduceNeg, Int.reduceBEq, Int.reduceBNe, Int.reduceTDiv, Int.reduceTMod, Int.reduceEq, tyB, Try.underlying13, Try.underlying25, Try.underlying26, Try.underlying39, Try.underlying40, Try.underlying72, Try.underlying73, rmodG, ofG, lessG, sumG, ma, pN_m, isW1', d1, d2, d3, c0, e2]

noncomputable def smG : List DV → Option RV
  | [.pl v, .pl u] => match toN v, toN u with
    | some a, some b => some (.one (.pl (uV (a * b % pN 1))))
    | _, _ => none
  | _ => none
theorem sm_ok : ∀ ds r, smG ds = some r → Spec Try.prog 43 ds r := by
  intro ds r h
  unfold smG at h
  split at h
  case h_2 => cases h
  rename_i v u
  split at h
  case h_2 => cases h
  rename_i a b ha hb
  cases h
  obtain ⟨rfl, ha'⟩ := toN_eq ha
  obtain ⟨rfl, hb'⟩ := toN_eq hb
  have hΓ : Env.ok [(76, fmulG)] Try.prog := ok_cons fmul_ok (ok_nil _)
  refine Spec.of_vx hΓ follows_mixed Try.func43 rfl (by kernel_rfl) (T := []) (by simp [Try.ntmps43]) (by kernel_rfl) rfl Try.ntmps43 (res := [.cell 4 24]) rfl ?_
  intro W
  simp -implicitDefEqProofs (maxSteps := 10000000) only [vy_succ, vmB, slim, slimOp, gO, gSO, qSO, quietOp, cS, qSB, eK, calmOp, guardS, gK, qK, putK, plK, dOk, St.ev, St.get, St.mem, St.set, St.setm, St.put, lookA, look, newK, nextver, initT, seqE, blockQ, bodyQ, resK, retV, AV.rdv, agg_uV, ↓binK, ↓intK, unK, ↓loadK, ↓withKey_eq, ↓idxAddrK, ↓indexK, ↓partK, ↓fieldK, ↓fieldAddrK, ↓convK, ↓callK, wrG, updK, ↓lenK, ↓mmK, ↓appK, ↓copyK, ↓sliceK, ↓toArrK, nilK, evs, plains, seqParts, capsOf, capsD, AV.dv, AV.cont, ↓buildV_eq, fillL, placesOf, ↓storeK, wrL, RV.av, DV.av, List.set, Nat.reduceEqDiff, Nat.reduceAdd, Nat.reduceSub, Nat.reduceMul, Nat.reduceLT, Nat.reduceLeDiff, Nat.reduceMod, Nat.reduceDiv, Int.reduceLT, Int.reduceLE, Int.reduceToNat, ↓reduceIte, reduceCtorEq, Value.oneCell', Int.reduceAdd, Int.reduceSub, Int.reduceMod, Int.reduceMul, Int.reduceNeg, Int.reduceBEq, Int.reduceBNe, Int.reduceTDiv, Int.reduceTMod, Int.reduceEq, tyB, Try.underlying13, Try.underlying25, Try.underlying26, Try.underlying39, Try.underlying40, Try.underlying72, Try.underlying73, fmulG, ha, hb, isW1']
noncomputable def ngN (a : Nat) : Nat := (pN 1 - a % pN 1) % pN 1
theorem ngN_lt (a : Nat) : ngN a < full := mod_pN _ 1
noncomputable def sngG : List DV → Option RV
  | [.pl v] => match toN v with
    | some a => some (.one (.pl (uV (ngN a))))
    | _ => none
  | _ => none
theorem sng_ok : ∀ ds r, sngG ds = some r → Spec Try.prog 44 ds r := by
  intro ds r h
  unfold sngG at h
  split at h
  case h_2 => cases h
  rename_i v
  split at h
  case h_2 => cases h
  rename_i a ha
  cases h
  obtain ⟨rfl, ha'⟩ := toN_eq ha
  have hΓ : Env.ok [(77, fsubG)] Try.prog := ok_cons fsub_ok (ok_nil _)
  have e : ngN a = (0 % pN 1 + (pN 1 - a % pN 1)) % pN 1 := by unfold ngN; rw [Nat.zero_mod, Nat.zero_add]
  refine Spec.of_vx hΓ follows_mixed Try.func44 rfl (by kernel_rfl) (T := []) (by simp [Try.ntmps44]) (by kernel_rfl) rfl Try.ntmps44 (res := [.cell 2 24]) rfl ?_
  intro W
  simp -implicitDefEqProofs (maxSteps := 10000000) only [vy_succ, vmB, slim, slimOp, gO, gSO, qSO, quietOp, cS, qSB, eK, calmOp, guardS, gK, qK, putK, plK, dOk, St.ev, St.get, St.mem, St.set, St.setm, St.put, lookA, look, newK, nextver, initT, seqE, blockQ, bodyQ, resK, retV, AV.rdv, agg_uV, ↓binK, ↓intK, unK, ↓loadK, ↓withKey_eq, ↓idxAddrK, ↓indexK, ↓partK, ↓fieldK, ↓fieldAddrK, ↓convK, ↓callK, wrG, updK, ↓lenK, ↓mmK, ↓appK, ↓copyK, ↓sliceK, ↓toArrK, nilK, evs, plains, seqParts, capsOf, capsD, AV.dv, AV.cont, ↓buildV_eq, fillL, placesOf, ↓storeK, wrL, RV.av, DV.av, List.set, Nat.reduceEqDiff, Nat.reduceAdd, Nat.reduceSub, Nat.reduceMul, Nat.reduceLT, Nat.reduceLeDiff, Nat.reduceMod, Nat.reduceDiv, Int.reduceLT, Int.reduceLE, Int.reduceToNat, ↓reduceIte, reduceCtorEq, Value.oneCell', Int.reduceAdd, Int.reduceSub, Int.reduceMod, Int.reduceMul, Int.reduceNeg, Int.reduceBEq, Int.reduceBNe, Int.reduceTDiv, Int.reduceTMod, Int.reduceEq, tyB, Try.underlying13, Try.underlying25, Try.underlying26, Try.underlying39, Try.underlying40, Try.underlying72, Try.underlying73, fsubG, ha, toN_zero, isW1', e]
theorem rsub_0 (b : Nat) (hb : b < full) : (0 + (pN 1 + pN 1) - b) % pN 1 = ngN b := by
  have h1 := pN_big 1
  have h2 := Nat.mod_add_div b (pN 1)
  have h3 := Nat.mod_lt b (pN_pos 1)
  have hb2 : b / pN 1 ≤ 1 := by
    have : b / pN 1 < 2 := Nat.div_lt_of_lt_mul (by rw [Nat.mul_comm]; omega)
    omega
  unfold ngN
  generalize b / pN 1 = q at *
  rcases (show q = 0 ∨ q = 1 by omega) with h | h
  · rw [h, Nat.mul_zero, Nat.add_zero] at h2
    rw [show 0 + (pN 1 + pN 1) - b = (pN 1 - b % pN 1) + pN 1 by omega, Nat.add_mod_right]
  · rw [h, Nat.mul_one] at h2
    rw [show 0 + (pN 1 + pN 1) - b = (pN 1 - b % pN 1) by omega]
noncomputable def snuG : List DV → Option RV
  | [.pl (.string s)] => if s.size ≤ 32 then some (.one (.pl (uV (strN s.data.toList % pN 1)))) else none
  | _ => none
theorem strN_ge : ∀ (l : List UInt8) (k : Nat), l.foldl (fun n b => 256 * n + b.toNat) k < (k + 1) * 256 ^ l.length
  | [], k => by simp
  | b :: l, k => by
    rw [List.foldl_cons, List.length_cons, Nat.pow_succ]
    have h := strN_ge l (256 * k + b.toNat)
    have hb := b.toNat_lt
    refine Nat.lt_of_lt_of_le h ?_
    rw [Nat.mul_comm (256 ^ l.length) 256, ← Nat.mul_assoc]
    exact Nat.mul_le_mul_right _ (by omega)
theorem strN_lt (l : List UInt8) (h : l.length ≤ 32) : strN l < full := by
  have h1 := strN_ge l 0
  rw [Nat.zero_add, Nat.one_mul] at h1
  refine Nat.lt_of_lt_of_le h1 ?_
  rw [full_eq]
  exact Nat.le_trans (Nat.pow_le_pow_right (by decide) h) (by decide)
theorem strN_m {s : ByteArray} (h : s.size ≤ 32) : strN s.data.toList % full = strN s.data.toList := Nat.mod_eq_of_lt (strN_lt _ (by rw [Array.length_toList]; exact h))
theorem snu_ok : ∀ ds r, snuG ds = some r → Spec Try.prog 45 ds r := by
  intro ds r h
  unfold snuG at h
  split at h
  case h_2 => cases h
  rename_i s
  split at h
  case isFalse => cases h
  rename_i hs
  cases h
  have hΓ : Env.ok [(40, fromG), (78, freduceG)] Try.prog := ok_cons from_ok (ok_cons freduce_ok (ok_nil _))
  have m := strN_m hs
  have c : (s.size ≤ 32) = True := eq_true hs
  have z : strN s.data.toList + 0 * full = strN s.data.toList := by omega
  refine Spec.of_vx hΓ follows_mixed Try.func45 rfl (by kernel_rfl) (T := []) (by simp [Try.ntmps45]) (by kernel_rfl) rfl Try.ntmps45 (res := [.cell 2 24]) rfl ?_
  intro W
  simp -implicitDefEqProofs (maxSteps := 10000000) only [vy_succ, vmB, slim, slimOp, gO, gSO, qSO, quietOp, cS, qSB, eK, calmOp, guardS, gK, qK, putK, plK, dOk, St.ev, St.get, St.mem, St.set, St.setm, St.put, lookA, look, newK, nextver, initT, seqE, blockQ, bodyQ, resK, retV, AV.rdv, agg_uV, ↓binK, ↓intK, unK, ↓loadK, ↓withKey_eq, ↓idxAddrK, ↓indexK, ↓partK, ↓fieldK, ↓fieldAddrK, ↓convK, ↓callK, wrG, updK, ↓lenK, ↓mmK, ↓appK, ↓copyK, ↓sliceK, ↓toArrK, nilK, evs, plains, seqParts, capsOf, capsD, AV.dv, AV.cont, ↓buildV_eq, fillL, placesOf, ↓storeK, wrL, RV.av, DV.av, List.set, Nat.reduceEqDiff, Nat.reduceAdd, Nat.reduceSub, Nat.reduceMul, Nat.reduceLT, Nat.reduceLeDiff, Nat.reduceMod, Nat.reduceDiv, Int.reduceLT, Int.reduceLE, Int.reduceToNat, ↓reduceIte, reduceCtorEq, Value.oneCell', Int.reduceAdd, Int.reduceSub, Int.reduceMod, Int.reduceMul, Int.reduceNeg, Int.reduceBEq, Int.reduceBNe, Int.reduceTDiv, Int.reduceTMod, Int.reduceEq, tyB, Try.underlying13, Try.underlying25, Try.underlying26, Try.underlying39, Try.underlying40, Try.underlying72, Try.underlying73, fromG, freduceG, m, c, z, toN_zero, isW1']
theorem rsnu_ok : ∀ ds r, snuG ds = some r → Spec Try.prog 25 ds r := by
  intro ds r h
  unfold snuG at h
  split at h
  case h_2 => cases h
  rename_i s
  split at h
  case isFalse => cases h
  rename_i hs
  cases h
  have hΓ : Env.ok [(41, rfromG), (35, ofG), (61, rleftG)] Try.prog := ok_cons rfrom_ok (ok_cons of_ok (ok_cons rleft_ok (ok_nil _)))
  have m := strN_m hs
  have c : (s.size ≤ 40) = True := eq_true (by omega)
  have d1 := toD_16 (strN_lt s.data.toList (by rw [Array.length_toList]; exact hs))
  have c16 : (16 ≤ 300) = True := eq_true (by decide)
  refine Spec.of_vx hΓ follows_mixed Try.func25 rfl (by kernel_rfl) (T := []) (by simp [Try.ntmps25]) (by kernel_rfl) rfl Try.ntmps25 (res := [.cell 2 24]) rfl ?_
  intro W
  simp -implicitDefEqProofs (maxSteps := 10000000) only [vy_succ, vmB, slim, slimOp, gO, gSO, qSO, quietOp, cS, qSB, eK, calmOp, guardS, gK, qK, putK, plK, dOk, St.ev, St.get, St.mem, St.set, St.setm, St.put, lookA, look, newK, nextver, initT, seqE, blockQ, bodyQ, resK, retV, AV.rdv, agg_uV, ↓binK, ↓intK, unK, ↓loadK, ↓withKey_eq, ↓idxAddrK, ↓indexK, ↓partK, ↓fieldK, ↓fieldAddrK, ↓convK, ↓callK, wrG, updK, ↓lenK, ↓mmK, ↓appK, ↓copyK, ↓sliceK, ↓toArrK, nilK, evs, plains, seqParts, capsOf, capsD, AV.dv, AV.cont, ↓buildV_eq, fillL, placesOf, ↓storeK, wrL, RV.av, DV.av, List.set, Nat.reduceEqDiff, Nat.reduceAdd, Nat.reduceSub, Nat.reduceMul, Nat.reduceLT, Nat.reduceLeDiff, Nat.reduceMod, Nat.reduceDiv, Int.reduceLT, Int.reduceLE, Int.reduceToNat, ↓reduceIte, reduceCtorEq, Value.oneCell', Int.reduceAdd, Int.reduceSub, Int.reduceMod, Int.reduceMul, Int.reduceNeg, Int.reduceBEq, Int.reduceBNe, Int.reduceTDiv, Int.reduceTMod, Int.reduceEq, tyB, Try.underlying13, Try.underlying25, Try.underlying26, Try.underlying39, Try.underlying40, Try.underlying72, Try.underlying73, rfromG, ofG, rleftG, m, c, d1, c16, isW1']
end Go.Vm
