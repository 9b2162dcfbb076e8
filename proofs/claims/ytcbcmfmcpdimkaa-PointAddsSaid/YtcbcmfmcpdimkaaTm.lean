/- Contract on numbers in digits: Times. No condition. -/
import Derived.Test.YtcbcmfmcpdimkaaLt
set_option maxRecDepth 100000
set_option linter.unusedSimpArgs false
set_option linter.unusedVariables false
namespace Go.Vm
open Go Go.RowKit Go.Proofs

/-! ### Plain laws -/
noncomputable def mixV (N p V U : Nat) : List Value := Classical.choose (⟨(List.range N).map fun j => .int .i64 ((if j < p then dg V j else dg U j : Nat) : Int), rfl⟩ : ∃ l : List Value, l = (List.range N).map fun j => .int .i64 ((if j < p then dg V j else dg U j : Nat) : Int))
theorem mixV_eq (N p V U : Nat) : mixV N p V U = (List.range N).map fun j => .int .i64 ((if j < p then dg V j else dg U j : Nat) : Int) := Classical.choose_spec (⟨(List.range N).map fun j => .int .i64 ((if j < p then dg V j else dg U j : Nat) : Int), rfl⟩ : ∃ l : List Value, l = (List.range N).map fun j => .int .i64 ((if j < p then dg V j else dg U j : Nat) : Int))
theorem mixV_len (N p V U : Nat) : (mixV N p V U).length = N := by rw [mixV_eq]; simp
theorem mixV_get (N p V U : Nat) (h : p < N) : (mixV N p V U)[p]? = some (.int .i64 (dg U p : Nat)) := by rw [mixV_eq]; simp [h]
theorem mixV_set (N p V V' U : Nat) (h : p < N) (hj : ∀ j, j < p → dg V' j = dg V j) : (mixV N p V U).set p (.int .i64 (dg V' p : Nat)) = mixV N (p + 1) V' U := by
  rw [mixV_eq, mixV_eq]
  apply List.ext_getElem
  · simp
  · intro j h1 h2
    simp only [List.getElem_set, List.getElem_map, List.getElem_range]
    by_cases e : p = j
    · subst e; simp
    · rw [if_neg e]
      by_cases h3 : j < p
      · rw [if_pos h3, if_pos (by omega), hj j h3]
      · rw [if_neg h3, if_neg (by omega)]
theorem mixV_same (N p U : Nat) : mixV N p U U = digV N U := by
  rw [mixV_eq, digV_eq]
  congr 1
  funext j
  split <;> rfl
theorem mixV_end (N p V U : Nat) (h : ∀ j, p ≤ j → dg U j = dg V j) : mixV N p V U = digV N V := by
  rw [mixV_eq, digV_eq]
  congr 1
  funext j
  split
  · rfl
  · rw [h j (by omega)]
theorem digV_zero (N : Nat) : digV N 0 = List.replicate N (.int .i64 0) := by
  rw [digV_eq]
  apply List.ext_getElem
  · simp
  · intro j h1 h2
    simp [dg_eq]

noncomputable def vT (x y i k : Nat) : Nat := Classical.choose (⟨x % 65536 ^ i * y + dg x i * (y % 65536 ^ k) * 65536 ^ i, rfl⟩ : ∃ z : Nat, z = x % 65536 ^ i * y + dg x i * (y % 65536 ^ k) * 65536 ^ i)
theorem vT_eq (x y i k : Nat) : vT x y i k = x % 65536 ^ i * y + dg x i * (y % 65536 ^ k) * 65536 ^ i := Classical.choose_spec (⟨x % 65536 ^ i * y + dg x i * (y % 65536 ^ k) * 65536 ^ i, rfl⟩ : ∃ z : Nat, z = x % 65536 ^ i * y + dg x i * (y % 65536 ^ k) * 65536 ^ i)
noncomputable def uT (x y i : Nat) : Nat := Classical.choose (⟨x % 65536 ^ i * y, rfl⟩ : ∃ z : Nat, z = x % 65536 ^ i * y)
theorem uT_eq (x y i : Nat) : uT x y i = x % 65536 ^ i * y := Classical.choose_spec (⟨x % 65536 ^ i * y, rfl⟩ : ∃ z : Nat, z = x % 65536 ^ i * y)
noncomputable def cT (x y i k : Nat) : Nat := Classical.choose (⟨vT x y i k / 65536 ^ (i + k) - uT x y i / 65536 ^ (i + k), rfl⟩ : ∃ z : Nat, z = vT x y i k / 65536 ^ (i + k) - uT x y i / 65536 ^ (i + k))
theorem cT_eq (x y i k : Nat) : cT x y i k = vT x y i k / 65536 ^ (i + k) - uT x y i / 65536 ^ (i + k) := Classical.choose_spec (⟨vT x y i k / 65536 ^ (i + k) - uT x y i / 65536 ^ (i + k), rfl⟩ : ∃ z : Nat, z = vT x y i k / 65536 ^ (i + k) - uT x y i / 65536 ^ (i + k))
theorem vT_0 (x y i : Nat) : vT x y i 0 = uT x y i := by rw [vT_eq, uT_eq, Nat.pow_zero, Nat.mod_one, Nat.mul_zero, Nat.zero_mul, Nat.add_zero]
theorem cT_0 (x y i : Nat) : cT x y i 0 = 0 := by rw [cT_eq, vT_0, Nat.sub_self]
theorem vT_ge (x y i k : Nat) : uT x y i ≤ vT x y i k := by rw [vT_eq, uT_eq]; omega
theorem vT_div (x y i k : Nat) : vT x y i k / 65536 ^ (i + k) = uT x y i / 65536 ^ (i + k) + cT x y i k := by
  have := Nat.div_le_div_right (c := 65536 ^ (i + k)) (vT_ge x y i k)
  rw [cT_eq]; omega
theorem vT_succ (x y i k : Nat) : vT x y i (k + 1) = vT x y i k + dg x i * dg y k * 65536 ^ (i + k) := by
  rw [vT_eq, vT_eq, mod_step, Nat.mul_add, Nat.add_mul, Nat.pow_add, ← Nat.add_assoc]
  congr 1
  rw [Nat.mul_comm (65536 ^ k) (dg y k), Nat.mul_assoc, Nat.mul_assoc, Nat.mul_assoc, Nat.mul_comm (65536 ^ k)]
theorem vT_low (x y i k j : Nat) (h : j < i + k) : dg (vT x y i (k + 1)) j = dg (vT x y i k) j := by
  rw [dg_eq, dg_eq, vT_succ]
  have e : dg x i * dg y k * 65536 ^ (i + k) = 65536 ^ j * (65536 * (dg x i * dg y k * 65536 ^ (i + k - j - 1))) := by
    have : 65536 ^ (i + k) = 65536 ^ j * (65536 * 65536 ^ (i + k - j - 1)) := by
      rw [← Nat.pow_succ', ← Nat.pow_add]; congr 1; omega
    rw [this]
    simp only [Nat.mul_left_comm, Nat.mul_comm, Nat.mul_assoc]
  rw [e, Nat.add_mul_div_left _ _ (bpow_pos j), Nat.add_mul_mod_self_left]
theorem vT_sdiv (x y i k : Nat) : vT x y i (k + 1) / 65536 ^ (i + k) = uT x y i / 65536 ^ (i + k) + cT x y i k + dg x i * dg y k := by
  rw [vT_succ, Nat.add_mul_div_right _ _ (bpow_pos _), vT_div]
theorem vT_digit (x y i k : Nat) : (dg (uT x y i) (i + k) + dg x i * dg y k + cT x y i k) % 65536 = dg (vT x y i (k + 1)) (i + k) := by
  rw [dg_eq (vT x y i (k + 1)), vT_sdiv, dg_eq (uT x y i)]
  generalize uT x y i / 65536 ^ (i + k) = a
  generalize dg x i * dg y k = b
  omega
theorem vT_carry (x y i k : Nat) : (dg (uT x y i) (i + k) + dg x i * dg y k + cT x y i k) / 65536 = cT x y i (k + 1) := by
  have h1 := vT_div x y i (k + 1)
  rw [← Nat.add_assoc, Nat.pow_succ, ← Nat.div_div_eq_div_mul, ← Nat.div_div_eq_div_mul, vT_sdiv] at h1
  rw [dg_eq (uT x y i)]
  generalize uT x y i / 65536 ^ (i + k) = a at *
  generalize dg x i * dg y k = b at *
  omega
theorem mul_digits (x y i k : Nat) : dg x i * dg y k ≤ 4294836225 := Nat.mul_le_mul (show dg x i ≤ 65535 by have := dg_lt x i; omega) (show dg y k ≤ 65535 by have := dg_lt y k; omega)
theorem cT_lt (x y i : Nat) : ∀ k, cT x y i k < 65536
  | 0 => by rw [cT_0]; omega
  | k + 1 => by
    have h1 := cT_lt x y i k
    have h2 := vT_carry x y i k
    have h3 := dg_lt (uT x y i) (i + k)
    have h4 := mul_digits x y i k
    omega
theorem vT_full {x y i k m : Nat} (hy : y < 65536 ^ m) (h : m ≤ k) : vT x y i k = uT x y (i + 1) := by
  rw [vT_eq, uT_eq, mod_step, Nat.add_mul, Nat.mod_eq_of_lt (Nat.lt_of_lt_of_le hy (pow_mono h))]
  congr 1
  rw [Nat.mul_comm, ← Nat.mul_assoc]
theorem cT_last {x y i m : Nat} (hy : y < 65536 ^ m) : cT x y i (m + 1) = 0 := by
  rw [cT_eq, vT_full hy (by omega)]
  have h1 : uT x y (i + 1) < 65536 ^ (i + (m + 1)) := by
    have e : 65536 ^ (i + (m + 1)) = 65536 ^ (i + 1) * 65536 ^ m := by rw [← Nat.pow_add]; congr 1; omega
    rw [uT_eq, e]
    exact Nat.mul_lt_mul_of_lt_of_lt (Nat.mod_lt _ (bpow_pos _)) hy
  rw [Nat.div_eq_of_lt h1, Nat.zero_sub]
theorem vT_high {x y i k m : Nat} (hy : y < 65536 ^ m) (h : m ≤ k) (hc : cT x y i k = 0) (j : Nat) (hj : i + k ≤ j) : dg (uT x y i) j = dg (uT x y (i + 1)) j := by
  have h1 := vT_div x y i k
  rw [hc, Nat.add_zero, vT_full hy h] at h1
  rw [dg_eq, dg_eq, show j = (i + k) + (j - (i + k)) by omega, Nat.pow_add, ← Nat.div_div_eq_div_mul, ← Nat.div_div_eq_div_mul, h1]
theorem uT_0 (x y : Nat) : uT x y 0 = 0 := by rw [uT_eq, Nat.pow_zero, Nat.mod_one, Nat.zero_mul]
theorem uT_end {x y n : Nat} (hx : x < 65536 ^ n) : uT x y n = x * y := by rw [uT_eq, Nat.mod_eq_of_lt hx]

/-! ### The walk -/
noncomputable def timesG : List DV → Option RV
  | [.vec xs, .vec ys] => match toD xs, toD ys with
    | some (n, x), some (m, y) => if n + m ≤ 1000 then some (.one (.vec (digV (n + m + 1) (x * y)))) else none
    | _, _ => none
  | _ => none
noncomputable def tmS (n x m y i : Nat) : St := ⟨[(19, .pl (.int .i64 (i : Nat))), (18, .pl (.int .i64 (n : Nat))), (5, .sl 16 0 0 (n + m + 1)), (0, .vec false (digV n x)), (1, .vec false (digV m y))], [(16, ⟨0, 3, digV (n + m + 1) (uT x y i)⟩)]⟩
noncomputable def tnS (n x m y i k : Nat) : St := ⟨[(8, .pl (.int .i64 (k : Nat))), (7, .pl (.int .i64 (cT x y i k : Nat))), (6, .pl (.int .i64 (i : Nat))), (19, .pl (.int .i64 (i : Nat))), (18, .pl (.int .i64 (n : Nat))), (5, .sl 16 0 0 (n + m + 1)), (0, .vec false (digV n x)), (1, .vec false (digV m y))], [(16, ⟨0, 3, mixV (n + m + 1) (i + k) (vT x y i k) (uT x y i)⟩)]⟩

set_option maxHeartbeats 4000000 in
theorem times_walk (n x m y : Nat) (hx : x < 65536 ^ n) (hy : y < 65536 ^ m) (hb : n + m ≤ 1000) : Spec Try.prog 68 [.vec (digV n x), .vec (digV m y)] (.one (.vec (digV (n + m + 1) (x * y)))) := by
  have hΓ : Env.ok [(64, digitG)] Try.prog := ok_cons digit_ok (ok_nil _)
  have tx := toD_digV hx
  have ty := toD_digV hy
  have lx := digV_len n x
  have ly := digV_len m y
  have w1 : IntKind.i64.wrap ((n : Int) + (m : Int)) = ((n + m : Nat) : Int) := by rw [i64_in (by omega) (by omega)]; omega
  have w2 : IntKind.i64.wrap (((n + m : Nat) : Int) + 1) = ((n + m + 1 : Nat) : Int) := by rw [i64_in (by omega) (by omega)]; omega
  have w3 : (0 : Int) ≤ ((n + m + 1 : Nat) : Int) := by omega
  have hz := digV_zero (n + m + 1)
  have hu0 := uT_0 x y
  refine Spec.of_vx hΓ follows_mixed Try.func68 rfl (by kernel_rfl) (T := []) (by simp [Try.ntmps68]) (by kernel_rfl) rfl Try.ntmps68 (res := [.tmp 4]) rfl ?_
  intro W
  simp -implicitDefEqProofs (maxSteps := 10000000) only [vy_succ, vy_zero, vx_skip, vx_reg0, vx_reg1, vx_ord, xx_done, xx_stop, xx_alt, vx_seq, vx_cond, vx_block, vx_exit, vx_ret, vx_loop, gx_nil, gx_cons, dx_nil, dx_cons, slim, slimOp, gO, gSO, qSO, quietOp, cx_nil, cx_cons, xx_alc, cS, qSB, eK, calmOp, guardS, gK, qK, putK, plK, dOk, St.ev, St.get, St.mem, St.set, St.setm, St.put, lookA, look, newK, nextver, initT, seqE, blockQ, bodyQ, resK, retV, AV.rdv, cells_agg, cells_int, cells_bool, cells_string, cells_slice, cells_uV, agg_uV, isNil_uV, toN_uV, i64_in, IntKind.wrap_u64, IntKind.wrap_u8, IntKind.wrap_u32, ↓binK, ↓intK, unK, ↓loadK, ↓withKey_eq, ↓idxAddrK, ↓indexK, ↓partK, ↓fieldK, ↓fieldAddrK, ↓convK, ↓callK, wrG, updK, ↓lenK, ↓mmK, ↓appK, ↓copyK, ↓sliceK, ↓toArrK, nilK, optK_some, optK_tup, optK_ite, evs, plains, seqParts, capsOf, capsD, List.append_nil, List.nil_append, List.cons_append, AV.dv, AV.cont, isNil_agg, isNil_int, isNil_bool, isNil_string, isNil_nil, isNil_slice, ↓buildV_eq, fillL, placesOf, Option.map_some, Option.map_none, ↓storeK, wrL, RV.av, DV.av, List.set, List.map_cons, List.map_nil, List.length_cons, List.length_nil, List.all_cons, List.all_nil, List.getElem?_cons_zero, List.getElem?_cons_succ, List.getElem?_nil, List.size_toArray, List.getElem?_toArray, List.drop_zero, List.drop_succ_cons, List.take_zero, List.take_succ_cons, Option.getD_some, Option.getD_none, Option.some.injEq, Option.isSome_some, Nat.reduceEqDiff, Nat.reduceAdd, Nat.reduceSub, Nat.reduceMul, Nat.reduceLT, Nat.reduceLeDiff, Nat.reduceMod, Nat.reduceDiv, Int.cast_ofNat_Int, Int.reduceLT, Int.reduceLE, Int.reduceToNat, ↓reduceIte, true_and, and_true, true_or, or_true, or_false, false_or, reduceCtorEq, Bool.false_eq_true, Bool.and_true, Bool.not_true, Bool.not_false, beq_self_eq_true, Bool.true_beq, Bool.false_beq, Value.oneCell', decide_true, decide_false, Int.reduceAdd, Int.reduceSub, Int.reduceMod, Int.reduceMul, Int.reduceNeg, Int.reduceBEq, Int.reduceBNe, Int.reduceTDiv, Int.reduceTMod, ne_eq, not_false_eq_true, not_true_eq_false, Int.reduceEq, Nat.zero_add, Nat.add_zero, Nat.le_refl, tyB, Try.underlying13, Try.underlying25, Try.underlying26, Try.underlying53, Try.underlying54, lx, ly, w1, w2, w3, Int.toNat_natCast]
  refine ⟨by omega, by omega, ?_⟩
  refine VT_loop hΓ follows_mixed (tmS n x m y) (fun i => i ≤ n) (fun i => n - i) 0 (Sub.of (by simp -implicitDefEqProofs only [subT, tmS, look, lookA, newK, St.get, St.mem, List.map_cons, List.map_nil, List.all_cons, List.all_nil, List.length_cons, List.length_nil, List.getElem?_cons_zero, List.getElem?_cons_succ, Nat.reduceEqDiff, Nat.reduceAdd, Option.some.injEq, ↓reduceIte, true_and, and_true, reduceCtorEq, beq_self_eq_true, Bool.and_true, ne_eq, not_false_eq_true, not_true_eq_false, Nat.add_zero, Nat.zero_add, Nat.reduceSub, Nat.reduceMul, Int.cast_ofNat_Int, Int.reduceAdd, Int.reduceSub, Int.reduceMul, Int.natCast_zero]) (by simp -implicitDefEqProofs only [subM, tmS, hu0, hz, look, lookA, newK, St.get, St.mem, List.map_cons, List.map_nil, List.all_cons, List.all_nil, List.length_cons, List.length_nil, List.getElem?_cons_zero, List.getElem?_cons_succ, Nat.reduceEqDiff, Nat.reduceAdd, Option.some.injEq, ↓reduceIte, true_and, and_true, reduceCtorEq, beq_self_eq_true, Bool.and_true, ne_eq, not_false_eq_true, not_true_eq_false, Nat.add_zero, Nat.zero_add, Nat.reduceSub, Nat.reduceMul, Int.cast_ofNat_Int, Int.reduceAdd, Int.reduceSub, Int.reduceMul, Int.natCast_zero]) rfl) (by omega) ?_
  intro i hi
  have li := digV_len (n + m + 1) (uT x y i)
  by_cases hlt : i < n
  · have r1 : decide ((i : Int) < (n : Int)) = true := decide_eq_true (by omega)
    have r2 : IntKind.i64.wrap ((i : Int) + 1) = (i : Int) + 1 := i64_in (by omega) (by omega)
    have r3 := digV_get n x i hlt
    have r4 : (0 : Int) ≤ (i : Int) := by omega
    have r5 : (i : Int) < (n : Int) := by omega
    have hc0 := cT_0 x y i
    have hv0 := vT_0 x y i
    have hms := mixV_same (n + m + 1) i (uT x y i)
    simp -implicitDefEqProofs (maxSteps := 10000000) only [tmS, lx, ly, li, r1, vy_succ, vy_zero, vx_skip, vx_reg0, vx_reg1, vx_ord, xx_done, xx_stop, xx_alt, vx_seq, vx_cond, vx_block, vx_exit, vx_ret, vx_loop, gx_nil, gx_cons, dx_nil, dx_cons, slim, slimOp, gO, gSO, qSO, quietOp, cx_nil, cx_cons, xx_alc, cS, qSB, eK, calmOp, guardS, gK, qK, putK, plK, dOk, St.ev, St.get, St.mem, St.set, St.setm, St.put, lookA, look, newK, nextver, initT, seqE, blockQ, bodyQ, resK, retV, AV.rdv, cells_agg, cells_int, cells_bool, cells_string, cells_slice, cells_uV, agg_uV, isNil_uV, toN_uV, i64_in, IntKind.wrap_u64, IntKind.wrap_u8, IntKind.wrap_u32, ↓binK, ↓intK, unK, ↓loadK, ↓withKey_eq, ↓idxAddrK, ↓indexK, ↓partK, ↓fieldK, ↓fieldAddrK, ↓convK, ↓callK, wrG, updK, ↓lenK, ↓mmK, ↓appK, ↓copyK, ↓sliceK, ↓toArrK, nilK, optK_some, optK_tup, optK_ite, evs, plains, seqParts, capsOf, capsD, List.append_nil, List.nil_append, List.cons_append, AV.dv, AV.cont, isNil_agg, isNil_int, isNil_bool, isNil_string, isNil_nil, isNil_slice, ↓buildV_eq, fillL, placesOf, Option.map_some, Option.map_none, ↓storeK, wrL, RV.av, DV.av, List.set, List.map_cons, List.map_nil, List.length_cons, List.length_nil, List.all_cons, List.all_nil, List.getElem?_cons_zero, List.getElem?_cons_succ, List.getElem?_nil, List.size_toArray, List.getElem?_toArray, List.drop_zero, List.drop_succ_cons, List.take_zero, List.take_succ_cons, Option.getD_some, Option.getD_none, Option.some.injEq, Option.isSome_some, Nat.reduceEqDiff, Nat.reduceAdd, Nat.reduceSub, Nat.reduceMul, Nat.reduceLT, Nat.reduceLeDiff, Nat.reduceMod, Nat.reduceDiv, Int.cast_ofNat_Int, Int.reduceLT, Int.reduceLE, Int.reduceToNat, ↓reduceIte, true_and, and_true, true_or, or_true, or_false, false_or, reduceCtorEq, Bool.false_eq_true, Bool.and_true, Bool.not_true, Bool.not_false, beq_self_eq_true, Bool.true_beq, Bool.false_beq, Value.oneCell', decide_true, decide_false, Int.reduceAdd, Int.reduceSub, Int.reduceMod, Int.reduceMul, Int.reduceNeg, Int.reduceBEq, Int.reduceBNe, Int.reduceTDiv, Int.reduceTMod, ne_eq, not_false_eq_true, not_true_eq_false, Int.reduceEq, Nat.zero_add, Nat.add_zero, Nat.le_refl, tyB, Try.underlying13, Try.underlying25, Try.underlying26, Try.underlying53, Try.underlying54]
    refine VT_loop hΓ follows_mixed (tnS n x m y i) (fun k => k ≤ m ∨ (k = m + 1)) (fun k => m + 1 - k) 0 (Sub.of (by simp -implicitDefEqProofs only [subT, tnS, hc0, look, lookA, newK, St.get, St.mem, List.map_cons, List.map_nil, List.all_cons, List.all_nil, List.length_cons, List.length_nil, List.getElem?_cons_zero, List.getElem?_cons_succ, Nat.reduceEqDiff, Nat.reduceAdd, Option.some.injEq, ↓reduceIte, true_and, and_true, reduceCtorEq, beq_self_eq_true, Bool.and_true, ne_eq, not_false_eq_true, not_true_eq_false, Nat.add_zero, Nat.zero_add, Nat.reduceSub, Nat.reduceMul, Int.cast_ofNat_Int, Int.reduceAdd, Int.reduceSub, Int.reduceMul, Int.natCast_zero]) (by simp -implicitDefEqProofs only [subM, tnS, hv0, hms, look, lookA, newK, St.get, St.mem, List.map_cons, List.map_nil, List.all_cons, List.all_nil, List.length_cons, List.length_nil, List.getElem?_cons_zero, List.getElem?_cons_succ, Nat.reduceEqDiff, Nat.reduceAdd, Option.some.injEq, ↓reduceIte, true_and, and_true, reduceCtorEq, beq_self_eq_true, Bool.and_true, ne_eq, not_false_eq_true, not_true_eq_false, Nat.add_zero, Nat.zero_add, Nat.reduceSub, Nat.reduceMul, Int.cast_ofNat_Int, Int.reduceAdd, Int.reduceSub, Int.reduceMul, Int.natCast_zero]) rfl) (by omega) ?_
    intro k hk
    have lk := mixV_len (n + m + 1) (i + k) (vT x y i k) (uT x y i)
    have hck := cT_lt x y i k
    by_cases hgo : k < m ∨ 0 < cT x y i k
    · have hkm : k ≤ m := by
        rcases hk with h | h
        · exact h
        · exfalso; subst h; rw [cT_last hy] at hgo; omega
      have hd1 := dg_lt (uT x y i) (i + k)
      have hd2 := mul_digits x y i k
      have hsd := vT_digit x y i k
      have hsc := vT_carry x y i k
      have hget := mixV_get (n + m + 1) (i + k) (vT x y i k) (uT x y i) (by omega)
      have hset := mixV_set (n + m + 1) (i + k) (vT x y i k) (vT x y i (k + 1)) (uT x y i) (by omega) (fun j hj => vT_low x y i k j hj)
      have u1 : IntKind.i64.wrap ((i : Int) + (k : Int)) = ((i + k : Nat) : Int) := by rw [i64_in (by omega) (by omega)]; omega
      have u2 : IntKind.i64.wrap (((dg x i : Nat) : Int) * ((dg y k : Nat) : Int)) = ((dg x i * dg y k : Nat) : Int) := by
        have e : ((dg x i : Nat) : Int) * ((dg y k : Nat) : Int) = ((dg x i * dg y k : Nat) : Int) := by simp
        rw [e, i64_in (by omega) (by omega)]
      generalize dg x i * dg y k = pr at *
      have u3 : IntKind.i64.wrap (((dg (uT x y i) (i + k) : Nat) : Int) + ((pr : Nat) : Int)) = ((dg (uT x y i) (i + k) + pr : Nat) : Int) := by rw [i64_in (by omega) (by omega)]; omega
      have u4 : IntKind.i64.wrap (((dg (uT x y i) (i + k) + pr : Nat) : Int) + ((cT x y i k : Nat) : Int)) = ((dg (uT x y i) (i + k) + pr + cT x y i k : Nat) : Int) := by rw [i64_in (by omega) (by omega)]; omega
      generalize dg (uT x y i) (i + k) + pr + cT x y i k = s at *
      have u5 : ((s : Nat) : Int).tmod 65536 = ((dg (vT x y i (k + 1)) (i + k) : Nat) : Int) := by rw [Int.tmod_eq_emod_of_nonneg (by omega), ← hsd]; omega
      have hcn := cT_lt x y i (k + 1)
      have u6 : IntKind.i64.wrap (((s : Nat) : Int).tdiv 65536) = ((cT x y i (k + 1) : Nat) : Int) := by
        rw [Int.tdiv_eq_ediv_of_nonneg (by omega), ← hsc, i64_in (by omega) (by omega)]; omega
      have u7 : IntKind.i64.wrap ((k : Int) + 1) = (k : Int) + 1 := i64_in (by omega) (by omega)
      have u8 : (0 : Int) ≤ (k : Int) := by omega
      have u9 : (0 : Int) ≤ ((i + k : Nat) : Int) := by omega
      have u10 : ((i + k : Nat) : Int) < ((n + m + 1 : Nat) : Int) := by omega
      have u11 : i + k < n + m + 1 := by omega
      by_cases c1 : k < m
      · have g1 : decide ((k : Int) < (m : Int)) = true := decide_eq_true (by omega)
        simp -implicitDefEqProofs (maxSteps := 10000000) only [tnS, digitG, lx, ly, tx, ty, lk, r3, r4, r5, u1, u2, u3, u4, u5, u6, u7, u8, u9, u10, u11, g1, hget, hset, Int.toNat_natCast, Nat.mul_one, vy_succ, vy_zero, vx_skip, vx_reg0, vx_reg1, vx_ord, xx_done, xx_stop, xx_alt, vx_seq, vx_cond, vx_block, vx_exit, vx_ret, vx_loop, gx_nil, gx_cons, dx_nil, dx_cons, slim, slimOp, gO, gSO, qSO, quietOp, cx_nil, cx_cons, xx_alc, cS, qSB, eK, calmOp, guardS, gK, qK, putK, plK, dOk, St.ev, St.get, St.mem, St.set, St.setm, St.put, lookA, look, newK, nextver, initT, seqE, blockQ, bodyQ, resK, retV, AV.rdv, cells_agg, cells_int, cells_bool, cells_string, cells_slice, cells_uV, agg_uV, isNil_uV, toN_uV, i64_in, IntKind.wrap_u64, IntKind.wrap_u8, IntKind.wrap_u32, ↓binK, ↓intK, unK, ↓loadK, ↓withKey_eq, ↓idxAddrK, ↓indexK, ↓partK, ↓fieldK, ↓fieldAddrK, ↓convK, ↓callK, wrG, updK, ↓lenK, ↓mmK, ↓appK, ↓copyK, ↓sliceK, ↓toArrK, nilK, optK_some, optK_tup, optK_ite, evs, plains, seqParts, capsOf, capsD, List.append_nil, List.nil_append, List.cons_append, AV.dv, AV.cont, isNil_agg, isNil_int, isNil_bool, isNil_string, isNil_nil, isNil_slice, ↓buildV_eq, fillL, placesOf, Option.map_some, Option.map_none, ↓storeK, wrL, RV.av, DV.av, List.set, List.map_cons, List.map_nil, List.length_cons, List.length_nil, List.all_cons, List.all_nil, List.getElem?_cons_zero, List.getElem?_cons_succ, List.getElem?_nil, List.size_toArray, List.getElem?_toArray, List.drop_zero, List.drop_succ_cons, List.take_zero, List.take_succ_cons, Option.getD_some, Option.getD_none, Option.some.injEq, Option.isSome_some, Nat.reduceEqDiff, Nat.reduceAdd, Nat.reduceSub, Nat.reduceMul, Nat.reduceLT, Nat.reduceLeDiff, Nat.reduceMod, Nat.reduceDiv, Int.cast_ofNat_Int, Int.reduceLT, Int.reduceLE, Int.reduceToNat, ↓reduceIte, true_and, and_true, true_or, or_true, or_false, false_or, reduceCtorEq, Bool.false_eq_true, Bool.and_true, Bool.not_true, Bool.not_false, beq_self_eq_true, Bool.true_beq, Bool.false_beq, Value.oneCell', decide_true, decide_false, Int.reduceAdd, Int.reduceSub, Int.reduceMod, Int.reduceMul, Int.reduceNeg, Int.reduceBEq, Int.reduceBNe, Int.reduceTDiv, Int.reduceTMod, ne_eq, not_false_eq_true, not_true_eq_false, Int.reduceEq, Nat.zero_add, Nat.add_zero, Nat.le_refl, tyB, Try.underlying13, Try.underlying25, Try.underlying26, Try.underlying53, Try.underlying54]
        exact ⟨by omega, k + 1, by omega, (by show m + 1 - (k + 1) < m + 1 - k; omega), Sub.of (by simp -implicitDefEqProofs only [subT, tnS, look, lookA, newK, St.get, St.mem, List.map_cons, List.map_nil, List.all_cons, List.all_nil, List.length_cons, List.length_nil, List.getElem?_cons_zero, List.getElem?_cons_succ, Nat.reduceEqDiff, Nat.reduceAdd, Option.some.injEq, ↓reduceIte, true_and, and_true, reduceCtorEq, beq_self_eq_true, Bool.and_true, ne_eq, not_false_eq_true, not_true_eq_false, Nat.add_zero, Nat.zero_add, Nat.reduceSub, Nat.reduceMul, Int.cast_ofNat_Int, Int.reduceAdd, Int.reduceSub, Int.reduceMul, Int.natCast_add, Int.natCast_one]) (by simp -implicitDefEqProofs only [subM, tnS, ← Nat.add_assoc, look, lookA, newK, St.get, St.mem, List.map_cons, List.map_nil, List.all_cons, List.all_nil, List.length_cons, List.length_nil, List.getElem?_cons_zero, List.getElem?_cons_succ, Nat.reduceEqDiff, Nat.reduceAdd, Option.some.injEq, ↓reduceIte, true_and, and_true, reduceCtorEq, beq_self_eq_true, Bool.and_true, ne_eq, not_false_eq_true, not_true_eq_false, Nat.add_zero, Nat.zero_add, Nat.reduceSub, Nat.reduceMul, Int.cast_ofNat_Int, Int.reduceAdd, Int.reduceSub, Int.reduceMul]) rfl⟩
      · have g1 : decide ((k : Int) < (m : Int)) = false := decide_eq_false (by omega)
        have g2 : decide (0 < ((cT x y i k : Nat) : Int)) = true := decide_eq_true (by omega)
        simp -implicitDefEqProofs (maxSteps := 10000000) only [tnS, digitG, lx, ly, tx, ty, lk, r3, r4, r5, u1, u2, u3, u4, u5, u6, u7, u8, u9, u10, u11, g1, g2, hget, hset, Int.toNat_natCast, Nat.mul_one, vy_succ, vy_zero, vx_skip, vx_reg0, vx_reg1, vx_ord, xx_done, xx_stop, xx_alt, vx_seq, vx_cond, vx_block, vx_exit, vx_ret, vx_loop, gx_nil, gx_cons, dx_nil, dx_cons, slim, slimOp, gO, gSO, qSO, quietOp, cx_nil, cx_cons, xx_alc, cS, qSB, eK, calmOp, guardS, gK, qK, putK, plK, dOk, St.ev, St.get, St.mem, St.set, St.setm, St.put, lookA, look, newK, nextver, initT, seqE, blockQ, bodyQ, resK, retV, AV.rdv, cells_agg, cells_int, cells_bool, cells_string, cells_slice, cells_uV, agg_uV, isNil_uV, toN_uV, i64_in, IntKind.wrap_u64, IntKind.wrap_u8, IntKind.wrap_u32, ↓binK, ↓intK, unK, ↓loadK, ↓withKey_eq, ↓idxAddrK, ↓indexK, ↓partK, ↓fieldK, ↓fieldAddrK, ↓convK, ↓callK, wrG, updK, ↓lenK, ↓mmK, ↓appK, ↓copyK, ↓sliceK, ↓toArrK, nilK, optK_some, optK_tup, optK_ite, evs, plains, seqParts, capsOf, capsD, List.append_nil, List.nil_append, List.cons_append, AV.dv, AV.cont, isNil_agg, isNil_int, isNil_bool, isNil_string, isNil_nil, isNil_slice, ↓buildV_eq, fillL, placesOf, Option.map_some, Option.map_none, ↓storeK, wrL, RV.av, DV.av, List.set, List.map_cons, List.map_nil, List.length_cons, List.length_nil, List.all_cons, List.all_nil, List.getElem?_cons_zero, List.getElem?_cons_succ, List.getElem?_nil, List.size_toArray, List.getElem?_toArray, List.drop_zero, List.drop_succ_cons, List.take_zero, List.take_succ_cons, Option.getD_some, Option.getD_none, Option.some.injEq, Option.isSome_some, Nat.reduceEqDiff, Nat.reduceAdd, Nat.reduceSub, Nat.reduceMul, Nat.reduceLT, Nat.reduceLeDiff, Nat.reduceMod, Nat.reduceDiv, Int.cast_ofNat_Int, Int.reduceLT, Int.reduceLE, Int.reduceToNat, ↓reduceIte, true_and, and_true, true_or, or_true, or_false, false_or, reduceCtorEq, Bool.false_eq_true, Bool.and_true, Bool.not_true, Bool.not_false, beq_self_eq_true, Bool.true_beq, Bool.false_beq, Value.oneCell', decide_true, decide_false, Int.reduceAdd, Int.reduceSub, Int.reduceMod, Int.reduceMul, Int.reduceNeg, Int.reduceBEq, Int.reduceBNe, Int.reduceTDiv, Int.reduceTMod, ne_eq, not_false_eq_true, not_true_eq_false, Int.reduceEq, Nat.zero_add, Nat.add_zero, Nat.le_refl, tyB, Try.underlying13, Try.underlying25, Try.underlying26, Try.underlying53, Try.underlying54]
        exact ⟨by omega, k + 1, by omega, (by show m + 1 - (k + 1) < m + 1 - k; omega), Sub.of (by simp -implicitDefEqProofs only [subT, tnS, look, lookA, newK, St.get, St.mem, List.map_cons, List.map_nil, List.all_cons, List.all_nil, List.length_cons, List.length_nil, List.getElem?_cons_zero, List.getElem?_cons_succ, Nat.reduceEqDiff, Nat.reduceAdd, Option.some.injEq, ↓reduceIte, true_and, and_true, reduceCtorEq, beq_self_eq_true, Bool.and_true, ne_eq, not_false_eq_true, not_true_eq_false, Nat.add_zero, Nat.zero_add, Nat.reduceSub, Nat.reduceMul, Int.cast_ofNat_Int, Int.reduceAdd, Int.reduceSub, Int.reduceMul, Int.natCast_add, Int.natCast_one]) (by simp -implicitDefEqProofs only [subM, tnS, ← Nat.add_assoc, look, lookA, newK, St.get, St.mem, List.map_cons, List.map_nil, List.all_cons, List.all_nil, List.length_cons, List.length_nil, List.getElem?_cons_zero, List.getElem?_cons_succ, Nat.reduceEqDiff, Nat.reduceAdd, Option.some.injEq, ↓reduceIte, true_and, and_true, reduceCtorEq, beq_self_eq_true, Bool.and_true, ne_eq, not_false_eq_true, not_true_eq_false, Nat.add_zero, Nat.zero_add, Nat.reduceSub, Nat.reduceMul, Int.cast_ofNat_Int, Int.reduceAdd, Int.reduceSub, Int.reduceMul]) rfl⟩
    · have g1 : decide ((k : Int) < (m : Int)) = false := decide_eq_false (by omega)
      have g2 : decide (0 < ((cT x y i k : Nat) : Int)) = false := decide_eq_false (by omega)
      have hkm : m ≤ k := by omega
      have hend : mixV (n + m + 1) (i + k) (vT x y i k) (uT x y i) = digV (n + m + 1) (uT x y (i + 1)) := by
        rw [vT_full hy hkm]
        exact mixV_end _ _ _ _ (fun j hj => vT_high hy hkm (by omega) j hj)
      simp -implicitDefEqProofs (maxSteps := 10000000) only [tnS, lx, ly, lk, r2, g1, g2, vy_succ, vy_zero, vx_skip, vx_reg0, vx_reg1, vx_ord, xx_done, xx_stop, xx_alt, vx_seq, vx_cond, vx_block, vx_exit, vx_ret, vx_loop, gx_nil, gx_cons, dx_nil, dx_cons, slim, slimOp, gO, gSO, qSO, quietOp, cx_nil, cx_cons, xx_alc, cS, qSB, eK, calmOp, guardS, gK, qK, putK, plK, dOk, St.ev, St.get, St.mem, St.set, St.setm, St.put, lookA, look, newK, nextver, initT, seqE, blockQ, bodyQ, resK, retV, AV.rdv, cells_agg, cells_int, cells_bool, cells_string, cells_slice, cells_uV, agg_uV, isNil_uV, toN_uV, i64_in, IntKind.wrap_u64, IntKind.wrap_u8, IntKind.wrap_u32, ↓binK, ↓intK, unK, ↓loadK, ↓withKey_eq, ↓idxAddrK, ↓indexK, ↓partK, ↓fieldK, ↓fieldAddrK, ↓convK, ↓callK, wrG, updK, ↓lenK, ↓mmK, ↓appK, ↓copyK, ↓sliceK, ↓toArrK, nilK, optK_some, optK_tup, optK_ite, evs, plains, seqParts, capsOf, capsD, List.append_nil, List.nil_append, List.cons_append, AV.dv, AV.cont, isNil_agg, isNil_int, isNil_bool, isNil_string, isNil_nil, isNil_slice, ↓buildV_eq, fillL, placesOf, Option.map_some, Option.map_none, ↓storeK, wrL, RV.av, DV.av, List.set, List.map_cons, List.map_nil, List.length_cons, List.length_nil, List.all_cons, List.all_nil, List.getElem?_cons_zero, List.getElem?_cons_succ, List.getElem?_nil, List.size_toArray, List.getElem?_toArray, List.drop_zero, List.drop_succ_cons, List.take_zero, List.take_succ_cons, Option.getD_some, Option.getD_none, Option.some.injEq, Option.isSome_some, Nat.reduceEqDiff, Nat.reduceAdd, Nat.reduceSub, Nat.reduceMul, Nat.reduceLT, Nat.reduceLeDiff, Nat.reduceMod, Nat.reduceDiv, Int.cast_ofNat_Int, Int.reduceLT, Int.reduceLE, Int.reduceToNat, ↓reduceIte, true_and, and_true, true_or, or_true, or_false, false_or, reduceCtorEq, Bool.false_eq_true, Bool.and_true, Bool.not_true, Bool.not_false, beq_self_eq_true, Bool.true_beq, Bool.false_beq, Value.oneCell', decide_true, decide_false, Int.reduceAdd, Int.reduceSub, Int.reduceMod, Int.reduceMul, Int.reduceNeg, Int.reduceBEq, Int.reduceBNe, Int.reduceTDiv, Int.reduceTMod, ne_eq, not_false_eq_true, not_true_eq_false, Int.reduceEq, Nat.zero_add, Nat.add_zero, Nat.le_refl, tyB, Try.underlying13, Try.underlying25, Try.underlying26, Try.underlying53, Try.underlying54]
      exact ⟨i + 1, by omega, (by show n - (i + 1) < n - i; omega), Sub.of (by simp -implicitDefEqProofs only [subT, tmS, look, lookA, newK, St.get, St.mem, List.map_cons, List.map_nil, List.all_cons, List.all_nil, List.length_cons, List.length_nil, List.getElem?_cons_zero, List.getElem?_cons_succ, Nat.reduceEqDiff, Nat.reduceAdd, Option.some.injEq, ↓reduceIte, true_and, and_true, reduceCtorEq, beq_self_eq_true, Bool.and_true, ne_eq, not_false_eq_true, not_true_eq_false, Nat.add_zero, Nat.zero_add, Nat.reduceSub, Nat.reduceMul, Int.cast_ofNat_Int, Int.reduceAdd, Int.reduceSub, Int.reduceMul, Int.natCast_add, Int.natCast_one]) (by simp -implicitDefEqProofs only [subM, tmS, hend, look, lookA, newK, St.get, St.mem, List.map_cons, List.map_nil, List.all_cons, List.all_nil, List.length_cons, List.length_nil, List.getElem?_cons_zero, List.getElem?_cons_succ, Nat.reduceEqDiff, Nat.reduceAdd, Option.some.injEq, ↓reduceIte, true_and, and_true, reduceCtorEq, beq_self_eq_true, Bool.and_true, ne_eq, not_false_eq_true, not_true_eq_false, Nat.add_zero, Nat.zero_add, Nat.reduceSub, Nat.reduceMul, Int.cast_ofNat_Int, Int.reduceAdd, Int.reduceSub, Int.reduceMul]) rfl⟩
  · have e : i = n := by omega
    subst e
    have r1 : decide ((i : Int) < (i : Int)) = false := decide_eq_false (by omega)
    have ht : (digV (i + m + 1) (x * y)).take (i + m + 1) = digV (i + m + 1) (x * y) := List.take_of_length_le (by rw [digV_len]; omega)
    have hue := uT_end (y := y) hx
    have lz := digV_len (i + m + 1) (x * y)
    simp -implicitDefEqProofs (maxSteps := 10000000) only [vy_succ, vy_zero, vx_skip, vx_reg0, vx_reg1, vx_ord, xx_done, xx_stop, xx_alt, vx_seq, vx_cond, vx_block, vx_exit, vx_ret, vx_loop, gx_nil, gx_cons, dx_nil, dx_cons, slim, slimOp, gO, gSO, qSO, quietOp, cx_nil, cx_cons, xx_alc, cS, qSB, eK, calmOp, guardS, gK, qK, putK, plK, dOk, St.ev, St.get, St.mem, St.set, St.setm, St.put, lookA, look, newK, nextver, initT, seqE, blockQ, bodyQ, resK, retV, AV.rdv, cells_agg, cells_int, cells_bool, cells_string, cells_slice, cells_uV, agg_uV, isNil_uV, toN_uV, i64_in, IntKind.wrap_u64, IntKind.wrap_u8, IntKind.wrap_u32, ↓binK, ↓intK, unK, ↓loadK, ↓withKey_eq, ↓idxAddrK, ↓indexK, ↓partK, ↓fieldK, ↓fieldAddrK, ↓convK, ↓callK, wrG, updK, ↓lenK, ↓mmK, ↓appK, ↓copyK, ↓sliceK, ↓toArrK, nilK, optK_some, optK_tup, optK_ite, evs, plains, seqParts, capsOf, capsD, List.append_nil, List.nil_append, List.cons_append, AV.dv, AV.cont, isNil_agg, isNil_int, isNil_bool, isNil_string, isNil_nil, isNil_slice, ↓buildV_eq, fillL, placesOf, Option.map_some, Option.map_none, ↓storeK, wrL, RV.av, DV.av, List.set, List.map_cons, List.map_nil, List.length_cons, List.length_nil, List.all_cons, List.all_nil, List.getElem?_cons_zero, List.getElem?_cons_succ, List.getElem?_nil, List.size_toArray, List.getElem?_toArray, List.drop_zero, List.drop_succ_cons, List.take_zero, List.take_succ_cons, Option.getD_some, Option.getD_none, Option.some.injEq, Option.isSome_some, Nat.reduceEqDiff, Nat.reduceAdd, Nat.reduceSub, Nat.reduceMul, Nat.reduceLT, Nat.reduceLeDiff, Nat.reduceMod, Nat.reduceDiv, Int.cast_ofNat_Int, Int.reduceLT, Int.reduceLE, Int.reduceToNat, ↓reduceIte, true_and, and_true, true_or, or_true, or_false, false_or, reduceCtorEq, Bool.false_eq_true, Bool.and_true, Bool.not_true, Bool.not_false, beq_self_eq_true, Bool.true_beq, Bool.false_beq, Value.oneCell', decide_true, decide_false, Int.reduceAdd, Int.reduceSub, Int.reduceMod, Int.reduceMul, Int.reduceNeg, Int.reduceBEq, Int.reduceBNe, Int.reduceTDiv, Int.reduceTMod, ne_eq, not_false_eq_true, not_true_eq_false, Int.reduceEq, Nat.zero_add, Nat.add_zero, Nat.le_refl, tyB, Try.underlying13, Try.underlying25, Try.underlying26, Try.underlying53, Try.underlying54, tmS, lx, ly, lz, hue, r1, ht]

theorem times_ok : ∀ ds r, timesG ds = some r → Spec Try.prog 68 ds r := by
  intro ds r h
  unfold timesG at h
  split at h
  case h_2 => cases h
  rename_i xs ys
  split at h
  case h_2 => cases h
  rename_i n x m y hx hy
  split at h
  case isFalse => cases h
  rename_i hb
  cases h
  obtain ⟨rfl, hx'⟩ := toD_out hx
  obtain ⟨rfl, hy'⟩ := toD_out hy
  exact times_walk n x m y hx' hy' hb
end Go.Vm
