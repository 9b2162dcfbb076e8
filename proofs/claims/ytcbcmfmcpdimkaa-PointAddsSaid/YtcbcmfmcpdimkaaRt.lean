/- Contracts: quarter, Root; the law FieldRoots, as the machine walks it. No condition. -/
import Derived.Test.YtcbcmfmcpdimkaaTu
set_option maxRecDepth 100000
set_option linter.unusedSimpArgs false
set_option linter.unusedVariables false
namespace Go.Vm
open Go Go.RowKit Go.Proofs

theorem pN_0 : pN 0 = 115792089237316195423570985008687907853269984665640564039457584007908834671663 := by rw [pN_eq, cOf_eq, full_eq]; simp
noncomputable def qN : Nat := Classical.choose (⟨(pN 0 + 1) / 4, rfl⟩ : ∃ x : Nat, x = (pN 0 + 1) / 4)
theorem qN_eq : qN = (pN 0 + 1) / 4 := Classical.choose_spec (⟨(pN 0 + 1) / 4, rfl⟩ : ∃ x : Nat, x = (pN 0 + 1) / 4)
theorem qN_4 : 4 * qN = pN 0 + 1 := by rw [qN_eq, pN_0]
theorem qN_pos : 0 < qN := by have := qN_4; omega

/-! ### Plain laws -/
theorem sq_pm {p y : Nat} (hp : Prm p) (hy : y < p) (h : y * y % p = 1) : y = 1 ∨ y = p - 1 := by
  have hp1 := hp.1
  rcases Nat.eq_zero_or_pos y with e | hpos
  · subst e; rw [Nat.zero_mul, Nat.zero_mod] at h; omega
  · have h1 : p ∣ (y - 1) * (y + 1) := by
      have h2 : (y - 1) * (y + 1) + 1 = y * y := by
        obtain ⟨z, rfl⟩ : ∃ z, y = z + 1 := ⟨y - 1, by omega⟩
        rw [Nat.add_sub_cancel, Nat.mul_add, Nat.add_mul (m := 1), Nat.mul_one, Nat.one_mul, Nat.mul_add, Nat.mul_one]
        omega
      have h3 := Nat.div_add_mod (y * y) p
      rw [h] at h3
      exact ⟨y * y / p, by omega⟩
    rcases hp.dvd_mul h1 with h2 | h2
    · left
      rcases Nat.eq_zero_or_pos (y - 1) with e | e
      · omega
      · have := Nat.le_of_dvd e h2; omega
    · right
      have := Nat.le_of_dvd (by omega) h2
      omega
theorem neg_sq {p a : Nat} (ha : a ≤ p) : (p - a) * (p - a) % p = a * a % p := by
  have h : (p - a) * (p - a) + p * (2 * a) = a * a + p * p := by
    obtain ⟨b, rfl⟩ : ∃ b, p = a + b := ⟨p - a, by omega⟩
    rw [Nat.add_sub_cancel_left]
    simp only [Nat.add_mul, Nat.mul_add, Nat.two_mul]
    have := Nat.mul_comm a b
    omega
  have h1 : ((p - a) * (p - a) + p * (2 * a)) % p = (a * a + p * p) % p := by rw [h]
  rwa [Nat.add_mul_mod_self_left, Nat.add_mul_mod_self_left] at h1
theorem neg_pow {p a : Nat} (hp : 1 < p) (ha0 : a ≠ 0) (ha : a < p) (k : Nat) : pwN (p - a) (2 * k + 1) p = (p - pwN a (2 * k + 1) p) % p := by
  have e1 : (p - a) ^ (2 * k + 1) % p = (a * a) ^ k * (p - a) % p := by
    rw [Nat.pow_succ, Nat.pow_mul, Nat.pow_two, Nat.mul_mod, Nat.pow_mod, neg_sq (by omega), ← Nat.pow_mod, ← Nat.mul_mod]
  have e2 : a ^ (2 * k + 1) = (a * a) ^ k * a := by rw [Nat.pow_succ, Nat.pow_mul, Nat.pow_two]
  rw [pwN_eq, pwN_eq, e1, e2]
  generalize (a * a) ^ k = b
  have h1 : b * (p - a) + b * a = p * b := by rw [← Nat.mul_add, Nat.sub_add_cancel (by omega), Nat.mul_comm]
  have h2 := Nat.div_add_mod (b * a) p
  have h3 := Nat.mod_lt (b * a) (show 0 < p by omega)
  have h4 : b * (p - a) + p * (b * a / p + 1) = (p - b * a % p) + p * b := by rw [Nat.mul_add]; omega
  have h5 : (b * (p - a) + p * (b * a / p + 1)) % p = ((p - b * a % p) + p * b) % p := by rw [h4]
  rwa [Nat.add_mul_mod_self_left, Nat.add_mul_mod_self_left] at h5

/-- whether a number has a root -/
def Rt (a : Nat) : Prop := pwN a qN (pN 0) * pwN a qN (pN 0) % pN 0 = a
theorem pN_odd : ∃ k, pN 0 = 2 * (2 * k + 1) + 1 := ⟨28948022309329048855892746252171976963317496166410141009864396001977208667915, by rw [pN_0]⟩
theorem rt_half {a k : Nat} (hk : pN 0 = 2 * (2 * k + 1) + 1) (ha0 : a ≠ 0) (ha : a < pN 0) : Rt a ↔ pwN a (2 * k + 1) (pN 0) = 1 := by
  have hp : Prm (pN 0) := pN_prm rfl
  have hp1 := hp.1
  have hq := qN_4
  have e : pwN a qN (pN 0) * pwN a qN (pN 0) % pN 0 = a * pwN a (2 * k + 1) (pN 0) % pN 0 := by
    rw [pwN_add, show qN + qN = (2 * k + 1) + 1 by omega, ← pwN_one, Nat.mul_comm]
  unfold Rt
  rw [e]
  have hl := pwN_lt a (2 * k + 1) (p := pN 0) (by omega)
  generalize pwN a (2 * k + 1) (pN 0) = y at *
  constructor
  · intro h
    have hnd : ¬ pN 0 ∣ a := fun hd => by have := Nat.le_of_dvd (by omega) hd; omega
    rcases Nat.eq_zero_or_pos y with e0 | hpos
    · subst e0; rw [Nat.mul_zero, Nat.zero_mod] at h; omega
    · have h1 : a * y = a * (y - 1) + a := by rw [Nat.mul_sub, Nat.mul_one]; have := Nat.le_mul_of_pos_right a hpos; omega
      have h2 : pN 0 ∣ a * (y - 1) := by
        have h3 := Nat.div_add_mod (a * y) (pN 0)
        rw [h] at h3
        exact ⟨a * y / pN 0, by omega⟩
      rcases hp.dvd_mul h2 with h3 | h3
      · exact absurd h3 hnd
      · rcases Nat.eq_zero_or_pos (y - 1) with e0 | e0
        · omega
        · have := Nat.le_of_dvd e0 h3; omega
  · intro h
    rw [h, Nat.mul_one, Nat.mod_eq_of_lt ha]
theorem half_pm {a k : Nat} (hk : pN 0 = 2 * (2 * k + 1) + 1) (ha0 : a ≠ 0) (ha : a < pN 0) : pwN a (2 * k + 1) (pN 0) = 1 ∨ pwN a (2 * k + 1) (pN 0) = pN 0 - 1 := by
  have hp : Prm (pN 0) := pN_prm rfl
  have hp1 := hp.1
  refine sq_pm hp (pwN_lt _ _ (by omega)) ?_
  rw [pwN_add, pwN_eq, show 2 * k + 1 + (2 * k + 1) = pN 0 - 1 by omega]
  exact fermat hp (fun hd => by have := Nat.le_of_dvd (by omega) hd; omega)
theorem rt_one {a : Nat} (ha0 : a ≠ 0) (ha : a < pN 0) : Rt (pN 0 - a) ↔ ¬ Rt a := by
  obtain ⟨k, hk⟩ := pN_odd
  have hp1 : 1 < pN 0 := (pN_prm (w := 0) rfl).1
  rw [rt_half hk ha0 ha, rt_half hk (by omega) (by omega), neg_pow hp1 ha0 ha]
  rcases half_pm hk ha0 ha with h | h
  · rw [h, Nat.mod_eq_of_lt (by omega)]
    constructor
    · intro h1; omega
    · intro h1; exact absurd rfl h1
  · rw [h, show pN 0 - (pN 0 - 1) = 1 by omega, Nat.mod_eq_of_lt hp1]
    constructor
    · intro _ h1; omega
    · intro _; rfl
theorem rt_sq (a : Nat) : Rt (a * a % pN 0) := by
  obtain ⟨k, hk⟩ := pN_odd
  have hp : Prm (pN 0) := pN_prm rfl
  have hp1 := hp.1
  by_cases h0 : a * a % pN 0 = 0
  · unfold Rt
    rw [h0, pwN_eq, Nat.zero_pow qN_pos, Nat.zero_mod, Nat.zero_mul, Nat.zero_mod]
  · rw [rt_half hk h0 (Nat.mod_lt _ (by omega)), pwN_eq, ← Nat.pow_mod, ← Nat.pow_two, ← Nat.pow_mul, show 2 * (2 * k + 1) = pN 0 - 1 by omega]
    exact fermat hp (fun hd => h0 (Nat.mod_eq_zero_of_dvd (Nat.dvd_trans hd (Nat.dvd_mul_right a a))))

noncomputable def evN (r : Nat) : Nat := Classical.choose (⟨if r % 2 = 1 then pN 0 - r else r, rfl⟩ : ∃ x : Nat, x = if r % 2 = 1 then pN 0 - r else r)
theorem evN_eq (r : Nat) : evN r = if r % 2 = 1 then pN 0 - r else r := Classical.choose_spec (⟨if r % 2 = 1 then pN 0 - r else r, rfl⟩ : ∃ x : Nat, x = if r % 2 = 1 then pN 0 - r else r)
theorem evN_even {r : Nat} (h : r < pN 0) : evN r % 2 = 0 := by
  obtain ⟨k, hk⟩ := pN_odd
  rw [evN_eq]; split <;> omega
theorem evN_sq {r : Nat} (h : r < pN 0) : evN r * evN r % pN 0 = r * r % pN 0 := by
  rw [evN_eq]
  split
  · exact neg_sq (Nat.le_of_lt h)
  · rfl
theorem evN_lt {r : Nat} (h : r < pN 0) : evN r < full := by
  have := pN_lt 0
  rw [evN_eq]; split <;> omega

/-! ### Walks -/
noncomputable def quarterG : List DV → Option RV
  | [] => some (.one (.pl (uV qN)))
  | _ => none
theorem wp1 : w0 (pN 0 + 1) = 18446744069414583344 ∧ w1 (pN 0 + 1) = 18446744073709551615 ∧ w2 (pN 0 + 1) = 18446744073709551615 ∧ w3 (pN 0 + 1) = 18446744073709551615 := by
  rw [w0_eq, w1_eq, w2_eq, w3_eq, pN_0]; simp
theorem quarter_ok : ∀ ds r, quarterG ds = some r → Spec Try.prog 63 ds r := by
  intro ds r h
  unfold quarterG at h
  split at h
  case h_2 => cases h
  cases h
  have hΓ : Env.ok [(47, modulusG), (11, addG)] Try.prog := ok_cons modulus_ok (ok_cons add_ok (ok_nil _))
  have hw0 : isW 0 = true := rfl
  have tp : toN (uV (pN 0)) = some (pN 0) := toN_lt (pN_lt 0)
  have t1 : toN (uV 1) = some 1 := toN_lt (by have := full_big; omega)
  have u1 : Value.agg #[.int .u64 1, .int .u64 0, .int .u64 0, .int .u64 0] = uV 1 := uV_lit 1 (by omega)
  obtain ⟨v0, v1, v2, v3⟩ := wp1
  have hq : uV qN = .agg #[.int .u64 18446744072635809548, .int .u64 18446744073709551615, .int .u64 18446744073709551615, .int .u64 4611686018427387903] := by
    refine uV_of (x := qN) (a := 18446744072635809548) (b := 18446744073709551615) (c := 18446744073709551615) (d := 4611686018427387903) (by omega) (by omega) (by omega) (by omega) ?_
    rw [qN_eq, pN_0]; simp only [num, full_eq]
  have s0 : (18446744069414583344 : Int).fdiv (2 ^ min 2 IntKind.u64.bits) = 4611686017353645836 := by decide +kernel
  have s1 : (18446744073709551615 : Int).fdiv (2 ^ min 2 IntKind.u64.bits) = 4611686018427387903 := by decide +kernel
  have s2 : ((18446744073709551615 : Int) * 2 ^ min 62 IntKind.u64.bits) % 18446744073709551616 = 13835058055282163712 := by decide +kernel
  have o0 : bits .or .u64 4611686017353645836 13835058055282163712 = 18446744072635809548 := by decide +kernel
  have o1 : bits .or .u64 4611686018427387903 13835058055282163712 = 18446744073709551615 := by decide +kernel
  rw [hq]
  refine Spec.of_vx hΓ follows_mixed Try.func63 rfl (by kernel_rfl) (T := []) (by simp [Try.ntmps63]) (by kernel_rfl) rfl Try.ntmps63 (res := [.cell 0 24]) rfl ?_
  intro W
  simp -implicitDefEqProofs (maxSteps := 10000000) only [vy_succ, vy_zero, vx_skip, vx_reg0, vx_reg1, vx_ord, xx_done, xx_stop, xx_alt, vx_seq, vx_cond, vx_block, vx_exit, vx_ret, vx_loop, gx_nil, gx_cons, dx_nil, dx_cons, slim, slimOp, gO, gSO, qSO, quietOp, cx_nil, cx_cons, xx_alc, cS, qSB, eK, calmOp, guardS, gK, qK, putK, plK, dOk, St.ev, St.get, St.mem, St.set, St.setm, St.put, lookA, look, newK, nextver, initT, seqE, blockQ, bodyQ, resK, retV, AV.rdv, cells_agg, cells_int, cells_bool, cells_string, cells_slice, cells_uV, agg_uV, isNil_uV, toN_uV, i64_in, IntKind.wrap_u64, IntKind.wrap_u8, IntKind.wrap_u32, ↓binK, ↓intK, unK, ↓loadK, ↓withKey_eq, ↓idxAddrK, ↓indexK, ↓partK, ↓fieldK, ↓fieldAddrK, ↓convK, ↓callK, wrG, updK, ↓lenK, ↓mmK, ↓appK, ↓copyK, ↓sliceK, ↓toArrK, nilK, optK_some, optK_tup, optK_ite, evs, plains, seqParts, capsOf, capsD, List.append_nil, List.nil_append, List.cons_append, AV.dv, AV.cont, isNil_agg, isNil_int, isNil_bool, isNil_string, isNil_nil, isNil_slice, ↓buildV_eq, fillL, placesOf, Option.map_some, Option.map_none, ↓storeK, wrL, RV.av, DV.av, List.set, List.map_cons, List.map_nil, List.length_cons, List.length_nil, List.all_cons, List.all_nil, List.getElem?_cons_zero, List.getElem?_cons_succ, List.getElem?_nil, List.size_toArray, List.getElem?_toArray, List.drop_zero, List.drop_succ_cons, List.take_zero, List.take_succ_cons, Option.getD_some, Option.getD_none, Option.some.injEq, Option.isSome_some, Nat.reduceEqDiff, Nat.reduceAdd, Nat.reduceSub, Nat.reduceMul, Nat.reduceLT, Nat.reduceLeDiff, Nat.reduceMod, Nat.reduceDiv, Int.cast_ofNat_Int, Int.reduceLT, Int.reduceLE, Int.reduceToNat, ↓reduceIte, true_and, and_true, true_or, or_true, or_false, false_or, reduceCtorEq, Bool.false_eq_true, Bool.and_true, Bool.not_true, Bool.not_false, beq_self_eq_true, Bool.true_beq, Bool.false_beq, Value.oneCell', decide_true, decide_false, Int.reduceAdd, Int.reduceSub, Int.reduceMod, Int.reduceMul, Int.reduceNeg, Int.reduceBEq, Int.reduceBNe, Int.reduceTDiv, Int.reduceTMod, ne_eq, not_false_eq_true, not_true_eq_false, Int.reduceEq, Nat.zero_add, Nat.add_zero, Nat.le_refl, tyB, Try.underlying13, Try.underlying25, Try.underlying26, Try.underlying53, Try.underlying54, modulusG, addG, hw0, tp, t1, u1]
  refine VT_rounds hΓ follows_mixed 5 ?_
  simp -implicitDefEqProofs (maxSteps := 10000000) only [v0, v1, v2, v3, s0, s1, s2, o0, o1, vy_succ, vy_zero, vx_skip, vx_reg0, vx_reg1, vx_ord, xx_done, xx_stop, xx_alt, vx_seq, vx_cond, vx_block, vx_exit, vx_ret, vx_loop, gx_nil, gx_cons, dx_nil, dx_cons, slim, slimOp, gO, gSO, qSO, quietOp, cx_nil, cx_cons, xx_alc, cS, qSB, eK, calmOp, guardS, gK, qK, putK, plK, dOk, St.ev, St.get, St.mem, St.set, St.setm, St.put, lookA, look, newK, nextver, initT, seqE, blockQ, bodyQ, resK, retV, AV.rdv, cells_agg, cells_int, cells_bool, cells_string, cells_slice, cells_uV, agg_uV, isNil_uV, toN_uV, i64_in, IntKind.wrap_u64, IntKind.wrap_u8, IntKind.wrap_u32, ↓binK, ↓intK, unK, ↓loadK, ↓withKey_eq, ↓idxAddrK, ↓indexK, ↓partK, ↓fieldK, ↓fieldAddrK, ↓convK, ↓callK, wrG, updK, ↓lenK, ↓mmK, ↓appK, ↓copyK, ↓sliceK, ↓toArrK, nilK, optK_some, optK_tup, optK_ite, evs, plains, seqParts, capsOf, capsD, List.append_nil, List.nil_append, List.cons_append, AV.dv, AV.cont, isNil_agg, isNil_int, isNil_bool, isNil_string, isNil_nil, isNil_slice, ↓buildV_eq, fillL, placesOf, Option.map_some, Option.map_none, ↓storeK, wrL, RV.av, DV.av, List.set, List.map_cons, List.map_nil, List.length_cons, List.length_nil, List.all_cons, List.all_nil, List.getElem?_cons_zero, List.getElem?_cons_succ, List.getElem?_nil, List.size_toArray, List.getElem?_toArray, List.drop_zero, List.drop_succ_cons, List.take_zero, List.take_succ_cons, Option.getD_some, Option.getD_none, Option.some.injEq, Option.isSome_some, Nat.reduceEqDiff, Nat.reduceAdd, Nat.reduceSub, Nat.reduceMul, Nat.reduceLT, Nat.reduceLeDiff, Nat.reduceMod, Nat.reduceDiv, Int.cast_ofNat_Int, Int.reduceLT, Int.reduceLE, Int.reduceToNat, ↓reduceIte, true_and, and_true, true_or, or_true, or_false, false_or, reduceCtorEq, Bool.false_eq_true, Bool.and_true, Bool.not_true, Bool.not_false, beq_self_eq_true, Bool.true_beq, Bool.false_beq, Value.oneCell', decide_true, decide_false, Int.reduceAdd, Int.reduceSub, Int.reduceMod, Int.reduceMul, Int.reduceNeg, Int.reduceBEq, Int.reduceBNe, Int.reduceTDiv, Int.reduceTMod, ne_eq, not_false_eq_true, not_true_eq_false, Int.reduceEq, Nat.zero_add, Nat.add_zero, Nat.le_refl, tyB, Try.underlying13, Try.underlying25, Try.underlying26, Try.underlying53, Try.underlying54]

theorem odd_word (r : Nat) : (bits .and .u64 (w0 r : Nat) 1 == 1) = decide (r % 2 = 1) := by
  rw [and_one _ (w0_lt r), Nat.testBit_zero, w0_eq]
  have : r % 18446744073709551616 % 2 = r % 2 := by omega
  rw [this]

noncomputable def rootG : List DV → Option RV
  | [.pl va] => match toN va with
    | some a => open Classical in some (if Rt (a % pN 0) then .tup [.pl (uV (evN (pwN (a % pN 0) qN (pN 0)))), .pl (.int .i64 0)] else .tup [.pl (uV 0), .pl (.int .i64 6)])
    | none => none
  | _ => none

def rootTree : OT := .alt 0 (.alt 1 (.alt 2 (.alt 3 (.alt 4 (.alt 5 (.done) (.stop)) (.stop)) (.alt 4 (.alt 3 (.alt 5 (.done) (.stop)) (.stop)) (.stop))) (.alt 4 (.alt 2 (.alt 3 (.alt 5 (.done) (.stop)) (.stop)) (.stop)) (.stop))) (.alt 2 (.alt 1 (.alt 3 (.alt 4 (.alt 5 (.done) (.stop)) (.stop)) (.alt 4 (.alt 3 (.alt 5 (.done) (.stop)) (.stop)) (.stop))) (.alt 4 (.alt 1 (.alt 3 (.alt 5 (.done) (.stop)) (.stop)) (.stop)) (.stop))) (.alt 4 (.alt 1 (.alt 2 (.alt 3 (.alt 5 (.done) (.stop)) (.stop)) (.stop)) (.alt 2 (.alt 1 (.alt 3 (.alt 5 (.done) (.stop)) (.stop)) (.stop)) (.stop))) (.stop)))) (.alt 1 (.alt 0 (.alt 2 (.alt 3 (.alt 4 (.alt 5 (.done) (.stop)) (.stop)) (.alt 4 (.alt 3 (.alt 5 (.done) (.stop)) (.stop)) (.stop))) (.alt 4 (.alt 2 (.alt 3 (.alt 5 (.done) (.stop)) (.stop)) (.stop)) (.stop))) (.alt 2 (.alt 0 (.alt 3 (.alt 4 (.alt 5 (.done) (.stop)) (.stop)) (.alt 4 (.alt 3 (.alt 5 (.done) (.stop)) (.stop)) (.stop))) (.alt 4 (.alt 0 (.alt 3 (.alt 5 (.done) (.stop)) (.stop)) (.stop)) (.stop))) (.alt 4 (.alt 0 (.alt 2 (.alt 3 (.alt 5 (.done) (.stop)) (.stop)) (.stop)) (.alt 2 (.alt 0 (.alt 3 (.alt 5 (.done) (.stop)) (.stop)) (.stop)) (.stop))) (.stop)))) (.alt 2 (.alt 0 (.alt 1 (.alt 3 (.alt 4 (.alt 5 (.done) (.stop)) (.stop)) (.alt 4 (.alt 3 (.alt 5 (.done) (.stop)) (.stop)) (.stop))) (.alt 4 (.alt 1 (.alt 3 (.alt 5 (.done) (.stop)) (.stop)) (.stop)) (.stop))) (.alt 1 (.alt 0 (.alt 3 (.alt 4 (.alt 5 (.done) (.stop)) (.stop)) (.alt 4 (.alt 3 (.alt 5 (.done) (.stop)) (.stop)) (.stop))) (.alt 4 (.alt 0 (.alt 3 (.alt 5 (.done) (.stop)) (.stop)) (.stop)) (.stop))) (.alt 4 (.alt 0 (.alt 1 (.alt 3 (.alt 5 (.done) (.stop)) (.stop)) (.stop)) (.alt 1 (.alt 0 (.alt 3 (.alt 5 (.done) (.stop)) (.stop)) (.stop)) (.stop))) (.stop)))) (.alt 4 (.alt 0 (.alt 1 (.alt 2 (.alt 3 (.alt 5 (.done) (.stop)) (.stop)) (.stop)) (.alt 2 (.alt 1 (.alt 3 (.alt 5 (.done) (.stop)) (.stop)) (.stop)) (.stop))) (.alt 1 (.alt 0 (.alt 2 (.alt 3 (.alt 5 (.done) (.stop)) (.stop)) (.stop)) (.alt 2 (.alt 0 (.alt 3 (.alt 5 (.done) (.stop)) (.stop)) (.stop)) (.stop))) (.alt 2 (.alt 0 (.alt 1 (.alt 3 (.alt 5 (.done) (.stop)) (.stop)) (.stop)) (.alt 1 (.alt 0 (.alt 3 (.alt 5 (.done) (.stop)) (.stop)) (.stop)) (.stop))) (.stop)))) (.stop))))

set_option maxHeartbeats 8000000 in
theorem root_walk (a : Nat) (ha' : a < full) : (Rt (a % pN 0) → Spec Try.prog 49 [.pl (uV a)] (.tup [.pl (uV (evN (pwN (a % pN 0) qN (pN 0)))), .pl (.int .i64 0)])) ∧ (¬ Rt (a % pN 0) → Spec Try.prog 49 [.pl (uV a)] (.tup [.pl (uV 0), .pl (.int .i64 6)])) := by
  have hΓ : Env.ok [(40, belowG), (42, reduceG), (63, quarterG), (62, powerG), (41, mulcG), (47, modulusG), (48, subG)] Try.prog := ok_cons below_ok (ok_cons reduce_ok (ok_cons quarter_ok (ok_cons power_ok (ok_cons mulc_ok (ok_cons modulus_ok (ok_cons sub_ok (ok_nil _)))))))
  have ta : toN (uV a) = some a := toN_lt ha'
  have tc := toN_c 0
  have oc := cOk_c 0
  have w0' : isW 0 = true := rfl
  have ef : full - cOf 0 = pN 0 := (pN_eq 0).symm
  have tp : toN (uV (pN 0)) = some (pN 0) := toN_lt (pN_lt 0)
  have tq : toN (uV qN) = some qN := toN_lt (by have := qN_4; have := pN_lt 0; have := qN_pos; omega)
  have z : ∀ x : Nat, (x + 0 * full) = x := fun x => by omega
  have hp1 : 1 < pN 0 := (pN_prm (w := 0) rfl).1
  have hAl : a % pN 0 < pN 0 := Nat.mod_lt _ (by omega)
  have hAf := mod_pN a 0
  generalize hA : a % pN 0 = A at *
  have tA : toN (uV A) = some A := toN_lt hAf
  have hRl := pwN_lt A qN (p := pN 0) (by omega)
  have hev := evN_eq (pwN A qN (pN 0))
  have hrt : Rt A ↔ pwN A qN (pN 0) * pwN A qN (pN 0) % pN 0 = A := Iff.rfl
  generalize hR : pwN A qN (pN 0) = R at *
  have tR : toN (uV R) = some R := toN_lt (Nat.lt_trans hRl (pN_lt 0))
  have ew : eqU (R * R % pN 0) A = decide (R * R % pN 0 = A) := eqU_lt (mod_pN _ 0) hAf
  have od := odd_word R
  have us : uV (pN 0 + full - R) = uV (pN 0 - R) := by
    apply uV_inj
    rw [show pN 0 + full - R = pN 0 - R + full by omega, Nat.add_mod_right]
  constructor
  · intro h
    have e0 : eqU (R * R % pN 0) A = true := by rw [ew]; exact decide_eq_true (hrt.1 h)
    refine Spec.of_vx hΓ follows_mixed Try.func49 rfl (by kernel_rfl) (T := [(3, rootTree)]) (by simp [Try.ntmps49]) (by kernel_rfl) rfl Try.ntmps49 (res := [.cell 2 24, .tmp 3]) rfl ?_
    intro W
    by_cases hodd : R % 2 = 1
    · rw [decide_eq_true hodd] at od
      rw [if_pos hodd] at hev
      rw [hev]
      simp -implicitDefEqProofs (maxSteps := 10000000) only [vy_succ, vy_zero, vx_skip, vx_reg0, vx_reg1, vx_ord, xx_done, xx_stop, xx_alt, vx_seq, vx_cond, vx_block, vx_exit, vx_ret, vx_loop, gx_nil, gx_cons, dx_nil, dx_cons, slim, slimOp, gO, gSO, qSO, quietOp, cx_nil, cx_cons, xx_alc, cS, qSB, eK, calmOp, guardS, gK, qK, putK, plK, dOk, St.ev, St.get, St.mem, St.set, St.setm, St.put, lookA, look, newK, nextver, initT, seqE, blockQ, bodyQ, resK, retV, AV.rdv, cells_agg, cells_int, cells_bool, cells_string, cells_slice, cells_uV, agg_uV, isNil_uV, toN_uV, i64_in, IntKind.wrap_u64, IntKind.wrap_u8, IntKind.wrap_u32, ↓binK, ↓intK, unK, ↓loadK, ↓withKey_eq, ↓idxAddrK, ↓indexK, ↓partK, ↓fieldK, ↓fieldAddrK, ↓convK, ↓callK, wrG, updK, ↓lenK, ↓mmK, ↓appK, ↓copyK, ↓sliceK, ↓toArrK, nilK, optK_some, optK_tup, optK_ite, evs, plains, seqParts, capsOf, capsD, List.append_nil, List.nil_append, List.cons_append, AV.dv, AV.cont, isNil_agg, isNil_int, isNil_bool, isNil_string, isNil_nil, isNil_slice, ↓buildV_eq, fillL, placesOf, Option.map_some, Option.map_none, ↓storeK, wrL, RV.av, DV.av, List.set, List.map_cons, List.map_nil, List.length_cons, List.length_nil, List.all_cons, List.all_nil, List.getElem?_cons_zero, List.getElem?_cons_succ, List.getElem?_nil, List.size_toArray, List.getElem?_toArray, List.drop_zero, List.drop_succ_cons, List.take_zero, List.take_succ_cons, Option.getD_some, Option.getD_none, Option.some.injEq, Option.isSome_some, Nat.reduceEqDiff, Nat.reduceAdd, Nat.reduceSub, Nat.reduceMul, Nat.reduceLT, Nat.reduceLeDiff, Nat.reduceMod, Nat.reduceDiv, Int.cast_ofNat_Int, Int.reduceLT, Int.reduceLE, Int.reduceToNat, ↓reduceIte, true_and, and_true, true_or, or_true, or_false, false_or, reduceCtorEq, Bool.false_eq_true, Bool.and_true, Bool.not_true, Bool.not_false, beq_self_eq_true, Bool.true_beq, Bool.false_beq, Value.oneCell', decide_true, decide_false, Int.reduceAdd, Int.reduceSub, Int.reduceMod, Int.reduceMul, Int.reduceNeg, Int.reduceBEq, Int.reduceBNe, Int.reduceTDiv, Int.reduceTMod, ne_eq, not_false_eq_true, not_true_eq_false, Int.reduceEq, Nat.zero_add, Nat.add_zero, Nat.le_refl, tyB, Try.underlying13, Try.underlying25, Try.underlying26, Try.underlying53, Try.underlying54, rootTree, belowG, reduceG, quarterG, powerG, mulcG, modulusG, subG, ta, tc, oc, w0', tp, tq, tA, tR, z, hA, hR, ef, toN_zero, ↓binK_neU, e0, od, us]
    · rw [decide_eq_false hodd] at od
      rw [if_neg hodd] at hev
      rw [hev]
      simp -implicitDefEqProofs (maxSteps := 10000000) only [vy_succ, vy_zero, vx_skip, vx_reg0, vx_reg1, vx_ord, xx_done, xx_stop, xx_alt, vx_seq, vx_cond, vx_block, vx_exit, vx_ret, vx_loop, gx_nil, gx_cons, dx_nil, dx_cons, slim, slimOp, gO, gSO, qSO, quietOp, cx_nil, cx_cons, xx_alc, cS, qSB, eK, calmOp, guardS, gK, qK, putK, plK, dOk, St.ev, St.get, St.mem, St.set, St.setm, St.put, lookA, look, newK, nextver, initT, seqE, blockQ, bodyQ, resK, retV, AV.rdv, cells_agg, cells_int, cells_bool, cells_string, cells_slice, cells_uV, agg_uV, isNil_uV, toN_uV, i64_in, IntKind.wrap_u64, IntKind.wrap_u8, IntKind.wrap_u32, ↓binK, ↓intK, unK, ↓loadK, ↓withKey_eq, ↓idxAddrK, ↓indexK, ↓partK, ↓fieldK, ↓fieldAddrK, ↓convK, ↓callK, wrG, updK, ↓lenK, ↓mmK, ↓appK, ↓copyK, ↓sliceK, ↓toArrK, nilK, optK_some, optK_tup, optK_ite, evs, plains, seqParts, capsOf, capsD, List.append_nil, List.nil_append, List.cons_append, AV.dv, AV.cont, isNil_agg, isNil_int, isNil_bool, isNil_string, isNil_nil, isNil_slice, ↓buildV_eq, fillL, placesOf, Option.map_some, Option.map_none, ↓storeK, wrL, RV.av, DV.av, List.set, List.map_cons, List.map_nil, List.length_cons, List.length_nil, List.all_cons, List.all_nil, List.getElem?_cons_zero, List.getElem?_cons_succ, List.getElem?_nil, List.size_toArray, List.getElem?_toArray, List.drop_zero, List.drop_succ_cons, List.take_zero, List.take_succ_cons, Option.getD_some, Option.getD_none, Option.some.injEq, Option.isSome_some, Nat.reduceEqDiff, Nat.reduceAdd, Nat.reduceSub, Nat.reduceMul, Nat.reduceLT, Nat.reduceLeDiff, Nat.reduceMod, Nat.reduceDiv, Int.cast_ofNat_Int, Int.reduceLT, Int.reduceLE, Int.reduceToNat, ↓reduceIte, true_and, and_true, true_or, or_true, or_false, false_or, reduceCtorEq, Bool.false_eq_true, Bool.and_true, Bool.not_true, Bool.not_false, beq_self_eq_true, Bool.true_beq, Bool.false_beq, Value.oneCell', decide_true, decide_false, Int.reduceAdd, Int.reduceSub, Int.reduceMod, Int.reduceMul, Int.reduceNeg, Int.reduceBEq, Int.reduceBNe, Int.reduceTDiv, Int.reduceTMod, ne_eq, not_false_eq_true, not_true_eq_false, Int.reduceEq, Nat.zero_add, Nat.add_zero, Nat.le_refl, tyB, Try.underlying13, Try.underlying25, Try.underlying26, Try.underlying53, Try.underlying54, rootTree, belowG, reduceG, quarterG, powerG, mulcG, modulusG, subG, ta, tc, oc, w0', tp, tq, tA, tR, z, hA, hR, ef, toN_zero, ↓binK_neU, e0, od, us]
  · intro h
    have e0 : eqU (R * R % pN 0) A = false := by rw [ew]; exact decide_eq_false (fun h1 => h (hrt.2 h1))
    refine Spec.of_vx hΓ follows_mixed Try.func49 rfl (by kernel_rfl) (T := [(3, rootTree)]) (by simp [Try.ntmps49]) (by kernel_rfl) rfl Try.ntmps49 (res := [.cell 2 24, .tmp 3]) rfl ?_
    intro W
    simp -implicitDefEqProofs (maxSteps := 10000000) only [vy_succ, vy_zero, vx_skip, vx_reg0, vx_reg1, vx_ord, xx_done, xx_stop, xx_alt, vx_seq, vx_cond, vx_block, vx_exit, vx_ret, vx_loop, gx_nil, gx_cons, dx_nil, dx_cons, slim, slimOp, gO, gSO, qSO, quietOp, cx_nil, cx_cons, xx_alc, cS, qSB, eK, calmOp, guardS, gK, qK, putK, plK, dOk, St.ev, St.get, St.mem, St.set, St.setm, St.put, lookA, look, newK, nextver, initT, seqE, blockQ, bodyQ, resK, retV, AV.rdv, cells_agg, cells_int, cells_bool, cells_string, cells_slice, cells_uV, agg_uV, isNil_uV, toN_uV, i64_in, IntKind.wrap_u64, IntKind.wrap_u8, IntKind.wrap_u32, ↓binK, ↓intK, unK, ↓loadK, ↓withKey_eq, ↓idxAddrK, ↓indexK, ↓partK, ↓fieldK, ↓fieldAddrK, ↓convK, ↓callK, wrG, updK, ↓lenK, ↓mmK, ↓appK, ↓copyK, ↓sliceK, ↓toArrK, nilK, optK_some, optK_tup, optK_ite, evs, plains, seqParts, capsOf, capsD, List.append_nil, List.nil_append, List.cons_append, AV.dv, AV.cont, isNil_agg, isNil_int, isNil_bool, isNil_string, isNil_nil, isNil_slice, ↓buildV_eq, fillL, placesOf, Option.map_some, Option.map_none, ↓storeK, wrL, RV.av, DV.av, List.set, List.map_cons, List.map_nil, List.length_cons, List.length_nil, List.all_cons, List.all_nil, List.getElem?_cons_zero, List.getElem?_cons_succ, List.getElem?_nil, List.size_toArray, List.getElem?_toArray, List.drop_zero, List.drop_succ_cons, List.take_zero, List.take_succ_cons, Option.getD_some, Option.getD_none, Option.some.injEq, Option.isSome_some, Nat.reduceEqDiff, Nat.reduceAdd, Nat.reduceSub, Nat.reduceMul, Nat.reduceLT, Nat.reduceLeDiff, Nat.reduceMod, Nat.reduceDiv, Int.cast_ofNat_Int, Int.reduceLT, Int.reduceLE, Int.reduceToNat, ↓reduceIte, true_and, and_true, true_or, or_true, or_false, false_or, reduceCtorEq, Bool.false_eq_true, Bool.and_true, Bool.not_true, Bool.not_false, beq_self_eq_true, Bool.true_beq, Bool.false_beq, Value.oneCell', decide_true, decide_false, Int.reduceAdd, Int.reduceSub, Int.reduceMod, Int.reduceMul, Int.reduceNeg, Int.reduceBEq, Int.reduceBNe, Int.reduceTDiv, Int.reduceTMod, ne_eq, not_false_eq_true, not_true_eq_false, Int.reduceEq, Nat.zero_add, Nat.add_zero, Nat.le_refl, tyB, Try.underlying13, Try.underlying25, Try.underlying26, Try.underlying53, Try.underlying54, rootTree, belowG, reduceG, quarterG, powerG, mulcG, modulusG, subG, ta, tc, oc, w0', tp, tq, tA, tR, z, hA, hR, ef, toN_zero, ↓binK_neU, e0, od, us]
    repeat' apply And.intro
    all_goals rw [uV_0]

theorem root_ok : ∀ ds r, rootG ds = some r → Spec Try.prog 49 ds r := by
  intro ds r h
  unfold rootG at h
  split at h
  case h_2 => cases h
  rename_i va
  split at h
  case h_2 => cases h
  rename_i a ha
  cases h
  obtain ⟨rfl, ha'⟩ := toN_eq ha
  split
  · rename_i h; exact (root_walk a ha').1 h
  · rename_i h; exact (root_walk a ha').2 h

end Go.Vm
