/- Contract: Mod. No condition. -/
import Derived.Test.YtcbcmfmcpdimkaaBits
import Derived.Test.YtcbcmfmcpdimkaaB1
import Derived.Test.YtcbcmfmcpdimkaaB2
set_option maxRecDepth 100000
set_option linter.unusedSimpArgs false
set_option linter.unusedVariables false
namespace Go.Vm
open Go Go.RowKit Go.Proofs

noncomputable def modG : List DV → Option RV
  | [.pl vl, .pl vh, .pl vm] => match toN vl, toN vh, toN vm with
    | some l, some h, some m => some (.tup [.pl (uV (if m = 0 then 0 else (l + h * full) % m)), .pl (.int .i64 (if m = 0 then 6 else 0))])
    | _, _, _ => none
  | _ => none

theorem toN_zero : toN (.agg #[.int .u64 0, .int .u64 0, .int .u64 0, .int .u64 0]) = some 0 := by
  rw [uV_0, toN_uV, Nat.zero_mod]
theorem full_pos : 0 < full := by rw [full_eq]; omega
theorem split_full (x : Nat) (h : x < full * full) : x % full + x / full % full * full = x := by
  have h1 : x / full < full := Nat.div_lt_of_lt_mul h
  rw [Nat.mod_eq_of_lt h1, Nat.mul_comm]
  exact Nat.mod_add_div x full
theorem mul_lt_full {a b : Nat} (ha : a < full) (hb : b < full) : a * b < full * full := Nat.mul_lt_mul_of_lt_of_lt ha hb

theorem binK_neU0 (a : Nat) (K : Value → Prop) : binK Try.prog .neq 24 (uV a) (.agg #[.int .u64 0, .int .u64 0, .int .u64 0, .int .u64 0]) K = K (.bool (!eqU a 0)) := by rw [uV_0, binK_neU]

noncomputable def mAt (c m k : Nat) : Nat := Classical.choose (⟨c / 2 ^ k % m, rfl⟩ : ∃ x : Nat, x = c / 2 ^ k % m)
theorem mAt_eq (c m k : Nat) : mAt c m k = c / 2 ^ k % m := Classical.choose_spec (⟨c / 2 ^ k % m, rfl⟩ : ∃ x : Nat, x = c / 2 ^ k % m)
theorem mAt_lt (c k : Nat) {m : Nat} (h : m ≠ 0) : mAt c m k < m := by rw [mAt_eq]; exact Nat.mod_lt _ (by omega)
theorem mAt_0 (c m : Nat) : mAt c m 0 = c % m := by rw [mAt_eq, Nat.pow_zero, Nat.div_one]
theorem pow_twice (n k : Nat) (h : k = n + n) : (2 : Nat) ^ k = 2 ^ n * 2 ^ n := by rw [h, Nat.pow_add]
theorem mAt_top (l h m k : Nat) (hl : l < full) (hh : h < full) (hk : k = 256 + 256) : mAt (l + h * full) m k = 0 := by
  rw [mAt_eq, Nat.div_eq_of_lt, Nat.zero_mod]
  rw [pow_twice 256 k hk, ← full_pow]
  have : (h + 1) * full ≤ full * full := Nat.mul_le_mul_right _ (by omega)
  rw [Nat.add_mul, Nat.one_mul] at this
  omega
theorem mAt_step (c m j : Nat) : mAt c m j = (mAt c m (j + 1) + mAt c m (j + 1) + (c.testBit j).toNat) % m := by
  have e1 : c / 2 ^ j = 2 * (c / 2 ^ (j + 1)) + (c.testBit j).toNat := by
    rw [Nat.testBit_eq_decide_div_mod_eq, Nat.pow_succ, ← Nat.div_div_eq_div_mul]
    generalize c / 2 ^ j = y
    have := Nat.mod_two_eq_zero_or_one y
    rcases this with h | h <;> simp [h] <;> omega
  rw [mAt_eq, mAt_eq, e1]
  generalize c / 2 ^ (j + 1) = y
  generalize (c.testBit j).toNat = b
  rw [show y % m + y % m + b = 2 * (y % m) + b by omega]
  rw [Nat.add_mod, Nat.mul_mod, Nat.add_mod (2 * (y % m)), Nat.mul_mod 2 (y % m), Nat.mod_mod]
theorem red_mod {D m : Nat} (h : D < m + m) : D % m = if D < m then D else D - m := by
  split
  · rename_i h1; exact Nat.mod_eq_of_lt h1
  · rename_i h1
    rw [Nat.mod_eq_sub_mod (by omega), Nat.mod_eq_of_lt (by omega)]
theorem all_bit (l h j : Nat) (hl : l < full) : (l + h * full).testBit j = if j < 256 then l.testBit j else h.testBit (j - 256) := by
  rw [full_pow, Nat.add_comm, Nat.mul_comm]
  exact Nat.testBit_two_pow_mul_add h (by rw [← full_pow]; exact hl) j


theorem w_zero : w0 0 = 0 ∧ w1 0 = 0 ∧ w2 0 = 0 ∧ w3 0 = 0 := by rw [w0_eq, w1_eq, w2_eq, w3_eq]; simp
theorem cast_pred (j : Nat) : ((j + 1 : Nat) : Int) - 1 = (j : Int) := by omega

noncomputable def mS (l h m k : Nat) : St := ⟨[(9, .pl (.int .i64 ((k : Int) - 1))), (8, .ptr 8 0 0), (6, .ptr 6 0 0), (5, .ptr 5 0 0), (4, .ptr 4 0 0), (3, .ptr 3 0 0)],
  [(8, uC (mAt (l + h * full) m k)), (6, ⟨0, 24, [.int .u64 0, .int .u64 0, .int .u64 0, .int .u64 0]⟩), (5, uC m), (4, uC h), (3, uC l)]⟩

end Go.Vm
