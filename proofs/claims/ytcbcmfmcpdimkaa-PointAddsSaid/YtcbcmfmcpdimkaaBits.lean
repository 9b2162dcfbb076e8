/- The law U256Bits, as the machine walks it. No condition. -/
import Derived.Test.YtcbcmfmcpdimkaaAl
set_option maxRecDepth 100000
set_option linter.unusedSimpArgs false
set_option linter.unusedVariables false
namespace Go.Vm
open Go Go.RowKit Go.Proofs

theorem full_pow : full = 2 ^ 256 := by rw [full_eq]
theorem lt_blen (a : Nat) : a < 2 ^ blen a := by
  unfold blen
  split
  · rename_i h; rw [h]; decide
  · exact Nat.lt_log2_self
theorem blen_le_256 {a : Nat} (h : a < full) : blen a ≤ 256 := blen_lt a 256 (by rw [← full_pow]; exact h)
theorem blen_top {a : Nat} (h : a ≠ 0) : a.testBit (blen a - 1) = true := by
  have e : blen a - 1 = a.log2 := by unfold blen; rw [if_neg h]; rfl
  have h1 := Nat.log2_self_le h
  have h2 := Nat.lt_log2_self (n := a)
  have h0 : 0 < 2 ^ a.log2 := Nat.pow_pos (by omega)
  have h3 : a / 2 ^ a.log2 = 1 := by
    rw [Nat.pow_succ] at h2
    have := (Nat.div_lt_iff_lt_mul h0).2 (show a < 2 * 2 ^ a.log2 by omega)
    have := (Nat.le_div_iff_mul_le h0).2 (show 1 * 2 ^ a.log2 ≤ a by omega)
    omega
  rw [e, Nat.testBit_eq_decide_div_mod_eq, h3]
  decide
theorem blen_over {a i : Nat} (h : blen a ≤ i) : a.testBit i = false := by
  refine Nat.testBit_lt_two_pow ?_
  exact Nat.lt_of_lt_of_le (lt_blen a) (Nat.pow_le_pow_right (by omega) h)
theorem blen_full {a : Nat} (ha : a < full) : full ≤ a + a ↔ blen a = 256 := by
  constructor
  · intro h
    have h1 := lt_blen a
    have h2 := blen_le_256 ha
    rcases Nat.lt_or_ge (blen a) 256 with h3 | h3
    · have : 2 ^ blen a ≤ 2 ^ 255 := Nat.pow_le_pow_right (by omega) (by omega)
      rw [full_pow] at h
      omega
    · omega
  · intro h
    have h0 : a ≠ 0 := by intro e; subst e; simp [blen] at h
    have h1 := Nat.log2_self_le h0
    have e : a.log2 = 255 := by unfold blen at h; rw [if_neg h0] at h; omega
    rw [e] at h1
    rw [full_pow]
    omega
theorem blen_dbl {a : Nat} (h : a ≠ 0) : blen (a + a) = blen a + 1 := by
  rw [blen_half (a + a) (by omega), show (a + a) / 2 = a by omega]
  omega
theorem bit_dbl (a i : Nat) (h : i < 255) : ((a + a) % full).testBit (i + 1) = a.testBit i := by
  rw [full_pow, Nat.testBit_mod_two_pow, Nat.testBit_succ, show (a + a) / 2 = a by omega]
  simp
  omega
theorem bit_dbl0 (a : Nat) : ((a + a) % full).testBit 0 = false := by
  rw [full_pow, Nat.testBit_mod_two_pow, Nat.testBit_zero]
  simp
  omega

noncomputable def bitN (a : Nat) (i : Int) : Bool := Classical.choose (⟨decide (0 ≤ i ∧ i < 256) && a.testBit i.toNat, rfl⟩ : ∃ b : Bool, b = (decide (0 ≤ i ∧ i < 256) && a.testBit i.toNat))
theorem bitN_eq (a : Nat) (i : Int) : bitN a i = (decide (0 ≤ i ∧ i < 256) && a.testBit i.toNat) := Classical.choose_spec (⟨decide (0 ≤ i ∧ i < 256) && a.testBit i.toNat, rfl⟩ : ∃ b : Bool, b = (decide (0 ≤ i ∧ i < 256) && a.testBit i.toNat))
theorem bitN_nat (a i : Nat) (h : i < 256) : bitN a i = a.testBit i := by
  rw [bitN_eq, decide_eq_true (by omega), Bool.true_and, Int.toNat_natCast]
noncomputable def bitH : List DV → Option RV
  | [.pl va, .pl (.int .i64 i)] => match toN va with
    | some a => some (.one (.pl (.bool (bitN a i))))
    | _ => none
  | _ => none
theorem bitH_ok : ∀ ds r, bitH ds = some r → Spec Try.prog 38 ds r := by
  intro ds r h
  refine bit_ok ds r ?_
  unfold bitH at h
  unfold bitG
  split at h
  · rename_i va i
    simp only at h ⊢
    rw [← h]
    cases toN va with
    | none => rfl
    | some a => simp only [bitN_eq]
  · cases h

noncomputable def uC (x : Nat) : Blk := ⟨0, 24, [.int .u64 (w0 x : Nat), .int .u64 (w1 x : Nat), .int .u64 (w2 x : Nat), .int .u64 (w3 x : Nat)]⟩

end Go.Vm
