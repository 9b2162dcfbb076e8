/- The law U256Lefts, as the machine walks it. No condition. -/
import Derived.Test.YtcbcmfmcpdimkaaLf
set_option maxRecDepth 100000
set_option linter.unusedSimpArgs false
set_option linter.unusedVariables false
namespace Go.Vm
open Go Go.RowKit Go.Proofs

theorem digV_one (n x : Nat) : (digV n x).all Value.oneCell' = true := by rw [digV_eq]; simp [Value.oneCell']
theorem digV_app (n a b : Nat) (m : Nat) (ha : a < 65536 ^ n) : digV n a ++ digV m b = digV (n + m) (a + b * 65536 ^ n) := by
  rw [digV_eq, digV_eq, digV_eq]
  apply List.ext_getElem
  · simp
  · intro j h1 h2
    by_cases h : j < n
    · rw [List.getElem_append_left (by simpa using h)]
      simp only [List.getElem_map, List.getElem_range]
      have e : dg (a + b * 65536 ^ n) j = dg a j := by
        rw [dg_eq, dg_eq]
        have e2 : b * 65536 ^ n = 65536 ^ j * (65536 * (b * 65536 ^ (n - j - 1))) := by
          have : 65536 ^ n = 65536 ^ j * (65536 * 65536 ^ (n - j - 1)) := by
            rw [← Nat.pow_succ', ← Nat.pow_add]; congr 1; omega
          rw [this]
          simp only [Nat.mul_left_comm, Nat.mul_comm, Nat.mul_assoc]
        rw [e2, Nat.add_mul_div_left _ _ (bpow_pos j), Nat.add_mul_mod_self_left]
      rw [e]
    · rw [List.getElem_append_right (by simpa using h)]
      simp only [List.getElem_map, List.getElem_range, List.length_map, List.length_range]
      have e : dg (a + b * 65536 ^ n) j = dg b (j - n) := by
        have e3 : 65536 ^ j = 65536 ^ n * 65536 ^ (j - n) := by rw [← Nat.pow_add]; congr 1; omega
        rw [dg_eq, dg_eq, e3, ← Nat.div_div_eq_div_mul, Nat.add_mul_div_right _ _ (bpow_pos n), Nat.div_eq_of_lt ha, Nat.zero_add]
      rw [e]
theorem toD_32 {a b : Nat} (ha : a < full) (hb : b < full) : toD (digV 32 (a + b * full)) = some (32, a + b * full) := by
  apply toD_digV
  have e : (65536 : Nat) ^ 32 = full * full := by rw [full_d, ← Nat.pow_add]
  rw [e]
  have : (b + 1) * full ≤ full * full := Nat.mul_le_mul_right _ (by omega)
  rw [Nat.add_mul, Nat.one_mul] at this
  omega
theorem digV_32 {a b : Nat} (ha : a < full) : digV 16 a ++ digV 16 b = digV 32 (a + b * full) := by
  have := digV_app 16 a b 16 (by rw [← full_d]; exact ha)
  rw [← full_d] at this
  exact this

end Go.Vm
