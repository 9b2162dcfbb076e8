/- alive of the field's laws; the law FieldFolds, as the machine walks it. No condition. -/
import Derived.Test.YtcbcmfmcpdimkaaFe
set_option maxRecDepth 100000
set_option linter.unusedSimpArgs false
set_option linter.unusedVariables false
namespace Go.Vm
open Go Go.RowKit Go.Proofs

theorem and1_i64 (w : Int) : bits .and .i64 w 1 = 0 ∨ bits .and .i64 w 1 = 1 := by
  have h : bits .and .i64 w 1 = IntKind.i64.wrap ((BitVec.ofInt 64 w &&& BitVec.ofInt 64 1).toNat : Int) := rfl
  rw [h, BitVec.toNat_and]
  have e : (BitVec.ofInt 64 1).toNat = 1 := rfl
  rw [e, Nat.and_one_is_mod]
  rcases Nat.mod_two_eq_zero_or_one (BitVec.ofInt 64 w).toNat with h | h <;> rw [h]
  · left; rfl
  · right; rfl

theorem uV_2 : Value.agg #[.int .u64 2, .int .u64 0, .int .u64 0, .int .u64 0] = uV 2 := uV_lit 2 (by omega)
theorem uV_4 : Value.agg #[.int .u64 4, .int .u64 0, .int .u64 0, .int .u64 0] = uV 4 := uV_lit 4 (by omega)
theorem pN_huge (w : Int) : 18446744073709551616 < pN w := by have := pN_big w; rw [full_eq] at this; omega


end Go.Vm
