/- Facts on the types of this translation. No condition. -/
import Derived.Test.YtcbcmfmcpdimkaaU
import Derived.Test.YtcbcmfmcpdimkaaChecked
namespace Go.Vm
open Go Go.RowKit Go.Proofs

theorem follows_mixed : Try.prog.follows .mixedOrders = true := by kernel_rfl
theorem s_2 : szOf Try.prog 2 = some 1 := by kernel_rfl
theorem g_2 : aggOf Try.prog 2 = some false := by kernel_rfl
theorem z_2 : (Try.prog.info? 2).bind (·.zero) = some (.int .i64 0) := by kernel_rfl
theorem s_3 : szOf Try.prog 3 = some 1 := by kernel_rfl
theorem g_3 : aggOf Try.prog 3 = some false := by kernel_rfl
theorem z_3 : (Try.prog.info? 3).bind (·.zero) = some (.int .i64 0) := by kernel_rfl
theorem s_4 : szOf Try.prog 4 = some 1 := by kernel_rfl
theorem g_4 : aggOf Try.prog 4 = some false := by kernel_rfl
theorem z_4 : (Try.prog.info? 4).bind (·.zero) = some (.bool false) := by kernel_rfl
theorem s_5 : szOf Try.prog 5 = some 1 := by kernel_rfl
theorem g_5 : aggOf Try.prog 5 = some false := by kernel_rfl
theorem z_5 : (Try.prog.info? 5).bind (·.zero) = some (.int .u8 0) := by kernel_rfl
theorem s_9 : szOf Try.prog 9 = some 1 := by kernel_rfl
theorem g_9 : aggOf Try.prog 9 = some false := by kernel_rfl
theorem z_9 : (Try.prog.info? 9).bind (·.zero) = some (.string ⟨#[]⟩) := by kernel_rfl
theorem s_12 : szOf Try.prog 12 = some 1 := by kernel_rfl
theorem g_12 : aggOf Try.prog 12 = some false := by kernel_rfl
theorem z_12 : (Try.prog.info? 12).bind (·.zero) = some (.int .u64 0) := by kernel_rfl
theorem s_13 : szOf Try.prog 13 = some 2 := by kernel_rfl
theorem g_13 : aggOf Try.prog 13 = some true := by kernel_rfl
theorem z_13 : (Try.prog.info? 13).bind (·.zero) = some (.agg #[.string ⟨#[]⟩, .int .u64 0]) := by kernel_rfl
theorem q_13 : Try.prog.eqGuardType Try.prog.depth 13 = false := by kernel_rfl
theorem s_21 : szOf Try.prog 21 = some 1 := by kernel_rfl
theorem g_21 : aggOf Try.prog 21 = some false := by kernel_rfl
theorem z_21 : (Try.prog.info? 21).bind (·.zero) = some (.int .i32 0) := by kernel_rfl
theorem s_22 : szOf Try.prog 22 = some 1 := by kernel_rfl
theorem g_22 : aggOf Try.prog 22 = some false := by kernel_rfl
theorem z_22 : (Try.prog.info? 22).bind (·.zero) = some (.int .u64 0) := by kernel_rfl
theorem s_23 : szOf Try.prog 23 = some 4 := by kernel_rfl
theorem g_23 : aggOf Try.prog 23 = some true := by kernel_rfl
theorem z_23 : (Try.prog.info? 23).bind (·.zero) = some (.agg #[.int .u64 0, .int .u64 0, .int .u64 0, .int .u64 0]) := by kernel_rfl
theorem q_23 : Try.prog.eqGuardType Try.prog.depth 23 = false := by kernel_rfl
theorem s_24 : szOf Try.prog 24 = some 4 := by kernel_rfl
theorem g_24 : aggOf Try.prog 24 = some true := by kernel_rfl
theorem z_24 : (Try.prog.info? 24).bind (·.zero) = some (.agg #[.int .u64 0, .int .u64 0, .int .u64 0, .int .u64 0]) := by kernel_rfl
theorem q_24 : Try.prog.eqGuardType Try.prog.depth 24 = false := by kernel_rfl
theorem s_25 : szOf Try.prog 25 = some 9 := by kernel_rfl
theorem g_25 : aggOf Try.prog 25 = some true := by kernel_rfl
theorem z_25 : (Try.prog.info? 25).bind (·.zero) = some (.agg #[.int .u64 0, .int .u64 0, .int .u64 0, .int .u64 0, .int .u64 0, .int .u64 0, .int .u64 0, .int .u64 0, .bool false]) := by kernel_rfl
theorem q_25 : Try.prog.eqGuardType Try.prog.depth 25 = false := by kernel_rfl
theorem s_26 : szOf Try.prog 26 = some 9 := by kernel_rfl
theorem g_26 : aggOf Try.prog 26 = some true := by kernel_rfl
theorem z_26 : (Try.prog.info? 26).bind (·.zero) = some (.agg #[.int .u64 0, .int .u64 0, .int .u64 0, .int .u64 0, .int .u64 0, .int .u64 0, .int .u64 0, .int .u64 0, .bool false]) := by kernel_rfl
theorem q_26 : Try.prog.eqGuardType Try.prog.depth 26 = false := by kernel_rfl
theorem s_29 : szOf Try.prog 29 = some 1 := by kernel_rfl
theorem g_29 : aggOf Try.prog 29 = some false := by kernel_rfl
theorem z_29 : (Try.prog.info? 29).bind (·.zero) = some (.int .i64 0) := by kernel_rfl
theorem s_53 : szOf Try.prog 53 = some 13 := by kernel_rfl
theorem g_53 : aggOf Try.prog 53 = some true := by kernel_rfl
theorem z_53 : (Try.prog.info? 53).bind (·.zero) = some (.agg #[.int .u64 0, .int .u64 0, .int .u64 0, .int .u64 0, .int .u64 0, .int .u64 0, .int .u64 0, .int .u64 0, .bool false, .int .u64 0, .int .u64 0, .int .u64 0, .int .u64 0]) := by kernel_rfl
theorem q_53 : Try.prog.eqGuardType Try.prog.depth 53 = false := by kernel_rfl
theorem s_54 : szOf Try.prog 54 = some 13 := by kernel_rfl
theorem g_54 : aggOf Try.prog 54 = some true := by kernel_rfl
theorem z_54 : (Try.prog.info? 54).bind (·.zero) = some (.agg #[.int .u64 0, .int .u64 0, .int .u64 0, .int .u64 0, .int .u64 0, .int .u64 0, .int .u64 0, .int .u64 0, .bool false, .int .u64 0, .int .u64 0, .int .u64 0, .int .u64 0]) := by kernel_rfl
theorem q_54 : Try.prog.eqGuardType Try.prog.depth 54 = false := by kernel_rfl
theorem s_67 : szOf Try.prog 67 = some 1 := by kernel_rfl
theorem g_67 : aggOf Try.prog 67 = some false := by kernel_rfl
theorem l_67 : isSl Try.prog 67 = true := by kernel_rfl
theorem r_67 : rowOf Try.prog 67 = some (3, .int .i64 0, 8) := by kernel_rfl
theorem s_68 : szOf Try.prog 68 = some 1 := by kernel_rfl
theorem g_68 : aggOf Try.prog 68 = some false := by kernel_rfl
theorem l_68 : isSl Try.prog 68 = true := by kernel_rfl
theorem r_68 : rowOf Try.prog 68 = some (3, .int .i64 0, 8) := by kernel_rfl
theorem s_78 : szOf Try.prog 78 = some 1 := by kernel_rfl
theorem g_78 : aggOf Try.prog 78 = some false := by kernel_rfl
theorem z_78 : (Try.prog.info? 78).bind (·.zero) = some (.int .u64 0) := by kernel_rfl
theorem s_81 : szOf Try.prog 81 = some 8 := by kernel_rfl
theorem g_81 : aggOf Try.prog 81 = some true := by kernel_rfl
theorem z_81 : (Try.prog.info? 81).bind (·.zero) = some (.agg #[.int .u64 0, .int .u64 0, .int .u64 0, .int .u64 0, .int .u64 0, .int .u64 0, .int .u64 0, .int .u64 0]) := by kernel_rfl
theorem q_81 : Try.prog.eqGuardType Try.prog.depth 81 = false := by kernel_rfl
theorem s_83 : szOf Try.prog 83 = some 1 := by kernel_rfl
theorem g_83 : aggOf Try.prog 83 = some false := by kernel_rfl
theorem l_83 : isSl Try.prog 83 = true := by kernel_rfl
theorem r_83 : rowOf Try.prog 83 = some (22, .int .u64 0, 8) := by kernel_rfl
theorem s_93 : szOf Try.prog 93 = some 1 := by kernel_rfl
theorem g_93 : aggOf Try.prog 93 = some false := by kernel_rfl
theorem z_93 : (Try.prog.info? 93).bind (·.zero) = some (.int .u32 0) := by kernel_rfl
theorem tyB : (Try.prog.underlying 2 = some (.int .i64)) ∧ (szOf Try.prog 2 = some 1) ∧ (aggOf Try.prog 2 = some false) ∧ ((Try.prog.info? 2).bind (·.zero) = some (.int .i64 0)) ∧ (Try.prog.underlying 3 = some (.int .i64)) ∧ (szOf Try.prog 3 = some 1) ∧ (aggOf Try.prog 3 = some false) ∧ ((Try.prog.info? 3).bind (·.zero) = some (.int .i64 0)) ∧ (Try.prog.underlying 4 = some (.bool)) ∧ (szOf Try.prog 4 = some 1) ∧ (aggOf Try.prog 4 = some false) ∧ ((Try.prog.info? 4).bind (·.zero) = some (.bool false)) ∧ (Try.prog.underlying 5 = some (.int .u8)) ∧ (szOf Try.prog 5 = some 1) ∧ (aggOf Try.prog 5 = some false) ∧ ((Try.prog.info? 5).bind (·.zero) = some (.int .u8 0)) ∧ (Try.prog.underlying 9 = some (.string)) ∧ (szOf Try.prog 9 = some 1) ∧ (aggOf Try.prog 9 = some false) ∧ ((Try.prog.info? 9).bind (·.zero) = some (.string ⟨#[]⟩)) ∧ (Try.prog.underlying 12 = some (.int .u64)) ∧ (szOf Try.prog 12 = some 1) ∧ (aggOf Try.prog 12 = some false) ∧ ((Try.prog.info? 12).bind (·.zero) = some (.int .u64 0)) ∧ (szOf Try.prog 13 = some 2) ∧ (aggOf Try.prog 13 = some true) ∧ ((Try.prog.info? 13).bind (·.zero) = some (.agg #[.string ⟨#[]⟩, .int .u64 0])) ∧ (Try.prog.eqGuardType Try.prog.depth 13 = false) ∧ (Try.prog.underlying 21 = some (.int .i32)) ∧ (szOf Try.prog 21 = some 1) ∧ (aggOf Try.prog 21 = some false) ∧ ((Try.prog.info? 21).bind (·.zero) = some (.int .i32 0)) ∧ (Try.prog.underlying 22 = some (.int .u64)) ∧ (szOf Try.prog 22 = some 1) ∧ (aggOf Try.prog 22 = some false) ∧ ((Try.prog.info? 22).bind (·.zero) = some (.int .u64 0)) ∧ (Try.prog.underlying 23 = some (.array 4 22)) ∧ (szOf Try.prog 23 = some 4) ∧ (aggOf Try.prog 23 = some true) ∧ ((Try.prog.info? 23).bind (·.zero) = some (.agg #[.int .u64 0, .int .u64 0, .int .u64 0, .int .u64 0])) ∧ (Try.prog.eqGuardType Try.prog.depth 23 = false) ∧ (Try.prog.underlying 24 = some (.array 4 22)) ∧ (szOf Try.prog 24 = some 4) ∧ (aggOf Try.prog 24 = some true) ∧ ((Try.prog.info? 24).bind (·.zero) = some (.agg #[.int .u64 0, .int .u64 0, .int .u64 0, .int .u64 0])) ∧ (Try.prog.eqGuardType Try.prog.depth 24 = false) ∧ (szOf Try.prog 25 = some 9) ∧ (aggOf Try.prog 25 = some true) ∧ ((Try.prog.info? 25).bind (·.zero) = some (.agg #[.int .u64 0, .int .u64 0, .int .u64 0, .int .u64 0, .int .u64 0, .int .u64 0, .int .u64 0, .int .u64 0, .bool false])) ∧ (Try.prog.eqGuardType Try.prog.depth 25 = false) ∧ (szOf Try.prog 26 = some 9) ∧ (aggOf Try.prog 26 = some true) ∧ ((Try.prog.info? 26).bind (·.zero) = some (.agg #[.int .u64 0, .int .u64 0, .int .u64 0, .int .u64 0, .int .u64 0, .int .u64 0, .int .u64 0, .int .u64 0, .bool false])) ∧ (Try.prog.eqGuardType Try.prog.depth 26 = false) ∧ (Try.prog.underlying 29 = some (.int .i64)) ∧ (szOf Try.prog 29 = some 1) ∧ (aggOf Try.prog 29 = some false) ∧ ((Try.prog.info? 29).bind (·.zero) = some (.int .i64 0)) ∧ (szOf Try.prog 53 = some 13) ∧ (aggOf Try.prog 53 = some true) ∧ ((Try.prog.info? 53).bind (·.zero) = some (.agg #[.int .u64 0, .int .u64 0, .int .u64 0, .int .u64 0, .int .u64 0, .int .u64 0, .int .u64 0, .int .u64 0, .bool false, .int .u64 0, .int .u64 0, .int .u64 0, .int .u64 0])) ∧ (Try.prog.eqGuardType Try.prog.depth 53 = false) ∧ (szOf Try.prog 54 = some 13) ∧ (aggOf Try.prog 54 = some true) ∧ ((Try.prog.info? 54).bind (·.zero) = some (.agg #[.int .u64 0, .int .u64 0, .int .u64 0, .int .u64 0, .int .u64 0, .int .u64 0, .int .u64 0, .int .u64 0, .bool false, .int .u64 0, .int .u64 0, .int .u64 0, .int .u64 0])) ∧ (Try.prog.eqGuardType Try.prog.depth 54 = false) ∧ (Try.prog.underlying 67 = some (.slice 3)) ∧ (szOf Try.prog 67 = some 1) ∧ (aggOf Try.prog 67 = some false) ∧ (isSl Try.prog 67 = true) ∧ (rowOf Try.prog 67 = some (3, .int .i64 0, 8)) ∧ (Try.prog.underlying 68 = some (.slice 3)) ∧ (szOf Try.prog 68 = some 1) ∧ (aggOf Try.prog 68 = some false) ∧ (isSl Try.prog 68 = true) ∧ (rowOf Try.prog 68 = some (3, .int .i64 0, 8)) ∧ (Try.prog.underlying 78 = some (.int .u64)) ∧ (szOf Try.prog 78 = some 1) ∧ (aggOf Try.prog 78 = some false) ∧ ((Try.prog.info? 78).bind (·.zero) = some (.int .u64 0)) ∧ (Try.prog.underlying 81 = some (.array 8 22)) ∧ (szOf Try.prog 81 = some 8) ∧ (aggOf Try.prog 81 = some true) ∧ ((Try.prog.info? 81).bind (·.zero) = some (.agg #[.int .u64 0, .int .u64 0, .int .u64 0, .int .u64 0, .int .u64 0, .int .u64 0, .int .u64 0, .int .u64 0])) ∧ (Try.prog.eqGuardType Try.prog.depth 81 = false) ∧ (Try.prog.underlying 83 = some (.slice 22)) ∧ (szOf Try.prog 83 = some 1) ∧ (aggOf Try.prog 83 = some false) ∧ (isSl Try.prog 83 = true) ∧ (rowOf Try.prog 83 = some (22, .int .u64 0, 8)) ∧ (Try.prog.underlying 93 = some (.int .u32)) ∧ (szOf Try.prog 93 = some 1) ∧ (aggOf Try.prog 93 = some false) ∧ ((Try.prog.info? 93).bind (·.zero) = some (.int .u32 0)) := ⟨Try.underlying2, s_2, g_2, z_2, Try.underlying3, s_3, g_3, z_3, Try.underlying4, s_4, g_4, z_4, Try.underlying5, s_5, g_5, z_5, Try.underlying9, s_9, g_9, z_9, Try.underlying12, s_12, g_12, z_12, s_13, g_13, z_13, q_13, Try.underlying21, s_21, g_21, z_21, Try.underlying22, s_22, g_22, z_22, Try.underlying23, s_23, g_23, z_23, q_23, Try.underlying24, s_24, g_24, z_24, q_24, s_25, g_25, z_25, q_25, s_26, g_26, z_26, q_26, Try.underlying29, s_29, g_29, z_29, s_53, g_53, z_53, q_53, s_54, g_54, z_54, q_54, Try.underlying67, s_67, g_67, l_67, r_67, Try.underlying68, s_68, g_68, l_68, r_68, Try.underlying78, s_78, g_78, z_78, Try.underlying81, s_81, g_81, z_81, q_81, Try.underlying83, s_83, g_83, l_83, r_83, Try.underlying93, s_93, g_93, z_93⟩
end Go.Vm
