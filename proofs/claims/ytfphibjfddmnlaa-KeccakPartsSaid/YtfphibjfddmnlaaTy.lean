/- Facts on the types of this translation. No condition. -/
import Derived.Test.YtfphibjfddmnlaaU
import Derived.Test.YtfphibjfddmnlaaChecked
namespace Go.Vm
open Go Go.RowKit Go.Proofs

theorem follows_mixed : Try.prog.follows .mixedOrders = true := by kernel_rfl
theorem s_2 : szOf Try.prog 2 = some 1 := by kernel_rfl
theorem g_2 : aggOf Try.prog 2 = some false := by kernel_rfl
theorem z_2 : (Try.prog.info? 2).bind (·.zero) = some (.int .i64 0) := by kernel_rfl
theorem s_3 : szOf Try.prog 3 = some 1 := by kernel_rfl
theorem g_3 : aggOf Try.prog 3 = some false := by kernel_rfl
theorem z_3 : (Try.prog.info? 3).bind (·.zero) = some (.int .i64 0) := by kernel_rfl
theorem s_4 : szOf Try.prog 4 = some 1 := by kernel_rfl
theorem g_4 : aggOf Try.prog 4 = some false := by kernel_rfl
theorem z_4 : (Try.prog.info? 4).bind (·.zero) = some (.bool false) := by kernel_rfl
theorem s_5 : szOf Try.prog 5 = some 1 := by kernel_rfl
theorem g_5 : aggOf Try.prog 5 = some false := by kernel_rfl
theorem z_5 : (Try.prog.info? 5).bind (·.zero) = some (.int .u8 0) := by kernel_rfl
theorem s_9 : szOf Try.prog 9 = some 1 := by kernel_rfl
theorem g_9 : aggOf Try.prog 9 = some false := by kernel_rfl
theorem z_9 : (Try.prog.info? 9).bind (·.zero) = some (.string ⟨#[]⟩) := by kernel_rfl
theorem s_12 : szOf Try.prog 12 = some 1 := by kernel_rfl
theorem g_12 : aggOf Try.prog 12 = some false := by kernel_rfl
theorem z_12 : (Try.prog.info? 12).bind (·.zero) = some (.int .u64 0) := by kernel_rfl
theorem s_13 : szOf Try.prog 13 = some 2 := by kernel_rfl
theorem g_13 : aggOf Try.prog 13 = some true := by kernel_rfl
theorem z_13 : (Try.prog.info? 13).bind (·.zero) = some (.agg #[.string ⟨#[]⟩, .int .u64 0]) := by kernel_rfl
theorem q_13 : Try.prog.eqGuardType Try.prog.depth 13 = false := by kernel_rfl
theorem s_21 : szOf Try.prog 21 = some 1 := by kernel_rfl
theorem g_21 : aggOf Try.prog 21 = some false := by kernel_rfl
theorem z_21 : (Try.prog.info? 21).bind (·.zero) = some (.int .i32 0) := by kernel_rfl
theorem s_25 : szOf Try.prog 25 = some 1 := by kernel_rfl
theorem g_25 : aggOf Try.prog 25 = some false := by kernel_rfl
theorem z_25 : (Try.prog.info? 25).bind (·.zero) = some (.int .u64 0) := by kernel_rfl
theorem s_26 : szOf Try.prog 26 = some 25 := by kernel_rfl
theorem g_26 : aggOf Try.prog 26 = some true := by kernel_rfl
theorem z_26 : (Try.prog.info? 26).bind (·.zero) = some (.agg #[.int .u64 0, .int .u64 0, .int .u64 0, .int .u64 0, .int .u64 0, .int .u64 0, .int .u64 0, .int .u64 0, .int .u64 0, .int .u64 0, .int .u64 0, .int .u64 0, .int .u64 0, .int .u64 0, .int .u64 0, .int .u64 0, .int .u64 0, .int .u64 0, .int .u64 0, .int .u64 0, .int .u64 0, .int .u64 0, .int .u64 0, .int .u64 0, .int .u64 0]) := by kernel_rfl
theorem q_26 : Try.prog.eqGuardType Try.prog.depth 26 = false := by kernel_rfl
theorem s_32 : szOf Try.prog 32 = some 1 := by kernel_rfl
theorem g_32 : aggOf Try.prog 32 = some false := by kernel_rfl
theorem l_32 : isSl Try.prog 32 = true := by kernel_rfl
theorem r_32 : rowOf Try.prog 32 = some (5, .int .u8 0, 1) := by kernel_rfl
theorem s_34 : szOf Try.prog 34 = some 1 := by kernel_rfl
theorem g_34 : aggOf Try.prog 34 = some false := by kernel_rfl
theorem z_34 : (Try.prog.info? 34).bind (·.zero) = some (.int .u64 0) := by kernel_rfl
theorem s_35 : szOf Try.prog 35 = some 25 := by kernel_rfl
theorem g_35 : aggOf Try.prog 35 = some true := by kernel_rfl
theorem z_35 : (Try.prog.info? 35).bind (·.zero) = some (.agg #[.int .i64 0, .int .i64 0, .int .i64 0, .int .i64 0, .int .i64 0, .int .i64 0, .int .i64 0, .int .i64 0, .int .i64 0, .int .i64 0, .int .i64 0, .int .i64 0, .int .i64 0, .int .i64 0, .int .i64 0, .int .i64 0, .int .i64 0, .int .i64 0, .int .i64 0, .int .i64 0, .int .i64 0, .int .i64 0, .int .i64 0, .int .i64 0, .int .i64 0]) := by kernel_rfl
theorem q_35 : Try.prog.eqGuardType Try.prog.depth 35 = false := by kernel_rfl
theorem s_38 : szOf Try.prog 38 = some 24 := by kernel_rfl
theorem g_38 : aggOf Try.prog 38 = some true := by kernel_rfl
theorem z_38 : (Try.prog.info? 38).bind (·.zero) = some (.agg #[.int .u64 0, .int .u64 0, .int .u64 0, .int .u64 0, .int .u64 0, .int .u64 0, .int .u64 0, .int .u64 0, .int .u64 0, .int .u64 0, .int .u64 0, .int .u64 0, .int .u64 0, .int .u64 0, .int .u64 0, .int .u64 0, .int .u64 0, .int .u64 0, .int .u64 0, .int .u64 0, .int .u64 0, .int .u64 0, .int .u64 0, .int .u64 0]) := by kernel_rfl
theorem q_38 : Try.prog.eqGuardType Try.prog.depth 38 = false := by kernel_rfl
theorem s_42 : szOf Try.prog 42 = some 1 := by kernel_rfl
theorem g_42 : aggOf Try.prog 42 = some false := by kernel_rfl
theorem l_42 : isSl Try.prog 42 = true := by kernel_rfl
theorem r_42 : rowOf Try.prog 42 = some (9, .string ⟨#[]⟩, 16) := by kernel_rfl
theorem s_44 : szOf Try.prog 44 = some 5 := by kernel_rfl
theorem g_44 : aggOf Try.prog 44 = some true := by kernel_rfl
theorem z_44 : (Try.prog.info? 44).bind (·.zero) = some (.agg #[.int .u64 0, .int .u64 0, .int .u64 0, .int .u64 0, .int .u64 0]) := by kernel_rfl
theorem q_44 : Try.prog.eqGuardType Try.prog.depth 44 = false := by kernel_rfl
theorem s_57 : szOf Try.prog 57 = some 1 := by kernel_rfl
theorem g_57 : aggOf Try.prog 57 = some false := by kernel_rfl
theorem l_57 : isSl Try.prog 57 = true := by kernel_rfl
theorem r_57 : rowOf Try.prog 57 = some (3, .int .i64 0, 8) := by kernel_rfl
theorem s_69 : szOf Try.prog 69 = some 1 := by kernel_rfl
theorem g_69 : aggOf Try.prog 69 = some false := by kernel_rfl
theorem z_69 : (Try.prog.info? 69).bind (·.zero) = some (.int .u32 0) := by kernel_rfl
end Go.Vm
