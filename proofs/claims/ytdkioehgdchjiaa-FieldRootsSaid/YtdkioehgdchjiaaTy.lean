/- Facts on the types of this translation. No condition. -/
import Derived.Test.YtdkioehgdchjiaaU
import Derived.Test.YtdkioehgdchjiaaChecked
namespace Go.Vm
open Go Go.RowKit Go.Proofs

theorem follows_mixed : Try.prog.follows .mixedOrders = true := by kernel_rfl
theorem s_2 : szOf Try.prog 2 = some 1 := by kernel_rfl
theorem g_2 : aggOf Try.prog 2 = some false := by kernel_rfl
theorem z_2 : (Try.prog.info? 2).bind (·.zero) = some (.int .i64 0) := by kernel_rfl
theorem s_3 : szOf Try.prog 3 = some 1 := by kernel_rfl
theorem g_3 : aggOf Try.prog 3 = some false := by kernel_rfl
theorem z_3 : (Try.prog.info? 3).bind (·.zero) = some (.int .i64 0) := by kernel_rfl
theorem s_4 : szOf Try.prog 4 = some 1 := by kernel_rfl
theorem g_4 : aggOf Try.prog 4 = some false := by kernel_rfl
theorem z_4 : (Try.prog.info? 4).bind (·.zero) = some (.bool false) := by kernel_rfl
theorem s_5 : szOf Try.prog 5 = some 1 := by kernel_rfl
theorem g_5 : aggOf Try.prog 5 = some false := by kernel_rfl
theorem z_5 : (Try.prog.info? 5).bind (·.zero) = some (.int .u8 0) := by kernel_rfl
theorem s_9 : szOf Try.prog 9 = some 1 := by kernel_rfl
theorem g_9 : aggOf Try.prog 9 = some false := by kernel_rfl
theorem z_9 : (Try.prog.info? 9).bind (·.zero) = some (.string ⟨#[]⟩) := by kernel_rfl
theorem s_12 : szOf Try.prog 12 = some 1 := by kernel_rfl
theorem g_12 : aggOf Try.prog 12 = some false := by kernel_rfl
theorem z_12 : (Try.prog.info? 12).bind (·.zero) = some (.int .u64 0) := by kernel_rfl
theorem s_13 : szOf Try.prog 13 = some 2 := by kernel_rfl
theorem g_13 : aggOf Try.prog 13 = some true := by kernel_rfl
theorem z_13 : (Try.prog.info? 13).bind (·.zero) = some (.agg #[.string ⟨#[]⟩, .int .u64 0]) := by kernel_rfl
theorem q_13 : Try.prog.eqGuardType Try.prog.depth 13 = false := by kernel_rfl
theorem s_21 : szOf Try.prog 21 = some 1 := by kernel_rfl
theorem g_21 : aggOf Try.prog 21 = some false := by kernel_rfl
theorem z_21 : (Try.prog.info? 21).bind (·.zero) = some (.int .i32 0) := by kernel_rfl
theorem s_22 : szOf Try.prog 22 = some 1 := by kernel_rfl
theorem g_22 : aggOf Try.prog 22 = some false := by kernel_rfl
theorem z_22 : (Try.prog.info? 22).bind (·.zero) = some (.int .u64 0) := by kernel_rfl
theorem s_23 : szOf Try.prog 23 = some 4 := by kernel_rfl
theorem g_23 : aggOf Try.prog 23 = some true := by kernel_rfl
theorem z_23 : (Try.prog.info? 23).bind (·.zero) = some (.agg #[.int .u64 0, .int .u64 0, .int .u64 0, .int .u64 0]) := by kernel_rfl
theorem q_23 : Try.prog.eqGuardType Try.prog.depth 23 = false := by kernel_rfl
theorem s_24 : szOf Try.prog 24 = some 4 := by kernel_rfl
theorem g_24 : aggOf Try.prog 24 = some true := by kernel_rfl
theorem z_24 : (Try.prog.info? 24).bind (·.zero) = some (.agg #[.int .u64 0, .int .u64 0, .int .u64 0, .int .u64 0]) := by kernel_rfl
theorem q_24 : Try.prog.eqGuardType Try.prog.depth 24 = false := by kernel_rfl
theorem s_25 : szOf Try.prog 25 = some 1 := by kernel_rfl
theorem g_25 : aggOf Try.prog 25 = some false := by kernel_rfl
theorem z_25 : (Try.prog.info? 25).bind (·.zero) = some (.int .i64 0) := by kernel_rfl
theorem s_36 : szOf Try.prog 36 = some 1 := by kernel_rfl
theorem g_36 : aggOf Try.prog 36 = some false := by kernel_rfl
theorem l_36 : isSl Try.prog 36 = true := by kernel_rfl
theorem r_36 : rowOf Try.prog 36 = some (3, .int .i64 0, 8) := by kernel_rfl
theorem s_37 : szOf Try.prog 37 = some 1 := by kernel_rfl
theorem g_37 : aggOf Try.prog 37 = some false := by kernel_rfl
theorem l_37 : isSl Try.prog 37 = true := by kernel_rfl
theorem r_37 : rowOf Try.prog 37 = some (3, .int .i64 0, 8) := by kernel_rfl
theorem s_50 : szOf Try.prog 50 = some 8 := by kernel_rfl
theorem g_50 : aggOf Try.prog 50 = some true := by kernel_rfl
theorem z_50 : (Try.prog.info? 50).bind (·.zero) = some (.agg #[.int .u64 0, .int .u64 0, .int .u64 0, .int .u64 0, .int .u64 0, .int .u64 0, .int .u64 0, .int .u64 0]) := by kernel_rfl
theorem q_50 : Try.prog.eqGuardType Try.prog.depth 50 = false := by kernel_rfl
theorem s_54 : szOf Try.prog 54 = some 1 := by kernel_rfl
theorem g_54 : aggOf Try.prog 54 = some false := by kernel_rfl
theorem l_54 : isSl Try.prog 54 = true := by kernel_rfl
theorem r_54 : rowOf Try.prog 54 = some (22, .int .u64 0, 8) := by kernel_rfl
theorem s_55 : szOf Try.prog 55 = some 1 := by kernel_rfl
theorem g_55 : aggOf Try.prog 55 = some false := by kernel_rfl
theorem z_55 : (Try.prog.info? 55).bind (·.zero) = some (.int .u64 0) := by kernel_rfl
theorem s_71 : szOf Try.prog 71 = some 1 := by kernel_rfl
theorem g_71 : aggOf Try.prog 71 = some false := by kernel_rfl
theorem z_71 : (Try.prog.info? 71).bind (·.zero) = some (.int .u32 0) := by kernel_rfl
end Go.Vm
