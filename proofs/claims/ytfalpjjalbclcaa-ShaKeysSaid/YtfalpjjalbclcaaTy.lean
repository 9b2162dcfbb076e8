/- Facts on the types of this translation. No condition. -/
import Derived.Test.YtfalpjjalbclcaaU
import Derived.Test.YtfalpjjalbclcaaChecked
namespace Go.Vm
open Go Go.RowKit Go.Proofs

theorem follows_mixed : Try.prog.follows .mixedOrders = true := by kernel_rfl
theorem s_2 : szOf Try.prog 2 = some 1 := by kernel_rfl
theorem g_2 : aggOf Try.prog 2 = some false := by kernel_rfl
theorem z_2 : (Try.prog.info? 2).bind (·.zero) = some (.int .i64 0) := by kernel_rfl
theorem s_3 : szOf Try.prog 3 = some 1 := by kernel_rfl
theorem g_3 : aggOf Try.prog 3 = some false := by kernel_rfl
theorem z_3 : (Try.prog.info? 3).bind (·.zero) = some (.int .i64 0) := by kernel_rfl
theorem s_4 : szOf Try.prog 4 = some 1 := by kernel_rfl
theorem g_4 : aggOf Try.prog 4 = some false := by kernel_rfl
theorem z_4 : (Try.prog.info? 4).bind (·.zero) = some (.bool false) := by kernel_rfl
theorem s_5 : szOf Try.prog 5 = some 1 := by kernel_rfl
theorem g_5 : aggOf Try.prog 5 = some false := by kernel_rfl
theorem z_5 : (Try.prog.info? 5).bind (·.zero) = some (.int .u8 0) := by kernel_rfl
theorem s_9 : szOf Try.prog 9 = some 1 := by kernel_rfl
theorem g_9 : aggOf Try.prog 9 = some false := by kernel_rfl
theorem z_9 : (Try.prog.info? 9).bind (·.zero) = some (.string ⟨#[]⟩) := by kernel_rfl
theorem s_12 : szOf Try.prog 12 = some 1 := by kernel_rfl
theorem g_12 : aggOf Try.prog 12 = some false := by kernel_rfl
theorem z_12 : (Try.prog.info? 12).bind (·.zero) = some (.int .u64 0) := by kernel_rfl
theorem s_13 : szOf Try.prog 13 = some 2 := by kernel_rfl
theorem g_13 : aggOf Try.prog 13 = some true := by kernel_rfl
theorem z_13 : (Try.prog.info? 13).bind (·.zero) = some (.agg #[.string ⟨#[]⟩, .int .u64 0]) := by kernel_rfl
theorem q_13 : Try.prog.eqGuardType Try.prog.depth 13 = false := by kernel_rfl
theorem s_21 : szOf Try.prog 21 = some 1 := by kernel_rfl
theorem g_21 : aggOf Try.prog 21 = some false := by kernel_rfl
theorem z_21 : (Try.prog.info? 21).bind (·.zero) = some (.int .i32 0) := by kernel_rfl
theorem s_22 : szOf Try.prog 22 = some 1 := by kernel_rfl
theorem g_22 : aggOf Try.prog 22 = some false := by kernel_rfl
theorem z_22 : (Try.prog.info? 22).bind (·.zero) = some (.int .u32 0) := by kernel_rfl
theorem s_23 : szOf Try.prog 23 = some 8 := by kernel_rfl
theorem g_23 : aggOf Try.prog 23 = some true := by kernel_rfl
theorem z_23 : (Try.prog.info? 23).bind (·.zero) = some (.agg #[.int .u32 0, .int .u32 0, .int .u32 0, .int .u32 0, .int .u32 0, .int .u32 0, .int .u32 0, .int .u32 0]) := by kernel_rfl
theorem q_23 : Try.prog.eqGuardType Try.prog.depth 23 = false := by kernel_rfl
theorem s_24 : szOf Try.prog 24 = some 1 := by kernel_rfl
theorem g_24 : aggOf Try.prog 24 = some false := by kernel_rfl
theorem z_24 : (Try.prog.info? 24).bind (·.zero) = some (.int .i64 0) := by kernel_rfl
theorem s_29 : szOf Try.prog 29 = some 1 := by kernel_rfl
theorem g_29 : aggOf Try.prog 29 = some false := by kernel_rfl
theorem l_29 : isSl Try.prog 29 = true := by kernel_rfl
theorem r_29 : rowOf Try.prog 29 = some (22, .int .u32 0, 4) := by kernel_rfl
theorem s_38 : szOf Try.prog 38 = some 1 := by kernel_rfl
theorem g_38 : aggOf Try.prog 38 = some false := by kernel_rfl
theorem l_38 : isSl Try.prog 38 = true := by kernel_rfl
theorem r_38 : rowOf Try.prog 38 = some (5, .int .u8 0, 1) := by kernel_rfl
theorem s_39 : szOf Try.prog 39 = some 64 := by kernel_rfl
theorem g_39 : aggOf Try.prog 39 = some true := by kernel_rfl
theorem z_39 : (Try.prog.info? 39).bind (·.zero) = some (.agg #[.int .u32 0, .int .u32 0, .int .u32 0, .int .u32 0, .int .u32 0, .int .u32 0, .int .u32 0, .int .u32 0, .int .u32 0, .int .u32 0, .int .u32 0, .int .u32 0, .int .u32 0, .int .u32 0, .int .u32 0, .int .u32 0, .int .u32 0, .int .u32 0, .int .u32 0, .int .u32 0, .int .u32 0, .int .u32 0, .int .u32 0, .int .u32 0, .int .u32 0, .int .u32 0, .int .u32 0, .int .u32 0, .int .u32 0, .int .u32 0, .int .u32 0, .int .u32 0, .int .u32 0, .int .u32 0, .int .u32 0, .int .u32 0, .int .u32 0, .int .u32 0, .int .u32 0, .int .u32 0, .int .u32 0, .int .u32 0, .int .u32 0, .int .u32 0, .int .u32 0, .int .u32 0, .int .u32 0, .int .u32 0, .int .u32 0, .int .u32 0, .int .u32 0, .int .u32 0, .int .u32 0, .int .u32 0, .int .u32 0, .int .u32 0, .int .u32 0, .int .u32 0, .int .u32 0, .int .u32 0, .int .u32 0, .int .u32 0, .int .u32 0, .int .u32 0]) := by kernel_rfl
theorem q_39 : Try.prog.eqGuardType Try.prog.depth 39 = false := by kernel_rfl
theorem s_43 : szOf Try.prog 43 = some 1 := by kernel_rfl
theorem g_43 : aggOf Try.prog 43 = some false := by kernel_rfl
theorem l_43 : isSl Try.prog 43 = true := by kernel_rfl
theorem r_43 : rowOf Try.prog 43 = some (3, .int .i64 0, 8) := by kernel_rfl
theorem s_47 : szOf Try.prog 47 = some 1 := by kernel_rfl
theorem g_47 : aggOf Try.prog 47 = some false := by kernel_rfl
theorem z_47 : (Try.prog.info? 47).bind (·.zero) = some (.int .u64 0) := by kernel_rfl
theorem s_49 : szOf Try.prog 49 = some 1 := by kernel_rfl
theorem g_49 : aggOf Try.prog 49 = some false := by kernel_rfl
theorem z_49 : (Try.prog.info? 49).bind (·.zero) = some (.int .u64 0) := by kernel_rfl
theorem s_50 : szOf Try.prog 50 = some 1 := by kernel_rfl
theorem g_50 : aggOf Try.prog 50 = some false := by kernel_rfl
theorem l_50 : isSl Try.prog 50 = true := by kernel_rfl
theorem r_50 : rowOf Try.prog 50 = some (9, .string ⟨#[]⟩, 16) := by kernel_rfl
end Go.Vm
