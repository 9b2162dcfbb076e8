/- Facts on the types of this translation. No condition. -/
import Derived.Test.YtccemkcgfilimaaU
import Derived.Test.YtccemkcgfilimaaChecked
namespace Go.Vm
open Go Go.RowKit Go.Proofs

theorem follows_mixed : Try.prog.follows .mixedOrders = true := by kernel_rfl
theorem s_2 : szOf Try.prog 2 = some 1 := by kernel_rfl
theorem g_2 : aggOf Try.prog 2 = some false := by kernel_rfl
theorem z_2 : (Try.prog.info? 2).bind (·.zero) = some (.int .i64 0) := by kernel_rfl
theorem s_3 : szOf Try.prog 3 = some 1 := by kernel_rfl
theorem g_3 : aggOf Try.prog 3 = some false := by kernel_rfl
theorem z_3 : (Try.prog.info? 3).bind (·.zero) = some (.int .i64 0) := by kernel_rfl
theorem s_4 : szOf Try.prog 4 = some 1 := by kernel_rfl
theorem g_4 : aggOf Try.prog 4 = some false := by kernel_rfl
theorem z_4 : (Try.prog.info? 4).bind (·.zero) = some (.bool false) := by kernel_rfl
theorem s_5 : szOf Try.prog 5 = some 1 := by kernel_rfl
theorem g_5 : aggOf Try.prog 5 = some false := by kernel_rfl
theorem z_5 : (Try.prog.info? 5).bind (·.zero) = some (.int .u8 0) := by kernel_rfl
theorem s_9 : szOf Try.prog 9 = some 1 := by kernel_rfl
theorem g_9 : aggOf Try.prog 9 = some false := by kernel_rfl
theorem z_9 : (Try.prog.info? 9).bind (·.zero) = some (.string ⟨#[]⟩) := by kernel_rfl
theorem s_12 : szOf Try.prog 12 = some 1 := by kernel_rfl
theorem g_12 : aggOf Try.prog 12 = some false := by kernel_rfl
theorem z_12 : (Try.prog.info? 12).bind (·.zero) = some (.int .u64 0) := by kernel_rfl
theorem s_13 : szOf Try.prog 13 = some 2 := by kernel_rfl
theorem g_13 : aggOf Try.prog 13 = some true := by kernel_rfl
theorem z_13 : (Try.prog.info? 13).bind (·.zero) = some (.agg #[.string ⟨#[]⟩, .int .u64 0]) := by kernel_rfl
theorem q_13 : Try.prog.eqGuardType Try.prog.depth 13 = false := by kernel_rfl
theorem s_21 : szOf Try.prog 21 = some 1 := by kernel_rfl
theorem g_21 : aggOf Try.prog 21 = some false := by kernel_rfl
theorem z_21 : (Try.prog.info? 21).bind (·.zero) = some (.int .i32 0) := by kernel_rfl
theorem s_22 : szOf Try.prog 22 = some 1 := by kernel_rfl
theorem g_22 : aggOf Try.prog 22 = some false := by kernel_rfl
theorem z_22 : (Try.prog.info? 22).bind (·.zero) = some (.int .u64 0) := by kernel_rfl
theorem s_23 : szOf Try.prog 23 = some 4 := by kernel_rfl
theorem g_23 : aggOf Try.prog 23 = some true := by kernel_rfl
theorem z_23 : (Try.prog.info? 23).bind (·.zero) = some (.agg #[.int .u64 0, .int .u64 0, .int .u64 0, .int .u64 0]) := by kernel_rfl
theorem q_23 : Try.prog.eqGuardType Try.prog.depth 23 = false := by kernel_rfl
theorem s_24 : szOf Try.prog 24 = some 4 := by kernel_rfl
theorem g_24 : aggOf Try.prog 24 = some true := by kernel_rfl
theorem z_24 : (Try.prog.info? 24).bind (·.zero) = some (.agg #[.int .u64 0, .int .u64 0, .int .u64 0, .int .u64 0]) := by kernel_rfl
theorem q_24 : Try.prog.eqGuardType Try.prog.depth 24 = false := by kernel_rfl
theorem s_27 : szOf Try.prog 27 = some 1 := by kernel_rfl
theorem g_27 : aggOf Try.prog 27 = some false := by kernel_rfl
theorem l_27 : isSl Try.prog 27 = true := by kernel_rfl
theorem r_27 : rowOf Try.prog 27 = some (3, .int .i64 0, 8) := by kernel_rfl
theorem s_28 : szOf Try.prog 28 = some 1 := by kernel_rfl
theorem g_28 : aggOf Try.prog 28 = some false := by kernel_rfl
theorem l_28 : isSl Try.prog 28 = true := by kernel_rfl
theorem r_28 : rowOf Try.prog 28 = some (3, .int .i64 0, 8) := by kernel_rfl
theorem s_42 : szOf Try.prog 42 = some 1 := by kernel_rfl
theorem g_42 : aggOf Try.prog 42 = some false := by kernel_rfl
theorem z_42 : (Try.prog.info? 42).bind (·.zero) = some (.int .i64 0) := by kernel_rfl
theorem s_45 : szOf Try.prog 45 = some 1 := by kernel_rfl
theorem g_45 : aggOf Try.prog 45 = some false := by kernel_rfl
theorem z_45 : (Try.prog.info? 45).bind (·.zero) = some (.int .u64 0) := by kernel_rfl
theorem s_57 : szOf Try.prog 57 = some 8 := by kernel_rfl
theorem g_57 : aggOf Try.prog 57 = some true := by kernel_rfl
theorem z_57 : (Try.prog.info? 57).bind (·.zero) = some (.agg #[.int .u64 0, .int .u64 0, .int .u64 0, .int .u64 0, .int .u64 0, .int .u64 0, .int .u64 0, .int .u64 0]) := by kernel_rfl
theorem q_57 : Try.prog.eqGuardType Try.prog.depth 57 = false := by kernel_rfl
theorem s_59 : szOf Try.prog 59 = some 1 := by kernel_rfl
theorem g_59 : aggOf Try.prog 59 = some false := by kernel_rfl
theorem l_59 : isSl Try.prog 59 = true := by kernel_rfl
theorem r_59 : rowOf Try.prog 59 = some (22, .int .u64 0, 8) := by kernel_rfl
theorem s_60 : szOf Try.prog 60 = some 32 := by kernel_rfl
theorem g_60 : aggOf Try.prog 60 = some true := by kernel_rfl
theorem z_60 : (Try.prog.info? 60).bind (·.zero) = some (.agg #[.int .u8 0, .int .u8 0, .int .u8 0, .int .u8 0, .int .u8 0, .int .u8 0, .int .u8 0, .int .u8 0, .int .u8 0, .int .u8 0, .int .u8 0, .int .u8 0, .int .u8 0, .int .u8 0, .int .u8 0, .int .u8 0, .int .u8 0, .int .u8 0, .int .u8 0, .int .u8 0, .int .u8 0, .int .u8 0, .int .u8 0, .int .u8 0, .int .u8 0, .int .u8 0, .int .u8 0, .int .u8 0, .int .u8 0, .int .u8 0, .int .u8 0, .int .u8 0]) := by kernel_rfl
theorem q_60 : Try.prog.eqGuardType Try.prog.depth 60 = false := by kernel_rfl
theorem s_61 : szOf Try.prog 61 = some 1 := by kernel_rfl
theorem g_61 : aggOf Try.prog 61 = some false := by kernel_rfl
theorem l_61 : isSl Try.prog 61 = true := by kernel_rfl
theorem r_61 : rowOf Try.prog 61 = some (5, .int .u8 0, 1) := by kernel_rfl
theorem s_70 : szOf Try.prog 70 = some 1 := by kernel_rfl
theorem g_70 : aggOf Try.prog 70 = some false := by kernel_rfl
theorem z_70 : (Try.prog.info? 70).bind (·.zero) = some (.int .u32 0) := by kernel_rfl
end Go.Vm
