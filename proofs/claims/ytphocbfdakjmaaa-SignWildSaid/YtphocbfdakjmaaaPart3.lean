/- Texts of the proof, laid together: Ty, Q, A, C, D, Al, Bits, B1, B2, M, Pq, Nt, Ga. No condition. -/
import Derived.Test.YtphocbfdakjmaaaPart2
import Derived.Test.YtphocbfdakjmaaaChecked
import Derived.ChangeKeysEq
import Derived.Laws.Bits64b
import Derived.Lib.Mul64
import Derived.Lib.BitFns
import Derived.Laws.StructEq
import Derived.WalkKit
/- Facts on the types of this translation. No condition. -/
namespace Go.Vm
open Go Go.RowKit Go.Proofs

theorem follows_mixed : Try.prog.follows .mixedOrders = true := by kernel_rfl
theorem s_2 : szOf Try.prog 2 = some 1 := by kernel_rfl
theorem g_2 : aggOf Try.prog 2 = some false := by kernel_rfl
theorem z_2 : (Try.prog.info? 2).bind (·.zero) = some (.int .i64 0) := by kernel_rfl
theorem s_3 : szOf Try.prog 3 = some 1 := by kernel_rfl
theorem g_3 : aggOf Try.prog 3 = some false := by kernel_rfl
theorem z_3 : (Try.prog.info? 3).bind (·.zero) = some (.int .i64 0) := by kernel_rfl
theorem s_4 : szOf Try.prog 4 = some 1 := by kernel_rfl
theorem g_4 : aggOf Try.prog 4 = some false := by kernel_rfl
theorem z_4 : (Try.prog.info? 4).bind (·.zero) = some (.bool false) := by kernel_rfl
theorem s_5 : szOf Try.prog 5 = some 1 := by kernel_rfl
theorem g_5 : aggOf Try.prog 5 = some false := by kernel_rfl
theorem z_5 : (Try.prog.info? 5).bind (·.zero) = some (.int .u8 0) := by kernel_rfl
theorem s_9 : szOf Try.prog 9 = some 1 := by kernel_rfl
theorem g_9 : aggOf Try.prog 9 = some false := by kernel_rfl
theorem z_9 : (Try.prog.info? 9).bind (·.zero) = some (.string ⟨#[]⟩) := by kernel_rfl
theorem s_12 : szOf Try.prog 12 = some 1 := by kernel_rfl
theorem g_12 : aggOf Try.prog 12 = some false := by kernel_rfl
theorem z_12 : (Try.prog.info? 12).bind (·.zero) = some (.int .u64 0) := by kernel_rfl
theorem s_13 : szOf Try.prog 13 = some 2 := by kernel_rfl
theorem g_13 : aggOf Try.prog 13 = some true := by kernel_rfl
theorem z_13 : (Try.prog.info? 13).bind (·.zero) = some (.agg #[.string ⟨#[]⟩, .int .u64 0]) := by kernel_rfl
theorem q_13 : Try.prog.eqGuardType Try.prog.depth 13 = false := by kernel_rfl
theorem s_21 : szOf Try.prog 21 = some 1 := by kernel_rfl
theorem g_21 : aggOf Try.prog 21 = some false := by kernel_rfl
theorem z_21 : (Try.prog.info? 21).bind (·.zero) = some (.int .i32 0) := by kernel_rfl
theorem s_22 : szOf Try.prog 22 = some 1 := by kernel_rfl
theorem g_22 : aggOf Try.prog 22 = some false := by kernel_rfl
theorem z_22 : (Try.prog.info? 22).bind (·.zero) = some (.int .u64 0) := by kernel_rfl
theorem s_23 : szOf Try.prog 23 = some 4 := by kernel_rfl
theorem g_23 : aggOf Try.prog 23 = some true := by kernel_rfl
theorem z_23 : (Try.prog.info? 23).bind (·.zero) = some (.agg #[.int .u64 0, .int .u64 0, .int .u64 0, .int .u64 0]) := by kernel_rfl
theorem q_23 : Try.prog.eqGuardType Try.prog.depth 23 = false := by kernel_rfl
theorem s_24 : szOf Try.prog 24 = some 4 := by kernel_rfl
theorem g_24 : aggOf Try.prog 24 = some true := by kernel_rfl
theorem z_24 : (Try.prog.info? 24).bind (·.zero) = some (.agg #[.int .u64 0, .int .u64 0, .int .u64 0, .int .u64 0]) := by kernel_rfl
theorem q_24 : Try.prog.eqGuardType Try.prog.depth 24 = false := by kernel_rfl
theorem s_25 : szOf Try.prog 25 = some 9 := by kernel_rfl
theorem g_25 : aggOf Try.prog 25 = some true := by kernel_rfl
theorem z_25 : (Try.prog.info? 25).bind (·.zero) = some (.agg #[.int .u64 0, .int .u64 0, .int .u64 0, .int .u64 0, .int .u64 0, .int .u64 0, .int .u64 0, .int .u64 0, .bool false]) := by kernel_rfl
theorem q_25 : Try.prog.eqGuardType Try.prog.depth 25 = false := by kernel_rfl
theorem s_26 : szOf Try.prog 26 = some 9 := by kernel_rfl
theorem g_26 : aggOf Try.prog 26 = some true := by kernel_rfl
theorem z_26 : (Try.prog.info? 26).bind (·.zero) = some (.agg #[.int .u64 0, .int .u64 0, .int .u64 0, .int .u64 0, .int .u64 0, .int .u64 0, .int .u64 0, .int .u64 0, .bool false]) := by kernel_rfl
theorem q_26 : Try.prog.eqGuardType Try.prog.depth 26 = false := by kernel_rfl
theorem s_27 : szOf Try.prog 27 = some 1 := by kernel_rfl
theorem g_27 : aggOf Try.prog 27 = some false := by kernel_rfl
theorem z_27 : (Try.prog.info? 27).bind (·.zero) = some (.int .i64 0) := by kernel_rfl
theorem s_39 : szOf Try.prog 39 = some 9 := by kernel_rfl
theorem g_39 : aggOf Try.prog 39 = some true := by kernel_rfl
theorem z_39 : (Try.prog.info? 39).bind (·.zero) = some (.agg #[.int .u64 0, .int .u64 0, .int .u64 0, .int .u64 0, .int .u64 0, .int .u64 0, .int .u64 0, .int .u64 0, .int .i64 0]) := by kernel_rfl
theorem q_39 : Try.prog.eqGuardType Try.prog.depth 39 = false := by kernel_rfl
theorem s_40 : szOf Try.prog 40 = some 9 := by kernel_rfl
theorem g_40 : aggOf Try.prog 40 = some true := by kernel_rfl
theorem z_40 : (Try.prog.info? 40).bind (·.zero) = some (.agg #[.int .u64 0, .int .u64 0, .int .u64 0, .int .u64 0, .int .u64 0, .int .u64 0, .int .u64 0, .int .u64 0, .int .i64 0]) := by kernel_rfl
theorem q_40 : Try.prog.eqGuardType Try.prog.depth 40 = false := by kernel_rfl
theorem s_59 : szOf Try.prog 59 = some 1 := by kernel_rfl
theorem g_59 : aggOf Try.prog 59 = some false := by kernel_rfl
theorem l_59 : isSl Try.prog 59 = true := by kernel_rfl
theorem r_59 : rowOf Try.prog 59 = some (3, .int .i64 0, 8) := by kernel_rfl
theorem s_60 : szOf Try.prog 60 = some 1 := by kernel_rfl
theorem g_60 : aggOf Try.prog 60 = some false := by kernel_rfl
theorem l_60 : isSl Try.prog 60 = true := by kernel_rfl
theorem r_60 : rowOf Try.prog 60 = some (3, .int .i64 0, 8) := by kernel_rfl
theorem s_64 : szOf Try.prog 64 = some 1 := by kernel_rfl
theorem g_64 : aggOf Try.prog 64 = some false := by kernel_rfl
theorem l_64 : isSl Try.prog 64 = true := by kernel_rfl
theorem r_64 : rowOf Try.prog 64 = some (5, .int .u8 0, 1) := by kernel_rfl
theorem s_72 : szOf Try.prog 72 = some 13 := by kernel_rfl
theorem g_72 : aggOf Try.prog 72 = some true := by kernel_rfl
theorem z_72 : (Try.prog.info? 72).bind (·.zero) = some (.agg #[.int .u64 0, .int .u64 0, .int .u64 0, .int .u64 0, .int .u64 0, .int .u64 0, .int .u64 0, .int .u64 0, .bool false, .int .u64 0, .int .u64 0, .int .u64 0, .int .u64 0]) := by kernel_rfl
theorem q_72 : Try.prog.eqGuardType Try.prog.depth 72 = false := by kernel_rfl
theorem s_73 : szOf Try.prog 73 = some 13 := by kernel_rfl
theorem g_73 : aggOf Try.prog 73 = some true := by kernel_rfl
theorem z_73 : (Try.prog.info? 73).bind (·.zero) = some (.agg #[.int .u64 0, .int .u64 0, .int .u64 0, .int .u64 0, .int .u64 0, .int .u64 0, .int .u64 0, .int .u64 0, .bool false, .int .u64 0, .int .u64 0, .int .u64 0, .int .u64 0]) := by kernel_rfl
theorem q_73 : Try.prog.eqGuardType Try.prog.depth 73 = false := by kernel_rfl
theorem s_84 : szOf Try.prog 84 = some 1 := by kernel_rfl
theorem g_84 : aggOf Try.prog 84 = some false := by kernel_rfl
theorem l_84 : isSl Try.prog 84 = true := by kernel_rfl
theorem r_84 : rowOf Try.prog 84 = some (9, .string ⟨#[]⟩, 16) := by kernel_rfl
theorem s_86 : szOf Try.prog 86 = some 32 := by kernel_rfl
theorem g_86 : aggOf Try.prog 86 = some true := by kernel_rfl
theorem z_86 : (Try.prog.info? 86).bind (·.zero) = some (.agg #[.int .u8 0, .int .u8 0, .int .u8 0, .int .u8 0, .int .u8 0, .int .u8 0, .int .u8 0, .int .u8 0, .int .u8 0, .int .u8 0, .int .u8 0, .int .u8 0, .int .u8 0, .int .u8 0, .int .u8 0, .int .u8 0, .int .u8 0, .int .u8 0, .int .u8 0, .int .u8 0, .int .u8 0, .int .u8 0, .int .u8 0, .int .u8 0, .int .u8 0, .int .u8 0, .int .u8 0, .int .u8 0, .int .u8 0, .int .u8 0, .int .u8 0, .int .u8 0]) := by kernel_rfl
theorem q_86 : Try.prog.eqGuardType Try.prog.depth 86 = false := by kernel_rfl
theorem s_87 : szOf Try.prog 87 = some 25 := by kernel_rfl
theorem g_87 : aggOf Try.prog 87 = some true := by kernel_rfl
theorem z_87 : (Try.prog.info? 87).bind (·.zero) = some (.agg #[.int .u64 0, .int .u64 0, .int .u64 0, .int .u64 0, .int .u64 0, .int .u64 0, .int .u64 0, .int .u64 0, .int .u64 0, .int .u64 0, .int .u64 0, .int .u64 0, .int .u64 0, .int .u64 0, .int .u64 0, .int .u64 0, .int .u64 0, .int .u64 0, .int .u64 0, .int .u64 0, .int .u64 0, .int .u64 0, .int .u64 0, .int .u64 0, .int .u64 0]) := by kernel_rfl
theorem q_87 : Try.prog.eqGuardType Try.prog.depth 87 = false := by kernel_rfl
theorem s_90 : szOf Try.prog 90 = some 1 := by kernel_rfl
theorem g_90 : aggOf Try.prog 90 = some false := by kernel_rfl
theorem z_90 : (Try.prog.info? 90).bind (·.zero) = some (.int .u64 0) := by kernel_rfl
theorem s_111 : szOf Try.prog 111 = some 8 := by kernel_rfl
theorem g_111 : aggOf Try.prog 111 = some true := by kernel_rfl
theorem z_111 : (Try.prog.info? 111).bind (·.zero) = some (.agg #[.int .u64 0, .int .u64 0, .int .u64 0, .int .u64 0, .int .u64 0, .int .u64 0, .int .u64 0, .int .u64 0]) := by kernel_rfl
theorem q_111 : Try.prog.eqGuardType Try.prog.depth 111 = false := by kernel_rfl
theorem s_113 : szOf Try.prog 113 = some 1 := by kernel_rfl
theorem g_113 : aggOf Try.prog 113 = some false := by kernel_rfl
theorem l_113 : isSl Try.prog 113 = true := by kernel_rfl
theorem r_113 : rowOf Try.prog 113 = some (22, .int .u64 0, 8) := by kernel_rfl
theorem s_114 : szOf Try.prog 114 = some 25 := by kernel_rfl
theorem g_114 : aggOf Try.prog 114 = some true := by kernel_rfl
theorem z_114 : (Try.prog.info? 114).bind (·.zero) = some (.agg #[.int .i64 0, .int .i64 0, .int .i64 0, .int .i64 0, .int .i64 0, .int .i64 0, .int .i64 0, .int .i64 0, .int .i64 0, .int .i64 0, .int .i64 0, .int .i64 0, .int .i64 0, .int .i64 0, .int .i64 0, .int .i64 0, .int .i64 0, .int .i64 0, .int .i64 0, .int .i64 0, .int .i64 0, .int .i64 0, .int .i64 0, .int .i64 0, .int .i64 0]) := by kernel_rfl
theorem q_114 : Try.prog.eqGuardType Try.prog.depth 114 = false := by kernel_rfl
theorem s_117 : szOf Try.prog 117 = some 24 := by kernel_rfl
theorem g_117 : aggOf Try.prog 117 = some true := by kernel_rfl
theorem z_117 : (Try.prog.info? 117).bind (·.zero) = some (.agg #[.int .u64 0, .int .u64 0, .int .u64 0, .int .u64 0, .int .u64 0, .int .u64 0, .int .u64 0, .int .u64 0, .int .u64 0, .int .u64 0, .int .u64 0, .int .u64 0, .int .u64 0, .int .u64 0, .int .u64 0, .int .u64 0, .int .u64 0, .int .u64 0, .int .u64 0, .int .u64 0, .int .u64 0, .int .u64 0, .int .u64 0, .int .u64 0]) := by kernel_rfl
theorem q_117 : Try.prog.eqGuardType Try.prog.depth 117 = false := by kernel_rfl
theorem s_121 : szOf Try.prog 121 = some 5 := by kernel_rfl
theorem g_121 : aggOf Try.prog 121 = some true := by kernel_rfl
theorem z_121 : (Try.prog.info? 121).bind (·.zero) = some (.agg #[.int .u64 0, .int .u64 0, .int .u64 0, .int .u64 0, .int .u64 0]) := by kernel_rfl
theorem q_121 : Try.prog.eqGuardType Try.prog.depth 121 = false := by kernel_rfl
theorem s_135 : szOf Try.prog 135 = some 1 := by kernel_rfl
theorem g_135 : aggOf Try.prog 135 = some false := by kernel_rfl
theorem z_135 : (Try.prog.info? 135).bind (·.zero) = some (.int .u32 0) := by kernel_rfl
theorem tyB : (Try.prog.underlying 2 = some (.int .i64)) ∧ (szOf Try.prog 2 = some 1) ∧ (aggOf Try.prog 2 = some false) ∧ ((Try.prog.info? 2).bind (·.zero) = some (.int .i64 0)) ∧ (Try.prog.underlying 3 = some (.int .i64)) ∧ (szOf Try.prog 3 = some 1) ∧ (aggOf Try.prog 3 = some false) ∧ ((Try.prog.info? 3).bind (·.zero) = some (.int .i64 0)) ∧ (Try.prog.underlying 4 = some (.bool)) ∧ (szOf Try.prog 4 = some 1) ∧ (aggOf Try.prog 4 = some false) ∧ ((Try.prog.info? 4).bind (·.zero) = some (.bool false)) ∧ (Try.prog.underlying 5 = some (.int .u8)) ∧ (szOf Try.prog 5 = some 1) ∧ (aggOf Try.prog 5 = some false) ∧ ((Try.prog.info? 5).bind (·.zero) = some (.int .u8 0)) ∧ (Try.prog.underlying 9 = some (.string)) ∧ (szOf Try.prog 9 = some 1) ∧ (aggOf Try.prog 9 = some false) ∧ ((Try.prog.info? 9).bind (·.zero) = some (.string ⟨#[]⟩)) ∧ (Try.prog.underlying 12 = some (.int .u64)) ∧ (szOf Try.prog 12 = some 1) ∧ (aggOf Try.prog 12 = some false) ∧ ((Try.prog.info? 12).bind (·.zero) = some (.int .u64 0)) ∧ (szOf Try.prog 13 = some 2) ∧ (aggOf Try.prog 13 = some true) ∧ ((Try.prog.info? 13).bind (·.zero) = some (.agg #[.string ⟨#[]⟩, .int .u64 0])) ∧ (Try.prog.eqGuardType Try.prog.depth 13 = false) ∧ (Try.prog.underlying 21 = some (.int .i32)) ∧ (szOf Try.prog 21 = some 1) ∧ (aggOf Try.prog 21 = some false) ∧ ((Try.prog.info? 21).bind (·.zero) = some (.int .i32 0)) ∧ (Try.prog.underlying 22 = some (.int .u64)) ∧ (szOf Try.prog 22 = some 1) ∧ (aggOf Try.prog 22 = some false) ∧ ((Try.prog.info? 22).bind (·.zero) = some (.int .u64 0)) ∧ (Try.prog.underlying 23 = some (.array 4 22)) ∧ (szOf Try.prog 23 = some 4) ∧ (aggOf Try.prog 23 = some true) ∧ ((Try.prog.info? 23).bind (·.zero) = some (.agg #[.int .u64 0, .int .u64 0, .int .u64 0, .int .u64 0])) ∧ (Try.prog.eqGuardType Try.prog.depth 23 = false) ∧ (Try.prog.underlying 24 = some (.array 4 22)) ∧ (szOf Try.prog 24 = some 4) ∧ (aggOf Try.prog 24 = some true) ∧ ((Try.prog.info? 24).bind (·.zero) = some (.agg #[.int .u64 0, .int .u64 0, .int .u64 0, .int .u64 0])) ∧ (Try.prog.eqGuardType Try.prog.depth 24 = false) ∧ (szOf Try.prog 25 = some 9) ∧ (aggOf Try.prog 25 = some true) ∧ ((Try.prog.info? 25).bind (·.zero) = some (.agg #[.int .u64 0, .int .u64 0, .int .u64 0, .int .u64 0, .int .u64 0, .int .u64 0, .int .u64 0, .int .u64 0, .bool false])) ∧ (Try.prog.eqGuardType Try.prog.depth 25 = false) ∧ (szOf Try.prog 26 = some 9) ∧ (aggOf Try.prog 26 = some true) ∧ ((Try.prog.info? 26).bind (·.zero) = some (.agg #[.int .u64 0, .int .u64 0, .int .u64 0, .int .u64 0, .int .u64 0, .int .u64 0, .int .u64 0, .int .u64 0, .bool false])) ∧ (Try.prog.eqGuardType Try.prog.depth 26 = false) ∧ (Try.prog.underlying 27 = some (.int .i64)) ∧ (szOf Try.prog 27 = some 1) ∧ (aggOf Try.prog 27 = some false) ∧ ((Try.prog.info? 27).bind (·.zero) = some (.int .i64 0)) ∧ (szOf Try.prog 39 = some 9) ∧ (aggOf Try.prog 39 = some true) ∧ ((Try.prog.info? 39).bind (·.zero) = some (.agg #[.int .u64 0, .int .u64 0, .int .u64 0, .int .u64 0, .int .u64 0, .int .u64 0, .int .u64 0, .int .u64 0, .int .i64 0])) ∧ (Try.prog.eqGuardType Try.prog.depth 39 = false) ∧ (szOf Try.prog 40 = some 9) ∧ (aggOf Try.prog 40 = some true) ∧ ((Try.prog.info? 40).bind (·.zero) = some (.agg #[.int .u64 0, .int .u64 0, .int .u64 0, .int .u64 0, .int .u64 0, .int .u64 0, .int .u64 0, .int .u64 0, .int .i64 0])) ∧ (Try.prog.eqGuardType Try.prog.depth 40 = false) ∧ (Try.prog.underlying 59 = some (.slice 3)) ∧ (szOf Try.prog 59 = some 1) ∧ (aggOf Try.prog 59 = some false) ∧ (isSl Try.prog 59 = true) ∧ (rowOf Try.prog 59 = some (3, .int .i64 0, 8)) ∧ (Try.prog.underlying 60 = some (.slice 3)) ∧ (szOf Try.prog 60 = some 1) ∧ (aggOf Try.prog 60 = some false) ∧ (isSl Try.prog 60 = true) ∧ (rowOf Try.prog 60 = some (3, .int .i64 0, 8)) ∧ (Try.prog.underlying 64 = some (.slice 5)) ∧ (szOf Try.prog 64 = some 1) ∧ (aggOf Try.prog 64 = some false) ∧ (isSl Try.prog 64 = true) ∧ (rowOf Try.prog 64 = some (5, .int .u8 0, 1)) ∧ (szOf Try.prog 72 = some 13) ∧ (aggOf Try.prog 72 = some true) ∧ ((Try.prog.info? 72).bind (·.zero) = some (.agg #[.int .u64 0, .int .u64 0, .int .u64 0, .int .u64 0, .int .u64 0, .int .u64 0, .int .u64 0, .int .u64 0, .bool false, .int .u64 0, .int .u64 0, .int .u64 0, .int .u64 0])) ∧ (Try.prog.eqGuardType Try.prog.depth 72 = false) ∧ (szOf Try.prog 73 = some 13) ∧ (aggOf Try.prog 73 = some true) ∧ ((Try.prog.info? 73).bind (·.zero) = some (.agg #[.int .u64 0, .int .u64 0, .int .u64 0, .int .u64 0, .int .u64 0, .int .u64 0, .int .u64 0, .int .u64 0, .bool false, .int .u64 0, .int .u64 0, .int .u64 0, .int .u64 0])) ∧ (Try.prog.eqGuardType Try.prog.depth 73 = false) ∧ (Try.prog.underlying 84 = some (.slice 9)) ∧ (szOf Try.prog 84 = some 1) ∧ (aggOf Try.prog 84 = some false) ∧ (isSl Try.prog 84 = true) ∧ (rowOf Try.prog 84 = some (9, .string ⟨#[]⟩, 16)) ∧ (Try.prog.underlying 86 = some (.array 32 5)) ∧ (szOf Try.prog 86 = some 32) ∧ (aggOf Try.prog 86 = some true) ∧ ((Try.prog.info? 86).bind (·.zero) = some (.agg #[.int .u8 0, .int .u8 0, .int .u8 0, .int .u8 0, .int .u8 0, .int .u8 0, .int .u8 0, .int .u8 0, .int .u8 0, .int .u8 0, .int .u8 0, .int .u8 0, .int .u8 0, .int .u8 0, .int .u8 0, .int .u8 0, .int .u8 0, .int .u8 0, .int .u8 0, .int .u8 0, .int .u8 0, .int .u8 0, .int .u8 0, .int .u8 0, .int .u8 0, .int .u8 0, .int .u8 0, .int .u8 0, .int .u8 0, .int .u8 0, .int .u8 0, .int .u8 0])) ∧ (Try.prog.eqGuardType Try.prog.depth 86 = false) ∧ (Try.prog.underlying 87 = some (.array 25 22)) ∧ (szOf Try.prog 87 = some 25) ∧ (aggOf Try.prog 87 = some true) ∧ ((Try.prog.info? 87).bind (·.zero) = some (.agg #[.int .u64 0, .int .u64 0, .int .u64 0, .int .u64 0, .int .u64 0, .int .u64 0, .int .u64 0, .int .u64 0, .int .u64 0, .int .u64 0, .int .u64 0, .int .u64 0, .int .u64 0, .int .u64 0, .int .u64 0, .int .u64 0, .int .u64 0, .int .u64 0, .int .u64 0, .int .u64 0, .int .u64 0, .int .u64 0, .int .u64 0, .int .u64 0, .int .u64 0])) ∧ (Try.prog.eqGuardType Try.prog.depth 87 = false) ∧ (Try.prog.underlying 90 = some (.int .u64)) ∧ (szOf Try.prog 90 = some 1) ∧ (aggOf Try.prog 90 = some false) ∧ ((Try.prog.info? 90).bind (·.zero) = some (.int .u64 0)) ∧ (Try.prog.underlying 111 = some (.array 8 22)) ∧ (szOf Try.prog 111 = some 8) ∧ (aggOf Try.prog 111 = some true) ∧ ((Try.prog.info? 111).bind (·.zero) = some (.agg #[.int .u64 0, .int .u64 0, .int .u64 0, .int .u64 0, .int .u64 0, .int .u64 0, .int .u64 0, .int .u64 0])) ∧ (Try.prog.eqGuardType Try.prog.depth 111 = false) ∧ (Try.prog.underlying 113 = some (.slice 22)) ∧ (szOf Try.prog 113 = some 1) ∧ (aggOf Try.prog 113 = some false) ∧ (isSl Try.prog 113 = true) ∧ (rowOf Try.prog 113 = some (22, .int .u64 0, 8)) ∧ (Try.prog.underlying 114 = some (.array 25 3)) ∧ (szOf Try.prog 114 = some 25) ∧ (aggOf Try.prog 114 = some true) ∧ ((Try.prog.info? 114).bind (·.zero) = some (.agg #[.int .i64 0, .int .i64 0, .int .i64 0, .int .i64 0, .int .i64 0, .int .i64 0, .int .i64 0, .int .i64 0, .int .i64 0, .int .i64 0, .int .i64 0, .int .i64 0, .int .i64 0, .int .i64 0, .int .i64 0, .int .i64 0, .int .i64 0, .int .i64 0, .int .i64 0, .int .i64 0, .int .i64 0, .int .i64 0, .int .i64 0, .int .i64 0, .int .i64 0])) ∧ (Try.prog.eqGuardType Try.prog.depth 114 = false) ∧ (Try.prog.underlying 117 = some (.array 24 22)) ∧ (szOf Try.prog 117 = some 24) ∧ (aggOf Try.prog 117 = some true) ∧ ((Try.prog.info? 117).bind (·.zero) = some (.agg #[.int .u64 0, .int .u64 0, .int .u64 0, .int .u64 0, .int .u64 0, .int .u64 0, .int .u64 0, .int .u64 0, .int .u64 0, .int .u64 0, .int .u64 0, .int .u64 0, .int .u64 0, .int .u64 0, .int .u64 0, .int .u64 0, .int .u64 0, .int .u64 0, .int .u64 0, .int .u64 0, .int .u64 0, .int .u64 0, .int .u64 0, .int .u64 0])) ∧ (Try.prog.eqGuardType Try.prog.depth 117 = false) ∧ (Try.prog.underlying 121 = some (.array 5 22)) ∧ (szOf Try.prog 121 = some 5) ∧ (aggOf Try.prog 121 = some true) ∧ ((Try.prog.info? 121).bind (·.zero) = some (.agg #[.int .u64 0, .int .u64 0, .int .u64 0, .int .u64 0, .int .u64 0])) ∧ (Try.prog.eqGuardType Try.prog.depth 121 = false) ∧ (Try.prog.underlying 135 = some (.int .u32)) ∧ (szOf Try.prog 135 = some 1) ∧ (aggOf Try.prog 135 = some false) ∧ ((Try.prog.info? 135).bind (·.zero) = some (.int .u32 0)) := ⟨Try.underlying2, s_2, g_2, z_2, Try.underlying3, s_3, g_3, z_3, Try.underlying4, s_4, g_4, z_4, Try.underlying5, s_5, g_5, z_5, Try.underlying9, s_9, g_9, z_9, Try.underlying12, s_12, g_12, z_12, s_13, g_13, z_13, q_13, Try.underlying21, s_21, g_21, z_21, Try.underlying22, s_22, g_22, z_22, Try.underlying23, s_23, g_23, z_23, q_23, Try.underlying24, s_24, g_24, z_24, q_24, s_25, g_25, z_25, q_25, s_26, g_26, z_26, q_26, Try.underlying27, s_27, g_27, z_27, s_39, g_39, z_39, q_39, s_40, g_40, z_40, q_40, Try.underlying59, s_59, g_59, l_59, r_59, Try.underlying60, s_60, g_60, l_60, r_60, Try.underlying64, s_64, g_64, l_64, r_64, s_72, g_72, z_72, q_72, s_73, g_73, z_73, q_73, Try.underlying84, s_84, g_84, l_84, r_84, Try.underlying86, s_86, g_86, z_86, q_86, Try.underlying87, s_87, g_87, z_87, q_87, Try.underlying90, s_90, g_90, z_90, Try.underlying111, s_111, g_111, z_111, q_111, Try.underlying113, s_113, g_113, l_113, r_113, Try.underlying114, s_114, g_114, z_114, q_114, Try.underlying117, s_117, g_117, z_117, q_117, Try.underlying121, s_121, g_121, z_121, q_121, Try.underlying135, s_135, g_135, z_135⟩
end Go.Vm

/- Equality of arrays of numbers. No condition. -/
set_option maxRecDepth 100000
set_option linter.unusedSimpArgs false
set_option linter.unusedVariables false
namespace Go.Vm
open Go Go.RowKit Go.Proofs

theorem run_eqItems_int {P : Program} {e : TypeId} {k : IntKind} (hp : P.plainKey e = true) (hu : P.underlying e = some (.int k)) (xs ys : List Int) (d : Nat) (w : World) : ∀ is : List Nat,
    (∀ j ∈ is, j < xs.length ∧ j < ys.length) →
    (Op.eqItems (d + 1) e 1 (xs.map (Value.int k)).toArray (ys.map (Value.int k)).toArray is).run P w = .ok (is.all fun j => xs.getD j 0 == ys.getD j 0) w
  | [], _ => by simp [Op.eqItems]
  | j :: is, h => by
    have hj := h j (by simp)
    have h1 := run_part_plain (P := P) w hp (xs := (xs.map (Value.int k)).toArray) (off := j * 1) (v := .int k (xs.getD j 0)) (by simp [hj.1])
    have h2 := run_part_plain (P := P) w hp (xs := (ys.map (Value.int k)).toArray) (off := j * 1) (v := .int k (ys.getD j 0)) (by simp [hj.2])
    have h3 := run_equalIn_int (P := P) w d e k k (xs.getD j 0) (ys.getD j 0) hu
    have ih := run_eqItems_int hp hu xs ys d w is (fun j hj => h j (by simp [hj]))
    simp only [Op.eqItems, Sem.run_bind, h1, h2, h3, Result.andThen_ok, List.all_cons]
    cases hb : (xs.getD j 0 == ys.getD j 0)
    · simp
    · simpa using ih

theorem all_range_eq (xs ys : List Int) (n : Nat) (hx : xs.length = n) (hy : ys.length = n) : ((List.range n).all fun j => xs.getD j 0 == ys.getD j 0) = (xs == ys) := by
  rw [Bool.eq_iff_iff]
  simp only [List.all_eq_true, List.mem_range, beq_iff_eq]
  constructor
  · intro h
    apply List.ext_getElem (by omega)
    intro i h1 h2
    have := h i (by omega)
    simpa [h1, h2] using this
  · rintro rfl j hj
    rfl

theorem eqV_ints {P : Program} {t e : TypeId} {n : Nat} {k : IntKind} (hu : P.underlying t = some (.array n e)) (hc : P.cellsOf e = 1) (hp : P.plainKey e = true) (hue : P.underlying e = some (.int k))
    (xs ys : List Int) (hx : xs.length = n) (hy : ys.length = n) : eqV P t (xs.map (Value.int k)).toArray (ys.map (Value.int k)).toArray = some (xs == ys) := by
  apply eqV_of
  intro w
  obtain ⟨i, hi⟩ := info_of_underlying hue
  have h1 := run_equalIn_array (P := P) w 9999 (xs.map (Value.int k)).toArray (ys.map (Value.int k)).toArray hu hi
  have e1 : Op.equal t (.agg (xs.map (Value.int k)).toArray) (.agg (ys.map (Value.int k)).toArray) = Op.equalIn (9999 + 1) t (.agg (xs.map (Value.int k)).toArray) (.agg (ys.map (Value.int k)).toArray) := rfl
  rw [e1, h1, hc, run_eqItems_int hp hue xs ys 9998 w (List.range n) (fun j hj => by simp at hj; omega), all_range_eq xs ys n hx hy]

/-! ### Numbers of 256 bits -/
noncomputable def eqU : Nat → Nat → Bool := Classical.choose (⟨fun a b => decide (a % full = b % full), rfl⟩ : ∃ f : Nat → Nat → Bool, f = fun a b => decide (a % full = b % full))
theorem eqU_eq : eqU = fun a b => decide (a % full = b % full) := Classical.choose_spec (⟨fun a b => decide (a % full = b % full), rfl⟩ : ∃ f : Nat → Nat → Bool, f = fun a b => decide (a % full = b % full))
theorem eqU_self (a : Nat) : eqU a a = true := by rw [eqU_eq]; simp
theorem eqU_of {a b : Nat} (h : a % full = b % full) : eqU a b = true := by rw [eqU_eq]; simp [h]
theorem eqU_lt {a b : Nat} (ha : a < full) (hb : b < full) : eqU a b = decide (a = b) := by rw [eqU_eq]; simp [Nat.mod_eq_of_lt ha, Nat.mod_eq_of_lt hb]

theorem words_inj (a b : Nat) : ([(w0 a : Int), (w1 a : Int), (w2 a : Int), (w3 a : Int)] == [(w0 b : Int), (w1 b : Int), (w2 b : Int), (w3 b : Int)]) = eqU a b := by
  rw [eqU_eq]
  rw [Bool.eq_iff_iff]
  simp only [beq_iff_eq, decide_eq_true_eq, List.cons.injEq, and_true]
  constructor
  · rintro ⟨h0, h1, h2, h3⟩
    rw [← words a, ← words b, Int.ofNat_inj.1 h0, Int.ofNat_inj.1 h1, Int.ofNat_inj.1 h2, Int.ofNat_inj.1 h3]
  · intro h
    have e0 : w0 a = w0 b := by rw [← w0_mod a, h, w0_mod]
    have e1 : w1 a = w1 b := by rw [← w1_mod a, h, w1_mod]
    have e2 : w2 a = w2 b := by rw [← w2_mod a, h, w2_mod]
    have e3 : w3 a = w3 b := by rw [← w3_mod a, h, w3_mod]
    rw [e0, e1, e2, e3]
    simp

theorem eqV_uV (a b : Nat) : eqV Try.prog 24 #[.int .u64 (w0 a : Nat), .int .u64 (w1 a : Nat), .int .u64 (w2 a : Nat), .int .u64 (w3 a : Nat)] #[.int .u64 (w0 b : Nat), .int .u64 (w1 b : Nat), .int .u64 (w2 b : Nat), .int .u64 (w3 b : Nat)] = some (eqU a b) := by
  have h := eqV_ints (P := Try.prog) (t := 24) (e := 22) (n := 4) (k := .u64) Try.underlying24 (by kernel_rfl) (by kernel_rfl) Try.underlying22
    [(w0 a : Int), (w1 a : Int), (w2 a : Int), (w3 a : Int)] [(w0 b : Int), (w1 b : Int), (w2 b : Int), (w3 b : Int)] rfl rfl
  rw [words_inj] at h
  exact h

theorem binK_eqU (a b : Nat) (K : Value → Prop) : binK Try.prog .eql 24 (uV a) (uV b) K = K (.bool (eqU a b)) := by
  apply propext
  show (Try.prog.eqGuardType Try.prog.depth 24 = false ∧ ∃ c, eqV Try.prog 24 _ _ = some c ∧ K (.bool c)) ↔ _
  rw [eqV_uV]
  constructor
  · rintro ⟨_, c, hc, hk⟩; cases hc; exact hk
  · intro h; exact ⟨q_24, _, rfl, h⟩
theorem binK_neU (a b : Nat) (K : Value → Prop) : binK Try.prog .neq 24 (uV a) (uV b) K = K (.bool (!eqU a b)) := by
  apply propext
  show (Try.prog.eqGuardType Try.prog.depth 24 = false ∧ ∃ c, eqV Try.prog 24 _ _ = some c ∧ K (.bool (!c))) ↔ _
  rw [eqV_uV]
  constructor
  · rintro ⟨_, c, hc, hk⟩; cases hc; exact hk
  · intro h; exact ⟨q_24, _, rfl, h⟩

theorem uV_lit (n : Nat) (h : n < 18446744073709551616) : Value.agg #[.int .u64 n, .int .u64 0, .int .u64 0, .int .u64 0] = uV n := by
  have := uV_of (x := n) (a := n) (b := 0) (c := 0) (d := 0) h (by omega) (by omega) (by omega) (by simp only [num, full_eq]; omega)
  exact this.symm
theorem uV_0 : Value.agg #[.int .u64 0, .int .u64 0, .int .u64 0, .int .u64 0] = uV 0 := uV_lit 0 (by omega)
theorem uV_3 : Value.agg #[.int .u64 3, .int .u64 0, .int .u64 0, .int .u64 0] = uV 3 := uV_lit 3 (by omega)
theorem binK_eqU0 (a : Nat) (K : Value → Prop) : binK Try.prog .eql 24 (uV a) (.agg #[.int .u64 0, .int .u64 0, .int .u64 0, .int .u64 0]) K = K (.bool (eqU a 0)) := by rw [uV_0, binK_eqU]
theorem binK_eqU3 (a : Nat) (K : Value → Prop) : binK Try.prog .eql 24 (uV a) (.agg #[.int .u64 3, .int .u64 0, .int .u64 0, .int .u64 0]) K = K (.bool (eqU a 3)) := by rw [uV_3, binK_eqU]
theorem uV_inj {a b : Nat} (h : a % full = b % full) : uV a = uV b := by rw [← uV_mod a, h, uV_mod]
theorem toN_lt {a : Nat} (h : a < full) : toN (uV a) = some a := by rw [toN_uV, Nat.mod_eq_of_lt h]

end Go.Vm

/- Contracts of the functions that add, subtract and compare numbers. No condition. -/
set_option maxRecDepth 100000
set_option linter.unusedSimpArgs false
set_option linter.unusedVariables false
namespace Go.Vm
open Go Go.RowKit Go.Proofs

/-! ### Plain laws -/
theorem cast_mod (x : Nat) : ((x : Int) % 18446744073709551616) = ((x % 18446744073709551616 : Nat) : Int) := by omega

theorem add_words (a b : Nat) (ha : a < full) (hb : b < full) :
    uV (a + b) = .agg #[.int .u64 (((w0 a : Int) + (w0 b : Int) + 0) % 18446744073709551616),
      .int .u64 (((w1 a : Int) + (w1 b : Int) + ((w0 a : Int) + (w0 b : Int) + 0) / 18446744073709551616) % 18446744073709551616),
      .int .u64 (((w2 a : Int) + (w2 b : Int) + ((w1 a : Int) + (w1 b : Int) + ((w0 a : Int) + (w0 b : Int) + 0) / 18446744073709551616) / 18446744073709551616) % 18446744073709551616),
      .int .u64 (((w3 a : Int) + (w3 b : Int) + ((w2 a : Int) + (w2 b : Int) + ((w1 a : Int) + (w1 b : Int) + ((w0 a : Int) + (w0 b : Int) + 0) / 18446744073709551616) / 18446744073709551616) / 18446744073709551616) % 18446744073709551616)] ∧
    decide (full ≤ a + b) = (((w3 a : Int) + (w3 b : Int) + ((w2 a : Int) + (w2 b : Int) + ((w1 a : Int) + (w1 b : Int) + ((w0 a : Int) + (w0 b : Int) + 0) / 18446744073709551616) / 18446744073709551616) / 18446744073709551616) / 18446744073709551616 == 1) := by
  have ea := words_lt ha
  have eb := words_lt hb
  have a0 := w0_lt a; have a1 := w1_lt a; have a2 := w2_lt a; have a3 := w3_lt a
  have b0 := w0_lt b; have b1 := w1_lt b; have b2 := w2_lt b; have b3 := w3_lt b
  generalize w0 a = x0 at *; generalize w1 a = x1 at *; generalize w2 a = x2 at *; generalize w3 a = x3 at *
  generalize w0 b = y0 at *; generalize w1 b = y1 at *; generalize w2 b = y2 at *; generalize w3 b = y3 at *
  obtain ⟨s0, c0, e0, l0, k0⟩ : ∃ s0 c0, x0 + y0 = s0 + 18446744073709551616 * c0 ∧ s0 < 18446744073709551616 ∧ c0 ≤ 1 := ⟨(x0 + y0) % 18446744073709551616, (x0 + y0) / 18446744073709551616, by omega, by omega, by omega⟩
  obtain ⟨s1, c1, e1, l1, k1⟩ : ∃ s1 c1, x1 + y1 + c0 = s1 + 18446744073709551616 * c1 ∧ s1 < 18446744073709551616 ∧ c1 ≤ 1 := ⟨(x1 + y1 + c0) % 18446744073709551616, (x1 + y1 + c0) / 18446744073709551616, by omega, by omega, by omega⟩
  obtain ⟨s2, c2, e2, l2, k2⟩ : ∃ s2 c2, x2 + y2 + c1 = s2 + 18446744073709551616 * c2 ∧ s2 < 18446744073709551616 ∧ c2 ≤ 1 := ⟨(x2 + y2 + c1) % 18446744073709551616, (x2 + y2 + c1) / 18446744073709551616, by omega, by omega, by omega⟩
  obtain ⟨s3, c3, e3, l3, k3⟩ : ∃ s3 c3, x3 + y3 + c2 = s3 + 18446744073709551616 * c3 ∧ s3 < 18446744073709551616 ∧ c3 ≤ 1 := ⟨(x3 + y3 + c2) % 18446744073709551616, (x3 + y3 + c2) / 18446744073709551616, by omega, by omega, by omega⟩
  have f0 : ((x0 : Int) + (y0 : Int) + 0) / 18446744073709551616 = c0 := by omega
  have m0 : ((x0 : Int) + (y0 : Int) + 0) % 18446744073709551616 = s0 := by omega
  have f1 : ((x1 : Int) + (y1 : Int) + (c0 : Int)) / 18446744073709551616 = c1 := by omega
  have m1 : ((x1 : Int) + (y1 : Int) + (c0 : Int)) % 18446744073709551616 = s1 := by omega
  have f2 : ((x2 : Int) + (y2 : Int) + (c1 : Int)) / 18446744073709551616 = c2 := by omega
  have m2 : ((x2 : Int) + (y2 : Int) + (c1 : Int)) % 18446744073709551616 = s2 := by omega
  have f3 : ((x3 : Int) + (y3 : Int) + (c2 : Int)) / 18446744073709551616 = c3 := by omega
  have m3 : ((x3 : Int) + (y3 : Int) + (c2 : Int)) % 18446744073709551616 = s3 := by omega
  have hsum : a + b = num s0 s1 s2 s3 + c3 * full := by
    simp only [num, full_eq] at *
    omega
  have hlt := num_lt l0 l1 l2 l3
  rw [f0, f1, f2, f3, m0, m1, m2, m3]
  constructor
  · exact uV_of l0 l1 l2 l3 (by rw [hsum, Nat.add_mul_mod_self_right, Nat.mod_eq_of_lt hlt])
  · have : c3 = 0 ∨ c3 = 1 := by omega
    rcases this with rfl | rfl
    · have : ¬ (full ≤ a + b) := by omega
      simp [this]
    · have : full ≤ a + b := by omega
      simp [this]

noncomputable def addG : List DV → Option RV
  | [.pl va, .pl vb] => match toN va, toN vb with
    | some a, some b => some (.tup [.pl (uV (a + b)), .pl (.bool (decide (full ≤ a + b)))])
    | _, _ => none
  | _ => none

theorem add64_here : ∀ ds r, add64G ds = some r → Spec Try.prog 95 ds r := add64_ok Try.func95 (by kernel_rfl) (by kernel_rfl) (by kernel_rfl) (by kernel_rfl)

set_option maxHeartbeats 4000000 in
theorem add_ok : ∀ ds r, addG ds = some r → Spec Try.prog 83 ds r := by
  intro ds r h
  unfold addG at h
  split at h
  case h_2 => cases h
  rename_i va vb
  split at h
  case h_2 => cases h
  rename_i a b ha hb
  cases h
  obtain ⟨rfl, ha'⟩ := toN_eq ha
  obtain ⟨rfl, hb'⟩ := toN_eq hb
  have hw := add_words a b ha' hb'
  have a0 := w0_lt a; have a1 := w1_lt a; have a2 := w2_lt a; have a3 := w3_lt a
  have b0 := w0_lt b; have b1 := w1_lt b; have b2 := w2_lt b; have b3 := w3_lt b
  have hΓ : Env.ok [(95, add64G)] Try.prog := ok_cons add64_here (ok_nil _)
  refine Spec.of_vx hΓ follows_mixed Try.func83 rfl (by kernel_rfl) (T := []) (by simp [Try.ntmps83]) (by kernel_rfl) rfl Try.ntmps83 (res := [.cell 4 24, .tmp 5]) rfl ?_
  intro W
  generalize hr : uV (a + b) = r1
  generalize hs : decide (full ≤ a + b) = s1
  rw [hr, hs] at hw
  simp -implicitDefEqProofs (maxSteps := 10000000) only [vy_succ, vmB, slim, slimOp, gO, gSO, qSO, quietOp, cS, qSB, eK, calmOp, guardS, gK, qK, putK, plK, dOk, St.ev, St.get, St.mem, St.set, St.setm, St.put, lookA, look, newK, nextver, initT, seqE, blockQ, bodyQ, resK, retV, AV.rdv, agg_uV, ↓binK, ↓intK, unK, ↓loadK, ↓withKey_eq, ↓idxAddrK, ↓indexK, ↓partK, ↓fieldK, ↓fieldAddrK, ↓convK, ↓callK, wrG, updK, ↓lenK, ↓mmK, ↓appK, ↓copyK, ↓sliceK, ↓toArrK, nilK, evs, plains, seqParts, capsOf, capsD, AV.dv, AV.cont, ↓buildV_eq, fillL, placesOf, ↓storeK, wrL, RV.av, DV.av, List.set, Nat.reduceEqDiff, Nat.reduceAdd, Nat.reduceSub, Nat.reduceMul, Nat.reduceLT, Nat.reduceLeDiff, Nat.reduceMod, Nat.reduceDiv, Int.reduceLT, Int.reduceLE, Int.reduceToNat, ↓reduceIte, reduceCtorEq, Value.oneCell', Int.reduceAdd, Int.reduceSub, Int.reduceMod, Int.reduceMul, Int.reduceNeg, Int.reduceBEq, Int.reduceBNe, Int.reduceTDiv, Int.reduceTMod, Int.reduceEq, tyB, Try.underlying13, Try.underlying25, Try.underlying26, Try.underlying39, Try.underlying40, Try.underlying72, Try.underlying73]
  refine VT_rounds hΓ follows_mixed 5 ?_
  simp -implicitDefEqProofs (maxSteps := 10000000) only [vy_succ, vmB, slim, slimOp, gO, gSO, qSO, quietOp, cS, qSB, eK, calmOp, guardS, gK, qK, putK, plK, dOk, St.ev, St.get, St.mem, St.set, St.setm, St.put, lookA, look, newK, nextver, initT, seqE, blockQ, bodyQ, resK, retV, AV.rdv, agg_uV, ↓binK, ↓intK, unK, ↓loadK, ↓withKey_eq, ↓idxAddrK, ↓indexK, ↓partK, ↓fieldK, ↓fieldAddrK, ↓convK, ↓callK, wrG, updK, ↓lenK, ↓mmK, ↓appK, ↓copyK, ↓sliceK, ↓toArrK, nilK, evs, plains, seqParts, capsOf, capsD, AV.dv, AV.cont, ↓buildV_eq, fillL, placesOf, ↓storeK, wrL, RV.av, DV.av, List.set, Nat.reduceEqDiff, Nat.reduceAdd, Nat.reduceSub, Nat.reduceMul, Nat.reduceLT, Nat.reduceLeDiff, Nat.reduceMod, Nat.reduceDiv, Int.reduceLT, Int.reduceLE, Int.reduceToNat, ↓reduceIte, reduceCtorEq, Value.oneCell', Int.reduceAdd, Int.reduceSub, Int.reduceMod, Int.reduceMul, Int.reduceNeg, Int.reduceBEq, Int.reduceBNe, Int.reduceTDiv, Int.reduceTMod, Int.reduceEq, tyB, Try.underlying13, Try.underlying25, Try.underlying26, Try.underlying39, Try.underlying40, Try.underlying72, Try.underlying73, add64G]
  refine ⟨by omega, by omega, by omega, by omega, ?_⟩
  rw [hw.1, hw.2]

end Go.Vm

/- Contracts: Small, double, Bit. No condition. -/
set_option maxRecDepth 100000
set_option linter.unusedSimpArgs false
set_option linter.unusedVariables false
namespace Go.Vm
open Go Go.RowKit Go.Proofs

noncomputable def smallG : List DV → Option RV
  | [.pl (.int .u64 n)] => if okW n = true then some (.one (.pl (uV n.toNat))) else none
  | _ => none

theorem uV_small (n : Nat) (h : n < 18446744073709551616) : uV n = .agg #[.int .u64 n, .int .u64 0, .int .u64 0, .int .u64 0] := by
  have := uV_of (x := n) (a := n) (b := 0) (c := 0) (d := 0) h (by omega) (by omega) (by omega) (by simp only [num, full_eq]; omega)
  exact this

theorem okW_out {x : Int} (h : okW x = true) : ∃ n : Nat, x = n ∧ n < 18446744073709551616 := by
  simp only [okW_eq, decide_eq_true_eq] at h
  exact ⟨x.toNat, by omega, by omega⟩


noncomputable def dblG : List DV → Option RV
  | [.pl va, .pl (.bool m)] => match toN va with
    | some a => some (.tup [.pl (uV (a + a + m.toNat)), .pl (.bool (decide (full ≤ a + a)))])
    | _ => none
  | _ => none

theorem dbl_words (a : Nat) : uV (a + a + 1) = .agg #[.int .u64 (bits .or .u64 (w0 (a + a) : Nat) 1), .int .u64 (w1 (a + a) : Nat), .int .u64 (w2 (a + a) : Nat), .int .u64 (w3 (a + a) : Nat)] := by
  have h := bits_or_u64_nat (w0 (a + a)) 1 (w0_lt _) (by omega)
  have e : w0 (a + a) % 2 = 0 := by simp only [w0_eq]; omega
  have h2 : w0 (a + a) ||| 1 = w0 (a + a) + 1 := by
    have := Nat.two_pow_add_eq_or_of_lt (i := 1) (b := 1) (by omega) (w0 (a + a) / 2)
    have e2 : 2 ^ 1 * (w0 (a + a) / 2) = w0 (a + a) := by omega
    rw [e2] at this
    exact this.symm
  rw [h2] at h
  have h' : bits .or .u64 (w0 (a + a) : Nat) 1 = ((w0 (a + a) + 1 : Nat) : Int) := h
  rw [h']
  have l0 : w0 (a + a) + 1 < 18446744073709551616 := by have := w0_lt (a + a); omega
  refine uV_of l0 (w1_lt _) (w2_lt _) (w3_lt _) ?_
  have := words (a + a)
  have ev : full % 2 = 0 := by rw [full_eq]
  have hm : (a + a + 1) % full = (a + a) % full + 1 := by
    simp only [full_eq]
    omega
  rw [hm, ← this]
  unfold num
  omega


noncomputable def bitG : List DV → Option RV
  | [.pl va, .pl (.int .i64 i)] => match toN va with
    | some a => some (.one (.pl (.bool (decide (0 ≤ i ∧ i < 256) && a.testBit i.toNat))))
    | _ => none
  | _ => none

theorem and_one (x : Nat) (h : x < 18446744073709551616) : (bits .and .u64 (x : Int) 1 == 1) = x.testBit 0 := by
  have := bits_and_u64_nat x 1 h (by omega)
  have h2 : bits .and .u64 (x : Int) 1 = ((x &&& 1 : Nat) : Int) := this
  rw [h2, Nat.and_one_is_mod, Nat.testBit_zero]
  rcases Nat.mod_two_eq_zero_or_one x with h | h <;> rw [h] <;> rfl

theorem bit_word (x r : Nat) (hx : x < 18446744073709551616) (hr : r < 64) : (bits .and .u64 ((x : Int).fdiv (2 ^ (min ((r : Int).toNat) IntKind.u64.bits))) 1 == 1) = x.testBit r := by
  have e : min ((r : Int).toNat) IntKind.u64.bits = r := by
    have : IntKind.u64.bits = 64 := rfl
    omega
  rw [e]
  have e2 : (x : Int).fdiv (2 ^ r) = ((x / 2 ^ r : Nat) : Int) := by
    rw [Int.fdiv_eq_ediv_of_nonneg _ (by exact Int.le_of_lt (Int.pow_pos (by omega)))]
    simp
  rw [e2, and_one _ (by have := Nat.div_le_self x (2 ^ r); omega), Nat.testBit_div_two_pow]
  simp

theorem testBit_word (a k r : Nat) (hr : r < 64) : (a / 2 ^ k % 2 ^ 64).testBit r = a.testBit (k + r) := by
  rw [Nat.testBit_mod_two_pow, Nat.testBit_div_two_pow]
  simp [hr, Nat.add_comm]

theorem bit_w0 (a r : Nat) (hr : r < 64) : (bits .and .u64 ((w0 a : Int).fdiv (2 ^ (min ((r : Int).toNat) IntKind.u64.bits))) 1 == 1) = a.testBit (64 * 0 + r) := by
  rw [bit_word _ _ (w0_lt a) hr, w0_eq]
  have := testBit_word a 0 r hr
  simpa using this
theorem bit_w1 (a r : Nat) (hr : r < 64) : (bits .and .u64 ((w1 a : Int).fdiv (2 ^ (min ((r : Int).toNat) IntKind.u64.bits))) 1 == 1) = a.testBit (64 * 1 + r) := by
  rw [bit_word _ _ (w1_lt a) hr, w1_eq]
  have := testBit_word a 64 r hr
  simpa using this
theorem bit_w2 (a r : Nat) (hr : r < 64) : (bits .and .u64 ((w2 a : Int).fdiv (2 ^ (min ((r : Int).toNat) IntKind.u64.bits))) 1 == 1) = a.testBit (64 * 2 + r) := by
  rw [bit_word _ _ (w2_lt a) hr, w2_eq]
  have := testBit_word a 128 r hr
  simpa using this
theorem bit_w3 (a r : Nat) (hr : r < 64) : (bits .and .u64 ((w3 a : Int).fdiv (2 ^ (min ((r : Int).toNat) IntKind.u64.bits))) 1 == 1) = a.testBit (64 * 3 + r) := by
  rw [bit_word _ _ (w3_lt a) hr, w3_eq]
  have := testBit_word a 192 r hr
  simpa using this

theorem bit_ok : ∀ ds r, bitG ds = some r → Spec Try.prog 59 ds r := by
  intro ds r h
  unfold bitG at h
  split at h
  case h_2 => cases h
  rename_i va i
  split at h
  case h_2 => cases h
  rename_i a ha
  cases h
  obtain ⟨rfl, ha'⟩ := toN_eq ha
  have hΓ : Env.ok [] Try.prog := ok_nil _
  have hc : i < 0 ∨ 256 ≤ i ∨ ∃ q r : Nat, q < 4 ∧ r < 64 ∧ i = 64 * q + r := by
    by_cases h : 0 ≤ i ∧ i < 256
    · right; right
      exact ⟨i.toNat / 64, i.toNat % 64, by omega, by omega, by omega⟩
    · omega
  rcases hc with h1 | h2 | ⟨q, r, hq, hr, hi⟩
  · have e1 : decide (0 ≤ i) = false := decide_eq_false (by omega)
    have e2 : decide (0 ≤ i ∧ i < 256) = false := decide_eq_false (by omega)
    rw [e2]
    refine Spec.of_vx hΓ follows_mixed Try.func59 rfl (by kernel_rfl) (T := []) (by simp [Try.ntmps59]) (by kernel_rfl) rfl Try.ntmps59 (res := [.tmp 4]) rfl ?_
    intro W
    simp -implicitDefEqProofs (maxSteps := 10000000) only [vy_succ, vmB, slim, slimOp, gO, gSO, qSO, quietOp, cS, qSB, eK, calmOp, guardS, gK, qK, putK, plK, dOk, St.ev, St.get, St.mem, St.set, St.setm, St.put, lookA, look, newK, nextver, initT, seqE, blockQ, bodyQ, resK, retV, AV.rdv, agg_uV, ↓binK, ↓intK, unK, ↓loadK, ↓withKey_eq, ↓idxAddrK, ↓indexK, ↓partK, ↓fieldK, ↓fieldAddrK, ↓convK, ↓callK, wrG, updK, ↓lenK, ↓mmK, ↓appK, ↓copyK, ↓sliceK, ↓toArrK, nilK, evs, plains, seqParts, capsOf, capsD, AV.dv, AV.cont, ↓buildV_eq, fillL, placesOf, ↓storeK, wrL, RV.av, DV.av, List.set, Nat.reduceEqDiff, Nat.reduceAdd, Nat.reduceSub, Nat.reduceMul, Nat.reduceLT, Nat.reduceLeDiff, Nat.reduceMod, Nat.reduceDiv, Int.reduceLT, Int.reduceLE, Int.reduceToNat, ↓reduceIte, reduceCtorEq, Value.oneCell', Int.reduceAdd, Int.reduceSub, Int.reduceMod, Int.reduceMul, Int.reduceNeg, Int.reduceBEq, Int.reduceBNe, Int.reduceTDiv, Int.reduceTMod, Int.reduceEq, tyB, Try.underlying13, Try.underlying25, Try.underlying26, Try.underlying39, Try.underlying40, Try.underlying72, Try.underlying73, e1, Bool.false_and]
  · have e1 : decide (0 ≤ i) = true := decide_eq_true (by omega)
    have e3 : decide (i < 256) = false := decide_eq_false (by omega)
    have e2 : decide (0 ≤ i ∧ i < 256) = false := decide_eq_false (by omega)
    rw [e2]
    refine Spec.of_vx hΓ follows_mixed Try.func59 rfl (by kernel_rfl) (T := []) (by simp [Try.ntmps59]) (by kernel_rfl) rfl Try.ntmps59 (res := [.tmp 4]) rfl ?_
    intro W
    simp -implicitDefEqProofs (maxSteps := 10000000) only [vy_succ, vmB, slim, slimOp, gO, gSO, qSO, quietOp, cS, qSB, eK, calmOp, guardS, gK, qK, putK, plK, dOk, St.ev, St.get, St.mem, St.set, St.setm, St.put, lookA, look, newK, nextver, initT, seqE, blockQ, bodyQ, resK, retV, AV.rdv, agg_uV, ↓binK, ↓intK, unK, ↓loadK, ↓withKey_eq, ↓idxAddrK, ↓indexK, ↓partK, ↓fieldK, ↓fieldAddrK, ↓convK, ↓callK, wrG, updK, ↓lenK, ↓mmK, ↓appK, ↓copyK, ↓sliceK, ↓toArrK, nilK, evs, plains, seqParts, capsOf, capsD, AV.dv, AV.cont, ↓buildV_eq, fillL, placesOf, ↓storeK, wrL, RV.av, DV.av, List.set, Nat.reduceEqDiff, Nat.reduceAdd, Nat.reduceSub, Nat.reduceMul, Nat.reduceLT, Nat.reduceLeDiff, Nat.reduceMod, Nat.reduceDiv, Int.reduceLT, Int.reduceLE, Int.reduceToNat, ↓reduceIte, reduceCtorEq, Value.oneCell', Int.reduceAdd, Int.reduceSub, Int.reduceMod, Int.reduceMul, Int.reduceNeg, Int.reduceBEq, Int.reduceBNe, Int.reduceTDiv, Int.reduceTMod, Int.reduceEq, tyB, Try.underlying13, Try.underlying25, Try.underlying26, Try.underlying39, Try.underlying40, Try.underlying72, Try.underlying73, e1, e3, Bool.false_and]
  · have e1 : decide (0 ≤ i) = true := decide_eq_true (by omega)
    have e3 : decide (i < 256) = true := decide_eq_true (by omega)
    have e2 : decide (0 ≤ i ∧ i < 256) = true := decide_eq_true (by omega)
    have e5 : i.tmod 64 = r := by rw [Int.tmod_eq_emod_of_nonneg (by omega)]; omega
    have e6 : i.toNat = 64 * q + r := by omega
    have e7 : (0 : Int) ≤ r := by omega
    rw [e2, e6, Bool.true_and]
    have hq4 : q = 0 ∨ q = 1 ∨ q = 2 ∨ q = 3 := by omega
    refine Spec.of_vx hΓ follows_mixed Try.func59 rfl (by kernel_rfl) (T := []) (by simp [Try.ntmps59]) (by kernel_rfl) rfl Try.ntmps59 (res := [.tmp 4]) rfl ?_
    intro W
    rcases hq4 with rfl | rfl | rfl | rfl
    · have e4 : i.tdiv 64 = 0 := by rw [Int.tdiv_eq_ediv_of_nonneg (by omega)]; omega
      simp -implicitDefEqProofs (maxSteps := 10000000) only [vy_succ, vmB, slim, slimOp, gO, gSO, qSO, quietOp, cS, qSB, eK, calmOp, guardS, gK, qK, putK, plK, dOk, St.ev, St.get, St.mem, St.set, St.setm, St.put, lookA, look, newK, nextver, initT, seqE, blockQ, bodyQ, resK, retV, AV.rdv, agg_uV, ↓binK, ↓intK, unK, ↓loadK, ↓withKey_eq, ↓idxAddrK, ↓indexK, ↓partK, ↓fieldK, ↓fieldAddrK, ↓convK, ↓callK, wrG, updK, ↓lenK, ↓mmK, ↓appK, ↓copyK, ↓sliceK, ↓toArrK, nilK, evs, plains, seqParts, capsOf, capsD, AV.dv, AV.cont, ↓buildV_eq, fillL, placesOf, ↓storeK, wrL, RV.av, DV.av, List.set, Nat.reduceEqDiff, Nat.reduceAdd, Nat.reduceSub, Nat.reduceMul, Nat.reduceLT, Nat.reduceLeDiff, Nat.reduceMod, Nat.reduceDiv, Int.reduceLT, Int.reduceLE, Int.reduceToNat, ↓reduceIte, reduceCtorEq, Value.oneCell', Int.reduceAdd, Int.reduceSub, Int.reduceMod, Int.reduceMul, Int.reduceNeg, Int.reduceBEq, Int.reduceBNe, Int.reduceTDiv, Int.reduceTMod, Int.reduceEq, tyB, Try.underlying13, Try.underlying25, Try.underlying26, Try.underlying39, Try.underlying40, Try.underlying72, Try.underlying73, e1, e3, e4, e5, e7, bit_w0 a r hr]
    · have e4 : i.tdiv 64 = 1 := by rw [Int.tdiv_eq_ediv_of_nonneg (by omega)]; omega
      simp -implicitDefEqProofs (maxSteps := 10000000) only [vy_succ, vmB, slim, slimOp, gO, gSO, qSO, quietOp, cS, qSB, eK, calmOp, guardS, gK, qK, putK, plK, dOk, St.ev, St.get, St.mem, St.set, St.setm, St.put, lookA, look, newK, nextver, initT, seqE, blockQ, bodyQ, resK, retV, AV.rdv, agg_uV, ↓binK, ↓intK, unK, ↓loadK, ↓withKey_eq, ↓idxAddrK, ↓indexK, ↓partK, ↓fieldK, ↓fieldAddrK, ↓convK, ↓callK, wrG, updK, ↓lenK, ↓mmK, ↓appK, ↓copyK, ↓sliceK, ↓toArrK, nilK, evs, plains, seqParts, capsOf, capsD, AV.dv, AV.cont, ↓buildV_eq, fillL, placesOf, ↓storeK, wrL, RV.av, DV.av, List.set, Nat.reduceEqDiff, Nat.reduceAdd, Nat.reduceSub, Nat.reduceMul, Nat.reduceLT, Nat.reduceLeDiff, Nat.reduceMod, Nat.reduceDiv, Int.reduceLT, Int.reduceLE, Int.reduceToNat, ↓reduceIte, reduceCtorEq, Value.oneCell', Int.reduceAdd, Int.reduceSub, Int.reduceMod, Int.reduceMul, Int.reduceNeg, Int.reduceBEq, Int.reduceBNe, Int.reduceTDiv, Int.reduceTMod, Int.reduceEq, tyB, Try.underlying13, Try.underlying25, Try.underlying26, Try.underlying39, Try.underlying40, Try.underlying72, Try.underlying73, e1, e3, e4, e5, e7, bit_w1 a r hr]
    · have e4 : i.tdiv 64 = 2 := by rw [Int.tdiv_eq_ediv_of_nonneg (by omega)]; omega
      simp -implicitDefEqProofs (maxSteps := 10000000) only [vy_succ, vmB, slim, slimOp, gO, gSO, qSO, quietOp, cS, qSB, eK, calmOp, guardS, gK, qK, putK, plK, dOk, St.ev, St.get, St.mem, St.set, St.setm, St.put, lookA, look, newK, nextver, initT, seqE, blockQ, bodyQ, resK, retV, AV.rdv, agg_uV, ↓binK, ↓intK, unK, ↓loadK, ↓withKey_eq, ↓idxAddrK, ↓indexK, ↓partK, ↓fieldK, ↓fieldAddrK, ↓convK, ↓callK, wrG, updK, ↓lenK, ↓mmK, ↓appK, ↓copyK, ↓sliceK, ↓toArrK, nilK, evs, plains, seqParts, capsOf, capsD, AV.dv, AV.cont, ↓buildV_eq, fillL, placesOf, ↓storeK, wrL, RV.av, DV.av, List.set, Nat.reduceEqDiff, Nat.reduceAdd, Nat.reduceSub, Nat.reduceMul, Nat.reduceLT, Nat.reduceLeDiff, Nat.reduceMod, Nat.reduceDiv, Int.reduceLT, Int.reduceLE, Int.reduceToNat, ↓reduceIte, reduceCtorEq, Value.oneCell', Int.reduceAdd, Int.reduceSub, Int.reduceMod, Int.reduceMul, Int.reduceNeg, Int.reduceBEq, Int.reduceBNe, Int.reduceTDiv, Int.reduceTMod, Int.reduceEq, tyB, Try.underlying13, Try.underlying25, Try.underlying26, Try.underlying39, Try.underlying40, Try.underlying72, Try.underlying73, e1, e3, e4, e5, e7, bit_w2 a r hr]
    · have e4 : i.tdiv 64 = 3 := by rw [Int.tdiv_eq_ediv_of_nonneg (by omega)]; omega
      simp -implicitDefEqProofs (maxSteps := 10000000) only [vy_succ, vmB, slim, slimOp, gO, gSO, qSO, quietOp, cS, qSB, eK, calmOp, guardS, gK, qK, putK, plK, dOk, St.ev, St.get, St.mem, St.set, St.setm, St.put, lookA, look, newK, nextver, initT, seqE, blockQ, bodyQ, resK, retV, AV.rdv, agg_uV, ↓binK, ↓intK, unK, ↓loadK, ↓withKey_eq, ↓idxAddrK, ↓indexK, ↓partK, ↓fieldK, ↓fieldAddrK, ↓convK, ↓callK, wrG, updK, ↓lenK, ↓mmK, ↓appK, ↓copyK, ↓sliceK, ↓toArrK, nilK, evs, plains, seqParts, capsOf, capsD, AV.dv, AV.cont, ↓buildV_eq, fillL, placesOf, ↓storeK, wrL, RV.av, DV.av, List.set, Nat.reduceEqDiff, Nat.reduceAdd, Nat.reduceSub, Nat.reduceMul, Nat.reduceLT, Nat.reduceLeDiff, Nat.reduceMod, Nat.reduceDiv, Int.reduceLT, Int.reduceLE, Int.reduceToNat, ↓reduceIte, reduceCtorEq, Value.oneCell', Int.reduceAdd, Int.reduceSub, Int.reduceMod, Int.reduceMul, Int.reduceNeg, Int.reduceBEq, Int.reduceBNe, Int.reduceTDiv, Int.reduceTMod, Int.reduceEq, tyB, Try.underlying13, Try.underlying25, Try.underlying26, Try.underlying39, Try.underlying40, Try.underlying72, Try.underlying73, e1, e3, e4, e5, e7, bit_w3 a r hr]

end Go.Vm

/- Contracts: Mul64, Len64. No condition. -/
set_option maxRecDepth 100000
set_option linter.unusedSimpArgs false
set_option linter.unusedVariables false
namespace Go.Vm
open Go Go.RowKit Go.Proofs

noncomputable def mul64G : List DV → Option RV
  | [.pl (.int .u64 x), .pl (.int .u64 y)] => if (okW x && okW y) = true then some (.tup [.pl (.int .u64 ((x.toNat * y.toNat / 18446744073709551616 : Nat) : Int)), .pl (.int .u64 ((x.toNat * y.toNat % 18446744073709551616 : Nat) : Int))]) else none
  | _ => none

theorem maskN (a : Nat) (ha : a < 18446744073709551616) : bits .and .u64 (a : Int) 4294967295 = ((a % 4294967296 : Nat) : Int) := by
  have h := bits_and_u64_nat a 4294967295 ha (by omega)
  have e : a &&& 4294967295 = a % 4294967296 := Nat.and_two_pow_sub_one_eq_mod a 32
  rw [e] at h
  exact h
theorem shrN (a : Nat) : (a : Int).fdiv (2 ^ (min 32 IntKind.u64.bits)) = ((a / 4294967296 : Nat) : Int) := by
  have e : min 32 IntKind.u64.bits = 32 := rfl
  rw [e, Int.fdiv_eq_ediv_of_nonneg _ (by exact Int.le_of_lt (Int.pow_pos (by omega)))]
  rfl
theorem shr16 (a : Nat) : (a : Int).fdiv (2 ^ (min 16 IntKind.u64.bits)) = ((a / 65536 : Nat) : Int) := by
  have e : min 16 IntKind.u64.bits = 16 := rfl
  rw [e, Int.fdiv_eq_ediv_of_nonneg _ (by exact Int.le_of_lt (Int.pow_pos (by omega)))]
  rfl
theorem shr8 (a : Nat) : (a : Int).fdiv (2 ^ (min 8 IntKind.u64.bits)) = ((a / 256 : Nat) : Int) := by
  have e : min 8 IntKind.u64.bits = 8 := rfl
  rw [e, Int.fdiv_eq_ediv_of_nonneg _ (by exact Int.le_of_lt (Int.pow_pos (by omega)))]
  rfl
theorem mod256 (a : Nat) : (a : Int) % 256 = ((a % 256 : Nat) : Int) := by omega
theorem mulN (a b : Nat) : (a : Int) * (b : Int) = ((a * b : Nat) : Int) := (Int.natCast_mul a b).symm
theorem addN (a b : Nat) : (a : Int) + (b : Int) = ((a + b : Nat) : Int) := (Int.natCast_add a b).symm
theorem modN (a : Nat) : (a : Int) % 18446744073709551616 = ((a % 18446744073709551616 : Nat) : Int) := by omega

set_option maxHeartbeats 4000000 in
theorem mul64_here : ∀ ds r, mul64G ds = some r → Spec Try.prog 94 ds r := by
  intro ds r h
  unfold mul64G at h
  split at h
  case h_2 => cases h
  rename_i x y
  split at h
  case isFalse => cases h
  rename_i hc
  cases h
  simp only [Bool.and_eq_true] at hc
  obtain ⟨x, rfl, hx⟩ := okW_out hc.1
  obtain ⟨y, rfl, hy⟩ := okW_out hc.2
  simp only [Int.toNat_natCast]
  have hΓ : Env.ok [] Try.prog := ok_nil _
  refine Spec.of_vx hΓ follows_mixed Try.func94 rfl (by kernel_rfl) (T := []) (by simp [Try.ntmps94]) (by kernel_rfl) rfl Try.ntmps94 (res := [.tmp 4, .tmp 5]) rfl ?_
  intro W
  simp -implicitDefEqProofs (maxSteps := 10000000) only [vy_succ, vmB, slim, slimOp, gO, gSO, qSO, quietOp, cS, qSB, eK, calmOp, guardS, gK, qK, putK, plK, dOk, St.ev, St.get, St.mem, St.set, St.setm, St.put, lookA, look, newK, nextver, initT, seqE, blockQ, bodyQ, resK, retV, AV.rdv, agg_uV, ↓binK, ↓intK, unK, ↓loadK, ↓withKey_eq, ↓idxAddrK, ↓indexK, ↓partK, ↓fieldK, ↓fieldAddrK, ↓convK, ↓callK, wrG, updK, ↓lenK, ↓mmK, ↓appK, ↓copyK, ↓sliceK, ↓toArrK, nilK, evs, plains, seqParts, capsOf, capsD, AV.dv, AV.cont, ↓buildV_eq, fillL, placesOf, ↓storeK, wrL, RV.av, DV.av, List.set, Nat.reduceEqDiff, Nat.reduceAdd, Nat.reduceSub, Nat.reduceMul, Nat.reduceLT, Nat.reduceLeDiff, Nat.reduceMod, Nat.reduceDiv, Int.reduceLT, Int.reduceLE, Int.reduceToNat, ↓reduceIte, reduceCtorEq, Value.oneCell', Int.reduceAdd, Int.reduceSub, Int.reduceMod, Int.reduceMul, Int.reduceNeg, Int.reduceBEq, Int.reduceBNe, Int.reduceTDiv, Int.reduceTMod, Int.reduceEq, tyB, Try.underlying13, Try.underlying25, Try.underlying26, Try.underlying39, Try.underlying40, Try.underlying72, Try.underlying73]
  obtain ⟨bd, bt, bw, hhi⟩ := Lib.mul64_hi x y hx hy
  have ba := Lib.half_mul_le (a := x / 4294967296) (b := y / 4294967296) (by omega) (by omega)
  have bb := Lib.half_mul_le (a := x / 4294967296) (b := y % 4294967296) (by omega) (by omega)
  have bc := Lib.half_mul_le (a := x % 4294967296) (b := y / 4294967296) (by omega) (by omega)
  have ba' : x / 4294967296 * (y / 4294967296) < 18446744073709551616 := by omega
  have bb' : x / 4294967296 * (y % 4294967296) < 18446744073709551616 := by omega
  have bc' : x % 4294967296 * (y / 4294967296) < 18446744073709551616 := by omega
  have bh1 : x / 4294967296 * (y / 4294967296) + (x / 4294967296 * (y % 4294967296) + x % 4294967296 * (y % 4294967296) / 4294967296) / 4294967296 < 18446744073709551616 := by omega
  have bh : x / 4294967296 * (y / 4294967296) + (x / 4294967296 * (y % 4294967296) + x % 4294967296 * (y % 4294967296) / 4294967296) / 4294967296 + ((x / 4294967296 * (y % 4294967296) + x % 4294967296 * (y % 4294967296) / 4294967296) % 4294967296 + x % 4294967296 * (y / 4294967296)) / 4294967296 < 18446744073709551616 := by omega
  simp only [maskN x hx, maskN y hy, shrN, mulN, addN, modN, Nat.mod_eq_of_lt bd, Nat.mod_eq_of_lt bb', Nat.mod_eq_of_lt bt, maskN _ bt, Nat.mod_eq_of_lt bc', Nat.mod_eq_of_lt bw, Nat.mod_eq_of_lt ba', Nat.mod_eq_of_lt bh1, Nat.mod_eq_of_lt bh]
  rw [hhi]

noncomputable def blen (x : Nat) : Nat := if x = 0 then 0 else x.log2 + 1

theorem blen_half (x : Nat) (h : 2 ≤ x) : blen x = 1 + blen (x / 2) := by
  unfold blen
  rw [if_neg (by omega), if_neg (by omega), Nat.log2_def, if_pos h]
  omega
theorem blen_shift : ∀ (n x : Nat), 2 ^ n ≤ x → blen x = n + blen (x / 2 ^ n)
  | 0, x, _ => by simp
  | n + 1, x, h => by
    have h1 : 2 ^ n ≤ x / 2 := by rw [Nat.pow_succ] at h; omega
    have h0 : 0 < 2 ^ n := Nat.pow_pos (by omega)
    rw [blen_half x (by rw [Nat.pow_succ] at h; omega), blen_shift n (x / 2) h1, Nat.div_div_eq_div_mul, Nat.pow_succ, Nat.mul_comm 2 (2 ^ n)]
    omega
theorem blen_lt (x n : Nat) (h : x < 2 ^ n) : blen x ≤ n := by
  unfold blen
  split
  · omega
  · have := (Nat.log2_lt (by omega)).2 h
    omega

def lenTab : ByteArray := { data := (([0, 1, 2, 2, 3, 3, 3, 3, 4, 4, 4, 4, 4, 4, 4, 4, 5, 5, 5, 5, 5, 5, 5, 5, 5, 5, 5, 5, 5, 5, 5, 5, 6, 6, 6, 6, 6, 6, 6, 6, 6, 6, 6, 6, 6, 6, 6, 6, 6, 6, 6, 6, 6, 6, 6, 6, 6, 6, 6, 6, 6, 6, 6, 6].append [7, 7, 7, 7, 7, 7, 7, 7, 7, 7, 7, 7, 7, 7, 7, 7, 7, 7, 7, 7, 7, 7, 7, 7, 7, 7, 7, 7, 7, 7, 7, 7, 7, 7, 7, 7, 7, 7, 7, 7, 7, 7, 7, 7, 7, 7, 7, 7, 7, 7, 7, 7, 7, 7, 7, 7, 7, 7, 7, 7, 7, 7, 7, 7]).append ([8, 8, 8, 8, 8, 8, 8, 8, 8, 8, 8, 8, 8, 8, 8, 8, 8, 8, 8, 8, 8, 8, 8, 8, 8, 8, 8, 8, 8, 8, 8, 8, 8, 8, 8, 8, 8, 8, 8, 8, 8, 8, 8, 8, 8, 8, 8, 8, 8, 8, 8, 8, 8, 8, 8, 8, 8, 8, 8, 8, 8, 8, 8, 8].append [8, 8, 8, 8, 8, 8, 8, 8, 8, 8, 8, 8, 8, 8, 8, 8, 8, 8, 8, 8, 8, 8, 8, 8, 8, 8, 8, 8, 8, 8, 8, 8, 8, 8, 8, 8, 8, 8, 8, 8, 8, 8, 8, 8, 8, 8, 8, 8, 8, 8, 8, 8, 8, 8, 8, 8, 8, 8, 8, 8, 8, 8, 8, 8])).toArray }
theorem lenTab_eq : ({ data := (([0, 1, 2, 2, 3, 3, 3, 3, 4, 4, 4, 4, 4, 4, 4, 4, 5, 5, 5, 5, 5, 5, 5, 5, 5, 5, 5, 5, 5, 5, 5, 5, 6, 6, 6, 6, 6, 6, 6, 6, 6, 6, 6, 6, 6, 6, 6, 6, 6, 6, 6, 6, 6, 6, 6, 6, 6, 6, 6, 6, 6, 6, 6, 6].append [7, 7, 7, 7, 7, 7, 7, 7, 7, 7, 7, 7, 7, 7, 7, 7, 7, 7, 7, 7, 7, 7, 7, 7, 7, 7, 7, 7, 7, 7, 7, 7, 7, 7, 7, 7, 7, 7, 7, 7, 7, 7, 7, 7, 7, 7, 7, 7, 7, 7, 7, 7, 7, 7, 7, 7, 7, 7, 7, 7, 7, 7, 7, 7]).append ([8, 8, 8, 8, 8, 8, 8, 8, 8, 8, 8, 8, 8, 8, 8, 8, 8, 8, 8, 8, 8, 8, 8, 8, 8, 8, 8, 8, 8, 8, 8, 8, 8, 8, 8, 8, 8, 8, 8, 8, 8, 8, 8, 8, 8, 8, 8, 8, 8, 8, 8, 8, 8, 8, 8, 8, 8, 8, 8, 8, 8, 8, 8, 8].append [8, 8, 8, 8, 8, 8, 8, 8, 8, 8, 8, 8, 8, 8, 8, 8, 8, 8, 8, 8, 8, 8, 8, 8, 8, 8, 8, 8, 8, 8, 8, 8, 8, 8, 8, 8, 8, 8, 8, 8, 8, 8, 8, 8, 8, 8, 8, 8, 8, 8, 8, 8, 8, 8, 8, 8, 8, 8, 8, 8, 8, 8, 8, 8])).toArray } : ByteArray) = lenTab := rfl
theorem lenTab_size : lenTab.size = 256 := by decide +kernel
theorem lenTab_all : ∀ n : Fin 256, (lenTab[n.val]?.getD 0).toNat = if n.val = 0 then 0 else n.val.log2 + 1 := by decide +kernel
theorem lenTab_at (n : Nat) (h : n < 256) : (lenTab[n]?.getD 0).toNat = blen n := lenTab_all ⟨n, h⟩

theorem len_end (x n k : Nat) (hk : x / 2 ^ n = k) (h : k < 256) (hn : n ≤ 56) (hx : 2 ^ n ≤ x) : IntKind.i64.wrap ((n : Int) + IntKind.i64.wrap ((lenTab[k % 256]?.getD 0).toNat : Int)) = (blen x : Int) := by
  rw [Nat.mod_eq_of_lt h, lenTab_at k h, blen_shift n x hx, hk]
  have := blen_lt k 8 (by omega)
  rw [IntKind.wrap_i64, IntKind.wrap_i64]
  omega

noncomputable def len64G : List DV → Option RV
  | [.pl (.int .u64 x)] => if okW x = true then some (.one (.pl (.int .i64 (blen x.toNat)))) else none
  | _ => none

set_option maxHeartbeats 4000000 in
theorem len64_here : ∀ ds r, len64G ds = some r → Spec Try.prog 86 ds r := by
  intro ds r h
  unfold len64G at h
  split at h
  case h_2 => cases h
  rename_i x
  split at h
  case isFalse => cases h
  rename_i hc
  cases h
  obtain ⟨x, rfl, hx⟩ := okW_out hc
  rw [Int.toNat_natCast]
  have hΓ : Env.ok [] Try.prog := ok_nil _
  refine Spec.of_vx hΓ follows_mixed Try.func86 rfl (by kernel_rfl) (T := []) (by simp [Try.ntmps86]) (by kernel_rfl) rfl Try.ntmps86 (res := [.tmp 2]) rfl ?_
  intro W
  simp -implicitDefEqProofs (maxSteps := 10000000) only [vy_succ, vmB, slim, slimOp, gO, gSO, qSO, quietOp, cS, qSB, eK, calmOp, guardS, gK, qK, putK, plK, dOk, St.ev, St.get, St.mem, St.set, St.setm, St.put, lookA, look, newK, nextver, initT, seqE, blockQ, bodyQ, resK, retV, AV.rdv, agg_uV, ↓binK, ↓intK, unK, ↓loadK, ↓withKey_eq, ↓idxAddrK, ↓indexK, ↓partK, ↓fieldK, ↓fieldAddrK, ↓convK, ↓callK, wrG, updK, ↓lenK, ↓mmK, ↓appK, ↓copyK, ↓sliceK, ↓toArrK, nilK, evs, plains, seqParts, capsOf, capsD, AV.dv, AV.cont, ↓buildV_eq, fillL, placesOf, ↓storeK, wrL, RV.av, DV.av, List.set, Nat.reduceEqDiff, Nat.reduceAdd, Nat.reduceSub, Nat.reduceMul, Nat.reduceLT, Nat.reduceLeDiff, Nat.reduceMod, Nat.reduceDiv, Int.reduceLT, Int.reduceLE, Int.reduceToNat, ↓reduceIte, reduceCtorEq, Value.oneCell', Int.reduceAdd, Int.reduceSub, Int.reduceMod, Int.reduceMul, Int.reduceNeg, Int.reduceBEq, Int.reduceBNe, Int.reduceTDiv, Int.reduceTMod, Int.reduceEq, tyB, Try.underlying13, Try.underlying25, Try.underlying26, Try.underlying39, Try.underlying40, Try.underlying72, Try.underlying73, lenTab_eq, lenTab_size, shrN, shr16, shr8, mod256, Int.toNat_natCast, Option.isSome_some, Int.natCast_nonneg]
  clear hc hΓ
  repeat' split
  all_goals (rename_i hq; simp only [decide_eq_true_eq, decide_eq_false_iff_not] at *)
  all_goals refine ⟨by omega, congrArg (fun z => RV.one (DV.pl (Value.int IntKind.i64 z))) ?_⟩
  · exact len_end x 56 _ (show x / 72057594037927936 = _ by omega) (by omega) (by omega) (show 72057594037927936 ≤ x by omega)
  · exact len_end x 48 _ (show x / 281474976710656 = _ by omega) (by omega) (by omega) (show 281474976710656 ≤ x by omega)
  · exact len_end x 40 _ (show x / 1099511627776 = _ by omega) (by omega) (by omega) (show 1099511627776 ≤ x by omega)
  · exact len_end x 32 _ (show x / 4294967296 = _ by omega) (by omega) (by omega) (show 4294967296 ≤ x by omega)
  · exact len_end x 24 _ (show x / 16777216 = _ by omega) (by omega) (by omega) (show 16777216 ≤ x by omega)
  · exact len_end x 16 _ (show x / 65536 = _ by omega) (by omega) (by omega) (show 65536 ≤ x by omega)
  · exact len_end x 8 _ (show x / 256 = _ by omega) (by omega) (by omega) (show 256 ≤ x by omega)
  · rw [Nat.mod_eq_of_lt (by omega), lenTab_at x (by omega)]
    have := blen_lt x 8 (by omega)
    rw [IntKind.wrap_i64, IntKind.wrap_i64]
    omega

theorem blen_word (x n w : Nat) (hw : w ≠ 0) (h : x / 2 ^ n = w) : blen x = n + blen w := by
  have : 2 ^ n ≤ x := by
    rcases Nat.lt_or_ge x (2 ^ n) with h1 | h1
    · rw [Nat.div_eq_of_lt h1] at h; omega
    · exact h1
  rw [blen_shift n x this, h]

noncomputable def lenG : List DV → Option RV
  | [.pl va] => match toN va with
    | some a => some (.one (.pl (.int .i64 (blen a))))
    | _ => none
  | _ => none

theorem bne_false {a b : Int} (h : a = b) : (a != b) = false := by rw [h]; simp
theorem bne_true {a b : Int} (h : a ≠ b) : (a != b) = true := by simpa using h

theorem len_sum (n w : Nat) (hw : w < 18446744073709551616) (hn : n ≤ 192) : IntKind.i64.wrap ((n : Int) + (blen w : Int)) = ((n + blen w : Nat) : Int) := by
  have := blen_lt w 64 hw
  rw [IntKind.wrap_i64]
  omega

set_option maxHeartbeats 4000000 in
theorem len_ok : ∀ ds r, lenG ds = some r → Spec Try.prog 57 ds r := by
  intro ds r h
  unfold lenG at h
  split at h
  case h_2 => cases h
  rename_i va
  split at h
  case h_2 => cases h
  rename_i a ha
  cases h
  obtain ⟨rfl, ha'⟩ := toN_eq ha
  have ea := words_lt ha'
  have a0 := w0_lt a; have a1 := w1_lt a; have a2 := w2_lt a; have a3 := w3_lt a
  have hΓ : Env.ok [(86, len64G)] Try.prog := ok_cons len64_here (ok_nil _)
  refine Spec.of_vx hΓ follows_mixed Try.func57 rfl (by kernel_rfl) (T := []) (by simp [Try.ntmps57]) (by kernel_rfl) rfl Try.ntmps57 (res := [.tmp 2]) rfl ?_
  intro W
  simp -implicitDefEqProofs (maxSteps := 10000000) only [vy_succ, vmB, slim, slimOp, gO, gSO, qSO, quietOp, cS, qSB, eK, calmOp, guardS, gK, qK, putK, plK, dOk, St.ev, St.get, St.mem, St.set, St.setm, St.put, lookA, look, newK, nextver, initT, seqE, blockQ, bodyQ, resK, retV, AV.rdv, agg_uV, ↓binK, ↓intK, unK, ↓loadK, ↓withKey_eq, ↓idxAddrK, ↓indexK, ↓partK, ↓fieldK, ↓fieldAddrK, ↓convK, ↓callK, wrG, updK, ↓lenK, ↓mmK, ↓appK, ↓copyK, ↓sliceK, ↓toArrK, nilK, evs, plains, seqParts, capsOf, capsD, AV.dv, AV.cont, ↓buildV_eq, fillL, placesOf, ↓storeK, wrL, RV.av, DV.av, List.set, Nat.reduceEqDiff, Nat.reduceAdd, Nat.reduceSub, Nat.reduceMul, Nat.reduceLT, Nat.reduceLeDiff, Nat.reduceMod, Nat.reduceDiv, Int.reduceLT, Int.reduceLE, Int.reduceToNat, ↓reduceIte, reduceCtorEq, Value.oneCell', Int.reduceAdd, Int.reduceSub, Int.reduceMod, Int.reduceMul, Int.reduceNeg, Int.reduceBEq, Int.reduceBNe, Int.reduceTDiv, Int.reduceTMod, Int.reduceEq, tyB, Try.underlying13, Try.underlying25, Try.underlying26, Try.underlying39, Try.underlying40, Try.underlying72, Try.underlying73]
  refine VT_rounds hΓ follows_mixed 5 ?_
  simp -implicitDefEqProofs (maxSteps := 10000000) only [vy_succ, vmB, slim, slimOp, gO, gSO, qSO, quietOp, cS, qSB, eK, calmOp, guardS, gK, qK, putK, plK, dOk, St.ev, St.get, St.mem, St.set, St.setm, St.put, lookA, look, newK, nextver, initT, seqE, blockQ, bodyQ, resK, retV, AV.rdv, agg_uV, ↓binK, ↓intK, unK, ↓loadK, ↓withKey_eq, ↓idxAddrK, ↓indexK, ↓partK, ↓fieldK, ↓fieldAddrK, ↓convK, ↓callK, wrG, updK, ↓lenK, ↓mmK, ↓appK, ↓copyK, ↓sliceK, ↓toArrK, nilK, evs, plains, seqParts, capsOf, capsD, AV.dv, AV.cont, ↓buildV_eq, fillL, placesOf, ↓storeK, wrL, RV.av, DV.av, List.set, Nat.reduceEqDiff, Nat.reduceAdd, Nat.reduceSub, Nat.reduceMul, Nat.reduceLT, Nat.reduceLeDiff, Nat.reduceMod, Nat.reduceDiv, Int.reduceLT, Int.reduceLE, Int.reduceToNat, ↓reduceIte, reduceCtorEq, Value.oneCell', Int.reduceAdd, Int.reduceSub, Int.reduceMod, Int.reduceMul, Int.reduceNeg, Int.reduceBEq, Int.reduceBNe, Int.reduceTDiv, Int.reduceTMod, Int.reduceEq, tyB, Try.underlying13, Try.underlying25, Try.underlying26, Try.underlying39, Try.underlying40, Try.underlying72, Try.underlying73, len64G, okW_0, okW_1, okW_2, okW_3, Int.toNat_natCast]
  clear hΓ
  repeat' split
  all_goals (rename_i hq; simp only [bne_iff_ne, bne_eq_false_iff_eq, ne_eq] at *)
  · rw [blen_word a 192 (w3 a) (by omega) (show a / 6277101735386680763835789423207666416102355444464034512896 = w3 a by simp only [num] at ea; omega)]
    exact congrArg (fun z => RV.one (DV.pl (Value.int IntKind.i64 z))) (len_sum 192 (w3 a) a3 (by omega))
  · rw [blen_word a 128 (w2 a) (by omega) (show a / 340282366920938463463374607431768211456 = w2 a by simp only [num] at ea; omega)]
    exact congrArg (fun z => RV.one (DV.pl (Value.int IntKind.i64 z))) (len_sum 128 (w2 a) a2 (by omega))
  · rw [blen_word a 64 (w1 a) (by omega) (show a / 18446744073709551616 = w1 a by simp only [num] at ea; omega)]
    exact congrArg (fun z => RV.one (DV.pl (Value.int IntKind.i64 z))) (len_sum 64 (w1 a) a1 (by omega))
  · have e : a = w0 a := by simp only [num] at ea; omega
    have h2 := len_sum 0 (w0 a) a0 (by omega)
    rw [Nat.zero_add, ← e] at h2
    rw [← e]
    exact congrArg (fun z => RV.one (DV.pl (Value.int IntKind.i64 z))) h2
  · have e : a = 0 := by simp only [num] at ea; omega
    rw [e]
    unfold blen
    rfl

end Go.Vm

/- Contract: alive. No condition. -/
set_option maxRecDepth 100000
set_option linter.unusedSimpArgs false
set_option linter.unusedVariables false
namespace Go.Vm
open Go Go.RowKit Go.Proofs

def trueG : List DV → Option RV
  | [] => some (.one (.pl (.bool true)))
  | _ => none

theorem full_big : 18446744073709551616 < full := by rw [full_eq]; omega
theorem okW_lit1 : okW 1 = true := okW_of (by omega) (by omega)
theorem okW_lit2 : okW 2 = true := okW_of (by omega) (by omega)

end Go.Vm

/- The law U256Bits, as the machine walks it. No condition. -/
set_option maxRecDepth 100000
set_option linter.unusedSimpArgs false
set_option linter.unusedVariables false
namespace Go.Vm
open Go Go.RowKit Go.Proofs

theorem full_pow : full = 2 ^ 256 := by rw [full_eq]
theorem lt_blen (a : Nat) : a < 2 ^ blen a := by
  unfold blen
  split
  · rename_i h; rw [h]; decide
  · exact Nat.lt_log2_self
theorem blen_le_256 {a : Nat} (h : a < full) : blen a ≤ 256 := blen_lt a 256 (by rw [← full_pow]; exact h)
theorem blen_top {a : Nat} (h : a ≠ 0) : a.testBit (blen a - 1) = true := by
  have e : blen a - 1 = a.log2 := by unfold blen; rw [if_neg h]; rfl
  have h1 := Nat.log2_self_le h
  have h2 := Nat.lt_log2_self (n := a)
  have h0 : 0 < 2 ^ a.log2 := Nat.pow_pos (by omega)
  have h3 : a / 2 ^ a.log2 = 1 := by
    rw [Nat.pow_succ] at h2
    have := (Nat.div_lt_iff_lt_mul h0).2 (show a < 2 * 2 ^ a.log2 by omega)
    have := (Nat.le_div_iff_mul_le h0).2 (show 1 * 2 ^ a.log2 ≤ a by omega)
    omega
  rw [e, Nat.testBit_eq_decide_div_mod_eq, h3]
  decide
theorem blen_over {a i : Nat} (h : blen a ≤ i) : a.testBit i = false := by
  refine Nat.testBit_lt_two_pow ?_
  exact Nat.lt_of_lt_of_le (lt_blen a) (Nat.pow_le_pow_right (by omega) h)
theorem blen_full {a : Nat} (ha : a < full) : full ≤ a + a ↔ blen a = 256 := by
  constructor
  · intro h
    have h1 := lt_blen a
    have h2 := blen_le_256 ha
    rcases Nat.lt_or_ge (blen a) 256 with h3 | h3
    · have : 2 ^ blen a ≤ 2 ^ 255 := Nat.pow_le_pow_right (by omega) (by omega)
      rw [full_pow] at h
      omega
    · omega
  · intro h
    have h0 : a ≠ 0 := by intro e; subst e; simp [blen] at h
    have h1 := Nat.log2_self_le h0
    have e : a.log2 = 255 := by unfold blen at h; rw [if_neg h0] at h; omega
    rw [e] at h1
    rw [full_pow]
    omega
theorem blen_dbl {a : Nat} (h : a ≠ 0) : blen (a + a) = blen a + 1 := by
  rw [blen_half (a + a) (by omega), show (a + a) / 2 = a by omega]
  omega
theorem bit_dbl (a i : Nat) (h : i < 255) : ((a + a) % full).testBit (i + 1) = a.testBit i := by
  rw [full_pow, Nat.testBit_mod_two_pow, Nat.testBit_succ, show (a + a) / 2 = a by omega]
  simp
  omega
theorem bit_dbl0 (a : Nat) : ((a + a) % full).testBit 0 = false := by
  rw [full_pow, Nat.testBit_mod_two_pow, Nat.testBit_zero]
  simp
  omega

noncomputable def bitN (a : Nat) (i : Int) : Bool := Classical.choose (⟨decide (0 ≤ i ∧ i < 256) && a.testBit i.toNat, rfl⟩ : ∃ b : Bool, b = (decide (0 ≤ i ∧ i < 256) && a.testBit i.toNat))
theorem bitN_eq (a : Nat) (i : Int) : bitN a i = (decide (0 ≤ i ∧ i < 256) && a.testBit i.toNat) := Classical.choose_spec (⟨decide (0 ≤ i ∧ i < 256) && a.testBit i.toNat, rfl⟩ : ∃ b : Bool, b = (decide (0 ≤ i ∧ i < 256) && a.testBit i.toNat))
theorem bitN_nat (a i : Nat) (h : i < 256) : bitN a i = a.testBit i := by
  rw [bitN_eq, decide_eq_true (by omega), Bool.true_and, Int.toNat_natCast]
noncomputable def bitH : List DV → Option RV
  | [.pl va, .pl (.int .i64 i)] => match toN va with
    | some a => some (.one (.pl (.bool (bitN a i))))
    | _ => none
  | _ => none
theorem bitH_ok : ∀ ds r, bitH ds = some r → Spec Try.prog 59 ds r := by
  intro ds r h
  refine bit_ok ds r ?_
  unfold bitH at h
  unfold bitG
  split at h
  · rename_i va i
    try simp only at h ⊢
    rw [← h]
    cases toN va with
    | none => rfl
    | some a => simp only [bitN_eq]
  · cases h

noncomputable def uC (x : Nat) : Blk := ⟨0, 24, [.int .u64 (w0 x : Nat), .int .u64 (w1 x : Nat), .int .u64 (w2 x : Nat), .int .u64 (w3 x : Nat)]⟩

end Go.Vm

/- Contracts: Sub, Cmp. No condition. -/
set_option maxRecDepth 100000
set_option linter.unusedSimpArgs false
set_option linter.unusedVariables false
namespace Go.Vm
open Go Go.RowKit Go.Proofs

theorem sub_words (a b : Nat) (ha : a < full) (hb : b < full) :
    ∃ s0 s1 s2 s3 c0 c1 c2 c3 : Int, (((w0 a : Int) - (w0 b : Int) - 0) % 18446744073709551616 = s0 ∧ brw (w0 a : Int) (w0 b : Int) 0 = c0) ∧
      (((w1 a : Int) - (w1 b : Int) - c0) % 18446744073709551616 = s1 ∧ brw (w1 a : Int) (w1 b : Int) c0 = c1) ∧
      (((w2 a : Int) - (w2 b : Int) - c1) % 18446744073709551616 = s2 ∧ brw (w2 a : Int) (w2 b : Int) c1 = c2) ∧
      (((w3 a : Int) - (w3 b : Int) - c2) % 18446744073709551616 = s3 ∧ brw (w3 a : Int) (w3 b : Int) c2 = c3) ∧
      (0 ≤ c0 ∧ c0 ≤ 1 ∧ 0 ≤ c1 ∧ c1 ≤ 1 ∧ 0 ≤ c2 ∧ c2 ≤ 1) ∧
      uV (a + full - b) = .agg #[.int .u64 s0, .int .u64 s1, .int .u64 s2, .int .u64 s3] ∧ decide (a < b) = (c3 == 1) := by
  have ea := words_lt ha
  have eb := words_lt hb
  have a0 := w0_lt a; have a1 := w1_lt a; have a2 := w2_lt a; have a3 := w3_lt a
  have b0 := w0_lt b; have b1 := w1_lt b; have b2 := w2_lt b; have b3 := w3_lt b
  generalize w0 a = x0 at *; generalize w1 a = x1 at *; generalize w2 a = x2 at *; generalize w3 a = x3 at *
  generalize w0 b = y0 at *; generalize w1 b = y1 at *; generalize w2 b = y2 at *; generalize w3 b = y3 at *
  obtain ⟨s0, c0, e0, l0, k0⟩ : ∃ s0 c0 : Nat, (x0 : Int) - y0 = s0 - 18446744073709551616 * c0 ∧ s0 < 18446744073709551616 ∧ c0 ≤ 1 := by
    by_cases h : x0 < y0
    · exact ⟨x0 + 18446744073709551616 - y0, 1, by omega, by omega, by omega⟩
    · exact ⟨x0 - y0, 0, by omega, by omega, by omega⟩
  obtain ⟨s1, c1, e1, l1, k1⟩ : ∃ s1 c1 : Nat, (x1 : Int) - y1 - c0 = s1 - 18446744073709551616 * c1 ∧ s1 < 18446744073709551616 ∧ c1 ≤ 1 := by
    by_cases h : x1 < y1 + c0
    · exact ⟨x1 + 18446744073709551616 - y1 - c0, 1, by omega, by omega, by omega⟩
    · exact ⟨x1 - y1 - c0, 0, by omega, by omega, by omega⟩
  obtain ⟨s2, c2, e2, l2, k2⟩ : ∃ s2 c2 : Nat, (x2 : Int) - y2 - c1 = s2 - 18446744073709551616 * c2 ∧ s2 < 18446744073709551616 ∧ c2 ≤ 1 := by
    by_cases h : x2 < y2 + c1
    · exact ⟨x2 + 18446744073709551616 - y2 - c1, 1, by omega, by omega, by omega⟩
    · exact ⟨x2 - y2 - c1, 0, by omega, by omega, by omega⟩
  obtain ⟨s3, c3, e3, l3, k3⟩ : ∃ s3 c3 : Nat, (x3 : Int) - y3 - c2 = s3 - 18446744073709551616 * c3 ∧ s3 < 18446744073709551616 ∧ c3 ≤ 1 := by
    by_cases h : x3 < y3 + c2
    · exact ⟨x3 + 18446744073709551616 - y3 - c2, 1, by omega, by omega, by omega⟩
    · exact ⟨x3 - y3 - c2, 0, by omega, by omega, by omega⟩
  have hlt := num_lt l0 l1 l2 l3
  refine ⟨s0, s1, s2, s3, c0, c1, c2, c3, ⟨by omega, by unfold brw; split <;> omega⟩, ⟨by omega, by unfold brw; split <;> omega⟩, ⟨by omega, by unfold brw; split <;> omega⟩, ⟨by omega, by unfold brw; split <;> omega⟩, ⟨by omega, by omega, by omega, by omega, by omega, by omega⟩, ?_, ?_⟩
  · refine uV_of l0 l1 l2 l3 ?_
    have hk : c3 = 0 ∨ c3 = 1 := by omega
    rcases hk with rfl | rfl
    · have h : a + full - b = num s0 s1 s2 s3 + full := by simp only [num, full_eq] at *; omega
      rw [h, Nat.add_mod_right, Nat.mod_eq_of_lt hlt]
    · have h : a + full - b = num s0 s1 s2 s3 := by simp only [num, full_eq] at *; omega
      rw [h, Nat.mod_eq_of_lt hlt]
  · have hk : c3 = 0 ∨ c3 = 1 := by omega
    rcases hk with rfl | rfl
    · have : ¬ (a < b) := by simp only [num, full_eq] at *; omega
      simp [this]
    · have : a < b := by simp only [num, full_eq] at *; omega
      simp [this]

noncomputable def subG : List DV → Option RV
  | [.pl va, .pl vb] => match toN va, toN vb with
    | some a, some b => some (.tup [.pl (uV (a + full - b)), .pl (.bool (decide (a < b)))])
    | _, _ => none
  | _ => none

theorem sub64_here : ∀ ds r, sub64G ds = some r → Spec Try.prog 84 ds r := sub64_ok Try.func84 (by kernel_rfl) (by kernel_rfl) (by kernel_rfl) (by kernel_rfl)

set_option maxHeartbeats 4000000 in
theorem sub_ok : ∀ ds r, subG ds = some r → Spec Try.prog 52 ds r := by
  intro ds r h
  unfold subG at h
  split at h
  case h_2 => cases h
  rename_i va vb
  split at h
  case h_2 => cases h
  rename_i a b ha hb
  cases h
  obtain ⟨rfl, ha'⟩ := toN_eq ha
  obtain ⟨rfl, hb'⟩ := toN_eq hb
  obtain ⟨s0, s1, s2, s3, c0, c1, c2, c3, ⟨p0, q0⟩, ⟨p1, q1⟩, ⟨p2, q2⟩, ⟨p3, q3⟩, hc, hv, hd⟩ := sub_words a b ha' hb'
  have a0 := w0_lt a; have a1 := w1_lt a; have a2 := w2_lt a; have a3 := w3_lt a
  have b0 := w0_lt b; have b1 := w1_lt b; have b2 := w2_lt b; have b3 := w3_lt b
  rw [hv, hd]
  have ua : uV a = .agg #[.int .u64 (w0 a : Nat), .int .u64 (w1 a : Nat), .int .u64 (w2 a : Nat), .int .u64 (w3 a : Nat)] := rfl
  have ub : uV b = .agg #[.int .u64 (w0 b : Nat), .int .u64 (w1 b : Nat), .int .u64 (w2 b : Nat), .int .u64 (w3 b : Nat)] := rfl
  have hΓ : Env.ok [(84, sub64G)] Try.prog := ok_cons sub64_here (ok_nil _)
  refine Spec.of_vx hΓ follows_mixed Try.func52 rfl (by kernel_rfl) (T := []) (by simp [Try.ntmps52]) (by kernel_rfl) rfl Try.ntmps52 (res := [.cell 4 24, .tmp 5]) rfl ?_
  intro W
  simp -implicitDefEqProofs (maxSteps := 10000000) only [vy_succ, vmB, slim, slimOp, gO, gSO, qSO, quietOp, cS, qSB, eK, calmOp, guardS, gK, qK, putK, plK, dOk, St.ev, St.get, St.mem, St.set, St.setm, St.put, lookA, look, newK, nextver, initT, seqE, blockQ, bodyQ, resK, retV, AV.rdv, agg_uV, ↓binK, ↓intK, unK, ↓loadK, ↓withKey_eq, ↓idxAddrK, ↓indexK, ↓partK, ↓fieldK, ↓fieldAddrK, ↓convK, ↓callK, wrG, updK, ↓lenK, ↓mmK, ↓appK, ↓copyK, ↓sliceK, ↓toArrK, nilK, evs, plains, seqParts, capsOf, capsD, AV.dv, AV.cont, ↓buildV_eq, fillL, placesOf, ↓storeK, wrL, RV.av, DV.av, List.set, Nat.reduceEqDiff, Nat.reduceAdd, Nat.reduceSub, Nat.reduceMul, Nat.reduceLT, Nat.reduceLeDiff, Nat.reduceMod, Nat.reduceDiv, Int.reduceLT, Int.reduceLE, Int.reduceToNat, ↓reduceIte, reduceCtorEq, Value.oneCell', Int.reduceAdd, Int.reduceSub, Int.reduceMod, Int.reduceMul, Int.reduceNeg, Int.reduceBEq, Int.reduceBNe, Int.reduceTDiv, Int.reduceTMod, Int.reduceEq, tyB, Try.underlying13, Try.underlying25, Try.underlying26, Try.underlying39, Try.underlying40, Try.underlying72, Try.underlying73]
  refine VT_rounds hΓ follows_mixed 5 ?_
  have o0 : okC c0 = true := okC_of (by omega) (by omega)
  have o1 : okC c1 = true := okC_of (by omega) (by omega)
  have o2 : okC c2 = true := okC_of (by omega) (by omega)
  simp -implicitDefEqProofs (maxSteps := 10000000) only [vy_succ, vmB, slim, slimOp, gO, gSO, qSO, quietOp, cS, qSB, eK, calmOp, guardS, gK, qK, putK, plK, dOk, St.ev, St.get, St.mem, St.set, St.setm, St.put, lookA, look, newK, nextver, initT, seqE, blockQ, bodyQ, resK, retV, AV.rdv, agg_uV, ↓binK, ↓intK, unK, ↓loadK, ↓withKey_eq, ↓idxAddrK, ↓indexK, ↓partK, ↓fieldK, ↓fieldAddrK, ↓convK, ↓callK, wrG, updK, ↓lenK, ↓mmK, ↓appK, ↓copyK, ↓sliceK, ↓toArrK, nilK, evs, plains, seqParts, capsOf, capsD, AV.dv, AV.cont, ↓buildV_eq, fillL, placesOf, ↓storeK, wrL, RV.av, DV.av, List.set, Nat.reduceEqDiff, Nat.reduceAdd, Nat.reduceSub, Nat.reduceMul, Nat.reduceLT, Nat.reduceLeDiff, Nat.reduceMod, Nat.reduceDiv, Int.reduceLT, Int.reduceLE, Int.reduceToNat, ↓reduceIte, reduceCtorEq, Value.oneCell', Int.reduceAdd, Int.reduceSub, Int.reduceMod, Int.reduceMul, Int.reduceNeg, Int.reduceBEq, Int.reduceBNe, Int.reduceTDiv, Int.reduceTMod, Int.reduceEq, tyB, Try.underlying13, Try.underlying25, Try.underlying26, Try.underlying39, Try.underlying40, Try.underlying72, Try.underlying73, sub64G, p0, q0, p1, q1, p2, q2, p3, q3, okW_0, okW_1, okW_2, okW_3, okC_0, o0, o1, o2, Bool.true_and]

end Go.Vm

/- Contracts: Cmp. No condition. -/
set_option maxRecDepth 100000
set_option linter.unusedSimpArgs false
set_option linter.unusedVariables false
namespace Go.Vm
open Go Go.RowKit Go.Proofs

def cmpN (a b : Nat) : Int := if a < b then -1 else if b < a then 1 else 0

theorem cmpN_lt {a b : Nat} (h : a < b) : cmpN a b = -1 := by unfold cmpN; rw [if_pos h]
theorem cmpN_gt {a b : Nat} (h : b < a) : cmpN a b = 1 := by unfold cmpN; rw [if_neg (by omega), if_pos h]
theorem cmpN_eq {a b : Nat} (h : a = b) : cmpN a b = 0 := by unfold cmpN; rw [if_neg (by omega), if_neg (by omega)]

noncomputable def cmpG : List DV → Option RV
  | [.pl va, .pl vb] => match toN va, toN vb with
    | some a, some b => some (.one (.pl (.int .i64 (cmpN a b))))
    | _, _ => none
  | _ => none

set_option maxHeartbeats 4000000 in
theorem cmp_ok : ∀ ds r, cmpG ds = some r → Spec Try.prog 66 ds r := by
  intro ds r h
  unfold cmpG at h
  split at h
  case h_2 => cases h
  rename_i va vb
  split at h
  case h_2 => cases h
  rename_i a b ha hb
  cases h
  obtain ⟨rfl, ha'⟩ := toN_eq ha
  obtain ⟨rfl, hb'⟩ := toN_eq hb
  have ea := words_lt ha'
  have eb := words_lt hb'
  have a0 := w0_lt a; have a1 := w1_lt a; have a2 := w2_lt a; have a3 := w3_lt a
  have b0 := w0_lt b; have b1 := w1_lt b; have b2 := w2_lt b; have b3 := w3_lt b
  have hΓ : Env.ok [] Try.prog := ok_nil _
  refine Spec.of_vx hΓ follows_mixed Try.func66 rfl (by kernel_rfl) (T := []) (by simp [Try.ntmps66]) (by kernel_rfl) rfl Try.ntmps66 (res := [.tmp 4]) rfl ?_
  intro W
  simp -implicitDefEqProofs (maxSteps := 10000000) only [vmB, slim, slimOp, gO, gSO, qSO, quietOp, cS, qSB, eK, calmOp, guardS, gK, qK, putK, plK, dOk, St.ev, St.get, St.mem, St.set, St.setm, St.put, lookA, look, newK, nextver, initT, seqE, blockQ, bodyQ, resK, retV, AV.rdv, agg_uV, ↓binK, ↓intK, unK, ↓loadK, ↓withKey_eq, ↓idxAddrK, ↓indexK, ↓partK, ↓fieldK, ↓fieldAddrK, ↓convK, ↓callK, wrG, updK, ↓lenK, ↓mmK, ↓appK, ↓copyK, ↓sliceK, ↓toArrK, nilK, evs, plains, seqParts, capsOf, capsD, AV.dv, AV.cont, ↓buildV_eq, fillL, placesOf, ↓storeK, wrL, RV.av, DV.av, List.set, Nat.reduceEqDiff, Nat.reduceAdd, Nat.reduceSub, Nat.reduceMul, Nat.reduceLT, Nat.reduceLeDiff, Nat.reduceMod, Nat.reduceDiv, Int.reduceLT, Int.reduceLE, Int.reduceToNat, ↓reduceIte, reduceCtorEq, Value.oneCell', Int.reduceAdd, Int.reduceSub, Int.reduceMod, Int.reduceMul, Int.reduceNeg, Int.reduceBEq, Int.reduceBNe, Int.reduceTDiv, Int.reduceTMod, Int.reduceEq, tyB, Try.underlying13, Try.underlying25, Try.underlying26, Try.underlying39, Try.underlying40, Try.underlying72, Try.underlying73]
  refine VT_rounds hΓ follows_mixed 5 ?_
  simp -implicitDefEqProofs (maxSteps := 10000000) only [vy_succ, vmB, slim, slimOp, gO, gSO, qSO, quietOp, cS, qSB, eK, calmOp, guardS, gK, qK, putK, plK, dOk, St.ev, St.get, St.mem, St.set, St.setm, St.put, lookA, look, newK, nextver, initT, seqE, blockQ, bodyQ, resK, retV, AV.rdv, agg_uV, ↓binK, ↓intK, unK, ↓loadK, ↓withKey_eq, ↓idxAddrK, ↓indexK, ↓partK, ↓fieldK, ↓fieldAddrK, ↓convK, ↓callK, wrG, updK, ↓lenK, ↓mmK, ↓appK, ↓copyK, ↓sliceK, ↓toArrK, nilK, evs, plains, seqParts, capsOf, capsD, AV.dv, AV.cont, ↓buildV_eq, fillL, placesOf, ↓storeK, wrL, RV.av, DV.av, List.set, Nat.reduceEqDiff, Nat.reduceAdd, Nat.reduceSub, Nat.reduceMul, Nat.reduceLT, Nat.reduceLeDiff, Nat.reduceMod, Nat.reduceDiv, Int.reduceLT, Int.reduceLE, Int.reduceToNat, ↓reduceIte, reduceCtorEq, Value.oneCell', Int.reduceAdd, Int.reduceSub, Int.reduceMod, Int.reduceMul, Int.reduceNeg, Int.reduceBEq, Int.reduceBNe, Int.reduceTDiv, Int.reduceTMod, Int.reduceEq, tyB, Try.underlying13, Try.underlying25, Try.underlying26, Try.underlying39, Try.underlying40, Try.underlying72, Try.underlying73]
  generalize w0 a = x0 at *; generalize w1 a = x1 at *; generalize w2 a = x2 at *; generalize w3 a = x3 at *
  generalize w0 b = y0 at *; generalize w1 b = y1 at *; generalize w2 b = y2 at *; generalize w3 b = y3 at *
  repeat' split
  all_goals simp only [decide_eq_true_eq, decide_eq_false_iff_not] at *
  all_goals unfold num at ea eb
  all_goals first
    | rw [cmpN_lt (by omega)]
    | rw [cmpN_gt (by omega)]
    | rw [cmpN_eq (by omega)]

end Go.Vm

/- Contract: Mod. No condition. -/
set_option maxRecDepth 100000
set_option linter.unusedSimpArgs false
set_option linter.unusedVariables false
namespace Go.Vm
open Go Go.RowKit Go.Proofs

noncomputable def modG : List DV → Option RV
  | [.pl vl, .pl vh, .pl vm] => match toN vl, toN vh, toN vm with
    | some l, some h, some m => some (.tup [.pl (uV (if m = 0 then 0 else (l + h * full) % m)), .pl (.int .i64 (if m = 0 then 6 else 0))])
    | _, _, _ => none
  | _ => none

theorem toN_zero : toN (.agg #[.int .u64 0, .int .u64 0, .int .u64 0, .int .u64 0]) = some 0 := by
  rw [uV_0, toN_uV, Nat.zero_mod]
theorem full_pos : 0 < full := by rw [full_eq]; omega
theorem split_full (x : Nat) (h : x < full * full) : x % full + x / full % full * full = x := by
  have h1 : x / full < full := Nat.div_lt_of_lt_mul h
  rw [Nat.mod_eq_of_lt h1, Nat.mul_comm]
  exact Nat.mod_add_div x full
theorem mul_lt_full {a b : Nat} (ha : a < full) (hb : b < full) : a * b < full * full := Nat.mul_lt_mul_of_lt_of_lt ha hb

theorem binK_neU0 (a : Nat) (K : Value → Prop) : binK Try.prog .neq 24 (uV a) (.agg #[.int .u64 0, .int .u64 0, .int .u64 0, .int .u64 0]) K = K (.bool (!eqU a 0)) := by rw [uV_0, binK_neU]

noncomputable def mAt (c m k : Nat) : Nat := Classical.choose (⟨c / 2 ^ k % m, rfl⟩ : ∃ x : Nat, x = c / 2 ^ k % m)
theorem mAt_eq (c m k : Nat) : mAt c m k = c / 2 ^ k % m := Classical.choose_spec (⟨c / 2 ^ k % m, rfl⟩ : ∃ x : Nat, x = c / 2 ^ k % m)
theorem mAt_lt (c k : Nat) {m : Nat} (h : m ≠ 0) : mAt c m k < m := by rw [mAt_eq]; exact Nat.mod_lt _ (by omega)
theorem mAt_0 (c m : Nat) : mAt c m 0 = c % m := by rw [mAt_eq, Nat.pow_zero, Nat.div_one]
theorem pow_twice (n k : Nat) (h : k = n + n) : (2 : Nat) ^ k = 2 ^ n * 2 ^ n := by rw [h, Nat.pow_add]
theorem mAt_top (l h m k : Nat) (hl : l < full) (hh : h < full) (hk : k = 256 + 256) : mAt (l + h * full) m k = 0 := by
  rw [mAt_eq, Nat.div_eq_of_lt, Nat.zero_mod]
  rw [pow_twice 256 k hk, ← full_pow]
  have : (h + 1) * full ≤ full * full := Nat.mul_le_mul_right _ (by omega)
  rw [Nat.add_mul, Nat.one_mul] at this
  omega
theorem mAt_step (c m j : Nat) : mAt c m j = (mAt c m (j + 1) + mAt c m (j + 1) + (c.testBit j).toNat) % m := by
  have e1 : c / 2 ^ j = 2 * (c / 2 ^ (j + 1)) + (c.testBit j).toNat := by
    rw [Nat.testBit_eq_decide_div_mod_eq, Nat.pow_succ, ← Nat.div_div_eq_div_mul]
    generalize c / 2 ^ j = y
    have := Nat.mod_two_eq_zero_or_one y
    rcases this with h | h <;> simp [h] <;> omega
  rw [mAt_eq, mAt_eq, e1]
  generalize c / 2 ^ (j + 1) = y
  generalize (c.testBit j).toNat = b
  rw [show y % m + y % m + b = 2 * (y % m) + b by omega]
  rw [Nat.add_mod, Nat.mul_mod, Nat.add_mod (2 * (y % m)), Nat.mul_mod 2 (y % m), Nat.mod_mod]
theorem red_mod {D m : Nat} (h : D < m + m) : D % m = if D < m then D else D - m := by
  split
  · rename_i h1; exact Nat.mod_eq_of_lt h1
  · rename_i h1
    rw [Nat.mod_eq_sub_mod (by omega), Nat.mod_eq_of_lt (by omega)]
theorem all_bit (l h j : Nat) (hl : l < full) : (l + h * full).testBit j = if j < 256 then l.testBit j else h.testBit (j - 256) := by
  rw [full_pow, Nat.add_comm, Nat.mul_comm]
  exact Nat.testBit_two_pow_mul_add h (by rw [← full_pow]; exact hl) j


theorem w_zero : w0 0 = 0 ∧ w1 0 = 0 ∧ w2 0 = 0 ∧ w3 0 = 0 := by rw [w0_eq, w1_eq, w2_eq, w3_eq]; simp
theorem cast_pred (j : Nat) : ((j + 1 : Nat) : Int) - 1 = (j : Int) := by omega

noncomputable def mS (l h m k : Nat) : St := ⟨[(9, .pl (.int .i64 ((k : Int) - 1))), (8, .ptr 8 0 0), (6, .ptr 6 0 0), (5, .ptr 5 0 0), (4, .ptr 4 0 0), (3, .ptr 3 0 0)],
  [(8, uC (mAt (l + h * full) m k)), (6, ⟨0, 24, [.int .u64 0, .int .u64 0, .int .u64 0, .int .u64 0]⟩), (5, uC m), (4, uC h), (3, uC l)]⟩

end Go.Vm

/- Points as values; their equality. No condition. -/
set_option maxRecDepth 100000
set_option linter.unusedSimpArgs false
set_option linter.unusedVariables false
namespace Go.Vm
open Go Go.RowKit Go.Proofs

noncomputable def ptC (x y : Nat) (b : Bool) : List Value := [.int .u64 (w0 x : Nat), .int .u64 (w1 x : Nat), .int .u64 (w2 x : Nat), .int .u64 (w3 x : Nat), .int .u64 (w0 y : Nat), .int .u64 (w1 y : Nat), .int .u64 (w2 y : Nat), .int .u64 (w3 y : Nat), .bool b]
theorem run_eqU (d : Nat) (a b : Nat) (w : World) : (Op.equalIn (d + 2) 24 (uV a) (uV b)).run Try.prog w = .ok (eqU a b) w := by
  have hue := Try.underlying22
  obtain ⟨i, hi⟩ := info_of_underlying hue
  have h1 := run_equalIn_array (P := Try.prog) w (d + 1) (([(w0 a : Int), (w1 a : Int), (w2 a : Int), (w3 a : Int)]).map (Value.int .u64)).toArray (([(w0 b : Int), (w1 b : Int), (w2 b : Int), (w3 b : Int)]).map (Value.int .u64)).toArray Try.underlying24 hi
  have e1 : Op.equalIn (d + 2) 24 (uV a) (uV b) = Op.equalIn (d + 1 + 1) 24 (.agg (([(w0 a : Int), (w1 a : Int), (w2 a : Int), (w3 a : Int)]).map (Value.int .u64)).toArray) (.agg (([(w0 b : Int), (w1 b : Int), (w2 b : Int), (w3 b : Int)]).map (Value.int .u64)).toArray) := rfl
  have hc : Try.prog.cellsOf 22 = 1 := by kernel_rfl
  rw [e1, h1, hc, run_eqItems_int (by kernel_rfl) hue _ _ d w (List.range 4) (fun j hj => by simp at hj; exact ⟨hj, hj⟩), all_range_eq _ _ 4 rfl rfl, words_inj]
theorem part_of {t : TypeId} {cs : Array Value} {off : Nat} {v : Value} (h : partK Try.prog t cs off (fun x => x = v)) (w : World) : (part t cs off).run Try.prog w = .ok v w := by
  obtain ⟨u, rfl, hu⟩ := partK_sound h
  exact hu w
theorem part_x (x y : Nat) (b : Bool) : partK Try.prog 24 (ptC x y b).toArray 0 (fun v => v = uV x) := by
  unfold partK
  rw [g_24, s_24]
  rfl
theorem part_y (x y : Nat) (b : Bool) : partK Try.prog 24 (ptC x y b).toArray 4 (fun v => v = uV y) := by
  unfold partK
  rw [g_24, s_24]
  rfl
theorem part_b (x y : Nat) (b : Bool) : partK Try.prog 4 (ptC x y b).toArray 8 (fun v => v = .bool b) := by
  unfold partK
  rw [g_4]
  exact ⟨by show 8 < 9; omega, rfl⟩
theorem eqV_pt (x y x' y' : Nat) (b b' : Bool) : eqV Try.prog 26 (ptC x y b).toArray (ptC x' y' b').toArray = some (eqU x x' && (eqU y y' && (b == b'))) := by
  apply eqV_of
  intro w
  have ht : Try.prog.underlying 26 = some (.struct (Try.prog.fieldsOf 26)) := by
    simp [Program.fieldsOf, Try.underlying26]
  have hp : Try.prog.stoodInHeld 26 = false := by kernel_rfl
  have e1 : Op.equal 26 (.agg (ptC x y b).toArray) (.agg (ptC x' y' b').toArray) = Op.equalIn (9999 + 1) 26 (.agg (ptC x y b).toArray) (.agg (ptC x' y' b').toArray) := rfl
  rw [e1, run_equalIn_struct w 9999 _ _ _ ht hp]
  have hf : ∃ f1 f2 f3 : Field, (Try.prog.fieldsOf 26).toList = [f1, f2, f3] ∧ (f1.name ≠ "_" ∧ f1.type = 24 ∧ f1.offset = 0) ∧ (f2.name ≠ "_" ∧ f2.type = 24 ∧ f2.offset = 4) ∧ (f3.name ≠ "_" ∧ f3.type = 4 ∧ f3.offset = 8) := by
    simp only [Program.fieldsOf, Try.underlying26]
    exact ⟨_, _, _, rfl, ⟨by decide, rfl, rfl⟩, ⟨by decide, rfl, rfl⟩, ⟨by decide, rfl, rfl⟩⟩
  obtain ⟨f1, f2, f3, hl, ⟨a1, a2, a3⟩, ⟨b1, b2, b3⟩, ⟨c1, c2, c3⟩⟩ := hf
  rw [hl]
  simp only [Op.eqFields, if_pos a1, if_pos b1, if_pos c1, a2, a3, b2, b3, c2, c3, Sem.run_bind, part_of (part_x x y b), part_of (part_x x' y' b'), part_of (part_y x y b), part_of (part_y x' y' b'), part_of (part_b x y b), part_of (part_b x' y' b'), Result.andThen_ok]
  have r1 := fun a b w => run_eqU 9997 a b w
  simp only [Nat.reduceAdd] at r1
  rw [r1, Result.andThen_ok]
  cases h1 : eqU x x' with
  | false => simp
  | true =>
    simp only [Bool.not_true, Bool.false_eq_true, if_false, Sem.run_bind, part_of (part_y x y b), part_of (part_y x' y' b'), Result.andThen_ok]
    rw [r1, Result.andThen_ok]
    cases h2 : eqU y y' with
    | false => simp
    | true =>
      have r3 := run_equalIn_bool' (P := Try.prog) w 9998 4 b b' Try.underlying4
      simp only [Nat.reduceAdd] at r3
      simp only [Bool.not_true, Bool.false_eq_true, if_false, Sem.run_bind, part_of (part_b x y b), part_of (part_b x' y' b'), Result.andThen_ok]
      rw [r3, Result.andThen_ok]
      cases b <;> cases b' <;> simp
noncomputable def ptV (x y : Nat) (b : Bool) : Value := .agg (ptC x y b).toArray
theorem binK_eqPt (x y x' y' : Nat) (b b' : Bool) (K : Value → Prop) : binK Try.prog .eql 26 (ptV x y b) (ptV x' y' b') K = K (.bool (eqU x x' && (eqU y y' && (b == b')))) := by
  apply propext
  show (Try.prog.eqGuardType Try.prog.depth 26 = false ∧ ∃ c, eqV Try.prog 26 (ptC x y b).toArray (ptC x' y' b').toArray = some c ∧ K (.bool c)) ↔ _
  rw [eqV_pt]
  constructor
  · rintro ⟨_, c, hc, hk⟩; cases hc; exact hk
  · intro h; exact ⟨q_26, _, rfl, h⟩
end Go.Vm

/- Plain number theory: the little theorem of Fermat, and a certificate for primes. No condition. -/
set_option maxRecDepth 100000
namespace Go.Vm

def Prm (p : Nat) : Prop := 1 < p ∧ ∀ d, d ∣ p → d = 1 ∨ d = p

theorem Prm.coprime {p k : Nat} (h : Prm p) (hk : ¬ p ∣ k) : Nat.gcd p k = 1 := by
  rcases h.2 _ (Nat.gcd_dvd_left p k) with h1 | h1
  · exact h1
  · exact absurd (h1 ▸ Nat.gcd_dvd_right p k) hk
theorem Prm.dvd_mul {p a b : Nat} (h : Prm p) (hab : p ∣ a * b) : p ∣ a ∨ p ∣ b := by
  by_cases ha : p ∣ a
  · exact .inl ha
  · exact .inr (Nat.Coprime.dvd_of_dvd_mul_left (h.coprime ha) hab)

/-! ### Sums and binomials -/
def sm (f : Nat → Nat) : Nat → Nat
  | 0 => 0
  | n + 1 => sm f n + f n
def ch : Nat → Nat → Nat
  | _, 0 => 1
  | 0, _ + 1 => 0
  | n + 1, k + 1 => ch n k + ch n (k + 1)
theorem sm_shift (f : Nat → Nat) : ∀ n, sm f (n + 1) = f 0 + sm (fun k => f (k + 1)) n
  | 0 => by simp [sm]
  | n + 1 => by
    have := sm_shift f n
    simp only [sm] at this ⊢
    omega
theorem sm_add (f g : Nat → Nat) : ∀ n, sm (fun k => f k + g k) n = sm f n + sm g n
  | 0 => rfl
  | n + 1 => by simp only [sm, sm_add f g n]; omega
theorem sm_mul (c : Nat) (f : Nat → Nat) : ∀ n, sm (fun k => f k * c) n = sm f n * c
  | 0 => by simp [sm]
  | n + 1 => by simp only [sm, sm_mul c f n, Nat.add_mul]
theorem sm_congr {f g : Nat → Nat} (h : ∀ k, f k = g k) (n : Nat) : sm f n = sm g n := by
  have : f = g := funext h
  rw [this]
theorem ch_0 (n : Nat) : ch n 0 = 1 := by cases n <;> rfl
theorem ch_big : ∀ (n k : Nat), n < k → ch n k = 0
  | 0, 0, h => by omega
  | 0, _ + 1, _ => rfl
  | _ + 1, 0, h => by omega
  | n + 1, k + 1, h => by
    simp only [ch]
    rw [ch_big n k (by omega), ch_big n (k + 1) (by omega)]
theorem ch_self : ∀ n, ch n n = 1
  | 0 => rfl
  | n + 1 => by simp only [ch]; rw [ch_self n, ch_big n (n + 1) (by omega)]
theorem ch_mul : ∀ (n k : Nat), (k + 1) * ch (n + 1) (k + 1) = (n + 1) * ch n k
  | 0, 0 => rfl
  | 0, k + 1 => by simp [ch]
  | n + 1, 0 => by
    have h1 := ch_mul n 0
    simp only [ch, ch_0] at h1 ⊢
    omega
  | n + 1, k + 1 => by
    have h1 := ch_mul n k
    have h2 := ch_mul n (k + 1)
    have e1 : ch (n + 2) (k + 2) = ch (n + 1) (k + 1) + ch (n + 1) (k + 2) := rfl
    have e2 : ch (n + 1) (k + 1) = ch n k + ch n (k + 1) := rfl
    rw [e1, Nat.mul_add]
    have h3 : (k + 1 + 1) * ch (n + 1) (k + 1) = (k + 1) * ch (n + 1) (k + 1) + ch (n + 1) (k + 1) := by rw [Nat.add_mul (k + 1) 1, Nat.one_mul]
    have h4 : (n + 1 + 1) * ch (n + 1) (k + 1) = (n + 1) * ch (n + 1) (k + 1) + ch (n + 1) (k + 1) := by rw [Nat.add_mul (n + 1) 1, Nat.one_mul]
    have h5 : (n + 1) * ch (n + 1) (k + 1) = (n + 1) * ch n k + (n + 1) * ch n (k + 1) := by rw [e2, Nat.mul_add]
    have h2' : (k + 1 + 1) * ch (n + 1) (k + 2) = (n + 1) * ch n (k + 1) := h2
    rw [h2', h3, h1, h4, h5]
    omega
theorem binom (x : Nat) : ∀ n, (x + 1) ^ n = sm (fun k => ch n k * x ^ k) (n + 1)
  | 0 => by simp [sm, ch]
  | n + 1 => by
    have ih := binom x n
    have e1 : sm (fun k => ch (n + 1) k * x ^ k) (n + 1 + 1) = 1 + sm (fun k => ch (n + 1) (k + 1) * x ^ (k + 1)) (n + 1) := by
      rw [sm_shift]; simp [ch_0]
    have e2 : sm (fun k => ch (n + 1) (k + 1) * x ^ (k + 1)) (n + 1) = sm (fun k => ch n k * x ^ k * x + ch n (k + 1) * x ^ (k + 1)) (n + 1) :=
      sm_congr (fun k => by simp only [ch, Nat.add_mul, Nat.pow_succ, Nat.mul_assoc]) _
    have e3 : sm (fun k => ch n k * x ^ k) (n + 1 + 1) = 1 + sm (fun k => ch n (k + 1) * x ^ (k + 1)) (n + 1) := by
      rw [sm_shift]; simp [ch_0]
    have e4 : sm (fun k => ch n k * x ^ k) (n + 1 + 1) = sm (fun k => ch n k * x ^ k) (n + 1) := by
      show sm (fun k => ch n k * x ^ k) (n + 1) + ch n (n + 1) * x ^ (n + 1) = _
      rw [ch_big n (n + 1) (by omega), Nat.zero_mul, Nat.add_zero]
    rw [e1, e2, sm_add, sm_mul, Nat.pow_succ, Nat.mul_add, Nat.mul_one, ← ih]
    rw [← ih, e3] at e4
    omega
theorem sm_dvd {p : Nat} {f : Nat → Nat} : ∀ n, (∀ k, k < n → p ∣ f k) → p ∣ sm f n
  | 0, _ => Nat.dvd_zero p
  | n + 1, h => Nat.dvd_add (sm_dvd n (fun k hk => h k (by omega))) (h n (by omega))

theorem ch_dvd {p : Nat} (h : Prm p) (k : Nat) (hk : k + 1 < p) : p ∣ ch p (k + 1) := by
  obtain ⟨q, rfl⟩ : ∃ q, p = q + 1 := ⟨p - 1, by have := h.1; omega⟩
  have h1 : (q + 1) ∣ (k + 1) * ch (q + 1) (k + 1) := ⟨ch q k, ch_mul q k⟩
  rcases h.dvd_mul h1 with h2 | h2
  · have := Nat.le_of_dvd (by omega) h2; omega
  · exact h2
theorem frob {p : Nat} (h : Prm p) (x : Nat) : (x + 1) ^ p % p = (x ^ p + 1) % p := by
  obtain ⟨q, rfl⟩ : ∃ q, p = q + 1 := ⟨p - 1, by have := h.1; omega⟩
  rw [binom, sm_shift]
  show ((ch (q + 1) 0 * x ^ 0) + (sm (fun k => ch (q + 1) (k + 1) * x ^ (k + 1)) q + ch (q + 1) (q + 1) * x ^ (q + 1))) % (q + 1) = _
  obtain ⟨m, hm⟩ := sm_dvd (p := q + 1) (f := fun k => ch (q + 1) (k + 1) * x ^ (k + 1)) q (fun k hk => Nat.dvd_trans (ch_dvd h k (by omega)) (Nat.dvd_mul_right _ _))
  rw [hm, ch_self, ch_0, Nat.pow_zero]
  simp only [Nat.one_mul, Nat.mul_one]
  rw [show 1 + ((q + 1) * m + x ^ (q + 1)) = x ^ (q + 1) + 1 + (q + 1) * m by omega, Nat.add_mul_mod_self_left]
theorem fermat_p {p : Nat} (h : Prm p) : ∀ a, a ^ p % p = a % p
  | 0 => by rw [Nat.zero_pow (by have := h.1; omega)]
  | a + 1 => by rw [frob h a, Nat.add_mod, fermat_p h a, ← Nat.add_mod]
theorem fermat {p : Nat} (h : Prm p) {a : Nat} (ha : ¬ p ∣ a) : a ^ (p - 1) % p = 1 := by
  have h1 := fermat_p h a
  have hp := h.1
  obtain ⟨q, rfl⟩ : ∃ q, p = q + 1 := ⟨p - 1, by omega⟩
  rw [Nat.add_sub_cancel]
  have h0 : 0 < a ^ q := Nat.pow_pos (by rcases Nat.eq_zero_or_pos a with e | e; · subst e; exact absurd (Nat.dvd_zero _) ha
                                         · exact e)
  have h2 : (q + 1) ∣ a * (a ^ q - 1) := by
    have h3 : a ^ (q + 1) = a * (a ^ q - 1) + a := by
      rw [Nat.pow_succ, Nat.mul_comm, Nat.mul_sub, Nat.mul_one]
      have : a ≤ a * a ^ q := Nat.le_mul_of_pos_right a h0
      omega
    have h4 := Nat.sub_mod_eq_zero_of_mod_eq h1
    rw [h3, Nat.add_sub_cancel] at h4
    exact Nat.dvd_of_mod_eq_zero h4
  rcases h.dvd_mul h2 with h3 | h3
  · exact absurd h3 ha
  · obtain ⟨m, hm⟩ := h3
    have : a ^ q = 1 + (q + 1) * m := by omega
    rw [this, Nat.add_mul_mod_self_left, Nat.mod_eq_of_lt hp]
end Go.Vm

/- Grouping does not matter: the identity on three points of the curve, by the values of polynomials. No condition. -/
set_option maxRecDepth 100000
set_option linter.unusedVariables false
namespace Go.Ec

def PP : Nat := 115792089237316195423570985008687907853269984665640564039457584007908834671663
abbrev Fp := Fin 115792089237316195423570985008687907853269984665640564039457584007908834671663

/-! ### Polynomials of three variables with natural coefficients, by their values at one place -/
abbrev KM := Nat × Nat × Nat × Nat
def kB : Nat := 2 ^ 160
def kD : Nat := 24
def kKey (m : KM) : Nat := m.2.1 + kD * m.2.2.1 + kD * kD * m.2.2.2
def kN : List KM → Nat
  | [] => 0
  | m :: l => m.1 * kB ^ kKey m + kN l
def nc (c : Nat) : Fp := Fin.ofNat 115792089237316195423570985008687907853269984665640564039457584007908834671663 c
theorem nc_add (a b : Nat) : nc (a + b) = nc a + nc b := by
  apply Fin.ext
  simp [nc, Fin.val_add, Fin.ofNat]
theorem nc_mul (a b : Nat) : nc (a * b) = nc a * nc b := by
  apply Fin.ext
  simp [nc, Fin.val_mul, Fin.ofNat, Nat.mul_mod]
theorem nc_0 : nc 0 = 0 := rfl
theorem nc_1 : nc 1 = 1 := rfl
def fpow (x : Fp) : Nat → Fp
  | 0 => 1
  | n + 1 => fpow x n * x
theorem fpow_add (x : Fp) (a : Nat) : ∀ b, fpow x (a + b) = fpow x a * fpow x b
  | 0 => by simp only [Nat.add_zero, fpow]; grobner
  | b + 1 => by rw [← Nat.add_assoc, fpow, fpow_add x a b, fpow]; grobner
def kMon (x1 x2 x3 : Fp) (m : KM) : Fp := fpow x1 m.2.1 * fpow x2 m.2.2.1 * fpow x3 m.2.2.2
def kF (x1 x2 x3 : Fp) : List KM → Fp
  | [] => 0
  | m :: l => nc m.1 * kMon x1 x2 x3 m + kF x1 x2 x3 l
def kSum : List KM → Nat
  | [] => 0
  | m :: l => m.1 + kSum l
abbrev D3 := Nat × Nat × Nat
def kLe (d : D3) (l : List KM) : Prop := ∀ m ∈ l, m.2.1 ≤ d.1 ∧ m.2.2.1 ≤ d.2.1 ∧ m.2.2.2 ≤ d.2.2
def kMul1 (m n : KM) : KM := (m.1 * n.1, m.2.1 + n.2.1, m.2.2.1 + n.2.2.1, m.2.2.2 + n.2.2.2)
def kMul : List KM → List KM → List KM
  | [], _ => []
  | m :: l, r => r.map (kMul1 m) ++ kMul l r
theorem kN_app : ∀ (l r : List KM), kN (l ++ r) = kN l + kN r
  | [], r => by simp [kN]
  | m :: l, r => by rw [List.cons_append, kN, kN_app l r, kN]; omega
theorem kN_map (m : KM) : ∀ (r : List KM), kN (r.map (kMul1 m)) = m.1 * kB ^ kKey m * kN r
  | [] => by simp [kN]
  | n :: r => by
    have e : kKey (kMul1 m n) = kKey m + kKey n := by
      simp only [kKey, kMul1, Nat.mul_add]
      omega
    rw [List.map_cons, kN, kN_map m r, kN, e, Nat.pow_add, Nat.mul_add]
    congr 1
    simp only [kMul1]
    ac_rfl
theorem kN_mul : ∀ (l r : List KM), kN (kMul l r) = kN l * kN r
  | [], r => by simp [kN, kMul]
  | m :: l, r => by rw [kMul, kN_app, kN_map, kN_mul l r, kN, Nat.add_mul]
theorem kSum_app : ∀ (l r : List KM), kSum (l ++ r) = kSum l + kSum r
  | [], r => by simp [kSum]
  | m :: l, r => by rw [List.cons_append, kSum, kSum_app l r, kSum]; omega
theorem kSum_map (m : KM) : ∀ (r : List KM), kSum (r.map (kMul1 m)) = m.1 * kSum r
  | [] => by simp [kSum]
  | n :: r => by rw [List.map_cons, kSum, kSum_map m r, kSum, Nat.mul_add]; rfl
theorem kSum_mul : ∀ (l r : List KM), kSum (kMul l r) = kSum l * kSum r
  | [], r => by simp [kSum, kMul]
  | m :: l, r => by rw [kMul, kSum_app, kSum_map, kSum_mul l r, kSum, Nat.add_mul]
theorem kF_app (x1 x2 x3 : Fp) : ∀ (l r : List KM), kF x1 x2 x3 (l ++ r) = kF x1 x2 x3 l + kF x1 x2 x3 r
  | [], r => by simp only [List.nil_append, kF]; grobner
  | m :: l, r => by rw [List.cons_append, kF, kF_app x1 x2 x3 l r, kF]; grobner
theorem kF_map (x1 x2 x3 : Fp) (m : KM) : ∀ (r : List KM), kF x1 x2 x3 (r.map (kMul1 m)) = nc m.1 * kMon x1 x2 x3 m * kF x1 x2 x3 r
  | [] => by simp only [List.map_nil, kF]; grobner
  | n :: r => by
    rw [List.map_cons, kF, kF_map x1 x2 x3 m r, kF]
    have e : kMon x1 x2 x3 (kMul1 m n) = kMon x1 x2 x3 m * kMon x1 x2 x3 n := by
      simp only [kMon, kMul1, fpow_add]
      grobner
    have e2 : nc (kMul1 m n).1 = nc m.1 * nc n.1 := nc_mul _ _
    rw [e, e2]
    grobner
theorem kF_mul (x1 x2 x3 : Fp) : ∀ (l r : List KM), kF x1 x2 x3 (kMul l r) = kF x1 x2 x3 l * kF x1 x2 x3 r
  | [], r => by simp only [kMul, kF]; grobner
  | m :: l, r => by rw [kMul, kF_app, kF_map, kF_mul x1 x2 x3 l r, kF]; grobner
theorem kLe_app {d : D3} {l r : List KM} (h : kLe d l) (h' : kLe d r) : kLe d (l ++ r) := fun m hm => (List.mem_append.1 hm).elim (h m) (h' m)
theorem kLe_mono {d e : D3} {l : List KM} (h : kLe d l) (hd : d.1 ≤ e.1 ∧ d.2.1 ≤ e.2.1 ∧ d.2.2 ≤ e.2.2) : kLe e l := fun m hm => by have := h m hm; omega
theorem kLe_mul {d e : D3} : ∀ {l r : List KM}, kLe d l → kLe e r → kLe (d.1 + e.1, d.2.1 + e.2.1, d.2.2 + e.2.2) (kMul l r)
  | [], r, _, _ => fun m hm => by cases hm
  | a :: l, r, h, h' => by
    refine kLe_app (fun m hm => ?_) (kLe_mul (fun m hm => h m (by simp [hm])) h')
    obtain ⟨n, hn, rfl⟩ := List.mem_map.1 hm
    have h1 := h a (by simp)
    have h2 := h' n hn
    simp only [kMul1]
    omega

/-! The coefficients are the digits -/
def sumTo (f : Nat → Nat) : Nat → Nat
  | 0 => 0
  | n + 1 => sumTo f n + f n
def sumToF (f : Nat → Fp) : Nat → Fp
  | 0 => 0
  | n + 1 => sumToF f n + f n
def tot (k : Nat) : List KM → Nat
  | [] => 0
  | m :: l => (if kKey m = k then m.1 else 0) + tot k l
theorem sumTo_add (f g : Nat → Nat) : ∀ n, sumTo (fun k => f k + g k) n = sumTo f n + sumTo g n
  | 0 => rfl
  | n + 1 => by simp only [sumTo, sumTo_add f g n]; omega
theorem sumToF_add (f g : Nat → Fp) : ∀ n, sumToF (fun k => f k + g k) n = sumToF f n + sumToF g n
  | 0 => by simp only [sumToF]; grobner
  | n + 1 => by simp only [sumToF, sumToF_add f g n]; grobner
theorem sumTo_one (c K : Nat) (g : Nat → Nat) : ∀ n, sumTo (fun k => (if K = k then c else 0) * g k) n = if K < n then c * g K else 0
  | 0 => by simp [sumTo]
  | n + 1 => by
    rw [sumTo, sumTo_one c K g n]
    by_cases h : K = n
    · subst h; simp
    · by_cases h2 : K < n
      · simp [h, h2, Nat.lt_succ_of_lt h2]
      · have : ¬ K < n + 1 := by omega
        simp [h, h2, this]
theorem sumToF_one (c K : Nat) (g : Nat → Fp) : ∀ n, sumToF (fun k => nc (if K = k then c else 0) * g k) n = if K < n then nc c * g K else 0
  | 0 => by simp [sumToF]
  | n + 1 => by
    rw [sumToF, sumToF_one c K g n]
    by_cases h : K = n
    · subst h
      rw [if_neg (Nat.lt_irrefl K), if_pos rfl, if_pos (Nat.lt_succ_self K)]
      grobner
    · rw [if_neg h, nc_0]
      by_cases h2 : K < n
      · rw [if_pos h2, if_pos (by omega)]; grobner
      · rw [if_neg h2, if_neg (by omega)]; grobner
theorem kN_tot (n : Nat) : ∀ (l : List KM), (∀ m ∈ l, kKey m < n) → kN l = sumTo (fun k => tot k l * kB ^ k) n
  | [], _ => by
    have : ∀ n, sumTo (fun k => tot k [] * kB ^ k) n = 0 := fun n => by
      induction n with
      | zero => rfl
      | succ n ih => rw [sumTo, ih]; simp [tot]
    rw [this]; rfl
  | m :: l, h => by
    rw [kN, kN_tot n l (fun a ha => h a (by simp [ha]))]
    have e : (fun k => tot k (m :: l) * kB ^ k) = fun k => (if kKey m = k then m.1 else 0) * kB ^ k + tot k l * kB ^ k := by
      funext k; simp only [tot, Nat.add_mul]
    rw [e, sumTo_add, sumTo_one, if_pos (h m (by simp))]
def keyMon (x1 x2 x3 : Fp) (k : Nat) : Fp := fpow x1 (k % kD) * fpow x2 (k / kD % kD) * fpow x3 (k / kD / kD)
theorem kF_tot (x1 x2 x3 : Fp) (n : Nat) : ∀ (l : List KM), (∀ m ∈ l, kKey m < n) → kLe (kD - 1, kD - 1, kD - 1) l → kF x1 x2 x3 l = sumToF (fun k => nc (tot k l) * keyMon x1 x2 x3 k) n
  | [], _, _ => by
    have : ∀ n, sumToF (fun k => nc (tot k []) * keyMon x1 x2 x3 k) n = 0 := fun n => by
      induction n with
      | zero => rfl
      | succ n ih =>
        rw [sumToF, ih]
        simp only [tot, nc_0]
        grobner
    rw [this]; rfl
  | m :: l, h, hd => by
    rw [kF, kF_tot x1 x2 x3 n l (fun a ha => h a (by simp [ha])) (fun a ha => hd a (by simp [ha]))]
    have e : (fun k => nc (tot k (m :: l)) * keyMon x1 x2 x3 k) = fun k => nc (if kKey m = k then m.1 else 0) * keyMon x1 x2 x3 k + nc (tot k l) * keyMon x1 x2 x3 k := by
      funext k
      simp only [tot, nc_add]
      grobner
    rw [e, sumToF_add, sumToF_one, if_pos (h m (by simp))]
    have hm := hd m (by simp)
    have e1 : kKey m % kD = m.2.1 := by simp only [kKey, kD] at *; omega
    have e2 : kKey m / kD % kD = m.2.2.1 := by simp only [kKey, kD] at *; omega
    have e3 : kKey m / kD / kD = m.2.2.2 := by simp only [kKey, kD] at *; omega
    have e4 : keyMon x1 x2 x3 (kKey m) = kMon x1 x2 x3 m := by simp only [keyMon, kMon, e1, e2, e3]
    rw [e4]
theorem tot_le (k : Nat) : ∀ (l : List KM), tot k l ≤ kSum l
  | [] => Nat.le_refl _
  | m :: l => by
    have := tot_le k l
    simp only [tot, kSum]
    split <;> omega
theorem sumTo_lt (f : Nat → Nat) (hf : ∀ k, f k < kB) : ∀ n, sumTo (fun k => f k * kB ^ k) n < kB ^ n
  | 0 => by simp [sumTo]
  | n + 1 => by
    have h1 := sumTo_lt f hf n
    have h2 : (f n + 1) * kB ^ n ≤ kB * kB ^ n := Nat.mul_le_mul_right _ (hf n)
    rw [Nat.add_mul, Nat.one_mul] at h2
    rw [sumTo, Nat.pow_succ, Nat.mul_comm (kB ^ n)]
    omega
theorem sumTo_inj (f g : Nat → Nat) (hf : ∀ k, f k < kB) (hg : ∀ k, g k < kB) : ∀ n, sumTo (fun k => f k * kB ^ k) n = sumTo (fun k => g k * kB ^ k) n → ∀ k, k < n → f k = g k
  | 0, _, k, hk => by omega
  | n + 1, h, k, hk => by
    have h1 := sumTo_lt f hf n
    have h2 := sumTo_lt g hg n
    rw [sumTo, sumTo] at h
    have hp : 0 < kB ^ n := by omega
    have e1 : f n = g n := by
      have := congrArg (· / kB ^ n) h
      rw [Nat.add_mul_div_right _ _ hp, Nat.add_mul_div_right _ _ hp, Nat.div_eq_of_lt h1, Nat.div_eq_of_lt h2] at this
      omega
    rw [e1] at h
    by_cases e : k = n
    · subst e; exact e1
    · exact sumTo_inj f g hf hg n (by omega) k (by omega)
theorem kron (x1 x2 x3 : Fp) (l r : List KM) (hl : kSum l < kB) (hr : kSum r < kB) (dl : kLe (kD - 1, kD - 1, kD - 1) l) (dr : kLe (kD - 1, kD - 1, kD - 1) r) (h : kN l = kN r) : kF x1 x2 x3 l = kF x1 x2 x3 r := by
  have key : ∀ (s : List KM), kLe (kD - 1, kD - 1, kD - 1) s → ∀ m ∈ s, kKey m < kD * kD * kD := fun s hs m hm => by
    have := hs m hm
    simp only [kKey, kD] at *
    omega
  rw [kN_tot _ l (key l dl), kN_tot _ r (key r dr)] at h
  have he := sumTo_inj (fun k => tot k l) (fun k => tot k r) (fun k => Nat.lt_of_le_of_lt (tot_le k l) hl) (fun k => Nat.lt_of_le_of_lt (tot_le k r) hr) _ h
  rw [kF_tot x1 x2 x3 _ l (key l dl) dl, kF_tot x1 x2 x3 _ r (key r dr) dr]
  have : ∀ n, (∀ k, k < n → tot k l = tot k r) → sumToF (fun k => nc (tot k l) * keyMon x1 x2 x3 k) n = sumToF (fun k => nc (tot k r) * keyMon x1 x2 x3 k) n := fun n => by
    induction n with
    | zero => intro _; rfl
    | succ n ih =>
      intro hk
      simp only [sumToF]
      rw [ih (fun k hkn => hk k (by omega)), hk n (by omega)]
  exact this _ he

/-! ### Reckoning with values of polynomials -/
structure Rk where
  α : Type
  A : α → α → α
  S : α → α → α
  M : α → α → α
  K : Nat → α
  Z : α → Bool
structure Rs (O : Rk) where
  R : O.α → Fp → Prop
  hA : ∀ {a b u v}, R a u → R b v → R (O.A a b) (u + v)
  hS : ∀ {a b u v}, R a u → R b v → R (O.S a b) (u - v)
  hM : ∀ {a b u v}, R a u → R b v → R (O.M a b) (u * v)
  hK : ∀ n, R (O.K n) (nc n)
  hZ : ∀ {a u}, O.Z a = true → R a u → u = 0

structure BV where
  P : Nat
  N : Nat
  s : Nat
  d : Nat × Nat × Nat
structure BR (x1 x2 x3 : Fp) (a : BV) (z : Fp) (lp ln : List KM) : Prop where
  hp : kN lp = a.P
  hn : kN ln = a.N
  hs : kSum lp + kSum ln ≤ a.s
  dp : kLe a.d lp
  dn : kLe a.d ln
  hz : z = kF x1 x2 x3 lp - kF x1 x2 x3 ln
def dmax (a b : Nat × Nat × Nat) : Nat × Nat × Nat := (Nat.add a.1 (Nat.sub b.1 a.1), Nat.add a.2.1 (Nat.sub b.2.1 a.2.1), Nat.add a.2.2 (Nat.sub b.2.2 a.2.2))
def dadd (a b : Nat × Nat × Nat) : Nat × Nat × Nat := (Nat.add a.1 b.1, Nat.add a.2.1 b.2.1, Nat.add a.2.2 b.2.2)
def bzz (a : BV) : Bool := Nat.beq a.s 0
def bneg (a : BV) : BV := ⟨a.N, a.P, a.s, a.d⟩
def bA (a b : BV) : BV := bif bzz a then b else bif bzz b then a else ⟨Nat.add a.P b.P, Nat.add a.N b.N, Nat.add a.s b.s, dmax a.d b.d⟩
def bS (a b : BV) : BV := bA a (bneg b)
def b0 : BV := ⟨0, 0, 0, (0, 0, 0)⟩
def bM (a b : BV) : BV := bif bzz a then b0 else bif bzz b then b0 else ⟨Nat.add (Nat.mul a.P b.P) (Nat.mul a.N b.N), Nat.add (Nat.mul a.P b.N) (Nat.mul a.N b.P), Nat.mul a.s b.s, dadd a.d b.d⟩
def bK (n : Nat) : BV := ⟨n, 0, n, (0, 0, 0)⟩
def bZ (a : BV) : Bool := Nat.beq a.P a.N && Nat.blt a.s kB && Nat.blt a.d.1 kD && Nat.blt a.d.2.1 kD && Nat.blt a.d.2.2 kD
theorem dmax_l (a b : Nat × Nat × Nat) : a.1 ≤ (dmax a b).1 ∧ a.2.1 ≤ (dmax a b).2.1 ∧ a.2.2 ≤ (dmax a b).2.2 := ⟨Nat.le_add_right _ _, Nat.le_add_right _ _, Nat.le_add_right _ _⟩
theorem dmax_r (a b : Nat × Nat × Nat) : b.1 ≤ (dmax a b).1 ∧ b.2.1 ≤ (dmax a b).2.1 ∧ b.2.2 ≤ (dmax a b).2.2 := by
  have h : ∀ x y : Nat, y ≤ Nat.add x (Nat.sub y x) := fun x y => by show y ≤ x + (y - x); omega
  exact ⟨h _ _, h _ _, h _ _⟩
theorem kF_zero (x1 x2 x3 : Fp) : ∀ (l : List KM), kSum l = 0 → kF x1 x2 x3 l = 0
  | [], _ => rfl
  | m :: l, h => by
    simp only [kSum] at h
    rw [kF, kF_zero x1 x2 x3 l (by omega), show m.1 = 0 by omega, nc_0]
    grobner
theorem bzz_ok {x1 x2 x3 : Fp} {a : BV} {u : Fp} (hz : bzz a = true) (h : ∃ l r, BR x1 x2 x3 a u l r) : u = 0 := by
  obtain ⟨l, r, h⟩ := h
  have e := Nat.eq_of_beq_eq_true hz
  have := h.hs
  rw [h.hz, kF_zero x1 x2 x3 l (by omega), kF_zero x1 x2 x3 r (by omega)]
  grobner
theorem b0_ok (x1 x2 x3 : Fp) : ∃ l r, BR x1 x2 x3 b0 0 l r :=
  ⟨[], [], rfl, rfl, Nat.le_refl _, fun m hm => (by cases hm), fun m hm => (by cases hm), by simp only [kF]; grobner⟩
theorem bneg_ok {x1 x2 x3 : Fp} {a : BV} {u : Fp} (h : ∃ l r, BR x1 x2 x3 a u l r) : ∃ l r, BR x1 x2 x3 (bneg a) (0 - u) l r := by
  obtain ⟨l, r, h⟩ := h
  exact ⟨r, l, h.hn, h.hp, by have := h.hs; show _ ≤ a.s; omega, h.dn, h.dp, by rw [h.hz]; grobner⟩
theorem bA_ok {x1 x2 x3 : Fp} {a b : BV} {u v : Fp} (h : ∃ l r, BR x1 x2 x3 a u l r) (h' : ∃ l r, BR x1 x2 x3 b v l r) : ∃ l r, BR x1 x2 x3 (bA a b) (u + v) l r := by
  unfold bA
  cases ha : bzz a with
  | true =>
    rw [bzz_ok ha h, show (0 : Fp) + v = v by grobner]
    exact h'
  | false =>
    cases hb : bzz b with
    | true =>
      rw [bzz_ok hb h', show u + (0 : Fp) = u by grobner]
      exact h
    | false =>
      obtain ⟨l, r, h⟩ := h
      obtain ⟨l', r', h'⟩ := h'
      refine ⟨l ++ l', r ++ r', ?_, ?_, ?_, ?_, ?_, ?_⟩
      · rw [kN_app, h.hp, h'.hp]; rfl
      · rw [kN_app, h.hn, h'.hn]; rfl
      · have := h.hs
        have := h'.hs
        rw [kSum_app, kSum_app]
        show _ ≤ a.s + b.s
        omega
      · exact kLe_app (kLe_mono h.dp (dmax_l _ _)) (kLe_mono h'.dp (dmax_r _ _))
      · exact kLe_app (kLe_mono h.dn (dmax_l _ _)) (kLe_mono h'.dn (dmax_r _ _))
      · rw [h.hz, h'.hz, kF_app, kF_app]; grobner
theorem bS_ok {x1 x2 x3 : Fp} {a b : BV} {u v : Fp} (h : ∃ l r, BR x1 x2 x3 a u l r) (h' : ∃ l r, BR x1 x2 x3 b v l r) : ∃ l r, BR x1 x2 x3 (bS a b) (u - v) l r := by
  rw [show u - v = u + (0 - v) by grobner]
  exact bA_ok h (bneg_ok h')
theorem bM_ok {x1 x2 x3 : Fp} {a b : BV} {u v : Fp} (h : ∃ l r, BR x1 x2 x3 a u l r) (h' : ∃ l r, BR x1 x2 x3 b v l r) : ∃ l r, BR x1 x2 x3 (bM a b) (u * v) l r := by
  unfold bM
  cases ha : bzz a with
  | true =>
    rw [bzz_ok ha h, show (0 : Fp) * v = 0 by grobner]
    exact b0_ok x1 x2 x3
  | false =>
    cases hb : bzz b with
    | true =>
      rw [bzz_ok hb h', show u * (0 : Fp) = 0 by grobner]
      exact b0_ok x1 x2 x3
    | false =>
      obtain ⟨l, r, h⟩ := h
      obtain ⟨l', r', h'⟩ := h'
      refine ⟨kMul l l' ++ kMul r r', kMul l r' ++ kMul r l', ?_, ?_, ?_, ?_, ?_, ?_⟩
      · rw [kN_app, kN_mul, kN_mul, h.hp, h'.hp, h.hn, h'.hn]; rfl
      · rw [kN_app, kN_mul, kN_mul, h.hp, h'.hp, h.hn, h'.hn]; rfl
      · rw [kSum_app, kSum_app, kSum_mul, kSum_mul, kSum_mul, kSum_mul]
        have := Nat.mul_le_mul h.hs h'.hs
        rw [Nat.add_mul, Nat.mul_add, Nat.mul_add] at this
        show _ ≤ a.s * b.s
        omega
      · exact kLe_app (kLe_mul h.dp h'.dp) (kLe_mul h.dn h'.dn)
      · exact kLe_app (kLe_mul h.dp h'.dn) (kLe_mul h.dn h'.dp)
      · rw [h.hz, h'.hz, kF_app, kF_app, kF_mul, kF_mul, kF_mul, kF_mul]; grobner
theorem bK_ok (x1 x2 x3 : Fp) (n : Nat) : ∃ l r, BR x1 x2 x3 (bK n) (nc n) l r := by
  refine ⟨[(n, 0, 0, 0)], [], ?_, rfl, ?_, ?_, ?_, ?_⟩
  · simp [kN, kKey, bK]
  · simp [kSum, bK]
  · intro m hm; simp at hm; subst hm; simp
  · intro m hm; cases hm
  · simp only [kF, kMon, fpow]; grobner
theorem bZ_ok {x1 x2 x3 : Fp} {a : BV} {u : Fp} (hz : bZ a = true) (h : ∃ l r, BR x1 x2 x3 a u l r) : u = 0 := by
  obtain ⟨l, r, h⟩ := h
  simp only [bZ, Bool.and_eq_true, Nat.blt_eq] at hz
  have e := Nat.eq_of_beq_eq_true hz.1.1.1.1
  have hs := h.hs
  have hd : a.d.1 ≤ kD - 1 ∧ a.d.2.1 ≤ kD - 1 ∧ a.d.2.2 ≤ kD - 1 := ⟨Nat.le_sub_one_of_lt hz.1.1.2, Nat.le_sub_one_of_lt hz.1.2, Nat.le_sub_one_of_lt hz.2⟩
  have k := kron x1 x2 x3 l r (by omega) (by omega) (kLe_mono h.dp hd) (kLe_mono h.dn hd) (by rw [h.hp, h.hn, e])
  rw [h.hz, k]
  grobner
def bX1 : BV := ⟨kB ^ 1, 0, 1, (1, 0, 0)⟩
def bX2 : BV := ⟨kB ^ kD, 0, 1, (0, 1, 0)⟩
def bX3 : BV := ⟨kB ^ (kD * kD), 0, 1, (0, 0, 1)⟩
theorem bX_ok (x1 x2 x3 : Fp) : (∃ l r, BR x1 x2 x3 bX1 x1 l r) ∧ (∃ l r, BR x1 x2 x3 bX2 x2 l r) ∧ (∃ l r, BR x1 x2 x3 bX3 x3 l r) := by
  refine ⟨⟨[(1, 1, 0, 0)], [], ?_, rfl, ?_, ?_, ?_, ?_⟩, ⟨[(1, 0, 1, 0)], [], ?_, rfl, ?_, ?_, ?_, ?_⟩, ⟨[(1, 0, 0, 1)], [], ?_, rfl, ?_, ?_, ?_, ?_⟩⟩
  all_goals first
    | (simp [kN, kKey, bX1, bX2, bX3]; done)
    | (simp [kSum, bX1, bX2, bX3]; done)
    | (intro m hm; cases hm; done)
    | (intro m hm; simp at hm; subst hm; simp [bX1, bX2, bX3]; done)
    | (simp only [kF, kMon, fpow, nc_1]; grobner)
def opB : Rk := ⟨BV, bA, bS, bM, bK, bZ⟩
def opE (O : Rk) (f : O.α) : Rk where
  α := O.α × O.α
  A a b := (O.A a.1 b.1, O.A a.2 b.2)
  S a b := (O.S a.1 b.1, O.S a.2 b.2)
  M a b := (O.A (O.M a.1 b.1) (O.M (O.M a.2 b.2) f), O.A (O.M a.1 b.2) (O.M a.2 b.1))
  K n := (O.K n, O.K 0)
  Z a := O.Z a.1 && O.Z a.2
def base (x1 x2 x3 : Fp) : Rs opB where
  R a z := ∃ l r, BR x1 x2 x3 a z l r
  hA := bA_ok
  hS := bS_ok
  hM := bM_ok
  hK := bK_ok x1 x2 x3
  hZ := bZ_ok

/-- with a square root of f -/
def ext {O : Rk} (G : Rs O) (f : O.α) (y z : Fp) (hf : G.R f z) (hy : y * y = z) : Rs (opE O f) where
  R a w := ∃ u v, G.R a.1 u ∧ G.R a.2 v ∧ w = u + v * y
  hA := fun ⟨u, v, h1, h2, h3⟩ ⟨u', v', h1', h2', h3'⟩ => ⟨_, _, G.hA h1 h1', G.hA h2 h2', by rw [h3, h3']; grobner⟩
  hS := fun ⟨u, v, h1, h2, h3⟩ ⟨u', v', h1', h2', h3'⟩ => ⟨_, _, G.hS h1 h1', G.hS h2 h2', by rw [h3, h3']; grobner⟩
  hM := fun ⟨u, v, h1, h2, h3⟩ ⟨u', v', h1', h2', h3'⟩ => ⟨_, _, G.hA (G.hM h1 h1') (G.hM (G.hM h2 h2') hf), G.hA (G.hM h1 h2') (G.hM h2 h1'), by rw [h3, h3', ← hy]; grobner⟩
  hK n := ⟨_, _, G.hK n, G.hK 0, by rw [nc_0]; grobner⟩
  hZ := fun hz ⟨u, v, h1, h2, h3⟩ => by
    have hz' := (Bool.and_eq_true _ _).mp hz
    rw [h3, G.hZ hz'.1 h1, G.hZ hz'.2 h2]
    grobner

/-! ### The sum of two points by one formula -/
def aX (x1 y1 z1 x2 y2 z2 : Fp) : Fp := (x1*y2+x2*y1)*(y1*y2-21*(z1*z2)) - 21*((y1*z2+y2*z1)*(x1*z2+x2*z1))
def aY (x1 y1 z1 x2 y2 z2 : Fp) : Fp := (y1*y2+21*(z1*z2))*(y1*y2-21*(z1*z2)) + 63*(x1*x2*(x1*z2+x2*z1))
def aZ (x1 y1 z1 x2 y2 z2 : Fp) : Fp := (y1*z2+y2*z1)*(y1*y2+21*(z1*z2)) + 3*(x1*x2*(x1*y2+x2*y1))
def gX (O : Rk) (x1 y1 z1 x2 y2 z2 : O.α) : O.α := O.S (O.M (O.A (O.M x1 y2) (O.M x2 y1)) (O.S (O.M y1 y2) (O.M (O.K 21) (O.M z1 z2)))) (O.M (O.K 21) (O.M (O.A (O.M y1 z2) (O.M y2 z1)) (O.A (O.M x1 z2) (O.M x2 z1))))
def gY (O : Rk) (x1 y1 z1 x2 y2 z2 : O.α) : O.α := O.A (O.M (O.A (O.M y1 y2) (O.M (O.K 21) (O.M z1 z2))) (O.S (O.M y1 y2) (O.M (O.K 21) (O.M z1 z2)))) (O.M (O.K 63) (O.M (O.M x1 x2) (O.A (O.M x1 z2) (O.M x2 z1))))
def gZ (O : Rk) (x1 y1 z1 x2 y2 z2 : O.α) : O.α := O.A (O.M (O.A (O.M y1 z2) (O.M y2 z1)) (O.A (O.M y1 y2) (O.M (O.K 21) (O.M z1 z2)))) (O.M (O.K 3) (O.M (O.M x1 x2) (O.A (O.M x1 y2) (O.M x2 y1))))
theorem nc_21 : nc 21 = 21 := rfl
theorem nc_63 : nc 63 = 63 := rfl
theorem nc_3 : nc 3 = 3 := rfl
theorem nc_7 : nc 7 = 7 := rfl
theorem g_ok {O : Rk} (G : Rs O) {x1 y1 z1 x2 y2 z2 : O.α} {a1 b1 c1 a2 b2 c2 : Fp} (h1 : G.R x1 a1) (h2 : G.R y1 b1) (h3 : G.R z1 c1) (h4 : G.R x2 a2) (h5 : G.R y2 b2) (h6 : G.R z2 c2) :
    G.R (gX O x1 y1 z1 x2 y2 z2) (aX a1 b1 c1 a2 b2 c2) ∧ G.R (gY O x1 y1 z1 x2 y2 z2) (aY a1 b1 c1 a2 b2 c2) ∧ G.R (gZ O x1 y1 z1 x2 y2 z2) (aZ a1 b1 c1 a2 b2 c2) := by
  have k21 := nc_21 ▸ G.hK 21
  have k63 := nc_63 ▸ G.hK 63
  have k3 := nc_3 ▸ G.hK 3
  exact ⟨G.hS (G.hM (G.hA (G.hM h1 h5) (G.hM h4 h2)) (G.hS (G.hM h2 h5) (G.hM k21 (G.hM h3 h6)))) (G.hM k21 (G.hM (G.hA (G.hM h2 h6) (G.hM h5 h3)) (G.hA (G.hM h1 h6) (G.hM h4 h3)))),
    G.hA (G.hM (G.hA (G.hM h2 h5) (G.hM k21 (G.hM h3 h6))) (G.hS (G.hM h2 h5) (G.hM k21 (G.hM h3 h6)))) (G.hM k63 (G.hM (G.hM h1 h4) (G.hA (G.hM h1 h6) (G.hM h4 h3)))),
    G.hA (G.hM (G.hA (G.hM h2 h6) (G.hM h5 h3)) (G.hA (G.hM h2 h5) (G.hM k21 (G.hM h3 h6)))) (G.hM k3 (G.hM (G.hM h1 h4) (G.hA (G.hM h1 h5) (G.hM h4 h2))))⟩

/-! ### Grouping does not matter -/
def fB (x : BV) : BV := bA (bM x (bM x x)) (bK 7)
def o1 : Rk := opE opB (fB bX1)
def o2 : Rk := opE o1 (fB bX2, bK 0)
def o3 : Rk := opE o2 ((fB bX3, bK 0), (bK 0, bK 0))
def in1 (a : BV) : o3.α := (((a, bK 0), (bK 0, bK 0)), ((bK 0, bK 0), (bK 0, bK 0)))
def tX1 : o3.α := in1 bX1
def tX2 : o3.α := in1 bX2
def tX3 : o3.α := in1 bX3
def tY1 : o3.α := (((bK 0, bK 1), (bK 0, bK 0)), ((bK 0, bK 0), (bK 0, bK 0)))
def tY2 : o3.α := (((bK 0, bK 0), (bK 1, bK 0)), ((bK 0, bK 0), (bK 0, bK 0)))
def tY3 : o3.α := (((bK 0, bK 0), (bK 0, bK 0)), ((bK 1, bK 0), (bK 0, bK 0)))
def t1 : o3.α := in1 (bK 1)
def sX : o3.α := gX o3 tX1 tY1 t1 tX2 tY2 t1
def sY : o3.α := gY o3 tX1 tY1 t1 tX2 tY2 t1
def sZ : o3.α := gZ o3 tX1 tY1 t1 tX2 tY2 t1
def rX : o3.α := gX o3 tX2 tY2 t1 tX3 tY3 t1
def rY : o3.α := gY o3 tX2 tY2 t1 tX3 tY3 t1
def rZ : o3.α := gZ o3 tX2 tY2 t1 tX3 tY3 t1
def lX : o3.α := gX o3 sX sY sZ tX3 tY3 t1
def lY : o3.α := gY o3 sX sY sZ tX3 tY3 t1
def lZ : o3.α := gZ o3 sX sY sZ tX3 tY3 t1
def qX : o3.α := gX o3 tX1 tY1 t1 rX rY rZ
def qY : o3.α := gY o3 tX1 tY1 t1 rX rY rZ
def qZ : o3.α := gZ o3 tX1 tY1 t1 rX rY rZ
def chkXZ : Bool := o3.Z (o3.S (o3.M lX qZ) (o3.M lZ qX))
def chkYZ : Bool := o3.Z (o3.S (o3.M lY qZ) (o3.M lZ qY))
def chkXY : Bool := o3.Z (o3.S (o3.M lX qY) (o3.M lY qX))
theorem chkXZ_ok : chkXZ = true := by decide +kernel
theorem chkYZ_ok : chkYZ = true := by decide +kernel
theorem chkXY_ok : chkXY = true := by decide +kernel

theorem ad0 (u y : Fp) : u = u + 0 * y := by grobner
theorem ad1 (y : Fp) : y = 0 + 1 * y := by grobner
theorem sub_0 {u v : Fp} (h : u - v = 0) : u = v := by grobner
theorem in_ok {x1 x2 x3 y1 y2 y3 : Fp} {z1 z2 z3 : Fp} {f1 f2 f3 : BV} {hf1 : (base x1 x2 x3).R f1 z1} {hy1 : y1 * y1 = z1} {hf2 : (ext (base x1 x2 x3) f1 y1 z1 hf1 hy1).R (f2, bK 0) z2} {hy2 : y2 * y2 = z2}
    {hf3 : (ext (ext (base x1 x2 x3) f1 y1 z1 hf1 hy1) (f2, bK 0) y2 z2 hf2 hy2).R ((f3, bK 0), (bK 0, bK 0)) z3} {hy3 : y3 * y3 = z3} {a : BV} {u : Fp} (h : (base x1 x2 x3).R a u) :
    (ext (ext (ext (base x1 x2 x3) f1 y1 z1 hf1 hy1) (f2, bK 0) y2 z2 hf2 hy2) ((f3, bK 0), (bK 0, bK 0)) y3 z3 hf3 hy3).R (((a, bK 0), (bK 0, bK 0)), ((bK 0, bK 0), (bK 0, bK 0))) u := by
  have z := bK_ok x1 x2 x3 0
  rw [nc_0] at z
  exact ⟨u, 0, ⟨u, 0, ⟨u, 0, h, z, ad0 _ _⟩, ⟨0, 0, z, z, ad0 _ _⟩, ad0 _ _⟩, ⟨0, 0, ⟨0, 0, z, z, ad0 _ _⟩, ⟨0, 0, z, z, ad0 _ _⟩, ad0 _ _⟩, ad0 _ _⟩

/-- the identity: (P + Q) + R and P + (Q + R) are one point -/
theorem group3 (x1 y1 x2 y2 x3 y3 : Fp) (h1 : y1 * y1 = x1 * (x1 * x1) + 7) (h2 : y2 * y2 = x2 * (x2 * x2) + 7) (h3 : y3 * y3 = x3 * (x3 * x3) + 7)
    (a b c : Fp) (ha : a = aX x1 y1 1 x2 y2 1) (hb : b = aY x1 y1 1 x2 y2 1) (hc : c = aZ x1 y1 1 x2 y2 1) (d e f : Fp) (hd : d = aX x2 y2 1 x3 y3 1) (he : e = aY x2 y2 1 x3 y3 1) (hf : f = aZ x2 y2 1 x3 y3 1) :
    aX a b c x3 y3 1 * aZ x1 y1 1 d e f = aZ a b c x3 y3 1 * aX x1 y1 1 d e f ∧ aY a b c x3 y3 1 * aZ x1 y1 1 d e f = aZ a b c x3 y3 1 * aY x1 y1 1 d e f ∧ aX a b c x3 y3 1 * aY x1 y1 1 d e f = aY a b c x3 y3 1 * aX x1 y1 1 d e f := by
  obtain ⟨k1, k2, k3⟩ := bX_ok x1 x2 x3
  have z := bK_ok x1 x2 x3 0
  rw [nc_0] at z
  have o := bK_ok x1 x2 x3 1
  rw [nc_1] at o
  have s7 := bK_ok x1 x2 x3 7
  rw [nc_7] at s7
  have f1 : (base x1 x2 x3).R (fB bX1) (x1 * (x1 * x1) + 7) := bA_ok (bM_ok k1 (bM_ok k1 k1)) s7
  have f2 : (base x1 x2 x3).R (fB bX2) (x2 * (x2 * x2) + 7) := bA_ok (bM_ok k2 (bM_ok k2 k2)) s7
  have f3 : (base x1 x2 x3).R (fB bX3) (x3 * (x3 * x3) + 7) := bA_ok (bM_ok k3 (bM_ok k3 k3)) s7
  let E1 := ext (base x1 x2 x3) (fB bX1) y1 _ f1 h1
  have f2' : E1.R (fB bX2, bK 0) (x2 * (x2 * x2) + 7) := ⟨x2 * (x2 * x2) + 7, 0, f2, z, ad0 _ _⟩
  let E2 := ext E1 (fB bX2, bK 0) y2 _ f2' h2
  have f3' : E2.R ((fB bX3, bK 0), (bK 0, bK 0)) (x3 * (x3 * x3) + 7) := ⟨x3 * (x3 * x3) + 7, 0, ⟨x3 * (x3 * x3) + 7, 0, f3, z, ad0 _ _⟩, ⟨0, 0, z, z, ad0 _ _⟩, ad0 _ _⟩
  let E3 : Rs o3 := ext E2 ((fB bX3, bK 0), (bK 0, bK 0)) y3 _ f3' h3
  have i1 : E3.R tX1 x1 := in_ok k1
  have i2 : E3.R tX2 x2 := in_ok k2
  have i3 : E3.R tX3 x3 := in_ok k3
  have io : E3.R t1 1 := in_ok o
  have zz : ∀ y : Fp, (ext (base x1 x2 x3) (fB bX1) y1 _ f1 h1).R (bK 0, bK 0) 0 := fun _ => ⟨0, 0, z, z, ad0 _ _⟩
  have z2 : E2.R ((bK 0, bK 0), (bK 0, bK 0)) 0 := ⟨0, 0, zz 0, zz 0, ad0 _ _⟩
  have j1 : E3.R tY1 y1 := ⟨y1, 0, ⟨y1, 0, ⟨0, 1, z, o, ad1 _⟩, zz 0, ad0 _ _⟩, z2, ad0 _ _⟩
  have j2 : E3.R tY2 y2 := ⟨y2, 0, ⟨0, 1, zz 0, ⟨1, 0, o, z, ad0 _ _⟩, ad1 _⟩, z2, ad0 _ _⟩
  have j3 : E3.R tY3 y3 := ⟨0, 1, z2, ⟨1, 0, ⟨1, 0, o, z, ad0 _ _⟩, zz 0, ad0 _ _⟩, ad1 _⟩
  obtain ⟨s1, s2, s3⟩ := g_ok E3 i1 j1 io i2 j2 io
  obtain ⟨r1, r2, r3⟩ := g_ok E3 i2 j2 io i3 j3 io
  obtain ⟨l1, l2, l3⟩ := g_ok E3 s1 s2 s3 i3 j3 io
  obtain ⟨q1, q2, q3⟩ := g_ok E3 i1 j1 io r1 r2 r3
  have a1 := E3.hZ chkXZ_ok (E3.hS (E3.hM l1 q3) (E3.hM l3 q1))
  have a2 := E3.hZ chkYZ_ok (E3.hS (E3.hM l2 q3) (E3.hM l3 q2))
  have a3 := E3.hZ chkXY_ok (E3.hS (E3.hM l1 q2) (E3.hM l2 q1))
  rw [ha, hb, hc, hd, he, hf]
  generalize aX (aX x1 y1 1 x2 y2 1) (aY x1 y1 1 x2 y2 1) (aZ x1 y1 1 x2 y2 1) x3 y3 1 = u1 at *
  generalize aY (aX x1 y1 1 x2 y2 1) (aY x1 y1 1 x2 y2 1) (aZ x1 y1 1 x2 y2 1) x3 y3 1 = u2 at *
  generalize aZ (aX x1 y1 1 x2 y2 1) (aY x1 y1 1 x2 y2 1) (aZ x1 y1 1 x2 y2 1) x3 y3 1 = u3 at *
  generalize aX x1 y1 1 (aX x2 y2 1 x3 y3 1) (aY x2 y2 1 x3 y3 1) (aZ x2 y2 1 x3 y3 1) = v1 at *
  generalize aY x1 y1 1 (aX x2 y2 1 x3 y3 1) (aY x2 y2 1 x3 y3 1) (aZ x2 y2 1 x3 y3 1) = v2 at *
  generalize aZ x1 y1 1 (aX x2 y2 1 x3 y3 1) (aY x2 y2 1 x3 y3 1) (aZ x2 y2 1 x3 y3 1) = v3 at *
  exact ⟨sub_0 a1, sub_0 a2, sub_0 a3⟩
end Go.Ec
