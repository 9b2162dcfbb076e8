/- The sum of a text. No condition. -/
import Derived.Test.YtfalpjjalbclcaaSi
set_option maxRecDepth 100000
set_option linter.unusedSimpArgs false
set_option linter.unusedVariables false
namespace Go.Vm
open Go Go.RowKit Go.Proofs

noncomputable def bN : Nat → Nat → UInt8 := Classical.choose (⟨fun n k => UInt8.ofNat (n / 2 ^ k), rfl⟩ : ∃ y : Nat → Nat → UInt8, y = fun n k => UInt8.ofNat (n / 2 ^ k))
theorem bN_eq : bN = fun n k => UInt8.ofNat (n / 2 ^ k) := Classical.choose_spec (⟨fun n k => UInt8.ofNat (n / 2 ^ k), rfl⟩ : ∃ y : Nat → Nat → UInt8, y = fun n k => UInt8.ofNat (n / 2 ^ k))
theorem shrN (n k : Nat) (h : k ≤ 64) : (n : Int).fdiv (2 ^ (min k IntKind.u64.bits)) = ((n / 2 ^ k : Nat) : Int) := by
  have hb : IntKind.u64.bits = 64 := rfl
  rw [hb, Nat.min_eq_left h, Int.fdiv_eq_ediv_of_nonneg _ (by exact Int.le_of_lt (Int.pow_pos (by omega)))]
  simp
theorem bN_mod (n k : Nat) : ((n / 2 ^ k : Nat) : Int) % 256 = ((bN n k).toNat : Int) := by rw [bN_eq]; simp
theorem bN_0 (n : Nat) : ((n : Nat) : Int) % 256 = ((bN n 0).toNat : Int) := by have := bN_mod n 0; simpa using this
theorem u8_id (b : UInt8) : (b.toNat : Int) % 256 = (b.toNat : Int) := by have := b.toNat_lt; omega
theorem tmod256 (n k : Nat) : ((n / 2 ^ k : Nat) : Int).tmod 256 = ((bN n k).toNat : Int) := by rw [← bN_mod, Int.tmod_eq_emod_of_nonneg (Int.natCast_nonneg _)]
theorem hn_tmod (w : W32) (k : Nat) : (hn (w >>> k)).tmod 256 = ((bN w.toNat k).toNat : Int) := by
  rw [← bN_mod, Int.tmod_eq_emod_of_nonneg (hn_lt _).1, hn_eq]
  simp [Nat.shiftRight_eq_div_pow]
theorem hn_mod64 (w : W32) : hn w % 18446744073709551616 = hn w := by have := hn_lt w; omega
theorem hn_toNat (w : W32) : (hn w).toNat = w.toNat := by rw [hn_eq]; rfl
noncomputable def be4 : Nat → List UInt8 := Classical.choose (⟨fun n => [bN n 24, bN n 16, bN n 8, bN n 0], rfl⟩ : ∃ y : Nat → List UInt8, y = fun n => [bN n 24, bN n 16, bN n 8, bN n 0])
theorem be4_eq : be4 = fun n => [bN n 24, bN n 16, bN n 8, bN n 0] := Classical.choose_spec (⟨fun n => [bN n 24, bN n 16, bN n 8, bN n 0], rfl⟩ : ∃ y : Nat → List UInt8, y = fun n => [bN n 24, bN n 16, bN n 8, bN n 0])
noncomputable def be8 : Nat → List UInt8 := Classical.choose (⟨fun n => [bN n 56, bN n 48, bN n 40, bN n 32, bN n 24, bN n 16, bN n 8, bN n 0], rfl⟩ : ∃ y : Nat → List UInt8, y = fun n => [bN n 56, bN n 48, bN n 40, bN n 32, bN n 24, bN n 16, bN n 8, bN n 0])
theorem be8_eq : be8 = fun n => [bN n 56, bN n 48, bN n 40, bN n 32, bN n 24, bN n 16, bN n 8, bN n 0] := Classical.choose_spec (⟨fun n => [bN n 56, bN n 48, bN n 40, bN n 32, bN n 24, bN n 16, bN n 8, bN n 0], rfl⟩ : ∃ y : Nat → List UInt8, y = fun n => [bN n 56, bN n 48, bN n 40, bN n 32, bN n 24, bN n 16, bN n 8, bN n 0])
theorem be4_len (n : Nat) : (be4 n).length = 4 := by rw [be4_eq]; rfl
theorem be8_len (n : Nat) : (be8 n).length = 8 := by rw [be8_eq]; rfl
def zN (len : Nat) : Nat := (119 - len % 64) % 64
noncomputable def padS : List UInt8 → List UInt8 := Classical.choose (⟨fun l => l ++ ((128 :: List.replicate (zN l.length) 0) ++ be8 (8 * l.length)), rfl⟩ : ∃ y : List UInt8 → List UInt8, y = fun l => l ++ ((128 :: List.replicate (zN l.length) 0) ++ be8 (8 * l.length)))
theorem padS_eq : padS = fun l => l ++ ((128 :: List.replicate (zN l.length) 0) ++ be8 (8 * l.length)) := Classical.choose_spec (⟨fun l => l ++ ((128 :: List.replicate (zN l.length) 0) ++ be8 (8 * l.length)), rfl⟩ : ∃ y : List UInt8 → List UInt8, y = fun l => l ++ ((128 :: List.replicate (zN l.length) 0) ++ be8 (8 * l.length)))
theorem padS_len (l : List UInt8) : (padS l).length = 64 * ((l.length + 8) / 64 + 1) := by
  rw [padS_eq]
  simp only [List.length_append, List.length_cons, List.length_replicate, be8_len, zN]
  omega
noncomputable def absR : Nat → H8 → List UInt8 → H8
  | 0, h, _ => h
  | n + 1, h, l => absR n (blkF h (l.take 64)) (l.drop 64)
noncomputable def absS : Nat → H8 → List UInt8 → H8 := Classical.choose (⟨absR, rfl⟩ : ∃ y : Nat → H8 → List UInt8 → H8, y = absR)
theorem absS_eq : absS = absR := Classical.choose_spec (⟨absR, rfl⟩ : ∃ y : Nat → H8 → List UInt8 → H8, y = absR)
theorem absS_0 (h : H8) (l : List UInt8) : absS 0 h l = h := by rw [absS_eq]; rfl
theorem absS_succ (n : Nat) (h : H8) (l : List UInt8) : absS (n + 1) h l = absS n (blkF h (l.take 64)) (l.drop 64) := by rw [absS_eq]; rfl
noncomputable def outH : H8 → List UInt8 := Classical.choose (⟨fun s => be4 s.a.toNat ++ be4 s.b.toNat ++ be4 s.c.toNat ++ be4 s.d.toNat ++ be4 s.e.toNat ++ be4 s.f.toNat ++ be4 s.g.toNat ++ be4 s.h.toNat, rfl⟩ : ∃ y : H8 → List UInt8, y = fun s => be4 s.a.toNat ++ be4 s.b.toNat ++ be4 s.c.toNat ++ be4 s.d.toNat ++ be4 s.e.toNat ++ be4 s.f.toNat ++ be4 s.g.toNat ++ be4 s.h.toNat)
theorem outH_eq : outH = fun s => be4 s.a.toNat ++ be4 s.b.toNat ++ be4 s.c.toNat ++ be4 s.d.toNat ++ be4 s.e.toNat ++ be4 s.f.toNat ++ be4 s.g.toNat ++ be4 s.h.toNat := Classical.choose_spec (⟨fun s => be4 s.a.toNat ++ be4 s.b.toNat ++ be4 s.c.toNat ++ be4 s.d.toNat ++ be4 s.e.toNat ++ be4 s.f.toNat ++ be4 s.g.toNat ++ be4 s.h.toNat, rfl⟩ : ∃ y : H8 → List UInt8, y = fun s => be4 s.a.toNat ++ be4 s.b.toNat ++ be4 s.c.toNat ++ be4 s.d.toNat ++ be4 s.e.toNat ++ be4 s.f.toNat ++ be4 s.g.toNat ++ be4 s.h.toNat)
noncomputable def sumS : List UInt8 → List UInt8 := Classical.choose (⟨fun l => outH (absS ((l.length + 8) / 64 + 1) HC (padS l)), rfl⟩ : ∃ y : List UInt8 → List UInt8, y = fun l => outH (absS ((l.length + 8) / 64 + 1) HC (padS l)))
theorem sumS_eq : sumS = fun l => outH (absS ((l.length + 8) / 64 + 1) HC (padS l)) := Classical.choose_spec (⟨fun l => outH (absS ((l.length + 8) / 64 + 1) HC (padS l)), rfl⟩ : ∃ y : List UInt8 → List UInt8, y = fun l => outH (absS ((l.length + 8) / 64 + 1) HC (padS l)))
theorem outH_len (s : H8) : (outH s).length = 32 := by rw [outH_eq]; simp [be4_len]
theorem sumS_len (l : List UInt8) : (sumS l).length = 32 := by rw [sumS_eq]; exact outH_len _
theorem be4_vals (n : Nat) : [Value.int .u8 ((bN n 24).toNat : Int), Value.int .u8 ((bN n 16).toNat : Int), Value.int .u8 ((bN n 8).toNat : Int), Value.int .u8 ((bN n 0).toNat : Int)] = vB (be4 n) := by rw [vB_eq, be4_eq]; rfl
theorem be8_vals (n : Nat) : [Value.int .u8 ((bN n 56).toNat : Int), Value.int .u8 ((bN n 48).toNat : Int), Value.int .u8 ((bN n 40).toNat : Int), Value.int .u8 ((bN n 32).toNat : Int), Value.int .u8 ((bN n 24).toNat : Int), Value.int .u8 ((bN n 16).toNat : Int), Value.int .u8 ((bN n 8).toNat : Int), Value.int .u8 ((bN n 0).toNat : Int)] = vB (be8 n) := by rw [vB_eq, be8_eq]; rfl

/-! ### high -/
set_option maxHeartbeats 4000000 in
theorem high_walk4 (n : Nat) : Spec Try.prog 21 [.pl (.int .u64 (n : Int)), .pl (.int .i64 (4 : Int))] (.one (.pl (.string (bstr (be4 n))))) := by
  have hΓ : Env.ok [] Try.prog := ok_nil _
  have hv := be4_vals n
  have hl : (vB (be4 n)).length = 4 := by rw [vB_len, be4_len]
  have ht : (vB (be4 n)).take 4 = vB (be4 n) := List.take_of_length_le (by omega)
  refine Spec.of_vx hΓ follows_mixed Try.func21 rfl (by kernel_rfl) (T := []) (by simp [Try.ntmps21]) (by kernel_rfl) rfl Try.ntmps21 (res := [.tmp 4]) rfl ?_
  intro W
  simp -implicitDefEqProofs (maxSteps := 100000000) only [vy_succ, vy_zero, vx_skip, vx_reg0, vx_reg1, vx_ord, xx_done, xx_stop, xx_alt, vx_seq, vx_cond, vx_block, vx_exit, vx_ret, vx_loop, gx_nil, gx_cons, dx_nil, dx_cons, slim, slimOp, gO, gSO, qSO, quietOp, cx_nil, cx_cons, xx_alc, cS, qSB, eK, calmOp, guardS, gK, qK, putK, plK, dOk, St.ev, St.get, St.mem, St.set, St.setm, St.put, lookA, look, newK, nextver, initT, seqE, blockQ, bodyQ, resK, retV, AV.rdv, cells_agg, cells_int, cells_bool, cells_string, cells_slice, cells_uV, agg_uV, isNil_uV, toN_uV, i64_in, IntKind.wrap_u64, IntKind.wrap_u8, IntKind.wrap_u32, ↓binK, ↓intK, unK, ↓loadK, ↓withKey_eq, ↓idxAddrK, ↓indexK, ↓partK, ↓fieldK, ↓fieldAddrK, ↓convK, ↓callK, wrG, updK, ↓lenK, ↓mmK, ↓appK, ↓copyK, ↓sliceK, ↓toArrK, nilK, optK_some, optK_tup, optK_ite, evs, plains, seqParts, capsOf, capsD, List.append_nil, List.nil_append, List.cons_append, AV.dv, AV.cont, isNil_agg, isNil_int, isNil_bool, isNil_string, isNil_nil, isNil_slice, ↓buildV_eq, fillL, placesOf, Option.map_some, Option.map_none, ↓storeK, wrL, RV.av, DV.av, List.set, List.map_cons, List.map_nil, List.length_cons, List.length_nil, List.all_cons, List.all_nil, List.getElem?_cons_zero, List.getElem?_cons_succ, List.getElem?_nil, List.size_toArray, List.getElem?_toArray, List.drop_zero, List.drop_succ_cons, List.take_zero, List.take_succ_cons, Option.getD_some, Option.getD_none, Option.some.injEq, Option.isSome_some, Nat.reduceEqDiff, Nat.reduceAdd, Nat.reduceSub, Nat.reduceMul, Nat.reduceLT, Nat.reduceLeDiff, Nat.reduceMod, Nat.reduceDiv, Int.cast_ofNat_Int, Int.reduceLT, Int.reduceLE, Int.reduceToNat, ↓reduceIte, true_and, and_true, true_or, or_true, or_false, false_or, reduceCtorEq, Bool.false_eq_true, Bool.and_true, Bool.not_true, Bool.not_false, beq_self_eq_true, Bool.true_beq, Bool.false_beq, Value.oneCell', decide_true, decide_false, Int.reduceAdd, Int.reduceSub, Int.reduceMod, Int.reduceMul, Int.reduceNeg, Int.reduceBEq, Int.reduceBNe, Int.reduceTDiv, Int.reduceTMod, ne_eq, not_false_eq_true, not_true_eq_false, Int.reduceEq, Nat.zero_add, Nat.add_zero, Nat.le_refl, Try.underlying2, s_2, g_2, z_2, Try.underlying3, s_3, g_3, z_3, Try.underlying4, s_4, g_4, z_4, Try.underlying5, s_5, g_5, z_5, Try.underlying9, s_9, g_9, z_9, Try.underlying12, s_12, g_12, z_12, Try.underlying13, s_13, g_13, z_13, q_13, Try.underlying21, s_21, g_21, z_21, Try.underlying22, s_22, g_22, z_22, Try.underlying23, s_23, g_23, z_23, q_23, Try.underlying24, s_24, g_24, z_24, Try.underlying29, s_29, g_29, l_29, r_29, Try.underlying38, s_38, g_38, l_38, r_38, Try.underlying39, s_39, g_39, z_39, q_39, Try.underlying43, s_43, g_43, l_43, r_43, Try.underlying47, s_47, g_47, z_47, Try.underlying49, s_49, g_49, z_49, Try.underlying50, s_50, g_50, l_50, r_50, List.replicate_succ, List.replicate_zero]
  refine VT_rounds hΓ follows_mixed 5 ?_
  simp -implicitDefEqProofs (maxSteps := 100000000) only [↓shrN, vy_succ, vy_zero, vx_skip, vx_reg0, vx_reg1, vx_ord, xx_done, xx_stop, xx_alt, vx_seq, vx_cond, vx_block, vx_exit, vx_ret, vx_loop, gx_nil, gx_cons, dx_nil, dx_cons, slim, slimOp, gO, gSO, qSO, quietOp, cx_nil, cx_cons, xx_alc, cS, qSB, eK, calmOp, guardS, gK, qK, putK, plK, dOk, St.ev, St.get, St.mem, St.set, St.setm, St.put, lookA, look, newK, nextver, initT, seqE, blockQ, bodyQ, resK, retV, AV.rdv, cells_agg, cells_int, cells_bool, cells_string, cells_slice, cells_uV, agg_uV, isNil_uV, toN_uV, i64_in, IntKind.wrap_u64, IntKind.wrap_u8, IntKind.wrap_u32, ↓binK, ↓intK, unK, ↓loadK, ↓withKey_eq, ↓idxAddrK, ↓indexK, ↓partK, ↓fieldK, ↓fieldAddrK, ↓convK, ↓callK, wrG, updK, ↓lenK, ↓mmK, ↓appK, ↓copyK, ↓sliceK, ↓toArrK, nilK, optK_some, optK_tup, optK_ite, evs, plains, seqParts, capsOf, capsD, List.append_nil, List.nil_append, List.cons_append, AV.dv, AV.cont, isNil_agg, isNil_int, isNil_bool, isNil_string, isNil_nil, isNil_slice, ↓buildV_eq, fillL, placesOf, Option.map_some, Option.map_none, ↓storeK, wrL, RV.av, DV.av, List.set, List.map_cons, List.map_nil, List.length_cons, List.length_nil, List.all_cons, List.all_nil, List.getElem?_cons_zero, List.getElem?_cons_succ, List.getElem?_nil, List.size_toArray, List.getElem?_toArray, List.drop_zero, List.drop_succ_cons, List.take_zero, List.take_succ_cons, Option.getD_some, Option.getD_none, Option.some.injEq, Option.isSome_some, Nat.reduceEqDiff, Nat.reduceAdd, Nat.reduceSub, Nat.reduceMul, Nat.reduceLT, Nat.reduceLeDiff, Nat.reduceMod, Nat.reduceDiv, Int.cast_ofNat_Int, Int.reduceLT, Int.reduceLE, Int.reduceToNat, ↓reduceIte, true_and, and_true, true_or, or_true, or_false, false_or, reduceCtorEq, Bool.false_eq_true, Bool.and_true, Bool.not_true, Bool.not_false, beq_self_eq_true, Bool.true_beq, Bool.false_beq, Value.oneCell', decide_true, decide_false, Int.reduceAdd, Int.reduceSub, Int.reduceMod, Int.reduceMul, Int.reduceNeg, Int.reduceBEq, Int.reduceBNe, Int.reduceTDiv, Int.reduceTMod, ne_eq, not_false_eq_true, not_true_eq_false, Int.reduceEq, Nat.zero_add, Nat.add_zero, Nat.le_refl, Try.underlying2, s_2, g_2, z_2, Try.underlying3, s_3, g_3, z_3, Try.underlying4, s_4, g_4, z_4, Try.underlying5, s_5, g_5, z_5, Try.underlying9, s_9, g_9, z_9, Try.underlying12, s_12, g_12, z_12, Try.underlying13, s_13, g_13, z_13, q_13, Try.underlying21, s_21, g_21, z_21, Try.underlying22, s_22, g_22, z_22, Try.underlying23, s_23, g_23, z_23, q_23, Try.underlying24, s_24, g_24, z_24, Try.underlying29, s_29, g_29, l_29, r_29, Try.underlying38, s_38, g_38, l_38, r_38, Try.underlying39, s_39, g_39, z_39, q_39, Try.underlying43, s_43, g_43, l_43, r_43, Try.underlying47, s_47, g_47, z_47, Try.underlying49, s_49, g_49, z_49, Try.underlying50, s_50, g_50, l_50, r_50, shrN, bN_mod, hv, hl, ht, vB_u8s]
set_option maxHeartbeats 4000000 in
theorem high_walk8 (n : Nat) : Spec Try.prog 21 [.pl (.int .u64 (n : Int)), .pl (.int .i64 (8 : Int))] (.one (.pl (.string (bstr (be8 n))))) := by
  have hΓ : Env.ok [] Try.prog := ok_nil _
  have hv := be8_vals n
  have hl : (vB (be8 n)).length = 8 := by rw [vB_len, be8_len]
  have ht : (vB (be8 n)).take 8 = vB (be8 n) := List.take_of_length_le (by omega)
  refine Spec.of_vx hΓ follows_mixed Try.func21 rfl (by kernel_rfl) (T := []) (by simp [Try.ntmps21]) (by kernel_rfl) rfl Try.ntmps21 (res := [.tmp 4]) rfl ?_
  intro W
  simp -implicitDefEqProofs (maxSteps := 100000000) only [vy_succ, vy_zero, vx_skip, vx_reg0, vx_reg1, vx_ord, xx_done, xx_stop, xx_alt, vx_seq, vx_cond, vx_block, vx_exit, vx_ret, vx_loop, gx_nil, gx_cons, dx_nil, dx_cons, slim, slimOp, gO, gSO, qSO, quietOp, cx_nil, cx_cons, xx_alc, cS, qSB, eK, calmOp, guardS, gK, qK, putK, plK, dOk, St.ev, St.get, St.mem, St.set, St.setm, St.put, lookA, look, newK, nextver, initT, seqE, blockQ, bodyQ, resK, retV, AV.rdv, cells_agg, cells_int, cells_bool, cells_string, cells_slice, cells_uV, agg_uV, isNil_uV, toN_uV, i64_in, IntKind.wrap_u64, IntKind.wrap_u8, IntKind.wrap_u32, ↓binK, ↓intK, unK, ↓loadK, ↓withKey_eq, ↓idxAddrK, ↓indexK, ↓partK, ↓fieldK, ↓fieldAddrK, ↓convK, ↓callK, wrG, updK, ↓lenK, ↓mmK, ↓appK, ↓copyK, ↓sliceK, ↓toArrK, nilK, optK_some, optK_tup, optK_ite, evs, plains, seqParts, capsOf, capsD, List.append_nil, List.nil_append, List.cons_append, AV.dv, AV.cont, isNil_agg, isNil_int, isNil_bool, isNil_string, isNil_nil, isNil_slice, ↓buildV_eq, fillL, placesOf, Option.map_some, Option.map_none, ↓storeK, wrL, RV.av, DV.av, List.set, List.map_cons, List.map_nil, List.length_cons, List.length_nil, List.all_cons, List.all_nil, List.getElem?_cons_zero, List.getElem?_cons_succ, List.getElem?_nil, List.size_toArray, List.getElem?_toArray, List.drop_zero, List.drop_succ_cons, List.take_zero, List.take_succ_cons, Option.getD_some, Option.getD_none, Option.some.injEq, Option.isSome_some, Nat.reduceEqDiff, Nat.reduceAdd, Nat.reduceSub, Nat.reduceMul, Nat.reduceLT, Nat.reduceLeDiff, Nat.reduceMod, Nat.reduceDiv, Int.cast_ofNat_Int, Int.reduceLT, Int.reduceLE, Int.reduceToNat, ↓reduceIte, true_and, and_true, true_or, or_true, or_false, false_or, reduceCtorEq, Bool.false_eq_true, Bool.and_true, Bool.not_true, Bool.not_false, beq_self_eq_true, Bool.true_beq, Bool.false_beq, Value.oneCell', decide_true, decide_false, Int.reduceAdd, Int.reduceSub, Int.reduceMod, Int.reduceMul, Int.reduceNeg, Int.reduceBEq, Int.reduceBNe, Int.reduceTDiv, Int.reduceTMod, ne_eq, not_false_eq_true, not_true_eq_false, Int.reduceEq, Nat.zero_add, Nat.add_zero, Nat.le_refl, Try.underlying2, s_2, g_2, z_2, Try.underlying3, s_3, g_3, z_3, Try.underlying4, s_4, g_4, z_4, Try.underlying5, s_5, g_5, z_5, Try.underlying9, s_9, g_9, z_9, Try.underlying12, s_12, g_12, z_12, Try.underlying13, s_13, g_13, z_13, q_13, Try.underlying21, s_21, g_21, z_21, Try.underlying22, s_22, g_22, z_22, Try.underlying23, s_23, g_23, z_23, q_23, Try.underlying24, s_24, g_24, z_24, Try.underlying29, s_29, g_29, l_29, r_29, Try.underlying38, s_38, g_38, l_38, r_38, Try.underlying39, s_39, g_39, z_39, q_39, Try.underlying43, s_43, g_43, l_43, r_43, Try.underlying47, s_47, g_47, z_47, Try.underlying49, s_49, g_49, z_49, Try.underlying50, s_50, g_50, l_50, r_50, List.replicate_succ, List.replicate_zero]
  refine VT_rounds hΓ follows_mixed 9 ?_
  simp -implicitDefEqProofs (maxSteps := 100000000) only [↓shrN, vy_succ, vy_zero, vx_skip, vx_reg0, vx_reg1, vx_ord, xx_done, xx_stop, xx_alt, vx_seq, vx_cond, vx_block, vx_exit, vx_ret, vx_loop, gx_nil, gx_cons, dx_nil, dx_cons, slim, slimOp, gO, gSO, qSO, quietOp, cx_nil, cx_cons, xx_alc, cS, qSB, eK, calmOp, guardS, gK, qK, putK, plK, dOk, St.ev, St.get, St.mem, St.set, St.setm, St.put, lookA, look, newK, nextver, initT, seqE, blockQ, bodyQ, resK, retV, AV.rdv, cells_agg, cells_int, cells_bool, cells_string, cells_slice, cells_uV, agg_uV, isNil_uV, toN_uV, i64_in, IntKind.wrap_u64, IntKind.wrap_u8, IntKind.wrap_u32, ↓binK, ↓intK, unK, ↓loadK, ↓withKey_eq, ↓idxAddrK, ↓indexK, ↓partK, ↓fieldK, ↓fieldAddrK, ↓convK, ↓callK, wrG, updK, ↓lenK, ↓mmK, ↓appK, ↓copyK, ↓sliceK, ↓toArrK, nilK, optK_some, optK_tup, optK_ite, evs, plains, seqParts, capsOf, capsD, List.append_nil, List.nil_append, List.cons_append, AV.dv, AV.cont, isNil_agg, isNil_int, isNil_bool, isNil_string, isNil_nil, isNil_slice, ↓buildV_eq, fillL, placesOf, Option.map_some, Option.map_none, ↓storeK, wrL, RV.av, DV.av, List.set, List.map_cons, List.map_nil, List.length_cons, List.length_nil, List.all_cons, List.all_nil, List.getElem?_cons_zero, List.getElem?_cons_succ, List.getElem?_nil, List.size_toArray, List.getElem?_toArray, List.drop_zero, List.drop_succ_cons, List.take_zero, List.take_succ_cons, Option.getD_some, Option.getD_none, Option.some.injEq, Option.isSome_some, Nat.reduceEqDiff, Nat.reduceAdd, Nat.reduceSub, Nat.reduceMul, Nat.reduceLT, Nat.reduceLeDiff, Nat.reduceMod, Nat.reduceDiv, Int.cast_ofNat_Int, Int.reduceLT, Int.reduceLE, Int.reduceToNat, ↓reduceIte, true_and, and_true, true_or, or_true, or_false, false_or, reduceCtorEq, Bool.false_eq_true, Bool.and_true, Bool.not_true, Bool.not_false, beq_self_eq_true, Bool.true_beq, Bool.false_beq, Value.oneCell', decide_true, decide_false, Int.reduceAdd, Int.reduceSub, Int.reduceMod, Int.reduceMul, Int.reduceNeg, Int.reduceBEq, Int.reduceBNe, Int.reduceTDiv, Int.reduceTMod, ne_eq, not_false_eq_true, not_true_eq_false, Int.reduceEq, Nat.zero_add, Nat.add_zero, Nat.le_refl, Try.underlying2, s_2, g_2, z_2, Try.underlying3, s_3, g_3, z_3, Try.underlying4, s_4, g_4, z_4, Try.underlying5, s_5, g_5, z_5, Try.underlying9, s_9, g_9, z_9, Try.underlying12, s_12, g_12, z_12, Try.underlying13, s_13, g_13, z_13, q_13, Try.underlying21, s_21, g_21, z_21, Try.underlying22, s_22, g_22, z_22, Try.underlying23, s_23, g_23, z_23, q_23, Try.underlying24, s_24, g_24, z_24, Try.underlying29, s_29, g_29, l_29, r_29, Try.underlying38, s_38, g_38, l_38, r_38, Try.underlying39, s_39, g_39, z_39, q_39, Try.underlying43, s_43, g_43, l_43, r_43, Try.underlying47, s_47, g_47, z_47, Try.underlying49, s_49, g_49, z_49, Try.underlying50, s_50, g_50, l_50, r_50, shrN, bN_mod, hv, hl, ht, vB_u8s]
noncomputable def highG : List DV → Option RV
  | [.pl (.int .u64 n), .pl (.int .i64 m)] => if 0 ≤ n then (if m = 4 then some (.one (.pl (.string (bstr (be4 n.toNat))))) else if m = 8 then some (.one (.pl (.string (bstr (be8 n.toNat))))) else none) else none
  | _ => none
theorem high_ok : ∀ ds r, highG ds = some r → Spec Try.prog 21 ds r := by
  intro ds r h
  unfold highG at h
  split at h
  case h_2 => cases h
  rename_i n m
  split at h
  case isFalse => cases h
  rename_i hn
  obtain ⟨n, rfl⟩ := Int.eq_ofNat_of_zero_le hn
  split at h
  · rename_i hm; subst hm; cases h; exact high_walk4 n
  · split at h
    · rename_i hm; subst hm; cases h; exact high_walk8 n
    · cases h
theorem highG_4 (w : W32) : highG [.pl (.int .u64 (hn w)), .pl (.int .i64 4)] = some (.one (.pl (.string (bstr (be4 w.toNat))))) := by
  unfold highG
  simp only
  rw [if_pos (hn_lt w).1, if_pos trivial, hn_toNat]
theorem highG_8 (n : Nat) : highG [.pl (.int .u64 (n : Int)), .pl (.int .i64 8)] = some (.one (.pl (.string (bstr (be8 n))))) := by
  unfold highG
  simp only
  rw [if_pos (by omega), if_neg (by omega), if_pos trivial, Int.toNat_natCast]
end Go.Vm
