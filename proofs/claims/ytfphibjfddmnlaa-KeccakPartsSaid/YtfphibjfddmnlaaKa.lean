/- Words of 64 bits; small contracts. No condition. -/
import Derived.Test.YtfphibjfddmnlaaU
import Derived.Test.YtfphibjfddmnlaaTy
import Derived.Laws.Bits64b
set_option maxRecDepth 100000
set_option linter.unusedSimpArgs false
set_option linter.unusedVariables false
namespace Go.Vm
open Go Go.RowKit Go.Proofs

abbrev W64 := BitVec 64
noncomputable def tn : W64 → Int := Classical.choose (⟨fun x => ((x.toNat : Nat) : Int), rfl⟩ : ∃ y : W64 → Int, y = fun x => ((x.toNat : Nat) : Int))
theorem tn_eq : tn = fun x => ((x.toNat : Nat) : Int) := Classical.choose_spec (⟨fun x => ((x.toNat : Nat) : Int), rfl⟩ : ∃ y : W64 → Int, y = fun x => ((x.toNat : Nat) : Int))
noncomputable def nt : Int → W64 := Classical.choose (⟨fun x => BitVec.ofInt 64 x, rfl⟩ : ∃ y : Int → W64, y = fun x => BitVec.ofInt 64 x)
theorem nt_eq : nt = fun x => BitVec.ofInt 64 x := Classical.choose_spec (⟨fun x => BitVec.ofInt 64 x, rfl⟩ : ∃ y : Int → W64, y = fun x => BitVec.ofInt 64 x)
theorem nt_tn (x : W64) : nt (tn x) = x := by rw [nt_eq, tn_eq]; simp
theorem tn_inj {x y : W64} (h : tn x = tn y) : x = y := by rw [← nt_tn x, h, nt_tn]
theorem tn_lt (x : W64) : 0 ≤ tn x ∧ tn x < 18446744073709551616 := by
  rw [tn_eq]
  have := x.isLt
  simp only
  omega
theorem okW_tn (x : W64) : okW (tn x) = true := okW_of (tn_lt x).1 (tn_lt x).2
theorem tn_nt {x : Int} (h : okW x = true) : tn (nt x) = x := by
  simp only [okW_eq, decide_eq_true_eq] at h
  rw [nt_eq, tn_eq]
  simp only [BitVec.toNat_ofInt]
  omega
theorem u64_wrap (n : Nat) (h : n < 18446744073709551616) : IntKind.u64.wrap (n : Int) = (n : Int) := by
  rw [IntKind.wrap_u64]; omega
theorem bits_xor_tn (x y : W64) : bits .xor .u64 (tn x) (tn y) = tn (x ^^^ y) := by
  have e : ∀ z : W64, BitVec.ofInt 64 (tn z) = z := fun z => by have := nt_tn z; rw [nt_eq] at this; exact this
  show IntKind.u64.wrap ((BitVec.ofInt 64 (tn x) ^^^ BitVec.ofInt 64 (tn y)).toNat : Int) = _
  rw [e, e, u64_wrap _ (x ^^^ y).isLt, tn_eq]
theorem bits_and_tn (x y : W64) : bits .and .u64 (tn x) (tn y) = tn (x &&& y) := by
  have e : ∀ z : W64, BitVec.ofInt 64 (tn z) = z := fun z => by have := nt_tn z; rw [nt_eq] at this; exact this
  show IntKind.u64.wrap ((BitVec.ofInt 64 (tn x) &&& BitVec.ofInt 64 (tn y)).toNat : Int) = _
  rw [e, e, u64_wrap _ (x &&& y).isLt, tn_eq]
theorem bits_or_tn (x y : W64) : bits .or .u64 (tn x) (tn y) = tn (x ||| y) := by
  have e : ∀ z : W64, BitVec.ofInt 64 (tn z) = z := fun z => by have := nt_tn z; rw [nt_eq] at this; exact this
  show IntKind.u64.wrap ((BitVec.ofInt 64 (tn x) ||| BitVec.ofInt 64 (tn y)).toNat : Int) = _
  rw [e, e, u64_wrap _ (x ||| y).isLt, tn_eq]
theorem tn_all : tn (BitVec.allOnes 64) = 18446744073709551615 := by rw [tn_eq]; decide
theorem not_xor (y : W64) : BitVec.allOnes 64 ^^^ y = ~~~y := BitVec.allOnes_xor
theorem unK_not (n : Int) (K : Value → Prop) : unK .xor (.int .u64 n) K = K (.int .u64 (bits .xor .u64 18446744073709551615 n)) := by
  have : (if IntKind.u64.signed then (-1 : Int) else IntKind.u64.max) = 18446744073709551615 := by decide
  show K (.int .u64 (bits .xor .u64 (if IntKind.u64.signed then -1 else IntKind.u64.max) n)) = _
  rw [this]
theorem bits_not_tn (y : W64) : bits .xor .u64 18446744073709551615 (tn y) = tn (~~~y) := by
  rw [← tn_all, bits_xor_tn, not_xor]
theorem sub_not_tn (y : W64) : IntKind.u64.wrap (18446744073709551615 - tn y) = tn (~~~y) := by
  rw [tn_eq]
  simp only [BitVec.toNat_not]
  rw [IntKind.wrap_u64]
  have := y.isLt
  omega

theorem and_63 (k : Int) (h : 0 ≤ k) (h' : k < 64) : bits .and .u64 k 63 = k := by
  obtain ⟨n, rfl⟩ := Int.eq_ofNat_of_zero_le h
  have := bits_and_u64_nat n 63 (by omega) (by omega)
  have e : bits .and .u64 (n : Int) 63 = ((n &&& 63 : Nat) : Int) := this
  rw [e]
  have h2 : n &&& (2 ^ 6 - 1) = n % 2 ^ 6 := Nat.and_two_pow_sub_one_eq_mod n 6
  have h3 : n &&& 63 = n % 64 := h2
  rw [h3]
  omega

noncomputable def rol : W64 → Nat → W64 := Classical.choose (⟨fun (x : W64) (k : Nat) => (x <<< k ||| x >>> (64 - k) : W64), rfl⟩ : ∃ y : W64 → Nat → W64, y = fun (x : W64) (k : Nat) => (x <<< k ||| x >>> (64 - k) : W64))
theorem rol_eq : rol = fun (x : W64) (k : Nat) => (x <<< k ||| x >>> (64 - k) : W64) := Classical.choose_spec (⟨fun (x : W64) (k : Nat) => (x <<< k ||| x >>> (64 - k) : W64), rfl⟩ : ∃ y : W64 → Nat → W64, y = fun (x : W64) (k : Nat) => (x <<< k ||| x >>> (64 - k) : W64))
theorem shl_tn (x : W64) (k : Nat) (h : k ≤ 64) : IntKind.u64.wrap (tn x * 2 ^ (min k IntKind.u64.bits)) = tn (x <<< k) := by
  have hb : IntKind.u64.bits = 64 := rfl
  rw [hb, Nat.min_eq_left h, tn_eq, IntKind.wrap_u64]
  simp only [BitVec.toNat_shiftLeft, Nat.shiftLeft_eq]
  have : ((x.toNat * 2 ^ k : Nat) : Int) = (x.toNat : Int) * 2 ^ k := by simp
  rw [← this]
  omega
theorem shr_tn (x : W64) (k : Nat) (h : k ≤ 64) : (tn x).fdiv (2 ^ (min k IntKind.u64.bits)) = tn (x >>> k) := by
  have hb : IntKind.u64.bits = 64 := rfl
  rw [hb, Nat.min_eq_left h, tn_eq]
  simp only [BitVec.toNat_ushiftRight, Nat.shiftRight_eq_div_pow]
  rw [Int.fdiv_eq_ediv_of_nonneg _ (by exact Int.le_of_lt (Int.pow_pos (by omega)))]
  simp

noncomputable def rotlG : List DV → Option RV
  | [.pl (.int .u64 x), .pl (.int .i64 k)] => if okW x = true ∧ 0 ≤ k ∧ k < 64 then some (.one (.pl (.int .u64 (tn (rol (nt x) k.toNat))))) else none
  | _ => none

set_option maxHeartbeats 4000000 in
theorem rotl_ok : ∀ ds r, rotlG ds = some r → Spec Try.prog 19 ds r := by
  intro ds r h
  unfold rotlG at h
  split at h
  case h_2 => cases h
  rename_i x k
  split at h
  case isFalse => cases h
  rename_i hc
  obtain ⟨hx, h0, h1⟩ := hc
  cases h
  obtain ⟨X, rfl⟩ : ∃ X, x = tn X := ⟨nt x, (tn_nt hx).symm⟩
  obtain ⟨k, rfl⟩ := Int.eq_ofNat_of_zero_le h0
  have hΓ : Env.ok [] Try.prog := ok_nil _
  have e1 := and_63 (k : Int) h0 h1
  have e2 : IntKind.u64.wrap (k : Int) = k := by rw [IntKind.wrap_u64]; omega
  have e3 : ((k : Int)).toNat = k := by omega
  have e4 : IntKind.u64.wrap (64 - (k : Int)) = 64 - (k : Int) := by rw [IntKind.wrap_u64]; omega
  have e5 : (64 - (k : Int)).toNat = 64 - k := by omega
  have e6 : (0 : Int) ≤ 64 - (k : Int) := by omega
  have s1 := shl_tn X k (by omega)
  have s2 := shr_tn X (64 - k) (by omega)
  rw [nt_tn, e3]
  have hr : rol X k = X <<< k ||| X >>> (64 - k) := by rw [rol_eq]
  rw [hr]
  refine Spec.of_vx hΓ follows_mixed Try.func19 rfl (by kernel_rfl) (T := []) (by simp [Try.ntmps19]) (by kernel_rfl) rfl Try.ntmps19 (res := [.tmp 4]) rfl ?_
  intro W
  simp -implicitDefEqProofs (maxSteps := 10000000) only [↓e1, ↓e2, ↓e4, ↓s1, ↓s2, vy_zero, vx_skip, vx_reg0, vx_reg1, vx_ord, xx_done, xx_stop, xx_alt, vx_seq, vx_cond, vx_block, vx_exit, vx_ret, vx_loop, gx_nil, gx_cons, dx_nil, dx_cons, slim, slimOp, gO, gSO, qSO, quietOp, cx_nil, cx_cons, xx_alc, cS, qSB, eK, calmOp, guardS, gK, qK, putK, plK, dOk, St.ev, St.get, St.mem, St.set, St.setm, St.put, lookA, look, newK, nextver, initT, seqE, blockQ, bodyQ, resK, retV, AV.rdv, cells_agg, cells_int, cells_bool, cells_string, cells_slice, cells_uV, agg_uV, isNil_uV, toN_uV, i64_in, IntKind.wrap_u64, IntKind.wrap_u8, IntKind.wrap_u32, ↓binK, ↓intK, unK, ↓loadK, ↓withKey_eq, ↓idxAddrK, ↓indexK, ↓partK, ↓fieldK, ↓fieldAddrK, ↓convK, ↓callK, wrG, updK, ↓lenK, ↓mmK, ↓appK, ↓copyK, ↓sliceK, ↓toArrK, nilK, optK_some, optK_tup, optK_ite, evs, plains, seqParts, capsOf, capsD, List.append_nil, List.nil_append, List.cons_append, AV.dv, AV.cont, isNil_agg, isNil_int, isNil_bool, isNil_string, isNil_nil, isNil_slice, ↓buildV_eq, fillL, placesOf, Option.map_some, Option.map_none, ↓storeK, wrL, RV.av, DV.av, List.set, List.map_cons, List.map_nil, List.length_cons, List.length_nil, List.all_cons, List.all_nil, List.getElem?_cons_zero, List.getElem?_cons_succ, List.getElem?_nil, List.size_toArray, List.getElem?_toArray, List.drop_zero, List.drop_succ_cons, List.take_zero, List.take_succ_cons, Option.getD_some, Option.getD_none, Option.some.injEq, Option.isSome_some, Nat.reduceEqDiff, Nat.reduceAdd, Nat.reduceSub, Nat.reduceMul, Nat.reduceLT, Nat.reduceLeDiff, Nat.reduceMod, Nat.reduceDiv, Int.cast_ofNat_Int, Int.reduceLT, Int.reduceLE, Int.reduceToNat, ↓reduceIte, true_and, and_true, true_or, or_true, or_false, false_or, reduceCtorEq, Bool.false_eq_true, Bool.and_true, Bool.not_true, Bool.not_false, beq_self_eq_true, Bool.true_beq, Bool.false_beq, Value.oneCell', decide_true, decide_false, Int.reduceAdd, Int.reduceSub, Int.reduceMod, Int.reduceMul, Int.reduceNeg, Int.reduceBEq, Int.reduceBNe, Int.reduceTDiv, Int.reduceTMod, ne_eq, not_false_eq_true, not_true_eq_false, Int.reduceEq, Nat.zero_add, Nat.add_zero, Nat.le_refl, Try.underlying2, s_2, g_2, z_2, Try.underlying3, s_3, g_3, z_3, Try.underlying4, s_4, g_4, z_4, Try.underlying5, s_5, g_5, z_5, Try.underlying9, s_9, g_9, z_9, Try.underlying12, s_12, g_12, z_12, Try.underlying13, s_13, g_13, z_13, q_13, Try.underlying21, s_21, g_21, z_21, Try.underlying25, s_25, g_25, z_25, Try.underlying26, s_26, g_26, z_26, q_26, Try.underlying32, s_32, g_32, l_32, r_32, Try.underlying34, s_34, g_34, z_34, Try.underlying35, s_35, g_35, z_35, q_35, Try.underlying38, s_38, g_38, z_38, q_38, Try.underlying42, s_42, g_42, l_42, r_42, Try.underlying44, s_44, g_44, z_44, q_44, Try.underlying57, s_57, g_57, l_57, r_57, Try.underlying69, s_69, g_69, z_69, e1, e2, e3, e4, e5, e6, h0, s1, s2, bits_or_tn]

theorem left_ok : ∀ ds r, rotlG ds = some r → Spec Try.prog 21 ds r := by
  intro ds r h
  unfold rotlG at h
  split at h
  case h_2 => cases h
  rename_i x k
  split at h
  case isFalse => cases h
  rename_i hc
  obtain ⟨hx, h0, h1⟩ := hc
  cases h
  obtain ⟨X, rfl⟩ : ∃ X, x = tn X := ⟨nt x, (tn_nt hx).symm⟩
  obtain ⟨k, rfl⟩ := Int.eq_ofNat_of_zero_le h0
  have hΓ : Env.ok [] Try.prog := ok_nil _
  have e2 : IntKind.u64.wrap (k : Int) = k := by rw [IntKind.wrap_u64]; omega
  have e3 : ((k : Int)).toNat = k := by omega
  have e4 : IntKind.u64.wrap (64 - (k : Int)) = 64 - (k : Int) := by rw [IntKind.wrap_u64]; omega
  have e7 : IntKind.i64.wrap (64 - (k : Int)) = 64 - (k : Int) := i64_in (by omega) (by omega)
  have e5 : (64 - (k : Int)).toNat = 64 - k := by omega
  have e6 : (0 : Int) ≤ 64 - (k : Int) := by omega
  have s1 := shl_tn X k (by omega)
  have s2 := shr_tn X (64 - k) (by omega)
  rw [nt_tn, e3]
  by_cases hk : k = 0
  · subst hk
    have hr : rol X 0 = X := by
      rw [rol_eq]
      apply BitVec.eq_of_getLsbD_eq
      intro i hi
      simp
    rw [hr]
    refine Spec.of_vx hΓ follows_mixed Try.func21 rfl (by kernel_rfl) (T := []) (by simp [Try.ntmps21]) (by kernel_rfl) rfl Try.ntmps21 (res := [.tmp 4]) rfl ?_
    intro W
    simp -implicitDefEqProofs (maxSteps := 10000000) only [vy_zero, vx_skip, vx_reg0, vx_reg1, vx_ord, xx_done, xx_stop, xx_alt, vx_seq, vx_cond, vx_block, vx_exit, vx_ret, vx_loop, gx_nil, gx_cons, dx_nil, dx_cons, slim, slimOp, gO, gSO, qSO, quietOp, cx_nil, cx_cons, xx_alc, cS, qSB, eK, calmOp, guardS, gK, qK, putK, plK, dOk, St.ev, St.get, St.mem, St.set, St.setm, St.put, lookA, look, newK, nextver, initT, seqE, blockQ, bodyQ, resK, retV, AV.rdv, cells_agg, cells_int, cells_bool, cells_string, cells_slice, cells_uV, agg_uV, isNil_uV, toN_uV, i64_in, IntKind.wrap_u64, IntKind.wrap_u8, IntKind.wrap_u32, ↓binK, ↓intK, unK, ↓loadK, ↓withKey_eq, ↓idxAddrK, ↓indexK, ↓partK, ↓fieldK, ↓fieldAddrK, ↓convK, ↓callK, wrG, updK, ↓lenK, ↓mmK, ↓appK, ↓copyK, ↓sliceK, ↓toArrK, nilK, optK_some, optK_tup, optK_ite, evs, plains, seqParts, capsOf, capsD, List.append_nil, List.nil_append, List.cons_append, AV.dv, AV.cont, isNil_agg, isNil_int, isNil_bool, isNil_string, isNil_nil, isNil_slice, ↓buildV_eq, fillL, placesOf, Option.map_some, Option.map_none, ↓storeK, wrL, RV.av, DV.av, List.set, List.map_cons, List.map_nil, List.length_cons, List.length_nil, List.all_cons, List.all_nil, List.getElem?_cons_zero, List.getElem?_cons_succ, List.getElem?_nil, List.size_toArray, List.getElem?_toArray, List.drop_zero, List.drop_succ_cons, List.take_zero, List.take_succ_cons, Option.getD_some, Option.getD_none, Option.some.injEq, Option.isSome_some, Nat.reduceEqDiff, Nat.reduceAdd, Nat.reduceSub, Nat.reduceMul, Nat.reduceLT, Nat.reduceLeDiff, Nat.reduceMod, Nat.reduceDiv, Int.cast_ofNat_Int, Int.reduceLT, Int.reduceLE, Int.reduceToNat, ↓reduceIte, true_and, and_true, true_or, or_true, or_false, false_or, reduceCtorEq, Bool.false_eq_true, Bool.and_true, Bool.not_true, Bool.not_false, beq_self_eq_true, Bool.true_beq, Bool.false_beq, Value.oneCell', decide_true, decide_false, Int.reduceAdd, Int.reduceSub, Int.reduceMod, Int.reduceMul, Int.reduceNeg, Int.reduceBEq, Int.reduceBNe, Int.reduceTDiv, Int.reduceTMod, ne_eq, not_false_eq_true, not_true_eq_false, Int.reduceEq, Nat.zero_add, Nat.add_zero, Nat.le_refl, Try.underlying2, s_2, g_2, z_2, Try.underlying3, s_3, g_3, z_3, Try.underlying4, s_4, g_4, z_4, Try.underlying5, s_5, g_5, z_5, Try.underlying9, s_9, g_9, z_9, Try.underlying12, s_12, g_12, z_12, Try.underlying13, s_13, g_13, z_13, q_13, Try.underlying21, s_21, g_21, z_21, Try.underlying25, s_25, g_25, z_25, Try.underlying26, s_26, g_26, z_26, q_26, Try.underlying32, s_32, g_32, l_32, r_32, Try.underlying34, s_34, g_34, z_34, Try.underlying35, s_35, g_35, z_35, q_35, Try.underlying38, s_38, g_38, z_38, q_38, Try.underlying42, s_42, g_42, l_42, r_42, Try.underlying44, s_44, g_44, z_44, q_44, Try.underlying57, s_57, g_57, l_57, r_57, Try.underlying69, s_69, g_69, z_69, Int.natCast_zero]
  · have hr : rol X k = X <<< k ||| X >>> (64 - k) := by rw [rol_eq]
    have b0 : ((k : Int) == 0) = false := by simp; omega
    rw [hr]
    refine Spec.of_vx hΓ follows_mixed Try.func21 rfl (by kernel_rfl) (T := []) (by simp [Try.ntmps21]) (by kernel_rfl) rfl Try.ntmps21 (res := [.tmp 4]) rfl ?_
    intro W
    simp -implicitDefEqProofs (maxSteps := 10000000) only [↓e2, ↓e4, ↓e7, ↓s1, ↓s2, vy_zero, vx_skip, vx_reg0, vx_reg1, vx_ord, xx_done, xx_stop, xx_alt, vx_seq, vx_cond, vx_block, vx_exit, vx_ret, vx_loop, gx_nil, gx_cons, dx_nil, dx_cons, slim, slimOp, gO, gSO, qSO, quietOp, cx_nil, cx_cons, xx_alc, cS, qSB, eK, calmOp, guardS, gK, qK, putK, plK, dOk, St.ev, St.get, St.mem, St.set, St.setm, St.put, lookA, look, newK, nextver, initT, seqE, blockQ, bodyQ, resK, retV, AV.rdv, cells_agg, cells_int, cells_bool, cells_string, cells_slice, cells_uV, agg_uV, isNil_uV, toN_uV, i64_in, IntKind.wrap_u64, IntKind.wrap_u8, IntKind.wrap_u32, ↓binK, ↓intK, unK, ↓loadK, ↓withKey_eq, ↓idxAddrK, ↓indexK, ↓partK, ↓fieldK, ↓fieldAddrK, ↓convK, ↓callK, wrG, updK, ↓lenK, ↓mmK, ↓appK, ↓copyK, ↓sliceK, ↓toArrK, nilK, optK_some, optK_tup, optK_ite, evs, plains, seqParts, capsOf, capsD, List.append_nil, List.nil_append, List.cons_append, AV.dv, AV.cont, isNil_agg, isNil_int, isNil_bool, isNil_string, isNil_nil, isNil_slice, ↓buildV_eq, fillL, placesOf, Option.map_some, Option.map_none, ↓storeK, wrL, RV.av, DV.av, List.set, List.map_cons, List.map_nil, List.length_cons, List.length_nil, List.all_cons, List.all_nil, List.getElem?_cons_zero, List.getElem?_cons_succ, List.getElem?_nil, List.size_toArray, List.getElem?_toArray, List.drop_zero, List.drop_succ_cons, List.take_zero, List.take_succ_cons, Option.getD_some, Option.getD_none, Option.some.injEq, Option.isSome_some, Nat.reduceEqDiff, Nat.reduceAdd, Nat.reduceSub, Nat.reduceMul, Nat.reduceLT, Nat.reduceLeDiff, Nat.reduceMod, Nat.reduceDiv, Int.cast_ofNat_Int, Int.reduceLT, Int.reduceLE, Int.reduceToNat, ↓reduceIte, true_and, and_true, true_or, or_true, or_false, false_or, reduceCtorEq, Bool.false_eq_true, Bool.and_true, Bool.not_true, Bool.not_false, beq_self_eq_true, Bool.true_beq, Bool.false_beq, Value.oneCell', decide_true, decide_false, Int.reduceAdd, Int.reduceSub, Int.reduceMod, Int.reduceMul, Int.reduceNeg, Int.reduceBEq, Int.reduceBNe, Int.reduceTDiv, Int.reduceTMod, ne_eq, not_false_eq_true, not_true_eq_false, Int.reduceEq, Nat.zero_add, Nat.add_zero, Nat.le_refl, Try.underlying2, s_2, g_2, z_2, Try.underlying3, s_3, g_3, z_3, Try.underlying4, s_4, g_4, z_4, Try.underlying5, s_5, g_5, z_5, Try.underlying9, s_9, g_9, z_9, Try.underlying12, s_12, g_12, z_12, Try.underlying13, s_13, g_13, z_13, q_13, Try.underlying21, s_21, g_21, z_21, Try.underlying25, s_25, g_25, z_25, Try.underlying26, s_26, g_26, z_26, q_26, Try.underlying32, s_32, g_32, l_32, r_32, Try.underlying34, s_34, g_34, z_34, Try.underlying35, s_35, g_35, z_35, q_35, Try.underlying38, s_38, g_38, z_38, q_38, Try.underlying42, s_42, g_42, l_42, r_42, Try.underlying44, s_44, g_44, z_44, q_44, Try.underlying57, s_57, g_57, l_57, r_57, Try.underlying69, s_69, g_69, z_69, e2, e3, e4, e5, e6, e7, h0, s1, s2, bits_or_tn, b0]

def atG : List DV → Option RV
  | [.pl (.int .i64 x), .pl (.int .i64 y)] => if 0 ≤ x ∧ x < 1000 ∧ 0 ≤ y ∧ y < 1000 then some (.one (.pl (.int .i64 (x % 5 + 5 * (y % 5))))) else none
  | _ => none

theorem at_ok : ∀ ds r, atG ds = some r → Spec Try.prog 20 ds r := by
  intro ds r h
  unfold atG at h
  split at h
  case h_2 => cases h
  rename_i x y
  split at h
  case isFalse => cases h
  rename_i hc
  cases h
  have hΓ : Env.ok [] Try.prog := ok_nil _
  have e1 : x.tmod 5 = x % 5 := by rw [Int.tmod_eq_emod_of_nonneg (by omega)]
  have e2 : y.tmod 5 = y % 5 := by rw [Int.tmod_eq_emod_of_nonneg (by omega)]
  have e3 : IntKind.i64.wrap (5 * (y % 5)) = 5 * (y % 5) := i64_in (by omega) (by omega)
  have e4 : IntKind.i64.wrap (x % 5 + 5 * (y % 5)) = x % 5 + 5 * (y % 5) := i64_in (by omega) (by omega)
  refine Spec.of_vx hΓ follows_mixed Try.func20 rfl (by kernel_rfl) (T := []) (by simp [Try.ntmps20]) (by kernel_rfl) rfl Try.ntmps20 (res := [.tmp 4]) rfl ?_
  intro W
  simp -implicitDefEqProofs (maxSteps := 10000000) only [vy_zero, vx_skip, vx_reg0, vx_reg1, vx_ord, xx_done, xx_stop, xx_alt, vx_seq, vx_cond, vx_block, vx_exit, vx_ret, vx_loop, gx_nil, gx_cons, dx_nil, dx_cons, slim, slimOp, gO, gSO, qSO, quietOp, cx_nil, cx_cons, xx_alc, cS, qSB, eK, calmOp, guardS, gK, qK, putK, plK, dOk, St.ev, St.get, St.mem, St.set, St.setm, St.put, lookA, look, newK, nextver, initT, seqE, blockQ, bodyQ, resK, retV, AV.rdv, cells_agg, cells_int, cells_bool, cells_string, cells_slice, cells_uV, agg_uV, isNil_uV, toN_uV, i64_in, IntKind.wrap_u64, IntKind.wrap_u8, IntKind.wrap_u32, ↓binK, ↓intK, unK, ↓loadK, ↓withKey_eq, ↓idxAddrK, ↓indexK, ↓partK, ↓fieldK, ↓fieldAddrK, ↓convK, ↓callK, wrG, updK, ↓lenK, ↓mmK, ↓appK, ↓copyK, ↓sliceK, ↓toArrK, nilK, optK_some, optK_tup, optK_ite, evs, plains, seqParts, capsOf, capsD, List.append_nil, List.nil_append, List.cons_append, AV.dv, AV.cont, isNil_agg, isNil_int, isNil_bool, isNil_string, isNil_nil, isNil_slice, ↓buildV_eq, fillL, placesOf, Option.map_some, Option.map_none, ↓storeK, wrL, RV.av, DV.av, List.set, List.map_cons, List.map_nil, List.length_cons, List.length_nil, List.all_cons, List.all_nil, List.getElem?_cons_zero, List.getElem?_cons_succ, List.getElem?_nil, List.size_toArray, List.getElem?_toArray, List.drop_zero, List.drop_succ_cons, List.take_zero, List.take_succ_cons, Option.getD_some, Option.getD_none, Option.some.injEq, Option.isSome_some, Nat.reduceEqDiff, Nat.reduceAdd, Nat.reduceSub, Nat.reduceMul, Nat.reduceLT, Nat.reduceLeDiff, Nat.reduceMod, Nat.reduceDiv, Int.cast_ofNat_Int, Int.reduceLT, Int.reduceLE, Int.reduceToNat, ↓reduceIte, true_and, and_true, true_or, or_true, or_false, false_or, reduceCtorEq, Bool.false_eq_true, Bool.and_true, Bool.not_true, Bool.not_false, beq_self_eq_true, Bool.true_beq, Bool.false_beq, Value.oneCell', decide_true, decide_false, Int.reduceAdd, Int.reduceSub, Int.reduceMod, Int.reduceMul, Int.reduceNeg, Int.reduceBEq, Int.reduceBNe, Int.reduceTDiv, Int.reduceTMod, ne_eq, not_false_eq_true, not_true_eq_false, Int.reduceEq, Nat.zero_add, Nat.add_zero, Nat.le_refl, Try.underlying2, s_2, g_2, z_2, Try.underlying3, s_3, g_3, z_3, Try.underlying4, s_4, g_4, z_4, Try.underlying5, s_5, g_5, z_5, Try.underlying9, s_9, g_9, z_9, Try.underlying12, s_12, g_12, z_12, Try.underlying13, s_13, g_13, z_13, q_13, Try.underlying21, s_21, g_21, z_21, Try.underlying25, s_25, g_25, z_25, Try.underlying26, s_26, g_26, z_26, q_26, Try.underlying32, s_32, g_32, l_32, r_32, Try.underlying34, s_34, g_34, z_34, Try.underlying35, s_35, g_35, z_35, q_35, Try.underlying38, s_38, g_38, z_38, q_38, Try.underlying42, s_42, g_42, l_42, r_42, Try.underlying44, s_44, g_44, z_44, q_44, Try.underlying57, s_57, g_57, l_57, r_57, Try.underlying69, s_69, g_69, z_69, e1, e2, e3, e4]

noncomputable def byV : Value := Classical.choose (⟨.agg #[.int .i64 0, .int .i64 1, .int .i64 62, .int .i64 28, .int .i64 27, .int .i64 36, .int .i64 44, .int .i64 6, .int .i64 55, .int .i64 20, .int .i64 3, .int .i64 10, .int .i64 43, .int .i64 25, .int .i64 39, .int .i64 41, .int .i64 45, .int .i64 15, .int .i64 21, .int .i64 8, .int .i64 18, .int .i64 2, .int .i64 61, .int .i64 56, .int .i64 14], rfl⟩ : ∃ y : Value, y = .agg #[.int .i64 0, .int .i64 1, .int .i64 62, .int .i64 28, .int .i64 27, .int .i64 36, .int .i64 44, .int .i64 6, .int .i64 55, .int .i64 20, .int .i64 3, .int .i64 10, .int .i64 43, .int .i64 25, .int .i64 39, .int .i64 41, .int .i64 45, .int .i64 15, .int .i64 21, .int .i64 8, .int .i64 18, .int .i64 2, .int .i64 61, .int .i64 56, .int .i64 14])
theorem byV_eq : byV = .agg #[.int .i64 0, .int .i64 1, .int .i64 62, .int .i64 28, .int .i64 27, .int .i64 36, .int .i64 44, .int .i64 6, .int .i64 55, .int .i64 20, .int .i64 3, .int .i64 10, .int .i64 43, .int .i64 25, .int .i64 39, .int .i64 41, .int .i64 45, .int .i64 15, .int .i64 21, .int .i64 8, .int .i64 18, .int .i64 2, .int .i64 61, .int .i64 56, .int .i64 14] := Classical.choose_spec (⟨.agg #[.int .i64 0, .int .i64 1, .int .i64 62, .int .i64 28, .int .i64 27, .int .i64 36, .int .i64 44, .int .i64 6, .int .i64 55, .int .i64 20, .int .i64 3, .int .i64 10, .int .i64 43, .int .i64 25, .int .i64 39, .int .i64 41, .int .i64 45, .int .i64 15, .int .i64 21, .int .i64 8, .int .i64 18, .int .i64 2, .int .i64 61, .int .i64 56, .int .i64 14], rfl⟩ : ∃ y : Value, y = .agg #[.int .i64 0, .int .i64 1, .int .i64 62, .int .i64 28, .int .i64 27, .int .i64 36, .int .i64 44, .int .i64 6, .int .i64 55, .int .i64 20, .int .i64 3, .int .i64 10, .int .i64 43, .int .i64 25, .int .i64 39, .int .i64 41, .int .i64 45, .int .i64 15, .int .i64 21, .int .i64 8, .int .i64 18, .int .i64 2, .int .i64 61, .int .i64 56, .int .i64 14])
noncomputable def toV : Value := Classical.choose (⟨.agg #[.int .i64 0, .int .i64 10, .int .i64 20, .int .i64 5, .int .i64 15, .int .i64 16, .int .i64 1, .int .i64 11, .int .i64 21, .int .i64 6, .int .i64 7, .int .i64 17, .int .i64 2, .int .i64 12, .int .i64 22, .int .i64 23, .int .i64 8, .int .i64 18, .int .i64 3, .int .i64 13, .int .i64 14, .int .i64 24, .int .i64 9, .int .i64 19, .int .i64 4], rfl⟩ : ∃ y : Value, y = .agg #[.int .i64 0, .int .i64 10, .int .i64 20, .int .i64 5, .int .i64 15, .int .i64 16, .int .i64 1, .int .i64 11, .int .i64 21, .int .i64 6, .int .i64 7, .int .i64 17, .int .i64 2, .int .i64 12, .int .i64 22, .int .i64 23, .int .i64 8, .int .i64 18, .int .i64 3, .int .i64 13, .int .i64 14, .int .i64 24, .int .i64 9, .int .i64 19, .int .i64 4])
theorem toV_eq : toV = .agg #[.int .i64 0, .int .i64 10, .int .i64 20, .int .i64 5, .int .i64 15, .int .i64 16, .int .i64 1, .int .i64 11, .int .i64 21, .int .i64 6, .int .i64 7, .int .i64 17, .int .i64 2, .int .i64 12, .int .i64 22, .int .i64 23, .int .i64 8, .int .i64 18, .int .i64 3, .int .i64 13, .int .i64 14, .int .i64 24, .int .i64 9, .int .i64 19, .int .i64 4] := Classical.choose_spec (⟨.agg #[.int .i64 0, .int .i64 10, .int .i64 20, .int .i64 5, .int .i64 15, .int .i64 16, .int .i64 1, .int .i64 11, .int .i64 21, .int .i64 6, .int .i64 7, .int .i64 17, .int .i64 2, .int .i64 12, .int .i64 22, .int .i64 23, .int .i64 8, .int .i64 18, .int .i64 3, .int .i64 13, .int .i64 14, .int .i64 24, .int .i64 9, .int .i64 19, .int .i64 4], rfl⟩ : ∃ y : Value, y = .agg #[.int .i64 0, .int .i64 10, .int .i64 20, .int .i64 5, .int .i64 15, .int .i64 16, .int .i64 1, .int .i64 11, .int .i64 21, .int .i64 6, .int .i64 7, .int .i64 17, .int .i64 2, .int .i64 12, .int .i64 22, .int .i64 23, .int .i64 8, .int .i64 18, .int .i64 3, .int .i64 13, .int .i64 14, .int .i64 24, .int .i64 9, .int .i64 19, .int .i64 4])
noncomputable def rcV : Value := Classical.choose (⟨.agg #[.int .u64 1, .int .u64 32898, .int .u64 9223372036854808714, .int .u64 9223372039002292224, .int .u64 32907, .int .u64 2147483649, .int .u64 9223372039002292353, .int .u64 9223372036854808585, .int .u64 138, .int .u64 136, .int .u64 2147516425, .int .u64 2147483658, .int .u64 2147516555, .int .u64 9223372036854775947, .int .u64 9223372036854808713, .int .u64 9223372036854808579, .int .u64 9223372036854808578, .int .u64 9223372036854775936, .int .u64 32778, .int .u64 9223372039002259466, .int .u64 9223372039002292353, .int .u64 9223372036854808704, .int .u64 2147483649, .int .u64 9223372039002292232], rfl⟩ : ∃ y : Value, y = .agg #[.int .u64 1, .int .u64 32898, .int .u64 9223372036854808714, .int .u64 9223372039002292224, .int .u64 32907, .int .u64 2147483649, .int .u64 9223372039002292353, .int .u64 9223372036854808585, .int .u64 138, .int .u64 136, .int .u64 2147516425, .int .u64 2147483658, .int .u64 2147516555, .int .u64 9223372036854775947, .int .u64 9223372036854808713, .int .u64 9223372036854808579, .int .u64 9223372036854808578, .int .u64 9223372036854775936, .int .u64 32778, .int .u64 9223372039002259466, .int .u64 9223372039002292353, .int .u64 9223372036854808704, .int .u64 2147483649, .int .u64 9223372039002292232])
theorem rcV_eq : rcV = .agg #[.int .u64 1, .int .u64 32898, .int .u64 9223372036854808714, .int .u64 9223372039002292224, .int .u64 32907, .int .u64 2147483649, .int .u64 9223372039002292353, .int .u64 9223372036854808585, .int .u64 138, .int .u64 136, .int .u64 2147516425, .int .u64 2147483658, .int .u64 2147516555, .int .u64 9223372036854775947, .int .u64 9223372036854808713, .int .u64 9223372036854808579, .int .u64 9223372036854808578, .int .u64 9223372036854775936, .int .u64 32778, .int .u64 9223372039002259466, .int .u64 9223372039002292353, .int .u64 9223372036854808704, .int .u64 2147483649, .int .u64 9223372039002292232] := Classical.choose_spec (⟨.agg #[.int .u64 1, .int .u64 32898, .int .u64 9223372036854808714, .int .u64 9223372039002292224, .int .u64 32907, .int .u64 2147483649, .int .u64 9223372039002292353, .int .u64 9223372036854808585, .int .u64 138, .int .u64 136, .int .u64 2147516425, .int .u64 2147483658, .int .u64 2147516555, .int .u64 9223372036854775947, .int .u64 9223372036854808713, .int .u64 9223372036854808579, .int .u64 9223372036854808578, .int .u64 9223372036854775936, .int .u64 32778, .int .u64 9223372039002259466, .int .u64 9223372039002292353, .int .u64 9223372036854808704, .int .u64 2147483649, .int .u64 9223372039002292232], rfl⟩ : ∃ y : Value, y = .agg #[.int .u64 1, .int .u64 32898, .int .u64 9223372036854808714, .int .u64 9223372039002292224, .int .u64 32907, .int .u64 2147483649, .int .u64 9223372039002292353, .int .u64 9223372036854808585, .int .u64 138, .int .u64 136, .int .u64 2147516425, .int .u64 2147483658, .int .u64 2147516555, .int .u64 9223372036854775947, .int .u64 9223372036854808713, .int .u64 9223372036854808579, .int .u64 9223372036854808578, .int .u64 9223372036854775936, .int .u64 32778, .int .u64 9223372039002259466, .int .u64 9223372039002292353, .int .u64 9223372036854808704, .int .u64 2147483649, .int .u64 9223372039002292232])
noncomputable def turnsG : List DV → Option RV
  | [] => some (.tup [.pl byV, .pl toV])
  | _ => none
noncomputable def constsG : List DV → Option RV
  | [] => some (.one (.pl rcV))
  | _ => none

theorem consts_ok : ∀ ds r, constsG ds = some r → Spec Try.prog 15 ds r := by
  intro ds r h
  unfold constsG at h
  split at h
  case h_2 => cases h
  cases h
  have hΓ : Env.ok [] Try.prog := ok_nil _
  rw [rcV_eq]
  refine Spec.of_vx hΓ follows_mixed Try.func15 rfl (by kernel_rfl) (T := []) (by simp [Try.ntmps15]) (by kernel_rfl) rfl Try.ntmps15 (res := [.cell 0 38]) rfl ?_
  intro W
  simp -implicitDefEqProofs (maxSteps := 10000000) only [vy_succ, vy_zero, vx_skip, vx_reg0, vx_reg1, vx_ord, xx_done, xx_stop, xx_alt, vx_seq, vx_cond, vx_block, vx_exit, vx_ret, vx_loop, gx_nil, gx_cons, dx_nil, dx_cons, slim, slimOp, gO, gSO, qSO, quietOp, cx_nil, cx_cons, xx_alc, cS, qSB, eK, calmOp, guardS, gK, qK, putK, plK, dOk, St.ev, St.get, St.mem, St.set, St.setm, St.put, lookA, look, newK, nextver, initT, seqE, blockQ, bodyQ, resK, retV, AV.rdv, cells_agg, cells_int, cells_bool, cells_string, cells_slice, cells_uV, agg_uV, isNil_uV, toN_uV, i64_in, IntKind.wrap_u64, IntKind.wrap_u8, IntKind.wrap_u32, ↓binK, ↓intK, unK, ↓loadK, ↓withKey_eq, ↓idxAddrK, ↓indexK, ↓partK, ↓fieldK, ↓fieldAddrK, ↓convK, ↓callK, wrG, updK, ↓lenK, ↓mmK, ↓appK, ↓copyK, ↓sliceK, ↓toArrK, nilK, optK_some, optK_tup, optK_ite, evs, plains, seqParts, capsOf, capsD, List.append_nil, List.nil_append, List.cons_append, AV.dv, AV.cont, isNil_agg, isNil_int, isNil_bool, isNil_string, isNil_nil, isNil_slice, ↓buildV_eq, fillL, placesOf, Option.map_some, Option.map_none, ↓storeK, wrL, RV.av, DV.av, List.set, List.map_cons, List.map_nil, List.length_cons, List.length_nil, List.all_cons, List.all_nil, List.getElem?_cons_zero, List.getElem?_cons_succ, List.getElem?_nil, List.size_toArray, List.getElem?_toArray, List.drop_zero, List.drop_succ_cons, List.take_zero, List.take_succ_cons, Option.getD_some, Option.getD_none, Option.some.injEq, Option.isSome_some, Nat.reduceEqDiff, Nat.reduceAdd, Nat.reduceSub, Nat.reduceMul, Nat.reduceLT, Nat.reduceLeDiff, Nat.reduceMod, Nat.reduceDiv, Int.cast_ofNat_Int, Int.reduceLT, Int.reduceLE, Int.reduceToNat, ↓reduceIte, true_and, and_true, true_or, or_true, or_false, false_or, reduceCtorEq, Bool.false_eq_true, Bool.and_true, Bool.not_true, Bool.not_false, beq_self_eq_true, Bool.true_beq, Bool.false_beq, Value.oneCell', decide_true, decide_false, Int.reduceAdd, Int.reduceSub, Int.reduceMod, Int.reduceMul, Int.reduceNeg, Int.reduceBEq, Int.reduceBNe, Int.reduceTDiv, Int.reduceTMod, ne_eq, not_false_eq_true, not_true_eq_false, Int.reduceEq, Nat.zero_add, Nat.add_zero, Nat.le_refl, Try.underlying2, s_2, g_2, z_2, Try.underlying3, s_3, g_3, z_3, Try.underlying4, s_4, g_4, z_4, Try.underlying5, s_5, g_5, z_5, Try.underlying9, s_9, g_9, z_9, Try.underlying12, s_12, g_12, z_12, Try.underlying13, s_13, g_13, z_13, q_13, Try.underlying21, s_21, g_21, z_21, Try.underlying25, s_25, g_25, z_25, Try.underlying26, s_26, g_26, z_26, q_26, Try.underlying32, s_32, g_32, l_32, r_32, Try.underlying34, s_34, g_34, z_34, Try.underlying35, s_35, g_35, z_35, q_35, Try.underlying38, s_38, g_38, z_38, q_38, Try.underlying42, s_42, g_42, l_42, r_42, Try.underlying44, s_44, g_44, z_44, q_44, Try.underlying57, s_57, g_57, l_57, r_57, Try.underlying69, s_69, g_69, z_69]

def turnsTree : OT := .alt 0 (.alt 1 (.alt 2 (.alt 3 (.done) (.stop)) (.stop)) (.alt 2 (.alt 1 (.alt 3 (.done) (.stop)) (.stop)) (.stop))) (.alt 1 (.alt 0 (.alt 2 (.alt 3 (.done) (.stop)) (.stop)) (.stop)) (.stop))
set_option maxHeartbeats 40000000 in
theorem turns_ok : ∀ ds r, turnsG ds = some r → Spec Try.prog 14 ds r := by
  intro ds r h
  unfold turnsG at h
  split at h
  case h_2 => cases h
  cases h
  have hΓ : Env.ok [] Try.prog := ok_nil _
  rw [byV_eq, toV_eq]
  refine Spec.of_vx hΓ follows_mixed Try.func14 rfl (by kernel_rfl) (T := [(15, turnsTree)]) (by simp [Try.ntmps14]) (by kernel_rfl) rfl Try.ntmps14 (res := [.cell 0 35, .cell 1 35]) rfl ?_
  intro W
  simp -implicitDefEqProofs (maxSteps := 10000000) only [vy_succ, vy_zero, vx_skip, vx_reg0, vx_reg1, vx_ord, xx_done, xx_stop, xx_alt, vx_seq, vx_cond, vx_block, vx_exit, vx_ret, vx_loop, gx_nil, gx_cons, dx_nil, dx_cons, slim, slimOp, gO, gSO, qSO, quietOp, cx_nil, cx_cons, xx_alc, cS, qSB, eK, calmOp, guardS, gK, qK, putK, plK, dOk, St.ev, St.get, St.mem, St.set, St.setm, St.put, lookA, look, newK, nextver, initT, seqE, blockQ, bodyQ, resK, retV, AV.rdv, cells_agg, cells_int, cells_bool, cells_string, cells_slice, cells_uV, agg_uV, isNil_uV, toN_uV, i64_in, IntKind.wrap_u64, IntKind.wrap_u8, IntKind.wrap_u32, ↓binK, ↓intK, unK, ↓loadK, ↓withKey_eq, ↓idxAddrK, ↓indexK, ↓partK, ↓fieldK, ↓fieldAddrK, ↓convK, ↓callK, wrG, updK, ↓lenK, ↓mmK, ↓appK, ↓copyK, ↓sliceK, ↓toArrK, nilK, optK_some, optK_tup, optK_ite, evs, plains, seqParts, capsOf, capsD, List.append_nil, List.nil_append, List.cons_append, AV.dv, AV.cont, isNil_agg, isNil_int, isNil_bool, isNil_string, isNil_nil, isNil_slice, ↓buildV_eq, fillL, placesOf, Option.map_some, Option.map_none, ↓storeK, wrL, RV.av, DV.av, List.set, List.map_cons, List.map_nil, List.length_cons, List.length_nil, List.all_cons, List.all_nil, List.getElem?_cons_zero, List.getElem?_cons_succ, List.getElem?_nil, List.size_toArray, List.getElem?_toArray, List.drop_zero, List.drop_succ_cons, List.take_zero, List.take_succ_cons, Option.getD_some, Option.getD_none, Option.some.injEq, Option.isSome_some, Nat.reduceEqDiff, Nat.reduceAdd, Nat.reduceSub, Nat.reduceMul, Nat.reduceLT, Nat.reduceLeDiff, Nat.reduceMod, Nat.reduceDiv, Int.cast_ofNat_Int, Int.reduceLT, Int.reduceLE, Int.reduceToNat, ↓reduceIte, true_and, and_true, true_or, or_true, or_false, false_or, reduceCtorEq, Bool.false_eq_true, Bool.and_true, Bool.not_true, Bool.not_false, beq_self_eq_true, Bool.true_beq, Bool.false_beq, Value.oneCell', decide_true, decide_false, Int.reduceAdd, Int.reduceSub, Int.reduceMod, Int.reduceMul, Int.reduceNeg, Int.reduceBEq, Int.reduceBNe, Int.reduceTDiv, Int.reduceTMod, ne_eq, not_false_eq_true, not_true_eq_false, Int.reduceEq, Nat.zero_add, Nat.add_zero, Nat.le_refl, Try.underlying2, s_2, g_2, z_2, Try.underlying3, s_3, g_3, z_3, Try.underlying4, s_4, g_4, z_4, Try.underlying5, s_5, g_5, z_5, Try.underlying9, s_9, g_9, z_9, Try.underlying12, s_12, g_12, z_12, Try.underlying13, s_13, g_13, z_13, q_13, Try.underlying21, s_21, g_21, z_21, Try.underlying25, s_25, g_25, z_25, Try.underlying26, s_26, g_26, z_26, q_26, Try.underlying32, s_32, g_32, l_32, r_32, Try.underlying34, s_34, g_34, z_34, Try.underlying35, s_35, g_35, z_35, q_35, Try.underlying38, s_38, g_38, z_38, q_38, Try.underlying42, s_42, g_42, l_42, r_42, Try.underlying44, s_44, g_44, z_44, q_44, Try.underlying57, s_57, g_57, l_57, r_57, Try.underlying69, s_69, g_69, z_69, turnsTree]
  refine VT_rounds hΓ follows_mixed 25 ?_
  simp -implicitDefEqProofs (maxSteps := 100000000) only [vy_succ, vy_zero, vx_skip, vx_reg0, vx_reg1, vx_ord, xx_done, xx_stop, xx_alt, vx_seq, vx_cond, vx_block, vx_exit, vx_ret, vx_loop, gx_nil, gx_cons, dx_nil, dx_cons, slim, slimOp, gO, gSO, qSO, quietOp, cx_nil, cx_cons, xx_alc, cS, qSB, eK, calmOp, guardS, gK, qK, putK, plK, dOk, St.ev, St.get, St.mem, St.set, St.setm, St.put, lookA, look, newK, nextver, initT, seqE, blockQ, bodyQ, resK, retV, AV.rdv, cells_agg, cells_int, cells_bool, cells_string, cells_slice, cells_uV, agg_uV, isNil_uV, toN_uV, i64_in, IntKind.wrap_u64, IntKind.wrap_u8, IntKind.wrap_u32, ↓binK, ↓intK, unK, ↓loadK, ↓withKey_eq, ↓idxAddrK, ↓indexK, ↓partK, ↓fieldK, ↓fieldAddrK, ↓convK, ↓callK, wrG, updK, ↓lenK, ↓mmK, ↓appK, ↓copyK, ↓sliceK, ↓toArrK, nilK, optK_some, optK_tup, optK_ite, evs, plains, seqParts, capsOf, capsD, List.append_nil, List.nil_append, List.cons_append, AV.dv, AV.cont, isNil_agg, isNil_int, isNil_bool, isNil_string, isNil_nil, isNil_slice, ↓buildV_eq, fillL, placesOf, Option.map_some, Option.map_none, ↓storeK, wrL, RV.av, DV.av, List.set, List.map_cons, List.map_nil, List.length_cons, List.length_nil, List.all_cons, List.all_nil, List.getElem?_cons_zero, List.getElem?_cons_succ, List.getElem?_nil, List.size_toArray, List.getElem?_toArray, List.drop_zero, List.drop_succ_cons, List.take_zero, List.take_succ_cons, Option.getD_some, Option.getD_none, Option.some.injEq, Option.isSome_some, Nat.reduceEqDiff, Nat.reduceAdd, Nat.reduceSub, Nat.reduceMul, Nat.reduceLT, Nat.reduceLeDiff, Nat.reduceMod, Nat.reduceDiv, Int.cast_ofNat_Int, Int.reduceLT, Int.reduceLE, Int.reduceToNat, ↓reduceIte, true_and, and_true, true_or, or_true, or_false, false_or, reduceCtorEq, Bool.false_eq_true, Bool.and_true, Bool.not_true, Bool.not_false, beq_self_eq_true, Bool.true_beq, Bool.false_beq, Value.oneCell', decide_true, decide_false, Int.reduceAdd, Int.reduceSub, Int.reduceMod, Int.reduceMul, Int.reduceNeg, Int.reduceBEq, Int.reduceBNe, Int.reduceTDiv, Int.reduceTMod, ne_eq, not_false_eq_true, not_true_eq_false, Int.reduceEq, Nat.zero_add, Nat.add_zero, Nat.le_refl, Try.underlying2, s_2, g_2, z_2, Try.underlying3, s_3, g_3, z_3, Try.underlying4, s_4, g_4, z_4, Try.underlying5, s_5, g_5, z_5, Try.underlying9, s_9, g_9, z_9, Try.underlying12, s_12, g_12, z_12, Try.underlying13, s_13, g_13, z_13, q_13, Try.underlying21, s_21, g_21, z_21, Try.underlying25, s_25, g_25, z_25, Try.underlying26, s_26, g_26, z_26, q_26, Try.underlying32, s_32, g_32, l_32, r_32, Try.underlying34, s_34, g_34, z_34, Try.underlying35, s_35, g_35, z_35, q_35, Try.underlying38, s_38, g_38, z_38, q_38, Try.underlying42, s_42, g_42, l_42, r_42, Try.underlying44, s_44, g_44, z_44, q_44, Try.underlying57, s_57, g_57, l_57, r_57, Try.underlying69, s_69, g_69, z_69, turnsTree]
  refine VT_rounds hΓ follows_mixed 26 ?_
  simp -implicitDefEqProofs (maxSteps := 100000000) only [vy_succ, vy_zero, vx_skip, vx_reg0, vx_reg1, vx_ord, xx_done, xx_stop, xx_alt, vx_seq, vx_cond, vx_block, vx_exit, vx_ret, vx_loop, gx_nil, gx_cons, dx_nil, dx_cons, slim, slimOp, gO, gSO, qSO, quietOp, cx_nil, cx_cons, xx_alc, cS, qSB, eK, calmOp, guardS, gK, qK, putK, plK, dOk, St.ev, St.get, St.mem, St.set, St.setm, St.put, lookA, look, newK, nextver, initT, seqE, blockQ, bodyQ, resK, retV, AV.rdv, cells_agg, cells_int, cells_bool, cells_string, cells_slice, cells_uV, agg_uV, isNil_uV, toN_uV, i64_in, IntKind.wrap_u64, IntKind.wrap_u8, IntKind.wrap_u32, ↓binK, ↓intK, unK, ↓loadK, ↓withKey_eq, ↓idxAddrK, ↓indexK, ↓partK, ↓fieldK, ↓fieldAddrK, ↓convK, ↓callK, wrG, updK, ↓lenK, ↓mmK, ↓appK, ↓copyK, ↓sliceK, ↓toArrK, nilK, optK_some, optK_tup, optK_ite, evs, plains, seqParts, capsOf, capsD, List.append_nil, List.nil_append, List.cons_append, AV.dv, AV.cont, isNil_agg, isNil_int, isNil_bool, isNil_string, isNil_nil, isNil_slice, ↓buildV_eq, fillL, placesOf, Option.map_some, Option.map_none, ↓storeK, wrL, RV.av, DV.av, List.set, List.map_cons, List.map_nil, List.length_cons, List.length_nil, List.all_cons, List.all_nil, List.getElem?_cons_zero, List.getElem?_cons_succ, List.getElem?_nil, List.size_toArray, List.getElem?_toArray, List.drop_zero, List.drop_succ_cons, List.take_zero, List.take_succ_cons, Option.getD_some, Option.getD_none, Option.some.injEq, Option.isSome_some, Nat.reduceEqDiff, Nat.reduceAdd, Nat.reduceSub, Nat.reduceMul, Nat.reduceLT, Nat.reduceLeDiff, Nat.reduceMod, Nat.reduceDiv, Int.cast_ofNat_Int, Int.reduceLT, Int.reduceLE, Int.reduceToNat, ↓reduceIte, true_and, and_true, true_or, or_true, or_false, false_or, reduceCtorEq, Bool.false_eq_true, Bool.and_true, Bool.not_true, Bool.not_false, beq_self_eq_true, Bool.true_beq, Bool.false_beq, Value.oneCell', decide_true, decide_false, Int.reduceAdd, Int.reduceSub, Int.reduceMod, Int.reduceMul, Int.reduceNeg, Int.reduceBEq, Int.reduceBNe, Int.reduceTDiv, Int.reduceTMod, ne_eq, not_false_eq_true, not_true_eq_false, Int.reduceEq, Nat.zero_add, Nat.add_zero, Nat.le_refl, Try.underlying2, s_2, g_2, z_2, Try.underlying3, s_3, g_3, z_3, Try.underlying4, s_4, g_4, z_4, Try.underlying5, s_5, g_5, z_5, Try.underlying9, s_9, g_9, z_9, Try.underlying12, s_12, g_12, z_12, Try.underlying13, s_13, g_13, z_13, q_13, Try.underlying21, s_21, g_21, z_21, Try.underlying25, s_25, g_25, z_25, Try.underlying26, s_26, g_26, z_26, q_26, Try.underlying32, s_32, g_32, l_32, r_32, Try.underlying34, s_34, g_34, z_34, Try.underlying35, s_35, g_35, z_35, q_35, Try.underlying38, s_38, g_38, z_38, q_38, Try.underlying42, s_42, g_42, l_42, r_42, Try.underlying44, s_44, g_44, z_44, q_44, Try.underlying57, s_57, g_57, l_57, r_57, Try.underlying69, s_69, g_69, z_69, turnsTree]

end Go.Vm
