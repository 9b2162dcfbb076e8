/- Words of 32 bits; small contracts. No condition. -/
import Derived.Test.YtfalpjjalbclcaaU
import Derived.Test.YtfalpjjalbclcaaTy
import Derived.Laws.Bits64b
set_option maxRecDepth 100000
set_option linter.unusedSimpArgs false
set_option linter.unusedVariables false
namespace Go.Vm
open Go Go.RowKit Go.Proofs

abbrev W32 := BitVec 32
noncomputable def hn : W32 → Int := Classical.choose (⟨fun x => ((x.toNat : Nat) : Int), rfl⟩ : ∃ y : W32 → Int, y = fun x => ((x.toNat : Nat) : Int))
theorem hn_eq : hn = fun x => ((x.toNat : Nat) : Int) := Classical.choose_spec (⟨fun x => ((x.toNat : Nat) : Int), rfl⟩ : ∃ y : W32 → Int, y = fun x => ((x.toNat : Nat) : Int))
noncomputable def nh : Int → W32 := Classical.choose (⟨fun x => BitVec.ofInt 32 x, rfl⟩ : ∃ y : Int → W32, y = fun x => BitVec.ofInt 32 x)
theorem nh_eq : nh = fun x => BitVec.ofInt 32 x := Classical.choose_spec (⟨fun x => BitVec.ofInt 32 x, rfl⟩ : ∃ y : Int → W32, y = fun x => BitVec.ofInt 32 x)
noncomputable def okH : Int → Bool := Classical.choose (⟨fun x => decide (0 ≤ x ∧ x < 4294967296), rfl⟩ : ∃ y : Int → Bool, y = fun x => decide (0 ≤ x ∧ x < 4294967296))
theorem okH_eq : okH = fun x => decide (0 ≤ x ∧ x < 4294967296) := Classical.choose_spec (⟨fun x => decide (0 ≤ x ∧ x < 4294967296), rfl⟩ : ∃ y : Int → Bool, y = fun x => decide (0 ≤ x ∧ x < 4294967296))
theorem nh_hn (x : W32) : nh (hn x) = x := by rw [nh_eq, hn_eq]; simp
theorem hn_inj {x y : W32} (h : hn x = hn y) : x = y := by rw [← nh_hn x, h, nh_hn]
theorem hn_lt (x : W32) : 0 ≤ hn x ∧ hn x < 4294967296 := by
  rw [hn_eq]
  have := x.isLt
  simp only
  omega
theorem okH_hn (x : W32) : okH (hn x) = true := by rw [okH_eq]; exact decide_eq_true (hn_lt x)
theorem hn_nh {x : Int} (h : okH x = true) : hn (nh x) = x := by
  simp only [okH_eq, decide_eq_true_eq] at h
  rw [nh_eq, hn_eq]
  simp only [BitVec.toNat_ofInt]
  omega
theorem u32_wrap (n : Nat) (h : n < 4294967296) : IntKind.u32.wrap (n : Int) = (n : Int) := by
  rw [IntKind.wrap_u32]; omega
theorem bitv_hn (z : W32) : BitVec.ofInt 32 (hn z) = z := by have := nh_hn z; rw [nh_eq] at this; exact this
theorem bits_xor_hn (x y : W32) : bits .xor .u32 (hn x) (hn y) = hn (x ^^^ y) := by
  show IntKind.u32.wrap ((BitVec.ofInt 32 (hn x) ^^^ BitVec.ofInt 32 (hn y)).toNat : Int) = _
  rw [bitv_hn, bitv_hn, u32_wrap _ (x ^^^ y).isLt, hn_eq]
theorem bits_and_hn (x y : W32) : bits .and .u32 (hn x) (hn y) = hn (x &&& y) := by
  show IntKind.u32.wrap ((BitVec.ofInt 32 (hn x) &&& BitVec.ofInt 32 (hn y)).toNat : Int) = _
  rw [bitv_hn, bitv_hn, u32_wrap _ (x &&& y).isLt, hn_eq]
theorem bits_or_hn (x y : W32) : bits .or .u32 (hn x) (hn y) = hn (x ||| y) := by
  show IntKind.u32.wrap ((BitVec.ofInt 32 (hn x) ||| BitVec.ofInt 32 (hn y)).toNat : Int) = _
  rw [bitv_hn, bitv_hn, u32_wrap _ (x ||| y).isLt, hn_eq]
theorem hn_all : hn (BitVec.allOnes 32) = 4294967295 := by rw [hn_eq]; decide
theorem unK_not32 (n : Int) (K : Value → Prop) : unK .xor (.int .u32 n) K = K (.int .u32 (bits .xor .u32 4294967295 n)) := by
  have : (if IntKind.u32.signed then (-1 : Int) else IntKind.u32.max) = 4294967295 := by decide
  show K (.int .u32 (bits .xor .u32 (if IntKind.u32.signed then -1 else IntKind.u32.max) n)) = _
  rw [this]
theorem bits_not_hn (y : W32) : bits .xor .u32 4294967295 (hn y) = hn (~~~y) := by
  rw [← hn_all, bits_xor_hn, BitVec.allOnes_xor]
theorem sub_not_hn (y : W32) : IntKind.u32.wrap ((4294967295 : Int) - hn y) = hn (~~~y) := by
  rw [hn_eq]
  simp only [BitVec.toNat_not]
  rw [IntKind.wrap_u32]
  have := y.isLt
  omega
theorem add_hn (x y : W32) : IntKind.u32.wrap (hn x + hn y) = hn (x + y) := by
  rw [hn_eq]
  simp only [BitVec.toNat_add]
  rw [IntKind.wrap_u32]
  omega
noncomputable def ror : W32 → Nat → W32 := Classical.choose (⟨fun (x : W32) (k : Nat) => (x >>> k ||| x <<< (32 - k) : W32), rfl⟩ : ∃ y : W32 → Nat → W32, y = fun (x : W32) (k : Nat) => (x >>> k ||| x <<< (32 - k) : W32))
theorem ror_eq : ror = fun (x : W32) (k : Nat) => (x >>> k ||| x <<< (32 - k) : W32) := Classical.choose_spec (⟨fun (x : W32) (k : Nat) => (x >>> k ||| x <<< (32 - k) : W32), rfl⟩ : ∃ y : W32 → Nat → W32, y = fun (x : W32) (k : Nat) => (x >>> k ||| x <<< (32 - k) : W32))
theorem shl_hn (x : W32) (k : Nat) (h : k ≤ 32) : IntKind.u32.wrap (hn x * 2 ^ (min k IntKind.u32.bits)) = hn (x <<< k) := by
  have hb : IntKind.u32.bits = 32 := rfl
  rw [hb, Nat.min_eq_left h, hn_eq, IntKind.wrap_u32]
  simp only [BitVec.toNat_shiftLeft, Nat.shiftLeft_eq]
  have : ((x.toNat * 2 ^ k : Nat) : Int) = (x.toNat : Int) * 2 ^ k := by simp
  rw [← this]
  omega
theorem shr_hn (x : W32) (k : Nat) (h : k ≤ 32) : (hn x).fdiv (2 ^ (min k IntKind.u32.bits)) = hn (x >>> k) := by
  have hb : IntKind.u32.bits = 32 := rfl
  rw [hb, Nat.min_eq_left h, hn_eq]
  simp only [BitVec.toNat_ushiftRight, Nat.shiftRight_eq_div_pow]
  rw [Int.fdiv_eq_ediv_of_nonneg _ (by exact Int.le_of_lt (Int.pow_pos (by omega)))]
  simp
theorem div_hn (x : W32) (k : Nat) : (hn x).tdiv ((2 ^ k : Nat) : Int) = hn (x >>> k) := by
  rw [hn_eq]
  simp only [BitVec.toNat_ushiftRight, Nat.shiftRight_eq_div_pow]
  exact (Int.ofNat_tdiv _ _).symm
theorem div8_hn (x : W32) : (hn x).tdiv (8 : Int) = hn (x >>> 3) := div_hn x 3
theorem div1024_hn (x : W32) : (hn x).tdiv (1024 : Int) = hn (x >>> 10) := div_hn x 10
theorem mul256_hn (x : W32) : IntKind.u32.wrap ((256 : Int) * hn x) = hn (x <<< 8) := by
  have := shl_hn x 8 (by omega)
  rw [← this, Int.mul_comm]
  rfl

noncomputable def byW : UInt8 → W32 := Classical.choose (⟨fun b => BitVec.ofNat 32 b.toNat, rfl⟩ : ∃ y : UInt8 → W32, y = fun b => BitVec.ofNat 32 b.toNat)
theorem byW_eq : byW = fun b => BitVec.ofNat 32 b.toNat := Classical.choose_spec (⟨fun b => BitVec.ofNat 32 b.toNat, rfl⟩ : ∃ y : UInt8 → W32, y = fun b => BitVec.ofNat 32 b.toNat)
theorem byW_hn (b : UInt8) : IntKind.u32.wrap (b.toNat : Int) = hn (byW b) := by
  rw [hn_eq, byW_eq, IntKind.wrap_u32]
  have := b.toNat_lt
  simp
  omega

theorem byW_mod (b : UInt8) : (b.toNat : Int) % (4294967296 : Int) = hn (byW b) := by have := byW_hn b; rw [IntKind.wrap_u32] at this; exact this
theorem add_mod32 (x y : W32) : (hn x + hn y) % (4294967296 : Int) = hn (x + y) := by have := add_hn x y; rw [IntKind.wrap_u32] at this; exact this
theorem mul256_mod (x : W32) : ((256 : Int) * hn x) % (4294967296 : Int) = hn (x <<< 8) := by have := mul256_hn x; rw [IntKind.wrap_u32] at this; exact this
theorem sub_not_mod (y : W32) : ((4294967295 : Int) - hn y) % (4294967296 : Int) = hn (~~~y) := by have := sub_not_hn y; rw [IntKind.wrap_u32] at this; exact this
theorem hn_mod (x : W32) : hn x % (4294967296 : Int) = hn x := by have := hn_lt x; omega
theorem ch_or (e f g : W32) : (e &&& f) ||| (~~~e &&& g) = (e &&& f) ^^^ (~~~e &&& g) := by
  apply BitVec.eq_of_getLsbD_eq
  intro i hi
  simp only [BitVec.getLsbD_or, BitVec.getLsbD_and, BitVec.getLsbD_xor, BitVec.getLsbD_not, hi, decide_true, Bool.true_and]
  cases e.getLsbD i <;> cases f.getLsbD i <;> cases g.getLsbD i <;> rfl
theorem mj_or (e f g : W32) : ((e &&& f) ||| (e &&& g)) ||| (f &&& g) = ((e &&& f) ^^^ (e &&& g)) ^^^ (f &&& g) := by
  apply BitVec.eq_of_getLsbD_eq
  intro i hi
  simp only [BitVec.getLsbD_or, BitVec.getLsbD_and, BitVec.getLsbD_xor]
  cases e.getLsbD i <;> cases f.getLsbD i <;> cases g.getLsbD i <;> rfl

theorem and_31 (n : Nat) (h : n < 18446744073709551616) : bits .and .u64 (n : Int) 31 = ((n % 32 : Nat) : Int) := by
  have := bits_and_u64_nat n 31 (by omega) (by omega)
  have e : bits .and .u64 (n : Int) 31 = ((n &&& 31 : Nat) : Int) := this
  rw [e]
  have h2 : n &&& (2 ^ 5 - 1) = n % 2 ^ 5 := Nat.and_two_pow_sub_one_eq_mod n 5
  have h3 : n &&& 31 = n % 32 := h2
  rw [h3]

/-- words as values -/
noncomputable def hL : List W32 → List Value := Classical.choose (⟨fun l => l.map fun x => .int .u32 (hn x), rfl⟩ : ∃ y : List W32 → List Value, y = fun l => l.map fun x => .int .u32 (hn x))
theorem hL_eq : hL = fun l => l.map fun x => .int .u32 (hn x) := Classical.choose_spec (⟨fun l => l.map fun x => .int .u32 (hn x), rfl⟩ : ∃ y : List W32 → List Value, y = fun l => l.map fun x => .int .u32 (hn x))
theorem hL_len (l : List W32) : (hL l).length = l.length := by rw [hL_eq]; simp
theorem hL_get (l : List W32) (i : Nat) (h : i < l.length) : (hL l)[i]?.getD undef = .int .u32 (hn (l[i]?.getD 0)) := by
  rw [hL_eq]; simp [h]
theorem hL_set (l : List W32) (i : Nat) (x : W32) : (hL l).set i (.int .u32 (hn x)) = hL (l.set i x) := by rw [hL_eq]; simp [List.map_set]
theorem hL_all (l : List W32) : (hL l).all Value.oneCell' = true := by
  rw [hL_eq]; simp [Value.oneCell']

noncomputable def rotG : List DV → Option RV
  | [.pl (.int .u32 x), .pl (.int .i64 k)] => if okH x = true ∧ -32 < k ∧ k < 0 then some (.one (.pl (.int .u32 (hn (ror (nh x) (-k).toNat))))) else none
  | _ => none

set_option maxHeartbeats 4000000 in
theorem rot_ok : ∀ ds r, rotG ds = some r → Spec Try.prog 27 ds r := by
  intro ds r h
  unfold rotG at h
  split at h
  case h_2 => cases h
  rename_i x k
  split at h
  case isFalse => cases h
  rename_i hc
  obtain ⟨hx, h0, h1⟩ := hc
  cases h
  obtain ⟨X, rfl⟩ : ∃ X, x = hn X := ⟨nh x, (hn_nh hx).symm⟩
  obtain ⟨j, hj⟩ : ∃ j : Nat, k = -(j : Int) := ⟨(-k).toNat, by omega⟩
  subst hj
  have hΓ : Env.ok [] Try.prog := ok_nil _
  have e3 : (-(-(j : Int))).toNat = j := by omega
  have hj0 : 0 < j := by omega
  have hj1 : j < 32 := by omega
  have e2 : IntKind.u64.wrap (-(j : Int)) = ((18446744073709551616 - j : Nat) : Int) := by rw [IntKind.wrap_u64]; omega
  have e1 : bits .and .u64 ((18446744073709551616 - j : Nat) : Int) 31 = ((32 - j : Nat) : Int) := by
    rw [and_31 _ (by omega)]
    congr 1
    omega
  have e7 : ∀ m : Nat, ((m : Int)).toNat = m := fun m => Int.toNat_natCast m
  have e8 : ∀ m : Nat, (0 : Int) ≤ (m : Int) := fun m => by omega
  have e4 : IntKind.u64.wrap (32 - ((32 - j : Nat) : Int)) = ((j : Nat) : Int) := by rw [IntKind.wrap_u64]; omega
  have s1 := shl_hn X (32 - j) (by omega)
  have s2 := shr_hn X j (by omega)
  rw [nh_hn, e3]
  have hr : ror X j = X <<< (32 - j) ||| X >>> j := by rw [ror_eq]; exact BitVec.or_comm _ _
  rw [hr]
  refine Spec.of_vx hΓ follows_mixed Try.func27 rfl (by kernel_rfl) (T := []) (by simp [Try.ntmps27]) (by kernel_rfl) rfl Try.ntmps27 (res := [.tmp 4]) rfl ?_
  intro W
  simp -implicitDefEqProofs (maxSteps := 10000000) only [↓e1, ↓e2, ↓e4, ↓s1, ↓s2, vy_zero, vx_skip, vx_reg0, vx_reg1, vx_ord, xx_done, xx_stop, xx_alt, vx_seq, vx_cond, vx_block, vx_exit, vx_ret, vx_loop, gx_nil, gx_cons, dx_nil, dx_cons, slim, slimOp, gO, gSO, qSO, quietOp, cx_nil, cx_cons, xx_alc, cS, qSB, eK, calmOp, guardS, gK, qK, putK, plK, dOk, St.ev, St.get, St.mem, St.set, St.setm, St.put, lookA, look, newK, nextver, initT, seqE, blockQ, bodyQ, resK, retV, AV.rdv, cells_agg, cells_int, cells_bool, cells_string, cells_slice, cells_uV, agg_uV, isNil_uV, toN_uV, i64_in, IntKind.wrap_u64, IntKind.wrap_u8, IntKind.wrap_u32, ↓binK, ↓intK, unK, ↓loadK, ↓withKey_eq, ↓idxAddrK, ↓indexK, ↓partK, ↓fieldK, ↓fieldAddrK, ↓convK, ↓callK, wrG, updK, ↓lenK, ↓mmK, ↓appK, ↓copyK, ↓sliceK, ↓toArrK, nilK, optK_some, optK_tup, optK_ite, evs, plains, seqParts, capsOf, capsD, List.append_nil, List.nil_append, List.cons_append, AV.dv, AV.cont, isNil_agg, isNil_int, isNil_bool, isNil_string, isNil_nil, isNil_slice, ↓buildV_eq, fillL, placesOf, Option.map_some, Option.map_none, ↓storeK, wrL, RV.av, DV.av, List.set, List.map_cons, List.map_nil, List.length_cons, List.length_nil, List.all_cons, List.all_nil, List.getElem?_cons_zero, List.getElem?_cons_succ, List.getElem?_nil, List.size_toArray, List.getElem?_toArray, List.drop_zero, List.drop_succ_cons, List.take_zero, List.take_succ_cons, Option.getD_some, Option.getD_none, Option.some.injEq, Option.isSome_some, Nat.reduceEqDiff, Nat.reduceAdd, Nat.reduceSub, Nat.reduceMul, Nat.reduceLT, Nat.reduceLeDiff, Nat.reduceMod, Nat.reduceDiv, Int.cast_ofNat_Int, Int.reduceLT, Int.reduceLE, Int.reduceToNat, ↓reduceIte, true_and, and_true, true_or, or_true, or_false, false_or, reduceCtorEq, Bool.false_eq_true, Bool.and_true, Bool.not_true, Bool.not_false, beq_self_eq_true, Bool.true_beq, Bool.false_beq, Value.oneCell', decide_true, decide_false, Int.reduceAdd, Int.reduceSub, Int.reduceMod, Int.reduceMul, Int.reduceNeg, Int.reduceBEq, Int.reduceBNe, Int.reduceTDiv, Int.reduceTMod, ne_eq, not_false_eq_true, not_true_eq_false, Int.reduceEq, Nat.zero_add, Nat.add_zero, Nat.le_refl, Try.underlying2, s_2, g_2, z_2, Try.underlying3, s_3, g_3, z_3, Try.underlying4, s_4, g_4, z_4, Try.underlying5, s_5, g_5, z_5, Try.underlying9, s_9, g_9, z_9, Try.underlying12, s_12, g_12, z_12, Try.underlying13, s_13, g_13, z_13, q_13, Try.underlying21, s_21, g_21, z_21, Try.underlying22, s_22, g_22, z_22, Try.underlying23, s_23, g_23, z_23, q_23, Try.underlying24, s_24, g_24, z_24, Try.underlying29, s_29, g_29, l_29, r_29, Try.underlying38, s_38, g_38, l_38, r_38, Try.underlying39, s_39, g_39, z_39, q_39, Try.underlying43, s_43, g_43, l_43, r_43, Try.underlying47, s_47, g_47, z_47, Try.underlying49, s_49, g_49, z_49, Try.underlying50, s_50, g_50, l_50, r_50, e1, e2, e7, e8, e4, s1, s2, bits_or_hn]

noncomputable def turnG : List DV → Option RV
  | [.pl (.int .u32 x), .pl (.int .i64 k)] => if okH x = true ∧ 0 < k ∧ k < 32 then some (.one (.pl (.int .u32 (hn (ror (nh x) k.toNat))))) else none
  | _ => none

theorem turn_ok : ∀ ds r, turnG ds = some r → Spec Try.prog 17 ds r := by
  intro ds r h
  unfold turnG at h
  split at h
  case h_2 => cases h
  rename_i x k
  split at h
  case isFalse => cases h
  rename_i hc
  obtain ⟨hx, h0, h1⟩ := hc
  cases h
  obtain ⟨X, rfl⟩ : ∃ X, x = hn X := ⟨nh x, (hn_nh hx).symm⟩
  have hΓ : Env.ok [(27, rotG)] Try.prog := ok_cons rot_ok (ok_nil _)
  have e1 : IntKind.i64.wrap (0 - k) = -k := (i64_in (by omega) (by omega)).trans (by omega)
  have e2 : okH (hn X) = true ∧ -32 < -k ∧ -k < 0 := ⟨okH_hn X, by omega, by omega⟩
  have e3 : (- -k).toNat = k.toNat := by omega
  refine Spec.of_vx hΓ follows_mixed Try.func17 rfl (by kernel_rfl) (T := []) (by simp [Try.ntmps17]) (by kernel_rfl) rfl Try.ntmps17 (res := [.tmp 4]) rfl ?_
  intro W
  simp -implicitDefEqProofs (maxSteps := 10000000) only [vy_zero, vx_skip, vx_reg0, vx_reg1, vx_ord, xx_done, xx_stop, xx_alt, vx_seq, vx_cond, vx_block, vx_exit, vx_ret, vx_loop, gx_nil, gx_cons, dx_nil, dx_cons, slim, slimOp, gO, gSO, qSO, quietOp, cx_nil, cx_cons, xx_alc, cS, qSB, eK, calmOp, guardS, gK, qK, putK, plK, dOk, St.ev, St.get, St.mem, St.set, St.setm, St.put, lookA, look, newK, nextver, initT, seqE, blockQ, bodyQ, resK, retV, AV.rdv, cells_agg, cells_int, cells_bool, cells_string, cells_slice, cells_uV, agg_uV, isNil_uV, toN_uV, i64_in, IntKind.wrap_u64, IntKind.wrap_u8, IntKind.wrap_u32, ↓binK, ↓intK, unK, ↓loadK, ↓withKey_eq, ↓idxAddrK, ↓indexK, ↓partK, ↓fieldK, ↓fieldAddrK, ↓convK, ↓callK, wrG, updK, ↓lenK, ↓mmK, ↓appK, ↓copyK, ↓sliceK, ↓toArrK, nilK, optK_some, optK_tup, optK_ite, evs, plains, seqParts, capsOf, capsD, List.append_nil, List.nil_append, List.cons_append, AV.dv, AV.cont, isNil_agg, isNil_int, isNil_bool, isNil_string, isNil_nil, isNil_slice, ↓buildV_eq, fillL, placesOf, Option.map_some, Option.map_none, ↓storeK, wrL, RV.av, DV.av, List.set, List.map_cons, List.map_nil, List.length_cons, List.length_nil, List.all_cons, List.all_nil, List.getElem?_cons_zero, List.getElem?_cons_succ, List.getElem?_nil, List.size_toArray, List.getElem?_toArray, List.drop_zero, List.drop_succ_cons, List.take_zero, List.take_succ_cons, Option.getD_some, Option.getD_none, Option.some.injEq, Option.isSome_some, Nat.reduceEqDiff, Nat.reduceAdd, Nat.reduceSub, Nat.reduceMul, Nat.reduceLT, Nat.reduceLeDiff, Nat.reduceMod, Nat.reduceDiv, Int.cast_ofNat_Int, Int.reduceLT, Int.reduceLE, Int.reduceToNat, ↓reduceIte, true_and, and_true, true_or, or_true, or_false, false_or, reduceCtorEq, Bool.false_eq_true, Bool.and_true, Bool.not_true, Bool.not_false, beq_self_eq_true, Bool.true_beq, Bool.false_beq, Value.oneCell', decide_true, decide_false, Int.reduceAdd, Int.reduceSub, Int.reduceMod, Int.reduceMul, Int.reduceNeg, Int.reduceBEq, Int.reduceBNe, Int.reduceTDiv, Int.reduceTMod, ne_eq, not_false_eq_true, not_true_eq_false, Int.reduceEq, Nat.zero_add, Nat.add_zero, Nat.le_refl, Try.underlying2, s_2, g_2, z_2, Try.underlying3, s_3, g_3, z_3, Try.underlying4, s_4, g_4, z_4, Try.underlying5, s_5, g_5, z_5, Try.underlying9, s_9, g_9, z_9, Try.underlying12, s_12, g_12, z_12, Try.underlying13, s_13, g_13, z_13, q_13, Try.underlying21, s_21, g_21, z_21, Try.underlying22, s_22, g_22, z_22, Try.underlying23, s_23, g_23, z_23, q_23, Try.underlying24, s_24, g_24, z_24, Try.underlying29, s_29, g_29, l_29, r_29, Try.underlying38, s_38, g_38, l_38, r_38, Try.underlying39, s_39, g_39, z_39, q_39, Try.underlying43, s_43, g_43, l_43, r_43, Try.underlying47, s_47, g_47, z_47, Try.underlying49, s_49, g_49, z_49, Try.underlying50, s_50, g_50, l_50, r_50, rotG, e1, e2, e3]

theorem right_ok : ∀ ds r, turnG ds = some r → Spec Try.prog 18 ds r := by
  intro ds r h
  unfold turnG at h
  split at h
  case h_2 => cases h
  rename_i x k
  split at h
  case isFalse => cases h
  rename_i hc
  obtain ⟨hx, h0, h1⟩ := hc
  cases h
  obtain ⟨X, rfl⟩ : ∃ X, x = hn X := ⟨nh x, (hn_nh hx).symm⟩
  obtain ⟨j, rfl⟩ := Int.eq_ofNat_of_zero_le (by omega : 0 ≤ k)
  have hΓ : Env.ok [] Try.prog := ok_nil _
  have e2 : IntKind.u64.wrap (j : Int) = j := by rw [IntKind.wrap_u64]; omega
  have e3 : ((j : Int)).toNat = j := by omega
  have e7 : IntKind.i64.wrap (32 - (j : Int)) = 32 - (j : Int) := i64_in (by omega) (by omega)
  have e4 : IntKind.u64.wrap (32 - (j : Int)) = 32 - (j : Int) := by rw [IntKind.wrap_u64]; omega
  have e5 : (32 - (j : Int)).toNat = 32 - j := by omega
  have e6 : (0 : Int) ≤ 32 - (j : Int) := by omega
  have h0' : (0 : Int) ≤ (j : Int) := by omega
  have s1 := shl_hn X (32 - j) (by omega)
  have s2 := shr_hn X j (by omega)
  rw [nh_hn, e3]
  have hr : ror X j = X >>> j ||| X <<< (32 - j) := by rw [ror_eq]
  rw [hr]
  refine Spec.of_vx hΓ follows_mixed Try.func18 rfl (by kernel_rfl) (T := []) (by simp [Try.ntmps18]) (by kernel_rfl) rfl Try.ntmps18 (res := [.tmp 4]) rfl ?_
  intro W
  simp -implicitDefEqProofs (maxSteps := 10000000) only [↓e2, ↓e4, ↓e7, ↓s1, ↓s2, vy_zero, vx_skip, vx_reg0, vx_reg1, vx_ord, xx_done, xx_stop, xx_alt, vx_seq, vx_cond, vx_block, vx_exit, vx_ret, vx_loop, gx_nil, gx_cons, dx_nil, dx_cons, slim, slimOp, gO, gSO, qSO, quietOp, cx_nil, cx_cons, xx_alc, cS, qSB, eK, calmOp, guardS, gK, qK, putK, plK, dOk, St.ev, St.get, St.mem, St.set, St.setm, St.put, lookA, look, newK, nextver, initT, seqE, blockQ, bodyQ, resK, retV, AV.rdv, cells_agg, cells_int, cells_bool, cells_string, cells_slice, cells_uV, agg_uV, isNil_uV, toN_uV, i64_in, IntKind.wrap_u64, IntKind.wrap_u8, IntKind.wrap_u32, ↓binK, ↓intK, unK, ↓loadK, ↓withKey_eq, ↓idxAddrK, ↓indexK, ↓partK, ↓fieldK, ↓fieldAddrK, ↓convK, ↓callK, wrG, updK, ↓lenK, ↓mmK, ↓appK, ↓copyK, ↓sliceK, ↓toArrK, nilK, optK_some, optK_tup, optK_ite, evs, plains, seqParts, capsOf, capsD, List.append_nil, List.nil_append, List.cons_append, AV.dv, AV.cont, isNil_agg, isNil_int, isNil_bool, isNil_string, isNil_nil, isNil_slice, ↓buildV_eq, fillL, placesOf, Option.map_some, Option.map_none, ↓storeK, wrL, RV.av, DV.av, List.set, List.map_cons, List.map_nil, List.length_cons, List.length_nil, List.all_cons, List.all_nil, List.getElem?_cons_zero, List.getElem?_cons_succ, List.getElem?_nil, List.size_toArray, List.getElem?_toArray, List.drop_zero, List.drop_succ_cons, List.take_zero, List.take_succ_cons, Option.getD_some, Option.getD_none, Option.some.injEq, Option.isSome_some, Nat.reduceEqDiff, Nat.reduceAdd, Nat.reduceSub, Nat.reduceMul, Nat.reduceLT, Nat.reduceLeDiff, Nat.reduceMod, Nat.reduceDiv, Int.cast_ofNat_Int, Int.reduceLT, Int.reduceLE, Int.reduceToNat, ↓reduceIte, true_and, and_true, true_or, or_true, or_false, false_or, reduceCtorEq, Bool.false_eq_true, Bool.and_true, Bool.not_true, Bool.not_false, beq_self_eq_true, Bool.true_beq, Bool.false_beq, Value.oneCell', decide_true, decide_false, Int.reduceAdd, Int.reduceSub, Int.reduceMod, Int.reduceMul, Int.reduceNeg, Int.reduceBEq, Int.reduceBNe, Int.reduceTDiv, Int.reduceTMod, ne_eq, not_false_eq_true, not_true_eq_false, Int.reduceEq, Nat.zero_add, Nat.add_zero, Nat.le_refl, Try.underlying2, s_2, g_2, z_2, Try.underlying3, s_3, g_3, z_3, Try.underlying4, s_4, g_4, z_4, Try.underlying5, s_5, g_5, z_5, Try.underlying9, s_9, g_9, z_9, Try.underlying12, s_12, g_12, z_12, Try.underlying13, s_13, g_13, z_13, q_13, Try.underlying21, s_21, g_21, z_21, Try.underlying22, s_22, g_22, z_22, Try.underlying23, s_23, g_23, z_23, q_23, Try.underlying24, s_24, g_24, z_24, Try.underlying29, s_29, g_29, l_29, r_29, Try.underlying38, s_38, g_38, l_38, r_38, Try.underlying39, s_39, g_39, z_39, q_39, Try.underlying43, s_43, g_43, l_43, r_43, Try.underlying47, s_47, g_47, z_47, Try.underlying49, s_49, g_49, z_49, Try.underlying50, s_50, g_50, l_50, r_50, e2, e3, e4, e5, e6, e7, h0', s1, s2, bits_or_hn]
end Go.Vm
