/- Contracts: Mul64, Len64. No condition. -/
import Derived.Test.YtcbcmfmcpdimkaaC
import Derived.Lib.Mul64
import Derived.Lib.BitFns
set_option maxRecDepth 100000
set_option linter.unusedSimpArgs false
set_option linter.unusedVariables false
namespace Go.Vm
open Go Go.RowKit Go.Proofs

noncomputable def mul64G : List DV → Option RV
  | [.pl (.int .u64 x), .pl (.int .u64 y)] => if (okW x && okW y) = true then some (.tup [.pl (.int .u64 ((x.toNat * y.toNat / 18446744073709551616 : Nat) : Int)), .pl (.int .u64 ((x.toNat * y.toNat % 18446744073709551616 : Nat) : Int))]) else none
  | _ => none

theorem maskN (a : Nat) (ha : a < 18446744073709551616) : bits .and .u64 (a : Int) 4294967295 = ((a % 4294967296 : Nat) : Int) := by
  have h := bits_and_u64_nat a 4294967295 ha (by omega)
  have e : a &&& 4294967295 = a % 4294967296 := Nat.and_two_pow_sub_one_eq_mod a 32
  rw [e] at h
  exact h
theorem shrN (a : Nat) : (a : Int).fdiv (2 ^ (min 32 IntKind.u64.bits)) = ((a / 4294967296 : Nat) : Int) := by
  have e : min 32 IntKind.u64.bits = 32 := rfl
  rw [e, Int.fdiv_eq_ediv_of_nonneg _ (by exact Int.le_of_lt (Int.pow_pos (by omega)))]
  rfl
theorem shr16 (a : Nat) : (a : Int).fdiv (2 ^ (min 16 IntKind.u64.bits)) = ((a / 65536 : Nat) : Int) := by
  have e : min 16 IntKind.u64.bits = 16 := rfl
  rw [e, Int.fdiv_eq_ediv_of_nonneg _ (by exact Int.le_of_lt (Int.pow_pos (by omega)))]
  rfl
theorem shr8 (a : Nat) : (a : Int).fdiv (2 ^ (min 8 IntKind.u64.bits)) = ((a / 256 : Nat) : Int) := by
  have e : min 8 IntKind.u64.bits = 8 := rfl
  rw [e, Int.fdiv_eq_ediv_of_nonneg _ (by exact Int.le_of_lt (Int.pow_pos (by omega)))]
  rfl
theorem mod256 (a : Nat) : (a : Int) % 256 = ((a % 256 : Nat) : Int) := by omega
theorem mulN (a b : Nat) : (a : Int) * (b : Int) = ((a * b : Nat) : Int) := (Int.natCast_mul a b).symm
theorem addN (a b : Nat) : (a : Int) + (b : Int) = ((a + b : Nat) : Int) := (Int.natCast_add a b).symm
theorem modN (a : Nat) : (a : Int) % 18446744073709551616 = ((a % 18446744073709551616 : Nat) : Int) := by omega

set_option maxHeartbeats 4000000 in
theorem mul64_here : ∀ ds r, mul64G ds = some r → Spec Try.prog 69 ds r := by
  intro ds r h
  unfold mul64G at h
  split at h
  case h_2 => cases h
  rename_i x y
  split at h
  case isFalse => cases h
  rename_i hc
  cases h
  simp only [Bool.and_eq_true] at hc
  obtain ⟨x, rfl, hx⟩ := okW_out hc.1
  obtain ⟨y, rfl, hy⟩ := okW_out hc.2
  simp only [Int.toNat_natCast]
  have hΓ : Env.ok [] Try.prog := ok_nil _
  refine Spec.of_vx hΓ follows_mixed Try.func69 rfl (by kernel_rfl) (T := []) (by simp [Try.ntmps69]) (by kernel_rfl) rfl Try.ntmps69 (res := [.tmp 4, .tmp 5]) rfl ?_
  intro W
  simp -implicitDefEqProofs (maxSteps := 10000000) only [vy_succ, vy_zero, vx_skip, vx_reg0, vx_reg1, vx_ord, xx_done, xx_stop, xx_alt, vx_seq, vx_cond, vx_block, vx_exit, vx_ret, vx_loop, gx_nil, gx_cons, dx_nil, dx_cons, slim, slimOp, gO, gSO, qSO, quietOp, cx_nil, cx_cons, xx_alc, cS, qSB, eK, calmOp, guardS, gK, qK, putK, plK, dOk, St.ev, St.get, St.mem, St.set, St.setm, St.put, lookA, look, newK, nextver, initT, seqE, blockQ, bodyQ, resK, retV, AV.rdv, cells_agg, cells_int, cells_bool, cells_string, cells_slice, cells_uV, agg_uV, isNil_uV, toN_uV, i64_in, IntKind.wrap_u64, IntKind.wrap_u8, IntKind.wrap_u32, ↓binK, ↓intK, unK, ↓loadK, ↓withKey_eq, ↓idxAddrK, ↓indexK, ↓partK, ↓fieldK, ↓fieldAddrK, ↓convK, ↓callK, wrG, updK, ↓lenK, ↓mmK, ↓appK, ↓copyK, ↓sliceK, ↓toArrK, nilK, optK_some, optK_tup, optK_ite, evs, plains, seqParts, capsOf, capsD, List.append_nil, List.nil_append, List.cons_append, AV.dv, AV.cont, isNil_agg, isNil_int, isNil_bool, isNil_string, isNil_nil, isNil_slice, ↓buildV_eq, fillL, placesOf, Option.map_some, Option.map_none, ↓storeK, wrL, RV.av, DV.av, List.set, List.map_cons, List.map_nil, List.length_cons, List.length_nil, List.all_cons, List.all_nil, List.getElem?_cons_zero, List.getElem?_cons_succ, List.getElem?_nil, List.size_toArray, List.getElem?_toArray, List.drop_zero, List.drop_succ_cons, List.take_zero, List.take_succ_cons, Option.getD_some, Option.getD_none, Option.some.injEq, Option.isSome_some, Nat.reduceEqDiff, Nat.reduceAdd, Nat.reduceSub, Nat.reduceMul, Nat.reduceLT, Nat.reduceLeDiff, Nat.reduceMod, Nat.reduceDiv, Int.cast_ofNat_Int, Int.reduceLT, Int.reduceLE, Int.reduceToNat, ↓reduceIte, true_and, and_true, true_or, or_true, or_false, false_or, reduceCtorEq, Bool.false_eq_true, Bool.and_true, Bool.not_true, Bool.not_false, beq_self_eq_true, Bool.true_beq, Bool.false_beq, Value.oneCell', decide_true, decide_false, Int.reduceAdd, Int.reduceSub, Int.reduceMod, Int.reduceMul, Int.reduceNeg, Int.reduceBEq, Int.reduceBNe, Int.reduceTDiv, Int.reduceTMod, ne_eq, not_false_eq_true, not_true_eq_false, Int.reduceEq, Nat.zero_add, Nat.add_zero, Nat.le_refl, tyB, Try.underlying13, Try.underlying25, Try.underlying26, Try.underlying53, Try.underlying54]
  obtain ⟨bd, bt, bw, hhi⟩ := Lib.mul64_hi x y hx hy
  have ba := Lib.half_mul_le (a := x / 4294967296) (b := y / 4294967296) (by omega) (by omega)
  have bb := Lib.half_mul_le (a := x / 4294967296) (b := y % 4294967296) (by omega) (by omega)
  have bc := Lib.half_mul_le (a := x % 4294967296) (b := y / 4294967296) (by omega) (by omega)
  have ba' : x / 4294967296 * (y / 4294967296) < 18446744073709551616 := by omega
  have bb' : x / 4294967296 * (y % 4294967296) < 18446744073709551616 := by omega
  have bc' : x % 4294967296 * (y / 4294967296) < 18446744073709551616 := by omega
  have bh1 : x / 4294967296 * (y / 4294967296) + (x / 4294967296 * (y % 4294967296) + x % 4294967296 * (y % 4294967296) / 4294967296) / 4294967296 < 18446744073709551616 := by omega
  have bh : x / 4294967296 * (y / 4294967296) + (x / 4294967296 * (y % 4294967296) + x % 4294967296 * (y % 4294967296) / 4294967296) / 4294967296 + ((x / 4294967296 * (y % 4294967296) + x % 4294967296 * (y % 4294967296) / 4294967296) % 4294967296 + x % 4294967296 * (y / 4294967296)) / 4294967296 < 18446744073709551616 := by omega
  simp only [maskN x hx, maskN y hy, shrN, mulN, addN, modN, Nat.mod_eq_of_lt bd, Nat.mod_eq_of_lt bb', Nat.mod_eq_of_lt bt, maskN _ bt, Nat.mod_eq_of_lt bc', Nat.mod_eq_of_lt bw, Nat.mod_eq_of_lt ba', Nat.mod_eq_of_lt bh1, Nat.mod_eq_of_lt bh]
  rw [hhi]

noncomputable def blen (x : Nat) : Nat := if x = 0 then 0 else x.log2 + 1

theorem blen_half (x : Nat) (h : 2 ≤ x) : blen x = 1 + blen (x / 2) := by
  unfold blen
  rw [if_neg (by omega), if_neg (by omega), Nat.log2_def, if_pos h]
  omega
theorem blen_shift : ∀ (n x : Nat), 2 ^ n ≤ x → blen x = n + blen (x / 2 ^ n)
  | 0, x, _ => by simp
  | n + 1, x, h => by
    have h1 : 2 ^ n ≤ x / 2 := by rw [Nat.pow_succ] at h; omega
    have h0 : 0 < 2 ^ n := Nat.pow_pos (by omega)
    rw [blen_half x (by rw [Nat.pow_succ] at h; omega), blen_shift n (x / 2) h1, Nat.div_div_eq_div_mul, Nat.pow_succ, Nat.mul_comm 2 (2 ^ n)]
    omega
theorem blen_lt (x n : Nat) (h : x < 2 ^ n) : blen x ≤ n := by
  unfold blen
  split
  · omega
  · have := (Nat.log2_lt (by omega)).2 h
    omega

def lenTab : ByteArray := { data := (([0, 1, 2, 2, 3, 3, 3, 3, 4, 4, 4, 4, 4, 4, 4, 4, 5, 5, 5, 5, 5, 5, 5, 5, 5, 5, 5, 5, 5, 5, 5, 5, 6, 6, 6, 6, 6, 6, 6, 6, 6, 6, 6, 6, 6, 6, 6, 6, 6, 6, 6, 6, 6, 6, 6, 6, 6, 6, 6, 6, 6, 6, 6, 6].append [7, 7, 7, 7, 7, 7, 7, 7, 7, 7, 7, 7, 7, 7, 7, 7, 7, 7, 7, 7, 7, 7, 7, 7, 7, 7, 7, 7, 7, 7, 7, 7, 7, 7, 7, 7, 7, 7, 7, 7, 7, 7, 7, 7, 7, 7, 7, 7, 7, 7, 7, 7, 7, 7, 7, 7, 7, 7, 7, 7, 7, 7, 7, 7]).append ([8, 8, 8, 8, 8, 8, 8, 8, 8, 8, 8, 8, 8, 8, 8, 8, 8, 8, 8, 8, 8, 8, 8, 8, 8, 8, 8, 8, 8, 8, 8, 8, 8, 8, 8, 8, 8, 8, 8, 8, 8, 8, 8, 8, 8, 8, 8, 8, 8, 8, 8, 8, 8, 8, 8, 8, 8, 8, 8, 8, 8, 8, 8, 8].append [8, 8, 8, 8, 8, 8, 8, 8, 8, 8, 8, 8, 8, 8, 8, 8, 8, 8, 8, 8, 8, 8, 8, 8, 8, 8, 8, 8, 8, 8, 8, 8, 8, 8, 8, 8, 8, 8, 8, 8, 8, 8, 8, 8, 8, 8, 8, 8, 8, 8, 8, 8, 8, 8, 8, 8, 8, 8, 8, 8, 8, 8, 8, 8])).toArray }
theorem lenTab_eq : ({ data := (([0, 1, 2, 2, 3, 3, 3, 3, 4, 4, 4, 4, 4, 4, 4, 4, 5, 5, 5, 5, 5, 5, 5, 5, 5, 5, 5, 5, 5, 5, 5, 5, 6, 6, 6, 6, 6, 6, 6, 6, 6, 6, 6, 6, 6, 6, 6, 6, 6, 6, 6, 6, 6, 6, 6, 6, 6, 6, 6, 6, 6, 6, 6, 6].append [7, 7, 7, 7, 7, 7, 7, 7, 7, 7, 7, 7, 7, 7, 7, 7, 7, 7, 7, 7, 7, 7, 7, 7, 7, 7, 7, 7, 7, 7, 7, 7, 7, 7, 7, 7, 7, 7, 7, 7, 7, 7, 7, 7, 7, 7, 7, 7, 7, 7, 7, 7, 7, 7, 7, 7, 7, 7, 7, 7, 7, 7, 7, 7]).append ([8, 8, 8, 8, 8, 8, 8, 8, 8, 8, 8, 8, 8, 8, 8, 8, 8, 8, 8, 8, 8, 8, 8, 8, 8, 8, 8, 8, 8, 8, 8, 8, 8, 8, 8, 8, 8, 8, 8, 8, 8, 8, 8, 8, 8, 8, 8, 8, 8, 8, 8, 8, 8, 8, 8, 8, 8, 8, 8, 8, 8, 8, 8, 8].append [8, 8, 8, 8, 8, 8, 8, 8, 8, 8, 8, 8, 8, 8, 8, 8, 8, 8, 8, 8, 8, 8, 8, 8, 8, 8, 8, 8, 8, 8, 8, 8, 8, 8, 8, 8, 8, 8, 8, 8, 8, 8, 8, 8, 8, 8, 8, 8, 8, 8, 8, 8, 8, 8, 8, 8, 8, 8, 8, 8, 8, 8, 8, 8])).toArray } : ByteArray) = lenTab := rfl
theorem lenTab_size : lenTab.size = 256 := by decide +kernel
theorem lenTab_all : ∀ n : Fin 256, (lenTab[n.val]?.getD 0).toNat = if n.val = 0 then 0 else n.val.log2 + 1 := by decide +kernel
theorem lenTab_at (n : Nat) (h : n < 256) : (lenTab[n]?.getD 0).toNat = blen n := lenTab_all ⟨n, h⟩

theorem len_end (x n k : Nat) (hk : x / 2 ^ n = k) (h : k < 256) (hn : n ≤ 56) (hx : 2 ^ n ≤ x) : IntKind.i64.wrap ((n : Int) + IntKind.i64.wrap ((lenTab[k % 256]?.getD 0).toNat : Int)) = (blen x : Int) := by
  rw [Nat.mod_eq_of_lt h, lenTab_at k h, blen_shift n x hx, hk]
  have := blen_lt k 8 (by omega)
  rw [IntKind.wrap_i64, IntKind.wrap_i64]
  omega

noncomputable def len64G : List DV → Option RV
  | [.pl (.int .u64 x)] => if okW x = true then some (.one (.pl (.int .i64 (blen x.toNat)))) else none
  | _ => none

set_option maxHeartbeats 4000000 in
theorem len64_here : ∀ ds r, len64G ds = some r → Spec Try.prog 57 ds r := by
  intro ds r h
  unfold len64G at h
  split at h
  case h_2 => cases h
  rename_i x
  split at h
  case isFalse => cases h
  rename_i hc
  cases h
  obtain ⟨x, rfl, hx⟩ := okW_out hc
  rw [Int.toNat_natCast]
  have hΓ : Env.ok [] Try.prog := ok_nil _
  refine Spec.of_vx hΓ follows_mixed Try.func57 rfl (by kernel_rfl) (T := []) (by simp [Try.ntmps57]) (by kernel_rfl) rfl Try.ntmps57 (res := [.tmp 2]) rfl ?_
  intro W
  simp -implicitDefEqProofs (maxSteps := 10000000) only [vy_succ, vy_zero, vx_skip, vx_reg0, vx_reg1, vx_ord, xx_done, xx_stop, xx_alt, vx_seq, vx_cond, vx_block, vx_exit, vx_ret, vx_loop, gx_nil, gx_cons, dx_nil, dx_cons, slim, slimOp, gO, gSO, qSO, quietOp, cx_nil, cx_cons, xx_alc, cS, qSB, eK, calmOp, guardS, gK, qK, putK, plK, dOk, St.ev, St.get, St.mem, St.set, St.setm, St.put, lookA, look, newK, nextver, initT, seqE, blockQ, bodyQ, resK, retV, AV.rdv, cells_agg, cells_int, cells_bool, cells_string, cells_slice, cells_uV, agg_uV, isNil_uV, toN_uV, i64_in, IntKind.wrap_u64, IntKind.wrap_u8, IntKind.wrap_u32, ↓binK, ↓intK, unK, ↓loadK, ↓withKey_eq, ↓idxAddrK, ↓indexK, ↓partK, ↓fieldK, ↓fieldAddrK, ↓convK, ↓callK, wrG, updK, ↓lenK, ↓mmK, ↓appK, ↓copyK, ↓sliceK, ↓toArrK, nilK, optK_some, optK_tup, optK_ite, evs, plains, seqParts, capsOf, capsD, List.append_nil, List.nil_append, List.cons_append, AV.dv, AV.cont, isNil_agg, isNil_int, isNil_bool, isNil_string, isNil_nil, isNil_slice, ↓buildV_eq, fillL, placesOf, Option.map_some, Option.map_none, ↓storeK, wrL, RV.av, DV.av, List.set, List.map_cons, List.map_nil, List.length_cons, List.length_nil, List.all_cons, List.all_nil, List.getElem?_cons_zero, List.getElem?_cons_succ, List.getElem?_nil, List.size_toArray, List.getElem?_toArray, List.drop_zero, List.drop_succ_cons, List.take_zero, List.take_succ_cons, Option.getD_some, Option.getD_none, Option.some.injEq, Option.isSome_some, Nat.reduceEqDiff, Nat.reduceAdd, Nat.reduceSub, Nat.reduceMul, Nat.reduceLT, Nat.reduceLeDiff, Nat.reduceMod, Nat.reduceDiv, Int.cast_ofNat_Int, Int.reduceLT, Int.reduceLE, Int.reduceToNat, ↓reduceIte, true_and, and_true, true_or, or_true, or_false, false_or, reduceCtorEq, Bool.false_eq_true, Bool.and_true, Bool.not_true, Bool.not_false, beq_self_eq_true, Bool.true_beq, Bool.false_beq, Value.oneCell', decide_true, decide_false, Int.reduceAdd, Int.reduceSub, Int.reduceMod, Int.reduceMul, Int.reduceNeg, Int.reduceBEq, Int.reduceBNe, Int.reduceTDiv, Int.reduceTMod, ne_eq, not_false_eq_true, not_true_eq_false, Int.reduceEq, Nat.zero_add, Nat.add_zero, Nat.le_refl, tyB, Try.underlying13, Try.underlying25, Try.underlying26, Try.underlying53, Try.underlying54, lenTab_eq, lenTab_size, shrN, shr16, shr8, mod256, Int.toNat_natCast, Option.isSome_some, Int.natCast_nonneg]
  clear hc hΓ
  repeat' split
  all_goals (rename_i hq; simp only [decide_eq_true_eq, decide_eq_false_iff_not] at *)
  all_goals refine ⟨by omega, congrArg (fun z => RV.one (DV.pl (Value.int IntKind.i64 z))) ?_⟩
  · exact len_end x 56 _ (show x / 72057594037927936 = _ by omega) (by omega) (by omega) (show 72057594037927936 ≤ x by omega)
  · exact len_end x 48 _ (show x / 281474976710656 = _ by omega) (by omega) (by omega) (show 281474976710656 ≤ x by omega)
  · exact len_end x 40 _ (show x / 1099511627776 = _ by omega) (by omega) (by omega) (show 1099511627776 ≤ x by omega)
  · exact len_end x 32 _ (show x / 4294967296 = _ by omega) (by omega) (by omega) (show 4294967296 ≤ x by omega)
  · exact len_end x 24 _ (show x / 16777216 = _ by omega) (by omega) (by omega) (show 16777216 ≤ x by omega)
  · exact len_end x 16 _ (show x / 65536 = _ by omega) (by omega) (by omega) (show 65536 ≤ x by omega)
  · exact len_end x 8 _ (show x / 256 = _ by omega) (by omega) (by omega) (show 256 ≤ x by omega)
  · rw [Nat.mod_eq_of_lt (by omega), lenTab_at x (by omega)]
    have := blen_lt x 8 (by omega)
    rw [IntKind.wrap_i64, IntKind.wrap_i64]
    omega

theorem blen_word (x n w : Nat) (hw : w ≠ 0) (h : x / 2 ^ n = w) : blen x = n + blen w := by
  have : 2 ^ n ≤ x := by
    rcases Nat.lt_or_ge x (2 ^ n) with h1 | h1
    · rw [Nat.div_eq_of_lt h1] at h; omega
    · exact h1
  rw [blen_shift n x this, h]

noncomputable def lenG : List DV → Option RV
  | [.pl va] => match toN va with
    | some a => some (.one (.pl (.int .i64 (blen a))))
    | _ => none
  | _ => none

theorem bne_false {a b : Int} (h : a = b) : (a != b) = false := by rw [h]; simp
theorem bne_true {a b : Int} (h : a ≠ b) : (a != b) = true := by simpa using h

theorem len_sum (n w : Nat) (hw : w < 18446744073709551616) (hn : n ≤ 192) : IntKind.i64.wrap ((n : Int) + (blen w : Int)) = ((n + blen w : Nat) : Int) := by
  have := blen_lt w 64 hw
  rw [IntKind.wrap_i64]
  omega

set_option maxHeartbeats 4000000 in
theorem len_ok : ∀ ds r, lenG ds = some r → Spec Try.prog 36 ds r := by
  intro ds r h
  unfold lenG at h
  split at h
  case h_2 => cases h
  rename_i va
  split at h
  case h_2 => cases h
  rename_i a ha
  cases h
  obtain ⟨rfl, ha'⟩ := toN_eq ha
  have ea := words_lt ha'
  have a0 := w0_lt a; have a1 := w1_lt a; have a2 := w2_lt a; have a3 := w3_lt a
  have hΓ : Env.ok [(57, len64G)] Try.prog := ok_cons len64_here (ok_nil _)
  refine Spec.of_vx hΓ follows_mixed Try.func36 rfl (by kernel_rfl) (T := []) (by simp [Try.ntmps36]) (by kernel_rfl) rfl Try.ntmps36 (res := [.tmp 2]) rfl ?_
  intro W
  simp -implicitDefEqProofs (maxSteps := 10000000) only [vy_succ, vy_zero, vx_skip, vx_reg0, vx_reg1, vx_ord, xx_done, xx_stop, xx_alt, vx_seq, vx_cond, vx_block, vx_exit, vx_ret, vx_loop, gx_nil, gx_cons, dx_nil, dx_cons, slim, slimOp, gO, gSO, qSO, quietOp, cx_nil, cx_cons, xx_alc, cS, qSB, eK, calmOp, guardS, gK, qK, putK, plK, dOk, St.ev, St.get, St.mem, St.set, St.setm, St.put, lookA, look, newK, nextver, initT, seqE, blockQ, bodyQ, resK, retV, AV.rdv, cells_agg, cells_int, cells_bool, cells_string, cells_slice, cells_uV, agg_uV, isNil_uV, toN_uV, i64_in, IntKind.wrap_u64, IntKind.wrap_u8, IntKind.wrap_u32, ↓binK, ↓intK, unK, ↓loadK, ↓withKey_eq, ↓idxAddrK, ↓indexK, ↓partK, ↓fieldK, ↓fieldAddrK, ↓convK, ↓callK, wrG, updK, ↓lenK, ↓mmK, ↓appK, ↓copyK, ↓sliceK, ↓toArrK, nilK, optK_some, optK_tup, optK_ite, evs, plains, seqParts, capsOf, capsD, List.append_nil, List.nil_append, List.cons_append, AV.dv, AV.cont, isNil_agg, isNil_int, isNil_bool, isNil_string, isNil_nil, isNil_slice, ↓buildV_eq, fillL, placesOf, Option.map_some, Option.map_none, ↓storeK, wrL, RV.av, DV.av, List.set, List.map_cons, List.map_nil, List.length_cons, List.length_nil, List.all_cons, List.all_nil, List.getElem?_cons_zero, List.getElem?_cons_succ, List.getElem?_nil, List.size_toArray, List.getElem?_toArray, List.drop_zero, List.drop_succ_cons, List.take_zero, List.take_succ_cons, Option.getD_some, Option.getD_none, Option.some.injEq, Option.isSome_some, Nat.reduceEqDiff, Nat.reduceAdd, Nat.reduceSub, Nat.reduceMul, Nat.reduceLT, Nat.reduceLeDiff, Nat.reduceMod, Nat.reduceDiv, Int.cast_ofNat_Int, Int.reduceLT, Int.reduceLE, Int.reduceToNat, ↓reduceIte, true_and, and_true, true_or, or_true, or_false, false_or, reduceCtorEq, Bool.false_eq_true, Bool.and_true, Bool.not_true, Bool.not_false, beq_self_eq_true, Bool.true_beq, Bool.false_beq, Value.oneCell', decide_true, decide_false, Int.reduceAdd, Int.reduceSub, Int.reduceMod, Int.reduceMul, Int.reduceNeg, Int.reduceBEq, Int.reduceBNe, Int.reduceTDiv, Int.reduceTMod, ne_eq, not_false_eq_true, not_true_eq_false, Int.reduceEq, Nat.zero_add, Nat.add_zero, Nat.le_refl, tyB, Try.underlying13, Try.underlying25, Try.underlying26, Try.underlying53, Try.underlying54]
  refine VT_rounds hΓ follows_mixed 5 ?_
  simp -implicitDefEqProofs (maxSteps := 10000000) only [vy_succ, vy_zero, vx_skip, vx_reg0, vx_reg1, vx_ord, xx_done, xx_stop, xx_alt, vx_seq, vx_cond, vx_block, vx_exit, vx_ret, vx_loop, gx_nil, gx_cons, dx_nil, dx_cons, slim, slimOp, gO, gSO, qSO, quietOp, cx_nil, cx_cons, xx_alc, cS, qSB, eK, calmOp, guardS, gK, qK, putK, plK, dOk, St.ev, St.get, St.mem, St.set, St.setm, St.put, lookA, look, newK, nextver, initT, seqE, blockQ, bodyQ, resK, retV, AV.rdv, cells_agg, cells_int, cells_bool, cells_string, cells_slice, cells_uV, agg_uV, isNil_uV, toN_uV, i64_in, IntKind.wrap_u64, IntKind.wrap_u8, IntKind.wrap_u32, ↓binK, ↓intK, unK, ↓loadK, ↓withKey_eq, ↓idxAddrK, ↓indexK, ↓partK, ↓fieldK, ↓fieldAddrK, ↓convK, ↓callK, wrG, updK, ↓lenK, ↓mmK, ↓appK, ↓copyK, ↓sliceK, ↓toArrK, nilK, optK_some, optK_tup, optK_ite, evs, plains, seqParts, capsOf, capsD, List.append_nil, List.nil_append, List.cons_append, AV.dv, AV.cont, isNil_agg, isNil_int, isNil_bool, isNil_string, isNil_nil, isNil_slice, ↓buildV_eq, fillL, placesOf, Option.map_some, Option.map_none, ↓storeK, wrL, RV.av, DV.av, List.set, List.map_cons, List.map_nil, List.length_cons, List.length_nil, List.all_cons, List.all_nil, List.getElem?_cons_zero, List.getElem?_cons_succ, List.getElem?_nil, List.size_toArray, List.getElem?_toArray, List.drop_zero, List.drop_succ_cons, List.take_zero, List.take_succ_cons, Option.getD_some, Option.getD_none, Option.some.injEq, Option.isSome_some, Nat.reduceEqDiff, Nat.reduceAdd, Nat.reduceSub, Nat.reduceMul, Nat.reduceLT, Nat.reduceLeDiff, Nat.reduceMod, Nat.reduceDiv, Int.cast_ofNat_Int, Int.reduceLT, Int.reduceLE, Int.reduceToNat, ↓reduceIte, true_and, and_true, true_or, or_true, or_false, false_or, reduceCtorEq, Bool.false_eq_true, Bool.and_true, Bool.not_true, Bool.not_false, beq_self_eq_true, Bool.true_beq, Bool.false_beq, Value.oneCell', decide_true, decide_false, Int.reduceAdd, Int.reduceSub, Int.reduceMod, Int.reduceMul, Int.reduceNeg, Int.reduceBEq, Int.reduceBNe, Int.reduceTDiv, Int.reduceTMod, ne_eq, not_false_eq_true, not_true_eq_false, Int.reduceEq, Nat.zero_add, Nat.add_zero, Nat.le_refl, tyB, Try.underlying13, Try.underlying25, Try.underlying26, Try.underlying53, Try.underlying54, len64G, okW_0, okW_1, okW_2, okW_3, Int.toNat_natCast]
  clear hΓ
  repeat' split
  all_goals (rename_i hq; simp only [bne_iff_ne, bne_eq_false_iff_eq, ne_eq] at *)
  · rw [blen_word a 192 (w3 a) (by omega) (show a / 6277101735386680763835789423207666416102355444464034512896 = w3 a by simp only [num] at ea; omega)]
    exact congrArg (fun z => RV.one (DV.pl (Value.int IntKind.i64 z))) (len_sum 192 (w3 a) a3 (by omega))
  · rw [blen_word a 128 (w2 a) (by omega) (show a / 340282366920938463463374607431768211456 = w2 a by simp only [num] at ea; omega)]
    exact congrArg (fun z => RV.one (DV.pl (Value.int IntKind.i64 z))) (len_sum 128 (w2 a) a2 (by omega))
  · rw [blen_word a 64 (w1 a) (by omega) (show a / 18446744073709551616 = w1 a by simp only [num] at ea; omega)]
    exact congrArg (fun z => RV.one (DV.pl (Value.int IntKind.i64 z))) (len_sum 64 (w1 a) a1 (by omega))
  · have e : a = w0 a := by simp only [num] at ea; omega
    have h2 := len_sum 0 (w0 a) a0 (by omega)
    rw [Nat.zero_add, ← e] at h2
    rw [← e]
    exact congrArg (fun z => RV.one (DV.pl (Value.int IntKind.i64 z))) h2
  · have e : a = 0 := by simp only [num] at ea; omega
    rw [e]
    unfold blen
    rfl

end Go.Vm
