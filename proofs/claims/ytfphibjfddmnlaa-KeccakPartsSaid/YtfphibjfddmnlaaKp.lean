/- The sum of parts. No condition. -/
import Derived.Test.YtfphibjfddmnlaaKh
import Derived.Test.YtfphibjfddmnlaaJn
set_option maxRecDepth 100000
set_option linter.unusedSimpArgs false
set_option linter.unusedVariables false
namespace Go.Vm
open Go Go.RowKit Go.Proofs

theorem sumG_a (s : ByteArray) (h : s.size ≤ 1000000) : sumG [.pl (.string s)] = some (.one (.pl (.string (bstr (sumL s.data.toList))))) := by unfold sumG; exact if_pos h
noncomputable def ofG : List DV → Option RV
  | [.vec xs] => match joinG [.vec xs, .pl (.string ⟨#[]⟩)] with
    | some (.one (.pl (.string s))) => if s.size ≤ 1000000 then some (.one (.pl (.string (bstr (sumL s.data.toList))))) else none
    | _ => none
  | _ => none
theorem of_ok : ∀ ds r, ofG ds = some r → Spec Try.prog 12 ds r := by
  intro ds r h
  unfold ofG at h
  split at h
  case h_2 => cases h
  rename_i xs
  split at h
  case h_2 => cases h
  rename_i s hj
  split at h
  case isFalse => cases h
  rename_i hc
  cases h
  have hΓ : Env.ok [(8, sumG), (18, joinG)] Try.prog := ok_cons ksum_ok (ok_cons join_ok (ok_nil _))
  have b1 := sumG_a s hc
  refine Spec.of_vx hΓ follows_mixed Try.func12 rfl (by kernel_rfl) (T := []) (by simp [Try.ntmps12]) (by kernel_rfl) rfl Try.ntmps12 (res := [.tmp 2]) rfl ?_
  intro W
  simp -implicitDefEqProofs (maxSteps := 100000000) only [vy_succ, vy_zero, vx_skip, vx_reg0, vx_reg1, vx_ord, xx_done, xx_stop, xx_alt, vx_seq, vx_cond, vx_block, vx_exit, vx_ret, vx_loop, gx_nil, gx_cons, dx_nil, dx_cons, slim, slimOp, gO, gSO, qSO, quietOp, cx_nil, cx_cons, xx_alc, cS, qSB, eK, calmOp, guardS, gK, qK, putK, plK, dOk, St.ev, St.get, St.mem, St.set, St.setm, St.put, lookA, look, newK, nextver, initT, seqE, blockQ, bodyQ, resK, retV, AV.rdv, cells_agg, cells_int, cells_bool, cells_string, cells_slice, cells_uV, agg_uV, isNil_uV, toN_uV, i64_in, IntKind.wrap_u64, IntKind.wrap_u8, IntKind.wrap_u32, ↓binK, ↓intK, unK, ↓loadK, ↓withKey_eq, ↓idxAddrK, ↓indexK, ↓partK, ↓fieldK, ↓fieldAddrK, ↓convK, ↓callK, wrG, updK, ↓lenK, ↓mmK, ↓appK, ↓copyK, ↓sliceK, ↓toArrK, nilK, optK_some, optK_tup, optK_ite, evs, plains, seqParts, capsOf, capsD, List.append_nil, List.nil_append, List.cons_append, AV.dv, AV.cont, isNil_agg, isNil_int, isNil_bool, isNil_string, isNil_nil, isNil_slice, ↓buildV_eq, fillL, placesOf, Option.map_some, Option.map_none, ↓storeK, wrL, RV.av, DV.av, List.set, List.map_cons, List.map_nil, List.length_cons, List.length_nil, List.all_cons, List.all_nil, List.getElem?_cons_zero, List.getElem?_cons_succ, List.getElem?_nil, List.size_toArray, List.getElem?_toArray, List.drop_zero, List.drop_succ_cons, List.take_zero, List.take_succ_cons, Option.getD_some, Option.getD_none, Option.some.injEq, Option.isSome_some, Nat.reduceEqDiff, Nat.reduceAdd, Nat.reduceSub, Nat.reduceMul, Nat.reduceLT, Nat.reduceLeDiff, Nat.reduceMod, Nat.reduceDiv, Int.cast_ofNat_Int, Int.reduceLT, Int.reduceLE, Int.reduceToNat, ↓reduceIte, true_and, and_true, true_or, or_true, or_false, false_or, reduceCtorEq, Bool.false_eq_true, Bool.and_true, Bool.not_true, Bool.not_false, beq_self_eq_true, Bool.true_beq, Bool.false_beq, Value.oneCell', decide_true, decide_false, Int.reduceAdd, Int.reduceSub, Int.reduceMod, Int.reduceMul, Int.reduceNeg, Int.reduceBEq, Int.reduceBNe, Int.reduceTDiv, Int.reduceTMod, ne_eq, not_false_eq_true, not_true_eq_false, Int.reduceEq, Nat.zero_add, Nat.add_zero, Nat.le_refl, Try.underlying2, s_2, g_2, z_2, Try.underlying3, s_3, g_3, z_3, Try.underlying4, s_4, g_4, z_4, Try.underlying5, s_5, g_5, z_5, Try.underlying9, s_9, g_9, z_9, Try.underlying12, s_12, g_12, z_12, Try.underlying13, s_13, g_13, z_13, q_13, Try.underlying21, s_21, g_21, z_21, Try.underlying25, s_25, g_25, z_25, Try.underlying26, s_26, g_26, z_26, q_26, Try.underlying32, s_32, g_32, l_32, r_32, Try.underlying34, s_34, g_34, z_34, Try.underlying35, s_35, g_35, z_35, q_35, Try.underlying38, s_38, g_38, z_38, q_38, Try.underlying42, s_42, g_42, l_42, r_42, Try.underlying44, s_44, g_44, z_44, q_44, Try.underlying57, s_57, g_57, l_57, r_57, Try.underlying69, s_69, g_69, z_69, hj, b1]
theorem ofG_0 : ofG [.vec []] = some (.one (.pl (.string (bstr (sumL []))))) := by
  have hj : joinG [.vec [], .pl (.string ⟨#[]⟩)] = some (.one (.pl (.string (bstr [])))) := rfl
  unfold ofG
  simp only
  rw [hj]
  exact if_pos (by rw [bstr_size']; simp)
theorem ofG_1 (s : ByteArray) (hs : s.size ≤ 100000) : ofG [.vec [.string s]] = some (.one (.pl (.string (bstr (sumL s.data.toList))))) := by
  have hj : joinG [.vec [.string s], .pl (.string ⟨#[]⟩)] = some (.one (.pl (.string s))) := by
    unfold joinG
    exact if_pos ⟨rfl, by omega⟩
  unfold ofG
  simp only
  rw [hj]
  exact if_pos (by omega)
theorem ofG_3 (s t u : ByteArray) (hs : s.size ≤ 10000) (ht : t.size ≤ 10000) (hu : u.size ≤ 10000) : ofG [.vec [.string s, .string t, .string u]] = some (.one (.pl (.string (bstr (sumL (s.data.toList ++ (t.data.toList ++ u.data.toList))))))) := by
  have hj : joinG [.vec [.string s, .string t, .string u], .pl (.string ⟨#[]⟩)] = some (.one (.pl (.string (bstr (s.data.toList ++ (t.data.toList ++ u.data.toList)))))) := by
    unfold joinG
    exact if_pos ⟨rfl, by omega, by omega, by omega⟩
  have h1 : s.data.toList.length = s.size := Array.length_toList
  have h2 : t.data.toList.length = t.size := Array.length_toList
  have h3 : u.data.toList.length = u.size := Array.length_toList
  unfold ofG
  simp only
  rw [hj]
  exact if_pos (by rw [bstr_size', List.length_append, List.length_append]; omega)
theorem minmax (lo hi : Nat) (h : lo ≤ hi) (z : Int) : ∃ n : Nat, (if (hi : Int) < (if z < (lo : Int) then (lo : Int) else z) then (hi : Int) else (if z < (lo : Int) then (lo : Int) else z)) = (n : Int) ∧ lo ≤ n ∧ n ≤ hi := by
  by_cases hz : z < (lo : Int)
  · rw [if_pos hz]
    exact ⟨lo, by rw [if_neg (by omega)], Nat.le_refl _, h⟩
  · rw [if_neg hz]
    by_cases h2 : (hi : Int) < z
    · exact ⟨hi, by rw [if_pos h2], h, Nat.le_refl _⟩
    · exact ⟨z.toNat, by rw [if_neg h2]; omega, by omega, by omega⟩
theorem cut3 (l : List UInt8) (i j : Nat) (h : i ≤ j) : l.take i ++ ((l.drop i).take (j - i) ++ l.drop j) = l := by
  have h1 : l.drop j = (l.drop i).drop (j - i) := by rw [List.drop_drop]; congr 1; omega
  rw [h1, List.take_append_drop, List.take_append_drop]

set_option maxHeartbeats 4000000 in
theorem partsL_ok (a : ByteArray) (z y : Int) (z0 : -9223372036854775808 ≤ z) (z1 : z < 9223372036854775808) (y0 : -9223372036854775808 ≤ y) (y1 : y < 9223372036854775808) : Spec Try.prog 6 [.pl (.string a), .pl (.int .i64 z), .pl (.int .i64 y)] (.one (.pl (.bool true))) := by
  have hΓ : Env.ok [(8, sumG), (12, ofG), (7, trueG)] Try.prog := ok_cons ksum_ok (ok_cons of_ok (ok_cons alive_ok (ok_nil _)))
  obtain ⟨k, hk, k1, k2⟩ : ∃ k : Nat, (if (2000 : Int) < (a.size : Int) then (2000 : Int) else (a.size : Int)) = (k : Int) ∧ k ≤ 2000 ∧ k ≤ a.size := by
    by_cases h : a.size ≤ 2000
    · exact ⟨a.size, by rw [if_neg (by omega)], h, Nat.le_refl _⟩
    · exact ⟨2000, by rw [if_pos (by omega)]; rfl, Nat.le_refl _, by omega⟩
  have k3 : (0 : Int) ≤ (k : Int) := by omega
  have k4 : (k : Int) ≤ (a.size : Int) := by omega
  have k5 : (a.extract 0 k).size = k := by simp [ByteArray.size_extract]; omega
  generalize ht : a.extract 0 k = t at *
  obtain ⟨n, hn, _, n1⟩ := minmax 0 t.size (Nat.zero_le _) z
  rw [Int.natCast_zero] at hn
  obtain ⟨m, hm, m1, m2⟩ := minmax n t.size n1 y
  have n3 : (0 : Int) ≤ (n : Int) := by omega
  have n4 : (n : Int) ≤ (t.size : Int) := by omega
  have m3 : (0 : Int) ≤ (m : Int) := by omega
  have m4 : (m : Int) ≤ (t.size : Int) := by omega
  have m5 : (n : Int) ≤ (m : Int) := by omega
  have b1 := sumG_a t (by omega)
  have b2 : sumG [.pl (.string ⟨#[]⟩)] = some (.one (.pl (.string (bstr (sumL []))))) := sumG_a ⟨#[]⟩ (by decide)
  have b3 := ofG_1 t (by omega)
  have b4 := ofG_0
  have s1 : (t.extract 0 n).size ≤ 10000 := by simp [ByteArray.size_extract]; omega
  have s2 : (t.extract n m).size ≤ 10000 := by simp [ByteArray.size_extract]; omega
  have s3 : (t.extract m t.size).size ≤ 10000 := by simp [ByteArray.size_extract]; omega
  have b5 := ofG_3 (t.extract 0 n) (t.extract n m) (t.extract m t.size) s1 s2 s3
  have b6 : (t.extract 0 n).data.toList ++ ((t.extract n m).data.toList ++ (t.extract m t.size).data.toList) = t.data.toList := by
    have tl : t.data.toList.length = t.size := Array.length_toList
    rw [bstr_of t, bstr_take, bstr_extract, bstr_size', bstr_drop]
    exact cut3 t.data.toList n m m1
  rw [b6] at b5
  have hb : ∀ l : List UInt8, (bstr l).toList = l := bstr_toList
  have hs : ∀ l : List UInt8, (bstr l).size = l.length := bstr_size'
  have l1 := sumL_len t.data.toList
  refine Spec.of_vx hΓ follows_mixed Try.func6 rfl (by kernel_rfl) (T := [(6, .alc)]) (by simp [Try.ntmps6]) (by kernel_rfl) rfl Try.ntmps6 (res := [.tmp 6]) rfl ?_
  intro W
  simp -implicitDefEqProofs (maxSteps := 100000000) only [vy_succ, vy_zero, vx_skip, vx_reg0, vx_reg1, vx_ord, xx_done, xx_stop, xx_alt, vx_seq, vx_cond, vx_block, vx_exit, vx_ret, vx_loop, gx_nil, gx_cons, dx_nil, dx_cons, slim, slimOp, gO, gSO, qSO, quietOp, cx_nil, cx_cons, xx_alc, cS, qSB, eK, calmOp, guardS, gK, qK, putK, plK, dOk, St.ev, St.get, St.mem, St.set, St.setm, St.put, lookA, look, newK, nextver, initT, seqE, blockQ, bodyQ, resK, retV, AV.rdv, cells_agg, cells_int, cells_bool, cells_string, cells_slice, cells_uV, agg_uV, isNil_uV, toN_uV, i64_in, IntKind.wrap_u64, IntKind.wrap_u8, IntKind.wrap_u32, ↓binK, ↓intK, unK, ↓loadK, ↓withKey_eq, ↓idxAddrK, ↓indexK, ↓partK, ↓fieldK, ↓fieldAddrK, ↓convK, ↓callK, wrG, updK, ↓lenK, ↓mmK, ↓appK, ↓copyK, ↓sliceK, ↓toArrK, nilK, optK_some, optK_tup, optK_ite, evs, plains, seqParts, capsOf, capsD, List.append_nil, List.nil_append, List.cons_append, AV.dv, AV.cont, isNil_agg, isNil_int, isNil_bool, isNil_string, isNil_nil, isNil_slice, ↓buildV_eq, fillL, placesOf, Option.map_some, Option.map_none, ↓storeK, wrL, RV.av, DV.av, List.set, List.map_cons, List.map_nil, List.length_cons, List.length_nil, List.all_cons, List.all_nil, List.getElem?_cons_zero, List.getElem?_cons_succ, List.getElem?_nil, List.size_toArray, List.getElem?_toArray, List.drop_zero, List.drop_succ_cons, List.take_zero, List.take_succ_cons, Option.getD_some, Option.getD_none, Option.some.injEq, Option.isSome_some, Nat.reduceEqDiff, Nat.reduceAdd, Nat.reduceSub, Nat.reduceMul, Nat.reduceLT, Nat.reduceLeDiff, Nat.reduceMod, Nat.reduceDiv, Int.cast_ofNat_Int, Int.reduceLT, Int.reduceLE, Int.reduceToNat, ↓reduceIte, true_and, and_true, true_or, or_true, or_false, false_or, reduceCtorEq, Bool.false_eq_true, Bool.and_true, Bool.not_true, Bool.not_false, beq_self_eq_true, Bool.true_beq, Bool.false_beq, Value.oneCell', decide_true, decide_false, Int.reduceAdd, Int.reduceSub, Int.reduceMod, Int.reduceMul, Int.reduceNeg, Int.reduceBEq, Int.reduceBNe, Int.reduceTDiv, Int.reduceTMod, ne_eq, not_false_eq_true, not_true_eq_false, Int.reduceEq, Nat.zero_add, Nat.add_zero, Nat.le_refl, Try.underlying2, s_2, g_2, z_2, Try.underlying3, s_3, g_3, z_3, Try.underlying4, s_4, g_4, z_4, Try.underlying5, s_5, g_5, z_5, Try.underlying9, s_9, g_9, z_9, Try.underlying12, s_12, g_12, z_12, Try.underlying13, s_13, g_13, z_13, q_13, Try.underlying21, s_21, g_21, z_21, Try.underlying25, s_25, g_25, z_25, Try.underlying26, s_26, g_26, z_26, q_26, Try.underlying32, s_32, g_32, l_32, r_32, Try.underlying34, s_34, g_34, z_34, Try.underlying35, s_35, g_35, z_35, q_35, Try.underlying38, s_38, g_38, z_38, q_38, Try.underlying42, s_42, g_42, l_42, r_42, Try.underlying44, s_44, g_44, z_44, q_44, Try.underlying57, s_57, g_57, l_57, r_57, Try.underlying69, s_69, g_69, z_69, mmK, hk, k3, k4, ht, Int.toNat_natCast, hn, n3, n4, hm, m3, m4, m5, b1, b2, b3, b4, b5, trueG, hb, hs, l1, Int.le_refl]
end Go.Vm
