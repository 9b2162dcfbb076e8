/- Sums with a key. No condition. -/
import Derived.Test.YtfalpjjalbclcaaSn
import Derived.Test.YtfalpjjalbclcaaSm
set_option maxRecDepth 100000
set_option linter.unusedSimpArgs false
set_option linter.unusedVariables false
namespace Go.Vm
open Go Go.RowKit Go.Proofs

noncomputable def sumG : List DV → Option RV
  | [.pl (.string s)] => if s.size ≤ 1000000 then some (.one (.pl (.string (bstr (sumS s.data.toList))))) else none
  | _ => none
theorem sum_ok : ∀ ds r, sumG ds = some r → Spec Try.prog 11 ds r := by
  intro ds r h
  unfold sumG at h
  split at h
  case h_2 => cases h
  rename_i s
  split at h
  case isFalse => cases h
  rename_i hs
  cases h
  have := sum_walk s.data.toList hs
  rw [← bstr_of] at this
  exact this
noncomputable def rsumG : List DV → Option RV
  | [.pl (.string s), .vec xs] => open Classical in if s.size ≤ 1000000 ∧ xs = hL KC then some (.one (.pl (.string (bstr (sumS s.data.toList))))) else none
  | _ => none
theorem rsum_ok : ∀ ds r, rsumG ds = some r → Spec Try.prog 12 ds r := by
  intro ds r h
  unfold rsumG at h
  split at h
  case h_2 => cases h
  rename_i s xs
  split at h
  case isFalse => cases h
  rename_i hs
  cases h
  have := rsum_walk s.data.toList hs.1
  rw [← bstr_of] at this
  rw [hs.2]
  exact this
noncomputable def keyN : List UInt8 → List UInt8 := Classical.choose (⟨fun k => if 64 < k.length then sumS k else k, rfl⟩ : ∃ y : List UInt8 → List UInt8, y = fun k => if 64 < k.length then sumS k else k)
theorem keyN_eq : keyN = fun k => if 64 < k.length then sumS k else k := Classical.choose_spec (⟨fun k => if 64 < k.length then sumS k else k, rfl⟩ : ∃ y : List UInt8 → List UInt8, y = fun k => if 64 < k.length then sumS k else k)
theorem keyN_len (k : List UInt8) : (keyN k).length ≤ 64 := by
  rw [keyN_eq]
  simp only
  split
  · rw [sumS_len]; omega
  · omega
noncomputable def macS : List UInt8 → List UInt8 → List UInt8 := Classical.choose (⟨fun k s => sumS (padF (keyN k) 92 ++ sumS (padF (keyN k) 54 ++ s)), rfl⟩ : ∃ y : List UInt8 → List UInt8 → List UInt8, y = fun k s => sumS (padF (keyN k) 92 ++ sumS (padF (keyN k) 54 ++ s)))
theorem macS_eq : macS = fun k s => sumS (padF (keyN k) 92 ++ sumS (padF (keyN k) 54 ++ s)) := Classical.choose_spec (⟨fun k s => sumS (padF (keyN k) 92 ++ sumS (padF (keyN k) 54 ++ s)), rfl⟩ : ∃ y : List UInt8 → List UInt8 → List UInt8, y = fun k s => sumS (padF (keyN k) 92 ++ sumS (padF (keyN k) 54 ++ s)))
theorem macS_len (k s : List UInt8) : (macS k s).length = 32 := by rw [macS_eq]; exact sumS_len _
theorem macS_fold (k s K : List UInt8) (h : keyN k = K) : sumS (padF K 92 ++ sumS (padF K 54 ++ s)) = macS k s := by rw [macS_eq, ← h]
theorem o92 : UInt8.ofNat (92 : Int).toNat = 92 := rfl
theorem o54 : UInt8.ofNat (54 : Int).toNat = 54 := rfl
theorem sumG_b (l : List UInt8) (h : l.length ≤ 1000000) : sumG [.pl (.string (bstr l))] = some (.one (.pl (.string (bstr (sumS l))))) := by
  unfold sumG
  exact if_pos (by rw [bstr_size']; exact h)
theorem rsumG_b (l : List UInt8) (h : l.length ≤ 1000000) : rsumG [.pl (.string (bstr l)), .vec (hL KC)] = some (.one (.pl (.string (bstr (sumS l))))) := by
  unfold rsumG
  exact if_pos ⟨by rw [bstr_size']; exact h, rfl⟩
theorem padcG_b (l : List UInt8) (h : l.length ≤ 64) : padcG [.pl (.int .u8 92), .cel (.string (bstr l))] = some (.one (.pl (.string (bstr (padF l 92))))) ∧ padcG [.pl (.int .u8 54), .cel (.string (bstr l))] = some (.one (.pl (.string (bstr (padF l 54))))) := by
  unfold padcG
  exact ⟨if_pos ⟨by omega, by omega, by rw [bstr_size']; exact h⟩, if_pos ⟨by omega, by omega, by rw [bstr_size']; exact h⟩⟩
theorem rpadG_b (l : List UInt8) : rpadG [.pl (.string (bstr l)), .pl (.int .u8 92)] = some (.one (.pl (.string (bstr (padF l 92))))) ∧ rpadG [.pl (.string (bstr l)), .pl (.int .u8 54)] = some (.one (.pl (.string (bstr (padF l 54))))) := by
  unfold rpadG
  exact ⟨if_pos (by omega), if_pos (by omega)⟩
set_option maxHeartbeats 40000000 in
theorem mac_walk (k s : List UInt8) (xs : List Value) (hk : k.length ≤ 1000) (hs : s.length ≤ 100000) (hj : joinG [.vec xs, .pl (.string ⟨#[]⟩)] = some (.one (.pl (.string (bstr s))))) : Spec Try.prog 13 [.pl (.string (bstr k)), .vec xs] (.one (.pl (.string (bstr (macS k s))))) := by
  have hΓ : Env.ok [(11, sumG), (24, padcG), (25, joinG)] Try.prog := ok_cons sum_ok (ok_cons padc_ok (ok_cons join_ok (ok_nil _)))
  have sz := bstr_size' k
  have lK := keyN_len k
  have fo := fun s => macS_fold k s _ rfl
  have s1 := sumG_b k (by omega)
  have p92 := (padcG_b (keyN k) lK).1
  have p54 := (padcG_b (keyN k) lK).2
  have l54 := padF_len (keyN k) 54
  have l92 := padF_len (keyN k) 92
  have s2 := sumG_b (padF (keyN k) 54 ++ s) (by rw [List.length_append, l54]; omega)
  have ls := sumS_len (padF (keyN k) 54 ++ s)
  have s3 := sumG_b (padF (keyN k) 92 ++ sumS (padF (keyN k) 54 ++ s)) (by rw [List.length_append, l92, ls]; omega)
  have b1 : 64 + s.length ≤ 9223372036854775807 := by omega
  have hkn : keyN k = if 64 < k.length then sumS k else k := by rw [keyN_eq]
  by_cases h64 : 64 < k.length
  · have e0 : decide ((64 : Int) < (k.length : Int)) = true := decide_eq_true (by omega)
    rw [if_pos h64] at hkn
    refine Spec.of_vx hΓ follows_mixed Try.func13 rfl (by kernel_rfl) (T := []) (by simp [Try.ntmps13]) (by kernel_rfl) rfl Try.ntmps13 (res := [.tmp 4]) rfl ?_
    intro W
    simp -implicitDefEqProofs (maxSteps := 100000000) only [vy_succ, vy_zero, vx_skip, vx_reg0, vx_reg1, vx_ord, xx_done, xx_stop, xx_alt, vx_seq, vx_cond, vx_block, vx_exit, vx_ret, vx_loop, gx_nil, gx_cons, dx_nil, dx_cons, slim, slimOp, gO, gSO, qSO, quietOp, cx_nil, cx_cons, xx_alc, cS, qSB, eK, calmOp, guardS, gK, qK, putK, plK, dOk, St.ev, St.get, St.mem, St.set, St.setm, St.put, lookA, look, newK, nextver, initT, seqE, blockQ, bodyQ, resK, retV, AV.rdv, cells_agg, cells_int, cells_bool, cells_string, cells_slice, cells_uV, agg_uV, isNil_uV, toN_uV, i64_in, IntKind.wrap_u64, IntKind.wrap_u8, IntKind.wrap_u32, ↓binK, ↓intK, unK, ↓loadK, ↓withKey_eq, ↓idxAddrK, ↓indexK, ↓partK, ↓fieldK, ↓fieldAddrK, ↓convK, ↓callK, wrG, updK, ↓lenK, ↓mmK, ↓appK, ↓copyK, ↓sliceK, ↓toArrK, nilK, optK_some, optK_tup, optK_ite, evs, plains, seqParts, capsOf, capsD, List.append_nil, List.nil_append, List.cons_append, AV.dv, AV.cont, isNil_agg, isNil_int, isNil_bool, isNil_string, isNil_nil, isNil_slice, ↓buildV_eq, fillL, placesOf, Option.map_some, Option.map_none, ↓storeK, wrL, RV.av, DV.av, List.set, List.map_cons, List.map_nil, List.length_cons, List.length_nil, List.all_cons, List.all_nil, List.getElem?_cons_zero, List.getElem?_cons_succ, List.getElem?_nil, List.size_toArray, List.getElem?_toArray, List.drop_zero, List.drop_succ_cons, List.take_zero, List.take_succ_cons, Option.getD_some, Option.getD_none, Option.some.injEq, Option.isSome_some, Nat.reduceEqDiff, Nat.reduceAdd, Nat.reduceSub, Nat.reduceMul, Nat.reduceLT, Nat.reduceLeDiff, Nat.reduceMod, Nat.reduceDiv, Int.cast_ofNat_Int, Int.reduceLT, Int.reduceLE, Int.reduceToNat, ↓reduceIte, true_and, and_true, true_or, or_true, or_false, false_or, reduceCtorEq, Bool.false_eq_true, Bool.and_true, Bool.not_true, Bool.not_false, beq_self_eq_true, Bool.true_beq, Bool.false_beq, Value.oneCell', decide_true, decide_false, Int.reduceAdd, Int.reduceSub, Int.reduceMod, Int.reduceMul, Int.reduceNeg, Int.reduceBEq, Int.reduceBNe, Int.reduceTDiv, Int.reduceTMod, ne_eq, not_false_eq_true, not_true_eq_false, Int.reduceEq, Nat.zero_add, Nat.add_zero, Nat.le_refl, Try.underlying2, s_2, g_2, z_2, Try.underlying3, s_3, g_3, z_3, Try.underlying4, s_4, g_4, z_4, Try.underlying5, s_5, g_5, z_5, Try.underlying9, s_9, g_9, z_9, Try.underlying12, s_12, g_12, z_12, Try.underlying13, s_13, g_13, z_13, q_13, Try.underlying21, s_21, g_21, z_21, Try.underlying22, s_22, g_22, z_22, Try.underlying23, s_23, g_23, z_23, q_23, Try.underlying24, s_24, g_24, z_24, Try.underlying29, s_29, g_29, l_29, r_29, Try.underlying38, s_38, g_38, l_38, r_38, Try.underlying39, s_39, g_39, z_39, q_39, Try.underlying43, s_43, g_43, l_43, r_43, Try.underlying47, s_47, g_47, z_47, Try.underlying49, s_49, g_49, z_49, Try.underlying50, s_50, g_50, l_50, r_50, sz, e0, s1, hj, ← hkn, p92, p54, s2, s3, l54, l92, ls, b1, bstr_append, bstr_size', List.length_append, fo]
  · have e0 : decide ((64 : Int) < (k.length : Int)) = false := decide_eq_false (by omega)
    rw [if_neg h64] at hkn
    simp only [hkn] at fo p92 p54 l54 l92 s2 s3 ls
    refine Spec.of_vx hΓ follows_mixed Try.func13 rfl (by kernel_rfl) (T := []) (by simp [Try.ntmps13]) (by kernel_rfl) rfl Try.ntmps13 (res := [.tmp 4]) rfl ?_
    intro W
    simp -implicitDefEqProofs (maxSteps := 100000000) only [vy_succ, vy_zero, vx_skip, vx_reg0, vx_reg1, vx_ord, xx_done, xx_stop, xx_alt, vx_seq, vx_cond, vx_block, vx_exit, vx_ret, vx_loop, gx_nil, gx_cons, dx_nil, dx_cons, slim, slimOp, gO, gSO, qSO, quietOp, cx_nil, cx_cons, xx_alc, cS, qSB, eK, calmOp, guardS, gK, qK, putK, plK, dOk, St.ev, St.get, St.mem, St.set, St.setm, St.put, lookA, look, newK, nextver, initT, seqE, blockQ, bodyQ, resK, retV, AV.rdv, cells_agg, cells_int, cells_bool, cells_string, cells_slice, cells_uV, agg_uV, isNil_uV, toN_uV, i64_in, IntKind.wrap_u64, IntKind.wrap_u8, IntKind.wrap_u32, ↓binK, ↓intK, unK, ↓loadK, ↓withKey_eq, ↓idxAddrK, ↓indexK, ↓partK, ↓fieldK, ↓fieldAddrK, ↓convK, ↓callK, wrG, updK, ↓lenK, ↓mmK, ↓appK, ↓copyK, ↓sliceK, ↓toArrK, nilK, optK_some, optK_tup, optK_ite, evs, plains, seqParts, capsOf, capsD, List.append_nil, List.nil_append, List.cons_append, AV.dv, AV.cont, isNil_agg, isNil_int, isNil_bool, isNil_string, isNil_nil, isNil_slice, ↓buildV_eq, fillL, placesOf, Option.map_some, Option.map_none, ↓storeK, wrL, RV.av, DV.av, List.set, List.map_cons, List.map_nil, List.length_cons, List.length_nil, List.all_cons, List.all_nil, List.getElem?_cons_zero, List.getElem?_cons_succ, List.getElem?_nil, List.size_toArray, List.getElem?_toArray, List.drop_zero, List.drop_succ_cons, List.take_zero, List.take_succ_cons, Option.getD_some, Option.getD_none, Option.some.injEq, Option.isSome_some, Nat.reduceEqDiff, Nat.reduceAdd, Nat.reduceSub, Nat.reduceMul, Nat.reduceLT, Nat.reduceLeDiff, Nat.reduceMod, Nat.reduceDiv, Int.cast_ofNat_Int, Int.reduceLT, Int.reduceLE, Int.reduceToNat, ↓reduceIte, true_and, and_true, true_or, or_true, or_false, false_or, reduceCtorEq, Bool.false_eq_true, Bool.and_true, Bool.not_true, Bool.not_false, beq_self_eq_true, Bool.true_beq, Bool.false_beq, Value.oneCell', decide_true, decide_false, Int.reduceAdd, Int.reduceSub, Int.reduceMod, Int.reduceMul, Int.reduceNeg, Int.reduceBEq, Int.reduceBNe, Int.reduceTDiv, Int.reduceTMod, ne_eq, not_false_eq_true, not_true_eq_false, Int.reduceEq, Nat.zero_add, Nat.add_zero, Nat.le_refl, Try.underlying2, s_2, g_2, z_2, Try.underlying3, s_3, g_3, z_3, Try.underlying4, s_4, g_4, z_4, Try.underlying5, s_5, g_5, z_5, Try.underlying9, s_9, g_9, z_9, Try.underlying12, s_12, g_12, z_12, Try.underlying13, s_13, g_13, z_13, q_13, Try.underlying21, s_21, g_21, z_21, Try.underlying22, s_22, g_22, z_22, Try.underlying23, s_23, g_23, z_23, q_23, Try.underlying24, s_24, g_24, z_24, Try.underlying29, s_29, g_29, l_29, r_29, Try.underlying38, s_38, g_38, l_38, r_38, Try.underlying39, s_39, g_39, z_39, q_39, Try.underlying43, s_43, g_43, l_43, r_43, Try.underlying47, s_47, g_47, z_47, Try.underlying49, s_49, g_49, z_49, Try.underlying50, s_50, g_50, l_50, r_50, sz, e0, hj, p92, p54, s2, s3, l54, l92, ls, b1, bstr_append, bstr_size', List.length_append, fo]
def bytesOf : Value → Option (List UInt8)
  | .string s => some s.data.toList
  | _ => none
noncomputable def macG : List DV → Option RV
  | [.pl (.string k), .vec xs] => match joinG [.vec xs, .pl (.string ⟨#[]⟩)] with
    | some (.one (.pl (.string s))) => if k.size ≤ 1000 ∧ s.size ≤ 100000 then some (.one (.pl (.string (bstr (macS k.data.toList s.data.toList))))) else none
    | _ => none
  | _ => none
theorem mac_ok : ∀ ds r, macG ds = some r → Spec Try.prog 13 ds r := by
  intro ds r h
  unfold macG at h
  split at h
  case h_2 => cases h
  rename_i k xs
  split at h
  case h_2 => cases h
  rename_i s hj
  split at h
  case isFalse => cases h
  rename_i hc
  cases h
  have := mac_walk k.data.toList s.data.toList xs hc.1 hc.2 (by rw [hj, ← bstr_of])
  rw [← bstr_of] at this
  exact this
set_option maxHeartbeats 40000000 in
theorem rmac_walk (k s : List UInt8) (hk : k.length ≤ 1000) (hs : s.length ≤ 100000) : Spec Try.prog 14 [.pl (.string (bstr k)), .pl (.string (bstr s)), .vec (hL KC)] (.one (.pl (.string (bstr (macS k s))))) := by
  have hΓ : Env.ok [(12, rsumG), (26, rpadG)] Try.prog := ok_cons rsum_ok (ok_cons rpad_ok (ok_nil _))
  have sz := bstr_size' k
  have fo := fun s => macS_fold k s _ rfl
  have s1 := rsumG_b k (by omega)
  have p92 := (rpadG_b (keyN k)).1
  have p54 := (rpadG_b (keyN k)).2
  have l54 := padF_len (keyN k) 54
  have l92 := padF_len (keyN k) 92
  have s2 := rsumG_b (padF (keyN k) 54 ++ s) (by rw [List.length_append, l54]; omega)
  have ls := sumS_len (padF (keyN k) 54 ++ s)
  have s3 := rsumG_b (padF (keyN k) 92 ++ sumS (padF (keyN k) 54 ++ s)) (by rw [List.length_append, l92, ls]; omega)
  have b1 : 64 + s.length ≤ 9223372036854775807 := by omega
  have hkn : keyN k = if 64 < k.length then sumS k else k := by rw [keyN_eq]
  by_cases h64 : 64 < k.length
  · have e0 : decide ((64 : Int) < (k.length : Int)) = true := decide_eq_true (by omega)
    rw [if_pos h64] at hkn
    refine Spec.of_vx hΓ follows_mixed Try.func14 rfl (by kernel_rfl) (T := []) (by simp [Try.ntmps14]) (by kernel_rfl) rfl Try.ntmps14 (res := [.tmp 6]) rfl ?_
    intro W
    simp -implicitDefEqProofs (maxSteps := 100000000) only [vy_succ, vy_zero, vx_skip, vx_reg0, vx_reg1, vx_ord, xx_done, xx_stop, xx_alt, vx_seq, vx_cond, vx_block, vx_exit, vx_ret, vx_loop, gx_nil, gx_cons, dx_nil, dx_cons, slim, slimOp, gO, gSO, qSO, quietOp, cx_nil, cx_cons, xx_alc, cS, qSB, eK, calmOp, guardS, gK, qK, putK, plK, dOk, St.ev, St.get, St.mem, St.set, St.setm, St.put, lookA, look, newK, nextver, initT, seqE, blockQ, bodyQ, resK, retV, AV.rdv, cells_agg, cells_int, cells_bool, cells_string, cells_slice, cells_uV, agg_uV, isNil_uV, toN_uV, i64_in, IntKind.wrap_u64, IntKind.wrap_u8, IntKind.wrap_u32, ↓binK, ↓intK, unK, ↓loadK, ↓withKey_eq, ↓idxAddrK, ↓indexK, ↓partK, ↓fieldK, ↓fieldAddrK, ↓convK, ↓callK, wrG, updK, ↓lenK, ↓mmK, ↓appK, ↓copyK, ↓sliceK, ↓toArrK, nilK, optK_some, optK_tup, optK_ite, evs, plains, seqParts, capsOf, capsD, List.append_nil, List.nil_append, List.cons_append, AV.dv, AV.cont, isNil_agg, isNil_int, isNil_bool, isNil_string, isNil_nil, isNil_slice, ↓buildV_eq, fillL, placesOf, Option.map_some, Option.map_none, ↓storeK, wrL, RV.av, DV.av, List.set, List.map_cons, List.map_nil, List.length_cons, List.length_nil, List.all_cons, List.all_nil, List.getElem?_cons_zero, List.getElem?_cons_succ, List.getElem?_nil, List.size_toArray, List.getElem?_toArray, List.drop_zero, List.drop_succ_cons, List.take_zero, List.take_succ_cons, Option.getD_some, Option.getD_none, Option.some.injEq, Option.isSome_some, Nat.reduceEqDiff, Nat.reduceAdd, Nat.reduceSub, Nat.reduceMul, Nat.reduceLT, Nat.reduceLeDiff, Nat.reduceMod, Nat.reduceDiv, Int.cast_ofNat_Int, Int.reduceLT, Int.reduceLE, Int.reduceToNat, ↓reduceIte, true_and, and_true, true_or, or_true, or_false, false_or, reduceCtorEq, Bool.false_eq_true, Bool.and_true, Bool.not_true, Bool.not_false, beq_self_eq_true, Bool.true_beq, Bool.false_beq, Value.oneCell', decide_true, decide_false, Int.reduceAdd, Int.reduceSub, Int.reduceMod, Int.reduceMul, Int.reduceNeg, Int.reduceBEq, Int.reduceBNe, Int.reduceTDiv, Int.reduceTMod, ne_eq, not_false_eq_true, not_true_eq_false, Int.reduceEq, Nat.zero_add, Nat.add_zero, Nat.le_refl, Try.underlying2, s_2, g_2, z_2, Try.underlying3, s_3, g_3, z_3, Try.underlying4, s_4, g_4, z_4, Try.underlying5, s_5, g_5, z_5, Try.underlying9, s_9, g_9, z_9, Try.underlying12, s_12, g_12, z_12, Try.underlying13, s_13, g_13, z_13, q_13, Try.underlying21, s_21, g_21, z_21, Try.underlying22, s_22, g_22, z_22, Try.underlying23, s_23, g_23, z_23, q_23, Try.underlying24, s_24, g_24, z_24, Try.underlying29, s_29, g_29, l_29, r_29, Try.underlying38, s_38, g_38, l_38, r_38, Try.underlying39, s_39, g_39, z_39, q_39, Try.underlying43, s_43, g_43, l_43, r_43, Try.underlying47, s_47, g_47, z_47, Try.underlying49, s_49, g_49, z_49, Try.underlying50, s_50, g_50, l_50, r_50, sz, e0, s1, ← hkn, p92, p54, s2, s3, l54, l92, ls, b1, bstr_append, bstr_size', List.length_append, fo]
  · have e0 : decide ((64 : Int) < (k.length : Int)) = false := decide_eq_false (by omega)
    rw [if_neg h64] at hkn
    simp only [hkn] at fo p92 p54 l54 l92 s2 s3 ls
    refine Spec.of_vx hΓ follows_mixed Try.func14 rfl (by kernel_rfl) (T := []) (by simp [Try.ntmps14]) (by kernel_rfl) rfl Try.ntmps14 (res := [.tmp 6]) rfl ?_
    intro W
    simp -implicitDefEqProofs (maxSteps := 100000000) only [vy_succ, vy_zero, vx_skip, vx_reg0, vx_reg1, vx_ord, xx_done, xx_stop, xx_alt, vx_seq, vx_cond, vx_block, vx_exit, vx_ret, vx_loop, gx_nil, gx_cons, dx_nil, dx_cons, slim, slimOp, gO, gSO, qSO, quietOp, cx_nil, cx_cons, xx_alc, cS, qSB, eK, calmOp, guardS, gK, qK, putK, plK, dOk, St.ev, St.get, St.mem, St.set, St.setm, St.put, lookA, look, newK, nextver, initT, seqE, blockQ, bodyQ, resK, retV, AV.rdv, cells_agg, cells_int, cells_bool, cells_string, cells_slice, cells_uV, agg_uV, isNil_uV, toN_uV, i64_in, IntKind.wrap_u64, IntKind.wrap_u8, IntKind.wrap_u32, ↓binK, ↓intK, unK, ↓loadK, ↓withKey_eq, ↓idxAddrK, ↓indexK, ↓partK, ↓fieldK, ↓fieldAddrK, ↓convK, ↓callK, wrG, updK, ↓lenK, ↓mmK, ↓appK, ↓copyK, ↓sliceK, ↓toArrK, nilK, optK_some, optK_tup, optK_ite, evs, plains, seqParts, capsOf, capsD, List.append_nil, List.nil_append, List.cons_append, AV.dv, AV.cont, isNil_agg, isNil_int, isNil_bool, isNil_string, isNil_nil, isNil_slice, ↓buildV_eq, fillL, placesOf, Option.map_some, Option.map_none, ↓storeK, wrL, RV.av, DV.av, List.set, List.map_cons, List.map_nil, List.length_cons, List.length_nil, List.all_cons, List.all_nil, List.getElem?_cons_zero, List.getElem?_cons_succ, List.getElem?_nil, List.size_toArray, List.getElem?_toArray, List.drop_zero, List.drop_succ_cons, List.take_zero, List.take_succ_cons, Option.getD_some, Option.getD_none, Option.some.injEq, Option.isSome_some, Nat.reduceEqDiff, Nat.reduceAdd, Nat.reduceSub, Nat.reduceMul, Nat.reduceLT, Nat.reduceLeDiff, Nat.reduceMod, Nat.reduceDiv, Int.cast_ofNat_Int, Int.reduceLT, Int.reduceLE, Int.reduceToNat, ↓reduceIte, true_and, and_true, true_or, or_true, or_false, false_or, reduceCtorEq, Bool.false_eq_true, Bool.and_true, Bool.not_true, Bool.not_false, beq_self_eq_true, Bool.true_beq, Bool.false_beq, Value.oneCell', decide_true, decide_false, Int.reduceAdd, Int.reduceSub, Int.reduceMod, Int.reduceMul, Int.reduceNeg, Int.reduceBEq, Int.reduceBNe, Int.reduceTDiv, Int.reduceTMod, ne_eq, not_false_eq_true, not_true_eq_false, Int.reduceEq, Nat.zero_add, Nat.add_zero, Nat.le_refl, Try.underlying2, s_2, g_2, z_2, Try.underlying3, s_3, g_3, z_3, Try.underlying4, s_4, g_4, z_4, Try.underlying5, s_5, g_5, z_5, Try.underlying9, s_9, g_9, z_9, Try.underlying12, s_12, g_12, z_12, Try.underlying13, s_13, g_13, z_13, q_13, Try.underlying21, s_21, g_21, z_21, Try.underlying22, s_22, g_22, z_22, Try.underlying23, s_23, g_23, z_23, q_23, Try.underlying24, s_24, g_24, z_24, Try.underlying29, s_29, g_29, l_29, r_29, Try.underlying38, s_38, g_38, l_38, r_38, Try.underlying39, s_39, g_39, z_39, q_39, Try.underlying43, s_43, g_43, l_43, r_43, Try.underlying47, s_47, g_47, z_47, Try.underlying49, s_49, g_49, z_49, Try.underlying50, s_50, g_50, l_50, r_50, sz, e0, p92, p54, s2, s3, l54, l92, ls, b1, bstr_append, bstr_size', List.length_append, fo]
noncomputable def rmacG : List DV → Option RV
  | [.pl (.string k), .pl (.string s), .vec xs] => open Classical in if k.size ≤ 1000 ∧ s.size ≤ 100000 ∧ xs = hL KC then some (.one (.pl (.string (bstr (macS k.data.toList s.data.toList))))) else none
  | _ => none
theorem rmac_ok : ∀ ds r, rmacG ds = some r → Spec Try.prog 14 ds r := by
  intro ds r h
  unfold rmacG at h
  split at h
  case h_2 => cases h
  rename_i k s xs
  split at h
  case isFalse => cases h
  rename_i hc
  cases h
  have := rmac_walk k.data.toList s.data.toList hc.1 hc.2.1
  rw [← bstr_of, ← bstr_of] at this
  rw [hc.2.2]
  exact this

noncomputable def trueG : List DV → Option RV
  | [] => some (.one (.pl (.bool true)))
  | _ => none
theorem alive_ok : ∀ ds r, trueG ds = some r → Spec Try.prog 8 ds r := by
  intro ds r h
  unfold trueG at h
  split at h
  case h_2 => cases h
  cases h
  have hΓ : Env.ok [(11, sumG)] Try.prog := ok_cons sum_ok (ok_nil _)
  have h1 : sumG [.pl (.string ⟨#[97, 98, 99]⟩)] = some (.one (.pl (.string (bstr (sumS [97, 98, 99]))))) := sumG_b [97, 98, 99] (by decide)
  have h2 := sum_abc
  have h3 := sumS_len [97, 98, 99]
  have h4 : (⟨#[186, 120, 22, 191]⟩ : ByteArray).toList = [186, 120, 22, 191] := by rw [ba_toList]
  have h5 : ([186, 120, 22, 191] : List UInt8) == [186, 120, 22, 191] := by decide
  have hb : ∀ l : List UInt8, (bstr l).size = l.length := bstr_size'
  have ht : ∀ l : List UInt8, (bstr l).toList = l := bstr_toList
  refine Spec.of_vx hΓ follows_mixed Try.func8 rfl (by kernel_rfl) (T := []) (by simp [Try.ntmps8]) (by kernel_rfl) rfl Try.ntmps8 (res := [.tmp 0]) rfl ?_
  intro W
  simp -implicitDefEqProofs (maxSteps := 100000000) only [vy_succ, vy_zero, vx_skip, vx_reg0, vx_reg1, vx_ord, xx_done, xx_stop, xx_alt, vx_seq, vx_cond, vx_block, vx_exit, vx_ret, vx_loop, gx_nil, gx_cons, dx_nil, dx_cons, slim, slimOp, gO, gSO, qSO, quietOp, cx_nil, cx_cons, xx_alc, cS, qSB, eK, calmOp, guardS, gK, qK, putK, plK, dOk, St.ev, St.get, St.mem, St.set, St.setm, St.put, lookA, look, newK, nextver, initT, seqE, blockQ, bodyQ, resK, retV, AV.rdv, cells_agg, cells_int, cells_bool, cells_string, cells_slice, cells_uV, agg_uV, isNil_uV, toN_uV, i64_in, IntKind.wrap_u64, IntKind.wrap_u8, IntKind.wrap_u32, ↓binK, ↓intK, unK, ↓loadK, ↓withKey_eq, ↓idxAddrK, ↓indexK, ↓partK, ↓fieldK, ↓fieldAddrK, ↓convK, ↓callK, wrG, updK, ↓lenK, ↓mmK, ↓appK, ↓copyK, ↓sliceK, ↓toArrK, nilK, optK_some, optK_tup, optK_ite, evs, plains, seqParts, capsOf, capsD, List.append_nil, List.nil_append, List.cons_append, AV.dv, AV.cont, isNil_agg, isNil_int, isNil_bool, isNil_string, isNil_nil, isNil_slice, ↓buildV_eq, fillL, placesOf, Option.map_some, Option.map_none, ↓storeK, wrL, RV.av, DV.av, List.set, List.map_cons, List.map_nil, List.length_cons, List.length_nil, List.all_cons, List.all_nil, List.getElem?_cons_zero, List.getElem?_cons_succ, List.getElem?_nil, List.size_toArray, List.getElem?_toArray, List.drop_zero, List.drop_succ_cons, List.take_zero, List.take_succ_cons, Option.getD_some, Option.getD_none, Option.some.injEq, Option.isSome_some, Nat.reduceEqDiff, Nat.reduceAdd, Nat.reduceSub, Nat.reduceMul, Nat.reduceLT, Nat.reduceLeDiff, Nat.reduceMod, Nat.reduceDiv, Int.cast_ofNat_Int, Int.reduceLT, Int.reduceLE, Int.reduceToNat, ↓reduceIte, true_and, and_true, true_or, or_true, or_false, false_or, reduceCtorEq, Bool.false_eq_true, Bool.and_true, Bool.not_true, Bool.not_false, beq_self_eq_true, Bool.true_beq, Bool.false_beq, Value.oneCell', decide_true, decide_false, Int.reduceAdd, Int.reduceSub, Int.reduceMod, Int.reduceMul, Int.reduceNeg, Int.reduceBEq, Int.reduceBNe, Int.reduceTDiv, Int.reduceTMod, ne_eq, not_false_eq_true, not_true_eq_false, Int.reduceEq, Nat.zero_add, Nat.add_zero, Nat.le_refl, Try.underlying2, s_2, g_2, z_2, Try.underlying3, s_3, g_3, z_3, Try.underlying4, s_4, g_4, z_4, Try.underlying5, s_5, g_5, z_5, Try.underlying9, s_9, g_9, z_9, Try.underlying12, s_12, g_12, z_12, Try.underlying13, s_13, g_13, z_13, q_13, Try.underlying21, s_21, g_21, z_21, Try.underlying22, s_22, g_22, z_22, Try.underlying23, s_23, g_23, z_23, q_23, Try.underlying24, s_24, g_24, z_24, Try.underlying29, s_29, g_29, l_29, r_29, Try.underlying38, s_38, g_38, l_38, r_38, Try.underlying39, s_39, g_39, z_39, q_39, Try.underlying43, s_43, g_43, l_43, r_43, Try.underlying47, s_47, g_47, z_47, Try.underlying49, s_49, g_49, z_49, Try.underlying50, s_50, g_50, l_50, r_50, h1, h2, h3, h4, h5, hb, ht, bstr_take, Int.reduceLE]
end Go.Vm
