/- The laws of sums. No condition. -/
import Derived.Test.YtfalpjjalbclcaaSo
import Derived.Test.YtfalpjjalbclcaaQe
set_option maxRecDepth 100000
set_option linter.unusedSimpArgs false
set_option linter.unusedVariables false
namespace Go.Vm
open Go Go.RowKit Go.Proofs

/-! ### Equality of eight words -/
noncomputable def eqH : H8 → H8 → Bool := Classical.choose (⟨fun A B => @decide (A = B) (Classical.propDecidable _), rfl⟩ : ∃ f : H8 → H8 → Bool, f = fun A B => @decide (A = B) (Classical.propDecidable _))
theorem eqH_eq : eqH = fun A B => @decide (A = B) (Classical.propDecidable _) := Classical.choose_spec (⟨fun A B => @decide (A = B) (Classical.propDecidable _), rfl⟩ : ∃ f : H8 → H8 → Bool, f = fun A B => @decide (A = B) (Classical.propDecidable _))
theorem eqH_self (A : H8) : eqH A A = true := by rw [eqH_eq]; simp
noncomputable def tlH (s : H8) : List Int := [hn s.a, hn s.b, hn s.c, hn s.d, hn s.e, hn s.f, hn s.g, hn s.h]
theorem tlH_eq (A B : H8) : (tlH A == tlH B) = eqH A B := by
  rw [eqH_eq, Bool.eq_iff_iff]
  simp only [beq_iff_eq, decide_eq_true_eq]
  constructor
  · intro h
    refine h8_inj ?_
    have : (tlH A).map (Value.int .u32) = (tlH B).map (Value.int .u32) := by rw [h]
    exact this
  · intro h
    rw [h]
theorem eqV_h8 (A B : H8) : eqV Try.prog 23 (h8 A).toArray (h8 B).toArray = some (eqH A B) := by
  show eqV Try.prog 23 ((tlH A).map (Value.int .u32)).toArray ((tlH B).map (Value.int .u32)).toArray = _
  rw [eqV_ints (P := Try.prog) (t := 23) (e := 22) (n := 8) (k := .u32) Try.underlying23 (by kernel_rfl) (by kernel_rfl) Try.underlying22 (tlH A) (tlH B) rfl rfl, tlH_eq]
theorem binK_eqH (A B : H8) (K : Value → Prop) : binK Try.prog .eql 23 (.agg (h8 A).toArray) (.agg (h8 B).toArray) K = K (.bool (eqH A B)) := by
  apply propext
  show (Try.prog.eqGuardType Try.prog.depth 23 = false ∧ ∃ c, eqV Try.prog 23 ((tlH A).map (Value.int .u32)).toArray ((tlH B).map (Value.int .u32)).toArray = some c ∧ K (.bool c)) ↔ _
  rw [eqV_ints (P := Try.prog) (t := 23) (e := 22) (n := 8) (k := .u32) Try.underlying23 (by kernel_rfl) (by kernel_rfl) Try.underlying22 (tlH A) (tlH B) rfl rfl, tlH_eq]
  constructor
  · rintro ⟨_, c, hc, hk⟩; cases hc; exact hk
  · intro h; exact ⟨q_23, _, rfl, h⟩
noncomputable def H0 : H8 := ⟨0, 0, 0, 0, 0, 0, 0, 0⟩
theorem h0V_eq : h0V = .agg (h8 H0).toArray := by
  have : hn 0 = 0 := by rw [hn_eq]; rfl
  simp only [h0V, h8, H0, this]
theorem hh_open {l : List Int} (hl : l.length = 8) (hw : ∀ z ∈ l, 0 ≤ z ∧ z < 4294967296) : ∃ s : H8, Value.agg (l.map (Value.int .u32)).toArray = .agg (h8 s).toArray := by
  match l, hl with
  | [x0, x1, x2, x3, x4, x5, x6, x7], _ =>
    have h : ∀ z ∈ [x0, x1, x2, x3, x4, x5, x6, x7], hn (nh z) = z := fun z hz => hn_nh (by rw [okH_eq]; exact decide_eq_true (hw z hz))
    refine ⟨⟨nh x0, nh x1, nh x2, nh x3, nh x4, nh x5, nh x6, nh x7⟩, ?_⟩
    simp only [h8]
    rw [h x0 (by simp), h x1 (by simp), h x2 (by simp), h x3 (by simp), h x4 (by simp), h x5 (by simp), h x6 (by simp), h x7 (by simp)]
    rfl

/-! ### The contracts at what the laws hand them -/
theorem sumG_a (s : ByteArray) (h : s.size ≤ 1000000) : sumG [.pl (.string s)] = some (.one (.pl (.string (bstr (sumS s.data.toList))))) := by unfold sumG; exact if_pos h
theorem rsumG_a (s : ByteArray) (h : s.size ≤ 1000000) : rsumG [.pl (.string s), .vec (hL KC)] = some (.one (.pl (.string (bstr (sumS s.data.toList))))) := by unfold rsumG; exact if_pos ⟨h, rfl⟩
theorem macG_0 (k : ByteArray) (hk : k.size ≤ 1000) : macG [.pl (.string k), .vec []] = some (.one (.pl (.string (bstr (macS k.data.toList []))))) := by
  have hj : joinG [.vec [], .pl (.string ⟨#[]⟩)] = some (.one (.pl (.string (bstr [])))) := rfl
  unfold macG
  simp only
  rw [hj]
  exact if_pos ⟨hk, by rw [bstr_size']; simp⟩
theorem macG_1 (k s : ByteArray) (hk : k.size ≤ 1000) (hs : s.size ≤ 100000) : macG [.pl (.string k), .vec [.string s]] = some (.one (.pl (.string (bstr (macS k.data.toList s.data.toList))))) := by
  have hj : joinG [.vec [.string s], .pl (.string ⟨#[]⟩)] = some (.one (.pl (.string s))) := by
    unfold joinG
    exact if_pos ⟨rfl, by omega⟩
  unfold macG
  simp only
  rw [hj]
  exact if_pos ⟨hk, hs⟩
theorem macG_2 (k s t : ByteArray) (hk : k.size ≤ 1000) (hs : s.size ≤ 10000) (ht : t.size ≤ 10000) : macG [.pl (.string k), .vec [.string s, .string t]] = some (.one (.pl (.string (bstr (macS k.data.toList (s.data.toList ++ t.data.toList)))))) := by
  have hj : joinG [.vec [.string s, .string t], .pl (.string ⟨#[]⟩)] = some (.one (.pl (.string (bstr (s.data.toList ++ t.data.toList))))) := by
    unfold joinG
    exact if_pos ⟨rfl, by omega, by omega⟩
  have h1 : s.data.toList.length = s.size := Array.length_toList
  have h2 : t.data.toList.length = t.size := Array.length_toList
  unfold macG
  simp only
  rw [hj]
  exact if_pos ⟨hk, by rw [bstr_size', List.length_append]; omega⟩
theorem rmacG_a (k s : ByteArray) (hk : k.size ≤ 1000) (hs : s.size ≤ 100000) : rmacG [.pl (.string k), .pl (.string s), .vec (hL KC)] = some (.one (.pl (.string (bstr (macS k.data.toList s.data.toList))))) := by unfold rmacG; exact if_pos ⟨hk, hs, rfl⟩
theorem blkG_yes (s : H8) (b : ByteArray) (h : b.size = 64) : blkG [.pl (.agg (h8 s).toArray), .pl (.string b)] = some (.tup [.pl (.agg (h8 (blkF s b.data.toList)).toArray), .pl (.int .i64 0)]) := by
  unfold blkG
  simp only [unH_h8]
  exact if_pos h
theorem blkG_no (s : H8) (b : ByteArray) (h : b.size ≠ 64) : blkG [.pl (.agg (h8 s).toArray), .pl (.string b)] = some (.tup [.pl (.agg (h8 H0).toArray), .pl (.int .i64 4)]) := by
  unfold blkG
  simp only [unH_h8]
  rw [← h0V_eq]
  exact if_neg h
theorem rblkG_yes (s : H8) (b : ByteArray) (h : b.size = 64) : rblkG [.pl (.agg (h8 s).toArray), .pl (.string b), .vec (hL KC)] = some (.one (.pl (.agg (h8 (blkF s b.data.toList)).toArray))) := by
  unfold rblkG
  simp only [unH_h8]
  exact if_pos ⟨h, trivial⟩

/-! ### The laws -/
set_option maxHeartbeats 4000000 in
theorem blocksL_ok (s : H8) (b : ByteArray) : Spec Try.prog 3 [.pl (.agg (h8 s).toArray), .pl (.string b)] (.one (.pl (.bool true))) := by
  have hΓ : Env.ok [(7, blkG), (9, rblkG), (10, kkG), (8, trueG)] Try.prog := ok_cons blk_ok (ok_cons rblk_ok (ok_cons kk_ok (ok_cons alive_ok (ok_nil _))))
  obtain ⟨k, hk, k1, k2⟩ : ∃ k : Nat, (if (80 : Int) < (b.size : Int) then (80 : Int) else (b.size : Int)) = (k : Int) ∧ k ≤ 80 ∧ k ≤ b.size := by
    by_cases h : b.size ≤ 80
    · exact ⟨b.size, by rw [if_neg (by omega)], h, Nat.le_refl _⟩
    · exact ⟨80, by rw [if_pos (by omega)]; rfl, Nat.le_refl _, by omega⟩
  have k3 : (0 : Int) ≤ (k : Int) := by omega
  have k4 : (k : Int) ≤ (b.size : Int) := by omega
  have k5 : (b.extract 0 k).size = k := by simp [ByteArray.size_extract]; omega
  generalize ht : b.extract 0 k = t at *
  have l8 : ∀ s : H8, (h8 s).length = 8 := fun s => rfl
  have t8 : ∀ s : H8, List.take 8 (h8 s) = h8 s := fun s => rfl
  have a8 : ∀ s : H8, (h8 s).all Value.oneCell' = true := fun s => rfl
  have w8 : ∀ s : H8, wrL [Value.int .u32 0, .int .u32 0, .int .u32 0, .int .u32 0, .int .u32 0, .int .u32 0, .int .u32 0, .int .u32 0] 0 (h8 s) = h8 s := fun s => rfl
  have w8h : ∀ s : H8, wrL (h8 H0) 0 (h8 s) = h8 s := fun s => rfl
  have es := eqH_self
  have h0 : Value.agg #[.int .u32 0, .int .u32 0, .int .u32 0, .int .u32 0, .int .u32 0, .int .u32 0, .int .u32 0, .int .u32 0] = .agg (h8 H0).toArray := h0V_eq
  by_cases h64 : k = 64
  · have e0 : ((t.size : Int) != 64) = false := by simp; omega
    have b1 := blkG_yes s t (by omega)
    have b2 := rblkG_yes s t (by omega)
    refine Spec.of_vx hΓ follows_mixed Try.func3 rfl (by kernel_rfl) (T := []) (by simp [Try.ntmps3]) (by kernel_rfl) rfl Try.ntmps3 (res := [.tmp 4]) rfl ?_
    intro W
    simp -implicitDefEqProofs (maxSteps := 100000000) only [↓binK_eqH, vy_succ, vy_zero, vx_skip, vx_reg0, vx_reg1, vx_ord, xx_done, xx_stop, xx_alt, vx_seq, vx_cond, vx_block, vx_exit, vx_ret, vx_loop, gx_nil, gx_cons, dx_nil, dx_cons, slim, slimOp, gO, gSO, qSO, quietOp, cx_nil, cx_cons, xx_alc, cS, qSB, eK, calmOp, guardS, gK, qK, putK, plK, dOk, St.ev, St.get, St.mem, St.set, St.setm, St.put, lookA, look, newK, nextver, initT, seqE, blockQ, bodyQ, resK, retV, AV.rdv, cells_agg, cells_int, cells_bool, cells_string, cells_slice, cells_uV, agg_uV, isNil_uV, toN_uV, i64_in, IntKind.wrap_u64, IntKind.wrap_u8, IntKind.wrap_u32, ↓binK, ↓intK, unK, ↓loadK, ↓withKey_eq, ↓idxAddrK, ↓indexK, ↓partK, ↓fieldK, ↓fieldAddrK, ↓convK, ↓callK, wrG, updK, ↓lenK, ↓mmK, ↓appK, ↓copyK, ↓sliceK, ↓toArrK, nilK, optK_some, optK_tup, optK_ite, evs, plains, seqParts, capsOf, capsD, List.append_nil, List.nil_append, List.cons_append, AV.dv, AV.cont, isNil_agg, isNil_int, isNil_bool, isNil_string, isNil_nil, isNil_slice, ↓buildV_eq, fillL, placesOf, Option.map_some, Option.map_none, ↓storeK, wrL, RV.av, DV.av, List.set, List.map_cons, List.map_nil, List.length_cons, List.length_nil, List.all_cons, List.all_nil, List.getElem?_cons_zero, List.getElem?_cons_succ, List.getElem?_nil, List.size_toArray, List.getElem?_toArray, List.drop_zero, List.drop_succ_cons, List.take_zero, List.take_succ_cons, Option.getD_some, Option.getD_none, Option.some.injEq, Option.isSome_some, Nat.reduceEqDiff, Nat.reduceAdd, Nat.reduceSub, Nat.reduceMul, Nat.reduceLT, Nat.reduceLeDiff, Nat.reduceMod, Nat.reduceDiv, Int.cast_ofNat_Int, Int.reduceLT, Int.reduceLE, Int.reduceToNat, ↓reduceIte, true_and, and_true, true_or, or_true, or_false, false_or, reduceCtorEq, Bool.false_eq_true, Bool.and_true, Bool.not_true, Bool.not_false, beq_self_eq_true, Bool.true_beq, Bool.false_beq, Value.oneCell', decide_true, decide_false, Int.reduceAdd, Int.reduceSub, Int.reduceMod, Int.reduceMul, Int.reduceNeg, Int.reduceBEq, Int.reduceBNe, Int.reduceTDiv, Int.reduceTMod, ne_eq, not_false_eq_true, not_true_eq_false, Int.reduceEq, Nat.zero_add, Nat.add_zero, Nat.le_refl, Try.underlying2, s_2, g_2, z_2, Try.underlying3, s_3, g_3, z_3, Try.underlying4, s_4, g_4, z_4, Try.underlying5, s_5, g_5, z_5, Try.underlying9, s_9, g_9, z_9, Try.underlying12, s_12, g_12, z_12, Try.underlying13, s_13, g_13, z_13, q_13, Try.underlying21, s_21, g_21, z_21, Try.underlying22, s_22, g_22, z_22, Try.underlying23, s_23, g_23, z_23, q_23, Try.underlying24, s_24, g_24, z_24, Try.underlying29, s_29, g_29, l_29, r_29, Try.underlying38, s_38, g_38, l_38, r_38, Try.underlying39, s_39, g_39, z_39, q_39, Try.underlying43, s_43, g_43, l_43, r_43, Try.underlying47, s_47, g_47, z_47, Try.underlying49, s_49, g_49, z_49, Try.underlying50, s_50, g_50, l_50, r_50, mmK, hk, k3, k4, ht, Int.toNat_natCast, l8, t8, a8, w8, e0, b1, b2, trueG, kkG, es]
  · have e0 : ((t.size : Int) != 64) = true := by simp; omega
    have b1 := blkG_no s t (by omega)
    refine Spec.of_vx hΓ follows_mixed Try.func3 rfl (by kernel_rfl) (T := []) (by simp [Try.ntmps3]) (by kernel_rfl) rfl Try.ntmps3 (res := [.tmp 4]) rfl ?_
    intro W
    simp -implicitDefEqProofs (maxSteps := 100000000) only [↓binK_eqH, vy_succ, vy_zero, vx_skip, vx_reg0, vx_reg1, vx_ord, xx_done, xx_stop, xx_alt, vx_seq, vx_cond, vx_block, vx_exit, vx_ret, vx_loop, gx_nil, gx_cons, dx_nil, dx_cons, slim, slimOp, gO, gSO, qSO, quietOp, cx_nil, cx_cons, xx_alc, cS, qSB, eK, calmOp, guardS, gK, qK, putK, plK, dOk, St.ev, St.get, St.mem, St.set, St.setm, St.put, lookA, look, newK, nextver, initT, seqE, blockQ, bodyQ, resK, retV, AV.rdv, cells_agg, cells_int, cells_bool, cells_string, cells_slice, cells_uV, agg_uV, isNil_uV, toN_uV, i64_in, IntKind.wrap_u64, IntKind.wrap_u8, IntKind.wrap_u32, ↓binK, ↓intK, unK, ↓loadK, ↓withKey_eq, ↓idxAddrK, ↓indexK, ↓partK, ↓fieldK, ↓fieldAddrK, ↓convK, ↓callK, wrG, updK, ↓lenK, ↓mmK, ↓appK, ↓copyK, ↓sliceK, ↓toArrK, nilK, optK_some, optK_tup, optK_ite, evs, plains, seqParts, capsOf, capsD, List.append_nil, List.nil_append, List.cons_append, AV.dv, AV.cont, isNil_agg, isNil_int, isNil_bool, isNil_string, isNil_nil, isNil_slice, ↓buildV_eq, fillL, placesOf, Option.map_some, Option.map_none, ↓storeK, wrL, RV.av, DV.av, List.set, List.map_cons, List.map_nil, List.length_cons, List.length_nil, List.all_cons, List.all_nil, List.getElem?_cons_zero, List.getElem?_cons_succ, List.getElem?_nil, List.size_toArray, List.getElem?_toArray, List.drop_zero, List.drop_succ_cons, List.take_zero, List.take_succ_cons, Option.getD_some, Option.getD_none, Option.some.injEq, Option.isSome_some, Nat.reduceEqDiff, Nat.reduceAdd, Nat.reduceSub, Nat.reduceMul, Nat.reduceLT, Nat.reduceLeDiff, Nat.reduceMod, Nat.reduceDiv, Int.cast_ofNat_Int, Int.reduceLT, Int.reduceLE, Int.reduceToNat, ↓reduceIte, true_and, and_true, true_or, or_true, or_false, false_or, reduceCtorEq, Bool.false_eq_true, Bool.and_true, Bool.not_true, Bool.not_false, beq_self_eq_true, Bool.true_beq, Bool.false_beq, Value.oneCell', decide_true, decide_false, Int.reduceAdd, Int.reduceSub, Int.reduceMod, Int.reduceMul, Int.reduceNeg, Int.reduceBEq, Int.reduceBNe, Int.reduceTDiv, Int.reduceTMod, ne_eq, not_false_eq_true, not_true_eq_false, Int.reduceEq, Nat.zero_add, Nat.add_zero, Nat.le_refl, Try.underlying2, s_2, g_2, z_2, Try.underlying3, s_3, g_3, z_3, Try.underlying4, s_4, g_4, z_4, Try.underlying5, s_5, g_5, z_5, Try.underlying9, s_9, g_9, z_9, Try.underlying12, s_12, g_12, z_12, Try.underlying13, s_13, g_13, z_13, q_13, Try.underlying21, s_21, g_21, z_21, Try.underlying22, s_22, g_22, z_22, Try.underlying23, s_23, g_23, z_23, q_23, Try.underlying24, s_24, g_24, z_24, Try.underlying29, s_29, g_29, l_29, r_29, Try.underlying38, s_38, g_38, l_38, r_38, Try.underlying39, s_39, g_39, z_39, q_39, Try.underlying43, s_43, g_43, l_43, r_43, Try.underlying47, s_47, g_47, z_47, Try.underlying49, s_49, g_49, z_49, Try.underlying50, s_50, g_50, l_50, r_50, mmK, hk, k3, k4, ht, Int.toNat_natCast, l8, t8, a8, w8, e0, b1, trueG, es, ↓h0, w8h, eqV_h8, Option.some.injEq, exists_eq_left']
set_option maxHeartbeats 4000000 in
theorem sumsL_ok (a b : ByteArray) : Spec Try.prog 4 [.pl (.string a), .pl (.string b)] (.one (.pl (.bool true))) := by
  have hΓ : Env.ok [(11, sumG), (12, rsumG), (13, macG), (14, rmacG), (10, kkG), (8, trueG)] Try.prog := ok_cons sum_ok (ok_cons rsum_ok (ok_cons mac_ok (ok_cons rmac_ok (ok_cons kk_ok (ok_cons alive_ok (ok_nil _))))))
  obtain ⟨k, hk, k1, k2⟩ : ∃ k : Nat, (if (200 : Int) < (a.size : Int) then (200 : Int) else (a.size : Int)) = (k : Int) ∧ k ≤ 200 ∧ k ≤ a.size := by
    by_cases h : a.size ≤ 200
    · exact ⟨a.size, by rw [if_neg (by omega)], h, Nat.le_refl _⟩
    · exact ⟨200, by rw [if_pos (by omega)]; rfl, Nat.le_refl _, by omega⟩
  have k3 : (0 : Int) ≤ (k : Int) := by omega
  have k4 : (k : Int) ≤ (a.size : Int) := by omega
  have k5 : (a.extract 0 k).size = k := by simp [ByteArray.size_extract]; omega
  generalize hu : a.extract 0 k = u at *
  obtain ⟨m, hm, m1, m2⟩ : ∃ k : Nat, (if (500 : Int) < (b.size : Int) then (500 : Int) else (b.size : Int)) = (k : Int) ∧ k ≤ 500 ∧ k ≤ b.size := by
    by_cases h : b.size ≤ 500
    · exact ⟨b.size, by rw [if_neg (by omega)], h, Nat.le_refl _⟩
    · exact ⟨500, by rw [if_pos (by omega)]; rfl, Nat.le_refl _, by omega⟩
  have m3 : (0 : Int) ≤ (m : Int) := by omega
  have m4 : (m : Int) ≤ (b.size : Int) := by omega
  have m5 : (b.extract 0 m).size = m := by simp [ByteArray.size_extract]; omega
  generalize ht : b.extract 0 m = t at *
  have b1 := sumG_a t (by omega)
  have b2 := rsumG_a t (by omega)
  have b3 := macG_1 u t (by omega) (by omega)
  have b4 := rmacG_a u t (by omega) (by omega)
  have hb : ∀ l : List UInt8, (bstr l).toList = l := bstr_toList
  refine Spec.of_vx hΓ follows_mixed Try.func4 rfl (by kernel_rfl) (T := []) (by simp [Try.ntmps4]) (by kernel_rfl) rfl Try.ntmps4 (res := [.tmp 4]) rfl ?_
  intro W
  simp -implicitDefEqProofs (maxSteps := 100000000) only [vy_succ, vy_zero, vx_skip, vx_reg0, vx_reg1, vx_ord, xx_done, xx_stop, xx_alt, vx_seq, vx_cond, vx_block, vx_exit, vx_ret, vx_loop, gx_nil, gx_cons, dx_nil, dx_cons, slim, slimOp, gO, gSO, qSO, quietOp, cx_nil, cx_cons, xx_alc, cS, qSB, eK, calmOp, guardS, gK, qK, putK, plK, dOk, St.ev, St.get, St.mem, St.set, St.setm, St.put, lookA, look, newK, nextver, initT, seqE, blockQ, bodyQ, resK, retV, AV.rdv, cells_agg, cells_int, cells_bool, cells_string, cells_slice, cells_uV, agg_uV, isNil_uV, toN_uV, i64_in, IntKind.wrap_u64, IntKind.wrap_u8, IntKind.wrap_u32, ↓binK, ↓intK, unK, ↓loadK, ↓withKey_eq, ↓idxAddrK, ↓indexK, ↓partK, ↓fieldK, ↓fieldAddrK, ↓convK, ↓callK, wrG, updK, ↓lenK, ↓mmK, ↓appK, ↓copyK, ↓sliceK, ↓toArrK, nilK, optK_some, optK_tup, optK_ite, evs, plains, seqParts, capsOf, capsD, List.append_nil, List.nil_append, List.cons_append, AV.dv, AV.cont, isNil_agg, isNil_int, isNil_bool, isNil_string, isNil_nil, isNil_slice, ↓buildV_eq, fillL, placesOf, Option.map_some, Option.map_none, ↓storeK, wrL, RV.av, DV.av, List.set, List.map_cons, List.map_nil, List.length_cons, List.length_nil, List.all_cons, List.all_nil, List.getElem?_cons_zero, List.getElem?_cons_succ, List.getElem?_nil, List.size_toArray, List.getElem?_toArray, List.drop_zero, List.drop_succ_cons, List.take_zero, List.take_succ_cons, Option.getD_some, Option.getD_none, Option.some.injEq, Option.isSome_some, Nat.reduceEqDiff, Nat.reduceAdd, Nat.reduceSub, Nat.reduceMul, Nat.reduceLT, Nat.reduceLeDiff, Nat.reduceMod, Nat.reduceDiv, Int.cast_ofNat_Int, Int.reduceLT, Int.reduceLE, Int.reduceToNat, ↓reduceIte, true_and, and_true, true_or, or_true, or_false, false_or, reduceCtorEq, Bool.false_eq_true, Bool.and_true, Bool.not_true, Bool.not_false, beq_self_eq_true, Bool.true_beq, Bool.false_beq, Value.oneCell', decide_true, decide_false, Int.reduceAdd, Int.reduceSub, Int.reduceMod, Int.reduceMul, Int.reduceNeg, Int.reduceBEq, Int.reduceBNe, Int.reduceTDiv, Int.reduceTMod, ne_eq, not_false_eq_true, not_true_eq_false, Int.reduceEq, Nat.zero_add, Nat.add_zero, Nat.le_refl, Try.underlying2, s_2, g_2, z_2, Try.underlying3, s_3, g_3, z_3, Try.underlying4, s_4, g_4, z_4, Try.underlying5, s_5, g_5, z_5, Try.underlying9, s_9, g_9, z_9, Try.underlying12, s_12, g_12, z_12, Try.underlying13, s_13, g_13, z_13, q_13, Try.underlying21, s_21, g_21, z_21, Try.underlying22, s_22, g_22, z_22, Try.underlying23, s_23, g_23, z_23, q_23, Try.underlying24, s_24, g_24, z_24, Try.underlying29, s_29, g_29, l_29, r_29, Try.underlying38, s_38, g_38, l_38, r_38, Try.underlying39, s_39, g_39, z_39, q_39, Try.underlying43, s_43, g_43, l_43, r_43, Try.underlying47, s_47, g_47, z_47, Try.underlying49, s_49, g_49, z_49, Try.underlying50, s_50, g_50, l_50, r_50, mmK, hk, k3, k4, hu, hm, m3, m4, ht, Int.toNat_natCast, b1, b2, b3, b4, trueG, kkG, hb]
theorem keyN_id (k : List UInt8) (h : k.length ≤ 64) : keyN k = k := by rw [keyN_eq]; exact if_neg (by omega)
theorem keyN_sum (k : List UInt8) (h : 64 < k.length) : keyN k = sumS k := by rw [keyN_eq]; exact if_pos h
theorem mac_sum (k s : List UInt8) (h : 64 < k.length) : macS (sumS k) s = macS k s := by
  rw [macS_eq]
  simp only
  rw [keyN_sum k h, keyN_id (sumS k) (by rw [sumS_len]; omega)]
theorem padF_zeros (k : List UInt8) (n : Nat) (x : UInt8) : padF (k ++ List.replicate n 0) x = padF k x := by
  rw [padF_eq]
  simp only
  congr 1
  funext i
  congr 1
  by_cases h : i < k.length
  · rw [List.getElem?_append_left h]
  · rw [List.getElem?_append_right (by omega), List.getElem?_eq_none (l := k) (by omega), List.getElem?_replicate]
    split <;> rfl
theorem mac_zeros (k s : List UInt8) (n : Nat) (h : k.length + n ≤ 64) : macS (k ++ List.replicate n 0) s = macS k s := by
  rw [macS_eq]
  simp only
  rw [keyN_id k (by omega), keyN_id (k ++ List.replicate n 0) (by simp; omega), padF_zeros, padF_zeros]
set_option maxHeartbeats 4000000 in
theorem keysL_ok (a b : ByteArray) (z : Int) (z0 : -9223372036854775808 ≤ z) (z1 : z < 9223372036854775808) : Spec Try.prog 6 [.pl (.string a), .pl (.string b), .pl (.int .i64 z)] (.one (.pl (.bool true))) := by
  have hΓ : Env.ok [(11, sumG), (13, macG), (8, trueG)] Try.prog := ok_cons sum_ok (ok_cons mac_ok (ok_cons alive_ok (ok_nil _)))
  obtain ⟨k, hk, k1, k2⟩ : ∃ k : Nat, (if (200 : Int) < (a.size : Int) then (200 : Int) else (a.size : Int)) = (k : Int) ∧ k ≤ 200 ∧ k ≤ a.size := by
    by_cases h : a.size ≤ 200
    · exact ⟨a.size, by rw [if_neg (by omega)], h, Nat.le_refl _⟩
    · exact ⟨200, by rw [if_pos (by omega)]; rfl, Nat.le_refl _, by omega⟩
  have k3 : (0 : Int) ≤ (k : Int) := by omega
  have k4 : (k : Int) ≤ (a.size : Int) := by omega
  have k5 : (a.extract 0 k).size = k := by simp [ByteArray.size_extract]; omega
  generalize hu : a.extract 0 k = u at *
  obtain ⟨m, hm, m1, m2⟩ : ∃ k : Nat, (if (500 : Int) < (b.size : Int) then (500 : Int) else (b.size : Int)) = (k : Int) ∧ k ≤ 500 ∧ k ≤ b.size := by
    by_cases h : b.size ≤ 500
    · exact ⟨b.size, by rw [if_neg (by omega)], h, Nat.le_refl _⟩
    · exact ⟨500, by rw [if_pos (by omega)]; rfl, Nat.le_refl _, by omega⟩
  have m3 : (0 : Int) ≤ (m : Int) := by omega
  have m4 : (m : Int) ≤ (b.size : Int) := by omega
  have m5 : (b.extract 0 m).size = m := by simp [ByteArray.size_extract]; omega
  generalize ht : b.extract 0 m = t at *
  have b1 := sumG_a u (by omega)
  have b3 := macG_1 u t (by omega) (by omega)
  have hb : ∀ l : List UInt8, (bstr l).toList = l := bstr_toList
  have ul : u.data.toList.length = u.size := Array.length_toList
  by_cases h64 : 64 < k
  · have e0 : decide ((64 : Int) < (u.size : Int)) = true := decide_eq_true (by omega)
    have b4 := macG_1 (bstr (sumS u.data.toList)) t (by rw [bstr_size', sumS_len]; omega) (by omega)
    have b5 : macS (bstr (sumS u.data.toList)).data.toList t.data.toList = macS u.data.toList t.data.toList := mac_sum _ _ (by omega)
    rw [b5] at b4
    refine Spec.of_vx hΓ follows_mixed Try.func6 rfl (by kernel_rfl) (T := []) (by simp [Try.ntmps6]) (by kernel_rfl) rfl Try.ntmps6 (res := [.tmp 6]) rfl ?_
    intro W
    simp -implicitDefEqProofs (maxSteps := 100000000) only [vy_succ, vy_zero, vx_skip, vx_reg0, vx_reg1, vx_ord, xx_done, xx_stop, xx_alt, vx_seq, vx_cond, vx_block, vx_exit, vx_ret, vx_loop, gx_nil, gx_cons, dx_nil, dx_cons, slim, slimOp, gO, gSO, qSO, quietOp, cx_nil, cx_cons, xx_alc, cS, qSB, eK, calmOp, guardS, gK, qK, putK, plK, dOk, St.ev, St.get, St.mem, St.set, St.setm, St.put, lookA, look, newK, nextver, initT, seqE, blockQ, bodyQ, resK, retV, AV.rdv, cells_agg, cells_int, cells_bool, cells_string, cells_slice, cells_uV, agg_uV, isNil_uV, toN_uV, i64_in, IntKind.wrap_u64, IntKind.wrap_u8, IntKind.wrap_u32, ↓binK, ↓intK, unK, ↓loadK, ↓withKey_eq, ↓idxAddrK, ↓indexK, ↓partK, ↓fieldK, ↓fieldAddrK, ↓convK, ↓callK, wrG, updK, ↓lenK, ↓mmK, ↓appK, ↓copyK, ↓sliceK, ↓toArrK, nilK, optK_some, optK_tup, optK_ite, evs, plains, seqParts, capsOf, capsD, List.append_nil, List.nil_append, List.cons_append, AV.dv, AV.cont, isNil_agg, isNil_int, isNil_bool, isNil_string, isNil_nil, isNil_slice, ↓buildV_eq, fillL, placesOf, Option.map_some, Option.map_none, ↓storeK, wrL, RV.av, DV.av, List.set, List.map_cons, List.map_nil, List.length_cons, List.length_nil, List.all_cons, List.all_nil, List.getElem?_cons_zero, List.getElem?_cons_succ, List.getElem?_nil, List.size_toArray, List.getElem?_toArray, List.drop_zero, List.drop_succ_cons, List.take_zero, List.take_succ_cons, Option.getD_some, Option.getD_none, Option.some.injEq, Option.isSome_some, Nat.reduceEqDiff, Nat.reduceAdd, Nat.reduceSub, Nat.reduceMul, Nat.reduceLT, Nat.reduceLeDiff, Nat.reduceMod, Nat.reduceDiv, Int.cast_ofNat_Int, Int.reduceLT, Int.reduceLE, Int.reduceToNat, ↓reduceIte, true_and, and_true, true_or, or_true, or_false, false_or, reduceCtorEq, Bool.false_eq_true, Bool.and_true, Bool.not_true, Bool.not_false, beq_self_eq_true, Bool.true_beq, Bool.false_beq, Value.oneCell', decide_true, decide_false, Int.reduceAdd, Int.reduceSub, Int.reduceMod, Int.reduceMul, Int.reduceNeg, Int.reduceBEq, Int.reduceBNe, Int.reduceTDiv, Int.reduceTMod, ne_eq, not_false_eq_true, not_true_eq_false, Int.reduceEq, Nat.zero_add, Nat.add_zero, Nat.le_refl, Try.underlying2, s_2, g_2, z_2, Try.underlying3, s_3, g_3, z_3, Try.underlying4, s_4, g_4, z_4, Try.underlying5, s_5, g_5, z_5, Try.underlying9, s_9, g_9, z_9, Try.underlying12, s_12, g_12, z_12, Try.underlying13, s_13, g_13, z_13, q_13, Try.underlying21, s_21, g_21, z_21, Try.underlying22, s_22, g_22, z_22, Try.underlying23, s_23, g_23, z_23, q_23, Try.underlying24, s_24, g_24, z_24, Try.underlying29, s_29, g_29, l_29, r_29, Try.underlying38, s_38, g_38, l_38, r_38, Try.underlying39, s_39, g_39, z_39, q_39, Try.underlying43, s_43, g_43, l_43, r_43, Try.underlying47, s_47, g_47, z_47, Try.underlying49, s_49, g_49, z_49, Try.underlying50, s_50, g_50, l_50, r_50, mmK, hk, k3, k4, hu, hm, m3, m4, ht, Int.toNat_natCast, e0, b1, b3, b4, trueG, hb]
  · have e0 : decide ((64 : Int) < (u.size : Int)) = false := decide_eq_false (by omega)
    have w1 : IntKind.i64.wrap (64 - (u.size : Int)) = ((64 - k : Nat) : Int) := by rw [i64_in (by omega) (by omega)]; omega
    obtain ⟨n, hn, n1⟩ : ∃ n : Nat, (if ((64 - k : Nat) : Int) < (if z < 0 then 0 else z) then ((64 - k : Nat) : Int) else (if z < 0 then 0 else z)) = (n : Int) ∧ n ≤ 64 - k := by
      by_cases hz : z < 0
      · rw [if_pos hz]
        exact ⟨0, by rw [if_neg (by omega)]; rfl, by omega⟩
      · rw [if_neg hz]
        by_cases h2 : ((64 - k : Nat) : Int) < z
        · exact ⟨64 - k, by rw [if_pos h2], Nat.le_refl _⟩
        · exact ⟨z.toNat, by rw [if_neg h2]; omega, by omega⟩
    have n3 : (0 : Int) ≤ (n : Int) := by omega
    have n4 : (1 : Int) * (n : Int) ≤ 281474976710656 := by omega
    have n5 : (n : Int) ≤ 9223372036854775807 := by omega
    have n6 : List.replicate n (Value.int .u8 0) = vB (List.replicate n 0) := by rw [vB_eq]; simp
    have n7 : (vB (List.replicate n (0 : UInt8))).length = n := by rw [vB_len]; simp
    have n8 : (vB (List.replicate n (0 : UInt8))).take n = vB (List.replicate n 0) := List.take_of_length_le (by omega)
    have ua : u ++ bstr (List.replicate n 0) = bstr (u.data.toList ++ List.replicate n 0) := by
      rw [← bstr_append, ← bstr_of]
    have us : (bstr (List.replicate n (0 : UInt8))).size = n := by rw [bstr_size']; simp
    have ub : u.size + n ≤ 9223372036854775807 := by omega
    have b4 := macG_1 (bstr (u.data.toList ++ List.replicate n 0)) t (by rw [bstr_size']; simp; omega) (by omega)
    have b5 : macS (bstr (u.data.toList ++ List.replicate n 0)).data.toList t.data.toList = macS u.data.toList t.data.toList := mac_zeros _ _ _ (by omega)
    rw [b5] at b4
    refine Spec.of_vx hΓ follows_mixed Try.func6 rfl (by kernel_rfl) (T := []) (by simp [Try.ntmps6]) (by kernel_rfl) rfl Try.ntmps6 (res := [.tmp 6]) rfl ?_
    intro W
    simp -implicitDefEqProofs (maxSteps := 100000000) only [vy_succ, vy_zero, vx_skip, vx_reg0, vx_reg1, vx_ord, xx_done, xx_stop, xx_alt, vx_seq, vx_cond, vx_block, vx_exit, vx_ret, vx_loop, gx_nil, gx_cons, dx_nil, dx_cons, slim, slimOp, gO, gSO, qSO, quietOp, cx_nil, cx_cons, xx_alc, cS, qSB, eK, calmOp, guardS, gK, qK, putK, plK, dOk, St.ev, St.get, St.mem, St.set, St.setm, St.put, lookA, look, newK, nextver, initT, seqE, blockQ, bodyQ, resK, retV, AV.rdv, cells_agg, cells_int, cells_bool, cells_string, cells_slice, cells_uV, agg_uV, isNil_uV, toN_uV, i64_in, IntKind.wrap_u64, IntKind.wrap_u8, IntKind.wrap_u32, ↓binK, ↓intK, unK, ↓loadK, ↓withKey_eq, ↓idxAddrK, ↓indexK, ↓partK, ↓fieldK, ↓fieldAddrK, ↓convK, ↓callK, wrG, updK, ↓lenK, ↓mmK, ↓appK, ↓copyK, ↓sliceK, ↓toArrK, nilK, optK_some, optK_tup, optK_ite, evs, plains, seqParts, capsOf, capsD, List.append_nil, List.nil_append, List.cons_append, AV.dv, AV.cont, isNil_agg, isNil_int, isNil_bool, isNil_string, isNil_nil, isNil_slice, ↓buildV_eq, fillL, placesOf, Option.map_some, Option.map_none, ↓storeK, wrL, RV.av, DV.av, List.set, List.map_cons, List.map_nil, List.length_cons, List.length_nil, List.all_cons, List.all_nil, List.getElem?_cons_zero, List.getElem?_cons_succ, List.getElem?_nil, List.size_toArray, List.getElem?_toArray, List.drop_zero, List.drop_succ_cons, List.take_zero, List.take_succ_cons, Option.getD_some, Option.getD_none, Option.some.injEq, Option.isSome_some, Nat.reduceEqDiff, Nat.reduceAdd, Nat.reduceSub, Nat.reduceMul, Nat.reduceLT, Nat.reduceLeDiff, Nat.reduceMod, Nat.reduceDiv, Int.cast_ofNat_Int, Int.reduceLT, Int.reduceLE, Int.reduceToNat, ↓reduceIte, true_and, and_true, true_or, or_true, or_false, false_or, reduceCtorEq, Bool.false_eq_true, Bool.and_true, Bool.not_true, Bool.not_false, beq_self_eq_true, Bool.true_beq, Bool.false_beq, Value.oneCell', decide_true, decide_false, Int.reduceAdd, Int.reduceSub, Int.reduceMod, Int.reduceMul, Int.reduceNeg, Int.reduceBEq, Int.reduceBNe, Int.reduceTDiv, Int.reduceTMod, ne_eq, not_false_eq_true, not_true_eq_false, Int.reduceEq, Nat.zero_add, Nat.add_zero, Nat.le_refl, Try.underlying2, s_2, g_2, z_2, Try.underlying3, s_3, g_3, z_3, Try.underlying4, s_4, g_4, z_4, Try.underlying5, s_5, g_5, z_5, Try.underlying9, s_9, g_9, z_9, Try.underlying12, s_12, g_12, z_12, Try.underlying13, s_13, g_13, z_13, q_13, Try.underlying21, s_21, g_21, z_21, Try.underlying22, s_22, g_22, z_22, Try.underlying23, s_23, g_23, z_23, q_23, Try.underlying24, s_24, g_24, z_24, Try.underlying29, s_29, g_29, l_29, r_29, Try.underlying38, s_38, g_38, l_38, r_38, Try.underlying39, s_39, g_39, z_39, q_39, Try.underlying43, s_43, g_43, l_43, r_43, Try.underlying47, s_47, g_47, z_47, Try.underlying49, s_49, g_49, z_49, Try.underlying50, s_50, g_50, l_50, r_50, mmK, hk, k3, k4, hu, hm, m3, m4, ht, Int.toNat_natCast, e0, w1, hn, n3, n4, n5, n6, n7, n8, vB_u8s, us, ub, ua, b1, b3, b4, trueG, hb]
set_option maxHeartbeats 4000000 in
theorem partsL_ok (a b : ByteArray) (z : Int) (z0 : -9223372036854775808 ≤ z) (z1 : z < 9223372036854775808) : Spec Try.prog 5 [.pl (.string a), .pl (.string b), .pl (.int .i64 z)] (.one (.pl (.bool true))) := by
  have hΓ : Env.ok [(11, sumG), (13, macG), (8, trueG)] Try.prog := ok_cons sum_ok (ok_cons mac_ok (ok_cons alive_ok (ok_nil _)))
  obtain ⟨k, hk, k1, k2⟩ : ∃ k : Nat, (if (200 : Int) < (a.size : Int) then (200 : Int) else (a.size : Int)) = (k : Int) ∧ k ≤ 200 ∧ k ≤ a.size := by
    by_cases h : a.size ≤ 200
    · exact ⟨a.size, by rw [if_neg (by omega)], h, Nat.le_refl _⟩
    · exact ⟨200, by rw [if_pos (by omega)]; rfl, Nat.le_refl _, by omega⟩
  have k3 : (0 : Int) ≤ (k : Int) := by omega
  have k4 : (k : Int) ≤ (a.size : Int) := by omega
  have k5 : (a.extract 0 k).size = k := by simp [ByteArray.size_extract]; omega
  generalize hu : a.extract 0 k = u at *
  obtain ⟨m, hm, m1, m2⟩ : ∃ k : Nat, (if (1000 : Int) < (b.size : Int) then (1000 : Int) else (b.size : Int)) = (k : Int) ∧ k ≤ 1000 ∧ k ≤ b.size := by
    by_cases h : b.size ≤ 1000
    · exact ⟨b.size, by rw [if_neg (by omega)], h, Nat.le_refl _⟩
    · exact ⟨1000, by rw [if_pos (by omega)]; rfl, Nat.le_refl _, by omega⟩
  have m3 : (0 : Int) ≤ (m : Int) := by omega
  have m4 : (m : Int) ≤ (b.size : Int) := by omega
  have m5 : (b.extract 0 m).size = m := by simp [ByteArray.size_extract]; omega
  generalize ht : b.extract 0 m = t at *
  obtain ⟨n, hn, n1⟩ : ∃ n : Nat, (if (t.size : Int) < (if z < 0 then 0 else z) then (t.size : Int) else (if z < 0 then 0 else z)) = (n : Int) ∧ n ≤ t.size := by
    by_cases hz : z < 0
    · rw [if_pos hz]
      exact ⟨0, by rw [if_neg (by omega)]; rfl, by omega⟩
    · rw [if_neg hz]
      by_cases h2 : (t.size : Int) < z
      · exact ⟨t.size, by rw [if_pos h2], Nat.le_refl _⟩
      · exact ⟨z.toNat, by rw [if_neg h2]; omega, by omega⟩
  have n3 : (0 : Int) ≤ (n : Int) := by omega
  have n4 : (n : Int) ≤ (t.size : Int) := by omega
  have b1 := sumG_a t (by omega)
  have b3 := macG_1 u t (by omega) (by omega)
  have b4 := macG_0 u (by omega)
  have b5 : macG [.pl (.string u), .vec [.string ⟨#[]⟩]] = some (.one (.pl (.string (bstr (macS u.data.toList []))))) := macG_1 u ⟨#[]⟩ (by omega) (by decide)
  have s1 : (t.extract 0 n).size ≤ 10000 := by simp [ByteArray.size_extract]; omega
  have s2 : (t.extract n t.size).size ≤ 10000 := by simp [ByteArray.size_extract]; omega
  have b6 := macG_2 u (t.extract 0 n) (t.extract n t.size) (by omega) s1 s2
  have b7 : (t.extract 0 n).data.toList ++ (t.extract n t.size).data.toList = t.data.toList := by
    have tl : t.data.toList.length = t.size := Array.length_toList
    rw [bstr_of t, bstr_take, bstr_size', tl, ← tl, bstr_drop]
    exact List.take_append_drop n t.data.toList
  rw [b7] at b6
  have hb : ∀ l : List UInt8, (bstr l).toList = l := bstr_toList
  have hs : ∀ l : List UInt8, (bstr l).size = l.length := bstr_size'
  have l1 := sumS_len t.data.toList
  have l2 := macS_len u.data.toList t.data.toList
  refine Spec.of_vx hΓ follows_mixed Try.func5 rfl (by kernel_rfl) (T := [(4, .alc)]) (by simp [Try.ntmps5]) (by kernel_rfl) rfl Try.ntmps5 (res := [.tmp 6]) rfl ?_
  intro W
  simp -implicitDefEqProofs (maxSteps := 100000000) only [vy_succ, vy_zero, vx_skip, vx_reg0, vx_reg1, vx_ord, xx_done, xx_stop, xx_alt, vx_seq, vx_cond, vx_block, vx_exit, vx_ret, vx_loop, gx_nil, gx_cons, dx_nil, dx_cons, slim, slimOp, gO, gSO, qSO, quietOp, cx_nil, cx_cons, xx_alc, cS, qSB, eK, calmOp, guardS, gK, qK, putK, plK, dOk, St.ev, St.get, St.mem, St.set, St.setm, St.put, lookA, look, newK, nextver, initT, seqE, blockQ, bodyQ, resK, retV, AV.rdv, cells_agg, cells_int, cells_bool, cells_string, cells_slice, cells_uV, agg_uV, isNil_uV, toN_uV, i64_in, IntKind.wrap_u64, IntKind.wrap_u8, IntKind.wrap_u32, ↓binK, ↓intK, unK, ↓loadK, ↓withKey_eq, ↓idxAddrK, ↓indexK, ↓partK, ↓fieldK, ↓fieldAddrK, ↓convK, ↓callK, wrG, updK, ↓lenK, ↓mmK, ↓appK, ↓copyK, ↓sliceK, ↓toArrK, nilK, optK_some, optK_tup, optK_ite, evs, plains, seqParts, capsOf, capsD, List.append_nil, List.nil_append, List.cons_append, AV.dv, AV.cont, isNil_agg, isNil_int, isNil_bool, isNil_string, isNil_nil, isNil_slice, ↓buildV_eq, fillL, placesOf, Option.map_some, Option.map_none, ↓storeK, wrL, RV.av, DV.av, List.set, List.map_cons, List.map_nil, List.length_cons, List.length_nil, List.all_cons, List.all_nil, List.getElem?_cons_zero, List.getElem?_cons_succ, List.getElem?_nil, List.size_toArray, List.getElem?_toArray, List.drop_zero, List.drop_succ_cons, List.take_zero, List.take_succ_cons, Option.getD_some, Option.getD_none, Option.some.injEq, Option.isSome_some, Nat.reduceEqDiff, Nat.reduceAdd, Nat.reduceSub, Nat.reduceMul, Nat.reduceLT, Nat.reduceLeDiff, Nat.reduceMod, Nat.reduceDiv, Int.cast_ofNat_Int, Int.reduceLT, Int.reduceLE, Int.reduceToNat, ↓reduceIte, true_and, and_true, true_or, or_true, or_false, false_or, reduceCtorEq, Bool.false_eq_true, Bool.and_true, Bool.not_true, Bool.not_false, beq_self_eq_true, Bool.true_beq, Bool.false_beq, Value.oneCell', decide_true, decide_false, Int.reduceAdd, Int.reduceSub, Int.reduceMod, Int.reduceMul, Int.reduceNeg, Int.reduceBEq, Int.reduceBNe, Int.reduceTDiv, Int.reduceTMod, ne_eq, not_false_eq_true, not_true_eq_false, Int.reduceEq, Nat.zero_add, Nat.add_zero, Nat.le_refl, Try.underlying2, s_2, g_2, z_2, Try.underlying3, s_3, g_3, z_3, Try.underlying4, s_4, g_4, z_4, Try.underlying5, s_5, g_5, z_5, Try.underlying9, s_9, g_9, z_9, Try.underlying12, s_12, g_12, z_12, Try.underlying13, s_13, g_13, z_13, q_13, Try.underlying21, s_21, g_21, z_21, Try.underlying22, s_22, g_22, z_22, Try.underlying23, s_23, g_23, z_23, q_23, Try.underlying24, s_24, g_24, z_24, Try.underlying29, s_29, g_29, l_29, r_29, Try.underlying38, s_38, g_38, l_38, r_38, Try.underlying39, s_39, g_39, z_39, q_39, Try.underlying43, s_43, g_43, l_43, r_43, Try.underlying47, s_47, g_47, z_47, Try.underlying49, s_49, g_49, z_49, Try.underlying50, s_50, g_50, l_50, r_50, mmK, hk, k3, k4, hu, hm, m3, m4, ht, Int.toNat_natCast, hn, n3, n4, b1, b3, b4, b5, b6, trueG, hb, hs, l1, l2, Int.le_refl]
end Go.Vm
