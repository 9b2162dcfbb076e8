/- The law FieldRules, as the machine walks it. No condition. -/
import Derived.Test.YtdkioehgdchjiaaFf
set_option maxRecDepth 100000
set_option linter.unusedSimpArgs false
set_option linter.unusedVariables false
namespace Go.Vm
open Go Go.RowKit Go.Proofs

noncomputable def caddG : List DV → Option RV
  | [.pl va, .pl vb, .cel (.int .i64 w)] => match toN va, toN vb with
    | some a, some b => if isW w = true then some (.one (.pl (uV ((a + b) % pN w)))) else none
    | _, _ => none
  | _ => none
theorem cadd_ok : ∀ ds r, caddG ds = some r → Spec Try.prog 9 ds r := by
  intro ds r h
  unfold caddG at h
  split at h
  case h_2 => cases h
  rename_i va vb w
  split at h
  case h_2 => cases h
  rename_i a b ha hb
  split at h
  case isFalse => cases h
  rename_i hw
  cases h
  obtain ⟨rfl, ha'⟩ := toN_eq ha
  obtain ⟨rfl, hb'⟩ := toN_eq hb
  have hΓ : Env.ok [(10, faddG)] Try.prog := ok_cons fadd_ok (ok_nil _)
  refine Spec.of_vx hΓ follows_mixed Try.func9 rfl (by kernel_rfl) (T := []) (by simp [Try.ntmps9]) (by kernel_rfl) rfl Try.ntmps9 (res := [.cell 5 24]) rfl ?_
  intro W
  simp -implicitDefEqProofs (maxSteps := 10000000) only [vy_succ, vy_zero, vx_skip, vx_reg0, vx_reg1, vx_ord, xx_done, xx_stop, xx_alt, vx_seq, vx_cond, vx_block, vx_exit, vx_ret, vx_loop, gx_nil, gx_cons, dx_nil, dx_cons, slim, slimOp, gO, gSO, qSO, quietOp, guardS, gK, qK, putK, plK, dOk, St.ev, St.get, St.mem, St.set, St.setm, St.put, lookA, look, newK, nextver, initT, seqE, blockQ, bodyQ, resK, retV, AV.rdv, cells_agg, cells_int, cells_bool, cells_string, cells_slice, cells_uV, agg_uV, isNil_uV, toN_uV, i64_in, IntKind.wrap_u64, IntKind.wrap_u8, IntKind.wrap_u32, ↓binK, ↓intK, unK, ↓loadK, ↓withKey_eq, ↓idxAddrK, ↓indexK, ↓partK, ↓fieldK, ↓fieldAddrK, ↓convK, ↓callK, ↓lenK, ↓mmK, ↓appK, ↓copyK, ↓sliceK, ↓toArrK, nilK, optK_some, optK_ite, evs, plains, seqParts, capsOf, capsD, List.append_nil, List.nil_append, List.cons_append, AV.dv, AV.cont, isNil_agg, isNil_int, isNil_bool, isNil_string, isNil_nil, isNil_slice, ↓buildV_eq, fillL, placesOf, Option.map_some, Option.map_none, ↓storeK, wrL, RV.av, DV.av, List.set, List.map_cons, List.map_nil, List.length_cons, List.length_nil, List.all_cons, List.all_nil, List.getElem?_cons_zero, List.getElem?_cons_succ, List.getElem?_nil, List.size_toArray, List.getElem?_toArray, List.drop_zero, List.drop_succ_cons, List.take_zero, List.take_succ_cons, Option.getD_some, Option.getD_none, Option.some.injEq, Option.isSome_some, Nat.reduceEqDiff, Nat.reduceAdd, Nat.reduceSub, Nat.reduceMul, Nat.reduceLT, Nat.reduceLeDiff, Nat.reduceMod, Nat.reduceDiv, Int.cast_ofNat_Int, Int.reduceLT, Int.reduceLE, Int.reduceToNat, ↓reduceIte, true_and, and_true, true_or, or_true, or_false, false_or, reduceCtorEq, Bool.false_eq_true, Bool.and_true, Bool.not_true, Bool.not_false, beq_self_eq_true, Bool.true_beq, Bool.false_beq, Value.oneCell', decide_true, decide_false, Int.reduceAdd, Int.reduceSub, Int.reduceMod, Int.reduceMul, Int.reduceNeg, Int.reduceBEq, Int.reduceBNe, Int.reduceTDiv, Int.reduceTMod, ne_eq, not_false_eq_true, not_true_eq_false, Int.reduceEq, Nat.zero_add, Nat.add_zero, Nat.le_refl, Try.underlying2, s_2, g_2, z_2, Try.underlying3, s_3, g_3, z_3, Try.underlying4, s_4, g_4, z_4, Try.underlying5, s_5, g_5, z_5, Try.underlying9, s_9, g_9, z_9, Try.underlying12, s_12, g_12, z_12, Try.underlying13, s_13, g_13, z_13, q_13, Try.underlying21, s_21, g_21, z_21, Try.underlying22, s_22, g_22, z_22, Try.underlying23, s_23, g_23, z_23, q_23, Try.underlying24, s_24, g_24, z_24, q_24, Try.underlying25, s_25, g_25, z_25, Try.underlying36, s_36, g_36, l_36, r_36, Try.underlying37, s_37, g_37, l_37, r_37, Try.underlying50, s_50, g_50, z_50, q_50, Try.underlying54, s_54, g_54, l_54, r_54, Try.underlying55, s_55, g_55, z_55, Try.underlying71, s_71, g_71, z_71, faddG, hw, ha, hb]

noncomputable def cmulG : List DV → Option RV
  | [.pl va, .pl vb, .cel (.int .i64 w)] => match toN va, toN vb with
    | some a, some b => if isW w = true then some (.one (.pl (uV (a * b % pN w)))) else none
    | _, _ => none
  | _ => none
theorem cmul_ok : ∀ ds r, cmulG ds = some r → Spec Try.prog 11 ds r := by
  intro ds r h
  unfold cmulG at h
  split at h
  case h_2 => cases h
  rename_i va vb w
  split at h
  case h_2 => cases h
  rename_i a b ha hb
  split at h
  case isFalse => cases h
  rename_i hw
  cases h
  obtain ⟨rfl, ha'⟩ := toN_eq ha
  obtain ⟨rfl, hb'⟩ := toN_eq hb
  have hΓ : Env.ok [(12, fmulG)] Try.prog := ok_cons fmul_ok (ok_nil _)
  refine Spec.of_vx hΓ follows_mixed Try.func11 rfl (by kernel_rfl) (T := []) (by simp [Try.ntmps11]) (by kernel_rfl) rfl Try.ntmps11 (res := [.cell 5 24]) rfl ?_
  intro W
  simp -implicitDefEqProofs (maxSteps := 10000000) only [vy_succ, vy_zero, vx_skip, vx_reg0, vx_reg1, vx_ord, xx_done, xx_stop, xx_alt, vx_seq, vx_cond, vx_block, vx_exit, vx_ret, vx_loop, gx_nil, gx_cons, dx_nil, dx_cons, slim, slimOp, gO, gSO, qSO, quietOp, guardS, gK, qK, putK, plK, dOk, St.ev, St.get, St.mem, St.set, St.setm, St.put, lookA, look, newK, nextver, initT, seqE, blockQ, bodyQ, resK, retV, AV.rdv, cells_agg, cells_int, cells_bool, cells_string, cells_slice, cells_uV, agg_uV, isNil_uV, toN_uV, i64_in, IntKind.wrap_u64, IntKind.wrap_u8, IntKind.wrap_u32, ↓binK, ↓intK, unK, ↓loadK, ↓withKey_eq, ↓idxAddrK, ↓indexK, ↓partK, ↓fieldK, ↓fieldAddrK, ↓convK, ↓callK, ↓lenK, ↓mmK, ↓appK, ↓copyK, ↓sliceK, ↓toArrK, nilK, optK_some, optK_ite, evs, plains, seqParts, capsOf, capsD, List.append_nil, List.nil_append, List.cons_append, AV.dv, AV.cont, isNil_agg, isNil_int, isNil_bool, isNil_string, isNil_nil, isNil_slice, ↓buildV_eq, fillL, placesOf, Option.map_some, Option.map_none, ↓storeK, wrL, RV.av, DV.av, List.set, List.map_cons, List.map_nil, List.length_cons, List.length_nil, List.all_cons, List.all_nil, List.getElem?_cons_zero, List.getElem?_cons_succ, List.getElem?_nil, List.size_toArray, List.getElem?_toArray, List.drop_zero, List.drop_succ_cons, List.take_zero, List.take_succ_cons, Option.getD_some, Option.getD_none, Option.some.injEq, Option.isSome_some, Nat.reduceEqDiff, Nat.reduceAdd, Nat.reduceSub, Nat.reduceMul, Nat.reduceLT, Nat.reduceLeDiff, Nat.reduceMod, Nat.reduceDiv, Int.cast_ofNat_Int, Int.reduceLT, Int.reduceLE, Int.reduceToNat, ↓reduceIte, true_and, and_true, true_or, or_true, or_false, false_or, reduceCtorEq, Bool.false_eq_true, Bool.and_true, Bool.not_true, Bool.not_false, beq_self_eq_true, Bool.true_beq, Bool.false_beq, Value.oneCell', decide_true, decide_false, Int.reduceAdd, Int.reduceSub, Int.reduceMod, Int.reduceMul, Int.reduceNeg, Int.reduceBEq, Int.reduceBNe, Int.reduceTDiv, Int.reduceTMod, ne_eq, not_false_eq_true, not_true_eq_false, Int.reduceEq, Nat.zero_add, Nat.add_zero, Nat.le_refl, Try.underlying2, s_2, g_2, z_2, Try.underlying3, s_3, g_3, z_3, Try.underlying4, s_4, g_4, z_4, Try.underlying5, s_5, g_5, z_5, Try.underlying9, s_9, g_9, z_9, Try.underlying12, s_12, g_12, z_12, Try.underlying13, s_13, g_13, z_13, q_13, Try.underlying21, s_21, g_21, z_21, Try.underlying22, s_22, g_22, z_22, Try.underlying23, s_23, g_23, z_23, q_23, Try.underlying24, s_24, g_24, z_24, q_24, Try.underlying25, s_25, g_25, z_25, Try.underlying36, s_36, g_36, l_36, r_36, Try.underlying37, s_37, g_37, l_37, r_37, Try.underlying50, s_50, g_50, z_50, q_50, Try.underlying54, s_54, g_54, l_54, r_54, Try.underlying55, s_55, g_55, z_55, Try.underlying71, s_71, g_71, z_71, fmulG, hw, ha, hb]

noncomputable def csubG : List DV → Option RV
  | [.pl va, .pl vb, .cel (.int .i64 w)] => match toN va, toN vb with
    | some a, some b => if isW w = true then some (.one (.pl (uV ((a % pN w + (pN w - b % pN w)) % pN w)))) else none
    | _, _ => none
  | _ => none
theorem csub_ok : ∀ ds r, csubG ds = some r → Spec Try.prog 13 ds r := by
  intro ds r h
  unfold csubG at h
  split at h
  case h_2 => cases h
  rename_i va vb w
  split at h
  case h_2 => cases h
  rename_i a b ha hb
  split at h
  case isFalse => cases h
  rename_i hw
  cases h
  obtain ⟨rfl, ha'⟩ := toN_eq ha
  obtain ⟨rfl, hb'⟩ := toN_eq hb
  have hΓ : Env.ok [(14, fsubG)] Try.prog := ok_cons fsub_ok (ok_nil _)
  refine Spec.of_vx hΓ follows_mixed Try.func13 rfl (by kernel_rfl) (T := []) (by simp [Try.ntmps13]) (by kernel_rfl) rfl Try.ntmps13 (res := [.cell 5 24]) rfl ?_
  intro W
  simp -implicitDefEqProofs (maxSteps := 10000000) only [vy_succ, vy_zero, vx_skip, vx_reg0, vx_reg1, vx_ord, xx_done, xx_stop, xx_alt, vx_seq, vx_cond, vx_block, vx_exit, vx_ret, vx_loop, gx_nil, gx_cons, dx_nil, dx_cons, slim, slimOp, gO, gSO, qSO, quietOp, guardS, gK, qK, putK, plK, dOk, St.ev, St.get, St.mem, St.set, St.setm, St.put, lookA, look, newK, nextver, initT, seqE, blockQ, bodyQ, resK, retV, AV.rdv, cells_agg, cells_int, cells_bool, cells_string, cells_slice, cells_uV, agg_uV, isNil_uV, toN_uV, i64_in, IntKind.wrap_u64, IntKind.wrap_u8, IntKind.wrap_u32, ↓binK, ↓intK, unK, ↓loadK, ↓withKey_eq, ↓idxAddrK, ↓indexK, ↓partK, ↓fieldK, ↓fieldAddrK, ↓convK, ↓callK, ↓lenK, ↓mmK, ↓appK, ↓copyK, ↓sliceK, ↓toArrK, nilK, optK_some, optK_ite, evs, plains, seqParts, capsOf, capsD, List.append_nil, List.nil_append, List.cons_append, AV.dv, AV.cont, isNil_agg, isNil_int, isNil_bool, isNil_string, isNil_nil, isNil_slice, ↓buildV_eq, fillL, placesOf, Option.map_some, Option.map_none, ↓storeK, wrL, RV.av, DV.av, List.set, List.map_cons, List.map_nil, List.length_cons, List.length_nil, List.all_cons, List.all_nil, List.getElem?_cons_zero, List.getElem?_cons_succ, List.getElem?_nil, List.size_toArray, List.getElem?_toArray, List.drop_zero, List.drop_succ_cons, List.take_zero, List.take_succ_cons, Option.getD_some, Option.getD_none, Option.some.injEq, Option.isSome_some, Nat.reduceEqDiff, Nat.reduceAdd, Nat.reduceSub, Nat.reduceMul, Nat.reduceLT, Nat.reduceLeDiff, Nat.reduceMod, Nat.reduceDiv, Int.cast_ofNat_Int, Int.reduceLT, Int.reduceLE, Int.reduceToNat, ↓reduceIte, true_and, and_true, true_or, or_true, or_false, false_or, reduceCtorEq, Bool.false_eq_true, Bool.and_true, Bool.not_true, Bool.not_false, beq_self_eq_true, Bool.true_beq, Bool.false_beq, Value.oneCell', decide_true, decide_false, Int.reduceAdd, Int.reduceSub, Int.reduceMod, Int.reduceMul, Int.reduceNeg, Int.reduceBEq, Int.reduceBNe, Int.reduceTDiv, Int.reduceTMod, ne_eq, not_false_eq_true, not_true_eq_false, Int.reduceEq, Nat.zero_add, Nat.add_zero, Nat.le_refl, Try.underlying2, s_2, g_2, z_2, Try.underlying3, s_3, g_3, z_3, Try.underlying4, s_4, g_4, z_4, Try.underlying5, s_5, g_5, z_5, Try.underlying9, s_9, g_9, z_9, Try.underlying12, s_12, g_12, z_12, Try.underlying13, s_13, g_13, z_13, q_13, Try.underlying21, s_21, g_21, z_21, Try.underlying22, s_22, g_22, z_22, Try.underlying23, s_23, g_23, z_23, q_23, Try.underlying24, s_24, g_24, z_24, q_24, Try.underlying25, s_25, g_25, z_25, Try.underlying36, s_36, g_36, l_36, r_36, Try.underlying37, s_37, g_37, l_37, r_37, Try.underlying50, s_50, g_50, z_50, q_50, Try.underlying54, s_54, g_54, l_54, r_54, Try.underlying55, s_55, g_55, z_55, Try.underlying71, s_71, g_71, z_71, fsubG, hw, ha, hb]

theorem sub_back (a b p : Nat) (hp : 0 < p) : ((a + b) % p % p + (p - b % p)) % p = a % p := by
  have hb := Nat.div_add_mod b p
  have hbl := Nat.mod_lt b hp
  rw [Nat.mod_mod, Nat.mod_add_mod]
  have e : a + b + (p - b % p) = a + p + p * (b / p) := by omega
  rw [e, Nat.add_mul_mod_self_left, Nat.add_mod_right]
theorem sub_self (a p : Nat) (hp : 0 < p) : (a % p + (p - a % p)) % p = 0 := by
  have := Nat.mod_lt a hp
  rw [show a % p + (p - a % p) = p by omega, Nat.mod_self]

set_option maxHeartbeats 8000000 in
theorem rules_ok (a b c : Nat) (w : Int) (ha : a < full) (hb : b < full) (hc : c < full) : Spec Try.prog 3 [.pl (uV a), .pl (uV b), .pl (uV c), .pl (.int .i64 w)] (.one (.pl (.bool true))) := by
  have hΓ : Env.ok [(9, caddG), (11, cmulG), (13, csubG), (15, trueG)] Try.prog := ok_cons cadd_ok (ok_cons cmul_ok (ok_cons csub_ok (ok_cons alive_ok (ok_nil _))))
  have ta : toN (uV a) = some a := toN_lt ha
  have tb : toN (uV b) = some b := toN_lt hb
  have tc : toN (uV c) = some c := toN_lt hc
  have hv := and1_i64 w
  generalize hw : bits .and .i64 w 1 = v at hv
  have hv' : isW v = true := by rcases hv with rfl | rfl <;> rfl
  have tm := fun x => toN_mod x v
  have q1 : eqU ((a + b) % pN v) ((b + a) % pN v) = true := by rw [Nat.add_comm]; exact eqU_self _
  have q2 : eqU (a * b % pN v) (b * a % pN v) = true := by rw [Nat.mul_comm]; exact eqU_self _
  have q3 : eqU (((a + b) % pN v + c) % pN v) ((a + (b + c) % pN v) % pN v) = true := by rw [Nat.mod_add_mod, Nat.add_mod_mod, Nat.add_assoc]; exact eqU_self _
  have q4 : eqU (a * b % pN v * c % pN v) (a * (b * c % pN v) % pN v) = true := by rw [Nat.mod_mul_mod, Nat.mul_mod_mod, Nat.mul_assoc]; exact eqU_self _
  have q5 : eqU (a * ((b + c) % pN v) % pN v) ((a * b % pN v + a * c % pN v) % pN v) = true := by rw [Nat.mul_mod_mod, ← Nat.add_mod, Nat.mul_add]; exact eqU_self _
  have q6 : eqU (((a + b) % pN v % pN v + (pN v - b % pN v)) % pN v) (a % pN v) = true := by rw [sub_back a b (pN v) (pN_pos v)]; exact eqU_self _
  have q7 : (a % pN v + (pN v - a % pN v)) % pN v = 0 := sub_self a (pN v) (pN_pos v)
  have q8 := eqU_self 0
  refine Spec.of_vx hΓ follows_mixed Try.func3 rfl (by kernel_rfl) (T := []) (by simp [Try.ntmps3]) (by kernel_rfl) rfl Try.ntmps3 (res := [.tmp 8]) rfl ?_
  intro W
  simp -implicitDefEqProofs (maxSteps := 10000000) only [List.append_eq, vy_succ, vy_zero, vx_skip, vx_reg0, vx_reg1, vx_ord, xx_done, xx_stop, xx_alt, vx_seq, vx_cond, vx_block, vx_exit, vx_ret, vx_loop, gx_nil, gx_cons, dx_nil, dx_cons, slim, slimOp, gO, gSO, qSO, quietOp, guardS, gK, qK, putK, plK, dOk, St.ev, St.get, St.mem, St.set, St.setm, St.put, lookA, look, newK, nextver, initT, seqE, blockQ, bodyQ, resK, retV, AV.rdv, cells_agg, cells_int, cells_bool, cells_string, cells_slice, cells_uV, agg_uV, isNil_uV, toN_uV, i64_in, IntKind.wrap_u64, IntKind.wrap_u8, IntKind.wrap_u32, ↓binK, ↓intK, unK, ↓loadK, ↓withKey_eq, ↓idxAddrK, ↓indexK, ↓partK, ↓fieldK, ↓fieldAddrK, ↓convK, ↓callK, ↓lenK, ↓mmK, ↓appK, ↓copyK, ↓sliceK, ↓toArrK, nilK, optK_some, optK_ite, evs, plains, seqParts, capsOf, capsD, List.append_nil, List.nil_append, List.cons_append, AV.dv, AV.cont, isNil_agg, isNil_int, isNil_bool, isNil_string, isNil_nil, isNil_slice, ↓buildV_eq, fillL, placesOf, Option.map_some, Option.map_none, ↓storeK, wrL, RV.av, DV.av, List.set, List.map_cons, List.map_nil, List.length_cons, List.length_nil, List.all_cons, List.all_nil, List.getElem?_cons_zero, List.getElem?_cons_succ, List.getElem?_nil, List.size_toArray, List.getElem?_toArray, List.drop_zero, List.drop_succ_cons, List.take_zero, List.take_succ_cons, Option.getD_some, Option.getD_none, Option.some.injEq, Option.isSome_some, Nat.reduceEqDiff, Nat.reduceAdd, Nat.reduceSub, Nat.reduceMul, Nat.reduceLT, Nat.reduceLeDiff, Nat.reduceMod, Nat.reduceDiv, Int.cast_ofNat_Int, Int.reduceLT, Int.reduceLE, Int.reduceToNat, ↓reduceIte, true_and, and_true, true_or, or_true, or_false, false_or, reduceCtorEq, Bool.false_eq_true, Bool.and_true, Bool.not_true, Bool.not_false, beq_self_eq_true, Bool.true_beq, Bool.false_beq, Value.oneCell', decide_true, decide_false, Int.reduceAdd, Int.reduceSub, Int.reduceMod, Int.reduceMul, Int.reduceNeg, Int.reduceBEq, Int.reduceBNe, Int.reduceTDiv, Int.reduceTMod, ne_eq, not_false_eq_true, not_true_eq_false, Int.reduceEq, Nat.zero_add, Nat.add_zero, Nat.le_refl, Try.underlying2, s_2, g_2, z_2, Try.underlying3, s_3, g_3, z_3, Try.underlying4, s_4, g_4, z_4, Try.underlying5, s_5, g_5, z_5, Try.underlying9, s_9, g_9, z_9, Try.underlying12, s_12, g_12, z_12, Try.underlying13, s_13, g_13, z_13, q_13, Try.underlying21, s_21, g_21, z_21, Try.underlying22, s_22, g_22, z_22, Try.underlying23, s_23, g_23, z_23, q_23, Try.underlying24, s_24, g_24, z_24, q_24, Try.underlying25, s_25, g_25, z_25, Try.underlying36, s_36, g_36, l_36, r_36, Try.underlying37, s_37, g_37, l_37, r_37, Try.underlying50, s_50, g_50, z_50, q_50, Try.underlying54, s_54, g_54, l_54, r_54, Try.underlying55, s_55, g_55, z_55, Try.underlying71, s_71, g_71, z_71, caddG, cmulG, csubG, trueG, hw, hv', ta, tb, tc, tm, toN_zero, q1, q2, q3, q4, q5, q6, q7, q8, ↓binK_eqU, ↓binK_eqU0]
end Go.Vm
