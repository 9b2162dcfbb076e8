/- Contracts: a block. No condition. -/
import Derived.Test.YtfalpjjalbclcaaSc
set_option maxRecDepth 100000
set_option linter.unusedSimpArgs false
set_option linter.unusedVariables false
namespace Go.Vm
open Go Go.RowKit Go.Proofs

theorem h8_inj {s t : H8} (h : h8 s = h8 t) : s = t := by
  cases s; cases t
  simp only [h8, List.cons.injEq, Value.int.injEq, true_and, and_true] at h
  obtain ⟨h1, h2, h3, h4, h5, h6, h7, h8⟩ := h
  rw [hn_inj h1, hn_inj h2, hn_inj h3, hn_inj h4, hn_inj h5, hn_inj h6, hn_inj h7, hn_inj h8]
noncomputable def unH (cs : Array Value) : Option H8 :=
  open Classical in
  if h : ∃ s, cs = (h8 s).toArray then some h.choose else none
theorem unH_h8 (s : H8) : unH (h8 s).toArray = some s := by
  unfold unH
  have h : ∃ t, (h8 s).toArray = (h8 t).toArray := ⟨s, rfl⟩
  rw [dif_pos h]
  have := h.choose_spec
  exact congrArg some (h8_inj (congrArg Array.toList this)).symm
theorem unH_some {cs : Array Value} {s : H8} (h : unH cs = some s) : cs = (h8 s).toArray := by
  unfold unH at h
  split at h
  · rename_i h'
    cases h
    exact h'.choose_spec
  · cases h
noncomputable def h0V : Value := .agg #[.int .u32 0, .int .u32 0, .int .u32 0, .int .u32 0, .int .u32 0, .int .u32 0, .int .u32 0, .int .u32 0]
set_option maxHeartbeats 4000000 in
theorem block_refuse (v : Value) (hv : ∃ s, v = .agg (h8 s).toArray) (l : List UInt8) (hl : l.length ≠ 64) : Spec Try.prog 7 [.pl v, .pl (.string (bstr l))] (.tup [.pl h0V, .pl (.int .i64 4)]) := by
  obtain ⟨s, rfl⟩ := hv
  have hΓ : Env.ok [] Try.prog := ok_nil _
  have hs := bstr_size' l
  have e : ((l.length : Int) != 64) = true := by simp; omega
  unfold h0V
  refine Spec.of_vx hΓ follows_mixed Try.func7 rfl (by kernel_rfl) (T := [(3, .alc)]) (by simp [Try.ntmps7]) (by kernel_rfl) rfl Try.ntmps7 (res := [.cell 4 23, .tmp 5]) rfl ?_
  intro W
  simp -implicitDefEqProofs (maxSteps := 100000000) only [vy_succ, vy_zero, vx_skip, vx_reg0, vx_reg1, vx_ord, xx_done, xx_stop, xx_alt, vx_seq, vx_cond, vx_block, vx_exit, vx_ret, vx_loop, gx_nil, gx_cons, dx_nil, dx_cons, slim, slimOp, gO, gSO, qSO, quietOp, cx_nil, cx_cons, xx_alc, cS, qSB, eK, calmOp, guardS, gK, qK, putK, plK, dOk, St.ev, St.get, St.mem, St.set, St.setm, St.put, lookA, look, newK, nextver, initT, seqE, blockQ, bodyQ, resK, retV, AV.rdv, cells_agg, cells_int, cells_bool, cells_string, cells_slice, cells_uV, agg_uV, isNil_uV, toN_uV, i64_in, IntKind.wrap_u64, IntKind.wrap_u8, IntKind.wrap_u32, ↓binK, ↓intK, unK, ↓loadK, ↓withKey_eq, ↓idxAddrK, ↓indexK, ↓partK, ↓fieldK, ↓fieldAddrK, ↓convK, ↓callK, wrG, updK, ↓lenK, ↓mmK, ↓appK, ↓copyK, ↓sliceK, ↓toArrK, nilK, optK_some, optK_tup, optK_ite, evs, plains, seqParts, capsOf, capsD, List.append_nil, List.nil_append, List.cons_append, AV.dv, AV.cont, isNil_agg, isNil_int, isNil_bool, isNil_string, isNil_nil, isNil_slice, ↓buildV_eq, fillL, placesOf, Option.map_some, Option.map_none, ↓storeK, wrL, RV.av, DV.av, List.set, List.map_cons, List.map_nil, List.length_cons, List.length_nil, List.all_cons, List.all_nil, List.getElem?_cons_zero, List.getElem?_cons_succ, List.getElem?_nil, List.size_toArray, List.getElem?_toArray, List.drop_zero, List.drop_succ_cons, List.take_zero, List.take_succ_cons, Option.getD_some, Option.getD_none, Option.some.injEq, Option.isSome_some, Nat.reduceEqDiff, Nat.reduceAdd, Nat.reduceSub, Nat.reduceMul, Nat.reduceLT, Nat.reduceLeDiff, Nat.reduceMod, Nat.reduceDiv, Int.cast_ofNat_Int, Int.reduceLT, Int.reduceLE, Int.reduceToNat, ↓reduceIte, true_and, and_true, true_or, or_true, or_false, false_or, reduceCtorEq, Bool.false_eq_true, Bool.and_true, Bool.not_true, Bool.not_false, beq_self_eq_true, Bool.true_beq, Bool.false_beq, Value.oneCell', decide_true, decide_false, Int.reduceAdd, Int.reduceSub, Int.reduceMod, Int.reduceMul, Int.reduceNeg, Int.reduceBEq, Int.reduceBNe, Int.reduceTDiv, Int.reduceTMod, ne_eq, not_false_eq_true, not_true_eq_false, Int.reduceEq, Nat.zero_add, Nat.add_zero, Nat.le_refl, Try.underlying2, s_2, g_2, z_2, Try.underlying3, s_3, g_3, z_3, Try.underlying4, s_4, g_4, z_4, Try.underlying5, s_5, g_5, z_5, Try.underlying9, s_9, g_9, z_9, Try.underlying12, s_12, g_12, z_12, Try.underlying13, s_13, g_13, z_13, q_13, Try.underlying21, s_21, g_21, z_21, Try.underlying22, s_22, g_22, z_22, Try.underlying23, s_23, g_23, z_23, q_23, Try.underlying24, s_24, g_24, z_24, Try.underlying29, s_29, g_29, l_29, r_29, Try.underlying38, s_38, g_38, l_38, r_38, Try.underlying39, s_39, g_39, z_39, q_39, Try.underlying43, s_43, g_43, l_43, r_43, Try.underlying47, s_47, g_47, z_47, Try.underlying49, s_49, g_49, z_49, Try.underlying50, s_50, g_50, l_50, r_50, hs, h8, e, List.take_zero, List.take_succ_cons]
noncomputable def blkG : List DV → Option RV
  | [.pl (.agg cs), .pl (.string s)] => match unH cs with
    | some h => if s.size = 64 then some (.tup [.pl (.agg (h8 (blkF h s.data.toList)).toArray), .pl (.int .i64 0)]) else some (.tup [.pl h0V, .pl (.int .i64 4)])
    | none => none
  | _ => none
theorem blk_ok : ∀ ds r, blkG ds = some r → Spec Try.prog 7 ds r := by
  intro ds r h
  unfold blkG at h
  split at h
  case h_2 => cases h
  rename_i cs s
  split at h
  case h_2 => cases h
  rename_i t ht
  rw [unH_some ht, bstr_of s]
  split at h
  · rename_i hs
    cases h
    exact block_walk t s.data.toList hs
  · rename_i hs
    cases h
    exact block_refuse _ ⟨t, rfl⟩ s.data.toList hs
noncomputable def rblkG : List DV → Option RV
  | [.pl (.agg cs), .pl (.string s), .vec xs] => open Classical in match unH cs with
    | some h => if s.size = 64 ∧ xs = hL KC then some (.one (.pl (.agg (h8 (blkF h s.data.toList)).toArray))) else none
    | none => none
  | _ => none
theorem rblk_ok : ∀ ds r, rblkG ds = some r → Spec Try.prog 9 ds r := by
  intro ds r h
  unfold rblkG at h
  split at h
  case h_2 => cases h
  rename_i cs s xs
  split at h
  case h_2 => cases h
  rename_i t ht
  rw [unH_some ht, bstr_of s]
  split at h
  · rename_i hs
    cases h
    rw [hs.2]
    exact rblock_walk t s.data.toList hs.1
  · cases h
end Go.Vm
