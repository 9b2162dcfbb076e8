/- Contract: the function that multiplies within power. No condition. -/
import Derived.Test.YtcbcmfmcpdimkaaFe
set_option maxRecDepth 100000
set_option linter.unusedSimpArgs false
set_option linter.unusedVariables false
namespace Go.Vm
open Go Go.RowKit Go.Proofs

theorem gops_then {P : Program} {Γ : Env} (hΓ : Γ.ok P) {n : Nat} {ops : Array Oper} {w0 : World} {K : St → Prop} {Q : Exit → Act → World → Prop} {rest : List Nat} (hQ : ∀ ρ st a w, K st → Rel n w0 ρ st.get st.mem a w → wpOps P ops Q rest a w) :
    ∀ (l : List Oper) (k : Nat) (st : St) (ρ : Nat → Option Nat) (a : Act) (w : World), (∀ j o, l[j]? = some o → ops[k + j]? = some o ∧ o.guard = none) → gL P Γ n (ops.toList.map (·.dst)) l K st → Rel n w0 ρ st.get st.mem a w → wpOps P ops Q (List.range' k l.length ++ rest) a w
  | [], _, st, ρ, a, w, _, h, hr => hQ ρ st a w h hr
  | o :: l, k, st, ρ, a, w, hl, h, hr => by
    obtain ⟨h0, hg⟩ := hl 0 o rfl
    have h0' : ops[k]? = some o := by simpa using h0
    have hl' : ∀ j o, l[j]? = some o → ops[k + 1 + j]? = some o ∧ o.guard = none := fun j o ho => by have := hl (j + 1) o (by simpa using ho); simpa [Nat.add_assoc, Nat.add_comm 1 j] using this
    rw [List.length_cons, List.range'_succ, List.cons_append, wpOps_cons]
    unfold wpOp
    simp only [h0']
    unfold gL at h
    rw [hg] at h
    have : Region.wanted o (yielded ops a.tmps) = true := by simp [Region.wanted, hg]
    rw [if_pos this]
    exact .inl (upon_of_does (gK_sound hΓ h hr) fun v w' ⟨ρ', st', hK, hr'⟩ => gops_then hΓ hQ l (k + 1) st' ρ' _ _ hl' hK hr')

theorem store_last {P : Program} {Γ : Env} (hΓ : Γ.ok P) {n : Nat} {id0 id1 : Nat} {ops0 ops1 : Array Oper} {o : Oper} {k : Nat} (hs : ops1.size = k + 1) (ho : ops1[k]? = some o) (hog : o.guard = none) (hod : o.dst = none)
    (hgs : ((ops1.toList.take k).all fun x => x.guard.isNone) = true) {K2 : St → Prop} {st0 : St} {w0 w : World} {ρ : Nat → Option Nat} {a : Act} {Q : Exit → Act → World → Prop}
    (h0 : gL P Γ n (ops0.toList.map (·.dst)) ops0.toList (fun st => gL P Γ n (ops1.toList.map (·.dst)) (ops1.toList.take k) K2 st) st0) (hr : Rel n w0 ρ st0.get st0.mem a w)
    (hfin : ∀ ρ st a w, K2 st → Rel n w0 ρ st.get st.mem a w → ∃ w', (execOp a.eval o).run P w = .ok .skip w' ∧ Q .normal a w') : ((Code.region id0 ops0 false).seq (Code.region id1 ops1 false)).wp P Q a w := by
  refine wp_seq (region_seq hΓ (K := fun st => gL P Γ n (ops1.toList.map (·.dst)) (ops1.toList.take k) K2 st) (fun ρ' st' a' w' hK hr' => ?_) h0 hr)
  show (Code.region id1 ops1 false).wp P Q a' w'
  refine wp_region ?_
  have hl : (ops1.toList.take k).length = k := by simp; omega
  have hrange : List.range ops1.size = List.range' 0 (ops1.toList.take k).length ++ [k] := by
    rw [hl, hs, List.range_succ, List.range_eq_range']
  rw [hrange]
  refine gops_then hΓ (K := K2) (fun ρ'' st'' a'' w'' hK2 hr'' => ?_) _ 0 st' ρ' a' w' (fun j x hx => ?_) hK hr'
  · rw [wpOps_cons]
    unfold wpOp
    simp only [ho]
    have : Region.wanted o (yielded ops1 a''.tmps) = true := by simp [Region.wanted, hog]
    rw [if_pos this]
    obtain ⟨w3, hrun, hq⟩ := hfin ρ'' st'' a'' w'' hK2 hr''
    refine .inl ?_
    unfold Oper.wp
    rw [hrun]
    show wpOps P ops1 Q [] (a''.put o.dst undef) w3
    rw [hod]
    exact hq
  · have hx' := hx
    rw [List.getElem?_take] at hx
    split at hx
    · refine ⟨by simpa using hx, ?_⟩
      have := List.all_eq_true.1 hgs x (List.mem_of_getElem? hx')
      simpa using this
    · cases hx

noncomputable def uL (x : Nat) : List Value := [.int .u64 (w0 x : Nat), .int .u64 (w1 x : Nat), .int .u64 (w2 x : Nat), .int .u64 (w3 x : Nat)]
noncomputable def toL (l : List Value) : Option Nat := toN (.agg l.toArray)
theorem toL_eq {l : List Value} {x : Nat} (h : toL l = some x) : l = uL x ∧ x < full := by
  obtain ⟨h1, h2⟩ := toN_eq h
  refine ⟨?_, h2⟩
  have : Value.agg l.toArray = Value.agg (uL x).toArray := h1
  simp only [Value.agg.injEq] at this
  simpa using congrArg Array.toList this
theorem toL_uL {x : Nat} (h : x < full) : toL (uL x) = some x := toN_lt h

noncomputable def byG : List DV → Option RV
  | [.pl vx, .blk oc, .blk cc] => match toN vx, toL oc, toL cc with
    | some x, some o, some c => if cOk c = true then some (.upd 1 (uL (o * x % (full - c)))) else none
    | _, _, _ => none
  | _ => none

set_option maxHeartbeats 4000000 in
theorem by_walk (x o c : Nat) (hx : x < full) (ho : o < full) (hc : c < full) (ok : cOk c = true) : SpecW Try.prog 70 [.pl (uV x), .blk (uL o), .blk (uL c)] 1 (uL (o * x % (full - c))) := by
  have hΓ : Env.ok [(41, mulcG)] Try.prog := ok_cons mulc_ok (ok_nil _)
  intro w vs hv b cs e fz hidx hcs hfz
  match vs, hv with
  | [v0, v1, v2], hv =>
  obtain ⟨rfl, h1, h2, _⟩ := hv
  have hv1 : v1 = .pointer (some ⟨b, 0, none⟩) := by simpa using hidx
  obtain ⟨b', c', e', fz', rest, hb', hc', hr', _⟩ := id h1
  have hbb : b' = b := by rw [hv1] at hb'; simp at hb'; exact hb'.symm
  subst hbb
  rw [hcs] at hc'; cases hc'
  have hrun : (callFunc 70 [uV x, v1, v2].toArray).run Try.prog w = .ok (.enter 70 [uV x, v1, v2].toArray) w := by
    simp [callFunc, Try.func70, Try.f70]
  rw [hrun]
  show Calls _ _ _ _ _
  refine calls_of_wp Try.func70 rfl ?_
  obtain ⟨b2, c2, e2, fz2, rest2, hb2, hc2, hr2, _⟩ := h2
  have hr0 : Rel 8 w (fun _ => none) (St.get ⟨[(0, .pl (uV x)), (1, .pblk b' (uL o)), (2, .pblk b2 (uL c))], []⟩) (St.mem ⟨[(0, .pl (uV x)), (1, .pblk b' (uL o)), (2, .pblk b2 (uL c))], []⟩) { tmps := [uV x, v1, v2].toArray ++ Array.replicate (8 - [uV x, v1, v2].toArray.size) undef, defers := [] } w := by
    refine ⟨rfl, by simp, Below.refl _ _, ⟨Nat.le_refl _, fun k blk hk => (by cases hk), fun _ _ => rfl, fun _ _ _ h => (by cases h)⟩, fun j => ?_⟩
    simp only [St.get, lookA]
    split
    · rename_i e0; subst e0; exact (rfl : _ = _)
    · split
      · rename_i e0; subst e0; exact ⟨hv1, cs, e, fz, rest, hcs, hr', fun k e => (by cases e)⟩
      · split
        · rename_i e0; subst e0; exact ⟨hb2, c2, e2, fz2, rest2, hc2, hr2, fun k e => (by cases e)⟩
        · trivial
  rw [Try.ntmps70]
  have tx : toN (uV x) = some x := toN_lt hx
  have to' : toN (uV o) = some o := toN_lt ho
  have tc : toN (uV c) = some c := toN_lt hc
  refine store_last hΓ (n := 8) (k := 4) rfl rfl rfl rfl rfl (K2 := fun st => St.get st 7 = AV.pl (uV (o * x % (full - c))) ∧ St.get st 1 = AV.pblk b' (uL o)) ?_ hr0 ?_
  · simp only [← gR_eq, ← gx_eq]
    simp -implicitDefEqProofs (maxSteps := 10000000) only [vy_succ, vy_zero, vx_skip, vx_reg0, vx_reg1, vx_ord, xx_done, xx_stop, xx_alt, vx_seq, vx_cond, vx_block, vx_exit, vx_ret, vx_loop, gx_nil, gx_cons, dx_nil, dx_cons, slim, slimOp, gO, gSO, qSO, quietOp, cx_nil, cx_cons, xx_alc, cS, qSB, eK, calmOp, guardS, gK, qK, putK, plK, dOk, St.ev, St.get, St.mem, St.set, St.setm, St.put, lookA, look, newK, nextver, initT, seqE, blockQ, bodyQ, resK, retV, AV.rdv, cells_agg, cells_int, cells_bool, cells_string, cells_slice, cells_uV, agg_uV, isNil_uV, toN_uV, i64_in, IntKind.wrap_u64, IntKind.wrap_u8, IntKind.wrap_u32, ↓binK, ↓intK, unK, ↓loadK, ↓withKey_eq, ↓idxAddrK, ↓indexK, ↓partK, ↓fieldK, ↓fieldAddrK, ↓convK, ↓callK, wrG, updK, ↓lenK, ↓mmK, ↓appK, ↓copyK, ↓sliceK, ↓toArrK, nilK, optK_some, optK_tup, optK_ite, evs, plains, seqParts, capsOf, capsD, List.append_nil, List.nil_append, List.cons_append, AV.dv, AV.cont, isNil_agg, isNil_int, isNil_bool, isNil_string, isNil_nil, isNil_slice, ↓buildV_eq, fillL, placesOf, Option.map_some, Option.map_none, ↓storeK, wrL, RV.av, DV.av, List.set, List.map_cons, List.map_nil, List.length_cons, List.length_nil, List.all_cons, List.all_nil, List.getElem?_cons_zero, List.getElem?_cons_succ, List.getElem?_nil, List.size_toArray, List.getElem?_toArray, List.drop_zero, List.drop_succ_cons, List.take_zero, List.take_succ_cons, Option.getD_some, Option.getD_none, Option.some.injEq, Option.isSome_some, Nat.reduceEqDiff, Nat.reduceAdd, Nat.reduceSub, Nat.reduceMul, Nat.reduceLT, Nat.reduceLeDiff, Nat.reduceMod, Nat.reduceDiv, Int.cast_ofNat_Int, Int.reduceLT, Int.reduceLE, Int.reduceToNat, ↓reduceIte, true_and, and_true, true_or, or_true, or_false, false_or, reduceCtorEq, Bool.false_eq_true, Bool.and_true, Bool.not_true, Bool.not_false, beq_self_eq_true, Bool.true_beq, Bool.false_beq, Value.oneCell', decide_true, decide_false, Int.reduceAdd, Int.reduceSub, Int.reduceMod, Int.reduceMul, Int.reduceNeg, Int.reduceBEq, Int.reduceBNe, Int.reduceTDiv, Int.reduceTMod, ne_eq, not_false_eq_true, not_true_eq_false, Int.reduceEq, Nat.zero_add, Nat.add_zero, Nat.le_refl, tyB, Try.underlying13, Try.underlying25, Try.underlying26, Try.underlying53, Try.underlying54, mulcG, uL, tx, to', tc, ok]
  · rintro ρ' st' a' w' ⟨hk7, hk1⟩ hr
    have g7 := hr.eval (.tmp 7)
    have g1 := hr.eval (.tmp 1)
    rw [show evT st'.get (.tmp 7) = St.get st' 7 from rfl, hk7] at g7
    rw [show evT st'.get (.tmp 1) = St.get st' 1 from rfl, hk1] at g1
    obtain ⟨g1, cs1, e1, fz1, rest1, hh1, hhr1, _⟩ := g1
    have g7' : a'.eval (.tmp 7) = uV (o * x % (full - c)) := g7
    have hblt : b' < w.heap.size := (Array.getElem?_eq_some_iff.1 hcs).1
    have hsame : w'.heap[b']? = w.heap[b']? := hr.below.block b' hblt
    rw [hsame, hcs] at hh1
    cases hh1
    rw [hcs] at hsame
    have hsz : 4 ≤ cs.size := by have := congrArg List.length hr'; simp [uL] at this; omega
    obtain ⟨w3, c3, hrun3, hset, hc3⟩ := run_storeCells (P := Try.prog) 0 (uL (o * x % (full - c))) 0 cs w' hsame hfz (by simpa [uL] using hsz) (fun v hv => by simp only [uL, List.mem_cons, List.not_mem_nil, or_false] at hv; rcases hv with rfl | rfl | rfl | rfl <;> rfl)
    refine ⟨w3, ?_, ?_⟩
    · have hst : (Instr.storeAt 24 (a'.eval (.tmp 1)) (a'.eval (.tmp 7))).run Try.prog w' = .ok () w3 := by
        simp only [Instr.storeAt, g1, Instr.sureAddr, g7', storeVar, Sem.run_bind, Sem.run_pure, Result.andThen_ok, run_sizeOf s_24]
        rw [if_neg (by simp [uV, Value.cells])]
        exact hrun3
      simp [execOp, hst]
    · refine ⟨hr.defers, .tuple #[], ?_, _, rfl, rfl, ?_⟩
      · rw [results_eq]
        simp [Try.f70]
      · refine ⟨hset.os.trans hr.below.os, hset.tape.trans hr.below.tape, hset.output.trans hr.below.output, by rw [hset.size]; exact hr.below.size, fun k hk hkb => (hset.other k hkb).trans (hr.below.block k hk), ?_⟩
        intro c4 e4 fz4 cells4 rest4 h4 h5 h6
        rw [hcs] at h4
        cases h4
        refine ⟨c3, hset.here, ?_⟩
        rw [hc3, h5, Nat.add_zero]
        have h6' : cells4.length = 4 := by rw [h6]; rfl
        match cells4, h6' with
        | [x0, x1, x2, x3], _ => rfl

theorem by_ok : ∀ ds r, byG ds = some r → SpecR Try.prog 70 ds r := by
  intro ds r h
  unfold byG at h
  split at h
  case h_2 => cases h
  rename_i vx oc cc
  split at h
  case h_2 => cases h
  rename_i x o c hx ho hc
  split at h
  case isFalse => cases h
  rename_i ok
  cases h
  obtain ⟨rfl, hx'⟩ := toN_eq hx
  obtain ⟨rfl, ho'⟩ := toL_eq ho
  obtain ⟨rfl, hc'⟩ := toL_eq hc
  exact by_walk x o c hx' ho' hc' ok
end Go.Vm
