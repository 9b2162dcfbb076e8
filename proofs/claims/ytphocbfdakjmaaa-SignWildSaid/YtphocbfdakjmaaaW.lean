/- What the cards of all laws want: arrays of numbers as arguments; a call that leaves all that was there as it was. No condition. -/
import Derived.Test.YtphocbfdakjmaaaPart2
import Derived.Test.YtphocbfdakjmaaaRows
import Derived.Test.YtphocbfdakjmaaaChecked
import Derived.ChangeSame
import Derived.ChangeMaps5
import Derived.JoinedOf
import Derived.JoinedAt
import Derived.RowKit3
import Derived.OpenShut
import Derived.DataBytes
import Derived.Carry
import Derived.Below
namespace Go.Vm
open Go Go.ChangeShapes Go.WideShapes Go.ChangeAt Go.RowKit

section
variable {H : Type} {enc : TypeId × Value → H} {P : Program}

theorem post_plain {f : Func} {s : ChangeSpec} {apart fresh handsOn again : Bool} {W W' : World} {args : Array Value} {v : Value} {ds gs : List (DataW H)}
    (hW : DataW.Whole enc P f.params.toList s.vars apart W args.toList ds gs [])
    (hres : ∀ (b : Nat) (sp : Nat → Bool) (hd : Bool), DataW.TrodAll enc P W' b sp hd f.resultTypes.toList (v.resultList f.resultTypes.size) (s.fn H (ds ++ gs)).results [])
    (hargs : ∀ sp : Nat → Bool, DataW.TrodAll enc P W' 0 sp true f.params.toList args.toList (s.fn H (ds ++ gs)).args [])
    (hvars : ∀ sp : Nat → Bool, DataW.TrodVars enc P W' sp s.vars (s.fn H (ds ++ gs)).vars [])
    (hk : Below W.heap.size W W')
    (hok : ∀ (j : Nat) (t : TypeId) (r : Value), f.resultTypes[j]? = some t → (v.resultList f.resultTypes.size)[j]? = some r → Value.okWide P W' .any 0 t r) :
    s.post enc P f apart fresh handsOn again W args v W' := by
  refine ⟨ds, gs, [], [], [], [], hW, hres _ _ _, hargs _, hvars _, hk.frame _, fun _ => ?_⟩
  refine ⟨hok, _, _, ([] ++ []) ++ [], ⟨[] ++ [], [], trodAll_append (hargs _) (hres _ _ _), hvars _, rfl, ?_, ?_⟩, ?_⟩
  · intro b off hp
    simp at hp
  · intro ha
    simp
  · intro p hp _
    simp at hp

theorem open_arr {w : World} {base : Nat} {spare : Nat → Bool} {held : Bool} {r : Reach} {b0 : Nat} {t e : TypeId} {n : Nat} {k : IntKind} {v : Value} {d : DataW H} {ps : List MemPlace}
    (ht : P.underlying t = some (.array n e)) (he : P.underlying e = some (.int k)) (hc : P.cellsOf e = 1) (hcn : P.cellsOf t = n)
    (hval : Value.okWide P w r b0 t v) (h : DataW.Trod enc P w base spare held t v d ps) :
    ∃ xs : List Int, v = .agg (xs.map (Value.int k)).toArray ∧ d = .agg (xs.map fun z => .lit (.int k z)) ∧ ps = [] ∧ xs.length = n ∧ ∀ z ∈ xs, (Lit.int k z).wf = true := by
  obtain ⟨cs, rfl, hsz, _⟩ : ∃ cs, v = .agg cs ∧ cs.size = P.cellsOf t ∧ Row.okWide P w r b0 t cs := by
    simpa [Value.okWide, ht] using hval
  obtain ⟨fuel, hf⟩ := h
  obtain ⟨xs, m, _, hx, hl, hxl, hel⟩ := DataW.trod_array ht hf
  have hcs : (Value.agg cs).cells.toList = cs.toList := rfl
  rw [hcs] at hl hel
  have hel2 : ∀ i, i < n → ∃ z, cs.toList[i]? = some (.int k z) ∧ xs[i]? = some (.lit (.int k z), []) ∧ (Lit.int k z).wf = true := by
    intro i hi
    have h1 := hel i hi
    rw [hc, Nat.mul_one] at h1
    have h2 : i < cs.toList.length := by omega
    have h3 : (cs.toList.drop i).take 1 = [cs.toList[i]] := by
      rw [List.drop_eq_getElem_cons h2]; simp
    rw [h3] at h1
    have h4 : i < xs.length := by omega
    rw [List.getElem?_eq_getElem h4] at h1
    obtain ⟨z, e1, e2, hw⟩ := DataW.trod_int he h1
    simp at e1
    exact ⟨z, by rw [List.getElem?_eq_getElem h2]; simpa using e1, by rw [List.getElem?_eq_getElem h4, e2], hw⟩
  have hz : ∀ (l : List Value) (ys : List (DataW H × List MemPlace)), l.length = ys.length → (∀ i, i < l.length → ∃ z, l[i]? = some (.int k z) ∧ ys[i]? = some (.lit (.int k z), []) ∧ (Lit.int k z).wf = true) →
      ∃ zs : List Int, l = zs.map (Value.int k) ∧ ys = zs.map (fun z => (.lit (.int k z), [])) ∧ ∀ z ∈ zs, (Lit.int k z).wf = true := by
    intro l
    induction l with
    | nil => intro ys hlen _; exact ⟨[], rfl, List.eq_nil_of_length_eq_zero hlen.symm, by simp⟩
    | cons a l ih =>
      intro ys hlen hall
      cases ys with
      | nil => simp at hlen
      | cons y ys =>
        obtain ⟨zs, h1, h2, h3⟩ := ih ys (by simpa using hlen) (fun i hi => by
          have := hall (i + 1) (by simp; omega)
          simpa using this)
        obtain ⟨z, h4, h5, h6⟩ := hall 0 (by simp)
        simp at h4 h5
        exact ⟨z :: zs, by simp [h1, h4], by simp [h2, h5], by
          intro q hq
          rcases List.mem_cons.1 hq with rfl | hq
          · exact h6
          · exact h3 q hq⟩
  obtain ⟨zs, h1, h2, h3⟩ := hz cs.toList xs (by omega) (fun i hi => hel2 i (by omega))
  simp only [Prod.mk.injEq] at hx
  refine ⟨zs, ?_, ?_, ?_, ?_, h3⟩
  · rw [← h1]
  · rw [hx.1, h2, List.map_map]; rfl
  · rw [hx.2, h2]; clear h1 h3 h2 hz; induction zs with
    | nil => rfl
    | cons z zs ih => simp
  · have := congrArg List.length h1
    simp at this
    omega

theorem shut_arr {w : World} {base : Nat} {spare : Nat → Bool} {held : Bool} {t e : TypeId} {n : Nat} {k : IntKind}
    (ht : P.underlying t = some (.array n e)) (he : P.underlying e = some (.int k)) (hc : P.cellsOf e = 1) (hcn : P.cellsOf t = n) {xs : List Int} (hl : xs.length = n) (hw : ∀ z ∈ xs, (Lit.int k z).wf = true) :
    DataW.Trod enc P w base spare held t (.agg (xs.map (Value.int k)).toArray) (.agg (xs.map fun z => .lit (.int k z))) [] := by
  refine ⟨2, ?_⟩
  have e1 : (Value.agg (xs.map (Value.int k)).toArray).cells.toList = xs.map (Value.int k) := rfl
  rw [e1]
  unfold DataW.trod
  rw [ht]
  have hlen : (xs.map (Value.int k)).length = P.cellsOf t := by simp; omega
  have key : ((List.range n).mapM fun i => DataW.trod enc P w base spare held 1 e (((xs.map (Value.int k)).drop (i * P.cellsOf e)).take (P.cellsOf e))) = some ((List.range n).map fun i => (DataW.lit (.int k (xs.getD i 0)), [])) := by
    refine Go.mapM_some_of_forall _ fun i hi => ?_
    have hi' : i < xs.length := by simp at hi; omega
    rw [hc, Nat.mul_one, List.drop_eq_getElem_cons (by simpa using hi')]
    have hwf : (Lit.int k xs[i]).wf = true := hw _ (List.getElem_mem hi')
    simp [DataW.trod, he, hwf, hi']
  have e2 : ((List.range n).map fun i => ((DataW.lit (.int k (xs.getD i 0)), []) : DataW H × List MemPlace)) = xs.map fun z => (DataW.lit (.int k z), []) := by
    apply List.ext_getElem
    · simp; omega
    · intro i h1 h2
      have : i < xs.length := by simpa using h2
      simp [this]
  have e3 : ∀ (o : Option (List (DataW H × List MemPlace))), o = some (xs.map fun z => (DataW.lit (.int k z), [])) → o.map (fun xs => ((.agg (xs.map (·.1)), xs.flatMap (·.2)) : DataW H × List MemPlace)) = some (.agg (xs.map fun z => .lit (.int k z)), []) := by
    intro o ho
    rw [ho]
    simp
  rw [e2] at key
  clear e2
  split
  all_goals first
    | (rename_i heq; injections; done)
    | (rename_i heq _; injections; done)
    | (injections; subst_vars; rw [if_pos hlen]; exact e3 _ key)
end

theorem uV_open {l : List Int} (hl : l.length = 4) (hw : ∀ z ∈ l, (Lit.int .u64 z).wf = true) : ∃ a, a < full ∧ Value.agg (l.map (Value.int .u64)).toArray = uV a := by
  match l, hl with
  | [x0, x1, x2, x3], _ =>
    have wf : ∀ z, (Lit.int .u64 z).wf = true → 0 ≤ z ∧ z < 18446744073709551616 := by
      intro z h
      simp [Lit.wf, IntKind.min, IntKind.max, IntKind.signed, IntKind.bits] at h
      omega
    have h0 := wf x0 (hw x0 (by simp)); have h1 := wf x1 (hw x1 (by simp)); have h2 := wf x2 (hw x2 (by simp)); have h3 := wf x3 (hw x3 (by simp))
    obtain ⟨y0, rfl⟩ := Int.eq_ofNat_of_zero_le h0.1
    obtain ⟨y1, rfl⟩ := Int.eq_ofNat_of_zero_le h1.1
    obtain ⟨y2, rfl⟩ := Int.eq_ofNat_of_zero_le h2.1
    obtain ⟨y3, rfl⟩ := Int.eq_ofNat_of_zero_le h3.1
    have l0 : y0 < 18446744073709551616 := by omega
    have l1 : y1 < 18446744073709551616 := by omega
    have l2 : y2 < 18446744073709551616 := by omega
    have l3 : y3 < 18446744073709551616 := by omega
    have hn := num_lt l0 l1 l2 l3
    exact ⟨num y0 y1 y2 y3, hn, (uV_of l0 l1 l2 l3 (Nat.mod_eq_of_lt hn).symm).symm⟩

theorem wf_u64 {z : Int} (h : (Lit.int .u64 z).wf = true) : 0 ≤ z ∧ z < 18446744073709551616 := by
  simp [Lit.wf, IntKind.min, IntKind.max, IntKind.signed, IntKind.bits] at h
  omega
theorem wf_u32 {z : Int} (h : (Lit.int .u32 z).wf = true) : 0 ≤ z ∧ z < 4294967296 := by
  simp [Lit.wf, IntKind.min, IntKind.max, IntKind.signed, IntKind.bits] at h
  omega
theorem wf_i64 {z : Int} (h : (Lit.int .i64 z).wf = true) : -9223372036854775808 ≤ z ∧ z < 9223372036854775808 := by
  simp [Lit.wf, IntKind.min, IntKind.max, IntKind.signed, IntKind.bits] at h
  omega
end Go.Vm
