/- Loops at whose rounds' ends less is known. No condition. -/
import Derived.Test.YtfalpjjalbclcaaU
set_option maxRecDepth 100000
set_option linter.unusedSimpArgs false
set_option linter.unusedVariables false
namespace Go.Vm
open Go Go.RowKit

/-! ### A slice over a variable's block that is led to by nothing else is a list of values -/
theorem Rel.toVecW {n : Nat} {w0 w : World} {ρ : Nat → Option Nat} {st : St} {t' : List (Nat × AV)} {m' : List (Nat × Blk)} {a : Act} (h : Rel n w0 ρ st.get st.mem a w) (j : Nat) (fr : Bool) (xs : List Value)
    (hs : Sub st ⟨t', m'⟩) {k off len : Nat} {blk : Blk} (h1 : st.get j = .sl k blk.ver off len) (h2 : st.mem k = some blk) (h3 : off + len ≤ blk.cells.length) (h4 : xs = (blk.cells.drop off).take len) (h5 : look m' k = none) :
    Rel n w0 (fun k => if (look m' k).isSome then ρ k else none) (St.get ⟨(j, .vec fr xs) :: t', m'⟩) (St.mem ⟨(j, .vec fr xs) :: t', m'⟩) a w := by
  have hr := h.sub hs
  refine ⟨hr.defers, hr.size, hr.below, hr.keys, fun i => ?_⟩
  by_cases e : j = i
  · subst e
    have e1 : St.get ⟨(j, .vec fr xs) :: t', m'⟩ j = .vec fr xs := by simp [St.get, lookA]
    rw [e1]
    have hj := h.tmps j
    rw [h1] at hj
    obtain ⟨blk', hm', _, hp⟩ := hj
    rw [h2] at hm'; cases hm'
    have hsl := hp rfl
    have hv := SlAt.vec h.keys h2 hsl h3
    rw [← h4] at hv
    rcases hv with hv | ⟨b, o, cap, c, e', fz, hv, hc, hg, h6⟩
    · exact .inl hv
    · refine .inr ⟨b, o, cap, c, e', fz, hv, hc, ⟨fun _ => hg, fun k' hk' => ?_⟩, h6⟩
      simp only at hk'
      split at hk'
      · rename_i hsome
        rcases hsl with ⟨_, _, _, hnil⟩ | ⟨b', cap', c', e'', fz', hb', hv', _⟩
        · rw [hnil] at hv; cases hv
        · rw [hv'] at hv
          simp only [Value.slice.injEq, Option.some.injEq, Addr.mk.injEq] at hv
          have hbb : b' = b := hv.1.1
          rw [hbb] at hb'
          have := h.keys.inj k k' b hb' hk'
          subst this
          rw [h5] at hsome
          cases hsome
      · cases hk'
  · have e1 : St.get ⟨(j, .vec fr xs) :: t', m'⟩ i = St.get ⟨t', m'⟩ i := by simp [St.get, lookA, e]
    rw [e1]
    exact hr.tmps i

theorem VT_toVecW {P : Program} {n : Nat} {W : World} {c : SC} {Q : Exit → St → Prop} {st : St} (j : Nat) (fr : Bool) (xs : List Value) (t' : List (Nat × AV)) (m' : List (Nat × Blk))
    (hs : Sub st ⟨t', m'⟩) {k off len : Nat} {blk : Blk} (h1 : st.get j = .sl k blk.ver off len) (h2 : st.mem k = some blk) (h3 : off + len ≤ blk.cells.length) (h4 : xs = (blk.cells.drop off).take len) (h5 : look m' k = none)
    (h : VT P n W c Q ⟨(j, .vec fr xs) :: t', m'⟩) : VT P n W c Q st := by
  rw [VT_eq] at *
  intro T c0 hc0 hd ρ a w hr
  exact h T c0 hc0 hd _ a w (hr.toVecW j fr xs hs h1 h2 h3 h4 h5)

/-- what st' says is known where st is -/
def Wk (st st' : St) : Prop := ∀ n w0 ρ a w, Rel n w0 ρ st.get st.mem a w → ∃ ρ', Rel n w0 ρ' st'.get st'.mem a w
theorem Wk.of_sub {st st' : St} (h : Sub st st') : Wk st st' := fun _ _ _ _ _ hr => ⟨_, hr.sub h⟩
theorem Wk.toVec {st : St} (j : Nat) (fr : Bool) (xs : List Value) (t' : List (Nat × AV)) (m' : List (Nat × Blk))
    (hs : Sub st ⟨t', m'⟩) {k off len : Nat} {blk : Blk} (h1 : st.get j = .sl k blk.ver off len) (h2 : st.mem k = some blk) (h3 : off + len ≤ blk.cells.length) (h4 : xs = (blk.cells.drop off).take len) (h5 : look m' k = none) : Wk st ⟨(j, .vec fr xs) :: t', m'⟩ :=
  fun _ _ _ _ _ hr => ⟨_, hr.toVecW j fr xs hs h1 h2 h3 h4 h5⟩
def backW {α : Type} (S : α → St) (inv : α → Prop) (μ : α → Nat) (x : α) (st' : St) : Prop := ∃ x', inv x' ∧ μ x' < μ x ∧ Wk st' (S x')
@[congr] theorem backW_cg {α : Type} {S : α → St} {inv : α → Prop} {μ : α → Nat} {x : α} {st st' : St} (h : st = st') : backW S inv μ x st = backW S inv μ x st' := by rw [h]
theorem VT_loopW {P : Program} {Γ : Env} {n : Nat} {W : World} (hΓ : Γ.ok P) (hm : P.follows .mixedOrders = true) {c : SC} {Q : Exit → St → Prop} {st : St} {α : Type} (S : α → St) (inv : α → Prop) (μ : α → Nat) (x0 : α) (h0 : Wk st (S x0)) (hi : inv x0)
    (round : ∀ x, inv x → vx P Γ n W c (seqE (backW S inv μ x) Q) (S x)) : VT P n W (.loop c) Q st := by
  rw [VT_eq]
  rw [vx_eq] at round
  intro T c0 hc0 hd ρ a w hr
  obtain ⟨c1, rfl, rfl⟩ := slim_loop hc0
  obtain ⟨ρ0, hr0⟩ := h0 _ _ _ _ _ hr
  refine wp_loop_ghost (fun k a w => ∃ x ρ, inv x ∧ μ x = k ∧ Rel n W ρ (S x).get (S x).mem a w) (μ x0) ⟨x0, _, hi, rfl, hr0⟩ ?_
  rintro k a w ⟨x, ρ, hx, rfl, hr⟩
  refine wp_mono (vw_sound hΓ hm T c1 _ _ hd (round x hx) ρ a w hr) fun e a' w' ⟨hok, ρ', st', hr', hq⟩ => ?_
  cases e with
  | normal =>
    obtain ⟨x', hx', hlt, hs⟩ := hq
    obtain ⟨ρ1, hr1⟩ := hs _ _ _ _ _ hr'
    exact ⟨μ x', hlt, x', _, hx', rfl, hr1⟩
  | _ => exact ⟨hok, ρ', st', hr', hq⟩

/-- integers as values -/
noncomputable def iL : List Nat → List Value := Classical.choose (⟨fun l => l.map fun (x : Nat) => Value.int .i64 ((x : Nat) : Int), rfl⟩ : ∃ y : List Nat → List Value, y = fun l => l.map fun (x : Nat) => Value.int .i64 ((x : Nat) : Int))
theorem iL_eq : iL = fun l => l.map fun (x : Nat) => Value.int .i64 ((x : Nat) : Int) := Classical.choose_spec (⟨fun l => l.map fun (x : Nat) => Value.int .i64 ((x : Nat) : Int), rfl⟩ : ∃ y : List Nat → List Value, y = fun l => l.map fun (x : Nat) => Value.int .i64 ((x : Nat) : Int))
theorem iL_len (l : List Nat) : (iL l).length = l.length := by rw [iL_eq]; simp
theorem iL_get (l : List Nat) (i : Nat) (h : i < l.length) : (iL l)[i]?.getD undef = .int .i64 ((l[i]?.getD 0 : Nat) : Int) := by
  rw [iL_eq]; simp [h]
theorem iL_snoc (l : List Nat) (x : Nat) : iL l ++ [.int .i64 (x : Int)] = iL (l ++ [x]) := by rw [iL_eq]; simp
theorem iL_all (l : List Nat) : (iL l).all Value.oneCell' = true := by
  rw [iL_eq]; simp [Value.oneCell']
theorem iL_nil : iL [] = [] := by rw [iL_eq]; rfl
theorem iL_one (x : Nat) : iL [x] = [.int .i64 (x : Int)] := by rw [iL_eq]; rfl
theorem iL_drop (l : List Nat) (k : Nat) : (iL l).drop k = iL (l.drop k) := by rw [iL_eq]; simp
theorem iL_take (l : List Nat) (k : Nat) : (iL l).take k = iL (l.take k) := by rw [iL_eq]; simp
theorem iL_inj {l l' : List Nat} (h : iL l = iL l') : l = l' := by
  rw [iL_eq] at h
  simp only at h
  induction l generalizing l' with
  | nil => cases l' with
    | nil => rfl
    | cons => cases h
  | cons x l ih => cases l' with
    | nil => cases h
    | cons y l' =>
      simp only [List.map_cons, List.cons.injEq, Value.int.injEq, true_and] at h
      rw [ih h.2]
      congr 1
      omega
noncomputable def unI (xs : List Value) : Option (List Nat) :=
  open Classical in
  if h : ∃ l, xs = iL l then some h.choose else none
theorem unI_iL (l : List Nat) : unI (iL l) = some l := by
  unfold unI
  have h : ∃ l', iL l = iL l' := ⟨l, rfl⟩
  rw [dif_pos h]
  exact congrArg some (iL_inj h.choose_spec).symm
theorem unI_some {xs : List Value} {l : List Nat} (h : unI xs = some l) : xs = iL l := by
  unfold unI at h
  split at h
  · rename_i h'
    cases h
    exact h'.choose_spec
  · cases h
/-- all below a bound -/
noncomputable def blw : List Nat → Bool := Classical.choose (⟨fun l => l.all (fun x => decide (x < 65536)), rfl⟩ : ∃ y : List Nat → Bool, y = fun l => l.all (fun x => decide (x < 65536)))
theorem blw_eq : blw = fun l => l.all (fun x => decide (x < 65536)) := Classical.choose_spec (⟨fun l => l.all (fun x => decide (x < 65536)), rfl⟩ : ∃ y : List Nat → Bool, y = fun l => l.all (fun x => decide (x < 65536)))
theorem blw_iff (l : List Nat) : blw l = true ↔ ∀ x ∈ l, x < 65536 := by rw [blw_eq]; simp
theorem blw_get {l : List Nat} (h : blw l = true) (i : Nat) : l[i]?.getD 0 < 65536 := by
  rw [blw_iff] at h
  by_cases hi : i < l.length
  · rw [List.getElem?_eq_getElem hi]; exact h _ (List.getElem_mem hi)
  · rw [List.getElem?_eq_none (by omega)]; simp
end Go.Vm
