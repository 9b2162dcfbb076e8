/- What the card of PointAdds wants: points as arguments; five arguments. No condition. -/
import Derived.Test.YtphocbfdakjmaaaW
import Derived.Test.YtphocbfdakjmaaaPart5
import Derived.Deep.Strs
set_option maxRecDepth 100000
namespace Go.Vm
open Go Go.ChangeShapes Go.WideShapes Go.ChangeAt Go.RowKit Go.Deep Go.Proofs

section
variable {H : Type} {enc : TypeId × Value → H} {P : Program}

theorem arr_trod {w : World} {base : Nat} {spare : Nat → Bool} {held : Bool} {fuel : Nat} {t e : TypeId} {n : Nat} {k : IntKind} {cs : List Value} {x : DataW H × List MemPlace}
    (ht : P.underlying t = some (.array n e)) (he : P.underlying e = some (.int k)) (hc : P.cellsOf e = 1) (hcn : P.cellsOf t = n) (hf : DataW.trod enc P w base spare held fuel t cs = some x) :
    ∃ xs : List Int, cs = xs.map (Value.int k) ∧ x = (.agg (xs.map fun z => .lit (.int k z)), []) ∧ xs.length = n ∧ ∀ z ∈ xs, (Lit.int k z).wf = true := by
  obtain ⟨xs, m, _, hx, hl, hxl, hel⟩ := DataW.trod_array ht hf
  have hel2 : ∀ i, i < n → ∃ z, cs[i]? = some (.int k z) ∧ xs[i]? = some (.lit (.int k z), []) ∧ (Lit.int k z).wf = true := by
    intro i hi
    have h1 := hel i hi
    rw [hc, Nat.mul_one] at h1
    have h2 : i < cs.length := by omega
    have h3 : (cs.drop i).take 1 = [cs[i]] := by
      rw [List.drop_eq_getElem_cons h2]; rfl
    rw [h3] at h1
    have h4 : i < xs.length := by omega
    rw [List.getElem?_eq_getElem h4] at h1
    obtain ⟨z, e1, e2, hw⟩ := DataW.trod_int he h1
    simp at e1
    exact ⟨z, by rw [List.getElem?_eq_getElem h2]; simpa using e1, by rw [List.getElem?_eq_getElem h4, e2], hw⟩
  have hz : ∀ (l : List Value) (ys : List (DataW H × List MemPlace)), l.length = ys.length → (∀ i, i < l.length → ∃ z, l[i]? = some (.int k z) ∧ ys[i]? = some (.lit (.int k z), []) ∧ (Lit.int k z).wf = true) →
      ∃ zs : List Int, l = zs.map (Value.int k) ∧ ys = zs.map (fun z => (.lit (.int k z), [])) ∧ ∀ z ∈ zs, (Lit.int k z).wf = true := by
    intro l
    induction l with
    | nil => intro ys hlen _; exact ⟨[], rfl, List.eq_nil_of_length_eq_zero hlen.symm, by simp⟩
    | cons a l ih =>
      intro ys hlen hall
      cases ys with
      | nil => simp at hlen
      | cons y ys =>
        obtain ⟨zs, h1, h2, h3⟩ := ih ys (by simpa using hlen) (fun i hi => by
          have := hall (i + 1) (by simp; omega)
          simpa using this)
        obtain ⟨z, h4, h5, h6⟩ := hall 0 (by simp)
        simp at h4 h5
        exact ⟨z :: zs, by simp [h1, h4], by simp [h2, h5], by
          intro q hq
          rcases List.mem_cons.1 hq with rfl | hq
          · exact h6
          · exact h3 q hq⟩
  obtain ⟨zs, h1, h2, h3⟩ := hz cs xs (by omega) (fun i hi => hel2 i (by omega))
  refine ⟨zs, h1, ?_, ?_, h3⟩
  · rw [hx, h2, List.map_map]
    congr 1
    clear h1 h3 h2 hz
    induction zs with
    | nil => rfl
    | cons z zs ih => simp
  · have := congrArg List.length h1
    simp at this
    omega

theorem list_uV {xs : List Int} (hl : xs.length = 4) (hw : ∀ z ∈ xs, (Lit.int .u64 z).wf = true) : ∃ a, a < full ∧ xs.map (Value.int .u64) = [.int .u64 (w0 a : Nat), .int .u64 (w1 a : Nat), .int .u64 (w2 a : Nat), .int .u64 (w3 a : Nat)] := by
  obtain ⟨a, ha, e⟩ := uV_open hl hw
  refine ⟨a, ha, ?_⟩
  have h1 := congrArg (fun v : Value => v.cells.toList) e
  exact h1

theorem open_pt {w : World} {base : Nat} {spare : Nat → Bool} {held : Bool} {r : Reach} {b0 : Nat} {v : Value} {d : DataW H} {ps : List MemPlace}
    (hval : Value.okWide Try.prog w r b0 26 v) (h : DataW.Trod enc Try.prog w base spare held 26 v d ps) :
    ∃ (x y : Nat) (b : Bool), (x < full ∧ y < full) ∧ v = ptV x y b ∧ ps = [] ∧ ∀ (w' : World) (base' : Nat) (spare' : Nat → Bool) (held' : Bool), DataW.Trod enc Try.prog w' base' spare' held' 26 v d [] := by
  have ht : Try.prog.underlying 26 = some (.struct (Try.prog.fieldsOf 26)) := by
    simp [Program.fieldsOf, Try.underlying26]
  have hfs : ∃ f0 f1 f2 : Field, Try.prog.fieldsOf 26 = #[f0, f1, f2] ∧ (f0.type = 24 ∧ f0.offset = 0) ∧ (f1.type = 24 ∧ f1.offset = 4) ∧ (f2.type = 4 ∧ f2.offset = 8) := by
    simp only [Program.fieldsOf, Try.underlying26]
    exact ⟨_, _, _, rfl, ⟨rfl, rfl⟩, ⟨rfl, rfl⟩, ⟨rfl, rfl⟩⟩
  obtain ⟨f0, f1, f2, he, ⟨a1, a2⟩, ⟨b1, b2⟩, ⟨c1, c2⟩⟩ := hfs
  rw [he] at ht
  have cU : Try.prog.cellsOf 24 = 4 := by kernel_rfl
  have cE : Try.prog.cellsOf 22 = 1 := by kernel_rfl
  have cB : Try.prog.cellsOf 4 = 1 := by kernel_rfl
  have cP : Try.prog.cellsOf 26 = 9 := by kernel_rfl
  obtain ⟨cs, rfl, hsz⟩ := okWide_struct ht hval
  obtain ⟨fuel, hf⟩ := h
  obtain ⟨y0, y1, y2, n, hx, hl, h0, h1, h2⟩ := trod_struct3 ht hf
  have e0 : (Value.agg cs).cells.toList = cs.toList := rfl
  rw [e0] at hl h0 h1 h2
  rw [a1, a2, cU] at h0
  rw [b1, b2, cU] at h1
  rw [c1, c2, cB] at h2
  rw [cP] at hl
  obtain ⟨xs, x1, x2, x3, x4⟩ := arr_trod Try.underlying24 Try.underlying22 cE cU h0
  obtain ⟨zs, z1, z2, z3, z4⟩ := arr_trod Try.underlying24 Try.underlying22 cE cU h1
  obtain ⟨b, t1, t2⟩ := DataW.trod_bool Try.underlying4 h2
  obtain ⟨x, hxl, ex⟩ := list_uV x3 x4
  obtain ⟨y, hyl, ey⟩ := list_uV z3 z4
  have hcs : cs.toList = xs.map (Value.int .u64) ++ (zs.map (Value.int .u64) ++ [.bool b]) := by
    rw [← x1, ← z1, ← t1, List.drop_zero]
    have g1 := List.take_append_drop 4 cs.toList
    have g2 := List.take_append_drop 4 (cs.toList.drop 4)
    rw [List.drop_drop] at g2
    have g3 : (cs.toList.drop (4 + 4)).take 1 = cs.toList.drop (4 + 4) := List.take_of_length_le (by rw [List.length_drop, hl]; omega)
    rw [g3, g2, g1]
  simp only [Prod.mk.injEq] at hx
  refine ⟨x, y, b, ⟨hxl, hyl⟩, ?_, ?_, ?_⟩
  · have g : cs = (ptC x y b).toArray := by
      apply Array.toList_inj.1
      rw [hcs, ex, ey]
      rfl
    rw [g]; rfl
  · rw [hx.2, x2, z2, t2]; rfl
  · intro w' base' spare' held'
    obtain ⟨n0, k0⟩ := shut_arr (enc := enc) (w := w') (base := base') (spare := spare') (held := held') Try.underlying24 Try.underlying22 cE cU x3 x4
    obtain ⟨n1, k1⟩ := shut_arr (enc := enc) (w := w') (base := base') (spare := spare') (held := held') Try.underlying24 Try.underlying22 cE cU z3 z4
    obtain ⟨n2, k2⟩ := Go.RowKit.shut_bool (enc := enc) (w := w') (base := base') (spare := spare') (held := held') Try.underlying4 b
    have k0' : DataW.trod enc Try.prog w' base' spare' held' n0 24 ((cs.toList.drop 0).take 4) = some y0 := by
      rw [x1, x2]; exact k0
    have k1' : DataW.trod enc Try.prog w' base' spare' held' n1 24 ((cs.toList.drop 4).take 4) = some y1 := by
      rw [z1, z2]; exact k1
    have k2' : DataW.trod enc Try.prog w' base' spare' held' n2 4 ((cs.toList.drop 8).take 1) = some y2 := by
      rw [t1, t2]; exact k2
    have ts := trod_struct3_mk (enc := enc) (w := w') (base := base') (spare := spare') (held := held') (n := n0 + n1 + n2) (cs := cs.toList) (y0 := y0) (y1 := y1) (y2 := y2) ht (by rw [hl, cP])
      (by rw [a1, a2, cU]; exact DataW.trod_le (show n0 ≤ n0 + n1 + n2 by omega) k0') (by rw [b1, b2, cU]; exact DataW.trod_le (show n1 ≤ n0 + n1 + n2 by omega) k1') (by rw [c1, c2, cB]; exact DataW.trod_le (show n2 ≤ n0 + n1 + n2 by omega) k2')
    refine ⟨n0 + n1 + n2 + 1, ?_⟩
    rw [e0, ts, hx.1, x2, z2, t2]
    rfl

variable {w : World} {base : Nat} {spare : Nat → Bool} {held : Bool}
theorem trodAll_five {t t' t'' t3 t4 : TypeId} {args : Array Value} {ds : List (DataW H)} {ps : List MemPlace} (h : DataW.TrodAll enc P w base spare held [t, t', t'', t3, t4] args.toList ds ps) :
    ∃ v v' v'' v3 v4 d d' d'' d3 d4 p p' p'' p3 p4, args = #[v, v', v'', v3, v4] ∧ ds = [d, d', d'', d3, d4] ∧ ps = p ++ p' ++ p'' ++ p3 ++ p4 ∧ DataW.Trod enc P w base spare held t v d p ∧ DataW.Trod enc P w base spare held t' v' d' p' ∧ DataW.Trod enc P w base spare held t'' v'' d'' p'' ∧ DataW.Trod enc P w base spare held t3 v3 d3 p3 ∧ DataW.Trod enc P w base spare held t4 v4 d4 p4 := by
  obtain ⟨v, vs, d, ds', p, q, hargs, rfl, rfl, hd, hrest⟩ := trodAll_cons h
  obtain ⟨v', vs', d', ds'', p', q', rfl, rfl, rfl, hd', hrest'⟩ := trodAll_cons hrest
  obtain ⟨v'', vs'', d'', ds''', p'', q'', rfl, rfl, rfl, hd'', hrest''⟩ := trodAll_cons hrest'
  obtain ⟨v3, vs3, d3, ds3, p3, q3, rfl, rfl, rfl, hd3, hrest3⟩ := trodAll_cons hrest''
  obtain ⟨v4, vs4, d4, ds4, p4, q4, rfl, rfl, rfl, hd4, hrest4⟩ := trodAll_cons hrest3
  obtain ⟨rfl, rfl, rfl⟩ := trodAll_nil hrest4
  exact ⟨v, v', v'', v3, v4, d, d', d'', d3, d4, p, p', p'', p3, p4, by cases args; simp_all, rfl, by simp, hd, hd', hd'', hd3, hd4⟩
theorem trodAll_mk5 {t t' t'' t3 t4 : TypeId} {v v' v'' v3 v4 : Value} {d d' d'' d3 d4 : DataW H} {p p' p'' p3 p4 : List MemPlace} (h : DataW.Trod enc P w base spare held t v d p) (h' : DataW.Trod enc P w base spare held t' v' d' p')
    (h'' : DataW.Trod enc P w base spare held t'' v'' d'' p'') (h3 : DataW.Trod enc P w base spare held t3 v3 d3 p3) (h4 : DataW.Trod enc P w base spare held t4 v4 d4 p4) : DataW.TrodAll enc P w base spare held [t, t', t'', t3, t4] [v, v', v'', v3, v4] [d, d', d'', d3, d4] (p ++ (p' ++ (p'' ++ (p3 ++ p4)))) := ⟨p, p' ++ (p'' ++ (p3 ++ p4)), h, trodAll_mk4 h' h'' h3 h4, rfl⟩
end
end Go.Vm
