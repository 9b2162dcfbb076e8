/- What the cards of signatures want: a signature as an argument. No condition. -/
import Derived.Test.YtphocbfdakjmaaaWp
import Derived.Test.YtphocbfdakjmaaaPart9
set_option maxRecDepth 100000
namespace Go.Vm
open Go Go.ChangeShapes Go.WideShapes Go.ChangeAt Go.RowKit Go.Deep Go.Proofs

section
variable {H : Type} {enc : TypeId × Value → H} {P : Program}

theorem open_sg {w : World} {base : Nat} {spare : Nat → Bool} {held : Bool} {r : Reach} {b0 : Nat} {v : Value} {d : DataW H} {ps : List MemPlace}
    (hval : Value.okWide Try.prog w r b0 40 v) (h : DataW.Trod enc Try.prog w base spare held 40 v d ps) :
    ∃ (x y : Nat) (b : Int), ((x < full ∧ y < full) ∧ (Lit.int .i64 b).wf = true) ∧ v = sgV x y b ∧ ps = [] ∧ ∀ (w' : World) (base' : Nat) (spare' : Nat → Bool) (held' : Bool), DataW.Trod enc Try.prog w' base' spare' held' 40 v d [] := by
  have ht : Try.prog.underlying 40 = some (.struct (Try.prog.fieldsOf 40)) := by
    simp [Program.fieldsOf, Try.underlying40]
  have hfs : ∃ f0 f1 f2 : Field, Try.prog.fieldsOf 40 = #[f0, f1, f2] ∧ (f0.type = 24 ∧ f0.offset = 0) ∧ (f1.type = 24 ∧ f1.offset = 4) ∧ (f2.type = 3 ∧ f2.offset = 8) := by
    simp only [Program.fieldsOf, Try.underlying40]
    exact ⟨_, _, _, rfl, ⟨rfl, rfl⟩, ⟨rfl, rfl⟩, ⟨rfl, rfl⟩⟩
  obtain ⟨f0, f1, f2, he, ⟨a1, a2⟩, ⟨b1, b2⟩, ⟨c1, c2⟩⟩ := hfs
  rw [he] at ht
  have cU : Try.prog.cellsOf 24 = 4 := by kernel_rfl
  have cE : Try.prog.cellsOf 22 = 1 := by kernel_rfl
  have cB : Try.prog.cellsOf 3 = 1 := by kernel_rfl
  have cP : Try.prog.cellsOf 40 = 9 := by kernel_rfl
  obtain ⟨cs, rfl, hsz⟩ := okWide_struct ht hval
  obtain ⟨fuel, hf⟩ := h
  obtain ⟨y0, y1, y2, n, hx, hl, h0, h1, h2⟩ := trod_struct3 ht hf
  have e0 : (Value.agg cs).cells.toList = cs.toList := rfl
  rw [e0] at hl h0 h1 h2
  rw [a1, a2, cU] at h0
  rw [b1, b2, cU] at h1
  rw [c1, c2, cB] at h2
  rw [cP] at hl
  obtain ⟨xs, x1, x2, x3, x4⟩ := arr_trod Try.underlying24 Try.underlying22 cE cU h0
  obtain ⟨zs, z1, z2, z3, z4⟩ := arr_trod Try.underlying24 Try.underlying22 cE cU h1
  obtain ⟨b, t1, t2, t3⟩ := DataW.trod_int Try.underlying3 h2
  obtain ⟨x, hxl, ex⟩ := list_uV x3 x4
  obtain ⟨y, hyl, ey⟩ := list_uV z3 z4
  have hcs : cs.toList = xs.map (Value.int .u64) ++ (zs.map (Value.int .u64) ++ [.int .i64 b]) := by
    rw [← x1, ← z1, ← t1, List.drop_zero]
    have g1 := List.take_append_drop 4 cs.toList
    have g2 := List.take_append_drop 4 (cs.toList.drop 4)
    rw [List.drop_drop] at g2
    have g3 : (cs.toList.drop (4 + 4)).take 1 = cs.toList.drop (4 + 4) := List.take_of_length_le (by rw [List.length_drop, hl]; omega)
    rw [g3, g2, g1]
  simp only [Prod.mk.injEq] at hx
  refine ⟨x, y, b, ⟨⟨hxl, hyl⟩, t3⟩, ?_, ?_, ?_⟩
  · have g : cs = (sgC x y b).toArray := by
      apply Array.toList_inj.1
      rw [hcs, ex, ey]
      rfl
    rw [g]; rfl
  · rw [hx.2, x2, z2, t2]; rfl
  · intro w' base' spare' held'
    obtain ⟨n0, k0⟩ := shut_arr (enc := enc) (w := w') (base := base') (spare := spare') (held := held') Try.underlying24 Try.underlying22 cE cU x3 x4
    obtain ⟨n1, k1⟩ := shut_arr (enc := enc) (w := w') (base := base') (spare := spare') (held := held') Try.underlying24 Try.underlying22 cE cU z3 z4
    obtain ⟨n2, k2⟩ := shut_int (enc := enc) (w := w') (base := base') (spare := spare') (held := held') Try.underlying3 t3
    have k0' : DataW.trod enc Try.prog w' base' spare' held' n0 24 ((cs.toList.drop 0).take 4) = some y0 := by
      rw [x1, x2]; exact k0
    have k1' : DataW.trod enc Try.prog w' base' spare' held' n1 24 ((cs.toList.drop 4).take 4) = some y1 := by
      rw [z1, z2]; exact k1
    have k2' : DataW.trod enc Try.prog w' base' spare' held' n2 3 ((cs.toList.drop 8).take 1) = some y2 := by
      rw [t1, t2]; exact k2
    have ts := trod_struct3_mk (enc := enc) (w := w') (base := base') (spare := spare') (held := held') (n := n0 + n1 + n2) (cs := cs.toList) (y0 := y0) (y1 := y1) (y2 := y2) ht (by rw [hl, cP])
      (by rw [a1, a2, cU]; exact DataW.trod_le (show n0 ≤ n0 + n1 + n2 by omega) k0') (by rw [b1, b2, cU]; exact DataW.trod_le (show n1 ≤ n0 + n1 + n2 by omega) k1') (by rw [c1, c2, cB]; exact DataW.trod_le (show n2 ≤ n0 + n1 + n2 by omega) k2')
    refine ⟨n0 + n1 + n2 + 1, ?_⟩
    rw [e0, ts, hx.1, x2, z2, t2]
    rfl

end
end Go.Vm
