/- Equality of arrays of numbers. No condition. -/
import Derived.Test.YtfalpjjalbclcaaTy
import Derived.ChangeKeysEq
set_option maxRecDepth 100000
set_option linter.unusedSimpArgs false
set_option linter.unusedVariables false
namespace Go.Vm
open Go Go.RowKit Go.Proofs

theorem run_eqItems_int {P : Program} {e : TypeId} {k : IntKind} (hp : P.plainKey e = true) (hu : P.underlying e = some (.int k)) (xs ys : List Int) (d : Nat) (w : World) : ∀ is : List Nat,
    (∀ j ∈ is, j < xs.length ∧ j < ys.length) →
    (Op.eqItems (d + 1) e 1 (xs.map (Value.int k)).toArray (ys.map (Value.int k)).toArray is).run P w = .ok (is.all fun j => xs.getD j 0 == ys.getD j 0) w
  | [], _ => by simp [Op.eqItems]
  | j :: is, h => by
    have hj := h j (by simp)
    have h1 := run_part_plain (P := P) w hp (xs := (xs.map (Value.int k)).toArray) (off := j * 1) (v := .int k (xs.getD j 0)) (by simp [hj.1])
    have h2 := run_part_plain (P := P) w hp (xs := (ys.map (Value.int k)).toArray) (off := j * 1) (v := .int k (ys.getD j 0)) (by simp [hj.2])
    have h3 := run_equalIn_int (P := P) w d e k k (xs.getD j 0) (ys.getD j 0) hu
    have ih := run_eqItems_int hp hu xs ys d w is (fun j hj => h j (by simp [hj]))
    simp only [Op.eqItems, Sem.run_bind, h1, h2, h3, Result.andThen_ok, List.all_cons]
    cases hb : (xs.getD j 0 == ys.getD j 0)
    · simp
    · simpa using ih

theorem all_range_eq (xs ys : List Int) (n : Nat) (hx : xs.length = n) (hy : ys.length = n) : ((List.range n).all fun j => xs.getD j 0 == ys.getD j 0) = (xs == ys) := by
  rw [Bool.eq_iff_iff]
  simp only [List.all_eq_true, List.mem_range, beq_iff_eq]
  constructor
  · intro h
    apply List.ext_getElem (by omega)
    intro i h1 h2
    have := h i (by omega)
    simpa [h1, h2] using this
  · rintro rfl j hj
    rfl

theorem eqV_ints {P : Program} {t e : TypeId} {n : Nat} {k : IntKind} (hu : P.underlying t = some (.array n e)) (hc : P.cellsOf e = 1) (hp : P.plainKey e = true) (hue : P.underlying e = some (.int k))
    (xs ys : List Int) (hx : xs.length = n) (hy : ys.length = n) : eqV P t (xs.map (Value.int k)).toArray (ys.map (Value.int k)).toArray = some (xs == ys) := by
  apply eqV_of
  intro w
  obtain ⟨i, hi⟩ := info_of_underlying hue
  have h1 := run_equalIn_array (P := P) w 9999 (xs.map (Value.int k)).toArray (ys.map (Value.int k)).toArray hu hi
  have e1 : Op.equal t (.agg (xs.map (Value.int k)).toArray) (.agg (ys.map (Value.int k)).toArray) = Op.equalIn (9999 + 1) t (.agg (xs.map (Value.int k)).toArray) (.agg (ys.map (Value.int k)).toArray) := rfl
  rw [e1, h1, hc, run_eqItems_int hp hue xs ys 9998 w (List.range n) (fun j hj => by simp at hj; omega), all_range_eq xs ys n hx hy]

end Go.Vm
