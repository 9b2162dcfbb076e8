/- Points as values; their equality. No condition. -/
import Derived.Test.YtcbcmfmcpdimkaaQ
import Derived.Test.YtcbcmfmcpdimkaaM
import Derived.Laws.StructEq
set_option maxRecDepth 100000
set_option linter.unusedSimpArgs false
set_option linter.unusedVariables false
namespace Go.Vm
open Go Go.RowKit Go.Proofs

noncomputable def ptC (x y : Nat) (b : Bool) : List Value := [.int .u64 (w0 x : Nat), .int .u64 (w1 x : Nat), .int .u64 (w2 x : Nat), .int .u64 (w3 x : Nat), .int .u64 (w0 y : Nat), .int .u64 (w1 y : Nat), .int .u64 (w2 y : Nat), .int .u64 (w3 y : Nat), .bool b]
theorem run_eqU (d : Nat) (a b : Nat) (w : World) : (Op.equalIn (d + 2) 24 (uV a) (uV b)).run Try.prog w = .ok (eqU a b) w := by
  have hue := Try.underlying22
  obtain ⟨i, hi⟩ := info_of_underlying hue
  have h1 := run_equalIn_array (P := Try.prog) w (d + 1) (([(w0 a : Int), (w1 a : Int), (w2 a : Int), (w3 a : Int)]).map (Value.int .u64)).toArray (([(w0 b : Int), (w1 b : Int), (w2 b : Int), (w3 b : Int)]).map (Value.int .u64)).toArray Try.underlying24 hi
  have e1 : Op.equalIn (d + 2) 24 (uV a) (uV b) = Op.equalIn (d + 1 + 1) 24 (.agg (([(w0 a : Int), (w1 a : Int), (w2 a : Int), (w3 a : Int)]).map (Value.int .u64)).toArray) (.agg (([(w0 b : Int), (w1 b : Int), (w2 b : Int), (w3 b : Int)]).map (Value.int .u64)).toArray) := rfl
  have hc : Try.prog.cellsOf 22 = 1 := by kernel_rfl
  rw [e1, h1, hc, run_eqItems_int (by kernel_rfl) hue _ _ d w (List.range 4) (fun j hj => by simp at hj; exact ⟨hj, hj⟩), all_range_eq _ _ 4 rfl rfl, words_inj]
theorem part_of {t : TypeId} {cs : Array Value} {off : Nat} {v : Value} (h : partK Try.prog t cs off (fun x => x = v)) (w : World) : (part t cs off).run Try.prog w = .ok v w := by
  obtain ⟨u, rfl, hu⟩ := partK_sound h
  exact hu w
theorem part_x (x y : Nat) (b : Bool) : partK Try.prog 24 (ptC x y b).toArray 0 (fun v => v = uV x) := by
  unfold partK
  rw [g_24, s_24]
  rfl
theorem part_y (x y : Nat) (b : Bool) : partK Try.prog 24 (ptC x y b).toArray 4 (fun v => v = uV y) := by
  unfold partK
  rw [g_24, s_24]
  rfl
theorem part_b (x y : Nat) (b : Bool) : partK Try.prog 4 (ptC x y b).toArray 8 (fun v => v = .bool b) := by
  unfold partK
  rw [g_4]
  exact ⟨by show 8 < 9; omega, rfl⟩
theorem eqV_pt (x y x' y' : Nat) (b b' : Bool) : eqV Try.prog 26 (ptC x y b).toArray (ptC x' y' b').toArray = some (eqU x x' && (eqU y y' && (b == b'))) := by
  apply eqV_of
  intro w
  have ht : Try.prog.underlying 26 = some (.struct (Try.prog.fieldsOf 26)) := by
    simp [Program.fieldsOf, Try.underlying26]
  have hp : Try.prog.stoodInHeld 26 = false := by kernel_rfl
  have e1 : Op.equal 26 (.agg (ptC x y b).toArray) (.agg (ptC x' y' b').toArray) = Op.equalIn (9999 + 1) 26 (.agg (ptC x y b).toArray) (.agg (ptC x' y' b').toArray) := rfl
  rw [e1, run_equalIn_struct w 9999 _ _ _ ht hp]
  have hf : ∃ f1 f2 f3 : Field, (Try.prog.fieldsOf 26).toList = [f1, f2, f3] ∧ (f1.name ≠ "_" ∧ f1.type = 24 ∧ f1.offset = 0) ∧ (f2.name ≠ "_" ∧ f2.type = 24 ∧ f2.offset = 4) ∧ (f3.name ≠ "_" ∧ f3.type = 4 ∧ f3.offset = 8) := by
    simp only [Program.fieldsOf, Try.underlying26]
    exact ⟨_, _, _, rfl, ⟨by decide, rfl, rfl⟩, ⟨by decide, rfl, rfl⟩, ⟨by decide, rfl, rfl⟩⟩
  obtain ⟨f1, f2, f3, hl, ⟨a1, a2, a3⟩, ⟨b1, b2, b3⟩, ⟨c1, c2, c3⟩⟩ := hf
  rw [hl]
  simp only [Op.eqFields, if_pos a1, if_pos b1, if_pos c1, a2, a3, b2, b3, c2, c3, Sem.run_bind, part_of (part_x x y b), part_of (part_x x' y' b'), part_of (part_y x y b), part_of (part_y x' y' b'), part_of (part_b x y b), part_of (part_b x' y' b'), Result.andThen_ok]
  have r1 := fun a b w => run_eqU 9997 a b w
  simp only [Nat.reduceAdd] at r1
  rw [r1, Result.andThen_ok]
  cases h1 : eqU x x' with
  | false => simp
  | true =>
    simp only [Bool.not_true, Bool.false_eq_true, if_false, Sem.run_bind, part_of (part_y x y b), part_of (part_y x' y' b'), Result.andThen_ok]
    rw [r1, Result.andThen_ok]
    cases h2 : eqU y y' with
    | false => simp
    | true =>
      have r3 := run_equalIn_bool' (P := Try.prog) w 9998 4 b b' Try.underlying4
      simp only [Nat.reduceAdd] at r3
      simp only [Bool.not_true, Bool.false_eq_true, if_false, Sem.run_bind, part_of (part_b x y b), part_of (part_b x' y' b'), Result.andThen_ok]
      rw [r3, Result.andThen_ok]
      cases b <;> cases b' <;> simp
noncomputable def ptV (x y : Nat) (b : Bool) : Value := .agg (ptC x y b).toArray
theorem binK_eqPt (x y x' y' : Nat) (b b' : Bool) (K : Value → Prop) : binK Try.prog .eql 26 (ptV x y b) (ptV x' y' b') K = K (.bool (eqU x x' && (eqU y y' && (b == b')))) := by
  apply propext
  show (Try.prog.eqGuardType Try.prog.depth 26 = false ∧ ∃ c, eqV Try.prog 26 (ptC x y b).toArray (ptC x' y' b').toArray = some c ∧ K (.bool c)) ↔ _
  rw [eqV_pt]
  constructor
  · rintro ⟨_, c, hc, hk⟩; cases hc; exact hk
  · intro h; exact ⟨q_26, _, rfl, h⟩
end Go.Vm
