/- Equality of arrays of numbers. No condition. -/
import Derived.Test.YtcbcmfmcpdimkaaTy
import Derived.ChangeKeysEq
set_option maxRecDepth 100000
set_option linter.unusedSimpArgs false
set_option linter.unusedVariables false
namespace Go.Vm
open Go Go.RowKit Go.Proofs

theorem run_eqItems_int {P : Program} {e : TypeId} {k : IntKind} (hp : P.plainKey e = true) (hu : P.underlying e = some (.int k)) (xs ys : List Int) (d : Nat) (w : World) : ∀ is : List Nat,
    (∀ j ∈ is, j < xs.length ∧ j < ys.length) →
    (Op.eqItems (d + 1) e 1 (xs.map (Value.int k)).toArray (ys.map (Value.int k)).toArray is).run P w = .ok (is.all fun j => xs.getD j 0 == ys.getD j 0) w
  | [], _ => by simp [Op.eqItems]
  | j :: is, h => by
    have hj := h j (by simp)
    have h1 := run_part_plain (P := P) w hp (xs := (xs.map (Value.int k)).toArray) (off := j * 1) (v := .int k (xs.getD j 0)) (by simp [hj.1])
    have h2 := run_part_plain (P := P) w hp (xs := (ys.map (Value.int k)).toArray) (off := j * 1) (v := .int k (ys.getD j 0)) (by simp [hj.2])
    have h3 := run_equalIn_int (P := P) w d e k k (xs.getD j 0) (ys.getD j 0) hu
    have ih := run_eqItems_int hp hu xs ys d w is (fun j hj => h j (by simp [hj]))
    simp only [Op.eqItems, Sem.run_bind, h1, h2, h3, Result.andThen_ok, List.all_cons]
    cases hb : (xs.getD j 0 == ys.getD j 0)
    · simp
    · simpa using ih

theorem all_range_eq (xs ys : List Int) (n : Nat) (hx : xs.length = n) (hy : ys.length = n) : ((List.range n).all fun j => xs.getD j 0 == ys.getD j 0) = (xs == ys) := by
  rw [Bool.eq_iff_iff]
  simp only [List.all_eq_true, List.mem_range, beq_iff_eq]
  constructor
  · intro h
    apply List.ext_getElem (by omega)
    intro i h1 h2
    have := h i (by omega)
    simpa [h1, h2] using this
  · rintro rfl j hj
    rfl

theorem eqV_ints {P : Program} {t e : TypeId} {n : Nat} {k : IntKind} (hu : P.underlying t = some (.array n e)) (hc : P.cellsOf e = 1) (hp : P.plainKey e = true) (hue : P.underlying e = some (.int k))
    (xs ys : List Int) (hx : xs.length = n) (hy : ys.length = n) : eqV P t (xs.map (Value.int k)).toArray (ys.map (Value.int k)).toArray = some (xs == ys) := by
  apply eqV_of
  intro w
  obtain ⟨i, hi⟩ := info_of_underlying hue
  have h1 := run_equalIn_array (P := P) w 9999 (xs.map (Value.int k)).toArray (ys.map (Value.int k)).toArray hu hi
  have e1 : Op.equal t (.agg (xs.map (Value.int k)).toArray) (.agg (ys.map (Value.int k)).toArray) = Op.equalIn (9999 + 1) t (.agg (xs.map (Value.int k)).toArray) (.agg (ys.map (Value.int k)).toArray) := rfl
  rw [e1, h1, hc, run_eqItems_int hp hue xs ys 9998 w (List.range n) (fun j hj => by simp at hj; omega), all_range_eq xs ys n hx hy]

/-! ### Numbers of 256 bits -/
noncomputable def eqU : Nat → Nat → Bool := Classical.choose (⟨fun a b => decide (a % full = b % full), rfl⟩ : ∃ f : Nat → Nat → Bool, f = fun a b => decide (a % full = b % full))
theorem eqU_eq : eqU = fun a b => decide (a % full = b % full) := Classical.choose_spec (⟨fun a b => decide (a % full = b % full), rfl⟩ : ∃ f : Nat → Nat → Bool, f = fun a b => decide (a % full = b % full))
theorem eqU_self (a : Nat) : eqU a a = true := by rw [eqU_eq]; simp
theorem eqU_of {a b : Nat} (h : a % full = b % full) : eqU a b = true := by rw [eqU_eq]; simp [h]
theorem eqU_lt {a b : Nat} (ha : a < full) (hb : b < full) : eqU a b = decide (a = b) := by rw [eqU_eq]; simp [Nat.mod_eq_of_lt ha, Nat.mod_eq_of_lt hb]

theorem words_inj (a b : Nat) : ([(w0 a : Int), (w1 a : Int), (w2 a : Int), (w3 a : Int)] == [(w0 b : Int), (w1 b : Int), (w2 b : Int), (w3 b : Int)]) = eqU a b := by
  rw [eqU_eq]
  rw [Bool.eq_iff_iff]
  simp only [beq_iff_eq, decide_eq_true_eq, List.cons.injEq, and_true]
  constructor
  · rintro ⟨h0, h1, h2, h3⟩
    rw [← words a, ← words b, Int.ofNat_inj.1 h0, Int.ofNat_inj.1 h1, Int.ofNat_inj.1 h2, Int.ofNat_inj.1 h3]
  · intro h
    have e0 : w0 a = w0 b := by rw [← w0_mod a, h, w0_mod]
    have e1 : w1 a = w1 b := by rw [← w1_mod a, h, w1_mod]
    have e2 : w2 a = w2 b := by rw [← w2_mod a, h, w2_mod]
    have e3 : w3 a = w3 b := by rw [← w3_mod a, h, w3_mod]
    rw [e0, e1, e2, e3]
    simp

theorem eqV_uV (a b : Nat) : eqV Try.prog 24 #[.int .u64 (w0 a : Nat), .int .u64 (w1 a : Nat), .int .u64 (w2 a : Nat), .int .u64 (w3 a : Nat)] #[.int .u64 (w0 b : Nat), .int .u64 (w1 b : Nat), .int .u64 (w2 b : Nat), .int .u64 (w3 b : Nat)] = some (eqU a b) := by
  have h := eqV_ints (P := Try.prog) (t := 24) (e := 22) (n := 4) (k := .u64) Try.underlying24 (by kernel_rfl) (by kernel_rfl) Try.underlying22
    [(w0 a : Int), (w1 a : Int), (w2 a : Int), (w3 a : Int)] [(w0 b : Int), (w1 b : Int), (w2 b : Int), (w3 b : Int)] rfl rfl
  rw [words_inj] at h
  exact h

theorem binK_eqU (a b : Nat) (K : Value → Prop) : binK Try.prog .eql 24 (uV a) (uV b) K = K (.bool (eqU a b)) := by
  apply propext
  show (Try.prog.eqGuardType Try.prog.depth 24 = false ∧ ∃ c, eqV Try.prog 24 _ _ = some c ∧ K (.bool c)) ↔ _
  rw [eqV_uV]
  constructor
  · rintro ⟨_, c, hc, hk⟩; cases hc; exact hk
  · intro h; exact ⟨q_24, _, rfl, h⟩
theorem binK_neU (a b : Nat) (K : Value → Prop) : binK Try.prog .neq 24 (uV a) (uV b) K = K (.bool (!eqU a b)) := by
  apply propext
  show (Try.prog.eqGuardType Try.prog.depth 24 = false ∧ ∃ c, eqV Try.prog 24 _ _ = some c ∧ K (.bool (!c))) ↔ _
  rw [eqV_uV]
  constructor
  · rintro ⟨_, c, hc, hk⟩; cases hc; exact hk
  · intro h; exact ⟨q_24, _, rfl, h⟩

theorem uV_lit (n : Nat) (h : n < 18446744073709551616) : Value.agg #[.int .u64 n, .int .u64 0, .int .u64 0, .int .u64 0] = uV n := by
  have := uV_of (x := n) (a := n) (b := 0) (c := 0) (d := 0) h (by omega) (by omega) (by omega) (by simp only [num, full_eq]; omega)
  exact this.symm
theorem uV_0 : Value.agg #[.int .u64 0, .int .u64 0, .int .u64 0, .int .u64 0] = uV 0 := uV_lit 0 (by omega)
theorem uV_3 : Value.agg #[.int .u64 3, .int .u64 0, .int .u64 0, .int .u64 0] = uV 3 := uV_lit 3 (by omega)
theorem binK_eqU0 (a : Nat) (K : Value → Prop) : binK Try.prog .eql 24 (uV a) (.agg #[.int .u64 0, .int .u64 0, .int .u64 0, .int .u64 0]) K = K (.bool (eqU a 0)) := by rw [uV_0, binK_eqU]
theorem binK_eqU3 (a : Nat) (K : Value → Prop) : binK Try.prog .eql 24 (uV a) (.agg #[.int .u64 3, .int .u64 0, .int .u64 0, .int .u64 0]) K = K (.bool (eqU a 3)) := by rw [uV_3, binK_eqU]
theorem uV_inj {a b : Nat} (h : a % full = b % full) : uV a = uV b := by rw [← uV_mod a, h, uV_mod]
theorem toN_lt {a : Nat} (h : a < full) : toN (uV a) = some a := by rw [toN_uV, Nat.mod_eq_of_lt h]

end Go.Vm
