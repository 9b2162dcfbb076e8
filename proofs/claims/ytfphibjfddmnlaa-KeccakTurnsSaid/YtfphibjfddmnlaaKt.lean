/- Mixing is one to one; the law on turned bits. No condition. -/
import Derived.Test.YtfphibjfddmnlaaKh
set_option maxRecDepth 100000
set_option linter.unusedSimpArgs false
set_option linter.unusedVariables false
namespace Go.Vm
open Go Go.RowKit Go.Proofs

/-! ### Turning a word -/
theorem rol_bit (x : W64) (k j : Nat) (hk : k < 64) (hj : j < 64) : (rol x k).getLsbD j = if j < k then x.getLsbD (64 - k + j) else x.getLsbD (j - k) := by
  rw [rol_eq]
  simp only [BitVec.getLsbD_or, BitVec.getLsbD_shiftLeft, BitVec.getLsbD_ushiftRight]
  by_cases h : j < k
  · simp [h, hj]
  · have : x.getLsbD (64 - k + j) = false := BitVec.getLsbD_of_ge _ _ (by omega)
    simp [h, hj, this]
theorem rol_inj (x y : W64) (k : Nat) (hk : k < 64) (h : rol x k = rol y k) : x = y := by
  apply BitVec.eq_of_getLsbD_eq
  intro i hi
  by_cases h1 : i + k < 64
  · have e := congrArg (fun z => BitVec.getLsbD z (i + k)) h
    rw [rol_bit _ _ _ hk h1, rol_bit _ _ _ hk h1, if_neg (by omega), if_neg (by omega), show i + k - k = i by omega] at e
    exact e
  · have e := congrArg (fun z => BitVec.getLsbD z (i + k - 64)) h
    rw [rol_bit _ _ _ hk (by omega), rol_bit _ _ _ hk (by omega), if_pos (by omega), if_pos (by omega), show 64 - k + (i + k - 64) = i by omega] at e
    exact e
theorem rol_xor (x y : W64) (k : Nat) (hk : k < 64) : rol (x ^^^ y) k = rol x k ^^^ rol y k := by
  apply BitVec.eq_of_getLsbD_eq
  intro i hi
  rw [BitVec.getLsbD_xor, rol_bit _ _ _ hk hi, rol_bit _ _ _ hk hi, rol_bit _ _ _ hk hi]
  split <;> rw [BitVec.getLsbD_xor]

def rit : Nat → W64 → W64
  | 0, x => x
  | n + 1, x => rit0 (rit n x)
where rit0 (x : W64) : W64 := x <<< 1 ||| x >>> 63
theorem rit0_eq (x : W64) : rit.rit0 x = rol x 1 := by rw [rol_eq]; rfl
theorem rit_xor (n : Nat) (x y : W64) : rit n (x ^^^ y) = rit n x ^^^ rit n y := by
  induction n with
  | zero => rfl
  | succ n ih => unfold rit; rw [ih, rit0_eq, rit0_eq, rit0_eq, rol_xor _ _ _ (by omega)]
theorem rit_add (m n : Nat) (x : W64) : rit m (rit n x) = rit (m + n) x := by
  induction m with
  | zero => rw [Nat.zero_add]; rfl
  | succ m ih => rw [Nat.succ_add]; unfold rit; rw [ih]
theorem rit_bit (n : Nat) (x : W64) (j : Nat) (hj : j < 64) : (rit n x).getLsbD j = x.getLsbD ((j + 63 * n) % 64) := by
  induction n generalizing j with
  | zero => rw [Nat.mul_zero, Nat.add_zero, Nat.mod_eq_of_lt hj]; rfl
  | succ n ih =>
    unfold rit
    rw [rit0_eq, rol_bit _ _ _ (by omega) hj]
    split
    · rw [ih _ (by omega)]; congr 1; omega
    · rw [ih _ (by omega)]; congr 1; omega
theorem rit_64 (x : W64) : rit 64 x = x := by
  apply BitVec.eq_of_getLsbD_eq
  intro j hj
  rw [rit_bit _ _ _ hj]
  congr 1
  omega
theorem x_cancel (a b : W64) : a ^^^ (b ^^^ b) = a := by rw [BitVec.xor_self, BitVec.xor_zero]

/-! ### The columns -/
def Per (e : Nat → W64) : Prop := ∀ x, e (x + 5) = e x
theorem per_twice {e : Nat → W64} {m k : Nat} (hp : Per e) (h : ∀ x, e x = e (x + 4 * m) ^^^ rit k (e (x + m))) : ∀ x, e x = e (x + 4 * (2 * m)) ^^^ rit (2 * k) (e (x + 2 * m)) := by
  intro x
  have h1 := h x
  have h2 := h (x + 4 * m)
  have h3 := h (x + m)
  rw [show x + 4 * m + 4 * m = x + 4 * (2 * m) by omega] at h2
  rw [show x + m + m = x + 2 * m by omega, show x + m + 4 * m = x + 4 * m + m by omega] at h3
  rw [h3, rit_xor, rit_add] at h1
  rw [h2] at h1
  rw [show k + k = 2 * k by omega] at h1
  rw [h1]
  rw [BitVec.xor_assoc]
  congr 1
  rw [← BitVec.xor_assoc, BitVec.xor_self, BitVec.zero_xor]
theorem per_mul {e : Nat → W64} (hp : Per e) (x n : Nat) : e (x + 5 * n) = e x := by
  induction n with
  | zero => rfl
  | succ n ih => rw [show x + 5 * (n + 1) = x + 5 * n + 5 by omega, hp, ih]
theorem col_zero {e : Nat → W64} (hp : Per e) (h : ∀ x, e x = e (x + 4) ^^^ rit 1 (e (x + 1))) : ∀ x, e x = 0#64 := by
  have h1 : ∀ x, e x = e (x + 4 * 1) ^^^ rit 1 (e (x + 1)) := h
  have h64 := per_twice hp (per_twice hp (per_twice hp (per_twice hp (per_twice hp (per_twice hp h1)))))
  have a1 : ∀ x, e x = e (x + 1) ^^^ e (x + 4) := fun x => by
    have := h64 x
    rw [show 2 * (2 * (2 * (2 * (2 * (2 * 1))))) = 64 from rfl, rit_64, show x + 4 * 64 = x + 1 + 5 * 51 by omega, per_mul hp, show x + 64 = x + 4 + 5 * 12 by omega, per_mul hp] at this
    exact this
  have a2 : ∀ x, e x = e (x + 3) ^^^ e (x + 2) := fun x => by
    have b1 := a1 x
    have b2 := a1 (x + 1)
    have b3 := a1 (x + 4)
    rw [show x + 1 + 1 = x + 2 by omega, show x + 1 + 4 = x + 5 by omega, hp] at b2
    rw [show x + 4 + 1 = x + 5 by omega, hp, show x + 4 + 4 = x + 3 + 5 by omega, hp] at b3
    rw [b2, b3] at b1
    rw [b1, BitVec.xor_comm (e (x + 3))]
    rw [BitVec.xor_assoc]
    congr 1
    rw [← BitVec.xor_assoc, BitVec.xor_self, BitVec.zero_xor]
  have a3 : ∀ x, e (x + 1) = e x := fun x => by
    have b1 := a2 (x + 1)
    have b2 := a1 (x + 4)
    rw [show x + 1 + 3 = x + 4 by omega, show x + 1 + 2 = x + 3 by omega] at b1
    rw [show x + 4 + 1 = x + 5 by omega, hp, show x + 4 + 4 = x + 3 + 5 by omega, hp] at b2
    rw [b2, BitVec.xor_assoc, BitVec.xor_self, BitVec.xor_zero] at b1
    exact b1
  intro x
  have b := a2 x
  rw [show x + 3 = x + 2 + 1 by omega, a3 (x + 2), BitVec.xor_self] at b
  exact b

theorem theta_inj (A B : K25) (h : ∀ i, i < 25 → A i ^^^ kD A (i % 5) = B i ^^^ kD B (i % 5)) : ∀ i, i < 25 → A i = B i := by
  have e1 : ∀ a b c d : W64, a ^^^ b = c ^^^ d → a ^^^ c = b ^^^ d := fun a b c d h => by
    have : a ^^^ b ^^^ (b ^^^ c) = c ^^^ d ^^^ (b ^^^ c) := by rw [h]
    rw [BitVec.xor_assoc a, ← BitVec.xor_assoc b b c, BitVec.xor_self, BitVec.zero_xor] at this
    rw [this, BitVec.xor_comm c d, BitVec.xor_assoc, ← BitVec.xor_assoc c b c, BitVec.xor_comm c b, BitVec.xor_assoc b c c, BitVec.xor_self, BitVec.xor_zero, BitVec.xor_comm]
  have hd : ∀ i, i < 25 → A i ^^^ B i = kD A (i % 5) ^^^ kD B (i % 5) := fun i hi => e1 _ _ _ _ (h i hi)
  generalize hde : (fun x => kD A (x % 5) ^^^ kD B (x % 5)) = e
  have he : ∀ x, e x = kD A (x % 5) ^^^ kD B (x % 5) := fun x => by rw [← hde]
  have hp : Per e := fun x => by rw [he, he, Nat.add_mod_right]
  have hc : ∀ x, x < 5 → kC A x ^^^ kC B x = e x := fun x hx => by
    have g0 := hd x (by omega)
    have g1 := hd (x + 5) (by omega)
    have g2 := hd (x + 10) (by omega)
    have g3 := hd (x + 15) (by omega)
    have g4 := hd (x + 20) (by omega)
    have m0 : x % 5 = x := Nat.mod_eq_of_lt hx
    have m1 : (x + 5) % 5 = x := by omega
    have m2 : (x + 10) % 5 = x := by omega
    have m3 : (x + 15) % 5 = x := by omega
    have m4 : (x + 20) % 5 = x := by omega
    rw [m0] at g0; rw [m1] at g1; rw [m2] at g2; rw [m3] at g3; rw [m4] at g4
    have ee : e x = kD A x ^^^ kD B x := by rw [he, m0]
    rw [← ee] at g0 g1 g2 g3 g4
    have hs : ∀ a0 a1 a2 a3 a4 b0 b1 b2 b3 b4 : W64, (a0 ^^^ a1 ^^^ a2 ^^^ a3 ^^^ a4) ^^^ (b0 ^^^ b1 ^^^ b2 ^^^ b3 ^^^ b4) = (a0 ^^^ b0) ^^^ (a1 ^^^ b1) ^^^ (a2 ^^^ b2) ^^^ (a3 ^^^ b3) ^^^ (a4 ^^^ b4) := by
      intros
      ac_rfl
    rw [kC_eq]
    simp only
    rw [hs, g0, g1, g2, g3, g4, BitVec.xor_self, BitVec.zero_xor, BitVec.xor_self, BitVec.zero_xor]
  have hce : ∀ x, kC A (x % 5) ^^^ kC B (x % 5) = e x := fun x => by
    rw [hc _ (Nat.mod_lt _ (by omega)), he, he, Nat.mod_mod]
  have hcol : ∀ x, e x = e (x + 4) ^^^ rit 1 (e (x + 1)) := fun x => by
    rw [← hce (x + 4), ← hce (x + 1)]
    have : ∀ z, rit 1 z = rol z 1 := fun z => rit0_eq z
    rw [this, rol_xor _ _ _ (by omega), he, kD_eq]
    simp only
    rw [show (x % 5 + 4) % 5 = (x + 4) % 5 by omega, show (x % 5 + 1) % 5 = (x + 1) % 5 by omega]
    ac_rfl
  have hz := col_zero hp hcol
  intro i hi
  have := hd i hi
  rw [← he, hz] at this
  have h2 : A i ^^^ B i ^^^ B i = 0#64 ^^^ B i := by rw [this]
  rw [BitVec.xor_assoc, BitVec.xor_self, BitVec.xor_zero, BitVec.zero_xor] at h2
  exact h2

/-! ### Rows -/
theorem row_inj (b c : Nat → W64) (h : ∀ x, x < 5 → b x ^^^ ~~~(b ((x + 1) % 5)) &&& b ((x + 2) % 5) = c x ^^^ ~~~(c ((x + 1) % 5)) &&& c ((x + 2) % 5)) : ∀ x, x < 5 → b x = c x := by
  have key : ∀ b0 b1 b2 b3 b4 c0 c1 c2 c3 c4 : Bool, (b0 ^^ (!b1 && b2)) = (c0 ^^ (!c1 && c2)) → (b1 ^^ (!b2 && b3)) = (c1 ^^ (!c2 && c3)) → (b2 ^^ (!b3 && b4)) = (c2 ^^ (!c3 && c4)) → (b3 ^^ (!b4 && b0)) = (c3 ^^ (!c4 && c0)) → (b4 ^^ (!b0 && b1)) = (c4 ^^ (!c0 && c1)) →
      b0 = c0 ∧ b1 = c1 ∧ b2 = c2 ∧ b3 = c3 ∧ b4 = c4 := by decide +kernel
  have bit : ∀ x j, x < 5 → j < 64 → ((b x).getLsbD j ^^ (!(b ((x + 1) % 5)).getLsbD j && (b ((x + 2) % 5)).getLsbD j)) = ((c x).getLsbD j ^^ (!(c ((x + 1) % 5)).getLsbD j && (c ((x + 2) % 5)).getLsbD j)) := fun x j hx hj => by
    have := congrArg (fun z => BitVec.getLsbD z j) (h x hx)
    simpa [hj] using this
  have all : ∀ j, j < 64 → (b 0).getLsbD j = (c 0).getLsbD j ∧ (b 1).getLsbD j = (c 1).getLsbD j ∧ (b 2).getLsbD j = (c 2).getLsbD j ∧ (b 3).getLsbD j = (c 3).getLsbD j ∧ (b 4).getLsbD j = (c 4).getLsbD j := fun j hj =>
    key _ _ _ _ _ _ _ _ _ _ (bit 0 j (by omega) hj) (bit 1 j (by omega) hj) (bit 2 j (by omega) hj) (bit 3 j (by omega) hj) (bit 4 j (by omega) hj)
  intro x hx
  apply BitVec.eq_of_getLsbD_eq
  intro j hj
  obtain ⟨a0, a1, a2, a3, a4⟩ := all j hj
  have : x = 0 ∨ x = 1 ∨ x = 2 ∨ x = 3 ∨ x = 4 := by omega
  rcases this with rfl | rfl | rfl | rfl | rfl <;> assumption

theorem byT_lt (i : Nat) : byT i < 64 := by
  rw [byT_eq]
  simp only
  by_cases h : i < 25
  · have : ∀ j, j < 25 → ([0, 1, 62, 28, 27, 36, 44, 6, 55, 20, 3, 10, 43, 25, 39, 41, 45, 15, 21, 8, 18, 2, 61, 56, 14] : List Nat).getD j 0 < 64 := by decide
    exact this i h
  · rw [List.getD_eq_getElem?_getD, List.getElem?_eq_none (by simp; omega)]
    decide
def dst (i : Nat) : Nat := ([0, 10, 20, 5, 15, 16, 1, 11, 21, 6, 7, 17, 2, 12, 22, 23, 8, 18, 3, 13, 14, 24, 9, 19, 4] : List Nat).getD i 0
theorem dst_src (i : Nat) (h : i < 25) : srT (dst i) = i ∧ dst i < 25 := by
  rw [srT_eq]
  revert i
  unfold dst
  decide
theorem rnd_inj (A B : K25) (c : W64) (h : ∀ i, i < 25 → rnd A c i = rnd B c i) : ∀ i, i < 25 → A i = B i := by
  have h1 : ∀ i, i < 25 → kE A i = kE B i := fun i hi => by
    have := h i hi
    rw [rnd_eq] at this
    simp only at this
    by_cases h0 : i = 0
    · subst h0
      rw [if_pos rfl, if_pos rfl] at this
      have h2 : kE A 0 ^^^ c ^^^ c = kE B 0 ^^^ c ^^^ c := by rw [this]
      rw [BitVec.xor_assoc, BitVec.xor_self, BitVec.xor_zero, BitVec.xor_assoc, BitVec.xor_self, BitVec.xor_zero] at h2
      exact h2
    · rw [if_neg h0, if_neg h0, if_pos hi, if_pos hi] at this
      exact this
  have h2 : ∀ i, i < 25 → kB A i = kB B i := fun i hi => by
    have hr := row_inj (fun x => kB A (i / 5 * 5 + x)) (fun x => kB B (i / 5 * 5 + x)) (fun x hx => by
      have := h1 (i / 5 * 5 + x) (by omega)
      rw [kE_eq] at this
      simp only at this
      rw [show (i / 5 * 5 + x) / 5 * 5 = i / 5 * 5 by omega, show (i / 5 * 5 + x + 1) % 5 = (x + 1) % 5 by omega, show (i / 5 * 5 + x + 2) % 5 = (x + 2) % 5 by omega] at this
      exact this) (i % 5) (Nat.mod_lt _ (by omega))
    rw [show i / 5 * 5 + i % 5 = i by omega] at hr
    exact hr
  refine theta_inj A B fun i hi => ?_
  obtain ⟨d1, d2⟩ := dst_src i hi
  have := h2 (dst i) d2
  rw [kB_eq] at this
  simp only at this
  rw [d1] at this
  exact rol_inj _ _ _ (byT_lt i) this
theorem mixN_inj (A B : K25) (n : Nat) (h : ∀ i, i < 25 → mixN n A i = mixN n B i) : ∀ i, i < 25 → A i = B i := by
  induction n with
  | zero => rw [mixN_0, mixN_0] at h; exact h
  | succ n ih =>
    refine ih ?_
    rw [← mixN_succ, ← mixN_succ] at h
    exact rnd_inj _ _ _ h

noncomputable def flipK (A : K25) (k : Nat) (b : W64) : K25 := fun i => if i = k then A i ^^^ b else A i
theorem flip_eq (A : K25) (k : Nat) (hk : k < 25) (b : W64) : eqK (mixN 24 A) (mixN 24 (flipK A k b)) = decide (b = 0#64) := by
  rw [eqK_eq, Bool.eq_iff_iff]
  simp only [decide_eq_true_eq]
  constructor
  · intro h
    have := mixN_inj _ _ _ h k hk
    unfold flipK at this
    rw [if_pos rfl] at this
    have h2 : A k ^^^ A k = A k ^^^ (A k ^^^ b) := by rw [← this]
    rw [BitVec.xor_self, ← BitVec.xor_assoc, BitVec.xor_self, BitVec.zero_xor] at h2
    exact h2.symm
  · rintro rfl i hi
    have : flipK A k 0#64 = A := by
      funext j
      unfold flipK
      split
      · rw [BitVec.xor_zero]
      · rfl
    rw [this]

theorem flF_0 (A : K25) (b : W64) : Value.agg #[.int .u64 (tn (A 0 ^^^ b)), .int .u64 (tn (A 1)), .int .u64 (tn (A 2)), .int .u64 (tn (A 3)), .int .u64 (tn (A 4)), .int .u64 (tn (A 5)), .int .u64 (tn (A 6)), .int .u64 (tn (A 7)), .int .u64 (tn (A 8)), .int .u64 (tn (A 9)), .int .u64 (tn (A 10)), .int .u64 (tn (A 11)), .int .u64 (tn (A 12)), .int .u64 (tn (A 13)), .int .u64 (tn (A 14)), .int .u64 (tn (A 15)), .int .u64 (tn (A 16)), .int .u64 (tn (A 17)), .int .u64 (tn (A 18)), .int .u64 (tn (A 19)), .int .u64 (tn (A 20)), .int .u64 (tn (A 21)), .int .u64 (tn (A 22)), .int .u64 (tn (A 23)), .int .u64 (tn (A 24))] = kV (flipK A 0 b) := by unfold kV flipK; rfl
theorem flF_1 (A : K25) (b : W64) : Value.agg #[.int .u64 (tn (A 0)), .int .u64 (tn (A 1 ^^^ b)), .int .u64 (tn (A 2)), .int .u64 (tn (A 3)), .int .u64 (tn (A 4)), .int .u64 (tn (A 5)), .int .u64 (tn (A 6)), .int .u64 (tn (A 7)), .int .u64 (tn (A 8)), .int .u64 (tn (A 9)), .int .u64 (tn (A 10)), .int .u64 (tn (A 11)), .int .u64 (tn (A 12)), .int .u64 (tn (A 13)), .int .u64 (tn (A 14)), .int .u64 (tn (A 15)), .int .u64 (tn (A 16)), .int .u64 (tn (A 17)), .int .u64 (tn (A 18)), .int .u64 (tn (A 19)), .int .u64 (tn (A 20)), .int .u64 (tn (A 21)), .int .u64 (tn (A 22)), .int .u64 (tn (A 23)), .int .u64 (tn (A 24))] = kV (flipK A 1 b) := by unfold kV flipK; rfl
theorem flF_2 (A : K25) (b : W64) : Value.agg #[.int .u64 (tn (A 0)), .int .u64 (tn (A 1)), .int .u64 (tn (A 2 ^^^ b)), .int .u64 (tn (A 3)), .int .u64 (tn (A 4)), .int .u64 (tn (A 5)), .int .u64 (tn (A 6)), .int .u64 (tn (A 7)), .int .u64 (tn (A 8)), .int .u64 (tn (A 9)), .int .u64 (tn (A 10)), .int .u64 (tn (A 11)), .int .u64 (tn (A 12)), .int .u64 (tn (A 13)), .int .u64 (tn (A 14)), .int .u64 (tn (A 15)), .int .u64 (tn (A 16)), .int .u64 (tn (A 17)), .int .u64 (tn (A 18)), .int .u64 (tn (A 19)), .int .u64 (tn (A 20)), .int .u64 (tn (A 21)), .int .u64 (tn (A 22)), .int .u64 (tn (A 23)), .int .u64 (tn (A 24))] = kV (flipK A 2 b) := by unfold kV flipK; rfl
theorem flF_3 (A : K25) (b : W64) : Value.agg #[.int .u64 (tn (A 0)), .int .u64 (tn (A 1)), .int .u64 (tn (A 2)), .int .u64 (tn (A 3 ^^^ b)), .int .u64 (tn (A 4)), .int .u64 (tn (A 5)), .int .u64 (tn (A 6)), .int .u64 (tn (A 7)), .int .u64 (tn (A 8)), .int .u64 (tn (A 9)), .int .u64 (tn (A 10)), .int .u64 (tn (A 11)), .int .u64 (tn (A 12)), .int .u64 (tn (A 13)), .int .u64 (tn (A 14)), .int .u64 (tn (A 15)), .int .u64 (tn (A 16)), .int .u64 (tn (A 17)), .int .u64 (tn (A 18)), .int .u64 (tn (A 19)), .int .u64 (tn (A 20)), .int .u64 (tn (A 21)), .int .u64 (tn (A 22)), .int .u64 (tn (A 23)), .int .u64 (tn (A 24))] = kV (flipK A 3 b) := by unfold kV flipK; rfl
theorem flF_4 (A : K25) (b : W64) : Value.agg #[.int .u64 (tn (A 0)), .int .u64 (tn (A 1)), .int .u64 (tn (A 2)), .int .u64 (tn (A 3)), .int .u64 (tn (A 4 ^^^ b)), .int .u64 (tn (A 5)), .int .u64 (tn (A 6)), .int .u64 (tn (A 7)), .int .u64 (tn (A 8)), .int .u64 (tn (A 9)), .int .u64 (tn (A 10)), .int .u64 (tn (A 11)), .int .u64 (tn (A 12)), .int .u64 (tn (A 13)), .int .u64 (tn (A 14)), .int .u64 (tn (A 15)), .int .u64 (tn (A 16)), .int .u64 (tn (A 17)), .int .u64 (tn (A 18)), .int .u64 (tn (A 19)), .int .u64 (tn (A 20)), .int .u64 (tn (A 21)), .int .u64 (tn (A 22)), .int .u64 (tn (A 23)), .int .u64 (tn (A 24))] = kV (flipK A 4 b) := by unfold kV flipK; rfl
theorem flF_5 (A : K25) (b : W64) : Value.agg #[.int .u64 (tn (A 0)), .int .u64 (tn (A 1)), .int .u64 (tn (A 2)), .int .u64 (tn (A 3)), .int .u64 (tn (A 4)), .int .u64 (tn (A 5 ^^^ b)), .int .u64 (tn (A 6)), .int .u64 (tn (A 7)), .int .u64 (tn (A 8)), .int .u64 (tn (A 9)), .int .u64 (tn (A 10)), .int .u64 (tn (A 11)), .int .u64 (tn (A 12)), .int .u64 (tn (A 13)), .int .u64 (tn (A 14)), .int .u64 (tn (A 15)), .int .u64 (tn (A 16)), .int .u64 (tn (A 17)), .int .u64 (tn (A 18)), .int .u64 (tn (A 19)), .int .u64 (tn (A 20)), .int .u64 (tn (A 21)), .int .u64 (tn (A 22)), .int .u64 (tn (A 23)), .int .u64 (tn (A 24))] = kV (flipK A 5 b) := by unfold kV flipK; rfl
theorem flF_6 (A : K25) (b : W64) : Value.agg #[.int .u64 (tn (A 0)), .int .u64 (tn (A 1)), .int .u64 (tn (A 2)), .int .u64 (tn (A 3)), .int .u64 (tn (A 4)), .int .u64 (tn (A 5)), .int .u64 (tn (A 6 ^^^ b)), .int .u64 (tn (A 7)), .int .u64 (tn (A 8)), .int .u64 (tn (A 9)), .int .u64 (tn (A 10)), .int .u64 (tn (A 11)), .int .u64 (tn (A 12)), .int .u64 (tn (A 13)), .int .u64 (tn (A 14)), .int .u64 (tn (A 15)), .int .u64 (tn (A 16)), .int .u64 (tn (A 17)), .int .u64 (tn (A 18)), .int .u64 (tn (A 19)), .int .u64 (tn (A 20)), .int .u64 (tn (A 21)), .int .u64 (tn (A 22)), .int .u64 (tn (A 23)), .int .u64 (tn (A 24))] = kV (flipK A 6 b) := by unfold kV flipK; rfl
theorem flF_7 (A : K25) (b : W64) : Value.agg #[.int .u64 (tn (A 0)), .int .u64 (tn (A 1)), .int .u64 (tn (A 2)), .int .u64 (tn (A 3)), .int .u64 (tn (A 4)), .int .u64 (tn (A 5)), .int .u64 (tn (A 6)), .int .u64 (tn (A 7 ^^^ b)), .int .u64 (tn (A 8)), .int .u64 (tn (A 9)), .int .u64 (tn (A 10)), .int .u64 (tn (A 11)), .int .u64 (tn (A 12)), .int .u64 (tn (A 13)), .int .u64 (tn (A 14)), .int .u64 (tn (A 15)), .int .u64 (tn (A 16)), .int .u64 (tn (A 17)), .int .u64 (tn (A 18)), .int .u64 (tn (A 19)), .int .u64 (tn (A 20)), .int .u64 (tn (A 21)), .int .u64 (tn (A 22)), .int .u64 (tn (A 23)), .int .u64 (tn (A 24))] = kV (flipK A 7 b) := by unfold kV flipK; rfl
theorem flF_8 (A : K25) (b : W64) : Value.agg #[.int .u64 (tn (A 0)), .int .u64 (tn (A 1)), .int .u64 (tn (A 2)), .int .u64 (tn (A 3)), .int .u64 (tn (A 4)), .int .u64 (tn (A 5)), .int .u64 (tn (A 6)), .int .u64 (tn (A 7)), .int .u64 (tn (A 8 ^^^ b)), .int .u64 (tn (A 9)), .int .u64 (tn (A 10)), .int .u64 (tn (A 11)), .int .u64 (tn (A 12)), .int .u64 (tn (A 13)), .int .u64 (tn (A 14)), .int .u64 (tn (A 15)), .int .u64 (tn (A 16)), .int .u64 (tn (A 17)), .int .u64 (tn (A 18)), .int .u64 (tn (A 19)), .int .u64 (tn (A 20)), .int .u64 (tn (A 21)), .int .u64 (tn (A 22)), .int .u64 (tn (A 23)), .int .u64 (tn (A 24))] = kV (flipK A 8 b) := by unfold kV flipK; rfl
theorem flF_9 (A : K25) (b : W64) : Value.agg #[.int .u64 (tn (A 0)), .int .u64 (tn (A 1)), .int .u64 (tn (A 2)), .int .u64 (tn (A 3)), .int .u64 (tn (A 4)), .int .u64 (tn (A 5)), .int .u64 (tn (A 6)), .int .u64 (tn (A 7)), .int .u64 (tn (A 8)), .int .u64 (tn (A 9 ^^^ b)), .int .u64 (tn (A 10)), .int .u64 (tn (A 11)), .int .u64 (tn (A 12)), .int .u64 (tn (A 13)), .int .u64 (tn (A 14)), .int .u64 (tn (A 15)), .int .u64 (tn (A 16)), .int .u64 (tn (A 17)), .int .u64 (tn (A 18)), .int .u64 (tn (A 19)), .int .u64 (tn (A 20)), .int .u64 (tn (A 21)), .int .u64 (tn (A 22)), .int .u64 (tn (A 23)), .int .u64 (tn (A 24))] = kV (flipK A 9 b) := by unfold kV flipK; rfl
theorem flF_10 (A : K25) (b : W64) : Value.agg #[.int .u64 (tn (A 0)), .int .u64 (tn (A 1)), .int .u64 (tn (A 2)), .int .u64 (tn (A 3)), .int .u64 (tn (A 4)), .int .u64 (tn (A 5)), .int .u64 (tn (A 6)), .int .u64 (tn (A 7)), .int .u64 (tn (A 8)), .int .u64 (tn (A 9)), .int .u64 (tn (A 10 ^^^ b)), .int .u64 (tn (A 11)), .int .u64 (tn (A 12)), .int .u64 (tn (A 13)), .int .u64 (tn (A 14)), .int .u64 (tn (A 15)), .int .u64 (tn (A 16)), .int .u64 (tn (A 17)), .int .u64 (tn (A 18)), .int .u64 (tn (A 19)), .int .u64 (tn (A 20)), .int .u64 (tn (A 21)), .int .u64 (tn (A 22)), .int .u64 (tn (A 23)), .int .u64 (tn (A 24))] = kV (flipK A 10 b) := by unfold kV flipK; rfl
theorem flF_11 (A : K25) (b : W64) : Value.agg #[.int .u64 (tn (A 0)), .int .u64 (tn (A 1)), .int .u64 (tn (A 2)), .int .u64 (tn (A 3)), .int .u64 (tn (A 4)), .int .u64 (tn (A 5)), .int .u64 (tn (A 6)), .int .u64 (tn (A 7)), .int .u64 (tn (A 8)), .int .u64 (tn (A 9)), .int .u64 (tn (A 10)), .int .u64 (tn (A 11 ^^^ b)), .int .u64 (tn (A 12)), .int .u64 (tn (A 13)), .int .u64 (tn (A 14)), .int .u64 (tn (A 15)), .int .u64 (tn (A 16)), .int .u64 (tn (A 17)), .int .u64 (tn (A 18)), .int .u64 (tn (A 19)), .int .u64 (tn (A 20)), .int .u64 (tn (A 21)), .int .u64 (tn (A 22)), .int .u64 (tn (A 23)), .int .u64 (tn (A 24))] = kV (flipK A 11 b) := by unfold kV flipK; rfl
theorem flF_12 (A : K25) (b : W64) : Value.agg #[.int .u64 (tn (A 0)), .int .u64 (tn (A 1)), .int .u64 (tn (A 2)), .int .u64 (tn (A 3)), .int .u64 (tn (A 4)), .int .u64 (tn (A 5)), .int .u64 (tn (A 6)), .int .u64 (tn (A 7)), .int .u64 (tn (A 8)), .int .u64 (tn (A 9)), .int .u64 (tn (A 10)), .int .u64 (tn (A 11)), .int .u64 (tn (A 12 ^^^ b)), .int .u64 (tn (A 13)), .int .u64 (tn (A 14)), .int .u64 (tn (A 15)), .int .u64 (tn (A 16)), .int .u64 (tn (A 17)), .int .u64 (tn (A 18)), .int .u64 (tn (A 19)), .int .u64 (tn (A 20)), .int .u64 (tn (A 21)), .int .u64 (tn (A 22)), .int .u64 (tn (A 23)), .int .u64 (tn (A 24))] = kV (flipK A 12 b) := by unfold kV flipK; rfl
theorem flF_13 (A : K25) (b : W64) : Value.agg #[.int .u64 (tn (A 0)), .int .u64 (tn (A 1)), .int .u64 (tn (A 2)), .int .u64 (tn (A 3)), .int .u64 (tn (A 4)), .int .u64 (tn (A 5)), .int .u64 (tn (A 6)), .int .u64 (tn (A 7)), .int .u64 (tn (A 8)), .int .u64 (tn (A 9)), .int .u64 (tn (A 10)), .int .u64 (tn (A 11)), .int .u64 (tn (A 12)), .int .u64 (tn (A 13 ^^^ b)), .int .u64 (tn (A 14)), .int .u64 (tn (A 15)), .int .u64 (tn (A 16)), .int .u64 (tn (A 17)), .int .u64 (tn (A 18)), .int .u64 (tn (A 19)), .int .u64 (tn (A 20)), .int .u64 (tn (A 21)), .int .u64 (tn (A 22)), .int .u64 (tn (A 23)), .int .u64 (tn (A 24))] = kV (flipK A 13 b) := by unfold kV flipK; rfl
theorem flF_14 (A : K25) (b : W64) : Value.agg #[.int .u64 (tn (A 0)), .int .u64 (tn (A 1)), .int .u64 (tn (A 2)), .int .u64 (tn (A 3)), .int .u64 (tn (A 4)), .int .u64 (tn (A 5)), .int .u64 (tn (A 6)), .int .u64 (tn (A 7)), .int .u64 (tn (A 8)), .int .u64 (tn (A 9)), .int .u64 (tn (A 10)), .int .u64 (tn (A 11)), .int .u64 (tn (A 12)), .int .u64 (tn (A 13)), .int .u64 (tn (A 14 ^^^ b)), .int .u64 (tn (A 15)), .int .u64 (tn (A 16)), .int .u64 (tn (A 17)), .int .u64 (tn (A 18)), .int .u64 (tn (A 19)), .int .u64 (tn (A 20)), .int .u64 (tn (A 21)), .int .u64 (tn (A 22)), .int .u64 (tn (A 23)), .int .u64 (tn (A 24))] = kV (flipK A 14 b) := by unfold kV flipK; rfl
theorem flF_15 (A : K25) (b : W64) : Value.agg #[.int .u64 (tn (A 0)), .int .u64 (tn (A 1)), .int .u64 (tn (A 2)), .int .u64 (tn (A 3)), .int .u64 (tn (A 4)), .int .u64 (tn (A 5)), .int .u64 (tn (A 6)), .int .u64 (tn (A 7)), .int .u64 (tn (A 8)), .int .u64 (tn (A 9)), .int .u64 (tn (A 10)), .int .u64 (tn (A 11)), .int .u64 (tn (A 12)), .int .u64 (tn (A 13)), .int .u64 (tn (A 14)), .int .u64 (tn (A 15 ^^^ b)), .int .u64 (tn (A 16)), .int .u64 (tn (A 17)), .int .u64 (tn (A 18)), .int .u64 (tn (A 19)), .int .u64 (tn (A 20)), .int .u64 (tn (A 21)), .int .u64 (tn (A 22)), .int .u64 (tn (A 23)), .int .u64 (tn (A 24))] = kV (flipK A 15 b) := by unfold kV flipK; rfl
theorem flF_16 (A : K25) (b : W64) : Value.agg #[.int .u64 (tn (A 0)), .int .u64 (tn (A 1)), .int .u64 (tn (A 2)), .int .u64 (tn (A 3)), .int .u64 (tn (A 4)), .int .u64 (tn (A 5)), .int .u64 (tn (A 6)), .int .u64 (tn (A 7)), .int .u64 (tn (A 8)), .int .u64 (tn (A 9)), .int .u64 (tn (A 10)), .int .u64 (tn (A 11)), .int .u64 (tn (A 12)), .int .u64 (tn (A 13)), .int .u64 (tn (A 14)), .int .u64 (tn (A 15)), .int .u64 (tn (A 16 ^^^ b)), .int .u64 (tn (A 17)), .int .u64 (tn (A 18)), .int .u64 (tn (A 19)), .int .u64 (tn (A 20)), .int .u64 (tn (A 21)), .int .u64 (tn (A 22)), .int .u64 (tn (A 23)), .int .u64 (tn (A 24))] = kV (flipK A 16 b) := by unfold kV flipK; rfl
theorem flF_17 (A : K25) (b : W64) : Value.agg #[.int .u64 (tn (A 0)), .int .u64 (tn (A 1)), .int .u64 (tn (A 2)), .int .u64 (tn (A 3)), .int .u64 (tn (A 4)), .int .u64 (tn (A 5)), .int .u64 (tn (A 6)), .int .u64 (tn (A 7)), .int .u64 (tn (A 8)), .int .u64 (tn (A 9)), .int .u64 (tn (A 10)), .int .u64 (tn (A 11)), .int .u64 (tn (A 12)), .int .u64 (tn (A 13)), .int .u64 (tn (A 14)), .int .u64 (tn (A 15)), .int .u64 (tn (A 16)), .int .u64 (tn (A 17 ^^^ b)), .int .u64 (tn (A 18)), .int .u64 (tn (A 19)), .int .u64 (tn (A 20)), .int .u64 (tn (A 21)), .int .u64 (tn (A 22)), .int .u64 (tn (A 23)), .int .u64 (tn (A 24))] = kV (flipK A 17 b) := by unfold kV flipK; rfl
theorem flF_18 (A : K25) (b : W64) : Value.agg #[.int .u64 (tn (A 0)), .int .u64 (tn (A 1)), .int .u64 (tn (A 2)), .int .u64 (tn (A 3)), .int .u64 (tn (A 4)), .int .u64 (tn (A 5)), .int .u64 (tn (A 6)), .int .u64 (tn (A 7)), .int .u64 (tn (A 8)), .int .u64 (tn (A 9)), .int .u64 (tn (A 10)), .int .u64 (tn (A 11)), .int .u64 (tn (A 12)), .int .u64 (tn (A 13)), .int .u64 (tn (A 14)), .int .u64 (tn (A 15)), .int .u64 (tn (A 16)), .int .u64 (tn (A 17)), .int .u64 (tn (A 18 ^^^ b)), .int .u64 (tn (A 19)), .int .u64 (tn (A 20)), .int .u64 (tn (A 21)), .int .u64 (tn (A 22)), .int .u64 (tn (A 23)), .int .u64 (tn (A 24))] = kV (flipK A 18 b) := by unfold kV flipK; rfl
theorem flF_19 (A : K25) (b : W64) : Value.agg #[.int .u64 (tn (A 0)), .int .u64 (tn (A 1)), .int .u64 (tn (A 2)), .int .u64 (tn (A 3)), .int .u64 (tn (A 4)), .int .u64 (tn (A 5)), .int .u64 (tn (A 6)), .int .u64 (tn (A 7)), .int .u64 (tn (A 8)), .int .u64 (tn (A 9)), .int .u64 (tn (A 10)), .int .u64 (tn (A 11)), .int .u64 (tn (A 12)), .int .u64 (tn (A 13)), .int .u64 (tn (A 14)), .int .u64 (tn (A 15)), .int .u64 (tn (A 16)), .int .u64 (tn (A 17)), .int .u64 (tn (A 18)), .int .u64 (tn (A 19 ^^^ b)), .int .u64 (tn (A 20)), .int .u64 (tn (A 21)), .int .u64 (tn (A 22)), .int .u64 (tn (A 23)), .int .u64 (tn (A 24))] = kV (flipK A 19 b) := by unfold kV flipK; rfl
theorem flF_20 (A : K25) (b : W64) : Value.agg #[.int .u64 (tn (A 0)), .int .u64 (tn (A 1)), .int .u64 (tn (A 2)), .int .u64 (tn (A 3)), .int .u64 (tn (A 4)), .int .u64 (tn (A 5)), .int .u64 (tn (A 6)), .int .u64 (tn (A 7)), .int .u64 (tn (A 8)), .int .u64 (tn (A 9)), .int .u64 (tn (A 10)), .int .u64 (tn (A 11)), .int .u64 (tn (A 12)), .int .u64 (tn (A 13)), .int .u64 (tn (A 14)), .int .u64 (tn (A 15)), .int .u64 (tn (A 16)), .int .u64 (tn (A 17)), .int .u64 (tn (A 18)), .int .u64 (tn (A 19)), .int .u64 (tn (A 20 ^^^ b)), .int .u64 (tn (A 21)), .int .u64 (tn (A 22)), .int .u64 (tn (A 23)), .int .u64 (tn (A 24))] = kV (flipK A 20 b) := by unfold kV flipK; rfl
theorem flF_21 (A : K25) (b : W64) : Value.agg #[.int .u64 (tn (A 0)), .int .u64 (tn (A 1)), .int .u64 (tn (A 2)), .int .u64 (tn (A 3)), .int .u64 (tn (A 4)), .int .u64 (tn (A 5)), .int .u64 (tn (A 6)), .int .u64 (tn (A 7)), .int .u64 (tn (A 8)), .int .u64 (tn (A 9)), .int .u64 (tn (A 10)), .int .u64 (tn (A 11)), .int .u64 (tn (A 12)), .int .u64 (tn (A 13)), .int .u64 (tn (A 14)), .int .u64 (tn (A 15)), .int .u64 (tn (A 16)), .int .u64 (tn (A 17)), .int .u64 (tn (A 18)), .int .u64 (tn (A 19)), .int .u64 (tn (A 20)), .int .u64 (tn (A 21 ^^^ b)), .int .u64 (tn (A 22)), .int .u64 (tn (A 23)), .int .u64 (tn (A 24))] = kV (flipK A 21 b) := by unfold kV flipK; rfl
theorem flF_22 (A : K25) (b : W64) : Value.agg #[.int .u64 (tn (A 0)), .int .u64 (tn (A 1)), .int .u64 (tn (A 2)), .int .u64 (tn (A 3)), .int .u64 (tn (A 4)), .int .u64 (tn (A 5)), .int .u64 (tn (A 6)), .int .u64 (tn (A 7)), .int .u64 (tn (A 8)), .int .u64 (tn (A 9)), .int .u64 (tn (A 10)), .int .u64 (tn (A 11)), .int .u64 (tn (A 12)), .int .u64 (tn (A 13)), .int .u64 (tn (A 14)), .int .u64 (tn (A 15)), .int .u64 (tn (A 16)), .int .u64 (tn (A 17)), .int .u64 (tn (A 18)), .int .u64 (tn (A 19)), .int .u64 (tn (A 20)), .int .u64 (tn (A 21)), .int .u64 (tn (A 22 ^^^ b)), .int .u64 (tn (A 23)), .int .u64 (tn (A 24))] = kV (flipK A 22 b) := by unfold kV flipK; rfl
theorem flF_23 (A : K25) (b : W64) : Value.agg #[.int .u64 (tn (A 0)), .int .u64 (tn (A 1)), .int .u64 (tn (A 2)), .int .u64 (tn (A 3)), .int .u64 (tn (A 4)), .int .u64 (tn (A 5)), .int .u64 (tn (A 6)), .int .u64 (tn (A 7)), .int .u64 (tn (A 8)), .int .u64 (tn (A 9)), .int .u64 (tn (A 10)), .int .u64 (tn (A 11)), .int .u64 (tn (A 12)), .int .u64 (tn (A 13)), .int .u64 (tn (A 14)), .int .u64 (tn (A 15)), .int .u64 (tn (A 16)), .int .u64 (tn (A 17)), .int .u64 (tn (A 18)), .int .u64 (tn (A 19)), .int .u64 (tn (A 20)), .int .u64 (tn (A 21)), .int .u64 (tn (A 22)), .int .u64 (tn (A 23 ^^^ b)), .int .u64 (tn (A 24))] = kV (flipK A 23 b) := by unfold kV flipK; rfl
theorem flF_24 (A : K25) (b : W64) : Value.agg #[.int .u64 (tn (A 0)), .int .u64 (tn (A 1)), .int .u64 (tn (A 2)), .int .u64 (tn (A 3)), .int .u64 (tn (A 4)), .int .u64 (tn (A 5)), .int .u64 (tn (A 6)), .int .u64 (tn (A 7)), .int .u64 (tn (A 8)), .int .u64 (tn (A 9)), .int .u64 (tn (A 10)), .int .u64 (tn (A 11)), .int .u64 (tn (A 12)), .int .u64 (tn (A 13)), .int .u64 (tn (A 14)), .int .u64 (tn (A 15)), .int .u64 (tn (A 16)), .int .u64 (tn (A 17)), .int .u64 (tn (A 18)), .int .u64 (tn (A 19)), .int .u64 (tn (A 20)), .int .u64 (tn (A 21)), .int .u64 (tn (A 22)), .int .u64 (tn (A 23)), .int .u64 (tn (A 24 ^^^ b))] = kV (flipK A 24 b) := by unfold kV flipK; rfl
set_option maxHeartbeats 400000000 in
theorem turnsL_ok (A : K25) (i n : Int) (hi1 : -9223372036854775808 ≤ i) (hi2 : i < 9223372036854775808) (hn1 : 0 ≤ n) (hn2 : n < 18446744073709551616) : Spec Try.prog 5 [.pl (kV A), .pl (.int .i64 i), .pl (.int .u64 n)] (.one (.pl (.bool true))) := by
  have hΓ : Env.ok [(10, mixG), (7, trueG)] Try.prog := ok_cons mix_ok (ok_cons alive_ok (ok_nil _))
  obtain ⟨b, rfl⟩ : ∃ b, n = tn b := ⟨nt n, (tn_nt (okW_of hn1 hn2)).symm⟩
  obtain ⟨k, hk, hk2⟩ : ∃ k : Nat, i % 25 = (k : Int) ∧ k < 25 := ⟨(i % 25).toNat, by omega, by omega⟩
  have e1 : IntKind.i64.wrap (i.tmod 25 + 25) = i.tmod 25 + 25 := by
    have := Int.tmod_lt_of_pos i (b := 25) (by omega)
    have h2 := Int.lt_tmod_of_pos i (b := 25) (by omega)
    exact i64_in (by omega) (by omega)
  have e2 : (i.tmod 25 + 25).tmod 25 = (k : Int) := by
    rw [Int.tmod_eq_emod_of_nonneg (by have := Int.lt_tmod_of_pos i (b := 25) (by omega); omega), ← hk]
    have := Int.tmod_eq_emod (a := i) (b := 25)
    rw [this]
    split <;> omega
  have hf := kV_fold A
  have hF := flip_eq A k hk2 b
  have hb0 : (tn b == 0) = decide (b = 0#64) := by
    rw [Bool.eq_iff_iff]
    simp only [beq_iff_eq, decide_eq_true_eq]
    constructor
    · intro h
      have : tn b = tn 0#64 := by rw [h, tn_eq]; rfl
      exact tn_inj this
    · rintro rfl; rw [tn_eq]; rfl
  have hx : k = 0 ∨ k = 1 ∨ k = 2 ∨ k = 3 ∨ k = 4 ∨ k = 5 ∨ k = 6 ∨ k = 7 ∨ k = 8 ∨ k = 9 ∨ k = 10 ∨ k = 11 ∨ k = 12 ∨ k = 13 ∨ k = 14 ∨ k = 15 ∨ k = 16 ∨ k = 17 ∨ k = 18 ∨ k = 19 ∨ k = 20 ∨ k = 21 ∨ k = 22 ∨ k = 23 ∨ k = 24 := by omega
  clear hk
  rcases hx with rfl | rfl | rfl | rfl | rfl | rfl | rfl | rfl | rfl | rfl | rfl | rfl | rfl | rfl | rfl | rfl | rfl | rfl | rfl | rfl | rfl | rfl | rfl | rfl | rfl
  all_goals
    refine Spec.of_vx hΓ follows_mixed Try.func5 rfl (by kernel_rfl) (T := []) (by simp [Try.ntmps5]) (by kernel_rfl) rfl Try.ntmps5 (res := [.tmp 6]) rfl ?_
    intro W
    simp -implicitDefEqProofs (maxSteps := 100000000) only [e1, e2, ↓binK_eqA, vy_succ, vy_zero, vx_skip, vx_reg0, vx_reg1, vx_ord, xx_done, xx_stop, xx_alt, vx_seq, vx_cond, vx_block, vx_exit, vx_ret, vx_loop, gx_nil, gx_cons, dx_nil, dx_cons, slim, slimOp, gO, gSO, qSO, quietOp, cx_nil, cx_cons, xx_alc, cS, qSB, eK, calmOp, guardS, gK, qK, putK, plK, dOk, St.ev, St.get, St.mem, St.set, St.setm, St.put, lookA, look, newK, nextver, initT, seqE, blockQ, bodyQ, resK, retV, AV.rdv, cells_agg, cells_int, cells_bool, cells_string, cells_slice, cells_uV, agg_uV, isNil_uV, toN_uV, i64_in, IntKind.wrap_u64, IntKind.wrap_u8, IntKind.wrap_u32, ↓binK, ↓intK, unK, ↓loadK, ↓withKey_eq, ↓idxAddrK, ↓indexK, ↓partK, ↓fieldK, ↓fieldAddrK, ↓convK, ↓callK, wrG, updK, ↓lenK, ↓mmK, ↓appK, ↓copyK, ↓sliceK, ↓toArrK, nilK, optK_some, optK_tup, optK_ite, evs, plains, seqParts, capsOf, capsD, List.append_nil, List.nil_append, List.cons_append, AV.dv, AV.cont, isNil_agg, isNil_int, isNil_bool, isNil_string, isNil_nil, isNil_slice, ↓buildV_eq, fillL, placesOf, Option.map_some, Option.map_none, ↓storeK, wrL, RV.av, DV.av, List.set, List.map_cons, List.map_nil, List.length_cons, List.length_nil, List.all_cons, List.all_nil, List.getElem?_cons_zero, List.getElem?_cons_succ, List.getElem?_nil, List.size_toArray, List.getElem?_toArray, List.drop_zero, List.drop_succ_cons, List.take_zero, List.take_succ_cons, Option.getD_some, Option.getD_none, Option.some.injEq, Option.isSome_some, Nat.reduceEqDiff, Nat.reduceAdd, Nat.reduceSub, Nat.reduceMul, Nat.reduceLT, Nat.reduceLeDiff, Nat.reduceMod, Nat.reduceDiv, Int.cast_ofNat_Int, Int.reduceLT, Int.reduceLE, Int.reduceToNat, ↓reduceIte, true_and, and_true, true_or, or_true, or_false, false_or, reduceCtorEq, Bool.false_eq_true, Bool.and_true, Bool.not_true, Bool.not_false, beq_self_eq_true, Bool.true_beq, Bool.false_beq, Value.oneCell', decide_true, decide_false, Int.reduceAdd, Int.reduceSub, Int.reduceMod, Int.reduceMul, Int.reduceNeg, Int.reduceBEq, Int.reduceBNe, Int.reduceTDiv, Int.reduceTMod, ne_eq, not_false_eq_true, not_true_eq_false, Int.reduceEq, Nat.zero_add, Nat.add_zero, Nat.le_refl, Try.underlying2, s_2, g_2, z_2, Try.underlying3, s_3, g_3, z_3, Try.underlying4, s_4, g_4, z_4, Try.underlying5, s_5, g_5, z_5, Try.underlying9, s_9, g_9, z_9, Try.underlying12, s_12, g_12, z_12, Try.underlying13, s_13, g_13, z_13, q_13, Try.underlying21, s_21, g_21, z_21, Try.underlying25, s_25, g_25, z_25, Try.underlying26, s_26, g_26, z_26, q_26, Try.underlying32, s_32, g_32, l_32, r_32, Try.underlying34, s_34, g_34, z_34, Try.underlying35, s_35, g_35, z_35, q_35, Try.underlying38, s_38, g_38, z_38, q_38, Try.underlying42, s_42, g_42, l_42, r_42, Try.underlying44, s_44, g_44, z_44, q_44, Try.underlying57, s_57, g_57, l_57, r_57, Try.underlying69, s_69, g_69, z_69, cells_kV, hf, isNil_kV, mixG, trueG, toK_kV, mixN_24, hF, hb0, bits_xor_tn, Int.natCast_zero, Int.natCast_one, flF_0, flF_1, flF_2, flF_3, flF_4, flF_5, flF_6, flF_7, flF_8, flF_9, flF_10, flF_11, flF_12, flF_13, flF_14, flF_15, flF_16, flF_17, flF_18, flF_19, flF_20, flF_21, flF_22, flF_23, flF_24]
end Go.Vm
