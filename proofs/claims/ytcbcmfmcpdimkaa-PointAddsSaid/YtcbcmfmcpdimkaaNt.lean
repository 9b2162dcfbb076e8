/- Plain number theory: the little theorem of Fermat, and a certificate for primes. No condition. -/
import Derived.WalkKit
set_option maxRecDepth 100000
namespace Go.Vm

def Prm (p : Nat) : Prop := 1 < p ∧ ∀ d, d ∣ p → d = 1 ∨ d = p

theorem Prm.coprime {p k : Nat} (h : Prm p) (hk : ¬ p ∣ k) : Nat.gcd p k = 1 := by
  rcases h.2 _ (Nat.gcd_dvd_left p k) with h1 | h1
  · exact h1
  · exact absurd (h1 ▸ Nat.gcd_dvd_right p k) hk
theorem Prm.dvd_mul {p a b : Nat} (h : Prm p) (hab : p ∣ a * b) : p ∣ a ∨ p ∣ b := by
  by_cases ha : p ∣ a
  · exact .inl ha
  · exact .inr (Nat.Coprime.dvd_of_dvd_mul_left (h.coprime ha) hab)

/-! ### Sums and binomials -/
def sm (f : Nat → Nat) : Nat → Nat
  | 0 => 0
  | n + 1 => sm f n + f n
def ch : Nat → Nat → Nat
  | _, 0 => 1
  | 0, _ + 1 => 0
  | n + 1, k + 1 => ch n k + ch n (k + 1)
theorem sm_shift (f : Nat → Nat) : ∀ n, sm f (n + 1) = f 0 + sm (fun k => f (k + 1)) n
  | 0 => by simp [sm]
  | n + 1 => by
    have := sm_shift f n
    simp only [sm] at this ⊢
    omega
theorem sm_add (f g : Nat → Nat) : ∀ n, sm (fun k => f k + g k) n = sm f n + sm g n
  | 0 => rfl
  | n + 1 => by simp only [sm, sm_add f g n]; omega
theorem sm_mul (c : Nat) (f : Nat → Nat) : ∀ n, sm (fun k => f k * c) n = sm f n * c
  | 0 => by simp [sm]
  | n + 1 => by simp only [sm, sm_mul c f n, Nat.add_mul]
theorem sm_congr {f g : Nat → Nat} (h : ∀ k, f k = g k) (n : Nat) : sm f n = sm g n := by
  have : f = g := funext h
  rw [this]
theorem ch_0 (n : Nat) : ch n 0 = 1 := by cases n <;> rfl
theorem ch_big : ∀ (n k : Nat), n < k → ch n k = 0
  | 0, 0, h => by omega
  | 0, _ + 1, _ => rfl
  | _ + 1, 0, h => by omega
  | n + 1, k + 1, h => by
    simp only [ch]
    rw [ch_big n k (by omega), ch_big n (k + 1) (by omega)]
theorem ch_self : ∀ n, ch n n = 1
  | 0 => rfl
  | n + 1 => by simp only [ch]; rw [ch_self n, ch_big n (n + 1) (by omega)]
theorem ch_mul : ∀ (n k : Nat), (k + 1) * ch (n + 1) (k + 1) = (n + 1) * ch n k
  | 0, 0 => rfl
  | 0, k + 1 => by simp [ch]
  | n + 1, 0 => by
    have h1 := ch_mul n 0
    simp only [ch, ch_0] at h1 ⊢
    omega
  | n + 1, k + 1 => by
    have h1 := ch_mul n k
    have h2 := ch_mul n (k + 1)
    have e1 : ch (n + 2) (k + 2) = ch (n + 1) (k + 1) + ch (n + 1) (k + 2) := rfl
    have e2 : ch (n + 1) (k + 1) = ch n k + ch n (k + 1) := rfl
    rw [e1, Nat.mul_add]
    have h3 : (k + 1 + 1) * ch (n + 1) (k + 1) = (k + 1) * ch (n + 1) (k + 1) + ch (n + 1) (k + 1) := by rw [Nat.add_mul (k + 1) 1, Nat.one_mul]
    have h4 : (n + 1 + 1) * ch (n + 1) (k + 1) = (n + 1) * ch (n + 1) (k + 1) + ch (n + 1) (k + 1) := by rw [Nat.add_mul (n + 1) 1, Nat.one_mul]
    have h5 : (n + 1) * ch (n + 1) (k + 1) = (n + 1) * ch n k + (n + 1) * ch n (k + 1) := by rw [e2, Nat.mul_add]
    have h2' : (k + 1 + 1) * ch (n + 1) (k + 2) = (n + 1) * ch n (k + 1) := h2
    rw [h2', h3, h1, h4, h5]
    omega
theorem binom (x : Nat) : ∀ n, (x + 1) ^ n = sm (fun k => ch n k * x ^ k) (n + 1)
  | 0 => by simp [sm, ch]
  | n + 1 => by
    have ih := binom x n
    have e1 : sm (fun k => ch (n + 1) k * x ^ k) (n + 1 + 1) = 1 + sm (fun k => ch (n + 1) (k + 1) * x ^ (k + 1)) (n + 1) := by
      rw [sm_shift]; simp [ch_0]
    have e2 : sm (fun k => ch (n + 1) (k + 1) * x ^ (k + 1)) (n + 1) = sm (fun k => ch n k * x ^ k * x + ch n (k + 1) * x ^ (k + 1)) (n + 1) :=
      sm_congr (fun k => by simp only [ch, Nat.add_mul, Nat.pow_succ, Nat.mul_assoc]) _
    have e3 : sm (fun k => ch n k * x ^ k) (n + 1 + 1) = 1 + sm (fun k => ch n (k + 1) * x ^ (k + 1)) (n + 1) := by
      rw [sm_shift]; simp [ch_0]
    have e4 : sm (fun k => ch n k * x ^ k) (n + 1 + 1) = sm (fun k => ch n k * x ^ k) (n + 1) := by
      show sm (fun k => ch n k * x ^ k) (n + 1) + ch n (n + 1) * x ^ (n + 1) = _
      rw [ch_big n (n + 1) (by omega), Nat.zero_mul, Nat.add_zero]
    rw [e1, e2, sm_add, sm_mul, Nat.pow_succ, Nat.mul_add, Nat.mul_one, ← ih]
    rw [← ih, e3] at e4
    omega
theorem sm_dvd {p : Nat} {f : Nat → Nat} : ∀ n, (∀ k, k < n → p ∣ f k) → p ∣ sm f n
  | 0, _ => Nat.dvd_zero p
  | n + 1, h => Nat.dvd_add (sm_dvd n (fun k hk => h k (by omega))) (h n (by omega))

theorem ch_dvd {p : Nat} (h : Prm p) (k : Nat) (hk : k + 1 < p) : p ∣ ch p (k + 1) := by
  obtain ⟨q, rfl⟩ : ∃ q, p = q + 1 := ⟨p - 1, by have := h.1; omega⟩
  have h1 : (q + 1) ∣ (k + 1) * ch (q + 1) (k + 1) := ⟨ch q k, ch_mul q k⟩
  rcases h.dvd_mul h1 with h2 | h2
  · have := Nat.le_of_dvd (by omega) h2; omega
  · exact h2
theorem frob {p : Nat} (h : Prm p) (x : Nat) : (x + 1) ^ p % p = (x ^ p + 1) % p := by
  obtain ⟨q, rfl⟩ : ∃ q, p = q + 1 := ⟨p - 1, by have := h.1; omega⟩
  rw [binom, sm_shift]
  show ((ch (q + 1) 0 * x ^ 0) + (sm (fun k => ch (q + 1) (k + 1) * x ^ (k + 1)) q + ch (q + 1) (q + 1) * x ^ (q + 1))) % (q + 1) = _
  obtain ⟨m, hm⟩ := sm_dvd (p := q + 1) (f := fun k => ch (q + 1) (k + 1) * x ^ (k + 1)) q (fun k hk => Nat.dvd_trans (ch_dvd h k (by omega)) (Nat.dvd_mul_right _ _))
  rw [hm, ch_self, ch_0, Nat.pow_zero]
  simp only [Nat.one_mul, Nat.mul_one]
  rw [show 1 + ((q + 1) * m + x ^ (q + 1)) = x ^ (q + 1) + 1 + (q + 1) * m by omega, Nat.add_mul_mod_self_left]
theorem fermat_p {p : Nat} (h : Prm p) : ∀ a, a ^ p % p = a % p
  | 0 => by rw [Nat.zero_pow (by have := h.1; omega)]
  | a + 1 => by rw [frob h a, Nat.add_mod, fermat_p h a, ← Nat.add_mod]
theorem fermat {p : Nat} (h : Prm p) {a : Nat} (ha : ¬ p ∣ a) : a ^ (p - 1) % p = 1 := by
  have h1 := fermat_p h a
  have hp := h.1
  obtain ⟨q, rfl⟩ : ∃ q, p = q + 1 := ⟨p - 1, by omega⟩
  rw [Nat.add_sub_cancel]
  have h0 : 0 < a ^ q := Nat.pow_pos (by rcases Nat.eq_zero_or_pos a with e | e; · subst e; exact absurd (Nat.dvd_zero _) ha
                                         · exact e)
  have h2 : (q + 1) ∣ a * (a ^ q - 1) := by
    have h3 : a ^ (q + 1) = a * (a ^ q - 1) + a := by
      rw [Nat.pow_succ, Nat.mul_comm, Nat.mul_sub, Nat.mul_one]
      have : a ≤ a * a ^ q := Nat.le_mul_of_pos_right a h0
      omega
    have h4 := Nat.sub_mod_eq_zero_of_mod_eq h1
    rw [h3, Nat.add_sub_cancel] at h4
    exact Nat.dvd_of_mod_eq_zero h4
  rcases h.dvd_mul h2 with h3 | h3
  · exact absurd h3 ha
  · obtain ⟨m, hm⟩ := h3
    have : a ^ q = 1 + (q + 1) * m := by omega
    rw [this, Nat.add_mul_mod_self_left, Nat.mod_eq_of_lt hp]
end Go.Vm
