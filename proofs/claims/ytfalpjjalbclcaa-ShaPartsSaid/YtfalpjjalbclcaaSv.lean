/- What the document's digits are worth: powers, comparing, roots. No condition. -/
import Derived.Test.YtfalpjjalbclcaaSf
set_option maxRecDepth 100000
set_option linter.unusedSimpArgs false
set_option linter.unusedVariables false
namespace Go.Vm
open Go Go.RowKit Go.Proofs

def V6 : List Nat → Nat
  | [] => 0
  | d :: r => d + 65536 * V6 r
theorem tA_V : ∀ (a : List Nat) (b c : Nat), (∀ x ∈ a, x < 65536) → b < 65536 → c < 65536 → V6 (tA a b c) = V6 a * b + c
  | [], b, c, _, _, hc => by
    unfold tA
    split
    · simp [V6]; omega
    · simp [V6]; omega
  | d :: r, b, c, ha, hb, hc => by
    have hd : d < 65536 := ha d (by simp)
    have h1 : d * b ≤ 65535 * 65535 := Nat.mul_le_mul (by omega) (by omega)
    unfold tA
    rw [V6, tA_V r b _ (fun x hx => ha x (by simp [hx])) hb (by omega), V6, Nat.add_mul, Nat.mul_assoc, Nat.mul_add]
    have := Nat.mod_add_div (c + d * b) 65536
    omega
def sg (f : Nat → Nat) : Nat → Nat → Nat
  | 0, _ => 0
  | r + 1, k => f k + 65536 * sg f r (k + 1)
theorem sg_congr {f g : Nat → Nat} (h : ∀ i, f i = g i) : ∀ r k, sg f r k = sg g r k
  | 0, _ => rfl
  | r + 1, k => by unfold sg; rw [h, sg_congr h r]
theorem sg_add (f g : Nat → Nat) : ∀ r k, sg (fun i => f i + g i) r k = sg f r k + sg g r k
  | 0, _ => rfl
  | r + 1, k => by unfold sg; rw [sg_add f g r]; omega
theorem sg_list (l : List Nat) : ∀ r k, l.length ≤ k + r → sg (fun i => l[i]?.getD 0) r k = V6 (l.drop k)
  | 0, k, h => by rw [List.drop_of_length_le (by omega)]; rfl
  | r + 1, k, h => by
    unfold sg
    rw [sg_list l r (k + 1) (by omega)]
    by_cases hk : k < l.length
    · rw [List.drop_eq_getElem_cons hk, V6, List.getElem?_eq_getElem hk]; rfl
    · rw [List.drop_of_length_le (by omega), List.drop_of_length_le (by omega), List.getElem?_eq_none (by omega)]; rfl
theorem sg_shift (f : Nat → Nat) (c : Nat) : ∀ r k, c ≤ k → sg (fun i => if c ≤ i then f (i - c) else 0) r k = sg f r (k - c)
  | 0, _, _ => rfl
  | r + 1, k, h => by
    unfold sg
    rw [sg_shift f c r (k + 1) (by omega), if_pos h]
    congr 3
    omega
theorem sg_sh1 (b : List Nat) (r : Nat) (h : b.length ≤ r) : sg (fun i => if 1 ≤ i then b[i - 1]?.getD 0 else 0) (r + 1) 0 = 65536 * V6 b := by
  unfold sg
  rw [sg_shift (fun i => b[i]?.getD 0) 1 r 1 (Nat.le_refl _), sg_list b r _ (by omega)]
  simp
theorem sg_sh2 (c : List Nat) (r : Nat) (h : c.length ≤ r) : sg (fun i => if 2 ≤ i then c[i - 2]?.getD 0 else 0) (r + 2) 0 = 4294967296 * V6 c := by
  unfold sg
  unfold sg
  rw [sg_shift (fun i => c[i]?.getD 0) 2 r 2 (Nat.le_refl _), sg_list c r _ (by omega)]
  simp
  omega
theorem smA_V (a b c : List Nat) : ∀ (r k cy : Nat), ∃ q, V6 (smA a b c r k cy) + 65536 ^ r * q = cy + sg (fun i => dP a b c i 0) r k
  | 0, k, cy => ⟨cy, by simp [smA, V6, sg]⟩
  | r + 1, k, cy => by
    obtain ⟨q, hq⟩ := smA_V a b c r (k + 1) (dP a b c k cy / 65536)
    refine ⟨q, ?_⟩
    unfold smA sg
    rw [V6]
    have h1 : dP a b c k cy = cy + dP a b c k 0 := by unfold dP; omega
    have h2 := Nat.mod_add_div (dP a b c k cy) 65536
    have h3 : 65536 ^ (r + 1) * q = 65536 * (65536 ^ r * q) := by rw [Nat.pow_succ, Nat.mul_comm (65536 ^ r), Nat.mul_assoc]
    rw [h3]
    omega
theorem V6_lt : ∀ (l : List Nat), (∀ x ∈ l, x < 65536) → V6 l < 65536 ^ l.length
  | [], _ => by simp [V6]
  | d :: r, h => by
    have h1 := V6_lt r (fun x hx => h x (by simp [hx]))
    have hd : d < 65536 := h d (by simp)
    rw [V6, List.length_cons, Nat.pow_succ]
    omega
theorem stp_V (n : Nat) (out : List Nat) (hn : n < 281474976710656) (ho : ∀ x ∈ out, x < 65536) : V6 (stpP n out) = V6 out * n := by
  unfold stpP
  obtain ⟨q, hq⟩ := smA_V (tA out (n % 65536) 0) (tA out (n / 65536 % 65536) 0) (tA out (n / 4294967296) 0) (out.length + 4) 0 0
  have va := tA_V out (n % 65536) 0 ho (by omega) (by omega)
  have vb := tA_V out (n / 65536 % 65536) 0 ho (by omega) (by omega)
  have vc := tA_V out (n / 4294967296) 0 ho (by omega) (by omega)
  have la := tA_len out (n % 65536) 0
  have lb := tA_len out (n / 65536 % 65536) 0
  have lc := tA_len out (n / 4294967296) 0
  generalize hA : tA out (n % 65536) 0 = a at *
  generalize hB : tA out (n / 65536 % 65536) 0 = b at *
  generalize hC : tA out (n / 4294967296) 0 = c at *
  have e : sg (fun i => dP a b c i 0) (out.length + 4) 0 = V6 a + 65536 * V6 b + 4294967296 * V6 c := by
    have h0 : ∀ i, dP a b c i 0 = (fun i => (fun i => a[i]?.getD 0) i + (fun i => if 1 ≤ i then b[i - 1]?.getD 0 else 0) i) i + (fun i => if 2 ≤ i then c[i - 2]?.getD 0 else 0) i := fun i => by
      show dP a b c i 0 = a[i]?.getD 0 + (if 1 ≤ i then b[i - 1]?.getD 0 else 0) + (if 2 ≤ i then c[i - 2]?.getD 0 else 0)
      unfold dP
      omega
    rw [sg_congr h0, sg_add, sg_add, sg_list a _ 0 (by omega), sg_sh1 b (out.length + 3) (by omega), sg_sh2 c (out.length + 2) (by omega), List.drop_zero]
  rw [e, va, vb, vc] at hq
  have hsum : V6 out * n = V6 out * (n % 65536) + 65536 * (V6 out * (n / 65536 % 65536)) + 4294967296 * (V6 out * (n / 4294967296)) := by
    have h1 : n = n % 65536 + 65536 * (n / 65536 % 65536) + 4294967296 * (n / 4294967296) := by omega
    conv => lhs; rw [h1]
    rw [Nat.mul_add, Nat.mul_add, Nat.mul_left_comm (V6 out) 65536, Nat.mul_left_comm (V6 out) 4294967296]
  have hlt : V6 out * n < 65536 ^ (out.length + 4) := by
    have h1 := V6_lt out ho
    have h2 : V6 out * n ≤ 65536 ^ out.length * n := Nat.mul_le_mul_right _ (by omega)
    have h3 : 65536 ^ out.length * n < 65536 ^ out.length * 65536 ^ 4 := Nat.mul_lt_mul_of_pos_left (by
      have : (65536 : Nat) ^ 4 = 18446744073709551616 := by decide
      omega) (Nat.pow_pos (by omega))
    rw [Nat.pow_add]
    omega
  have hq0 : q = 0 := by
    rcases Nat.eq_zero_or_pos q with h | h
    · exact h
    · exfalso
      have h1 : 65536 ^ (out.length + 4) * 1 ≤ 65536 ^ (out.length + 4) * q := Nat.mul_le_mul_left _ h
      omega
  subst hq0
  omega
theorem pw_V (n : Nat) (hn : n < 281474976710656) : ∀ o, V6 (pwF n o) = n ^ o
  | 0 => rfl
  | o + 1 => by
    have hb := pwS_blw n o
    rw [blw_iff, pwS_eq] at hb
    rw [pwF, stp_V n _ hn hb, pw_V n hn o, Nat.pow_succ]
theorem sg_snoc (f : Nat → Nat) : ∀ r k, sg f (r + 1) k = sg f r k + f (k + r) * 65536 ^ r
  | 0, k => by simp [sg]
  | r + 1, k => by
    rw [sg, sg_snoc f r (k + 1), sg, Nat.pow_succ, Nat.mul_add]
    have e1 : k + 1 + r = k + (r + 1) := by omega
    have e2 : 65536 * (f (k + (r + 1)) * 65536 ^ r) = f (k + (r + 1)) * (65536 ^ r * 65536) := by
      rw [Nat.mul_comm (65536 ^ r), Nat.mul_left_comm]
    rw [e1, e2]
    omega
theorem sg_lt (f : Nat → Nat) (h : ∀ i, f i < 65536) : ∀ r k, sg f r k < 65536 ^ r
  | 0, _ => by simp [sg]
  | r + 1, k => by
    have h1 := sg_lt f h r (k + 1)
    have h2 := h k
    rw [sg, Nat.pow_succ]
    omega
theorem ab_sg (a b : List Nat) (ha : blw a = true) (hb : blw b = true) : ∀ k, abF a b k = decide (sg (fun i => b[i]?.getD 0) k 0 < sg (fun i => a[i]?.getD 0) k 0)
  | 0 => by simp [abF, sg]
  | k + 1 => by
    unfold abF
    rw [sg_snoc, sg_snoc, Nat.zero_add, ab_sg a b ha hb k]
    have la := sg_lt (fun i => a[i]?.getD 0) (blw_get ha) k 0
    have lb := sg_lt (fun i => b[i]?.getD 0) (blw_get hb) k 0
    generalize sg (fun i => a[i]?.getD 0) k 0 = A at *
    generalize sg (fun i => b[i]?.getD 0) k 0 = B at *
    generalize a[k]?.getD 0 = x at *
    generalize b[k]?.getD 0 = y at *
    generalize 65536 ^ k = M at *
    split
    · rename_i e; subst e
      rw [decide_eq_decide]; omega
    · rename_i e
      rw [decide_eq_decide]
      constructor
      · intro h
        have : (y + 1) * M ≤ x * M := Nat.mul_le_mul_right _ h
        rw [Nat.add_mul] at this
        omega
      · intro h
        rcases Nat.lt_or_ge y x with h2 | h2
        · exact h2
        · exfalso
          have : (x + 1) * M ≤ y * M := Nat.mul_le_mul_right _ (by omega)
          rw [Nat.add_mul] at this
          omega
theorem ab_V (a b : List Nat) (ha : blw a = true) (hb : blw b = true) (la : a.length ≤ 20) (lb : b.length ≤ 20) : abF a b 20 = decide (V6 b < V6 a) := by
  rw [ab_sg a b ha hb, sg_list a 20 0 (by omega), sg_list b 20 0 (by omega), List.drop_zero, List.drop_zero]
theorem V6_wh (p : Nat) : ∀ k, V6 (List.replicate k 0 ++ [p]) = p * 65536 ^ k
  | 0 => by simp [V6]
  | k + 1 => by rw [List.replicate_succ, List.cons_append, V6, V6_wh p k, Nat.pow_succ]; rw [Nat.mul_comm (65536 ^ k), Nat.mul_left_comm]; omega

theorem rt_spec (p o : Nat) (ho : o ≤ 4) (hp : p < 65536) : ∀ (b n : Nat), n + 2 ^ b ≤ 2199023255552 → n ^ o ≤ p * 65536 ^ (2 * o) → p * 65536 ^ (2 * o) < (n + 2 ^ b) ^ o →
    (rtF (whL p o) o b n) ^ o ≤ p * 65536 ^ (2 * o) ∧ p * 65536 ^ (2 * o) < (rtF (whL p o) o b n + 1) ^ o
  | 0, n, _, h1, h2 => ⟨h1, h2⟩
  | b + 1, n, h0, h1, h2 => by
    unfold rtF
    rw [Nat.pow_succ] at h0 h2
    have pp : 0 < 2 ^ b := Nat.two_pow_pos b
    have hlen : (pwF (n + 2 ^ b) o).length ≤ 20 := by
      have := pwS_len (n + 2 ^ b) o
      rw [pwS_eq] at this
      omega
    have hb1 : blw (pwF (n + 2 ^ b) o) = true := by have := pwS_blw (n + 2 ^ b) o; rw [pwS_eq] at this; exact this
    have hb2 : blw (whL p o) = true := by
      rw [blw_iff]
      intro x hx
      rcases List.mem_append.1 hx with h | h
      · rw [List.mem_replicate] at h; omega
      · simp at h; omega
    have hab := ab_V _ _ hb1 hb2 hlen (by unfold whL; simp; omega)
    have hv : V6 (whL p o) = p * 65536 ^ (2 * o) := V6_wh p (2 * o)
    rw [hab, pw_V _ (by omega), hv]
    by_cases h : p * 65536 ^ (2 * o) < (n + 2 ^ b) ^ o
    · rw [if_pos (decide_eq_true h)]
      exact rt_spec p o ho hp b n (by omega) h1 h
    · rw [if_neg (by simpa using h)]
      refine rt_spec p o ho hp b (n + 2 ^ b) (by omega) (by omega) ?_
      have e : n + 2 ^ b + 2 ^ b = n + 2 ^ b * 2 := by omega
      rw [e]
      exact h2
theorem rt_uniq (P o r s : Nat) (h1 : r ^ o ≤ P) (h2 : P < (r + 1) ^ o) (h3 : s ^ o ≤ P) (h4 : P < (s + 1) ^ o) : r = s := by
  rcases Nat.lt_trichotomy r s with h | h | h
  · exfalso
    have := Nat.pow_le_pow_left (show r + 1 ≤ s from h) o
    omega
  · exact h
  · exfalso
    have := Nat.pow_le_pow_left (show s + 1 ≤ r from h) o
    omega
theorem rtS_of (p o r : Nat) (ho : o ≤ 4) (ho1 : 0 < o) (hp : p < 65536) (h0 : p * 65536 ^ (2 * o) < 2199023255552 ^ o) (h1 : r ^ o ≤ p * 65536 ^ (2 * o)) (h2 : p * 65536 ^ (2 * o) < (r + 1) ^ o) : rtS p o = BitVec.ofNat 32 r := by
  have e : (2 : Nat) ^ 41 = 2199023255552 := by decide
  obtain ⟨h3, h4⟩ := rt_spec p o ho hp 41 0 (by rw [e]; omega) (by rw [Nat.zero_pow ho1]; omega) (by rw [e, Nat.zero_add]; exact h0)
  rw [rtS_eq]
  simp only
  rw [rt_uniq _ _ _ _ h3 h4 h1 h2]
end Go.Vm
