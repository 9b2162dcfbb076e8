/- Grouping does not matter: the identity on three points of the curve, by the values of polynomials. No condition. -/
import Derived.Test.YtcbcmfmcpdimkaaNt
set_option maxRecDepth 100000
set_option linter.unusedVariables false
namespace Go.Ec

def PP : Nat := 115792089237316195423570985008687907853269984665640564039457584007908834671663
abbrev Fp := Fin 115792089237316195423570985008687907853269984665640564039457584007908834671663

/-! ### Polynomials of three variables with natural coefficients, by their values at one place -/
abbrev KM := Nat × Nat × Nat × Nat
def kB : Nat := 2 ^ 160
def kD : Nat := 24
def kKey (m : KM) : Nat := m.2.1 + kD * m.2.2.1 + kD * kD * m.2.2.2
def kN : List KM → Nat
  | [] => 0
  | m :: l => m.1 * kB ^ kKey m + kN l
def nc (c : Nat) : Fp := Fin.ofNat 115792089237316195423570985008687907853269984665640564039457584007908834671663 c
theorem nc_add (a b : Nat) : nc (a + b) = nc a + nc b := by
  apply Fin.ext
  simp [nc, Fin.val_add, Fin.ofNat]
theorem nc_mul (a b : Nat) : nc (a * b) = nc a * nc b := by
  apply Fin.ext
  simp [nc, Fin.val_mul, Fin.ofNat, Nat.mul_mod]
theorem nc_0 : nc 0 = 0 := rfl
theorem nc_1 : nc 1 = 1 := rfl
def fpow (x : Fp) : Nat → Fp
  | 0 => 1
  | n + 1 => fpow x n * x
theorem fpow_add (x : Fp) (a : Nat) : ∀ b, fpow x (a + b) = fpow x a * fpow x b
  | 0 => by simp only [Nat.add_zero, fpow]; grobner
  | b + 1 => by rw [← Nat.add_assoc, fpow, fpow_add x a b, fpow]; grobner
def kMon (x1 x2 x3 : Fp) (m : KM) : Fp := fpow x1 m.2.1 * fpow x2 m.2.2.1 * fpow x3 m.2.2.2
def kF (x1 x2 x3 : Fp) : List KM → Fp
  | [] => 0
  | m :: l => nc m.1 * kMon x1 x2 x3 m + kF x1 x2 x3 l
def kSum : List KM → Nat
  | [] => 0
  | m :: l => m.1 + kSum l
abbrev D3 := Nat × Nat × Nat
def kLe (d : D3) (l : List KM) : Prop := ∀ m ∈ l, m.2.1 ≤ d.1 ∧ m.2.2.1 ≤ d.2.1 ∧ m.2.2.2 ≤ d.2.2
def kMul1 (m n : KM) : KM := (m.1 * n.1, m.2.1 + n.2.1, m.2.2.1 + n.2.2.1, m.2.2.2 + n.2.2.2)
def kMul : List KM → List KM → List KM
  | [], _ => []
  | m :: l, r => r.map (kMul1 m) ++ kMul l r
theorem kN_app : ∀ (l r : List KM), kN (l ++ r) = kN l + kN r
  | [], r => by simp [kN]
  | m :: l, r => by rw [List.cons_append, kN, kN_app l r, kN]; omega
theorem kN_map (m : KM) : ∀ (r : List KM), kN (r.map (kMul1 m)) = m.1 * kB ^ kKey m * kN r
  | [] => by simp [kN]
  | n :: r => by
    have e : kKey (kMul1 m n) = kKey m + kKey n := by
      simp only [kKey, kMul1, Nat.mul_add]
      omega
    rw [List.map_cons, kN, kN_map m r, kN, e, Nat.pow_add, Nat.mul_add]
    congr 1
    simp only [kMul1]
    ac_rfl
theorem kN_mul : ∀ (l r : List KM), kN (kMul l r) = kN l * kN r
  | [], r => by simp [kN, kMul]
  | m :: l, r => by rw [kMul, kN_app, kN_map, kN_mul l r, kN, Nat.add_mul]
theorem kSum_app : ∀ (l r : List KM), kSum (l ++ r) = kSum l + kSum r
  | [], r => by simp [kSum]
  | m :: l, r => by rw [List.cons_append, kSum, kSum_app l r, kSum]; omega
theorem kSum_map (m : KM) : ∀ (r : List KM), kSum (r.map (kMul1 m)) = m.1 * kSum r
  | [] => by simp [kSum]
  | n :: r => by rw [List.map_cons, kSum, kSum_map m r, kSum, Nat.mul_add]; rfl
theorem kSum_mul : ∀ (l r : List KM), kSum (kMul l r) = kSum l * kSum r
  | [], r => by simp [kSum, kMul]
  | m :: l, r => by rw [kMul, kSum_app, kSum_map, kSum_mul l r, kSum, Nat.add_mul]
theorem kF_app (x1 x2 x3 : Fp) : ∀ (l r : List KM), kF x1 x2 x3 (l ++ r) = kF x1 x2 x3 l + kF x1 x2 x3 r
  | [], r => by simp only [List.nil_append, kF]; grobner
  | m :: l, r => by rw [List.cons_append, kF, kF_app x1 x2 x3 l r, kF]; grobner
theorem kF_map (x1 x2 x3 : Fp) (m : KM) : ∀ (r : List KM), kF x1 x2 x3 (r.map (kMul1 m)) = nc m.1 * kMon x1 x2 x3 m * kF x1 x2 x3 r
  | [] => by simp only [List.map_nil, kF]; grobner
  | n :: r => by
    rw [List.map_cons, kF, kF_map x1 x2 x3 m r, kF]
    have e : kMon x1 x2 x3 (kMul1 m n) = kMon x1 x2 x3 m * kMon x1 x2 x3 n := by
      simp only [kMon, kMul1, fpow_add]
      grobner
    have e2 : nc (kMul1 m n).1 = nc m.1 * nc n.1 := nc_mul _ _
    rw [e, e2]
    grobner
theorem kF_mul (x1 x2 x3 : Fp) : ∀ (l r : List KM), kF x1 x2 x3 (kMul l r) = kF x1 x2 x3 l * kF x1 x2 x3 r
  | [], r => by simp only [kMul, kF]; grobner
  | m :: l, r => by rw [kMul, kF_app, kF_map, kF_mul x1 x2 x3 l r, kF]; grobner
theorem kLe_app {d : D3} {l r : List KM} (h : kLe d l) (h' : kLe d r) : kLe d (l ++ r) := fun m hm => (List.mem_append.1 hm).elim (h m) (h' m)
theorem kLe_mono {d e : D3} {l : List KM} (h : kLe d l) (hd : d.1 ≤ e.1 ∧ d.2.1 ≤ e.2.1 ∧ d.2.2 ≤ e.2.2) : kLe e l := fun m hm => by have := h m hm; omega
theorem kLe_mul {d e : D3} : ∀ {l r : List KM}, kLe d l → kLe e r → kLe (d.1 + e.1, d.2.1 + e.2.1, d.2.2 + e.2.2) (kMul l r)
  | [], r, _, _ => fun m hm => by cases hm
  | a :: l, r, h, h' => by
    refine kLe_app (fun m hm => ?_) (kLe_mul (fun m hm => h m (by simp [hm])) h')
    obtain ⟨n, hn, rfl⟩ := List.mem_map.1 hm
    have h1 := h a (by simp)
    have h2 := h' n hn
    simp only [kMul1]
    omega

/-! The coefficients are the digits -/
def sumTo (f : Nat → Nat) : Nat → Nat
  | 0 => 0
  | n + 1 => sumTo f n + f n
def sumToF (f : Nat → Fp) : Nat → Fp
  | 0 => 0
  | n + 1 => sumToF f n + f n
def tot (k : Nat) : List KM → Nat
  | [] => 0
  | m :: l => (if kKey m = k then m.1 else 0) + tot k l
theorem sumTo_add (f g : Nat → Nat) : ∀ n, sumTo (fun k => f k + g k) n = sumTo f n + sumTo g n
  | 0 => rfl
  | n + 1 => by simp only [sumTo, sumTo_add f g n]; omega
theorem sumToF_add (f g : Nat → Fp) : ∀ n, sumToF (fun k => f k + g k) n = sumToF f n + sumToF g n
  | 0 => by simp only [sumToF]; grobner
  | n + 1 => by simp only [sumToF, sumToF_add f g n]; grobner
theorem sumTo_one (c K : Nat) (g : Nat → Nat) : ∀ n, sumTo (fun k => (if K = k then c else 0) * g k) n = if K < n then c * g K else 0
  | 0 => by simp [sumTo]
  | n + 1 => by
    rw [sumTo, sumTo_one c K g n]
    by_cases h : K = n
    · subst h; simp
    · by_cases h2 : K < n
      · simp [h, h2, Nat.lt_succ_of_lt h2]
      · have : ¬ K < n + 1 := by omega
        simp [h, h2, this]
theorem sumToF_one (c K : Nat) (g : Nat → Fp) : ∀ n, sumToF (fun k => nc (if K = k then c else 0) * g k) n = if K < n then nc c * g K else 0
  | 0 => by simp [sumToF]
  | n + 1 => by
    rw [sumToF, sumToF_one c K g n]
    by_cases h : K = n
    · subst h
      rw [if_neg (Nat.lt_irrefl K), if_pos rfl, if_pos (Nat.lt_succ_self K)]
      grobner
    · rw [if_neg h, nc_0]
      by_cases h2 : K < n
      · rw [if_pos h2, if_pos (by omega)]; grobner
      · rw [if_neg h2, if_neg (by omega)]; grobner
theorem kN_tot (n : Nat) : ∀ (l : List KM), (∀ m ∈ l, kKey m < n) → kN l = sumTo (fun k => tot k l * kB ^ k) n
  | [], _ => by
    have : ∀ n, sumTo (fun k => tot k [] * kB ^ k) n = 0 := fun n => by
      induction n with
      | zero => rfl
      | succ n ih => rw [sumTo, ih]; simp [tot]
    rw [this]; rfl
  | m :: l, h => by
    rw [kN, kN_tot n l (fun a ha => h a (by simp [ha]))]
    have e : (fun k => tot k (m :: l) * kB ^ k) = fun k => (if kKey m = k then m.1 else 0) * kB ^ k + tot k l * kB ^ k := by
      funext k; simp only [tot, Nat.add_mul]
    rw [e, sumTo_add, sumTo_one, if_pos (h m (by simp))]
def keyMon (x1 x2 x3 : Fp) (k : Nat) : Fp := fpow x1 (k % kD) * fpow x2 (k / kD % kD) * fpow x3 (k / kD / kD)
theorem kF_tot (x1 x2 x3 : Fp) (n : Nat) : ∀ (l : List KM), (∀ m ∈ l, kKey m < n) → kLe (kD - 1, kD - 1, kD - 1) l → kF x1 x2 x3 l = sumToF (fun k => nc (tot k l) * keyMon x1 x2 x3 k) n
  | [], _, _ => by
    have : ∀ n, sumToF (fun k => nc (tot k []) * keyMon x1 x2 x3 k) n = 0 := fun n => by
      induction n with
      | zero => rfl
      | succ n ih =>
        rw [sumToF, ih]
        simp only [tot, nc_0]
        grobner
    rw [this]; rfl
  | m :: l, h, hd => by
    rw [kF, kF_tot x1 x2 x3 n l (fun a ha => h a (by simp [ha])) (fun a ha => hd a (by simp [ha]))]
    have e : (fun k => nc (tot k (m :: l)) * keyMon x1 x2 x3 k) = fun k => nc (if kKey m = k then m.1 else 0) * keyMon x1 x2 x3 k + nc (tot k l) * keyMon x1 x2 x3 k := by
      funext k
      simp only [tot, nc_add]
      grobner
    rw [e, sumToF_add, sumToF_one, if_pos (h m (by simp))]
    have hm := hd m (by simp)
    have e1 : kKey m % kD = m.2.1 := by simp only [kKey, kD] at *; omega
    have e2 : kKey m / kD % kD = m.2.2.1 := by simp only [kKey, kD] at *; omega
    have e3 : kKey m / kD / kD = m.2.2.2 := by simp only [kKey, kD] at *; omega
    have e4 : keyMon x1 x2 x3 (kKey m) = kMon x1 x2 x3 m := by simp only [keyMon, kMon, e1, e2, e3]
    rw [e4]
theorem tot_le (k : Nat) : ∀ (l : List KM), tot k l ≤ kSum l
  | [] => Nat.le_refl _
  | m :: l => by
    have := tot_le k l
    simp only [tot, kSum]
    split <;> omega
theorem sumTo_lt (f : Nat → Nat) (hf : ∀ k, f k < kB) : ∀ n, sumTo (fun k => f k * kB ^ k) n < kB ^ n
  | 0 => by simp [sumTo]
  | n + 1 => by
    have h1 := sumTo_lt f hf n
    have h2 : (f n + 1) * kB ^ n ≤ kB * kB ^ n := Nat.mul_le_mul_right _ (hf n)
    rw [Nat.add_mul, Nat.one_mul] at h2
    rw [sumTo, Nat.pow_succ, Nat.mul_comm (kB ^ n)]
    omega
theorem sumTo_inj (f g : Nat → Nat) (hf : ∀ k, f k < kB) (hg : ∀ k, g k < kB) : ∀ n, sumTo (fun k => f k * kB ^ k) n = sumTo (fun k => g k * kB ^ k) n → ∀ k, k < n → f k = g k
  | 0, _, k, hk => by omega
  | n + 1, h, k, hk => by
    have h1 := sumTo_lt f hf n
    have h2 := sumTo_lt g hg n
    rw [sumTo, sumTo] at h
    have hp : 0 < kB ^ n := by omega
    have e1 : f n = g n := by
      have := congrArg (· / kB ^ n) h
      rw [Nat.add_mul_div_right _ _ hp, Nat.add_mul_div_right _ _ hp, Nat.div_eq_of_lt h1, Nat.div_eq_of_lt h2] at this
      omega
    rw [e1] at h
    by_cases e : k = n
    · subst e; exact e1
    · exact sumTo_inj f g hf hg n (by omega) k (by omega)
theorem kron (x1 x2 x3 : Fp) (l r : List KM) (hl : kSum l < kB) (hr : kSum r < kB) (dl : kLe (kD - 1, kD - 1, kD - 1) l) (dr : kLe (kD - 1, kD - 1, kD - 1) r) (h : kN l = kN r) : kF x1 x2 x3 l = kF x1 x2 x3 r := by
  have key : ∀ (s : List KM), kLe (kD - 1, kD - 1, kD - 1) s → ∀ m ∈ s, kKey m < kD * kD * kD := fun s hs m hm => by
    have := hs m hm
    simp only [kKey, kD] at *
    omega
  rw [kN_tot _ l (key l dl), kN_tot _ r (key r dr)] at h
  have he := sumTo_inj (fun k => tot k l) (fun k => tot k r) (fun k => Nat.lt_of_le_of_lt (tot_le k l) hl) (fun k => Nat.lt_of_le_of_lt (tot_le k r) hr) _ h
  rw [kF_tot x1 x2 x3 _ l (key l dl) dl, kF_tot x1 x2 x3 _ r (key r dr) dr]
  have : ∀ n, (∀ k, k < n → tot k l = tot k r) → sumToF (fun k => nc (tot k l) * keyMon x1 x2 x3 k) n = sumToF (fun k => nc (tot k r) * keyMon x1 x2 x3 k) n := fun n => by
    induction n with
    | zero => intro _; rfl
    | succ n ih =>
      intro hk
      simp only [sumToF]
      rw [ih (fun k hkn => hk k (by omega)), hk n (by omega)]
  exact this _ he

/-! ### Reckoning with values of polynomials -/
structure Rk where
  α : Type
  A : α → α → α
  S : α → α → α
  M : α → α → α
  K : Nat → α
  Z : α → Bool
structure Rs (O : Rk) where
  R : O.α → Fp → Prop
  hA : ∀ {a b u v}, R a u → R b v → R (O.A a b) (u + v)
  hS : ∀ {a b u v}, R a u → R b v → R (O.S a b) (u - v)
  hM : ∀ {a b u v}, R a u → R b v → R (O.M a b) (u * v)
  hK : ∀ n, R (O.K n) (nc n)
  hZ : ∀ {a u}, O.Z a = true → R a u → u = 0

structure BV where
  P : Nat
  N : Nat
  s : Nat
  d : Nat × Nat × Nat
structure BR (x1 x2 x3 : Fp) (a : BV) (z : Fp) (lp ln : List KM) : Prop where
  hp : kN lp = a.P
  hn : kN ln = a.N
  hs : kSum lp + kSum ln ≤ a.s
  dp : kLe a.d lp
  dn : kLe a.d ln
  hz : z = kF x1 x2 x3 lp - kF x1 x2 x3 ln
def dmax (a b : Nat × Nat × Nat) : Nat × Nat × Nat := (Nat.add a.1 (Nat.sub b.1 a.1), Nat.add a.2.1 (Nat.sub b.2.1 a.2.1), Nat.add a.2.2 (Nat.sub b.2.2 a.2.2))
def dadd (a b : Nat × Nat × Nat) : Nat × Nat × Nat := (Nat.add a.1 b.1, Nat.add a.2.1 b.2.1, Nat.add a.2.2 b.2.2)
def bzz (a : BV) : Bool := Nat.beq a.s 0
def bneg (a : BV) : BV := ⟨a.N, a.P, a.s, a.d⟩
def bA (a b : BV) : BV := bif bzz a then b else bif bzz b then a else ⟨Nat.add a.P b.P, Nat.add a.N b.N, Nat.add a.s b.s, dmax a.d b.d⟩
def bS (a b : BV) : BV := bA a (bneg b)
def b0 : BV := ⟨0, 0, 0, (0, 0, 0)⟩
def bM (a b : BV) : BV := bif bzz a then b0 else bif bzz b then b0 else ⟨Nat.add (Nat.mul a.P b.P) (Nat.mul a.N b.N), Nat.add (Nat.mul a.P b.N) (Nat.mul a.N b.P), Nat.mul a.s b.s, dadd a.d b.d⟩
def bK (n : Nat) : BV := ⟨n, 0, n, (0, 0, 0)⟩
def bZ (a : BV) : Bool := Nat.beq a.P a.N && Nat.blt a.s kB && Nat.blt a.d.1 kD && Nat.blt a.d.2.1 kD && Nat.blt a.d.2.2 kD
theorem dmax_l (a b : Nat × Nat × Nat) : a.1 ≤ (dmax a b).1 ∧ a.2.1 ≤ (dmax a b).2.1 ∧ a.2.2 ≤ (dmax a b).2.2 := ⟨Nat.le_add_right _ _, Nat.le_add_right _ _, Nat.le_add_right _ _⟩
theorem dmax_r (a b : Nat × Nat × Nat) : b.1 ≤ (dmax a b).1 ∧ b.2.1 ≤ (dmax a b).2.1 ∧ b.2.2 ≤ (dmax a b).2.2 := by
  have h : ∀ x y : Nat, y ≤ Nat.add x (Nat.sub y x) := fun x y => by show y ≤ x + (y - x); omega
  exact ⟨h _ _, h _ _, h _ _⟩
theorem kF_zero (x1 x2 x3 : Fp) : ∀ (l : List KM), kSum l = 0 → kF x1 x2 x3 l = 0
  | [], _ => rfl
  | m :: l, h => by
    simp only [kSum] at h
    rw [kF, kF_zero x1 x2 x3 l (by omega), show m.1 = 0 by omega, nc_0]
    grobner
theorem bzz_ok {x1 x2 x3 : Fp} {a : BV} {u : Fp} (hz : bzz a = true) (h : ∃ l r, BR x1 x2 x3 a u l r) : u = 0 := by
  obtain ⟨l, r, h⟩ := h
  have e := Nat.eq_of_beq_eq_true hz
  have := h.hs
  rw [h.hz, kF_zero x1 x2 x3 l (by omega), kF_zero x1 x2 x3 r (by omega)]
  grobner
theorem b0_ok (x1 x2 x3 : Fp) : ∃ l r, BR x1 x2 x3 b0 0 l r :=
  ⟨[], [], rfl, rfl, Nat.le_refl _, fun m hm => (by cases hm), fun m hm => (by cases hm), by simp only [kF]; grobner⟩
theorem bneg_ok {x1 x2 x3 : Fp} {a : BV} {u : Fp} (h : ∃ l r, BR x1 x2 x3 a u l r) : ∃ l r, BR x1 x2 x3 (bneg a) (0 - u) l r := by
  obtain ⟨l, r, h⟩ := h
  exact ⟨r, l, h.hn, h.hp, by have := h.hs; show _ ≤ a.s; omega, h.dn, h.dp, by rw [h.hz]; grobner⟩
theorem bA_ok {x1 x2 x3 : Fp} {a b : BV} {u v : Fp} (h : ∃ l r, BR x1 x2 x3 a u l r) (h' : ∃ l r, BR x1 x2 x3 b v l r) : ∃ l r, BR x1 x2 x3 (bA a b) (u + v) l r := by
  unfold bA
  cases ha : bzz a with
  | true =>
    rw [bzz_ok ha h, show (0 : Fp) + v = v by grobner]
    exact h'
  | false =>
    cases hb : bzz b with
    | true =>
      rw [bzz_ok hb h', show u + (0 : Fp) = u by grobner]
      exact h
    | false =>
      obtain ⟨l, r, h⟩ := h
      obtain ⟨l', r', h'⟩ := h'
      refine ⟨l ++ l', r ++ r', ?_, ?_, ?_, ?_, ?_, ?_⟩
      · rw [kN_app, h.hp, h'.hp]; rfl
      · rw [kN_app, h.hn, h'.hn]; rfl
      · have := h.hs
        have := h'.hs
        rw [kSum_app, kSum_app]
        show _ ≤ a.s + b.s
        omega
      · exact kLe_app (kLe_mono h.dp (dmax_l _ _)) (kLe_mono h'.dp (dmax_r _ _))
      · exact kLe_app (kLe_mono h.dn (dmax_l _ _)) (kLe_mono h'.dn (dmax_r _ _))
      · rw [h.hz, h'.hz, kF_app, kF_app]; grobner
theorem bS_ok {x1 x2 x3 : Fp} {a b : BV} {u v : Fp} (h : ∃ l r, BR x1 x2 x3 a u l r) (h' : ∃ l r, BR x1 x2 x3 b v l r) : ∃ l r, BR x1 x2 x3 (bS a b) (u - v) l r := by
  rw [show u - v = u + (0 - v) by grobner]
  exact bA_ok h (bneg_ok h')
theorem bM_ok {x1 x2 x3 : Fp} {a b : BV} {u v : Fp} (h : ∃ l r, BR x1 x2 x3 a u l r) (h' : ∃ l r, BR x1 x2 x3 b v l r) : ∃ l r, BR x1 x2 x3 (bM a b) (u * v) l r := by
  unfold bM
  cases ha : bzz a with
  | true =>
    rw [bzz_ok ha h, show (0 : Fp) * v = 0 by grobner]
    exact b0_ok x1 x2 x3
  | false =>
    cases hb : bzz b with
    | true =>
      rw [bzz_ok hb h', show u * (0 : Fp) = 0 by grobner]
      exact b0_ok x1 x2 x3
    | false =>
      obtain ⟨l, r, h⟩ := h
      obtain ⟨l', r', h'⟩ := h'
      refine ⟨kMul l l' ++ kMul r r', kMul l r' ++ kMul r l', ?_, ?_, ?_, ?_, ?_, ?_⟩
      · rw [kN_app, kN_mul, kN_mul, h.hp, h'.hp, h.hn, h'.hn]; rfl
      · rw [kN_app, kN_mul, kN_mul, h.hp, h'.hp, h.hn, h'.hn]; rfl
      · rw [kSum_app, kSum_app, kSum_mul, kSum_mul, kSum_mul, kSum_mul]
        have := Nat.mul_le_mul h.hs h'.hs
        rw [Nat.add_mul, Nat.mul_add, Nat.mul_add] at this
        show _ ≤ a.s * b.s
        omega
      · exact kLe_app (kLe_mul h.dp h'.dp) (kLe_mul h.dn h'.dn)
      · exact kLe_app (kLe_mul h.dp h'.dn) (kLe_mul h.dn h'.dp)
      · rw [h.hz, h'.hz, kF_app, kF_app, kF_mul, kF_mul, kF_mul, kF_mul]; grobner
theorem bK_ok (x1 x2 x3 : Fp) (n : Nat) : ∃ l r, BR x1 x2 x3 (bK n) (nc n) l r := by
  refine ⟨[(n, 0, 0, 0)], [], ?_, rfl, ?_, ?_, ?_, ?_⟩
  · simp [kN, kKey, bK]
  · simp [kSum, bK]
  · intro m hm; simp at hm; subst hm; simp
  · intro m hm; cases hm
  · simp only [kF, kMon, fpow]; grobner
theorem bZ_ok {x1 x2 x3 : Fp} {a : BV} {u : Fp} (hz : bZ a = true) (h : ∃ l r, BR x1 x2 x3 a u l r) : u = 0 := by
  obtain ⟨l, r, h⟩ := h
  simp only [bZ, Bool.and_eq_true, Nat.blt_eq] at hz
  have e := Nat.eq_of_beq_eq_true hz.1.1.1.1
  have hs := h.hs
  have hd : a.d.1 ≤ kD - 1 ∧ a.d.2.1 ≤ kD - 1 ∧ a.d.2.2 ≤ kD - 1 := ⟨Nat.le_sub_one_of_lt hz.1.1.2, Nat.le_sub_one_of_lt hz.1.2, Nat.le_sub_one_of_lt hz.2⟩
  have k := kron x1 x2 x3 l r (by omega) (by omega) (kLe_mono h.dp hd) (kLe_mono h.dn hd) (by rw [h.hp, h.hn, e])
  rw [h.hz, k]
  grobner
def bX1 : BV := ⟨kB ^ 1, 0, 1, (1, 0, 0)⟩
def bX2 : BV := ⟨kB ^ kD, 0, 1, (0, 1, 0)⟩
def bX3 : BV := ⟨kB ^ (kD * kD), 0, 1, (0, 0, 1)⟩
theorem bX_ok (x1 x2 x3 : Fp) : (∃ l r, BR x1 x2 x3 bX1 x1 l r) ∧ (∃ l r, BR x1 x2 x3 bX2 x2 l r) ∧ (∃ l r, BR x1 x2 x3 bX3 x3 l r) := by
  refine ⟨⟨[(1, 1, 0, 0)], [], ?_, rfl, ?_, ?_, ?_, ?_⟩, ⟨[(1, 0, 1, 0)], [], ?_, rfl, ?_, ?_, ?_, ?_⟩, ⟨[(1, 0, 0, 1)], [], ?_, rfl, ?_, ?_, ?_, ?_⟩⟩
  all_goals first
    | (simp [kN, kKey, bX1, bX2, bX3]; done)
    | (simp [kSum, bX1, bX2, bX3]; done)
    | (intro m hm; cases hm; done)
    | (intro m hm; simp at hm; subst hm; simp [bX1, bX2, bX3]; done)
    | (simp only [kF, kMon, fpow, nc_1]; grobner)
def opB : Rk := ⟨BV, bA, bS, bM, bK, bZ⟩
def opE (O : Rk) (f : O.α) : Rk where
  α := O.α × O.α
  A a b := (O.A a.1 b.1, O.A a.2 b.2)
  S a b := (O.S a.1 b.1, O.S a.2 b.2)
  M a b := (O.A (O.M a.1 b.1) (O.M (O.M a.2 b.2) f), O.A (O.M a.1 b.2) (O.M a.2 b.1))
  K n := (O.K n, O.K 0)
  Z a := O.Z a.1 && O.Z a.2
def base (x1 x2 x3 : Fp) : Rs opB where
  R a z := ∃ l r, BR x1 x2 x3 a z l r
  hA := bA_ok
  hS := bS_ok
  hM := bM_ok
  hK := bK_ok x1 x2 x3
  hZ := bZ_ok

/-- with a square root of f -/
def ext {O : Rk} (G : Rs O) (f : O.α) (y z : Fp) (hf : G.R f z) (hy : y * y = z) : Rs (opE O f) where
  R a w := ∃ u v, G.R a.1 u ∧ G.R a.2 v ∧ w = u + v * y
  hA := fun ⟨u, v, h1, h2, h3⟩ ⟨u', v', h1', h2', h3'⟩ => ⟨_, _, G.hA h1 h1', G.hA h2 h2', by rw [h3, h3']; grobner⟩
  hS := fun ⟨u, v, h1, h2, h3⟩ ⟨u', v', h1', h2', h3'⟩ => ⟨_, _, G.hS h1 h1', G.hS h2 h2', by rw [h3, h3']; grobner⟩
  hM := fun ⟨u, v, h1, h2, h3⟩ ⟨u', v', h1', h2', h3'⟩ => ⟨_, _, G.hA (G.hM h1 h1') (G.hM (G.hM h2 h2') hf), G.hA (G.hM h1 h2') (G.hM h2 h1'), by rw [h3, h3', ← hy]; grobner⟩
  hK n := ⟨_, _, G.hK n, G.hK 0, by rw [nc_0]; grobner⟩
  hZ := fun hz ⟨u, v, h1, h2, h3⟩ => by
    have hz' := (Bool.and_eq_true _ _).mp hz
    rw [h3, G.hZ hz'.1 h1, G.hZ hz'.2 h2]
    grobner

/-! ### The sum of two points by one formula -/
def aX (x1 y1 z1 x2 y2 z2 : Fp) : Fp := (x1*y2+x2*y1)*(y1*y2-21*(z1*z2)) - 21*((y1*z2+y2*z1)*(x1*z2+x2*z1))
def aY (x1 y1 z1 x2 y2 z2 : Fp) : Fp := (y1*y2+21*(z1*z2))*(y1*y2-21*(z1*z2)) + 63*(x1*x2*(x1*z2+x2*z1))
def aZ (x1 y1 z1 x2 y2 z2 : Fp) : Fp := (y1*z2+y2*z1)*(y1*y2+21*(z1*z2)) + 3*(x1*x2*(x1*y2+x2*y1))
def gX (O : Rk) (x1 y1 z1 x2 y2 z2 : O.α) : O.α := O.S (O.M (O.A (O.M x1 y2) (O.M x2 y1)) (O.S (O.M y1 y2) (O.M (O.K 21) (O.M z1 z2)))) (O.M (O.K 21) (O.M (O.A (O.M y1 z2) (O.M y2 z1)) (O.A (O.M x1 z2) (O.M x2 z1))))
def gY (O : Rk) (x1 y1 z1 x2 y2 z2 : O.α) : O.α := O.A (O.M (O.A (O.M y1 y2) (O.M (O.K 21) (O.M z1 z2))) (O.S (O.M y1 y2) (O.M (O.K 21) (O.M z1 z2)))) (O.M (O.K 63) (O.M (O.M x1 x2) (O.A (O.M x1 z2) (O.M x2 z1))))
def gZ (O : Rk) (x1 y1 z1 x2 y2 z2 : O.α) : O.α := O.A (O.M (O.A (O.M y1 z2) (O.M y2 z1)) (O.A (O.M y1 y2) (O.M (O.K 21) (O.M z1 z2)))) (O.M (O.K 3) (O.M (O.M x1 x2) (O.A (O.M x1 y2) (O.M x2 y1))))
theorem nc_21 : nc 21 = 21 := rfl
theorem nc_63 : nc 63 = 63 := rfl
theorem nc_3 : nc 3 = 3 := rfl
theorem nc_7 : nc 7 = 7 := rfl
theorem g_ok {O : Rk} (G : Rs O) {x1 y1 z1 x2 y2 z2 : O.α} {a1 b1 c1 a2 b2 c2 : Fp} (h1 : G.R x1 a1) (h2 : G.R y1 b1) (h3 : G.R z1 c1) (h4 : G.R x2 a2) (h5 : G.R y2 b2) (h6 : G.R z2 c2) :
    G.R (gX O x1 y1 z1 x2 y2 z2) (aX a1 b1 c1 a2 b2 c2) ∧ G.R (gY O x1 y1 z1 x2 y2 z2) (aY a1 b1 c1 a2 b2 c2) ∧ G.R (gZ O x1 y1 z1 x2 y2 z2) (aZ a1 b1 c1 a2 b2 c2) := by
  have k21 := nc_21 ▸ G.hK 21
  have k63 := nc_63 ▸ G.hK 63
  have k3 := nc_3 ▸ G.hK 3
  exact ⟨G.hS (G.hM (G.hA (G.hM h1 h5) (G.hM h4 h2)) (G.hS (G.hM h2 h5) (G.hM k21 (G.hM h3 h6)))) (G.hM k21 (G.hM (G.hA (G.hM h2 h6) (G.hM h5 h3)) (G.hA (G.hM h1 h6) (G.hM h4 h3)))),
    G.hA (G.hM (G.hA (G.hM h2 h5) (G.hM k21 (G.hM h3 h6))) (G.hS (G.hM h2 h5) (G.hM k21 (G.hM h3 h6)))) (G.hM k63 (G.hM (G.hM h1 h4) (G.hA (G.hM h1 h6) (G.hM h4 h3)))),
    G.hA (G.hM (G.hA (G.hM h2 h6) (G.hM h5 h3)) (G.hA (G.hM h2 h5) (G.hM k21 (G.hM h3 h6)))) (G.hM k3 (G.hM (G.hM h1 h4) (G.hA (G.hM h1 h5) (G.hM h4 h2))))⟩

/-! ### Grouping does not matter -/
def fB (x : BV) : BV := bA (bM x (bM x x)) (bK 7)
def o1 : Rk := opE opB (fB bX1)
def o2 : Rk := opE o1 (fB bX2, bK 0)
def o3 : Rk := opE o2 ((fB bX3, bK 0), (bK 0, bK 0))
def in1 (a : BV) : o3.α := (((a, bK 0), (bK 0, bK 0)), ((bK 0, bK 0), (bK 0, bK 0)))
def tX1 : o3.α := in1 bX1
def tX2 : o3.α := in1 bX2
def tX3 : o3.α := in1 bX3
def tY1 : o3.α := (((bK 0, bK 1), (bK 0, bK 0)), ((bK 0, bK 0), (bK 0, bK 0)))
def tY2 : o3.α := (((bK 0, bK 0), (bK 1, bK 0)), ((bK 0, bK 0), (bK 0, bK 0)))
def tY3 : o3.α := (((bK 0, bK 0), (bK 0, bK 0)), ((bK 1, bK 0), (bK 0, bK 0)))
def t1 : o3.α := in1 (bK 1)
def sX : o3.α := gX o3 tX1 tY1 t1 tX2 tY2 t1
def sY : o3.α := gY o3 tX1 tY1 t1 tX2 tY2 t1
def sZ : o3.α := gZ o3 tX1 tY1 t1 tX2 tY2 t1
def rX : o3.α := gX o3 tX2 tY2 t1 tX3 tY3 t1
def rY : o3.α := gY o3 tX2 tY2 t1 tX3 tY3 t1
def rZ : o3.α := gZ o3 tX2 tY2 t1 tX3 tY3 t1
def lX : o3.α := gX o3 sX sY sZ tX3 tY3 t1
def lY : o3.α := gY o3 sX sY sZ tX3 tY3 t1
def lZ : o3.α := gZ o3 sX sY sZ tX3 tY3 t1
def qX : o3.α := gX o3 tX1 tY1 t1 rX rY rZ
def qY : o3.α := gY o3 tX1 tY1 t1 rX rY rZ
def qZ : o3.α := gZ o3 tX1 tY1 t1 rX rY rZ
def chkXZ : Bool := o3.Z (o3.S (o3.M lX qZ) (o3.M lZ qX))
def chkYZ : Bool := o3.Z (o3.S (o3.M lY qZ) (o3.M lZ qY))
def chkXY : Bool := o3.Z (o3.S (o3.M lX qY) (o3.M lY qX))
theorem chkXZ_ok : chkXZ = true := by decide +kernel
theorem chkYZ_ok : chkYZ = true := by decide +kernel
theorem chkXY_ok : chkXY = true := by decide +kernel

theorem ad0 (u y : Fp) : u = u + 0 * y := by grobner
theorem ad1 (y : Fp) : y = 0 + 1 * y := by grobner
theorem sub_0 {u v : Fp} (h : u - v = 0) : u = v := by grobner
theorem in_ok {x1 x2 x3 y1 y2 y3 : Fp} {z1 z2 z3 : Fp} {f1 f2 f3 : BV} {hf1 : (base x1 x2 x3).R f1 z1} {hy1 : y1 * y1 = z1} {hf2 : (ext (base x1 x2 x3) f1 y1 z1 hf1 hy1).R (f2, bK 0) z2} {hy2 : y2 * y2 = z2}
    {hf3 : (ext (ext (base x1 x2 x3) f1 y1 z1 hf1 hy1) (f2, bK 0) y2 z2 hf2 hy2).R ((f3, bK 0), (bK 0, bK 0)) z3} {hy3 : y3 * y3 = z3} {a : BV} {u : Fp} (h : (base x1 x2 x3).R a u) :
    (ext (ext (ext (base x1 x2 x3) f1 y1 z1 hf1 hy1) (f2, bK 0) y2 z2 hf2 hy2) ((f3, bK 0), (bK 0, bK 0)) y3 z3 hf3 hy3).R (((a, bK 0), (bK 0, bK 0)), ((bK 0, bK 0), (bK 0, bK 0))) u := by
  have z := bK_ok x1 x2 x3 0
  rw [nc_0] at z
  exact ⟨u, 0, ⟨u, 0, ⟨u, 0, h, z, ad0 _ _⟩, ⟨0, 0, z, z, ad0 _ _⟩, ad0 _ _⟩, ⟨0, 0, ⟨0, 0, z, z, ad0 _ _⟩, ⟨0, 0, z, z, ad0 _ _⟩, ad0 _ _⟩, ad0 _ _⟩

/-- the identity: (P + Q) + R and P + (Q + R) are one point -/
theorem group3 (x1 y1 x2 y2 x3 y3 : Fp) (h1 : y1 * y1 = x1 * (x1 * x1) + 7) (h2 : y2 * y2 = x2 * (x2 * x2) + 7) (h3 : y3 * y3 = x3 * (x3 * x3) + 7)
    (a b c : Fp) (ha : a = aX x1 y1 1 x2 y2 1) (hb : b = aY x1 y1 1 x2 y2 1) (hc : c = aZ x1 y1 1 x2 y2 1) (d e f : Fp) (hd : d = aX x2 y2 1 x3 y3 1) (he : e = aY x2 y2 1 x3 y3 1) (hf : f = aZ x2 y2 1 x3 y3 1) :
    aX a b c x3 y3 1 * aZ x1 y1 1 d e f = aZ a b c x3 y3 1 * aX x1 y1 1 d e f ∧ aY a b c x3 y3 1 * aZ x1 y1 1 d e f = aZ a b c x3 y3 1 * aY x1 y1 1 d e f ∧ aX a b c x3 y3 1 * aY x1 y1 1 d e f = aY a b c x3 y3 1 * aX x1 y1 1 d e f := by
  obtain ⟨k1, k2, k3⟩ := bX_ok x1 x2 x3
  have z := bK_ok x1 x2 x3 0
  rw [nc_0] at z
  have o := bK_ok x1 x2 x3 1
  rw [nc_1] at o
  have s7 := bK_ok x1 x2 x3 7
  rw [nc_7] at s7
  have f1 : (base x1 x2 x3).R (fB bX1) (x1 * (x1 * x1) + 7) := bA_ok (bM_ok k1 (bM_ok k1 k1)) s7
  have f2 : (base x1 x2 x3).R (fB bX2) (x2 * (x2 * x2) + 7) := bA_ok (bM_ok k2 (bM_ok k2 k2)) s7
  have f3 : (base x1 x2 x3).R (fB bX3) (x3 * (x3 * x3) + 7) := bA_ok (bM_ok k3 (bM_ok k3 k3)) s7
  let E1 := ext (base x1 x2 x3) (fB bX1) y1 _ f1 h1
  have f2' : E1.R (fB bX2, bK 0) (x2 * (x2 * x2) + 7) := ⟨x2 * (x2 * x2) + 7, 0, f2, z, ad0 _ _⟩
  let E2 := ext E1 (fB bX2, bK 0) y2 _ f2' h2
  have f3' : E2.R ((fB bX3, bK 0), (bK 0, bK 0)) (x3 * (x3 * x3) + 7) := ⟨x3 * (x3 * x3) + 7, 0, ⟨x3 * (x3 * x3) + 7, 0, f3, z, ad0 _ _⟩, ⟨0, 0, z, z, ad0 _ _⟩, ad0 _ _⟩
  let E3 : Rs o3 := ext E2 ((fB bX3, bK 0), (bK 0, bK 0)) y3 _ f3' h3
  have i1 : E3.R tX1 x1 := in_ok k1
  have i2 : E3.R tX2 x2 := in_ok k2
  have i3 : E3.R tX3 x3 := in_ok k3
  have io : E3.R t1 1 := in_ok o
  have zz : ∀ y : Fp, (ext (base x1 x2 x3) (fB bX1) y1 _ f1 h1).R (bK 0, bK 0) 0 := fun _ => ⟨0, 0, z, z, ad0 _ _⟩
  have z2 : E2.R ((bK 0, bK 0), (bK 0, bK 0)) 0 := ⟨0, 0, zz 0, zz 0, ad0 _ _⟩
  have j1 : E3.R tY1 y1 := ⟨y1, 0, ⟨y1, 0, ⟨0, 1, z, o, ad1 _⟩, zz 0, ad0 _ _⟩, z2, ad0 _ _⟩
  have j2 : E3.R tY2 y2 := ⟨y2, 0, ⟨0, 1, zz 0, ⟨1, 0, o, z, ad0 _ _⟩, ad1 _⟩, z2, ad0 _ _⟩
  have j3 : E3.R tY3 y3 := ⟨0, 1, z2, ⟨1, 0, ⟨1, 0, o, z, ad0 _ _⟩, zz 0, ad0 _ _⟩, ad1 _⟩
  obtain ⟨s1, s2, s3⟩ := g_ok E3 i1 j1 io i2 j2 io
  obtain ⟨r1, r2, r3⟩ := g_ok E3 i2 j2 io i3 j3 io
  obtain ⟨l1, l2, l3⟩ := g_ok E3 s1 s2 s3 i3 j3 io
  obtain ⟨q1, q2, q3⟩ := g_ok E3 i1 j1 io r1 r2 r3
  have a1 := E3.hZ chkXZ_ok (E3.hS (E3.hM l1 q3) (E3.hM l3 q1))
  have a2 := E3.hZ chkYZ_ok (E3.hS (E3.hM l2 q3) (E3.hM l3 q2))
  have a3 := E3.hZ chkXY_ok (E3.hS (E3.hM l1 q2) (E3.hM l2 q1))
  rw [ha, hb, hc, hd, he, hf]
  generalize aX (aX x1 y1 1 x2 y2 1) (aY x1 y1 1 x2 y2 1) (aZ x1 y1 1 x2 y2 1) x3 y3 1 = u1 at *
  generalize aY (aX x1 y1 1 x2 y2 1) (aY x1 y1 1 x2 y2 1) (aZ x1 y1 1 x2 y2 1) x3 y3 1 = u2 at *
  generalize aZ (aX x1 y1 1 x2 y2 1) (aY x1 y1 1 x2 y2 1) (aZ x1 y1 1 x2 y2 1) x3 y3 1 = u3 at *
  generalize aX x1 y1 1 (aX x2 y2 1 x3 y3 1) (aY x2 y2 1 x3 y3 1) (aZ x2 y2 1 x3 y3 1) = v1 at *
  generalize aY x1 y1 1 (aX x2 y2 1 x3 y3 1) (aY x2 y2 1 x3 y3 1) (aZ x2 y2 1 x3 y3 1) = v2 at *
  generalize aZ x1 y1 1 (aX x2 y2 1 x3 y3 1) (aY x2 y2 1 x3 y3 1) (aZ x2 y2 1 x3 y3 1) = v3 at *
  exact ⟨sub_0 a1, sub_0 a2, sub_0 a3⟩
end Go.Ec
