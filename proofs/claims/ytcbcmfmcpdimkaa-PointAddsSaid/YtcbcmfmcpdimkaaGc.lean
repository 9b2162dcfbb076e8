/- Multiples of a point; the base's order. No condition. -/
import Derived.Test.YtcbcmfmcpdimkaaGb
set_option maxRecDepth 100000
set_option linter.unusedVariables false
set_option linter.unusedSimpArgs false
namespace Go.Ec
open Go.Vm

/-- a point, added so often -/
noncomputable def nsm : Nat → Pt → Pt
  | 0, _ => .o
  | n + 1, p => padd (nsm n p) p
theorem nsm_on {p : Pt} (hp : onC p) : ∀ n, onC (nsm n p)
  | 0 => trivial
  | n + 1 => padd_on (nsm_on hp n) hp
theorem nsm_1 (p : Pt) : nsm 1 p = p := by show padd .o p = p; exact o_padd p
theorem nsm_o : ∀ n, nsm n .o = .o
  | 0 => rfl
  | n + 1 => by show padd (nsm n .o) .o = .o; rw [nsm_o n]; rfl
theorem nsm_add {p : Pt} (hp : onC p) (m : Nat) : ∀ n, nsm (m + n) p = padd (nsm m p) (nsm n p)
  | 0 => by show nsm m p = padd (nsm m p) .o; rw [padd_o]
  | n + 1 => by
    show padd (nsm (m + n) p) p = padd (nsm m p) (padd (nsm n p) p)
    rw [nsm_add hp m n, padd_assoc (nsm_on hp m) (nsm_on hp n) hp]
theorem nsm_mul {p : Pt} (hp : onC p) (m : Nat) : ∀ n, nsm (m * n) p = nsm n (nsm m p)
  | 0 => rfl
  | n + 1 => by
    rw [Nat.mul_succ, nsm_add hp, nsm_mul hp m n]
    rfl
theorem padd_swap {a b c d : Pt} (ha : onC a) (hb : onC b) (hc : onC c) (hd : onC d) : padd (padd a b) (padd c d) = padd (padd a c) (padd b d) := by
  rw [padd_assoc ha hb (padd_on hc hd), ← padd_assoc hb hc hd, padd_comm hb hc, padd_assoc hc hb hd, ← padd_assoc ha hc (padd_on hb hd)]
theorem nsm_sum {p q : Pt} (hp : onC p) (hq : onC q) : ∀ n, nsm n (padd p q) = padd (nsm n p) (nsm n q)
  | 0 => rfl
  | n + 1 => by
    show padd (nsm n (padd p q)) (padd p q) = padd (padd (nsm n p) p) (padd (nsm n q) q)
    rw [nsm_sum hp hq n, padd_swap (nsm_on hp n) (nsm_on hq n) hp hq]

/-! ### The base -/
def bX : Nat := 55066263022277343669578718895168534326250603453777594175500187360389116729240
def bY : Nat := 32670510020758816978083085130507043184471273380659243275938904335757337482424
def base0 : Pt := .a (nc bX) (nc bY)
theorem base_on : onC base0 := by
  show nc bY * nc bY = nc bX * (nc bX * nc bX) + 7
  decide +kernel

/-! ### Points by three numbers -/
theorem nc_modP (a : Nat) : nc (a % 115792089237316195423570985008687907853269984665640564039457584007908834671663) = nc a := by
  apply Fin.ext
  simp only [nc_val, Nat.mod_mod]
def nsub (a b : Nat) : Nat := Nat.add a (Nat.sub 115792089237316195423570985008687907853269984665640564039457584007908834671663 (Nat.mod b 115792089237316195423570985008687907853269984665640564039457584007908834671663))
theorem nc_sub (a b : Nat) : nc (nsub a b) = nc a - nc b := by
  have h : nsub a b = a + (115792089237316195423570985008687907853269984665640564039457584007908834671663 - b % 115792089237316195423570985008687907853269984665640564039457584007908834671663) := rfl
  have hb := Nat.mod_lt b (show 0 < 115792089237316195423570985008687907853269984665640564039457584007908834671663 by decide)
  have h2 : nc (115792089237316195423570985008687907853269984665640564039457584007908834671663 - b % 115792089237316195423570985008687907853269984665640564039457584007908834671663) + nc b = 0 := by
    rw [← nc_modP b, ← nc_add, Nat.sub_add_cancel (by omega)]
    rfl
  rw [h, nc_add]
  grobner
def nX (x1 y1 z1 x2 y2 z2 : Nat) : Nat := Nat.mod (nsub ((x1*y2+x2*y1)*(nsub (y1*y2) (21*(z1*z2)))) (21*((y1*z2+y2*z1)*(x1*z2+x2*z1)))) 115792089237316195423570985008687907853269984665640564039457584007908834671663
def nY (x1 y1 z1 x2 y2 z2 : Nat) : Nat := Nat.mod ((y1*y2+21*(z1*z2))*(nsub (y1*y2) (21*(z1*z2))) + 63*(x1*x2*(x1*z2+x2*z1))) 115792089237316195423570985008687907853269984665640564039457584007908834671663
def nZ (x1 y1 z1 x2 y2 z2 : Nat) : Nat := Nat.mod ((y1*z2+y2*z1)*(y1*y2+21*(z1*z2)) + 3*(x1*x2*(x1*y2+x2*y1))) 115792089237316195423570985008687907853269984665640564039457584007908834671663
theorem n_ok (x1 y1 z1 x2 y2 z2 : Nat) : nc (nX x1 y1 z1 x2 y2 z2) = aX (nc x1) (nc y1) (nc z1) (nc x2) (nc y2) (nc z2) ∧ nc (nY x1 y1 z1 x2 y2 z2) = aY (nc x1) (nc y1) (nc z1) (nc x2) (nc y2) (nc z2) ∧ nc (nZ x1 y1 z1 x2 y2 z2) = aZ (nc x1) (nc y1) (nc z1) (nc x2) (nc y2) (nc z2) := by
  refine ⟨?_, ?_, ?_⟩
  · show nc (_ % 115792089237316195423570985008687907853269984665640564039457584007908834671663) = _
    simp only [nc_modP, nc_sub, nc_add, nc_mul, nc_21, aX]
  · show nc (_ % 115792089237316195423570985008687907853269984665640564039457584007908834671663) = _
    simp only [nc_modP, nc_sub, nc_add, nc_mul, nc_21, nc_63, aY]
  · show nc (_ % 115792089237316195423570985008687907853269984665640564039457584007908834671663) = _
    simp only [nc_modP, nc_sub, nc_add, nc_mul, nc_21, nc_3, aZ]
def Rep (x y z : Nat) (p : Pt) : Prop := ∃ k : Fp, k ≠ 0 ∧ nc x = k * px p ∧ nc y = k * py p ∧ nc z = k * pz p
theorem Rep.add {x1 y1 z1 x2 y2 z2 : Nat} {p q : Pt} (hp : onC p) (hq : onC q) (h1 : Rep x1 y1 z1 p) (h2 : Rep x2 y2 z2 q) : Rep (nX x1 y1 z1 x2 y2 z2) (nY x1 y1 z1 x2 y2 z2) (nZ x1 y1 z1 x2 y2 z2) (padd p q) := by
  obtain ⟨k, hk, a1, a2, a3⟩ := h1
  obtain ⟨m, hm, b1, b2, b3⟩ := h2
  obtain ⟨n1, n2, n3⟩ := n_ok x1 y1 z1 x2 y2 z2
  obtain ⟨s1, s2, s3⟩ := sc1 k (px p) (py p) (pz p) (m * px q) (m * py q) (m * pz q)
  obtain ⟨t1, t2, t3⟩ := sc2 m (px q) (py q) (pz q) (px p) (py p) (pz p)
  obtain ⟨r, hr, f1, f2, f3⟩ := flaw hp hq
  refine ⟨k * k * (m * m * r), fnz (fnz hk hk) (fnz (fnz hm hm) hr), ?_, ?_, ?_⟩
  · rw [n1, a1, a2, a3, b1, b2, b3, s1, t1, f1]; simp only [fmul_assoc]
  · rw [n2, a1, a2, a3, b1, b2, b3, s2, t2, f2]; simp only [fmul_assoc]
  · rw [n3, a1, a2, a3, b1, b2, b3, s3, t3, f3]; simp only [fmul_assoc]
theorem Rep.zero {x y : Nat} {p : Pt} (h : Rep x y 0 p) : p = .o := by
  obtain ⟨k, hk, _, _, h3⟩ := h
  cases p with
  | o => rfl
  | a x' y' =>
    exfalso
    have h4 : (0 : Fp) = k * 1 := h3
    exact hk (by grobner)
def frc {α : Type} (n : Nat) (k : Nat → α) : α :=
  match n with
  | 0 => k 0
  | m + 1 => k (m + 1)
theorem frc_eq {α : Type} (n : Nat) (k : Nat → α) : frc n k = k n := by cases n <;> rfl
def stp (x y z u v w : Nat) (k : Nat → Nat → Nat → Nat × Nat × Nat) : Nat × Nat × Nat := frc (nX x y z u v w) fun x' => frc (nY x y z u v w) fun y' => frc (nZ x y z u v w) fun z' => k x' y' z'
def lad : List Bool → Nat → Nat → Nat → Nat × Nat × Nat
  | [], x, y, z => (x, y, z)
  | b :: r, x, y, z => stp x y z x y z fun x y z => cond b (stp x y z bX bY 1 (lad r)) (lad r x y z)
def ladN : List Bool → Nat → Nat
  | [], v => v
  | b :: r, v => ladN r (v + v + cond b 1 0)
theorem base_rep : Rep bX bY 1 base0 := ⟨1, one_ne, by show nc bX = 1 * nc bX; grobner, by show nc bY = 1 * nc bY; grobner, by show (1 : Fp) = 1 * 1; grobner⟩
theorem lad_ok : ∀ (l : List Bool) (x y z v : Nat), Rep x y z (nsm v base0) → Rep (lad l x y z).1 (lad l x y z).2.1 (lad l x y z).2.2 (nsm (ladN l v) base0)
  | [], x, y, z, v, h => h
  | b :: r, x, y, z, v, h => by
    have hd := Rep.add (nsm_on base_on v) (nsm_on base_on v) h h
    rw [← nsm_add base_on] at hd
    cases b with
    | false =>
      have e : lad (false :: r) x y z = lad r (nX x y z x y z) (nY x y z x y z) (nZ x y z x y z) := by simp only [lad, stp, frc_eq, cond_false]
      have e2 : ladN (false :: r) v = ladN r (v + v) := rfl
      rw [e, e2]
      exact lad_ok r _ _ _ _ hd
    | true =>
      have e : lad (true :: r) x y z = lad r (nX (nX x y z x y z) (nY x y z x y z) (nZ x y z x y z) bX bY 1) (nY (nX x y z x y z) (nY x y z x y z) (nZ x y z x y z) bX bY 1) (nZ (nX x y z x y z) (nY x y z x y z) (nZ x y z x y z) bX bY 1) := by simp only [lad, stp, frc_eq, cond_true]
      have e2 : ladN (true :: r) v = ladN r (v + v + 1) := rfl
      rw [e, e2]
      have ha := Rep.add (nsm_on base_on (v + v)) base_on hd base_rep
      exact lad_ok r _ _ _ _ ha
def ordBits : List Bool := [true, true, true, true, true, true, true, true, true, true, true, true, true, true, true, true, true, true, true, true, true, true, true, true, true, true, true, true, true, true, true, true, true, true, true, true, true, true, true, true, true, true, true, true, true, true, true, true, true, true, true, true, true, true, true, true, true, true, true, true, true, true, true, true, true, true, true, true, true, true, true, true, true, true, true, true, true, true, true, true, true, true, true, true, true, true, true, true, true, true, true, true, true, true, true, true, true, true, true, true, true, true, true, true, true, true, true, true, true, true, true, true, true, true, true, true, true, true, true, true, true, true, true, true, true, true, true, false, true, false, true, true, true, false, true, false, true, false, true, false, true, true, true, false, true, true, false, true, true, true, false, false, true, true, true, false, false, true, true, false, true, false, true, false, true, true, true, true, false, true, false, false, true, false, false, false, true, false, true, false, false, false, false, false, false, false, true, true, true, false, true, true, true, false, true, true, true, true, true, true, true, true, false, true, false, false, true, false, false, true, false, true, true, true, true, false, true, false, false, false, true, true, false, false, true, true, false, true, false, false, false, false, false, false, true, true, false, true, true, false, false, true, false, false, false, false, false, true, false, true, false, false, false, false, false, true]
theorem ord_val : ladN ordBits 0 = 115792089237316195423570985008687907852837564279074904382605163141518161494337 := by decide +kernel
theorem ord_zero : (lad ordBits 0 1 0).2.2 = 0 := by decide +kernel
theorem base_order : nsm 115792089237316195423570985008687907852837564279074904382605163141518161494337 base0 = .o := by
  have h := lad_ok ordBits 0 1 0 0 ⟨1, one_ne, by show (0 : Fp) = 1 * 0; grobner, by show (1 : Fp) = 1 * 1; grobner, by show (0 : Fp) = 1 * 0; grobner⟩
  rw [ord_val, ord_zero] at h
  exact h.zero
theorem nsm_order {p : Pt} (h : nsm 115792089237316195423570985008687907852837564279074904382605163141518161494337 p = .o) (hp : onC p) (a b : Nat) (hab : a % 115792089237316195423570985008687907852837564279074904382605163141518161494337 = b % 115792089237316195423570985008687907852837564279074904382605163141518161494337) : nsm a p = nsm b p := by
  have key : ∀ a, nsm a p = nsm (a % 115792089237316195423570985008687907852837564279074904382605163141518161494337) p := fun a => by
    have e := Nat.div_add_mod a 115792089237316195423570985008687907852837564279074904382605163141518161494337
    rw [← e, nsm_add hp, nsm_mul hp, h, nsm_o, o_padd, e]
  rw [key a, key b, hab]
theorem prmN : Prm 115792089237316195423570985008687907852837564279074904382605163141518161494337 := prm_115792089237316195423570985008687907852837564279074904382605163141518161494337
theorem base_small {k : Nat} (h0 : 0 < k) (h1 : k < 115792089237316195423570985008687907852837564279074904382605163141518161494337) : nsm k base0 ≠ .o := by
  intro h
  have h2 := inv_mul prmN (a := k) (by rw [Nat.mod_eq_of_lt h1]; omega)
  have h3 := nsm_order base_order base_on (k * pwN k (115792089237316195423570985008687907852837564279074904382605163141518161494337 - 2) 115792089237316195423570985008687907852837564279074904382605163141518161494337) 1 (by rw [h2])
  rw [nsm_mul base_on, h, nsm_o, nsm_1] at h3
  cases h3
end Go.Ec
