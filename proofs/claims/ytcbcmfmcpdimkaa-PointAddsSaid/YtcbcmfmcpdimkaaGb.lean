/- The group of the curve. No condition. -/
import Derived.Test.YtcbcmfmcpdimkaaGa
import Derived.Test.YtcbcmfmcpdimkaaTu
set_option maxRecDepth 100000
set_option linter.unusedVariables false
namespace Go.Ec
open Go.Vm

/-! ### The field -/
theorem nc_val (n : Nat) : (nc n).val = n % 115792089237316195423570985008687907853269984665640564039457584007908834671663 := rfl
theorem val_nc (a : Fp) : nc a.val = a := Fin.ext (Nat.mod_eq_of_lt a.isLt)
noncomputable def finv (a : Fp) : Fp := nc (pwN a.val (115792089237316195423570985008687907853269984665640564039457584007908834671663 - 2) 115792089237316195423570985008687907853269984665640564039457584007908834671663)
theorem prmP : Prm 115792089237316195423570985008687907853269984665640564039457584007908834671663 := prm_115792089237316195423570985008687907853269984665640564039457584007908834671663
theorem val_ne {a : Fp} (h : a ≠ 0) : a.val ≠ 0 := fun e => h (Fin.ext e)
theorem finv_mul {a : Fp} (h : a ≠ 0) : a * finv a = 1 := by
  apply Fin.ext
  have h1 := inv_mul prmP (a := a.val) (by rw [Nat.mod_eq_of_lt a.isLt]; exact val_ne h)
  show a.val * (pwN a.val (115792089237316195423570985008687907853269984665640564039457584007908834671663 - 2) 115792089237316195423570985008687907853269984665640564039457584007908834671663 % 115792089237316195423570985008687907853269984665640564039457584007908834671663) % 115792089237316195423570985008687907853269984665640564039457584007908834671663 = 1
  rw [Nat.mul_mod_mod]
  exact h1
theorem fz {a b : Fp} (h : a * b = 0) : a = 0 ∨ b = 0 := by
  by_cases ha : a = 0
  · exact .inl ha
  · right
    have h1 := finv_mul ha
    generalize finv a = i at h1
    grobner
theorem fnz {a b : Fp} (ha : a ≠ 0) (hb : b ≠ 0) : a * b ≠ 0 := fun h => (fz h).elim ha hb
theorem fcan {a b c : Fp} (ha : a ≠ 0) (h : a * b = a * c) : b = c := by
  have h1 := finv_mul ha
  generalize finv a = i at h1
  grobner
theorem fmul_assoc (a b c : Fp) : a * b * c = a * (b * c) := by grobner
theorem two_ne : (2 : Fp) ≠ 0 := by decide +kernel
theorem eight_ne : (8 : Fp) ≠ 0 := by decide +kernel
theorem one_ne : (1 : Fp) ≠ 0 := by decide +kernel
theorem cube_pow {P T e : Nat} (hp : Prm P) (hT : ¬ P ∣ T) (he : P - 1 = 3 * e) : (T * (T * T) % P) ^ e % P = 1 := by
  have h1 := fermat hp hT
  have e3 : T ^ 3 = T * (T * T) := by rw [Nat.pow_succ, Nat.pow_succ, Nat.pow_succ, Nat.pow_zero, Nat.one_mul, Nat.mul_assoc]
  rw [he, Nat.pow_mul, e3, Nat.pow_mod] at h1
  exact h1
theorem root_cert {P T e c : Nat} (hp : Prm P) (h0 : (T * (T * T) + 7) % P = 0) (h7 : 7 < P) (hlt : T < P) (he : P - 1 = 3 * e) (he2 : e < 2 ^ 256) (hc : mp P 256 (P - 7) e % P = c) (hc1 : c ≠ 1) : False := by
  have hT : ¬ P ∣ T := fun hd => by
    rcases Nat.eq_zero_or_pos T with h | h
    · subst h
      rw [Nat.zero_mul, Nat.zero_add, Nat.mod_eq_of_lt h7] at h0
      omega
    · have := Nat.le_of_dvd h hd
      omega
  have h1 := cube_pow hp hT he
  have e2 : T * (T * T) % P = P - 7 := by
    have h2 := Nat.mod_lt (T * (T * T)) (show 0 < P by omega)
    rw [← Nat.mod_add_mod] at h0
    generalize T * (T * T) % P = u at *
    rcases Nat.lt_or_ge (u + 7) P with h3 | h3
    · rw [Nat.mod_eq_of_lt h3] at h0; omega
    · rw [Nat.mod_eq_sub_mod h3, Nat.mod_eq_of_lt (by omega)] at h0
      omega
  rw [e2, ← mp_eq _ 256 _ _ he2, hc] at h1
  exact hc1 h1
/-- 7 with another sign is no third power -/
theorem no_root (t : Fp) : t * (t * t) + 7 ≠ 0 := by
  intro h
  have h0 : (t.val * (t.val * t.val % 115792089237316195423570985008687907853269984665640564039457584007908834671663) % 115792089237316195423570985008687907853269984665640564039457584007908834671663 + 7) % 115792089237316195423570985008687907853269984665640564039457584007908834671663 = 0 := congrArg Fin.val h
  rw [Nat.mul_mod_mod, Nat.mod_add_mod] at h0
  exact root_cert prmP h0 (by decide) t.isLt (e := 38597363079105398474523661669562635951089994888546854679819194669302944890554) (c := 55594575648329892869085402983802832744385952214688224221778511981742606582254) (by decide +kernel) (by decide +kernel) (by decide +kernel) (by decide +kernel)

/-! ### Points -/
inductive Pt where
  | o
  | a (x y : Fp)
def onC : Pt → Prop
  | .o => True
  | .a x y => y * y = x * (x * x) + 7
def px : Pt → Fp
  | .o => 0
  | .a x _ => x
def py : Pt → Fp
  | .o => 1
  | .a _ y => y
def pz : Pt → Fp
  | .o => 0
  | .a _ _ => 1
theorem y_ne {x y : Fp} (h : onC (.a x y)) : y ≠ 0 := fun e => no_root x (by have h' : y * y = x * (x * x) + 7 := h; rw [← h', e]; grobner)
noncomputable def chX (x1 y1 x2 y2 : Fp) : Fp := (y2 - y1) * finv (x2 - x1) * ((y2 - y1) * finv (x2 - x1)) - x1 - x2
noncomputable def chY (x1 y1 x2 y2 : Fp) : Fp := (y2 - y1) * finv (x2 - x1) * (x1 - chX x1 y1 x2 y2) - y1
noncomputable def dbX (x y : Fp) : Fp := 3 * (x * x) * finv (2 * y) * (3 * (x * x) * finv (2 * y)) - x - x
noncomputable def dbY (x y : Fp) : Fp := 3 * (x * x) * finv (2 * y) * (x - dbX x y) - y
noncomputable def padd : Pt → Pt → Pt
  | .o, q => q
  | .a x y, .o => .a x y
  | .a x1 y1, .a x2 y2 => if x1 = x2 then (if y1 = y2 then .a (dbX x1 y1) (dbY x1 y1) else .o) else .a (chX x1 y1 x2 y2) (chY x1 y1 x2 y2)
def pneg : Pt → Pt
  | .o => .o
  | .a x y => .a x (0 - y)
theorem padd_o (p : Pt) : padd p .o = p := by cases p <;> rfl
theorem o_padd (p : Pt) : padd .o p = p := by cases p <;> rfl
theorem pneg_on {p : Pt} (h : onC p) : onC (pneg p) := by
  cases p with
  | o => trivial
  | a x y =>
    have h' : y * y = x * (x * x) + 7 := h
    show (0 - y) * (0 - y) = x * (x * x) + 7
    grobner
theorem sub_ne {a b : Fp} (h : a ≠ b) : b - a ≠ 0 := fun e => h (by grobner)
theorem ch_on {x1 y1 x2 y2 : Fp} (h1 : onC (.a x1 y1)) (h2 : onC (.a x2 y2)) (hx : x1 ≠ x2) : onC (.a (chX x1 y1 x2 y2) (chY x1 y1 x2 y2)) := by
  have h1' : y1 * y1 = x1 * (x1 * x1) + 7 := h1
  have h2' : y2 * y2 = x2 * (x2 * x2) + 7 := h2
  have hi := finv_mul (sub_ne hx)
  show chY x1 y1 x2 y2 * chY x1 y1 x2 y2 = chX x1 y1 x2 y2 * (chX x1 y1 x2 y2 * chX x1 y1 x2 y2) + 7
  unfold chY chX
  generalize finv (x2 - x1) = i at *
  clear h1 h2 hx
  grobner
theorem db_on {x y : Fp} (h : onC (.a x y)) : onC (.a (dbX x y) (dbY x y)) := by
  have h' : y * y = x * (x * x) + 7 := h
  have hi := finv_mul (fnz two_ne (y_ne h))
  show dbY x y * dbY x y = dbX x y * (dbX x y * dbX x y) + 7
  unfold dbY dbX
  generalize finv (2 * y) = i at *
  clear h
  grobner
theorem padd_on {p q : Pt} (hp : onC p) (hq : onC q) : onC (padd p q) := by
  cases p with
  | o => rw [o_padd]; exact hq
  | a x1 y1 =>
    cases q with
    | o => exact hp
    | a x2 y2 =>
      simp only [padd]
      split
      · split
        · exact db_on hp
        · trivial
      · rename_i hx; exact ch_on hp hq hx

/-! ### One formula for all -/
theorem c1 (x1 y1 x2 y2 : Fp) (h1 : y1*y1 = x1*(x1*x1)+7) (h2 : y2*y2 = x2*(x2*x2)+7) :
   aX x1 y1 1 x2 y2 1 * ((x2-x1)*(x2-x1)) = aZ x1 y1 1 x2 y2 1 * ((y2-y1)*(y2-y1) - (x1+x2)*((x2-x1)*(x2-x1))) := by
  unfold aX aZ; grobner
theorem c2 (x1 y1 x2 y2 : Fp) (h1 : y1*y1 = x1*(x1*x1)+7) (h2 : y2*y2 = x2*(x2*x2)+7) :
   aY x1 y1 1 x2 y2 1 * ((x2-x1)*(x2-x1)*(x2-x1)) = aZ x1 y1 1 x2 y2 1 * ((y2-y1)*(x1*((x2-x1)*(x2-x1)) - ((y2-y1)*(y2-y1) - (x1+x2)*((x2-x1)*(x2-x1)))) - y1*((x2-x1)*(x2-x1)*(x2-x1))) := by
  unfold aY aZ; grobner
theorem c3 (x1 y1 x2 y2 : Fp) (h1 : y1*y1 = x1*(x1*x1)+7) (h2 : y2*y2 = x2*(x2*x2)+7) :
   aZ x1 y1 1 x2 y2 1 = ((0-y2-y1)*(x1*((x2-x1)*(x2-x1)) - ((0-y2-y1)*(0-y2-y1) - (x1+x2)*((x2-x1)*(x2-x1)))) - y1*((x2-x1)*(x2-x1)*(x2-x1))) := by
  unfold aZ; grobner
theorem d1 (x y : Fp) (h1 : y*y = x*(x*x)+7) : aZ x y 1 x y 1 = 8*(y*y*y) := by unfold aZ; grobner
theorem d2 (x y : Fp) (h1 : y*y = x*(x*x)+7) : aX x y 1 x y 1 = 2*y*(9*(x*x*(x*x)) - 8*(x*(y*y))) := by unfold aX; grobner
theorem d3 (x y : Fp) (h1 : y*y = x*(x*x)+7) : aY x y 1 x y 1 = 3*(x*x)*(12*(x*(y*y)) - 9*(x*x*(x*x))) - 8*(y*y*(y*y)) := by unfold aY; grobner
theorem d4 (x y : Fp) (h1 : y*y = x*(x*x)+7) : aY x y 1 x (0-y) 1 = 3*(x*x)*(12*(x*(y*y)) - 9*(x*x*(x*x))) - 8*(y*y*(y*y)) := by unfold aY; grobner
theorem d5 (x y : Fp) : aX x y 1 x (0-y) 1 = 0 ∧ aZ x y 1 x (0-y) 1 = 0 := by
  constructor
  · unfold aX; grobner
  · unfold aZ; grobner
theorem ch_scale (A B C d i e s x1 y1 : Fp) (hi : d * i = 1) (h1 : A * (d * d) = C * (e * e - s * (d * d))) (h2 : B * (d * d * d) = C * (e * (x1 * (d * d) - (e * e - s * (d * d))) - y1 * (d * d * d))) :
    A = C * (e * i * (e * i) - s) ∧ B = C * (e * i * (x1 - (e * i * (e * i) - s)) - y1) := by
  constructor <;> grobner
theorem flaw {p q : Pt} (hp : onC p) (hq : onC q) : ∃ k : Fp, k ≠ 0 ∧ aX (px p) (py p) (pz p) (px q) (py q) (pz q) = k * px (padd p q) ∧ aY (px p) (py p) (pz p) (px q) (py q) (pz q) = k * py (padd p q) ∧ aZ (px p) (py p) (pz p) (px q) (py q) (pz q) = k * pz (padd p q) := by
  cases p with
  | o =>
    cases q with
    | o => exact ⟨1, one_ne, by simp only [px, py, pz, padd, aX]; grobner, by simp only [px, py, pz, padd, aY]; grobner, by simp only [px, py, pz, padd, aZ]; grobner⟩
    | a x y => exact ⟨y, y_ne hq, by simp only [px, py, pz, padd, aX]; grobner, by simp only [px, py, pz, padd, aY]; grobner, by simp only [px, py, pz, padd, aZ]; grobner⟩
  | a x1 y1 =>
    cases q with
    | o => exact ⟨y1, y_ne hp, by simp only [px, py, pz, padd, aX]; grobner, by simp only [px, py, pz, padd, aY]; grobner, by simp only [px, py, pz, padd, aZ]; grobner⟩
    | a x2 y2 =>
      have h1 : y1 * y1 = x1 * (x1 * x1) + 7 := hp
      have h2 : y2 * y2 = x2 * (x2 * x2) + 7 := hq
      by_cases hx : x1 = x2
      · subst hx
        by_cases hy : y1 = y2
        · subst hy
          have e : padd (.a x1 y1) (.a x1 y1) = .a (dbX x1 y1) (dbY x1 y1) := by simp [padd]
          have hn := y_ne hp
          have hi := finv_mul (fnz two_ne hn)
          rw [e]
          refine ⟨8 * (y1 * y1 * y1), fnz eight_ne (fnz (fnz hn hn) hn), ?_, ?_, ?_⟩
          · simp only [px, py, pz]
            rw [d2 x1 y1 h1]
            unfold dbX
            generalize finv (2 * y1) = i at *
            clear e hn hp hq h2
            grobner
          · simp only [px, py, pz]
            rw [d3 x1 y1 h1]
            unfold dbY dbX
            generalize finv (2 * y1) = i at *
            clear e hn hp hq h2
            grobner
          · simp only [px, py, pz]
            rw [d1 x1 y1 h1]
            grobner
        · have hy2 : y2 = 0 - y1 := by
            have : (y1 - y2) * (y1 + y2) = 0 := by grobner
            rcases fz this with h | h
            · exact absurd (by grobner) hy
            · grobner
          subst hy2
          have e : padd (.a x1 y1) (.a x1 (0 - y1)) = .o := by simp only [padd]; rw [if_pos trivial, if_neg hy]
          rw [e]
          have hn := y_ne hp
          have hi := finv_mul (fnz two_ne hn)
          have hd := y_ne (db_on hp)
          refine ⟨8 * (y1 * y1 * y1) * dbY x1 y1, fnz (fnz eight_ne (fnz (fnz hn hn) hn)) hd, ?_, ?_, ?_⟩
          · simp only [px, py, pz]; rw [(d5 x1 y1).1]; grobner
          · simp only [px, py, pz]
            rw [d4 x1 y1 h1]
            unfold dbY dbX
            generalize finv (2 * y1) = i at *
            clear e hn hp hq h2 hd hy
            grobner
          · simp only [px, py, pz]; rw [(d5 x1 y1).2]; grobner
      · have e : padd (.a x1 y1) (.a x2 y2) = .a (chX x1 y1 x2 y2) (chY x1 y1 x2 y2) := by simp only [padd]; rw [if_neg hx]
        rw [e]
        have hd := sub_ne hx
        have hi := finv_mul hd
        have e1 := c1 x1 y1 x2 y2 h1 h2
        have e2 := c2 x1 y1 x2 y2 h1 h2
        have e3 := c3 x1 y1 x2 y2 h1 h2
        have hq' : onC (.a x2 (0 - y2)) := pneg_on hq
        have hc := y_ne (ch_on hp hq' hx)
        have hz : aZ x1 y1 1 x2 y2 1 = (x2 - x1) * (x2 - x1) * (x2 - x1) * chY x1 y1 x2 (0 - y2) := by
          rw [e3]
          unfold chY chX
          generalize finv (x2 - x1) = i at *
          clear e e1 e2 e3 hq' hc hp hq
          grobner
        have hs := ch_scale _ _ _ _ _ _ _ x1 y1 hi e1 e2
        refine ⟨aZ x1 y1 1 x2 y2 1, ?_, ?_, ?_, ?_⟩
        · rw [hz]; exact fnz (fnz (fnz hd hd) hd) hc
        · simp only [px, py, pz]
          rw [hs.1]
          unfold chX
          clear hs hz hc e1 e2 e3 hi
          grobner
        · simp only [px, py, pz]
          rw [hs.2]
          unfold chY chX
          clear hs hz hc e1 e2 e3 hi
          grobner
        · simp only [px, py, pz]; grobner

/-! ### The group -/
theorem padd_comm {p q : Pt} (hp : onC p) (hq : onC q) : padd p q = padd q p := by
  cases p with
  | o => rw [o_padd, padd_o]
  | a x1 y1 =>
    cases q with
    | o => rw [o_padd, padd_o]
    | a x2 y2 =>
      by_cases hx : x1 = x2
      · subst hx
        by_cases hy : y1 = y2
        · rw [hy]
        · have hy' : ¬ y2 = y1 := fun e => hy e.symm
          simp [padd, hy, hy']
      · have hx' : ¬ x2 = x1 := fun e => hx e.symm
        have h1 := finv_mul (sub_ne hx)
        have h2 := finv_mul (sub_ne hx')
        simp only [padd, if_neg hx, if_neg hx', Pt.a.injEq]
        have h3 : finv (x1 - x2) = 0 - finv (x2 - x1) := by
          refine fcan (sub_ne hx') ?_
          generalize finv (x1 - x2) = i at *
          generalize finv (x2 - x1) = j at *
          grobner
        have e1 : chX x1 y1 x2 y2 = chX x2 y2 x1 y1 := by
          unfold chX
          rw [h3]
          grobner
        refine ⟨e1, ?_⟩
        unfold chY
        rw [← e1, h3]
        generalize chX x1 y1 x2 y2 = X
        clear e1 h3 h2
        generalize finv (x2 - x1) = j at *
        grobner
theorem sc1 (k X Y Z x y z : Fp) : aX (k * X) (k * Y) (k * Z) x y z = k * k * aX X Y Z x y z ∧ aY (k * X) (k * Y) (k * Z) x y z = k * k * aY X Y Z x y z ∧ aZ (k * X) (k * Y) (k * Z) x y z = k * k * aZ X Y Z x y z := by
  refine ⟨?_, ?_, ?_⟩
  · unfold aX; grobner
  · unfold aY; grobner
  · unfold aZ; grobner
theorem sc2 (k X Y Z x y z : Fp) : aX x y z (k * X) (k * Y) (k * Z) = k * k * aX x y z X Y Z ∧ aY x y z (k * X) (k * Y) (k * Z) = k * k * aY x y z X Y Z ∧ aZ x y z (k * X) (k * Y) (k * Z) = k * k * aZ x y z X Y Z := by
  refine ⟨?_, ?_, ?_⟩
  · unfold aX; grobner
  · unfold aY; grobner
  · unfold aZ; grobner
theorem one_point {s t : Pt} {k m : Fp} (hk : k ≠ 0) (hm : m ≠ 0) (h1 : k * px s * (m * pz t) = k * pz s * (m * px t)) (h2 : k * py s * (m * pz t) = k * pz s * (m * py t)) (h3 : k * px s * (m * py t) = k * py s * (m * px t)) : s = t := by
  have hkm := fnz hk hm
  have g1 : px s * pz t = pz s * px t := fcan hkm (by grobner)
  have g2 : py s * pz t = pz s * py t := fcan hkm (by grobner)
  clear h1 h2 h3
  cases s with
  | o =>
    cases t with
    | o => rfl
    | a x y =>
      exfalso
      simp only [py, pz] at g2
      exact one_ne (by grobner)
  | a x y =>
    cases t with
    | o =>
      exfalso
      simp only [py, pz] at g2
      exact one_ne (by grobner)
    | a x' y' =>
      simp only [px, py, pz] at g1 g2
      have e1 : x = x' := by grobner
      have e2 : y = y' := by grobner
      rw [e1, e2]
theorem padd_assoc {p q r : Pt} (hp : onC p) (hq : onC q) (hr : onC r) : padd (padd p q) r = padd p (padd q r) := by
  cases p with
  | o => rw [o_padd, o_padd]
  | a x1 y1 =>
    cases q with
    | o => rw [padd_o, o_padd]
    | a x2 y2 =>
      cases r with
      | o => rw [padd_o, padd_o]
      | a x3 y3 =>
        obtain ⟨k1, n1, a1, a2, a3⟩ := flaw hp hq
        obtain ⟨k2, n2, b1, b2, b3⟩ := flaw (padd_on hp hq) hr
        obtain ⟨k3, n3, c1, c2, c3⟩ := flaw hq hr
        obtain ⟨k4, n4, d1, d2, d3⟩ := flaw hp (padd_on hq hr)
        obtain ⟨g1, g2, g3⟩ := group3 x1 y1 x2 y2 x3 y3 hp hq hr _ _ _ rfl rfl rfl _ _ _ rfl rfl rfl
        have a1' : aX x1 y1 1 x2 y2 1 = _ := a1
        have a2' : aY x1 y1 1 x2 y2 1 = _ := a2
        have a3' : aZ x1 y1 1 x2 y2 1 = _ := a3
        have c1' : aX x2 y2 1 x3 y3 1 = _ := c1
        have c2' : aY x2 y2 1 x3 y3 1 = _ := c2
        have c3' : aZ x2 y2 1 x3 y3 1 = _ := c3
        obtain ⟨s1, s2, s3⟩ := sc1 k1 (px (padd (.a x1 y1) (.a x2 y2))) (py (padd (.a x1 y1) (.a x2 y2))) (pz (padd (.a x1 y1) (.a x2 y2))) x3 y3 1
        obtain ⟨t1, t2, t3⟩ := sc2 k3 (px (padd (.a x2 y2) (.a x3 y3))) (py (padd (.a x2 y2) (.a x3 y3))) (pz (padd (.a x2 y2) (.a x3 y3))) x1 y1 1
        have b1' : aX (px (padd (.a x1 y1) (.a x2 y2))) (py (padd (.a x1 y1) (.a x2 y2))) (pz (padd (.a x1 y1) (.a x2 y2))) x3 y3 1 = _ := b1
        have b2' : aY (px (padd (.a x1 y1) (.a x2 y2))) (py (padd (.a x1 y1) (.a x2 y2))) (pz (padd (.a x1 y1) (.a x2 y2))) x3 y3 1 = _ := b2
        have b3' : aZ (px (padd (.a x1 y1) (.a x2 y2))) (py (padd (.a x1 y1) (.a x2 y2))) (pz (padd (.a x1 y1) (.a x2 y2))) x3 y3 1 = _ := b3
        have d1' : aX x1 y1 1 (px (padd (.a x2 y2) (.a x3 y3))) (py (padd (.a x2 y2) (.a x3 y3))) (pz (padd (.a x2 y2) (.a x3 y3))) = _ := d1
        have d2' : aY x1 y1 1 (px (padd (.a x2 y2) (.a x3 y3))) (py (padd (.a x2 y2) (.a x3 y3))) (pz (padd (.a x2 y2) (.a x3 y3))) = _ := d2
        have d3' : aZ x1 y1 1 (px (padd (.a x2 y2) (.a x3 y3))) (py (padd (.a x2 y2) (.a x3 y3))) (pz (padd (.a x2 y2) (.a x3 y3))) = _ := d3
        rw [a1', a2', a3', c1', c2', c3', s1, s3, t1, t3, b1', b3', d1', d3'] at g1
        rw [a1', a2', a3', c1', c2', c3', s2, s3, t2, t3, b2', b3', d2', d3'] at g2
        rw [a1', a2', a3', c1', c2', c3', s1, s2, t1, t2, b1', b2', d1', d2'] at g3
        exact one_point (fnz (fnz n1 n1) n2) (fnz (fnz n3 n3) n4) (by simp only [fmul_assoc] at g1 ⊢; exact g1) (by simp only [fmul_assoc] at g2 ⊢; exact g2) (by simp only [fmul_assoc] at g3 ⊢; exact g3)
theorem padd_neg {p : Pt} (hp : onC p) : padd p (pneg p) = .o := by
  cases p with
  | o => rfl
  | a x y =>
    have hn := y_ne hp
    have : ¬ y = 0 - y := fun e => fnz two_ne hn (by grobner)
    simp only [padd, pneg]
    rw [if_pos trivial, if_neg this]
theorem pneg_neg (p : Pt) : pneg (pneg p) = p := by
  cases p with
  | o => rfl
  | a x y =>
    have : (0 - (0 - y) : Fp) = y := by grobner
    simp only [pneg, this]
end Go.Ec
