/- Texts of the proof, laid together: Gb, Gc, Rt, Pz, Pa, Pb, Pc, Pd. No condition. -/
import Derived.Test.YtphocbfdakjmaaaPart3
import Derived.Test.YtphocbfdakjmaaaPart4
/- The group of the curve. No condition. -/
set_option maxRecDepth 100000
set_option linter.unusedVariables false
namespace Go.Ec
open Go.Vm

/-! ### The field -/
theorem nc_val (n : Nat) : (nc n).val = n % 115792089237316195423570985008687907853269984665640564039457584007908834671663 := rfl
theorem val_nc (a : Fp) : nc a.val = a := Fin.ext (Nat.mod_eq_of_lt a.isLt)
noncomputable def finv (a : Fp) : Fp := nc (pwN a.val (115792089237316195423570985008687907853269984665640564039457584007908834671663 - 2) 115792089237316195423570985008687907853269984665640564039457584007908834671663)
theorem prmP : Prm 115792089237316195423570985008687907853269984665640564039457584007908834671663 := prm_115792089237316195423570985008687907853269984665640564039457584007908834671663
theorem val_ne {a : Fp} (h : a ≠ 0) : a.val ≠ 0 := fun e => h (Fin.ext e)
theorem finv_mul {a : Fp} (h : a ≠ 0) : a * finv a = 1 := by
  apply Fin.ext
  have h1 := inv_mul prmP (a := a.val) (by rw [Nat.mod_eq_of_lt a.isLt]; exact val_ne h)
  show a.val * (pwN a.val (115792089237316195423570985008687907853269984665640564039457584007908834671663 - 2) 115792089237316195423570985008687907853269984665640564039457584007908834671663 % 115792089237316195423570985008687907853269984665640564039457584007908834671663) % 115792089237316195423570985008687907853269984665640564039457584007908834671663 = 1
  rw [Nat.mul_mod_mod]
  exact h1
theorem fz {a b : Fp} (h : a * b = 0) : a = 0 ∨ b = 0 := by
  by_cases ha : a = 0
  · exact .inl ha
  · right
    have h1 := finv_mul ha
    generalize finv a = i at h1
    grobner
theorem fnz {a b : Fp} (ha : a ≠ 0) (hb : b ≠ 0) : a * b ≠ 0 := fun h => (fz h).elim ha hb
theorem fcan {a b c : Fp} (ha : a ≠ 0) (h : a * b = a * c) : b = c := by
  have h1 := finv_mul ha
  generalize finv a = i at h1
  grobner
theorem fmul_assoc (a b c : Fp) : a * b * c = a * (b * c) := by grobner
theorem two_ne : (2 : Fp) ≠ 0 := by decide +kernel
theorem eight_ne : (8 : Fp) ≠ 0 := by decide +kernel
theorem one_ne : (1 : Fp) ≠ 0 := by decide +kernel
theorem cube_pow {P T e : Nat} (hp : Prm P) (hT : ¬ P ∣ T) (he : P - 1 = 3 * e) : (T * (T * T) % P) ^ e % P = 1 := by
  have h1 := fermat hp hT
  have e3 : T ^ 3 = T * (T * T) := by rw [Nat.pow_succ, Nat.pow_succ, Nat.pow_succ, Nat.pow_zero, Nat.one_mul, Nat.mul_assoc]
  rw [he, Nat.pow_mul, e3, Nat.pow_mod] at h1
  exact h1
theorem root_cert {P T e c : Nat} (hp : Prm P) (h0 : (T * (T * T) + 7) % P = 0) (h7 : 7 < P) (hlt : T < P) (he : P - 1 = 3 * e) (he2 : e < 2 ^ 256) (hc : mp P 256 (P - 7) e % P = c) (hc1 : c ≠ 1) : False := by
  have hT : ¬ P ∣ T := fun hd => by
    rcases Nat.eq_zero_or_pos T with h | h
    · subst h
      rw [Nat.zero_mul, Nat.zero_add, Nat.mod_eq_of_lt h7] at h0
      omega
    · have := Nat.le_of_dvd h hd
      omega
  have h1 := cube_pow hp hT he
  have e2 : T * (T * T) % P = P - 7 := by
    have h2 := Nat.mod_lt (T * (T * T)) (show 0 < P by omega)
    rw [← Nat.mod_add_mod] at h0
    generalize T * (T * T) % P = u at *
    rcases Nat.lt_or_ge (u + 7) P with h3 | h3
    · rw [Nat.mod_eq_of_lt h3] at h0; omega
    · rw [Nat.mod_eq_sub_mod h3, Nat.mod_eq_of_lt (by omega)] at h0
      omega
  rw [e2, ← mp_eq _ 256 _ _ he2, hc] at h1
  exact hc1 h1
/-- 7 with another sign is no third power -/
theorem no_root (t : Fp) : t * (t * t) + 7 ≠ 0 := by
  intro h
  have h0 : (t.val * (t.val * t.val % 115792089237316195423570985008687907853269984665640564039457584007908834671663) % 115792089237316195423570985008687907853269984665640564039457584007908834671663 + 7) % 115792089237316195423570985008687907853269984665640564039457584007908834671663 = 0 := congrArg Fin.val h
  rw [Nat.mul_mod_mod, Nat.mod_add_mod] at h0
  exact root_cert prmP h0 (by decide) t.isLt (e := 38597363079105398474523661669562635951089994888546854679819194669302944890554) (c := 55594575648329892869085402983802832744385952214688224221778511981742606582254) (by decide +kernel) (by decide +kernel) (by decide +kernel) (by decide +kernel)

/-! ### Points -/
inductive Pt where
  | o
  | a (x y : Fp)
def onC : Pt → Prop
  | .o => True
  | .a x y => y * y = x * (x * x) + 7
def px : Pt → Fp
  | .o => 0
  | .a x _ => x
def py : Pt → Fp
  | .o => 1
  | .a _ y => y
def pz : Pt → Fp
  | .o => 0
  | .a _ _ => 1
theorem y_ne {x y : Fp} (h : onC (.a x y)) : y ≠ 0 := fun e => no_root x (by have h' : y * y = x * (x * x) + 7 := h; rw [← h', e]; grobner)
noncomputable def chX (x1 y1 x2 y2 : Fp) : Fp := (y2 - y1) * finv (x2 - x1) * ((y2 - y1) * finv (x2 - x1)) - x1 - x2
noncomputable def chY (x1 y1 x2 y2 : Fp) : Fp := (y2 - y1) * finv (x2 - x1) * (x1 - chX x1 y1 x2 y2) - y1
noncomputable def dbX (x y : Fp) : Fp := 3 * (x * x) * finv (2 * y) * (3 * (x * x) * finv (2 * y)) - x - x
noncomputable def dbY (x y : Fp) : Fp := 3 * (x * x) * finv (2 * y) * (x - dbX x y) - y
noncomputable def padd : Pt → Pt → Pt
  | .o, q => q
  | .a x y, .o => .a x y
  | .a x1 y1, .a x2 y2 => if x1 = x2 then (if y1 = y2 then .a (dbX x1 y1) (dbY x1 y1) else .o) else .a (chX x1 y1 x2 y2) (chY x1 y1 x2 y2)
def pneg : Pt → Pt
  | .o => .o
  | .a x y => .a x (0 - y)
theorem padd_o (p : Pt) : padd p .o = p := by cases p <;> rfl
theorem o_padd (p : Pt) : padd .o p = p := by cases p <;> rfl
theorem pneg_on {p : Pt} (h : onC p) : onC (pneg p) := by
  cases p with
  | o => trivial
  | a x y =>
    have h' : y * y = x * (x * x) + 7 := h
    show (0 - y) * (0 - y) = x * (x * x) + 7
    grobner
theorem sub_ne {a b : Fp} (h : a ≠ b) : b - a ≠ 0 := fun e => h (by grobner)
theorem ch_on {x1 y1 x2 y2 : Fp} (h1 : onC (.a x1 y1)) (h2 : onC (.a x2 y2)) (hx : x1 ≠ x2) : onC (.a (chX x1 y1 x2 y2) (chY x1 y1 x2 y2)) := by
  have h1' : y1 * y1 = x1 * (x1 * x1) + 7 := h1
  have h2' : y2 * y2 = x2 * (x2 * x2) + 7 := h2
  have hi := finv_mul (sub_ne hx)
  show chY x1 y1 x2 y2 * chY x1 y1 x2 y2 = chX x1 y1 x2 y2 * (chX x1 y1 x2 y2 * chX x1 y1 x2 y2) + 7
  unfold chY chX
  generalize finv (x2 - x1) = i at *
  clear h1 h2 hx
  grobner
theorem db_on {x y : Fp} (h : onC (.a x y)) : onC (.a (dbX x y) (dbY x y)) := by
  have h' : y * y = x * (x * x) + 7 := h
  have hi := finv_mul (fnz two_ne (y_ne h))
  show dbY x y * dbY x y = dbX x y * (dbX x y * dbX x y) + 7
  unfold dbY dbX
  generalize finv (2 * y) = i at *
  clear h
  grobner
theorem padd_on {p q : Pt} (hp : onC p) (hq : onC q) : onC (padd p q) := by
  cases p with
  | o => rw [o_padd]; exact hq
  | a x1 y1 =>
    cases q with
    | o => exact hp
    | a x2 y2 =>
      simp only [padd]
      split
      · split
        · exact db_on hp
        · trivial
      · rename_i hx; exact ch_on hp hq hx

/-! ### One formula for all -/
theorem c1 (x1 y1 x2 y2 : Fp) (h1 : y1*y1 = x1*(x1*x1)+7) (h2 : y2*y2 = x2*(x2*x2)+7) :
   aX x1 y1 1 x2 y2 1 * ((x2-x1)*(x2-x1)) = aZ x1 y1 1 x2 y2 1 * ((y2-y1)*(y2-y1) - (x1+x2)*((x2-x1)*(x2-x1))) := by
  unfold aX aZ; grobner
theorem c2 (x1 y1 x2 y2 : Fp) (h1 : y1*y1 = x1*(x1*x1)+7) (h2 : y2*y2 = x2*(x2*x2)+7) :
   aY x1 y1 1 x2 y2 1 * ((x2-x1)*(x2-x1)*(x2-x1)) = aZ x1 y1 1 x2 y2 1 * ((y2-y1)*(x1*((x2-x1)*(x2-x1)) - ((y2-y1)*(y2-y1) - (x1+x2)*((x2-x1)*(x2-x1)))) - y1*((x2-x1)*(x2-x1)*(x2-x1))) := by
  unfold aY aZ; grobner
theorem c3 (x1 y1 x2 y2 : Fp) (h1 : y1*y1 = x1*(x1*x1)+7) (h2 : y2*y2 = x2*(x2*x2)+7) :
   aZ x1 y1 1 x2 y2 1 = ((0-y2-y1)*(x1*((x2-x1)*(x2-x1)) - ((0-y2-y1)*(0-y2-y1) - (x1+x2)*((x2-x1)*(x2-x1)))) - y1*((x2-x1)*(x2-x1)*(x2-x1))) := by
  unfold aZ; grobner
theorem d1 (x y : Fp) (h1 : y*y = x*(x*x)+7) : aZ x y 1 x y 1 = 8*(y*y*y) := by unfold aZ; grobner
theorem d2 (x y : Fp) (h1 : y*y = x*(x*x)+7) : aX x y 1 x y 1 = 2*y*(9*(x*x*(x*x)) - 8*(x*(y*y))) := by unfold aX; grobner
theorem d3 (x y : Fp) (h1 : y*y = x*(x*x)+7) : aY x y 1 x y 1 = 3*(x*x)*(12*(x*(y*y)) - 9*(x*x*(x*x))) - 8*(y*y*(y*y)) := by unfold aY; grobner
theorem d4 (x y : Fp) (h1 : y*y = x*(x*x)+7) : aY x y 1 x (0-y) 1 = 3*(x*x)*(12*(x*(y*y)) - 9*(x*x*(x*x))) - 8*(y*y*(y*y)) := by unfold aY; grobner
theorem d5 (x y : Fp) : aX x y 1 x (0-y) 1 = 0 ∧ aZ x y 1 x (0-y) 1 = 0 := by
  constructor
  · unfold aX; grobner
  · unfold aZ; grobner
theorem ch_scale (A B C d i e s x1 y1 : Fp) (hi : d * i = 1) (h1 : A * (d * d) = C * (e * e - s * (d * d))) (h2 : B * (d * d * d) = C * (e * (x1 * (d * d) - (e * e - s * (d * d))) - y1 * (d * d * d))) :
    A = C * (e * i * (e * i) - s) ∧ B = C * (e * i * (x1 - (e * i * (e * i) - s)) - y1) := by
  constructor <;> grobner
theorem flaw {p q : Pt} (hp : onC p) (hq : onC q) : ∃ k : Fp, k ≠ 0 ∧ aX (px p) (py p) (pz p) (px q) (py q) (pz q) = k * px (padd p q) ∧ aY (px p) (py p) (pz p) (px q) (py q) (pz q) = k * py (padd p q) ∧ aZ (px p) (py p) (pz p) (px q) (py q) (pz q) = k * pz (padd p q) := by
  cases p with
  | o =>
    cases q with
    | o => exact ⟨1, one_ne, by simp only [px, py, pz, padd, aX]; grobner, by simp only [px, py, pz, padd, aY]; grobner, by simp only [px, py, pz, padd, aZ]; grobner⟩
    | a x y => exact ⟨y, y_ne hq, by simp only [px, py, pz, padd, aX]; grobner, by simp only [px, py, pz, padd, aY]; grobner, by simp only [px, py, pz, padd, aZ]; grobner⟩
  | a x1 y1 =>
    cases q with
    | o => exact ⟨y1, y_ne hp, by simp only [px, py, pz, padd, aX]; grobner, by simp only [px, py, pz, padd, aY]; grobner, by simp only [px, py, pz, padd, aZ]; grobner⟩
    | a x2 y2 =>
      have h1 : y1 * y1 = x1 * (x1 * x1) + 7 := hp
      have h2 : y2 * y2 = x2 * (x2 * x2) + 7 := hq
      by_cases hx : x1 = x2
      · subst hx
        by_cases hy : y1 = y2
        · subst hy
          have e : padd (.a x1 y1) (.a x1 y1) = .a (dbX x1 y1) (dbY x1 y1) := by simp [padd]
          have hn := y_ne hp
          have hi := finv_mul (fnz two_ne hn)
          rw [e]
          refine ⟨8 * (y1 * y1 * y1), fnz eight_ne (fnz (fnz hn hn) hn), ?_, ?_, ?_⟩
          · simp only [px, py, pz]
            rw [d2 x1 y1 h1]
            unfold dbX
            generalize finv (2 * y1) = i at *
            clear e hn hp hq h2
            grobner
          · simp only [px, py, pz]
            rw [d3 x1 y1 h1]
            unfold dbY dbX
            generalize finv (2 * y1) = i at *
            clear e hn hp hq h2
            grobner
          · simp only [px, py, pz]
            rw [d1 x1 y1 h1]
            grobner
        · have hy2 : y2 = 0 - y1 := by
            have : (y1 - y2) * (y1 + y2) = 0 := by grobner
            rcases fz this with h | h
            · exact absurd (by grobner) hy
            · grobner
          subst hy2
          have e : padd (.a x1 y1) (.a x1 (0 - y1)) = .o := by simp only [padd]; rw [if_pos trivial, if_neg hy]
          rw [e]
          have hn := y_ne hp
          have hi := finv_mul (fnz two_ne hn)
          have hd := y_ne (db_on hp)
          refine ⟨8 * (y1 * y1 * y1) * dbY x1 y1, fnz (fnz eight_ne (fnz (fnz hn hn) hn)) hd, ?_, ?_, ?_⟩
          · simp only [px, py, pz]; rw [(d5 x1 y1).1]; grobner
          · simp only [px, py, pz]
            rw [d4 x1 y1 h1]
            unfold dbY dbX
            generalize finv (2 * y1) = i at *
            clear e hn hp hq h2 hd hy
            grobner
          · simp only [px, py, pz]; rw [(d5 x1 y1).2]; grobner
      · have e : padd (.a x1 y1) (.a x2 y2) = .a (chX x1 y1 x2 y2) (chY x1 y1 x2 y2) := by simp only [padd]; rw [if_neg hx]
        rw [e]
        have hd := sub_ne hx
        have hi := finv_mul hd
        have e1 := c1 x1 y1 x2 y2 h1 h2
        have e2 := c2 x1 y1 x2 y2 h1 h2
        have e3 := c3 x1 y1 x2 y2 h1 h2
        have hq' : onC (.a x2 (0 - y2)) := pneg_on hq
        have hc := y_ne (ch_on hp hq' hx)
        have hz : aZ x1 y1 1 x2 y2 1 = (x2 - x1) * (x2 - x1) * (x2 - x1) * chY x1 y1 x2 (0 - y2) := by
          rw [e3]
          unfold chY chX
          generalize finv (x2 - x1) = i at *
          clear e e1 e2 e3 hq' hc hp hq
          grobner
        have hs := ch_scale _ _ _ _ _ _ _ x1 y1 hi e1 e2
        refine ⟨aZ x1 y1 1 x2 y2 1, ?_, ?_, ?_, ?_⟩
        · rw [hz]; exact fnz (fnz (fnz hd hd) hd) hc
        · simp only [px, py, pz]
          rw [hs.1]
          unfold chX
          clear hs hz hc e1 e2 e3 hi
          grobner
        · simp only [px, py, pz]
          rw [hs.2]
          unfold chY chX
          clear hs hz hc e1 e2 e3 hi
          grobner
        · simp only [px, py, pz]; grobner

/-! ### The group -/
theorem padd_comm {p q : Pt} (hp : onC p) (hq : onC q) : padd p q = padd q p := by
  cases p with
  | o => rw [o_padd, padd_o]
  | a x1 y1 =>
    cases q with
    | o => rw [o_padd, padd_o]
    | a x2 y2 =>
      by_cases hx : x1 = x2
      · subst hx
        by_cases hy : y1 = y2
        · rw [hy]
        · have hy' : ¬ y2 = y1 := fun e => hy e.symm
          simp [padd, hy, hy']
      · have hx' : ¬ x2 = x1 := fun e => hx e.symm
        have h1 := finv_mul (sub_ne hx)
        have h2 := finv_mul (sub_ne hx')
        simp only [padd, if_neg hx, if_neg hx', Pt.a.injEq]
        have h3 : finv (x1 - x2) = 0 - finv (x2 - x1) := by
          refine fcan (sub_ne hx') ?_
          generalize finv (x1 - x2) = i at *
          generalize finv (x2 - x1) = j at *
          grobner
        have e1 : chX x1 y1 x2 y2 = chX x2 y2 x1 y1 := by
          unfold chX
          rw [h3]
          grobner
        refine ⟨e1, ?_⟩
        unfold chY
        rw [← e1, h3]
        generalize chX x1 y1 x2 y2 = X
        clear e1 h3 h2
        generalize finv (x2 - x1) = j at *
        grobner
theorem sc1 (k X Y Z x y z : Fp) : aX (k * X) (k * Y) (k * Z) x y z = k * k * aX X Y Z x y z ∧ aY (k * X) (k * Y) (k * Z) x y z = k * k * aY X Y Z x y z ∧ aZ (k * X) (k * Y) (k * Z) x y z = k * k * aZ X Y Z x y z := by
  refine ⟨?_, ?_, ?_⟩
  · unfold aX; grobner
  · unfold aY; grobner
  · unfold aZ; grobner
theorem sc2 (k X Y Z x y z : Fp) : aX x y z (k * X) (k * Y) (k * Z) = k * k * aX x y z X Y Z ∧ aY x y z (k * X) (k * Y) (k * Z) = k * k * aY x y z X Y Z ∧ aZ x y z (k * X) (k * Y) (k * Z) = k * k * aZ x y z X Y Z := by
  refine ⟨?_, ?_, ?_⟩
  · unfold aX; grobner
  · unfold aY; grobner
  · unfold aZ; grobner
theorem one_point {s t : Pt} {k m : Fp} (hk : k ≠ 0) (hm : m ≠ 0) (h1 : k * px s * (m * pz t) = k * pz s * (m * px t)) (h2 : k * py s * (m * pz t) = k * pz s * (m * py t)) (h3 : k * px s * (m * py t) = k * py s * (m * px t)) : s = t := by
  have hkm := fnz hk hm
  have g1 : px s * pz t = pz s * px t := fcan hkm (by grobner)
  have g2 : py s * pz t = pz s * py t := fcan hkm (by grobner)
  clear h1 h2 h3
  cases s with
  | o =>
    cases t with
    | o => rfl
    | a x y =>
      exfalso
      simp only [py, pz] at g2
      exact one_ne (by grobner)
  | a x y =>
    cases t with
    | o =>
      exfalso
      simp only [py, pz] at g2
      exact one_ne (by grobner)
    | a x' y' =>
      simp only [px, py, pz] at g1 g2
      have e1 : x = x' := by grobner
      have e2 : y = y' := by grobner
      rw [e1, e2]
theorem padd_assoc {p q r : Pt} (hp : onC p) (hq : onC q) (hr : onC r) : padd (padd p q) r = padd p (padd q r) := by
  cases p with
  | o => rw [o_padd, o_padd]
  | a x1 y1 =>
    cases q with
    | o => rw [padd_o, o_padd]
    | a x2 y2 =>
      cases r with
      | o => rw [padd_o, padd_o]
      | a x3 y3 =>
        obtain ⟨k1, n1, a1, a2, a3⟩ := flaw hp hq
        obtain ⟨k2, n2, b1, b2, b3⟩ := flaw (padd_on hp hq) hr
        obtain ⟨k3, n3, c1, c2, c3⟩ := flaw hq hr
        obtain ⟨k4, n4, d1, d2, d3⟩ := flaw hp (padd_on hq hr)
        obtain ⟨g1, g2, g3⟩ := group3 x1 y1 x2 y2 x3 y3 hp hq hr _ _ _ rfl rfl rfl _ _ _ rfl rfl rfl
        have a1' : aX x1 y1 1 x2 y2 1 = _ := a1
        have a2' : aY x1 y1 1 x2 y2 1 = _ := a2
        have a3' : aZ x1 y1 1 x2 y2 1 = _ := a3
        have c1' : aX x2 y2 1 x3 y3 1 = _ := c1
        have c2' : aY x2 y2 1 x3 y3 1 = _ := c2
        have c3' : aZ x2 y2 1 x3 y3 1 = _ := c3
        obtain ⟨s1, s2, s3⟩ := sc1 k1 (px (padd (.a x1 y1) (.a x2 y2))) (py (padd (.a x1 y1) (.a x2 y2))) (pz (padd (.a x1 y1) (.a x2 y2))) x3 y3 1
        obtain ⟨t1, t2, t3⟩ := sc2 k3 (px (padd (.a x2 y2) (.a x3 y3))) (py (padd (.a x2 y2) (.a x3 y3))) (pz (padd (.a x2 y2) (.a x3 y3))) x1 y1 1
        have b1' : aX (px (padd (.a x1 y1) (.a x2 y2))) (py (padd (.a x1 y1) (.a x2 y2))) (pz (padd (.a x1 y1) (.a x2 y2))) x3 y3 1 = _ := b1
        have b2' : aY (px (padd (.a x1 y1) (.a x2 y2))) (py (padd (.a x1 y1) (.a x2 y2))) (pz (padd (.a x1 y1) (.a x2 y2))) x3 y3 1 = _ := b2
        have b3' : aZ (px (padd (.a x1 y1) (.a x2 y2))) (py (padd (.a x1 y1) (.a x2 y2))) (pz (padd (.a x1 y1) (.a x2 y2))) x3 y3 1 = _ := b3
        have d1' : aX x1 y1 1 (px (padd (.a x2 y2) (.a x3 y3))) (py (padd (.a x2 y2) (.a x3 y3))) (pz (padd (.a x2 y2) (.a x3 y3))) = _ := d1
        have d2' : aY x1 y1 1 (px (padd (.a x2 y2) (.a x3 y3))) (py (padd (.a x2 y2) (.a x3 y3))) (pz (padd (.a x2 y2) (.a x3 y3))) = _ := d2
        have d3' : aZ x1 y1 1 (px (padd (.a x2 y2) (.a x3 y3))) (py (padd (.a x2 y2) (.a x3 y3))) (pz (padd (.a x2 y2) (.a x3 y3))) = _ := d3
        rw [a1', a2', a3', c1', c2', c3', s1, s3, t1, t3, b1', b3', d1', d3'] at g1
        rw [a1', a2', a3', c1', c2', c3', s2, s3, t2, t3, b2', b3', d2', d3'] at g2
        rw [a1', a2', a3', c1', c2', c3', s1, s2, t1, t2, b1', b2', d1', d2'] at g3
        exact one_point (fnz (fnz n1 n1) n2) (fnz (fnz n3 n3) n4) (by simp only [fmul_assoc] at g1 ⊢; exact g1) (by simp only [fmul_assoc] at g2 ⊢; exact g2) (by simp only [fmul_assoc] at g3 ⊢; exact g3)
theorem padd_neg {p : Pt} (hp : onC p) : padd p (pneg p) = .o := by
  cases p with
  | o => rfl
  | a x y =>
    have hn := y_ne hp
    have : ¬ y = 0 - y := fun e => fnz two_ne hn (by grobner)
    simp only [padd, pneg]
    rw [if_pos trivial, if_neg this]
theorem pneg_neg (p : Pt) : pneg (pneg p) = p := by
  cases p with
  | o => rfl
  | a x y =>
    have : (0 - (0 - y) : Fp) = y := by grobner
    simp only [pneg, this]
end Go.Ec

/- Multiples of a point; the base's order. No condition. -/
set_option maxRecDepth 100000
set_option linter.unusedVariables false
set_option linter.unusedSimpArgs false
namespace Go.Ec
open Go.Vm

/-- a point, added so often -/
noncomputable def nsm : Nat → Pt → Pt
  | 0, _ => .o
  | n + 1, p => padd (nsm n p) p
theorem nsm_on {p : Pt} (hp : onC p) : ∀ n, onC (nsm n p)
  | 0 => trivial
  | n + 1 => padd_on (nsm_on hp n) hp
theorem nsm_1 (p : Pt) : nsm 1 p = p := by show padd .o p = p; exact o_padd p
theorem nsm_o : ∀ n, nsm n .o = .o
  | 0 => rfl
  | n + 1 => by show padd (nsm n .o) .o = .o; rw [nsm_o n]; rfl
theorem nsm_add {p : Pt} (hp : onC p) (m : Nat) : ∀ n, nsm (m + n) p = padd (nsm m p) (nsm n p)
  | 0 => by show nsm m p = padd (nsm m p) .o; rw [padd_o]
  | n + 1 => by
    show padd (nsm (m + n) p) p = padd (nsm m p) (padd (nsm n p) p)
    rw [nsm_add hp m n, padd_assoc (nsm_on hp m) (nsm_on hp n) hp]
theorem nsm_mul {p : Pt} (hp : onC p) (m : Nat) : ∀ n, nsm (m * n) p = nsm n (nsm m p)
  | 0 => rfl
  | n + 1 => by
    rw [Nat.mul_succ, nsm_add hp, nsm_mul hp m n]
    rfl
theorem padd_swap {a b c d : Pt} (ha : onC a) (hb : onC b) (hc : onC c) (hd : onC d) : padd (padd a b) (padd c d) = padd (padd a c) (padd b d) := by
  rw [padd_assoc ha hb (padd_on hc hd), ← padd_assoc hb hc hd, padd_comm hb hc, padd_assoc hc hb hd, ← padd_assoc ha hc (padd_on hb hd)]
theorem nsm_sum {p q : Pt} (hp : onC p) (hq : onC q) : ∀ n, nsm n (padd p q) = padd (nsm n p) (nsm n q)
  | 0 => rfl
  | n + 1 => by
    show padd (nsm n (padd p q)) (padd p q) = padd (padd (nsm n p) p) (padd (nsm n q) q)
    rw [nsm_sum hp hq n, padd_swap (nsm_on hp n) (nsm_on hq n) hp hq]

/-! ### The base -/
def bX : Nat := 55066263022277343669578718895168534326250603453777594175500187360389116729240
def bY : Nat := 32670510020758816978083085130507043184471273380659243275938904335757337482424
def base0 : Pt := .a (nc bX) (nc bY)
theorem base_on : onC base0 := by
  show nc bY * nc bY = nc bX * (nc bX * nc bX) + 7
  decide +kernel

/-! ### Points by three numbers -/
theorem nc_modP (a : Nat) : nc (a % 115792089237316195423570985008687907853269984665640564039457584007908834671663) = nc a := by
  apply Fin.ext
  simp only [nc_val, Nat.mod_mod]
def nsub (a b : Nat) : Nat := Nat.add a (Nat.sub 115792089237316195423570985008687907853269984665640564039457584007908834671663 (Nat.mod b 115792089237316195423570985008687907853269984665640564039457584007908834671663))
theorem nc_sub (a b : Nat) : nc (nsub a b) = nc a - nc b := by
  have h : nsub a b = a + (115792089237316195423570985008687907853269984665640564039457584007908834671663 - b % 115792089237316195423570985008687907853269984665640564039457584007908834671663) := rfl
  have hb := Nat.mod_lt b (show 0 < 115792089237316195423570985008687907853269984665640564039457584007908834671663 by decide)
  have h2 : nc (115792089237316195423570985008687907853269984665640564039457584007908834671663 - b % 115792089237316195423570985008687907853269984665640564039457584007908834671663) + nc b = 0 := by
    rw [← nc_modP b, ← nc_add, Nat.sub_add_cancel (by omega)]
    rfl
  rw [h, nc_add]
  grobner
def nX (x1 y1 z1 x2 y2 z2 : Nat) : Nat := Nat.mod (nsub ((x1*y2+x2*y1)*(nsub (y1*y2) (21*(z1*z2)))) (21*((y1*z2+y2*z1)*(x1*z2+x2*z1)))) 115792089237316195423570985008687907853269984665640564039457584007908834671663
def nY (x1 y1 z1 x2 y2 z2 : Nat) : Nat := Nat.mod ((y1*y2+21*(z1*z2))*(nsub (y1*y2) (21*(z1*z2))) + 63*(x1*x2*(x1*z2+x2*z1))) 115792089237316195423570985008687907853269984665640564039457584007908834671663
def nZ (x1 y1 z1 x2 y2 z2 : Nat) : Nat := Nat.mod ((y1*z2+y2*z1)*(y1*y2+21*(z1*z2)) + 3*(x1*x2*(x1*y2+x2*y1))) 115792089237316195423570985008687907853269984665640564039457584007908834671663
theorem n_ok (x1 y1 z1 x2 y2 z2 : Nat) : nc (nX x1 y1 z1 x2 y2 z2) = aX (nc x1) (nc y1) (nc z1) (nc x2) (nc y2) (nc z2) ∧ nc (nY x1 y1 z1 x2 y2 z2) = aY (nc x1) (nc y1) (nc z1) (nc x2) (nc y2) (nc z2) ∧ nc (nZ x1 y1 z1 x2 y2 z2) = aZ (nc x1) (nc y1) (nc z1) (nc x2) (nc y2) (nc z2) := by
  refine ⟨?_, ?_, ?_⟩
  · show nc (_ % 115792089237316195423570985008687907853269984665640564039457584007908834671663) = _
    simp only [nc_modP, nc_sub, nc_add, nc_mul, nc_21, aX]
  · show nc (_ % 115792089237316195423570985008687907853269984665640564039457584007908834671663) = _
    simp only [nc_modP, nc_sub, nc_add, nc_mul, nc_21, nc_63, aY]
  · show nc (_ % 115792089237316195423570985008687907853269984665640564039457584007908834671663) = _
    simp only [nc_modP, nc_sub, nc_add, nc_mul, nc_21, nc_3, aZ]
def Rep (x y z : Nat) (p : Pt) : Prop := ∃ k : Fp, k ≠ 0 ∧ nc x = k * px p ∧ nc y = k * py p ∧ nc z = k * pz p
theorem Rep.add {x1 y1 z1 x2 y2 z2 : Nat} {p q : Pt} (hp : onC p) (hq : onC q) (h1 : Rep x1 y1 z1 p) (h2 : Rep x2 y2 z2 q) : Rep (nX x1 y1 z1 x2 y2 z2) (nY x1 y1 z1 x2 y2 z2) (nZ x1 y1 z1 x2 y2 z2) (padd p q) := by
  obtain ⟨k, hk, a1, a2, a3⟩ := h1
  obtain ⟨m, hm, b1, b2, b3⟩ := h2
  obtain ⟨n1, n2, n3⟩ := n_ok x1 y1 z1 x2 y2 z2
  obtain ⟨s1, s2, s3⟩ := sc1 k (px p) (py p) (pz p) (m * px q) (m * py q) (m * pz q)
  obtain ⟨t1, t2, t3⟩ := sc2 m (px q) (py q) (pz q) (px p) (py p) (pz p)
  obtain ⟨r, hr, f1, f2, f3⟩ := flaw hp hq
  refine ⟨k * k * (m * m * r), fnz (fnz hk hk) (fnz (fnz hm hm) hr), ?_, ?_, ?_⟩
  · rw [n1, a1, a2, a3, b1, b2, b3, s1, t1, f1]; simp only [fmul_assoc]
  · rw [n2, a1, a2, a3, b1, b2, b3, s2, t2, f2]; simp only [fmul_assoc]
  · rw [n3, a1, a2, a3, b1, b2, b3, s3, t3, f3]; simp only [fmul_assoc]
theorem Rep.zero {x y : Nat} {p : Pt} (h : Rep x y 0 p) : p = .o := by
  obtain ⟨k, hk, _, _, h3⟩ := h
  cases p with
  | o => rfl
  | a x' y' =>
    exfalso
    have h4 : (0 : Fp) = k * 1 := h3
    exact hk (by grobner)
def frc {α : Type} (n : Nat) (k : Nat → α) : α :=
  match n with
  | 0 => k 0
  | m + 1 => k (m + 1)
theorem frc_eq {α : Type} (n : Nat) (k : Nat → α) : frc n k = k n := by cases n <;> rfl
def stp (x y z u v w : Nat) (k : Nat → Nat → Nat → Nat × Nat × Nat) : Nat × Nat × Nat := frc (nX x y z u v w) fun x' => frc (nY x y z u v w) fun y' => frc (nZ x y z u v w) fun z' => k x' y' z'
def lad : List Bool → Nat → Nat → Nat → Nat × Nat × Nat
  | [], x, y, z => (x, y, z)
  | b :: r, x, y, z => stp x y z x y z fun x y z => cond b (stp x y z bX bY 1 (lad r)) (lad r x y z)
def ladN : List Bool → Nat → Nat
  | [], v => v
  | b :: r, v => ladN r (v + v + cond b 1 0)
theorem base_rep : Rep bX bY 1 base0 := ⟨1, one_ne, by show nc bX = 1 * nc bX; grobner, by show nc bY = 1 * nc bY; grobner, by show (1 : Fp) = 1 * 1; grobner⟩
theorem lad_ok : ∀ (l : List Bool) (x y z v : Nat), Rep x y z (nsm v base0) → Rep (lad l x y z).1 (lad l x y z).2.1 (lad l x y z).2.2 (nsm (ladN l v) base0)
  | [], x, y, z, v, h => h
  | b :: r, x, y, z, v, h => by
    have hd := Rep.add (nsm_on base_on v) (nsm_on base_on v) h h
    rw [← nsm_add base_on] at hd
    cases b with
    | false =>
      have e : lad (false :: r) x y z = lad r (nX x y z x y z) (nY x y z x y z) (nZ x y z x y z) := by simp only [lad, stp, frc_eq, cond_false]
      have e2 : ladN (false :: r) v = ladN r (v + v) := rfl
      rw [e, e2]
      exact lad_ok r _ _ _ _ hd
    | true =>
      have e : lad (true :: r) x y z = lad r (nX (nX x y z x y z) (nY x y z x y z) (nZ x y z x y z) bX bY 1) (nY (nX x y z x y z) (nY x y z x y z) (nZ x y z x y z) bX bY 1) (nZ (nX x y z x y z) (nY x y z x y z) (nZ x y z x y z) bX bY 1) := by simp only [lad, stp, frc_eq, cond_true]
      have e2 : ladN (true :: r) v = ladN r (v + v + 1) := rfl
      rw [e, e2]
      have ha := Rep.add (nsm_on base_on (v + v)) base_on hd base_rep
      exact lad_ok r _ _ _ _ ha
def ordBits : List Bool := [true, true, true, true, true, true, true, true, true, true, true, true, true, true, true, true, true, true, true, true, true, true, true, true, true, true, true, true, true, true, true, true, true, true, true, true, true, true, true, true, true, true, true, true, true, true, true, true, true, true, true, true, true, true, true, true, true, true, true, true, true, true, true, true, true, true, true, true, true, true, true, true, true, true, true, true, true, true, true, true, true, true, true, true, true, true, true, true, true, true, true, true, true, true, true, true, true, true, true, true, true, true, true, true, true, true, true, true, true, true, true, true, true, true, true, true, true, true, true, true, true, true, true, true, true, true, true, false, true, false, true, true, true, false, true, false, true, false, true, false, true, true, true, false, true, true, false, true, true, true, false, false, true, true, true, false, false, true, true, false, true, false, true, false, true, true, true, true, false, true, false, false, true, false, false, false, true, false, true, false, false, false, false, false, false, false, true, true, true, false, true, true, true, false, true, true, true, true, true, true, true, true, false, true, false, false, true, false, false, true, false, true, true, true, true, false, true, false, false, false, true, true, false, false, true, true, false, true, false, false, false, false, false, false, true, true, false, true, true, false, false, true, false, false, false, false, false, true, false, true, false, false, false, false, false, true]
theorem ord_val : ladN ordBits 0 = 115792089237316195423570985008687907852837564279074904382605163141518161494337 := by decide +kernel
theorem ord_zero : (lad ordBits 0 1 0).2.2 = 0 := by decide +kernel
theorem base_order : nsm 115792089237316195423570985008687907852837564279074904382605163141518161494337 base0 = .o := by
  have h := lad_ok ordBits 0 1 0 0 ⟨1, one_ne, by show (0 : Fp) = 1 * 0; grobner, by show (1 : Fp) = 1 * 1; grobner, by show (0 : Fp) = 1 * 0; grobner⟩
  rw [ord_val, ord_zero] at h
  exact h.zero
theorem nsm_order {p : Pt} (h : nsm 115792089237316195423570985008687907852837564279074904382605163141518161494337 p = .o) (hp : onC p) (a b : Nat) (hab : a % 115792089237316195423570985008687907852837564279074904382605163141518161494337 = b % 115792089237316195423570985008687907852837564279074904382605163141518161494337) : nsm a p = nsm b p := by
  have key : ∀ a, nsm a p = nsm (a % 115792089237316195423570985008687907852837564279074904382605163141518161494337) p := fun a => by
    have e := Nat.div_add_mod a 115792089237316195423570985008687907852837564279074904382605163141518161494337
    rw [← e, nsm_add hp, nsm_mul hp, h, nsm_o, o_padd, e]
  rw [key a, key b, hab]
theorem prmN : Prm 115792089237316195423570985008687907852837564279074904382605163141518161494337 := prm_115792089237316195423570985008687907852837564279074904382605163141518161494337
theorem base_small {k : Nat} (h0 : 0 < k) (h1 : k < 115792089237316195423570985008687907852837564279074904382605163141518161494337) : nsm k base0 ≠ .o := by
  intro h
  have h2 := inv_mul prmN (a := k) (by rw [Nat.mod_eq_of_lt h1]; omega)
  have h3 := nsm_order base_order base_on (k * pwN k (115792089237316195423570985008687907852837564279074904382605163141518161494337 - 2) 115792089237316195423570985008687907852837564279074904382605163141518161494337) 1 (by rw [h2])
  rw [nsm_mul base_on, h, nsm_o, nsm_1] at h3
  cases h3
end Go.Ec

/- Contracts: quarter, Root; the law FieldRoots, as the machine walks it. No condition. -/
set_option maxRecDepth 100000
set_option linter.unusedSimpArgs false
set_option linter.unusedVariables false
namespace Go.Vm
open Go Go.RowKit Go.Proofs

theorem pN_0 : pN 0 = 115792089237316195423570985008687907853269984665640564039457584007908834671663 := by rw [pN_eq, cOf_eq, full_eq]; simp
noncomputable def qN : Nat := Classical.choose (⟨(pN 0 + 1) / 4, rfl⟩ : ∃ x : Nat, x = (pN 0 + 1) / 4)
theorem qN_eq : qN = (pN 0 + 1) / 4 := Classical.choose_spec (⟨(pN 0 + 1) / 4, rfl⟩ : ∃ x : Nat, x = (pN 0 + 1) / 4)
theorem qN_4 : 4 * qN = pN 0 + 1 := by rw [qN_eq, pN_0]
theorem qN_pos : 0 < qN := by have := qN_4; omega

/-! ### Plain laws -/
theorem sq_pm {p y : Nat} (hp : Prm p) (hy : y < p) (h : y * y % p = 1) : y = 1 ∨ y = p - 1 := by
  have hp1 := hp.1
  rcases Nat.eq_zero_or_pos y with e | hpos
  · subst e; rw [Nat.zero_mul, Nat.zero_mod] at h; omega
  · have h1 : p ∣ (y - 1) * (y + 1) := by
      have h2 : (y - 1) * (y + 1) + 1 = y * y := by
        obtain ⟨z, rfl⟩ : ∃ z, y = z + 1 := ⟨y - 1, by omega⟩
        rw [Nat.add_sub_cancel, Nat.mul_add, Nat.add_mul (m := 1), Nat.mul_one, Nat.one_mul, Nat.mul_add, Nat.mul_one]
        omega
      have h3 := Nat.div_add_mod (y * y) p
      rw [h] at h3
      exact ⟨y * y / p, by omega⟩
    rcases hp.dvd_mul h1 with h2 | h2
    · left
      rcases Nat.eq_zero_or_pos (y - 1) with e | e
      · omega
      · have := Nat.le_of_dvd e h2; omega
    · right
      have := Nat.le_of_dvd (by omega) h2
      omega
theorem neg_sq {p a : Nat} (ha : a ≤ p) : (p - a) * (p - a) % p = a * a % p := by
  have h : (p - a) * (p - a) + p * (2 * a) = a * a + p * p := by
    obtain ⟨b, rfl⟩ : ∃ b, p = a + b := ⟨p - a, by omega⟩
    rw [Nat.add_sub_cancel_left]
    simp only [Nat.add_mul, Nat.mul_add, Nat.two_mul]
    have := Nat.mul_comm a b
    omega
  have h1 : ((p - a) * (p - a) + p * (2 * a)) % p = (a * a + p * p) % p := by rw [h]
  rwa [Nat.add_mul_mod_self_left, Nat.add_mul_mod_self_left] at h1
theorem neg_pow {p a : Nat} (hp : 1 < p) (ha0 : a ≠ 0) (ha : a < p) (k : Nat) : pwN (p - a) (2 * k + 1) p = (p - pwN a (2 * k + 1) p) % p := by
  have e1 : (p - a) ^ (2 * k + 1) % p = (a * a) ^ k * (p - a) % p := by
    rw [Nat.pow_succ, Nat.pow_mul, Nat.pow_two, Nat.mul_mod, Nat.pow_mod, neg_sq (by omega), ← Nat.pow_mod, ← Nat.mul_mod]
  have e2 : a ^ (2 * k + 1) = (a * a) ^ k * a := by rw [Nat.pow_succ, Nat.pow_mul, Nat.pow_two]
  rw [pwN_eq, pwN_eq, e1, e2]
  generalize (a * a) ^ k = b
  have h1 : b * (p - a) + b * a = p * b := by rw [← Nat.mul_add, Nat.sub_add_cancel (by omega), Nat.mul_comm]
  have h2 := Nat.div_add_mod (b * a) p
  have h3 := Nat.mod_lt (b * a) (show 0 < p by omega)
  have h4 : b * (p - a) + p * (b * a / p + 1) = (p - b * a % p) + p * b := by rw [Nat.mul_add]; omega
  have h5 : (b * (p - a) + p * (b * a / p + 1)) % p = ((p - b * a % p) + p * b) % p := by rw [h4]
  rwa [Nat.add_mul_mod_self_left, Nat.add_mul_mod_self_left] at h5

/-- whether a number has a root -/
def Rt (a : Nat) : Prop := pwN a qN (pN 0) * pwN a qN (pN 0) % pN 0 = a
theorem pN_odd : ∃ k, pN 0 = 2 * (2 * k + 1) + 1 := ⟨28948022309329048855892746252171976963317496166410141009864396001977208667915, by rw [pN_0]⟩
theorem rt_half {a k : Nat} (hk : pN 0 = 2 * (2 * k + 1) + 1) (ha0 : a ≠ 0) (ha : a < pN 0) : Rt a ↔ pwN a (2 * k + 1) (pN 0) = 1 := by
  have hp : Prm (pN 0) := pN_prm rfl
  have hp1 := hp.1
  have hq := qN_4
  have e : pwN a qN (pN 0) * pwN a qN (pN 0) % pN 0 = a * pwN a (2 * k + 1) (pN 0) % pN 0 := by
    rw [pwN_add, show qN + qN = (2 * k + 1) + 1 by omega, ← pwN_one, Nat.mul_comm]
  unfold Rt
  rw [e]
  have hl := pwN_lt a (2 * k + 1) (p := pN 0) (by omega)
  generalize pwN a (2 * k + 1) (pN 0) = y at *
  constructor
  · intro h
    have hnd : ¬ pN 0 ∣ a := fun hd => by have := Nat.le_of_dvd (by omega) hd; omega
    rcases Nat.eq_zero_or_pos y with e0 | hpos
    · subst e0; rw [Nat.mul_zero, Nat.zero_mod] at h; omega
    · have h1 : a * y = a * (y - 1) + a := by rw [Nat.mul_sub, Nat.mul_one]; have := Nat.le_mul_of_pos_right a hpos; omega
      have h2 : pN 0 ∣ a * (y - 1) := by
        have h3 := Nat.div_add_mod (a * y) (pN 0)
        rw [h] at h3
        exact ⟨a * y / pN 0, by omega⟩
      rcases hp.dvd_mul h2 with h3 | h3
      · exact absurd h3 hnd
      · rcases Nat.eq_zero_or_pos (y - 1) with e0 | e0
        · omega
        · have := Nat.le_of_dvd e0 h3; omega
  · intro h
    rw [h, Nat.mul_one, Nat.mod_eq_of_lt ha]
theorem half_pm {a k : Nat} (hk : pN 0 = 2 * (2 * k + 1) + 1) (ha0 : a ≠ 0) (ha : a < pN 0) : pwN a (2 * k + 1) (pN 0) = 1 ∨ pwN a (2 * k + 1) (pN 0) = pN 0 - 1 := by
  have hp : Prm (pN 0) := pN_prm rfl
  have hp1 := hp.1
  refine sq_pm hp (pwN_lt _ _ (by omega)) ?_
  rw [pwN_add, pwN_eq, show 2 * k + 1 + (2 * k + 1) = pN 0 - 1 by omega]
  exact fermat hp (fun hd => by have := Nat.le_of_dvd (by omega) hd; omega)
theorem rt_one {a : Nat} (ha0 : a ≠ 0) (ha : a < pN 0) : Rt (pN 0 - a) ↔ ¬ Rt a := by
  obtain ⟨k, hk⟩ := pN_odd
  have hp1 : 1 < pN 0 := (pN_prm (w := 0) rfl).1
  rw [rt_half hk ha0 ha, rt_half hk (by omega) (by omega), neg_pow hp1 ha0 ha]
  rcases half_pm hk ha0 ha with h | h
  · rw [h, Nat.mod_eq_of_lt (by omega)]
    constructor
    · intro h1; omega
    · intro h1; exact absurd rfl h1
  · rw [h, show pN 0 - (pN 0 - 1) = 1 by omega, Nat.mod_eq_of_lt hp1]
    constructor
    · intro _ h1; omega
    · intro _; rfl
theorem rt_sq (a : Nat) : Rt (a * a % pN 0) := by
  obtain ⟨k, hk⟩ := pN_odd
  have hp : Prm (pN 0) := pN_prm rfl
  have hp1 := hp.1
  by_cases h0 : a * a % pN 0 = 0
  · unfold Rt
    rw [h0, pwN_eq, Nat.zero_pow qN_pos, Nat.zero_mod, Nat.zero_mul, Nat.zero_mod]
  · rw [rt_half hk h0 (Nat.mod_lt _ (by omega)), pwN_eq, ← Nat.pow_mod, ← Nat.pow_two, ← Nat.pow_mul, show 2 * (2 * k + 1) = pN 0 - 1 by omega]
    exact fermat hp (fun hd => h0 (Nat.mod_eq_zero_of_dvd (Nat.dvd_trans hd (Nat.dvd_mul_right a a))))

noncomputable def evN (r : Nat) : Nat := Classical.choose (⟨if r % 2 = 1 then pN 0 - r else r, rfl⟩ : ∃ x : Nat, x = if r % 2 = 1 then pN 0 - r else r)
theorem evN_eq (r : Nat) : evN r = if r % 2 = 1 then pN 0 - r else r := Classical.choose_spec (⟨if r % 2 = 1 then pN 0 - r else r, rfl⟩ : ∃ x : Nat, x = if r % 2 = 1 then pN 0 - r else r)
theorem evN_even {r : Nat} (h : r < pN 0) : evN r % 2 = 0 := by
  obtain ⟨k, hk⟩ := pN_odd
  rw [evN_eq]; split <;> omega
theorem evN_sq {r : Nat} (h : r < pN 0) : evN r * evN r % pN 0 = r * r % pN 0 := by
  rw [evN_eq]
  split
  · exact neg_sq (Nat.le_of_lt h)
  · rfl
theorem evN_lt {r : Nat} (h : r < pN 0) : evN r < full := by
  have := pN_lt 0
  rw [evN_eq]; split <;> omega

/-! ### Walks -/
noncomputable def quarterG : List DV → Option RV
  | [] => some (.one (.pl (uV qN)))
  | _ => none
theorem wp1 : w0 (pN 0 + 1) = 18446744069414583344 ∧ w1 (pN 0 + 1) = 18446744073709551615 ∧ w2 (pN 0 + 1) = 18446744073709551615 ∧ w3 (pN 0 + 1) = 18446744073709551615 := by
  rw [w0_eq, w1_eq, w2_eq, w3_eq, pN_0]; simp
theorem quarter_ok : ∀ ds r, quarterG ds = some r → Spec Try.prog 79 ds r := by
  intro ds r h
  unfold quarterG at h
  split at h
  case h_2 => cases h
  cases h
  have hΓ : Env.ok [(53, modulusG), (83, addG)] Try.prog := ok_cons modulus_ok (ok_cons add_ok (ok_nil _))
  have hw0 : isW 0 = true := rfl
  have tp : toN (uV (pN 0)) = some (pN 0) := toN_lt (pN_lt 0)
  have t1 : toN (uV 1) = some 1 := toN_lt (by have := full_big; omega)
  have u1 : Value.agg #[.int .u64 1, .int .u64 0, .int .u64 0, .int .u64 0] = uV 1 := uV_lit 1 (by omega)
  obtain ⟨v0, v1, v2, v3⟩ := wp1
  have hq : uV qN = .agg #[.int .u64 18446744072635809548, .int .u64 18446744073709551615, .int .u64 18446744073709551615, .int .u64 4611686018427387903] := by
    refine uV_of (x := qN) (a := 18446744072635809548) (b := 18446744073709551615) (c := 18446744073709551615) (d := 4611686018427387903) (by omega) (by omega) (by omega) (by omega) ?_
    rw [qN_eq, pN_0]; simp only [num, full_eq]
  have s0 : (18446744069414583344 : Int).fdiv (2 ^ min 2 IntKind.u64.bits) = 4611686017353645836 := by decide +kernel
  have s1 : (18446744073709551615 : Int).fdiv (2 ^ min 2 IntKind.u64.bits) = 4611686018427387903 := by decide +kernel
  have s2 : ((18446744073709551615 : Int) * 2 ^ min 62 IntKind.u64.bits) % 18446744073709551616 = 13835058055282163712 := by decide +kernel
  have o0 : bits .or .u64 4611686017353645836 13835058055282163712 = 18446744072635809548 := by decide +kernel
  have o1 : bits .or .u64 4611686018427387903 13835058055282163712 = 18446744073709551615 := by decide +kernel
  rw [hq]
  refine Spec.of_vx hΓ follows_mixed Try.func79 rfl (by kernel_rfl) (T := []) (by simp [Try.ntmps79]) (by kernel_rfl) rfl Try.ntmps79 (res := [.cell 0 24]) rfl ?_
  intro W
  simp -implicitDefEqProofs (maxSteps := 10000000) only [vy_succ, vmB, slim, slimOp, gO, gSO, qSO, quietOp, cS, qSB, eK, calmOp, guardS, gK, qK, putK, plK, dOk, St.ev, St.get, St.mem, St.set, St.setm, St.put, lookA, look, newK, nextver, initT, seqE, blockQ, bodyQ, resK, retV, AV.rdv, agg_uV, ↓binK, ↓intK, unK, ↓loadK, ↓withKey_eq, ↓idxAddrK, ↓indexK, ↓partK, ↓fieldK, ↓fieldAddrK, ↓convK, ↓callK, wrG, updK, ↓lenK, ↓mmK, ↓appK, ↓copyK, ↓sliceK, ↓toArrK, nilK, evs, plains, seqParts, capsOf, capsD, AV.dv, AV.cont, ↓buildV_eq, fillL, placesOf, ↓storeK, wrL, RV.av, DV.av, List.set, Nat.reduceEqDiff, Nat.reduceAdd, Nat.reduceSub, Nat.reduceMul, Nat.reduceLT, Nat.reduceLeDiff, Nat.reduceMod, Nat.reduceDiv, Int.reduceLT, Int.reduceLE, Int.reduceToNat, ↓reduceIte, reduceCtorEq, Value.oneCell', Int.reduceAdd, Int.reduceSub, Int.reduceMod, Int.reduceMul, Int.reduceNeg, Int.reduceBEq, Int.reduceBNe, Int.reduceTDiv, Int.reduceTMod, Int.reduceEq, tyB, Try.underlying13, Try.underlying25, Try.underlying26, Try.underlying39, Try.underlying40, Try.underlying72, Try.underlying73, modulusG, addG, hw0, tp, t1, u1]
  refine VT_rounds hΓ follows_mixed 5 ?_
  simp -implicitDefEqProofs (maxSteps := 10000000) only [v0, v1, v2, v3, s0, s1, s2, o0, o1, vy_succ, vmB, slim, slimOp, gO, gSO, qSO, quietOp, cS, qSB, eK, calmOp, guardS, gK, qK, putK, plK, dOk, St.ev, St.get, St.mem, St.set, St.setm, St.put, lookA, look, newK, nextver, initT, seqE, blockQ, bodyQ, resK, retV, AV.rdv, agg_uV, ↓binK, ↓intK, unK, ↓loadK, ↓withKey_eq, ↓idxAddrK, ↓indexK, ↓partK, ↓fieldK, ↓fieldAddrK, ↓convK, ↓callK, wrG, updK, ↓lenK, ↓mmK, ↓appK, ↓copyK, ↓sliceK, ↓toArrK, nilK, evs, plains, seqParts, capsOf, capsD, AV.dv, AV.cont, ↓buildV_eq, fillL, placesOf, ↓storeK, wrL, RV.av, DV.av, List.set, Nat.reduceEqDiff, Nat.reduceAdd, Nat.reduceSub, Nat.reduceMul, Nat.reduceLT, Nat.reduceLeDiff, Nat.reduceMod, Nat.reduceDiv, Int.reduceLT, Int.reduceLE, Int.reduceToNat, ↓reduceIte, reduceCtorEq, Value.oneCell', Int.reduceAdd, Int.reduceSub, Int.reduceMod, Int.reduceMul, Int.reduceNeg, Int.reduceBEq, Int.reduceBNe, Int.reduceTDiv, Int.reduceTMod, Int.reduceEq, tyB, Try.underlying13, Try.underlying25, Try.underlying26, Try.underlying39, Try.underlying40, Try.underlying72, Try.underlying73]

theorem odd_word (r : Nat) : (bits .and .u64 (w0 r : Nat) 1 == 1) = decide (r % 2 = 1) := by
  rw [and_one _ (w0_lt r), Nat.testBit_zero, w0_eq]
  have : r % 18446744073709551616 % 2 = r % 2 := by omega
  rw [this]

noncomputable def rootG : List DV → Option RV
  | [.pl va] => match toN va with
    | some a => open Classical in some (if Rt (a % pN 0) then .tup [.pl (uV (evN (pwN (a % pN 0) qN (pN 0)))), .pl (.int .i64 0)] else .tup [.pl (uV 0), .pl (.int .i64 6)])
    | none => none
  | _ => none

def rootTree : OT := .alt 0 (.alt 1 (.alt 2 (.alt 3 (.alt 4 (.alt 5 (.done) (.stop)) (.stop)) (.alt 4 (.alt 3 (.alt 5 (.done) (.stop)) (.stop)) (.stop))) (.alt 4 (.alt 2 (.alt 3 (.alt 5 (.done) (.stop)) (.stop)) (.stop)) (.stop))) (.alt 2 (.alt 1 (.alt 3 (.alt 4 (.alt 5 (.done) (.stop)) (.stop)) (.alt 4 (.alt 3 (.alt 5 (.done) (.stop)) (.stop)) (.stop))) (.alt 4 (.alt 1 (.alt 3 (.alt 5 (.done) (.stop)) (.stop)) (.stop)) (.stop))) (.alt 4 (.alt 1 (.alt 2 (.alt 3 (.alt 5 (.done) (.stop)) (.stop)) (.stop)) (.alt 2 (.alt 1 (.alt 3 (.alt 5 (.done) (.stop)) (.stop)) (.stop)) (.stop))) (.stop)))) (.alt 1 (.alt 0 (.alt 2 (.alt 3 (.alt 4 (.alt 5 (.done) (.stop)) (.stop)) (.alt 4 (.alt 3 (.alt 5 (.done) (.stop)) (.stop)) (.stop))) (.alt 4 (.alt 2 (.alt 3 (.alt 5 (.done) (.stop)) (.stop)) (.stop)) (.stop))) (.alt 2 (.alt 0 (.alt 3 (.alt 4 (.alt 5 (.done) (.stop)) (.stop)) (.alt 4 (.alt 3 (.alt 5 (.done) (.stop)) (.stop)) (.stop))) (.alt 4 (.alt 0 (.alt 3 (.alt 5 (.done) (.stop)) (.stop)) (.stop)) (.stop))) (.alt 4 (.alt 0 (.alt 2 (.alt 3 (.alt 5 (.done) (.stop)) (.stop)) (.stop)) (.alt 2 (.alt 0 (.alt 3 (.alt 5 (.done) (.stop)) (.stop)) (.stop)) (.stop))) (.stop)))) (.alt 2 (.alt 0 (.alt 1 (.alt 3 (.alt 4 (.alt 5 (.done) (.stop)) (.stop)) (.alt 4 (.alt 3 (.alt 5 (.done) (.stop)) (.stop)) (.stop))) (.alt 4 (.alt 1 (.alt 3 (.alt 5 (.done) (.stop)) (.stop)) (.stop)) (.stop))) (.alt 1 (.alt 0 (.alt 3 (.alt 4 (.alt 5 (.done) (.stop)) (.stop)) (.alt 4 (.alt 3 (.alt 5 (.done) (.stop)) (.stop)) (.stop))) (.alt 4 (.alt 0 (.alt 3 (.alt 5 (.done) (.stop)) (.stop)) (.stop)) (.stop))) (.alt 4 (.alt 0 (.alt 1 (.alt 3 (.alt 5 (.done) (.stop)) (.stop)) (.stop)) (.alt 1 (.alt 0 (.alt 3 (.alt 5 (.done) (.stop)) (.stop)) (.stop)) (.stop))) (.stop)))) (.alt 4 (.alt 0 (.alt 1 (.alt 2 (.alt 3 (.alt 5 (.done) (.stop)) (.stop)) (.stop)) (.alt 2 (.alt 1 (.alt 3 (.alt 5 (.done) (.stop)) (.stop)) (.stop)) (.stop))) (.alt 1 (.alt 0 (.alt 2 (.alt 3 (.alt 5 (.done) (.stop)) (.stop)) (.stop)) (.alt 2 (.alt 0 (.alt 3 (.alt 5 (.done) (.stop)) (.stop)) (.stop)) (.stop))) (.alt 2 (.alt 0 (.alt 1 (.alt 3 (.alt 5 (.done) (.stop)) (.stop)) (.stop)) (.alt 1 (.alt 0 (.alt 3 (.alt 5 (.done) (.stop)) (.stop)) (.stop)) (.stop))) (.stop)))) (.stop))))

set_option maxHeartbeats 8000000 in
theorem root_walk (a : Nat) (ha' : a < full) : (Rt (a % pN 0) → Spec Try.prog 47 [.pl (uV a)] (.tup [.pl (uV (evN (pwN (a % pN 0) qN (pN 0)))), .pl (.int .i64 0)])) ∧ (¬ Rt (a % pN 0) → Spec Try.prog 47 [.pl (uV a)] (.tup [.pl (uV 0), .pl (.int .i64 6)])) := by
  have hΓ : Env.ok [(50, belowG), (51, reduceG), (79, quarterG), (54, powerG), (80, mulcG), (53, modulusG), (52, subG)] Try.prog := ok_cons below_ok (ok_cons reduce_ok (ok_cons quarter_ok (ok_cons power_ok (ok_cons mulc_ok (ok_cons modulus_ok (ok_cons sub_ok (ok_nil _)))))))
  have ta : toN (uV a) = some a := toN_lt ha'
  have tc := toN_c 0
  have oc := cOk_c 0
  have w0' : isW 0 = true := rfl
  have ef : full - cOf 0 = pN 0 := (pN_eq 0).symm
  have tp : toN (uV (pN 0)) = some (pN 0) := toN_lt (pN_lt 0)
  have tq : toN (uV qN) = some qN := toN_lt (by have := qN_4; have := pN_lt 0; have := qN_pos; omega)
  have z : ∀ x : Nat, (x + 0 * full) = x := fun x => by omega
  have hp1 : 1 < pN 0 := (pN_prm (w := 0) rfl).1
  have hAl : a % pN 0 < pN 0 := Nat.mod_lt _ (by omega)
  have hAf := mod_pN a 0
  generalize hA : a % pN 0 = A at *
  have tA : toN (uV A) = some A := toN_lt hAf
  have hRl := pwN_lt A qN (p := pN 0) (by omega)
  have hev := evN_eq (pwN A qN (pN 0))
  have hrt : Rt A ↔ pwN A qN (pN 0) * pwN A qN (pN 0) % pN 0 = A := Iff.rfl
  generalize hR : pwN A qN (pN 0) = R at *
  have tR : toN (uV R) = some R := toN_lt (Nat.lt_trans hRl (pN_lt 0))
  have ew : eqU (R * R % pN 0) A = decide (R * R % pN 0 = A) := eqU_lt (mod_pN _ 0) hAf
  have od := odd_word R
  have us : uV (pN 0 + full - R) = uV (pN 0 - R) := by
    apply uV_inj
    rw [show pN 0 + full - R = pN 0 - R + full by omega, Nat.add_mod_right]
  constructor
  · intro h
    have e0 : eqU (R * R % pN 0) A = true := by rw [ew]; exact decide_eq_true (hrt.1 h)
    refine Spec.of_vx hΓ follows_mixed Try.func47 rfl (by kernel_rfl) (T := [(3, rootTree)]) (by simp [Try.ntmps47]) (by kernel_rfl) rfl Try.ntmps47 (res := [.cell 2 24, .tmp 3]) rfl ?_
    intro W
    by_cases hodd : R % 2 = 1
    · rw [decide_eq_true hodd] at od
      rw [if_pos hodd] at hev
      rw [hev]
      simp -implicitDefEqProofs (maxSteps := 10000000) only [vy_succ, vmB, slim, slimOp, gO, gSO, qSO, quietOp, cS, qSB, eK, calmOp, guardS, gK, qK, putK, plK, dOk, St.ev, St.get, St.mem, St.set, St.setm, St.put, lookA, look, newK, nextver, initT, seqE, blockQ, bodyQ, resK, retV, AV.rdv, agg_uV, ↓binK, ↓intK, unK, ↓loadK, ↓withKey_eq, ↓idxAddrK, ↓indexK, ↓partK, ↓fieldK, ↓fieldAddrK, ↓convK, ↓callK, wrG, updK, ↓lenK, ↓mmK, ↓appK, ↓copyK, ↓sliceK, ↓toArrK, nilK, evs, plains, seqParts, capsOf, capsD, AV.dv, AV.cont, ↓buildV_eq, fillL, placesOf, ↓storeK, wrL, RV.av, DV.av, List.set, Nat.reduceEqDiff, Nat.reduceAdd, Nat.reduceSub, Nat.reduceMul, Nat.reduceLT, Nat.reduceLeDiff, Nat.reduceMod, Nat.reduceDiv, Int.reduceLT, Int.reduceLE, Int.reduceToNat, ↓reduceIte, reduceCtorEq, Value.oneCell', Int.reduceAdd, Int.reduceSub, Int.reduceMod, Int.reduceMul, Int.reduceNeg, Int.reduceBEq, Int.reduceBNe, Int.reduceTDiv, Int.reduceTMod, Int.reduceEq, tyB, Try.underlying13, Try.underlying25, Try.underlying26, Try.underlying39, Try.underlying40, Try.underlying72, Try.underlying73, rootTree, belowG, reduceG, quarterG, powerG, mulcG, modulusG, subG, ta, tc, oc, w0', tp, tq, tA, tR, z, hA, hR, ef, toN_zero, ↓binK_neU, e0, od, us]
    · rw [decide_eq_false hodd] at od
      rw [if_neg hodd] at hev
      rw [hev]
      simp -implicitDefEqProofs (maxSteps := 10000000) only [vy_succ, vmB, slim, slimOp, gO, gSO, qSO, quietOp, cS, qSB, eK, calmOp, guardS, gK, qK, putK, plK, dOk, St.ev, St.get, St.mem, St.set, St.setm, St.put, lookA, look, newK, nextver, initT, seqE, blockQ, bodyQ, resK, retV, AV.rdv, agg_uV, ↓binK, ↓intK, unK, ↓loadK, ↓withKey_eq, ↓idxAddrK, ↓indexK, ↓partK, ↓fieldK, ↓fieldAddrK, ↓convK, ↓callK, wrG, updK, ↓lenK, ↓mmK, ↓appK, ↓copyK, ↓sliceK, ↓toArrK, nilK, evs, plains, seqParts, capsOf, capsD, AV.dv, AV.cont, ↓buildV_eq, fillL, placesOf, ↓storeK, wrL, RV.av, DV.av, List.set, Nat.reduceEqDiff, Nat.reduceAdd, Nat.reduceSub, Nat.reduceMul, Nat.reduceLT, Nat.reduceLeDiff, Nat.reduceMod, Nat.reduceDiv, Int.reduceLT, Int.reduceLE, Int.reduceToNat, ↓reduceIte, reduceCtorEq, Value.oneCell', Int.reduceAdd, Int.reduceSub, Int.reduceMod, Int.reduceMul, Int.reduceNeg, Int.reduceBEq, Int.reduceBNe, Int.reduceTDiv, Int.reduceTMod, Int.reduceEq, tyB, Try.underlying13, Try.underlying25, Try.underlying26, Try.underlying39, Try.underlying40, Try.underlying72, Try.underlying73, rootTree, belowG, reduceG, quarterG, powerG, mulcG, modulusG, subG, ta, tc, oc, w0', tp, tq, tA, tR, z, hA, hR, ef, toN_zero, ↓binK_neU, e0, od, us]
  · intro h
    have e0 : eqU (R * R % pN 0) A = false := by rw [ew]; exact decide_eq_false (fun h1 => h (hrt.2 h1))
    refine Spec.of_vx hΓ follows_mixed Try.func47 rfl (by kernel_rfl) (T := [(3, rootTree)]) (by simp [Try.ntmps47]) (by kernel_rfl) rfl Try.ntmps47 (res := [.cell 2 24, .tmp 3]) rfl ?_
    intro W
    simp -implicitDefEqProofs (maxSteps := 10000000) only [vy_succ, vmB, slim, slimOp, gO, gSO, qSO, quietOp, cS, qSB, eK, calmOp, guardS, gK, qK, putK, plK, dOk, St.ev, St.get, St.mem, St.set, St.setm, St.put, lookA, look, newK, nextver, initT, seqE, blockQ, bodyQ, resK, retV, AV.rdv, agg_uV, ↓binK, ↓intK, unK, ↓loadK, ↓withKey_eq, ↓idxAddrK, ↓indexK, ↓partK, ↓fieldK, ↓fieldAddrK, ↓convK, ↓callK, wrG, updK, ↓lenK, ↓mmK, ↓appK, ↓copyK, ↓sliceK, ↓toArrK, nilK, evs, plains, seqParts, capsOf, capsD, AV.dv, AV.cont, ↓buildV_eq, fillL, placesOf, ↓storeK, wrL, RV.av, DV.av, List.set, Nat.reduceEqDiff, Nat.reduceAdd, Nat.reduceSub, Nat.reduceMul, Nat.reduceLT, Nat.reduceLeDiff, Nat.reduceMod, Nat.reduceDiv, Int.reduceLT, Int.reduceLE, Int.reduceToNat, ↓reduceIte, reduceCtorEq, Value.oneCell', Int.reduceAdd, Int.reduceSub, Int.reduceMod, Int.reduceMul, Int.reduceNeg, Int.reduceBEq, Int.reduceBNe, Int.reduceTDiv, Int.reduceTMod, Int.reduceEq, tyB, Try.underlying13, Try.underlying25, Try.underlying26, Try.underlying39, Try.underlying40, Try.underlying72, Try.underlying73, rootTree, belowG, reduceG, quarterG, powerG, mulcG, modulusG, subG, ta, tc, oc, w0', tp, tq, tA, tR, z, hA, hR, ef, toN_zero, ↓binK_neU, e0, od, us]
    repeat' apply And.intro
    all_goals rw [uV_0]

theorem root_ok : ∀ ds r, rootG ds = some r → Spec Try.prog 47 ds r := by
  intro ds r h
  unfold rootG at h
  split at h
  case h_2 => cases h
  rename_i va
  split at h
  case h_2 => cases h
  rename_i a ha
  cases h
  obtain ⟨rfl, ha'⟩ := toN_eq ha
  split
  · rename_i h; exact (root_walk a ha').1 h
  · rename_i h; exact (root_walk a ha').2 h

end Go.Vm

/- Numbers of the field, points and wide points as values. No condition. -/
set_option maxRecDepth 100000
set_option linter.unusedSimpArgs false
set_option linter.unusedVariables false
namespace Go.Vm
open Go Go.RowKit Go.Proofs Go.Ec

theorem nc_v (a : Nat) : a % pN 0 = (nc a).val := by rw [pN_0]; rfl
theorem add_v (a b : Nat) : (a + b) % pN 0 = (nc a + nc b).val := by rw [nc_v, nc_add]
theorem mul_v (a b : Nat) : a * b % pN 0 = (nc a * nc b).val := by rw [nc_v, nc_mul]
theorem nc_mod (a : Nat) : nc (a % 115792089237316195423570985008687907853269984665640564039457584007908834671663) = nc a := Fin.ext (Nat.mod_mod _ _)
theorem sub_v (a b : Nat) : (a % pN 0 + (pN 0 - b % pN 0)) % pN 0 = (nc a - nc b).val := by
  rw [pN_0, Fin.sub_def]
  show _ = ((_ - b % _) + a % _) % _
  rw [Nat.add_comm]
theorem v_p (A : Fp) : A.val < pN 0 := by rw [pN_0]; exact A.isLt
theorem v_lt (A : Fp) : A.val < full := Nat.lt_trans (v_p A) (pN_lt 0)
theorem toN_v (A : Fp) : toN (uV A.val) = some A.val := toN_lt (v_lt A)
theorem toN_0' : toN (uV 0) = some 0 := by rw [toN_uV, Nat.zero_mod]
theorem toN_1' : toN (uV 1) = some 1 := toN_lt (by rw [full_eq]; omega)
theorem valm (A : Fp) : A.val % full = A.val := Nat.mod_eq_of_lt (v_lt A)
theorem mod7 : 7 % full = 7 := Nat.mod_eq_of_lt (by rw [full_eq]; omega)
theorem eqU_v (A B : Fp) : eqU A.val B.val = decide (A = B) := by
  rw [eqU_lt (v_lt A) (v_lt B)]
  exact decide_eq_decide.2 ⟨Fin.ext, congrArg Fin.val⟩
theorem eqU_v0 (A : Fp) : eqU A.val 0 = decide (A = 0) := eqU_v A 0
theorem nc7 : nc 7 = 7 := rfl

theorem cells_pt (x y : Nat) (b : Bool) : (ptV x y b).cells = #[.int .u64 (w0 x : Nat), .int .u64 (w1 x : Nat), .int .u64 (w2 x : Nat), .int .u64 (w3 x : Nat), .int .u64 (w0 y : Nat), .int .u64 (w1 y : Nat), .int .u64 (w2 y : Nat), .int .u64 (w3 y : Nat), .bool b] := rfl
theorem agg_pt (x y : Nat) (b : Bool) : Value.agg #[.int .u64 (w0 x : Nat), .int .u64 (w1 x : Nat), .int .u64 (w2 x : Nat), .int .u64 (w3 x : Nat), .int .u64 (w0 y : Nat), .int .u64 (w1 y : Nat), .int .u64 (w2 y : Nat), .int .u64 (w3 y : Nat), .bool b] = ptV x y b := rfl
theorem isNil_pt (x y : Nat) (b : Bool) : isNil (ptV x y b) = false := rfl
theorem w_0 : w0 0 = 0 ∧ w1 0 = 0 ∧ w2 0 = 0 ∧ w3 0 = 0 := by
  rw [w0_eq, w1_eq, w2_eq, w3_eq]; simp
theorem w_1 : w0 1 = 1 ∧ w1 1 = 0 ∧ w2 1 = 0 ∧ w3 1 = 0 := by
  rw [w0_eq, w1_eq, w2_eq, w3_eq]; simp
theorem ptV_lit (b : Bool) : Value.agg #[.int .u64 0, .int .u64 0, .int .u64 0, .int .u64 0, .int .u64 0, .int .u64 0, .int .u64 0, .int .u64 0, .bool b] = ptV 0 0 b := by
  rw [← agg_pt, w_0.1, w_0.2.1, w_0.2.2.1, w_0.2.2.2]; rfl

noncomputable def wV (x y : Nat) (b : Bool) (z : Nat) : Value := .agg #[.int .u64 (w0 x : Nat), .int .u64 (w1 x : Nat), .int .u64 (w2 x : Nat), .int .u64 (w3 x : Nat), .int .u64 (w0 y : Nat), .int .u64 (w1 y : Nat), .int .u64 (w2 y : Nat), .int .u64 (w3 y : Nat), .bool b, .int .u64 (w0 z : Nat), .int .u64 (w1 z : Nat), .int .u64 (w2 z : Nat), .int .u64 (w3 z : Nat)]
theorem cells_w (x y : Nat) (b : Bool) (z : Nat) : (wV x y b z).cells = #[.int .u64 (w0 x : Nat), .int .u64 (w1 x : Nat), .int .u64 (w2 x : Nat), .int .u64 (w3 x : Nat), .int .u64 (w0 y : Nat), .int .u64 (w1 y : Nat), .int .u64 (w2 y : Nat), .int .u64 (w3 y : Nat), .bool b, .int .u64 (w0 z : Nat), .int .u64 (w1 z : Nat), .int .u64 (w2 z : Nat), .int .u64 (w3 z : Nat)] := rfl
theorem agg_w (x y : Nat) (b : Bool) (z : Nat) : Value.agg #[.int .u64 (w0 x : Nat), .int .u64 (w1 x : Nat), .int .u64 (w2 x : Nat), .int .u64 (w3 x : Nat), .int .u64 (w0 y : Nat), .int .u64 (w1 y : Nat), .int .u64 (w2 y : Nat), .int .u64 (w3 y : Nat), .bool b, .int .u64 (w0 z : Nat), .int .u64 (w1 z : Nat), .int .u64 (w2 z : Nat), .int .u64 (w3 z : Nat)] = wV x y b z := rfl
theorem isNil_w (x y : Nat) (b : Bool) (z : Nat) : isNil (wV x y b z) = false := rfl
theorem wV_1 (x y : Nat) (b : Bool) : Value.agg #[.int .u64 (w0 x : Nat), .int .u64 (w1 x : Nat), .int .u64 (w2 x : Nat), .int .u64 (w3 x : Nat), .int .u64 (w0 y : Nat), .int .u64 (w1 y : Nat), .int .u64 (w2 y : Nat), .int .u64 (w3 y : Nat), .bool b, .int .u64 1, .int .u64 0, .int .u64 0, .int .u64 0] = wV x y b 1 := by
  rw [← agg_w, w_1.1, w_1.2.1, w_1.2.2.1, w_1.2.2.2]; rfl

theorem int_inj {a b : Nat} (h : Value.int .u64 (a : Int) = Value.int .u64 (b : Int)) : a = b := by
  injection h with _ h2; exact Int.ofNat_inj.1 h2
theorem num_inj {a b : Nat} (ha : a < full) (hb : b < full) (h0 : w0 a = w0 b) (h1 : w1 a = w1 b) (h2 : w2 a = w2 b) (h3 : w3 a = w3 b) : a = b := by
  rw [← words_lt ha, ← words_lt hb, h0, h1, h2, h3]
theorem wV_inj {x y z x' y' z' : Nat} {b b' : Bool} (hx : x < full) (hy : y < full) (hz : z < full) (hx' : x' < full) (hy' : y' < full) (hz' : z' < full) (h : wV x y b z = wV x' y' b' z') : x = x' ∧ y = y' ∧ b = b' ∧ z = z' := by
  unfold wV at h
  injection h with h
  injection h with h
  simp only [List.cons.injEq, Value.int.injEq, true_and, Int.ofNat_inj, Value.bool.injEq, and_true] at h
  obtain ⟨a0, a1, a2, a3, c0, c1, c2, c3, e, d0, d1, d2, d3⟩ := h
  exact ⟨num_inj hx hx' a0 a1 a2 a3, num_inj hy hy' c0 c1 c2 c3, e, num_inj hz hz' d0 d1 d2 d3⟩
theorem ptV_inj {x y x' y' : Nat} {b b' : Bool} (hx : x < full) (hy : y < full) (hx' : x' < full) (hy' : y' < full) (h : ptV x y b = ptV x' y' b') : x = x' ∧ y = y' ∧ b = b' := by
  rw [← agg_pt, ← agg_pt] at h
  injection h with h
  injection h with h
  simp only [List.cons.injEq, Value.int.injEq, true_and, Int.ofNat_inj, Value.bool.injEq, and_true] at h
  obtain ⟨a0, a1, a2, a3, c0, c1, c2, c3, e⟩ := h
  exact ⟨num_inj hx hx' a0 a1 a2 a3, num_inj hy hy' c0 c1 c2 c3, e⟩

/-- a point's numbers, as they lie -/
noncomputable def toR : Value → Option (Nat × Nat × Bool) := fun v => open Classical in if h : ∃ q : Nat × Nat × Bool, (q.1 < full ∧ q.2.1 < full) ∧ v = ptV q.1 q.2.1 q.2.2 then some (Classical.choose h) else none
theorem toR_lt {x y : Nat} {b : Bool} (hx : x < full) (hy : y < full) : toR (ptV x y b) = some (x, y, b) := by
  have h : ∃ q : Nat × Nat × Bool, (q.1 < full ∧ q.2.1 < full) ∧ ptV x y b = ptV q.1 q.2.1 q.2.2 := ⟨(x, y, b), ⟨hx, hy⟩, rfl⟩
  unfold toR
  rw [dif_pos h]
  obtain ⟨⟨h1, h2⟩, h3⟩ := Classical.choose_spec h
  obtain ⟨e1, e2, e3⟩ := ptV_inj hx hy h1 h2 h3
  generalize Classical.choose h = q at *
  obtain ⟨x', y', b'⟩ := q
  simp only at e1 e2 e3
  rw [e1, e2, e3]
theorem toR_eq {v : Value} {x y : Nat} {b : Bool} (h : toR v = some (x, y, b)) : v = ptV x y b ∧ x < full ∧ y < full := by
  unfold toR at h
  split at h
  case isFalse => cases h
  rename_i h0
  injection h with h
  obtain ⟨⟨h1, h2⟩, h3⟩ := Classical.choose_spec h0
  rw [h] at h1 h2 h3
  exact ⟨h3, h1, h2⟩
theorem toR_v (X Y : Fp) (b : Bool) : toR (ptV X.val Y.val b) = some (X.val, Y.val, b) := toR_lt (v_lt X) (v_lt Y)
theorem toR_0 (b : Bool) : toR (ptV 0 0 b) = some (0, 0, b) := toR_lt full_pos full_pos

structure Wd where
  X : Fp
  Y : Fp
  b : Bool
  z : Fp
noncomputable def toW : Value → Option Wd := fun v => open Classical in if h : ∃ q : Wd, v = wV q.X.val q.Y.val q.b q.z.val then some (Classical.choose h) else none
theorem toW_v (X Y : Fp) (b : Bool) (z : Fp) : toW (wV X.val Y.val b z.val) = some ⟨X, Y, b, z⟩ := by
  have h : ∃ q : Wd, wV X.val Y.val b z.val = wV q.X.val q.Y.val q.b q.z.val := ⟨⟨X, Y, b, z⟩, rfl⟩
  unfold toW
  rw [dif_pos h]
  have h3 := Classical.choose_spec h
  obtain ⟨e1, e2, e3, e4⟩ := wV_inj (v_lt _) (v_lt _) (v_lt _) (v_lt _) (v_lt _) (v_lt _) h3
  generalize Classical.choose h = q at *
  obtain ⟨x', y', b', z'⟩ := q
  rw [Fin.ext e1, Fin.ext e2, e3, Fin.ext e4]
theorem toW_1 (X Y : Fp) (b : Bool) : toW (wV X.val Y.val b 1) = some ⟨X, Y, b, 1⟩ := toW_v X Y b 1
theorem toW_eq {v : Value} {s : Wd} (h : toW v = some s) : v = wV s.X.val s.Y.val s.b s.z.val := by
  unfold toW at h
  split at h
  case isFalse => cases h
  rename_i h0
  injection h with h
  rw [← h]
  exact Classical.choose_spec h0
end Go.Vm

/- Contracts of the points' sums of numbers; zero, Base, reduced, curve, On, widen. No condition. -/
set_option maxRecDepth 100000
set_option linter.unusedSimpArgs false
set_option linter.unusedVariables false
namespace Go.Vm
open Go Go.RowKit Go.Proofs Go.Ec

noncomputable def pAddG : List DV → Option RV
  | [.pl va, .pl vb] => match toN va, toN vb with
    | some a, some b => some (.one (.pl (uV (nc a + nc b).val)))
    | _, _ => none
  | _ => none
noncomputable def pSubG : List DV → Option RV
  | [.pl va, .pl vb] => match toN va, toN vb with
    | some a, some b => some (.one (.pl (uV (nc a - nc b).val)))
    | _, _ => none
  | _ => none
noncomputable def pMulG : List DV → Option RV
  | [.pl va, .pl vb] => match toN va, toN vb with
    | some a, some b => some (.one (.pl (uV (nc a * nc b).val)))
    | _, _ => none
  | _ => none
theorem isW0 : isW 0 = true := rfl
theorem pAdd_ok : ∀ ds r, pAddG ds = some r → Spec Try.prog 81 ds r := by
  intro ds r h
  unfold pAddG at h
  split at h
  case h_2 => cases h
  rename_i va vb
  split at h
  case h_2 => cases h
  rename_i a b ha hb
  cases h
  obtain ⟨rfl, ha'⟩ := toN_eq ha
  obtain ⟨rfl, hb'⟩ := toN_eq hb
  have hΓ : Env.ok [(93, faddG)] Try.prog := ok_cons fadd_ok (ok_nil _)
  refine Spec.of_vx hΓ follows_mixed Try.func81 rfl (by kernel_rfl) (T := []) (by simp [Try.ntmps81]) (by kernel_rfl) rfl Try.ntmps81 (res := [.cell 4 24]) rfl ?_
  intro W
  simp -implicitDefEqProofs (maxSteps := 10000000) only [vy_succ, vmB, slim, slimOp, gO, gSO, qSO, quietOp, cS, qSB, eK, calmOp, guardS, gK, qK, putK, plK, dOk, St.ev, St.get, St.mem, St.set, St.setm, St.put, lookA, look, newK, nextver, initT, seqE, blockQ, bodyQ, resK, retV, AV.rdv, agg_uV, ↓binK, ↓intK, unK, ↓loadK, ↓withKey_eq, ↓idxAddrK, ↓indexK, ↓partK, ↓fieldK, ↓fieldAddrK, ↓convK, ↓callK, wrG, updK, ↓lenK, ↓mmK, ↓appK, ↓copyK, ↓sliceK, ↓toArrK, nilK, evs, plains, seqParts, capsOf, capsD, AV.dv, AV.cont, ↓buildV_eq, fillL, placesOf, ↓storeK, wrL, RV.av, DV.av, List.set, Nat.reduceEqDiff, Nat.reduceAdd, Nat.reduceSub, Nat.reduceMul, Nat.reduceLT, Nat.reduceLeDiff, Nat.reduceMod, Nat.reduceDiv, Int.reduceLT, Int.reduceLE, Int.reduceToNat, ↓reduceIte, reduceCtorEq, Value.oneCell', Int.reduceAdd, Int.reduceSub, Int.reduceMod, Int.reduceMul, Int.reduceNeg, Int.reduceBEq, Int.reduceBNe, Int.reduceTDiv, Int.reduceTMod, Int.reduceEq, tyB, Try.underlying13, Try.underlying25, Try.underlying26, Try.underlying39, Try.underlying40, Try.underlying72, Try.underlying73, faddG, ha, hb, isW0, add_v]
theorem pSub_ok : ∀ ds r, pSubG ds = some r → Spec Try.prog 49 ds r := by
  intro ds r h
  unfold pSubG at h
  split at h
  case h_2 => cases h
  rename_i va vb
  split at h
  case h_2 => cases h
  rename_i a b ha hb
  cases h
  obtain ⟨rfl, ha'⟩ := toN_eq ha
  obtain ⟨rfl, hb'⟩ := toN_eq hb
  have hΓ : Env.ok [(77, fsubG)] Try.prog := ok_cons fsub_ok (ok_nil _)
  refine Spec.of_vx hΓ follows_mixed Try.func49 rfl (by kernel_rfl) (T := []) (by simp [Try.ntmps49]) (by kernel_rfl) rfl Try.ntmps49 (res := [.cell 4 24]) rfl ?_
  intro W
  simp -implicitDefEqProofs (maxSteps := 10000000) only [vy_succ, vmB, slim, slimOp, gO, gSO, qSO, quietOp, cS, qSB, eK, calmOp, guardS, gK, qK, putK, plK, dOk, St.ev, St.get, St.mem, St.set, St.setm, St.put, lookA, look, newK, nextver, initT, seqE, blockQ, bodyQ, resK, retV, AV.rdv, agg_uV, ↓binK, ↓intK, unK, ↓loadK, ↓withKey_eq, ↓idxAddrK, ↓indexK, ↓partK, ↓fieldK, ↓fieldAddrK, ↓convK, ↓callK, wrG, updK, ↓lenK, ↓mmK, ↓appK, ↓copyK, ↓sliceK, ↓toArrK, nilK, evs, plains, seqParts, capsOf, capsD, AV.dv, AV.cont, ↓buildV_eq, fillL, placesOf, ↓storeK, wrL, RV.av, DV.av, List.set, Nat.reduceEqDiff, Nat.reduceAdd, Nat.reduceSub, Nat.reduceMul, Nat.reduceLT, Nat.reduceLeDiff, Nat.reduceMod, Nat.reduceDiv, Int.reduceLT, Int.reduceLE, Int.reduceToNat, ↓reduceIte, reduceCtorEq, Value.oneCell', Int.reduceAdd, Int.reduceSub, Int.reduceMod, Int.reduceMul, Int.reduceNeg, Int.reduceBEq, Int.reduceBNe, Int.reduceTDiv, Int.reduceTMod, Int.reduceEq, tyB, Try.underlying13, Try.underlying25, Try.underlying26, Try.underlying39, Try.underlying40, Try.underlying72, Try.underlying73, fsubG, ha, hb, isW0, sub_v]
theorem pMul_ok : ∀ ds r, pMulG ds = some r → Spec Try.prog 67 ds r := by
  intro ds r h
  unfold pMulG at h
  split at h
  case h_2 => cases h
  rename_i va vb
  split at h
  case h_2 => cases h
  rename_i a b ha hb
  cases h
  obtain ⟨rfl, ha'⟩ := toN_eq ha
  obtain ⟨rfl, hb'⟩ := toN_eq hb
  have hΓ : Env.ok [(76, fmulG)] Try.prog := ok_cons fmul_ok (ok_nil _)
  refine Spec.of_vx hΓ follows_mixed Try.func67 rfl (by kernel_rfl) (T := []) (by simp [Try.ntmps67]) (by kernel_rfl) rfl Try.ntmps67 (res := [.cell 4 24]) rfl ?_
  intro W
  simp -implicitDefEqProofs (maxSteps := 10000000) only [vy_succ, vmB, slim, slimOp, gO, gSO, qSO, quietOp, cS, qSB, eK, calmOp, guardS, gK, qK, putK, plK, dOk, St.ev, St.get, St.mem, St.set, St.setm, St.put, lookA, look, newK, nextver, initT, seqE, blockQ, bodyQ, resK, retV, AV.rdv, agg_uV, ↓binK, ↓intK, unK, ↓loadK, ↓withKey_eq, ↓idxAddrK, ↓indexK, ↓partK, ↓fieldK, ↓fieldAddrK, ↓convK, ↓callK, wrG, updK, ↓lenK, ↓mmK, ↓appK, ↓copyK, ↓sliceK, ↓toArrK, nilK, evs, plains, seqParts, capsOf, capsD, AV.dv, AV.cont, ↓buildV_eq, fillL, placesOf, ↓storeK, wrL, RV.av, DV.av, List.set, Nat.reduceEqDiff, Nat.reduceAdd, Nat.reduceSub, Nat.reduceMul, Nat.reduceLT, Nat.reduceLeDiff, Nat.reduceMod, Nat.reduceDiv, Int.reduceLT, Int.reduceLE, Int.reduceToNat, ↓reduceIte, reduceCtorEq, Value.oneCell', Int.reduceAdd, Int.reduceSub, Int.reduceMod, Int.reduceMul, Int.reduceNeg, Int.reduceBEq, Int.reduceBNe, Int.reduceTDiv, Int.reduceTMod, Int.reduceEq, tyB, Try.underlying13, Try.underlying25, Try.underlying26, Try.underlying39, Try.underlying40, Try.underlying72, Try.underlying73, fmulG, ha, hb, isW0, mul_v]

noncomputable def ptZG : List DV → Option RV
  | [] => some (.one (.pl (ptV 0 0 true)))
  | _ => none
theorem ptZ_ok : ∀ ds r, ptZG ds = some r → Spec Try.prog 38 ds r := by
  intro ds r h
  unfold ptZG at h
  split at h
  case h_2 => cases h
  cases h
  have hΓ : Env.ok [] Try.prog := ok_nil _
  refine Spec.of_vx hΓ follows_mixed Try.func38 rfl (by kernel_rfl) (T := []) (by simp [Try.ntmps38]) (by kernel_rfl) rfl Try.ntmps38 (res := [.cell 0 26]) rfl ?_
  intro W
  simp -implicitDefEqProofs (maxSteps := 10000000) only [vy_succ, vmB, slim, slimOp, gO, gSO, qSO, quietOp, cS, qSB, eK, calmOp, guardS, gK, qK, putK, plK, dOk, St.ev, St.get, St.mem, St.set, St.setm, St.put, lookA, look, newK, nextver, initT, seqE, blockQ, bodyQ, resK, retV, AV.rdv, agg_uV, ↓binK, ↓intK, unK, ↓loadK, ↓withKey_eq, ↓idxAddrK, ↓indexK, ↓partK, ↓fieldK, ↓fieldAddrK, ↓convK, ↓callK, wrG, updK, ↓lenK, ↓mmK, ↓appK, ↓copyK, ↓sliceK, ↓toArrK, nilK, evs, plains, seqParts, capsOf, capsD, AV.dv, AV.cont, ↓buildV_eq, fillL, placesOf, ↓storeK, wrL, RV.av, DV.av, List.set, Nat.reduceEqDiff, Nat.reduceAdd, Nat.reduceSub, Nat.reduceMul, Nat.reduceLT, Nat.reduceLeDiff, Nat.reduceMod, Nat.reduceDiv, Int.reduceLT, Int.reduceLE, Int.reduceToNat, ↓reduceIte, reduceCtorEq, Value.oneCell', Int.reduceAdd, Int.reduceSub, Int.reduceMod, Int.reduceMul, Int.reduceNeg, Int.reduceBEq, Int.reduceBNe, Int.reduceTDiv, Int.reduceTMod, Int.reduceEq, tyB, Try.underlying13, Try.underlying25, Try.underlying26, Try.underlying39, Try.underlying40, Try.underlying72, Try.underlying73, cells_pt, agg_pt, isNil_pt, ptV_lit, cells_w, agg_w, isNil_w, valm, ↓binK_eqPt, ↓binK_eqU, ↓binK_neU, eqU_v]
theorem ptV_base : Value.agg #[.int .u64 6481385041966929816, .int .u64 188021827762530521, .int .u64 6170039885052185351, .int .u64 8772561819708210092, .int .u64 11261198710074299576, .int .u64 18237243440184513561, .int .u64 6747795201694173352, .int .u64 5204712524664259685, .bool false] = ptV bX bY false := by
  have hx : w0 bX = 6481385041966929816 ∧ w1 bX = 188021827762530521 ∧ w2 bX = 6170039885052185351 ∧ w3 bX = 8772561819708210092 := by
    rw [w0_eq, w1_eq, w2_eq, w3_eq]; simp [bX]
  have hy : w0 bY = 11261198710074299576 ∧ w1 bY = 18237243440184513561 ∧ w2 bY = 6747795201694173352 ∧ w3 bY = 5204712524664259685 := by
    rw [w0_eq, w1_eq, w2_eq, w3_eq]; simp [bY]
  rw [← agg_pt, hx.1, hx.2.1, hx.2.2.1, hx.2.2.2, hy.1, hy.2.1, hy.2.2.1, hy.2.2.2]; rfl
noncomputable def ptBG : List DV → Option RV
  | [] => some (.one (.pl (ptV bX bY false)))
  | _ => none
theorem ptB_ok : ∀ ds r, ptBG ds = some r → Spec Try.prog 13 ds r := by
  intro ds r h
  unfold ptBG at h
  split at h
  case h_2 => cases h
  cases h
  have hΓ : Env.ok [] Try.prog := ok_nil _
  refine Spec.of_vx hΓ follows_mixed Try.func13 rfl (by kernel_rfl) (T := []) (by simp [Try.ntmps13]) (by kernel_rfl) rfl Try.ntmps13 (res := [.cell 0 26]) rfl ?_
  intro W
  simp -implicitDefEqProofs (maxSteps := 10000000) only [vy_succ, vmB, slim, slimOp, gO, gSO, qSO, quietOp, cS, qSB, eK, calmOp, guardS, gK, qK, putK, plK, dOk, St.ev, St.get, St.mem, St.set, St.setm, St.put, lookA, look, newK, nextver, initT, seqE, blockQ, bodyQ, resK, retV, AV.rdv, agg_uV, ↓binK, ↓intK, unK, ↓loadK, ↓withKey_eq, ↓idxAddrK, ↓indexK, ↓partK, ↓fieldK, ↓fieldAddrK, ↓convK, ↓callK, wrG, updK, ↓lenK, ↓mmK, ↓appK, ↓copyK, ↓sliceK, ↓toArrK, nilK, evs, plains, seqParts, capsOf, capsD, AV.dv, AV.cont, ↓buildV_eq, fillL, placesOf, ↓storeK, wrL, RV.av, DV.av, List.set, Nat.reduceEqDiff, Nat.reduceAdd, Nat.reduceSub, Nat.reduceMul, Nat.reduceLT, Nat.reduceLeDiff, Nat.reduceMod, Nat.reduceDiv, Int.reduceLT, Int.reduceLE, Int.reduceToNat, ↓reduceIte, reduceCtorEq, Value.oneCell', Int.reduceAdd, Int.reduceSub, Int.reduceMod, Int.reduceMul, Int.reduceNeg, Int.reduceBEq, Int.reduceBNe, Int.reduceTDiv, Int.reduceTMod, Int.reduceEq, tyB, Try.underlying13, Try.underlying25, Try.underlying26, Try.underlying39, Try.underlying40, Try.underlying72, Try.underlying73, cells_pt, agg_pt, isNil_pt, ptV_lit, cells_w, agg_w, isNil_w, valm, ↓binK_eqPt, ↓binK_eqU, ↓binK_neU, eqU_v, ptV_base]

noncomputable def redG : List DV → Option RV
  | [.pl va] => match toN va with
    | some a => some (.one (.pl (.bool (decide (a < pN 0)))))
    | none => none
  | _ => none
theorem red_ok : ∀ ds r, redG ds = some r → Spec Try.prog 46 ds r := by
  intro ds r h
  unfold redG at h
  split at h
  case h_2 => cases h
  rename_i va
  split at h
  case h_2 => cases h
  rename_i a ha
  cases h
  obtain ⟨rfl, ha'⟩ := toN_eq ha
  have hΓ : Env.ok [(65, primeG), (66, cmpG)] Try.prog := ok_cons prime_ok (ok_cons cmp_ok (ok_nil _))
  have tp : toN (uV (pN 0)) = some (pN 0) := toN_lt (pN_lt 0)
  have hc : decide (cmpN a (pN 0) < 0) = decide (a < pN 0) := by
    apply decide_eq_decide.2
    unfold cmpN
    split
    · rename_i h; exact ⟨fun _ => h, fun _ => by decide⟩
    · rename_i h
      split
      · exact ⟨fun h1 => absurd h1 (by decide), fun h1 => absurd h1 h⟩
      · exact ⟨fun h1 => absurd h1 (by decide), fun h1 => absurd h1 h⟩
  refine Spec.of_vx hΓ follows_mixed Try.func46 rfl (by kernel_rfl) (T := []) (by simp [Try.ntmps46]) (by kernel_rfl) rfl Try.ntmps46 (res := [.tmp 2]) rfl ?_
  intro W
  simp -implicitDefEqProofs (maxSteps := 10000000) only [vy_succ, vmB, slim, slimOp, gO, gSO, qSO, quietOp, cS, qSB, eK, calmOp, guardS, gK, qK, putK, plK, dOk, St.ev, St.get, St.mem, St.set, St.setm, St.put, lookA, look, newK, nextver, initT, seqE, blockQ, bodyQ, resK, retV, AV.rdv, agg_uV, ↓binK, ↓intK, unK, ↓loadK, ↓withKey_eq, ↓idxAddrK, ↓indexK, ↓partK, ↓fieldK, ↓fieldAddrK, ↓convK, ↓callK, wrG, updK, ↓lenK, ↓mmK, ↓appK, ↓copyK, ↓sliceK, ↓toArrK, nilK, evs, plains, seqParts, capsOf, capsD, AV.dv, AV.cont, ↓buildV_eq, fillL, placesOf, ↓storeK, wrL, RV.av, DV.av, List.set, Nat.reduceEqDiff, Nat.reduceAdd, Nat.reduceSub, Nat.reduceMul, Nat.reduceLT, Nat.reduceLeDiff, Nat.reduceMod, Nat.reduceDiv, Int.reduceLT, Int.reduceLE, Int.reduceToNat, ↓reduceIte, reduceCtorEq, Value.oneCell', Int.reduceAdd, Int.reduceSub, Int.reduceMod, Int.reduceMul, Int.reduceNeg, Int.reduceBEq, Int.reduceBNe, Int.reduceTDiv, Int.reduceTMod, Int.reduceEq, tyB, Try.underlying13, Try.underlying25, Try.underlying26, Try.underlying39, Try.underlying40, Try.underlying72, Try.underlying73, primeG, cmpG, ha, tp, isW0, hc]

theorem uV_7 : Value.agg #[.int .u64 7, .int .u64 0, .int .u64 0, .int .u64 0] = uV 7 := by
  have h : w0 7 = 7 ∧ w1 7 = 0 ∧ w2 7 = 0 ∧ w3 7 = 0 := by rw [w0_eq, w1_eq, w2_eq, w3_eq]; simp
  unfold uV
  rw [h.1, h.2.1, h.2.2.1, h.2.2.2]; rfl
theorem toN_7 : toN (uV 7) = some 7 := toN_lt (by rw [full_eq]; omega)
noncomputable def curG : List DV → Option RV
  | [.pl va] => match toN va with
    | some a => some (.one (.pl (uV (nc a * nc a * nc a + 7).val)))
    | none => none
  | _ => none
theorem cur_ok : ∀ ds r, curG ds = some r → Spec Try.prog 48 ds r := by
  intro ds r h
  unfold curG at h
  split at h
  case h_2 => cases h
  rename_i va
  split at h
  case h_2 => cases h
  rename_i a ha
  cases h
  obtain ⟨rfl, ha'⟩ := toN_eq ha
  have hΓ : Env.ok [(67, pMulG), (81, pAddG)] Try.prog := ok_cons pMul_ok (ok_cons pAdd_ok (ok_nil _))
  refine Spec.of_vx hΓ follows_mixed Try.func48 rfl (by kernel_rfl) (T := []) (by simp [Try.ntmps48]) (by kernel_rfl) rfl Try.ntmps48 (res := [.cell 2 24]) rfl ?_
  intro W
  simp -implicitDefEqProofs (maxSteps := 10000000) only [vy_succ, vmB, slim, slimOp, gO, gSO, qSO, quietOp, cS, qSB, eK, calmOp, guardS, gK, qK, putK, plK, dOk, St.ev, St.get, St.mem, St.set, St.setm, St.put, lookA, look, newK, nextver, initT, seqE, blockQ, bodyQ, resK, retV, AV.rdv, agg_uV, ↓binK, ↓intK, unK, ↓loadK, ↓withKey_eq, ↓idxAddrK, ↓indexK, ↓partK, ↓fieldK, ↓fieldAddrK, ↓convK, ↓callK, wrG, updK, ↓lenK, ↓mmK, ↓appK, ↓copyK, ↓sliceK, ↓toArrK, nilK, evs, plains, seqParts, capsOf, capsD, AV.dv, AV.cont, ↓buildV_eq, fillL, placesOf, ↓storeK, wrL, RV.av, DV.av, List.set, Nat.reduceEqDiff, Nat.reduceAdd, Nat.reduceSub, Nat.reduceMul, Nat.reduceLT, Nat.reduceLeDiff, Nat.reduceMod, Nat.reduceDiv, Int.reduceLT, Int.reduceLE, Int.reduceToNat, ↓reduceIte, reduceCtorEq, Value.oneCell', Int.reduceAdd, Int.reduceSub, Int.reduceMod, Int.reduceMul, Int.reduceNeg, Int.reduceBEq, Int.reduceBNe, Int.reduceTDiv, Int.reduceTMod, Int.reduceEq, tyB, Try.underlying13, Try.underlying25, Try.underlying26, Try.underlying39, Try.underlying40, Try.underlying72, Try.underlying73, pMulG, pAddG, ha, val_nc, valm, uV_7, mod7, nc7]

noncomputable def onB (x y : Nat) (b : Bool) : Bool := open Classical in if b = true then decide (x = 0 ∧ y = 0) else decide ((x < pN 0 ∧ y < pN 0) ∧ nc y * nc y = nc x * nc x * nc x + 7)
noncomputable def onG : List DV → Option RV
  | [.pl v] => match toR v with
    | some (x, y, b) => some (.one (.pl (.bool (onB x y b))))
    | none => none
  | _ => none
set_option maxHeartbeats 4000000 in
theorem on_walk (x y : Nat) (b : Bool) (hx : x < full) (hy : y < full) : Spec Try.prog 27 [.pl (ptV x y b)] (.one (.pl (.bool (onB x y b)))) := by
  have hΓ : Env.ok [(38, ptZG), (46, redG), (67, pMulG), (48, curG)] Try.prog := ok_cons ptZ_ok (ok_cons red_ok (ok_cons pMul_ok (ok_cons cur_ok (ok_nil _))))
  have tx : toN (uV x) = some x := toN_lt hx
  have ty : toN (uV y) = some y := toN_lt hy
  have mx : x % full = x := Nat.mod_eq_of_lt hx
  have my : y % full = y := Nat.mod_eq_of_lt hy
  have z0 := full_pos
  refine Spec.of_vx hΓ follows_mixed Try.func27 rfl (by kernel_rfl) (T := []) (by simp [Try.ntmps27]) (by kernel_rfl) rfl Try.ntmps27 (res := [.tmp 2]) rfl ?_
  intro W
  cases b with
  | true =>
    have e : onB x y true = (eqU x 0 && eqU y 0) := by
      unfold onB
      rw [if_pos rfl, eqU_lt hx z0, eqU_lt hy z0]
      simp
    simp -implicitDefEqProofs (maxSteps := 10000000) only [vy_succ, vmB, slim, slimOp, gO, gSO, qSO, quietOp, cS, qSB, eK, calmOp, guardS, gK, qK, putK, plK, dOk, St.ev, St.get, St.mem, St.set, St.setm, St.put, lookA, look, newK, nextver, initT, seqE, blockQ, bodyQ, resK, retV, AV.rdv, agg_uV, ↓binK, ↓intK, unK, ↓loadK, ↓withKey_eq, ↓idxAddrK, ↓indexK, ↓partK, ↓fieldK, ↓fieldAddrK, ↓convK, ↓callK, wrG, updK, ↓lenK, ↓mmK, ↓appK, ↓copyK, ↓sliceK, ↓toArrK, nilK, evs, plains, seqParts, capsOf, capsD, AV.dv, AV.cont, ↓buildV_eq, fillL, placesOf, ↓storeK, wrL, RV.av, DV.av, List.set, Nat.reduceEqDiff, Nat.reduceAdd, Nat.reduceSub, Nat.reduceMul, Nat.reduceLT, Nat.reduceLeDiff, Nat.reduceMod, Nat.reduceDiv, Int.reduceLT, Int.reduceLE, Int.reduceToNat, ↓reduceIte, reduceCtorEq, Value.oneCell', Int.reduceAdd, Int.reduceSub, Int.reduceMod, Int.reduceMul, Int.reduceNeg, Int.reduceBEq, Int.reduceBNe, Int.reduceTDiv, Int.reduceTMod, Int.reduceEq, tyB, Try.underlying13, Try.underlying25, Try.underlying26, Try.underlying39, Try.underlying40, Try.underlying72, Try.underlying73, ptZG, redG, pMulG, curG, tx, ty, cells_pt, agg_pt, isNil_pt, ptV_lit, cells_w, agg_w, isNil_w, valm, ↓binK_eqPt, ↓binK_eqU, ↓binK_neU, eqU_v, e]
  | false =>
    have e : onB x y false = ((decide (x < pN 0) && decide (y < pN 0)) && decide (nc y * nc y = nc x * nc x * nc x + 7)) := by
      unfold onB
      rw [if_neg (by decide)]
      simp only [Bool.decide_and]
    cases h1 : decide (x < pN 0)
    · rw [h1, Bool.false_and, Bool.false_and] at e
      simp -implicitDefEqProofs (maxSteps := 10000000) only [vy_succ, vmB, slim, slimOp, gO, gSO, qSO, quietOp, cS, qSB, eK, calmOp, guardS, gK, qK, putK, plK, dOk, St.ev, St.get, St.mem, St.set, St.setm, St.put, lookA, look, newK, nextver, initT, seqE, blockQ, bodyQ, resK, retV, AV.rdv, agg_uV, ↓binK, ↓intK, unK, ↓loadK, ↓withKey_eq, ↓idxAddrK, ↓indexK, ↓partK, ↓fieldK, ↓fieldAddrK, ↓convK, ↓callK, wrG, updK, ↓lenK, ↓mmK, ↓appK, ↓copyK, ↓sliceK, ↓toArrK, nilK, evs, plains, seqParts, capsOf, capsD, AV.dv, AV.cont, ↓buildV_eq, fillL, placesOf, ↓storeK, wrL, RV.av, DV.av, List.set, Nat.reduceEqDiff, Nat.reduceAdd, Nat.reduceSub, Nat.reduceMul, Nat.reduceLT, Nat.reduceLeDiff, Nat.reduceMod, Nat.reduceDiv, Int.reduceLT, Int.reduceLE, Int.reduceToNat, ↓reduceIte, reduceCtorEq, Value.oneCell', Int.reduceAdd, Int.reduceSub, Int.reduceMod, Int.reduceMul, Int.reduceNeg, Int.reduceBEq, Int.reduceBNe, Int.reduceTDiv, Int.reduceTMod, Int.reduceEq, tyB, Try.underlying13, Try.underlying25, Try.underlying26, Try.underlying39, Try.underlying40, Try.underlying72, Try.underlying73, ptZG, redG, pMulG, curG, tx, ty, cells_pt, agg_pt, isNil_pt, ptV_lit, cells_w, agg_w, isNil_w, valm, ↓binK_eqPt, ↓binK_eqU, ↓binK_neU, eqU_v, h1, e]
    · rw [h1, Bool.true_and] at e
      cases h2 : decide (y < pN 0)
      · rw [h2, Bool.false_and] at e
        simp -implicitDefEqProofs (maxSteps := 10000000) only [vy_succ, vmB, slim, slimOp, gO, gSO, qSO, quietOp, cS, qSB, eK, calmOp, guardS, gK, qK, putK, plK, dOk, St.ev, St.get, St.mem, St.set, St.setm, St.put, lookA, look, newK, nextver, initT, seqE, blockQ, bodyQ, resK, retV, AV.rdv, agg_uV, ↓binK, ↓intK, unK, ↓loadK, ↓withKey_eq, ↓idxAddrK, ↓indexK, ↓partK, ↓fieldK, ↓fieldAddrK, ↓convK, ↓callK, wrG, updK, ↓lenK, ↓mmK, ↓appK, ↓copyK, ↓sliceK, ↓toArrK, nilK, evs, plains, seqParts, capsOf, capsD, AV.dv, AV.cont, ↓buildV_eq, fillL, placesOf, ↓storeK, wrL, RV.av, DV.av, List.set, Nat.reduceEqDiff, Nat.reduceAdd, Nat.reduceSub, Nat.reduceMul, Nat.reduceLT, Nat.reduceLeDiff, Nat.reduceMod, Nat.reduceDiv, Int.reduceLT, Int.reduceLE, Int.reduceToNat, ↓reduceIte, reduceCtorEq, Value.oneCell', Int.reduceAdd, Int.reduceSub, Int.reduceMod, Int.reduceMul, Int.reduceNeg, Int.reduceBEq, Int.reduceBNe, Int.reduceTDiv, Int.reduceTMod, Int.reduceEq, tyB, Try.underlying13, Try.underlying25, Try.underlying26, Try.underlying39, Try.underlying40, Try.underlying72, Try.underlying73, ptZG, redG, pMulG, curG, tx, ty, mx, my, cells_pt, agg_pt, isNil_pt, ptV_lit, cells_w, agg_w, isNil_w, valm, ↓binK_eqPt, ↓binK_eqU, ↓binK_neU, eqU_v, h1, h2, e]
      · rw [h2, Bool.true_and] at e
        simp -implicitDefEqProofs (maxSteps := 10000000) only [vy_succ, vmB, slim, slimOp, gO, gSO, qSO, quietOp, cS, qSB, eK, calmOp, guardS, gK, qK, putK, plK, dOk, St.ev, St.get, St.mem, St.set, St.setm, St.put, lookA, look, newK, nextver, initT, seqE, blockQ, bodyQ, resK, retV, AV.rdv, agg_uV, ↓binK, ↓intK, unK, ↓loadK, ↓withKey_eq, ↓idxAddrK, ↓indexK, ↓partK, ↓fieldK, ↓fieldAddrK, ↓convK, ↓callK, wrG, updK, ↓lenK, ↓mmK, ↓appK, ↓copyK, ↓sliceK, ↓toArrK, nilK, evs, plains, seqParts, capsOf, capsD, AV.dv, AV.cont, ↓buildV_eq, fillL, placesOf, ↓storeK, wrL, RV.av, DV.av, List.set, Nat.reduceEqDiff, Nat.reduceAdd, Nat.reduceSub, Nat.reduceMul, Nat.reduceLT, Nat.reduceLeDiff, Nat.reduceMod, Nat.reduceDiv, Int.reduceLT, Int.reduceLE, Int.reduceToNat, ↓reduceIte, reduceCtorEq, Value.oneCell', Int.reduceAdd, Int.reduceSub, Int.reduceMod, Int.reduceMul, Int.reduceNeg, Int.reduceBEq, Int.reduceBNe, Int.reduceTDiv, Int.reduceTMod, Int.reduceEq, tyB, Try.underlying13, Try.underlying25, Try.underlying26, Try.underlying39, Try.underlying40, Try.underlying72, Try.underlying73, ptZG, redG, pMulG, curG, tx, ty, mx, my, cells_pt, agg_pt, isNil_pt, ptV_lit, cells_w, agg_w, isNil_w, valm, ↓binK_eqPt, ↓binK_eqU, ↓binK_neU, eqU_v, h1, h2, e]
theorem on_ok : ∀ ds r, onG ds = some r → Spec Try.prog 27 ds r := by
  intro ds r h
  unfold onG at h
  split at h
  case h_2 => cases h
  rename_i v
  split at h
  case h_2 => cases h
  rename_i x y b hv
  cases h
  obtain ⟨rfl, hx, hy⟩ := toR_eq hv
  exact on_walk x y b hx hy

/-! ### Points as values -/
def rx : Pt → Nat
  | .o => 0
  | .a x _ => x.val
def ry : Pt → Nat
  | .o => 0
  | .a _ y => y.val
def rb : Pt → Bool
  | .o => true
  | .a _ _ => false
noncomputable def ptOf (x y : Nat) (b : Bool) : Pt := if b = true then .o else .a (nc x) (nc y)
theorem rx_lt (p : Pt) : rx p < full := by
  cases p with
  | o => exact full_pos
  | a x y => exact v_lt x
theorem ry_lt (p : Pt) : ry p < full := by
  cases p with
  | o => exact full_pos
  | a x y => exact v_lt y
theorem toR_p (p : Pt) : toR (ptV (rx p) (ry p) (rb p)) = some (rx p, ry p, rb p) := toR_lt (rx_lt p) (ry_lt p)
theorem ptOf_p (p : Pt) : ptOf (rx p) (ry p) (rb p) = p := by
  cases p with
  | o => rfl
  | a x y =>
    show ptOf x.val y.val false = _
    unfold ptOf
    rw [if_neg (by decide), val_nc, val_nc]
theorem onC_iff (x y : Fp) : onC (.a x y) ↔ y * y = x * x * x + 7 := by
  show y * y = x * (x * x) + 7 ↔ _
  rw [fmul_assoc]
theorem onB_p {p : Pt} (h : onC p) : onB (rx p) (ry p) (rb p) = true := by
  cases p with
  | o =>
    show onB 0 0 true = true
    unfold onB
    rw [if_pos rfl]; exact decide_eq_true ⟨rfl, rfl⟩
  | a x y =>
    show onB x.val y.val false = true
    unfold onB
    rw [if_neg (by decide)]
    apply decide_eq_true
    refine ⟨⟨v_p x, v_p y⟩, ?_⟩
    show nc y.val * nc y.val = nc x.val * nc x.val * nc x.val + 7
    rw [val_nc, val_nc]
    exact (onC_iff x y).1 h
theorem onB_on {x y : Nat} {b : Bool} (h : onB x y b = true) : onC (ptOf x y b) ∧ rx (ptOf x y b) = x ∧ ry (ptOf x y b) = y ∧ rb (ptOf x y b) = b := by
  unfold onB at h
  unfold ptOf
  cases b with
  | true =>
    rw [if_pos rfl] at h
    obtain ⟨h1, h2⟩ := of_decide_eq_true h
    rw [if_pos rfl, h1, h2]
    exact ⟨trivial, rfl, rfl, rfl⟩
  | false =>
    rw [if_neg (by decide)] at h
    obtain ⟨⟨h1, h2⟩, h3⟩ := of_decide_eq_true h
    rw [if_neg (by decide)]
    refine ⟨(onC_iff _ _).2 h3, ?_, ?_, rfl⟩
    · rw [pN_0] at h1; exact Nat.mod_eq_of_lt h1
    · rw [pN_0] at h2; exact Nat.mod_eq_of_lt h2
theorem rx_base : rx base0 = bX := by decide +kernel
theorem ry_base : ry base0 = bY := by decide +kernel
end Go.Vm

/- Wide points: widen, narrow, twice, sum. No condition. -/
set_option maxRecDepth 100000
set_option linter.unusedSimpArgs false
set_option linter.unusedVariables false
namespace Go.Vm
open Go Go.RowKit Go.Proofs Go.Ec

noncomputable def widG : List DV → Option RV
  | [.pl v] => match toR v with
    | some (x, y, b) => some (.one (.pl (wV x y b 1)))
    | none => none
  | _ => none
theorem wid_ok : ∀ ds r, widG ds = some r → Spec Try.prog 55 ds r := by
  intro ds r h
  unfold widG at h
  split at h
  case h_2 => cases h
  rename_i v
  split at h
  case h_2 => cases h
  rename_i x y b hv
  cases h
  obtain ⟨rfl, hx, hy⟩ := toR_eq hv
  have hΓ : Env.ok [] Try.prog := ok_nil _
  refine Spec.of_vx hΓ follows_mixed Try.func55 rfl (by kernel_rfl) (T := []) (by simp [Try.ntmps55]) (by kernel_rfl) rfl Try.ntmps55 (res := [.cell 2 73]) rfl ?_
  intro W
  simp -implicitDefEqProofs (maxSteps := 10000000) only [vy_succ, vmB, slim, slimOp, gO, gSO, qSO, quietOp, cS, qSB, eK, calmOp, guardS, gK, qK, putK, plK, dOk, St.ev, St.get, St.mem, St.set, St.setm, St.put, lookA, look, newK, nextver, initT, seqE, blockQ, bodyQ, resK, retV, AV.rdv, agg_uV, ↓binK, ↓intK, unK, ↓loadK, ↓withKey_eq, ↓idxAddrK, ↓indexK, ↓partK, ↓fieldK, ↓fieldAddrK, ↓convK, ↓callK, wrG, updK, ↓lenK, ↓mmK, ↓appK, ↓copyK, ↓sliceK, ↓toArrK, nilK, evs, plains, seqParts, capsOf, capsD, AV.dv, AV.cont, ↓buildV_eq, fillL, placesOf, ↓storeK, wrL, RV.av, DV.av, List.set, Nat.reduceEqDiff, Nat.reduceAdd, Nat.reduceSub, Nat.reduceMul, Nat.reduceLT, Nat.reduceLeDiff, Nat.reduceMod, Nat.reduceDiv, Int.reduceLT, Int.reduceLE, Int.reduceToNat, ↓reduceIte, reduceCtorEq, Value.oneCell', Int.reduceAdd, Int.reduceSub, Int.reduceMod, Int.reduceMul, Int.reduceNeg, Int.reduceBEq, Int.reduceBNe, Int.reduceTDiv, Int.reduceTMod, Int.reduceEq, tyB, Try.underlying13, Try.underlying25, Try.underlying26, Try.underlying39, Try.underlying40, Try.underlying72, Try.underlying73, cells_pt, agg_pt, isNil_pt, ptV_lit, cells_w, agg_w, isNil_w, valm, ↓binK_eqPt, ↓binK_eqU, ↓binK_neU, eqU_v, wV_1]
noncomputable def pW (s : Wd) : Pt := if s.b = true then .o else .a (s.X * (finv s.z * finv s.z)) (s.Y * (finv s.z * finv s.z * finv s.z))
noncomputable def narG : List DV → Option RV
  | [.pl v] => match toW v with
    | some s => open Classical in if s.b = true ∨ s.z ≠ 0 then some (.one (.pl (ptV (rx (pW s)) (ry (pW s)) (rb (pW s))))) else none
    | none => none
  | _ => none
theorem finv_v (z : Fp) : pwN z.val (pN 0 - 2) (pN 0) = (finv z).val := by
  rw [pN_0]
  exact (Nat.mod_eq_of_lt (pwN_lt _ _ (by decide))).symm
theorem nar_walk (s : Wd) (hs : s.b = true ∨ s.z ≠ 0) : Spec Try.prog 60 [.pl (wV s.X.val s.Y.val s.b s.z.val)] (.one (.pl (ptV (rx (pW s)) (ry (pW s)) (rb (pW s))))) := by
  obtain ⟨X, Y, b, z⟩ := s
  have hΓ : Env.ok [(38, ptZG), (21, finvG), (67, pMulG)] Try.prog := ok_cons ptZ_ok (ok_cons finv_ok (ok_cons pMul_ok (ok_nil _)))
  refine Spec.of_vx hΓ follows_mixed Try.func60 rfl (by kernel_rfl) (T := []) (by simp [Try.ntmps60]) (by kernel_rfl) rfl Try.ntmps60 (res := [.cell 2 26]) rfl ?_
  intro W
  cases b with
  | true =>
    simp -implicitDefEqProofs (maxSteps := 10000000) only [vy_succ, vmB, slim, slimOp, gO, gSO, qSO, quietOp, cS, qSB, eK, calmOp, guardS, gK, qK, putK, plK, dOk, St.ev, St.get, St.mem, St.set, St.setm, St.put, lookA, look, newK, nextver, initT, seqE, blockQ, bodyQ, resK, retV, AV.rdv, agg_uV, ↓binK, ↓intK, unK, ↓loadK, ↓withKey_eq, ↓idxAddrK, ↓indexK, ↓partK, ↓fieldK, ↓fieldAddrK, ↓convK, ↓callK, wrG, updK, ↓lenK, ↓mmK, ↓appK, ↓copyK, ↓sliceK, ↓toArrK, nilK, evs, plains, seqParts, capsOf, capsD, AV.dv, AV.cont, ↓buildV_eq, fillL, placesOf, ↓storeK, wrL, RV.av, DV.av, List.set, Nat.reduceEqDiff, Nat.reduceAdd, Nat.reduceSub, Nat.reduceMul, Nat.reduceLT, Nat.reduceLeDiff, Nat.reduceMod, Nat.reduceDiv, Int.reduceLT, Int.reduceLE, Int.reduceToNat, ↓reduceIte, reduceCtorEq, Value.oneCell', Int.reduceAdd, Int.reduceSub, Int.reduceMod, Int.reduceMul, Int.reduceNeg, Int.reduceBEq, Int.reduceBNe, Int.reduceTDiv, Int.reduceTMod, Int.reduceEq, tyB, Try.underlying13, Try.underlying25, Try.underlying26, Try.underlying39, Try.underlying40, Try.underlying72, Try.underlying73, ptZG, finvG, pMulG, cells_pt, agg_pt, isNil_pt, ptV_lit, cells_w, agg_w, isNil_w, valm, ↓binK_eqPt, ↓binK_eqU, ↓binK_neU, eqU_v]
    rfl
  | false =>
    have hz : z ≠ 0 := hs.resolve_left (fun h => Bool.false_ne_true h)
    have e : (z.val % pN 0 = 0) = False := by
      rw [Nat.mod_eq_of_lt (v_p z)]
      exact eq_false (fun h => hz (Fin.ext h))
    simp -implicitDefEqProofs (maxSteps := 10000000) only [vy_succ, vmB, slim, slimOp, gO, gSO, qSO, quietOp, cS, qSB, eK, calmOp, guardS, gK, qK, putK, plK, dOk, St.ev, St.get, St.mem, St.set, St.setm, St.put, lookA, look, newK, nextver, initT, seqE, blockQ, bodyQ, resK, retV, AV.rdv, agg_uV, ↓binK, ↓intK, unK, ↓loadK, ↓withKey_eq, ↓idxAddrK, ↓indexK, ↓partK, ↓fieldK, ↓fieldAddrK, ↓convK, ↓callK, wrG, updK, ↓lenK, ↓mmK, ↓appK, ↓copyK, ↓sliceK, ↓toArrK, nilK, evs, plains, seqParts, capsOf, capsD, AV.dv, AV.cont, ↓buildV_eq, fillL, placesOf, ↓storeK, wrL, RV.av, DV.av, List.set, Nat.reduceEqDiff, Nat.reduceAdd, Nat.reduceSub, Nat.reduceMul, Nat.reduceLT, Nat.reduceLeDiff, Nat.reduceMod, Nat.reduceDiv, Int.reduceLT, Int.reduceLE, Int.reduceToNat, ↓reduceIte, reduceCtorEq, Value.oneCell', Int.reduceAdd, Int.reduceSub, Int.reduceMod, Int.reduceMul, Int.reduceNeg, Int.reduceBEq, Int.reduceBNe, Int.reduceTDiv, Int.reduceTMod, Int.reduceEq, tyB, Try.underlying13, Try.underlying25, Try.underlying26, Try.underlying39, Try.underlying40, Try.underlying72, Try.underlying73, ptZG, finvG, pMulG, cells_pt, agg_pt, isNil_pt, ptV_lit, cells_w, agg_w, isNil_w, valm, ↓binK_eqPt, ↓binK_eqU, ↓binK_neU, eqU_v, isW0, e, finv_v, val_nc]
    rfl
theorem nar_ok : ∀ ds r, narG ds = some r → Spec Try.prog 60 ds r := by
  intro ds r h
  unfold narG at h
  split at h
  case h_2 => cases h
  rename_i v
  split at h
  case h_2 => cases h
  rename_i s hv
  split at h
  case isFalse => cases h
  rename_i hs
  cases h
  rw [toW_eq hv]
  exact nar_walk s hs

noncomputable def dbX3 (X Y : Fp) : Fp := (X * X + X * X + X * X) * (X * X + X * X + X * X) - (X * (Y * Y) + X * (Y * Y) + (X * (Y * Y) + X * (Y * Y)) + (X * (Y * Y) + X * (Y * Y) + (X * (Y * Y) + X * (Y * Y))))
noncomputable def dbY3 (X Y : Fp) : Fp := (X * X + X * X + X * X) * (X * (Y * Y) + X * (Y * Y) + (X * (Y * Y) + X * (Y * Y)) - dbX3 X Y) - (Y * Y * (Y * Y) + Y * Y * (Y * Y) + (Y * Y * (Y * Y) + Y * Y * (Y * Y)) + (Y * Y * (Y * Y) + Y * Y * (Y * Y) + (Y * Y * (Y * Y) + Y * Y * (Y * Y))))
noncomputable def dbW (s : Wd) : Wd := open Classical in if s.b = true ∨ s.Y = 0 then ⟨0, 0, true, 1⟩ else ⟨dbX3 s.X s.Y, dbY3 s.X s.Y, false, s.Y * s.z + s.Y * s.z⟩
noncomputable def wdV (s : Wd) : Value := wV s.X.val s.Y.val s.b s.z.val
noncomputable def twG : List DV → Option RV
  | [.pl v] => match toW v with
    | some s => some (.one (.pl (wV (dbW s).X.val (dbW s).Y.val (dbW s).b (dbW s).z.val)))
    | none => none
  | _ => none
set_option maxHeartbeats 4000000 in
theorem tw_walk (s : Wd) : Spec Try.prog 58 [.pl (wV s.X.val s.Y.val s.b s.z.val)] (.one (.pl (wV (dbW s).X.val (dbW s).Y.val (dbW s).b (dbW s).z.val))) := by
  have hΓ : Env.ok [(38, ptZG), (55, widG), (67, pMulG), (81, pAddG), (49, pSubG)] Try.prog := ok_cons ptZ_ok (ok_cons wid_ok (ok_cons pMul_ok (ok_cons pAdd_ok (ok_cons pSub_ok (ok_nil _)))))
  obtain ⟨X, Y, b, z⟩ := s
  refine Spec.of_vx hΓ follows_mixed Try.func58 rfl (by kernel_rfl) (T := [(7, .alc), (8, .alc)]) (by simp [Try.ntmps58]) (by kernel_rfl) rfl Try.ntmps58 (res := [.cell 2 73]) rfl ?_
  intro W
  cases b with
  | true =>
    have e : dbW ⟨X, Y, true, z⟩ = ⟨0, 0, true, 1⟩ := by unfold dbW; rw [if_pos (.inl rfl)]
    rw [e]
    simp -implicitDefEqProofs (maxSteps := 10000000) only [vy_succ, vmB, slim, slimOp, gO, gSO, qSO, quietOp, cS, qSB, eK, calmOp, guardS, gK, qK, putK, plK, dOk, St.ev, St.get, St.mem, St.set, St.setm, St.put, lookA, look, newK, nextver, initT, seqE, blockQ, bodyQ, resK, retV, AV.rdv, agg_uV, ↓binK, ↓intK, unK, ↓loadK, ↓withKey_eq, ↓idxAddrK, ↓indexK, ↓partK, ↓fieldK, ↓fieldAddrK, ↓convK, ↓callK, wrG, updK, ↓lenK, ↓mmK, ↓appK, ↓copyK, ↓sliceK, ↓toArrK, nilK, evs, plains, seqParts, capsOf, capsD, AV.dv, AV.cont, ↓buildV_eq, fillL, placesOf, ↓storeK, wrL, RV.av, DV.av, List.set, Nat.reduceEqDiff, Nat.reduceAdd, Nat.reduceSub, Nat.reduceMul, Nat.reduceLT, Nat.reduceLeDiff, Nat.reduceMod, Nat.reduceDiv, Int.reduceLT, Int.reduceLE, Int.reduceToNat, ↓reduceIte, reduceCtorEq, Value.oneCell', Int.reduceAdd, Int.reduceSub, Int.reduceMod, Int.reduceMul, Int.reduceNeg, Int.reduceBEq, Int.reduceBNe, Int.reduceTDiv, Int.reduceTMod, Int.reduceEq, tyB, Try.underlying13, Try.underlying25, Try.underlying26, Try.underlying39, Try.underlying40, Try.underlying72, Try.underlying73, ptZG, widG, pMulG, pAddG, pSubG, toR_0, cells_pt, agg_pt, isNil_pt, ptV_lit, cells_w, agg_w, isNil_w, valm, ↓binK_eqPt, ↓binK_eqU, ↓binK_neU, eqU_v]
    rfl
  | false =>
    by_cases hY : Y = 0
    · have e : dbW ⟨X, Y, false, z⟩ = ⟨0, 0, true, 1⟩ := by unfold dbW; rw [if_pos (.inr hY)]
      have e2 : decide (Y = 0) = true := decide_eq_true hY
      rw [e]
      simp -implicitDefEqProofs (maxSteps := 10000000) only [vy_succ, vmB, slim, slimOp, gO, gSO, qSO, quietOp, cS, qSB, eK, calmOp, guardS, gK, qK, putK, plK, dOk, St.ev, St.get, St.mem, St.set, St.setm, St.put, lookA, look, newK, nextver, initT, seqE, blockQ, bodyQ, resK, retV, AV.rdv, agg_uV, ↓binK, ↓intK, unK, ↓loadK, ↓withKey_eq, ↓idxAddrK, ↓indexK, ↓partK, ↓fieldK, ↓fieldAddrK, ↓convK, ↓callK, wrG, updK, ↓lenK, ↓mmK, ↓appK, ↓copyK, ↓sliceK, ↓toArrK, nilK, evs, plains, seqParts, capsOf, capsD, AV.dv, AV.cont, ↓buildV_eq, fillL, placesOf, ↓storeK, wrL, RV.av, DV.av, List.set, Nat.reduceEqDiff, Nat.reduceAdd, Nat.reduceSub, Nat.reduceMul, Nat.reduceLT, Nat.reduceLeDiff, Nat.reduceMod, Nat.reduceDiv, Int.reduceLT, Int.reduceLE, Int.reduceToNat, ↓reduceIte, reduceCtorEq, Value.oneCell', Int.reduceAdd, Int.reduceSub, Int.reduceMod, Int.reduceMul, Int.reduceNeg, Int.reduceBEq, Int.reduceBNe, Int.reduceTDiv, Int.reduceTMod, Int.reduceEq, tyB, Try.underlying13, Try.underlying25, Try.underlying26, Try.underlying39, Try.underlying40, Try.underlying72, Try.underlying73, ptZG, widG, pMulG, pAddG, pSubG, toR_0, cells_pt, agg_pt, isNil_pt, ptV_lit, cells_w, agg_w, isNil_w, valm, ↓binK_eqPt, ↓binK_eqU, ↓binK_neU, eqU_v, ↓binK_eqU0, eqU_v0, e2]
      rfl
    · have e : dbW ⟨X, Y, false, z⟩ = ⟨dbX3 X Y, dbY3 X Y, false, Y * z + Y * z⟩ := by unfold dbW; rw [if_neg (fun h => h.elim (fun h => Bool.false_ne_true h) hY)]
      have e2 : decide (Y = 0) = false := decide_eq_false hY
      rw [e]
      unfold dbY3 dbX3
      simp -implicitDefEqProofs (maxSteps := 10000000) only [vy_succ, vmB, slim, slimOp, gO, gSO, qSO, quietOp, cS, qSB, eK, calmOp, guardS, gK, qK, putK, plK, dOk, St.ev, St.get, St.mem, St.set, St.setm, St.put, lookA, look, newK, nextver, initT, seqE, blockQ, bodyQ, resK, retV, AV.rdv, agg_uV, ↓binK, ↓intK, unK, ↓loadK, ↓withKey_eq, ↓idxAddrK, ↓indexK, ↓partK, ↓fieldK, ↓fieldAddrK, ↓convK, ↓callK, wrG, updK, ↓lenK, ↓mmK, ↓appK, ↓copyK, ↓sliceK, ↓toArrK, nilK, evs, plains, seqParts, capsOf, capsD, AV.dv, AV.cont, ↓buildV_eq, fillL, placesOf, ↓storeK, wrL, RV.av, DV.av, List.set, Nat.reduceEqDiff, Nat.reduceAdd, Nat.reduceSub, Nat.reduceMul, Nat.reduceLT, Nat.reduceLeDiff, Nat.reduceMod, Nat.reduceDiv, Int.reduceLT, Int.reduceLE, Int.reduceToNat, ↓reduceIte, reduceCtorEq, Value.oneCell', Int.reduceAdd, Int.reduceSub, Int.reduceMod, Int.reduceMul, Int.reduceNeg, Int.reduceBEq, Int.reduceBNe, Int.reduceTDiv, Int.reduceTMod, Int.reduceEq, tyB, Try.underlying13, Try.underlying25, Try.underlying26, Try.underlying39, Try.underlying40, Try.underlying72, Try.underlying73, ptZG, widG, pMulG, pAddG, pSubG, toR_0, cells_pt, agg_pt, isNil_pt, ptV_lit, cells_w, agg_w, isNil_w, valm, ↓binK_eqPt, ↓binK_eqU, ↓binK_neU, eqU_v, ↓binK_eqU0, eqU_v0, e2, val_nc]
theorem tw_ok : ∀ ds r, twG ds = some r → Spec Try.prog 58 ds r := by
  intro ds r h
  unfold twG at h
  split at h
  case h_2 => cases h
  rename_i v
  split at h
  case h_2 => cases h
  rename_i s hv
  cases h
  rw [toW_eq hv]
  exact tw_walk s

noncomputable def suH (X z X' z' : Fp) : Fp := X' * (z * z) - X * (z' * z')
noncomputable def suR (Y z Y' z' : Fp) : Fp := Y' * (z * z * z) - Y * (z' * z' * z')
noncomputable def suX (px h r : Fp) : Fp := r * r - h * h * h - (px * (h * h) + px * (h * h))
noncomputable def suY (px py h r : Fp) : Fp := r * (px * (h * h) - suX px h r) - py * (h * h * h)
noncomputable def suW (p q : Wd) : Wd := open Classical in
  if p.b = true then q else if q.b = true then p else
  if suH p.X p.z q.X q.z = 0 then (if suR p.Y p.z q.Y q.z = 0 then dbW p else ⟨0, 0, true, 1⟩)
  else ⟨suX (p.X * (q.z * q.z)) (suH p.X p.z q.X q.z) (suR p.Y p.z q.Y q.z), suY (p.X * (q.z * q.z)) (p.Y * (q.z * q.z * q.z)) (suH p.X p.z q.X q.z) (suR p.Y p.z q.Y q.z), false, suH p.X p.z q.X q.z * (p.z * q.z)⟩
noncomputable def suG : List DV → Option RV
  | [.pl v, .pl u] => match toW v, toW u with
    | some s, some t => some (.one (.pl (wV (suW s t).X.val (suW s t).Y.val (suW s t).b (suW s t).z.val)))
    | _, _ => none
  | _ => none
set_option maxHeartbeats 4000000 in
theorem su_walk (s t : Wd) : Spec Try.prog 56 [.pl (wV s.X.val s.Y.val s.b s.z.val), .pl (wV t.X.val t.Y.val t.b t.z.val)] (.one (.pl (wV (suW s t).X.val (suW s t).Y.val (suW s t).b (suW s t).z.val))) := by
  have hΓ : Env.ok [(38, ptZG), (55, widG), (67, pMulG), (81, pAddG), (49, pSubG), (58, twG)] Try.prog := ok_cons ptZ_ok (ok_cons wid_ok (ok_cons pMul_ok (ok_cons pAdd_ok (ok_cons pSub_ok (ok_cons tw_ok (ok_nil _))))))
  obtain ⟨X, Y, b, z⟩ := s
  obtain ⟨X', Y', b', z'⟩ := t
  refine Spec.of_vx hΓ follows_mixed Try.func56 rfl (by kernel_rfl) (T := [(5, .alc), (6, .alc), (7, .alc), (8, .alc), (14, .alc), (15, .alc)]) (by simp [Try.ntmps56]) (by kernel_rfl) rfl Try.ntmps56 (res := [.cell 4 73]) rfl ?_
  intro W
  cases b with
  | true =>
    have e : suW ⟨X, Y, true, z⟩ ⟨X', Y', b', z'⟩ = ⟨X', Y', b', z'⟩ := by unfold suW; rw [if_pos rfl]
    rw [e]
    simp -implicitDefEqProofs (maxSteps := 10000000) only [vy_succ, vmB, slim, slimOp, gO, gSO, qSO, quietOp, cS, qSB, eK, calmOp, guardS, gK, qK, putK, plK, dOk, St.ev, St.get, St.mem, St.set, St.setm, St.put, lookA, look, newK, nextver, initT, seqE, blockQ, bodyQ, resK, retV, AV.rdv, agg_uV, ↓binK, ↓intK, unK, ↓loadK, ↓withKey_eq, ↓idxAddrK, ↓indexK, ↓partK, ↓fieldK, ↓fieldAddrK, ↓convK, ↓callK, wrG, updK, ↓lenK, ↓mmK, ↓appK, ↓copyK, ↓sliceK, ↓toArrK, nilK, evs, plains, seqParts, capsOf, capsD, AV.dv, AV.cont, ↓buildV_eq, fillL, placesOf, ↓storeK, wrL, RV.av, DV.av, List.set, Nat.reduceEqDiff, Nat.reduceAdd, Nat.reduceSub, Nat.reduceMul, Nat.reduceLT, Nat.reduceLeDiff, Nat.reduceMod, Nat.reduceDiv, Int.reduceLT, Int.reduceLE, Int.reduceToNat, ↓reduceIte, reduceCtorEq, Value.oneCell', Int.reduceAdd, Int.reduceSub, Int.reduceMod, Int.reduceMul, Int.reduceNeg, Int.reduceBEq, Int.reduceBNe, Int.reduceTDiv, Int.reduceTMod, Int.reduceEq, tyB, Try.underlying13, Try.underlying25, Try.underlying26, Try.underlying39, Try.underlying40, Try.underlying72, Try.underlying73, ptZG, widG, pMulG, pAddG, pSubG, toR_0, cells_pt, agg_pt, isNil_pt, ptV_lit, cells_w, agg_w, isNil_w, valm, ↓binK_eqPt, ↓binK_eqU, ↓binK_neU, eqU_v]
  | false =>
    cases b' with
    | true =>
      have e : suW ⟨X, Y, false, z⟩ ⟨X', Y', true, z'⟩ = ⟨X, Y, false, z⟩ := by unfold suW; rw [if_neg (fun h => Bool.false_ne_true h), if_pos rfl]
      rw [e]
      simp -implicitDefEqProofs (maxSteps := 10000000) only [vy_succ, vmB, slim, slimOp, gO, gSO, qSO, quietOp, cS, qSB, eK, calmOp, guardS, gK, qK, putK, plK, dOk, St.ev, St.get, St.mem, St.set, St.setm, St.put, lookA, look, newK, nextver, initT, seqE, blockQ, bodyQ, resK, retV, AV.rdv, agg_uV, ↓binK, ↓intK, unK, ↓loadK, ↓withKey_eq, ↓idxAddrK, ↓indexK, ↓partK, ↓fieldK, ↓fieldAddrK, ↓convK, ↓callK, wrG, updK, ↓lenK, ↓mmK, ↓appK, ↓copyK, ↓sliceK, ↓toArrK, nilK, evs, plains, seqParts, capsOf, capsD, AV.dv, AV.cont, ↓buildV_eq, fillL, placesOf, ↓storeK, wrL, RV.av, DV.av, List.set, Nat.reduceEqDiff, Nat.reduceAdd, Nat.reduceSub, Nat.reduceMul, Nat.reduceLT, Nat.reduceLeDiff, Nat.reduceMod, Nat.reduceDiv, Int.reduceLT, Int.reduceLE, Int.reduceToNat, ↓reduceIte, reduceCtorEq, Value.oneCell', Int.reduceAdd, Int.reduceSub, Int.reduceMod, Int.reduceMul, Int.reduceNeg, Int.reduceBEq, Int.reduceBNe, Int.reduceTDiv, Int.reduceTMod, Int.reduceEq, tyB, Try.underlying13, Try.underlying25, Try.underlying26, Try.underlying39, Try.underlying40, Try.underlying72, Try.underlying73, ptZG, widG, pMulG, pAddG, pSubG, toR_0, cells_pt, agg_pt, isNil_pt, ptV_lit, cells_w, agg_w, isNil_w, valm, ↓binK_eqPt, ↓binK_eqU, ↓binK_neU, eqU_v]
    | false =>
      by_cases hH : suH X z X' z' = 0
      · by_cases hR : suR Y z Y' z' = 0
        · have e : suW ⟨X, Y, false, z⟩ ⟨X', Y', false, z'⟩ = dbW ⟨X, Y, false, z⟩ := by unfold suW; rw [if_neg (fun h => Bool.false_ne_true h), if_neg (fun h => Bool.false_ne_true h), if_pos hH, if_pos hR]
          have e2 := decide_eq_true hH
          have e3 := decide_eq_true hR
          unfold suH at e2
          unfold suR at e3
          rw [e]
          simp -implicitDefEqProofs (maxSteps := 10000000) only [vy_succ, vmB, slim, slimOp, gO, gSO, qSO, quietOp, cS, qSB, eK, calmOp, guardS, gK, qK, putK, plK, dOk, St.ev, St.get, St.mem, St.set, St.setm, St.put, lookA, look, newK, nextver, initT, seqE, blockQ, bodyQ, resK, retV, AV.rdv, agg_uV, ↓binK, ↓intK, unK, ↓loadK, ↓withKey_eq, ↓idxAddrK, ↓indexK, ↓partK, ↓fieldK, ↓fieldAddrK, ↓convK, ↓callK, wrG, updK, ↓lenK, ↓mmK, ↓appK, ↓copyK, ↓sliceK, ↓toArrK, nilK, evs, plains, seqParts, capsOf, capsD, AV.dv, AV.cont, ↓buildV_eq, fillL, placesOf, ↓storeK, wrL, RV.av, DV.av, List.set, Nat.reduceEqDiff, Nat.reduceAdd, Nat.reduceSub, Nat.reduceMul, Nat.reduceLT, Nat.reduceLeDiff, Nat.reduceMod, Nat.reduceDiv, Int.reduceLT, Int.reduceLE, Int.reduceToNat, ↓reduceIte, reduceCtorEq, Value.oneCell', Int.reduceAdd, Int.reduceSub, Int.reduceMod, Int.reduceMul, Int.reduceNeg, Int.reduceBEq, Int.reduceBNe, Int.reduceTDiv, Int.reduceTMod, Int.reduceEq, tyB, Try.underlying13, Try.underlying25, Try.underlying26, Try.underlying39, Try.underlying40, Try.underlying72, Try.underlying73, ptZG, widG, pMulG, pAddG, pSubG, twG, toW_v, toR_0, cells_pt, agg_pt, isNil_pt, ptV_lit, cells_w, agg_w, isNil_w, valm, ↓binK_eqPt, ↓binK_eqU, ↓binK_neU, eqU_v, ↓binK_eqU0, eqU_v0, e2, e3, val_nc]
        · have e : suW ⟨X, Y, false, z⟩ ⟨X', Y', false, z'⟩ = ⟨0, 0, true, 1⟩ := by unfold suW; rw [if_neg (fun h => Bool.false_ne_true h), if_neg (fun h => Bool.false_ne_true h), if_pos hH, if_neg hR]
          have e2 := decide_eq_true hH
          have e3 := decide_eq_false hR
          unfold suH at e2
          unfold suR at e3
          rw [e]
          simp -implicitDefEqProofs (maxSteps := 10000000) only [vy_succ, vmB, slim, slimOp, gO, gSO, qSO, quietOp, cS, qSB, eK, calmOp, guardS, gK, qK, putK, plK, dOk, St.ev, St.get, St.mem, St.set, St.setm, St.put, lookA, look, newK, nextver, initT, seqE, blockQ, bodyQ, resK, retV, AV.rdv, agg_uV, ↓binK, ↓intK, unK, ↓loadK, ↓withKey_eq, ↓idxAddrK, ↓indexK, ↓partK, ↓fieldK, ↓fieldAddrK, ↓convK, ↓callK, wrG, updK, ↓lenK, ↓mmK, ↓appK, ↓copyK, ↓sliceK, ↓toArrK, nilK, evs, plains, seqParts, capsOf, capsD, AV.dv, AV.cont, ↓buildV_eq, fillL, placesOf, ↓storeK, wrL, RV.av, DV.av, List.set, Nat.reduceEqDiff, Nat.reduceAdd, Nat.reduceSub, Nat.reduceMul, Nat.reduceLT, Nat.reduceLeDiff, Nat.reduceMod, Nat.reduceDiv, Int.reduceLT, Int.reduceLE, Int.reduceToNat, ↓reduceIte, reduceCtorEq, Value.oneCell', Int.reduceAdd, Int.reduceSub, Int.reduceMod, Int.reduceMul, Int.reduceNeg, Int.reduceBEq, Int.reduceBNe, Int.reduceTDiv, Int.reduceTMod, Int.reduceEq, tyB, Try.underlying13, Try.underlying25, Try.underlying26, Try.underlying39, Try.underlying40, Try.underlying72, Try.underlying73, ptZG, widG, pMulG, pAddG, pSubG, twG, toW_v, toR_0, cells_pt, agg_pt, isNil_pt, ptV_lit, cells_w, agg_w, isNil_w, valm, ↓binK_eqPt, ↓binK_eqU, ↓binK_neU, eqU_v, ↓binK_eqU0, eqU_v0, e2, e3, val_nc]
          rfl
      · have e : suW ⟨X, Y, false, z⟩ ⟨X', Y', false, z'⟩ = ⟨suX (X * (z' * z')) (suH X z X' z') (suR Y z Y' z'), suY (X * (z' * z')) (Y * (z' * z' * z')) (suH X z X' z') (suR Y z Y' z'), false, suH X z X' z' * (z * z')⟩ := by unfold suW; rw [if_neg (fun h => Bool.false_ne_true h), if_neg (fun h => Bool.false_ne_true h), if_neg hH]
        have e2 := decide_eq_false hH
        have fH : X' * (z * z) - X * (z' * z') = suH X z X' z' := rfl
        have fR : Y' * (z * z * z) - Y * (z' * z' * z') = suR Y z Y' z' := rfl
        rw [e]
        unfold suY suX
        simp -implicitDefEqProofs (maxSteps := 10000000) only [vy_succ, vmB, slim, slimOp, gO, gSO, qSO, quietOp, cS, qSB, eK, calmOp, guardS, gK, qK, putK, plK, dOk, St.ev, St.get, St.mem, St.set, St.setm, St.put, lookA, look, newK, nextver, initT, seqE, blockQ, bodyQ, resK, retV, AV.rdv, agg_uV, ↓binK, ↓intK, unK, ↓loadK, ↓withKey_eq, ↓idxAddrK, ↓indexK, ↓partK, ↓fieldK, ↓fieldAddrK, ↓convK, ↓callK, wrG, updK, ↓lenK, ↓mmK, ↓appK, ↓copyK, ↓sliceK, ↓toArrK, nilK, evs, plains, seqParts, capsOf, capsD, AV.dv, AV.cont, ↓buildV_eq, fillL, placesOf, ↓storeK, wrL, RV.av, DV.av, List.set, Nat.reduceEqDiff, Nat.reduceAdd, Nat.reduceSub, Nat.reduceMul, Nat.reduceLT, Nat.reduceLeDiff, Nat.reduceMod, Nat.reduceDiv, Int.reduceLT, Int.reduceLE, Int.reduceToNat, ↓reduceIte, reduceCtorEq, Value.oneCell', Int.reduceAdd, Int.reduceSub, Int.reduceMod, Int.reduceMul, Int.reduceNeg, Int.reduceBEq, Int.reduceBNe, Int.reduceTDiv, Int.reduceTMod, Int.reduceEq, tyB, Try.underlying13, Try.underlying25, Try.underlying26, Try.underlying39, Try.underlying40, Try.underlying72, Try.underlying73, ptZG, widG, pMulG, pAddG, pSubG, twG, toW_v, toR_0, cells_pt, agg_pt, isNil_pt, ptV_lit, cells_w, agg_w, isNil_w, valm, ↓binK_eqPt, ↓binK_eqU, ↓binK_neU, eqU_v, ↓binK_eqU0, eqU_v0, e2, fH, fR, val_nc]
theorem su_ok : ∀ ds r, suG ds = some r → Spec Try.prog 56 ds r := by
  intro ds r h
  unfold suG at h
  split at h
  case h_2 => cases h
  rename_i v u
  split at h
  case h_2 => cases h
  rename_i s t hv hu
  cases h
  rw [toW_eq hv, toW_eq hu]
  exact su_walk s t
end Go.Vm

/- What wide points' sums make. No condition. -/
set_option maxRecDepth 100000
set_option linter.unusedVariables false
namespace Go.Vm
open Go.Ec

def gdW (s : Wd) : Prop := (s.b = true ∨ s.z ≠ 0) ∧ onC (pW s)
theorem pW_b {s : Wd} (h : s.b = true) : pW s = .o := by unfold pW; rw [if_pos h]
theorem pW_a {s : Wd} (h : ¬ s.b = true) : pW s = .a (s.X * (finv s.z * finv s.z)) (s.Y * (finv s.z * finv s.z * finv s.z)) := by unfold pW; rw [if_neg h]
theorem ok_o : gdW ⟨0, 0, true, 1⟩ := ⟨.inl rfl, by rw [pW_b rfl]; trivial⟩
theorem db_x (X Y z i j k : Fp) (hzi : z * i = 1) (hj : (Y * z + Y * z) * j = 1) (hk : 2 * (Y * (i * i * i)) * k = 1) : 3 * (X * (i * i) * (X * (i * i))) * k = (X * X + X * X + X * X) * j ∧ i = 2 * Y * j := by
  have e : i = 2 * Y * j := by grobner
  refine ⟨?_, e⟩
  have hn : 2 * (Y * (i * i * i)) ≠ 0 := fun h => one_ne (by grobner)
  apply fcan hn
  grobner
theorem db_sem {s : Wd} (h : gdW s) : gdW (dbW s) ∧ pW (dbW s) = padd (pW s) (pW s) := by
  obtain ⟨h1, h2⟩ := h
  by_cases hb : s.b = true
  · have e : dbW s = ⟨0, 0, true, 1⟩ := by unfold dbW; rw [if_pos (.inl hb)]
    rw [e, pW_b hb]
    exact ⟨ok_o, pW_b rfl⟩
  · have hz : s.z ≠ 0 := h1.resolve_left hb
    have e0 := pW_a hb
    rw [e0] at h2 ⊢
    have hi := finv_mul hz
    have hy := y_ne h2
    have hY : s.Y ≠ 0 := fun e => hy (by rw [e]; grobner)
    have e : dbW s = ⟨dbX3 s.X s.Y, dbY3 s.X s.Y, false, s.Y * s.z + s.Y * s.z⟩ := by
      unfold dbW; rw [if_neg (fun h => h.elim hb hY)]
    have hz3 : s.Y * s.z + s.Y * s.z ≠ 0 := by
      have := fnz two_ne (fnz hY hz)
      intro h
      exact this (by grobner)
    have hj := finv_mul hz3
    have hk := finv_mul (fnz two_ne hy)
    have hadd : padd (.a (s.X * (finv s.z * finv s.z)) (s.Y * (finv s.z * finv s.z * finv s.z))) (.a (s.X * (finv s.z * finv s.z)) (s.Y * (finv s.z * finv s.z * finv s.z))) = .a (dbX (s.X * (finv s.z * finv s.z)) (s.Y * (finv s.z * finv s.z * finv s.z))) (dbY (s.X * (finv s.z * finv s.z)) (s.Y * (finv s.z * finv s.z * finv s.z))) := by simp [padd]
    have key : pW (dbW s) = padd (.a (s.X * (finv s.z * finv s.z)) (s.Y * (finv s.z * finv s.z * finv s.z))) (.a (s.X * (finv s.z * finv s.z)) (s.Y * (finv s.z * finv s.z * finv s.z))) := by
      rw [e, pW_a (fun h => Bool.false_ne_true h), hadd]
      simp only
      unfold dbY dbX
      obtain ⟨l1, l2⟩ := db_x s.X s.Y s.z _ _ _ hi hj hk
      rw [l1]
      clear hadd e e0 h1 h2 hb
      generalize finv s.z = i at *
      generalize finv (s.Y * s.z + s.Y * s.z) = j at *
      unfold dbY3 dbX3
      clear hk l1 hy hY hz hz3
      generalize s.X = X at *
      generalize s.Y = Y at *
      generalize s.z = z at *
      subst l2
      rw [Pt.a.injEq]
      constructor
      · grobner
      · grobner
    refine ⟨⟨?_, ?_⟩, key⟩
    · rw [e]; exact .inr hz3
    · rw [key]; exact padd_on h2 h2

theorem su_hx (X z i X' z' i' : Fp) (hi : z * i = 1) (hi' : z' * i' = 1) : X' * (i' * i') - X * (i * i) = suH X z X' z' * (i * i) * (i' * i') := by unfold suH; grobner
theorem su_ry (Y z i Y' z' i' : Fp) (hi : z * i = 1) (hi' : z' * i' = 1) : Y' * (i' * i' * i') - Y * (i * i * i) = suR Y z Y' z' * (i * i * i) * (i' * i' * i') := by unfold suR; grobner
theorem su_l (h r z i z' i' j k : Fp) (hi : z * i = 1) (hi' : z' * i' = 1) (hj : h * (z * z') * j = 1) (hk : h * (i * i) * (i' * i') * k = 1) : r * (i * i * i) * (i' * i' * i') * k = r * j ∧ i * i' = h * j := by
  have e : i * i' = h * j := by grobner
  refine ⟨?_, e⟩
  have hn : h * (i * i) * (i' * i') ≠ 0 := fun e => one_ne (by grobner)
  apply fcan hn
  grobner
theorem su_sem {s t : Wd} (hs : gdW s) (ht : gdW t) : gdW (suW s t) ∧ pW (suW s t) = padd (pW s) (pW t) := by
  by_cases hb : s.b = true
  · have e : suW s t = t := by unfold suW; rw [if_pos hb]
    rw [e, pW_b hb, o_padd]
    exact ⟨ht, rfl⟩
  by_cases hc : t.b = true
  · have e : suW s t = s := by unfold suW; rw [if_neg hb, if_pos hc]
    rw [e, pW_b hc, padd_o]
    exact ⟨hs, rfl⟩
  have hz : s.z ≠ 0 := hs.1.resolve_left hb
  have hz' : t.z ≠ 0 := ht.1.resolve_left hc
  have e0 := pW_a hb
  have e1 := pW_a hc
  have hi := finv_mul hz
  have hi' := finv_mul hz'
  have hx := su_hx s.X s.z _ t.X t.z _ hi hi'
  have hy := su_ry s.Y s.z _ t.Y t.z _ hi hi'
  have ni : finv s.z ≠ 0 := fun e => one_ne (by rw [e] at hi; grobner)
  have ni' : finv t.z ≠ 0 := fun e => one_ne (by rw [e] at hi'; grobner)
  by_cases hH : suH s.X s.z t.X t.z = 0
  · have xx : s.X * (finv s.z * finv s.z) = t.X * (finv t.z * finv t.z) := by rw [hH] at hx; grobner
    by_cases hR : suR s.Y s.z t.Y t.z = 0
    · have e : suW s t = dbW s := by unfold suW; rw [if_neg hb, if_neg hc, if_pos hH, if_pos hR]
      have yy : s.Y * (finv s.z * finv s.z * finv s.z) = t.Y * (finv t.z * finv t.z * finv t.z) := by rw [hR] at hy; grobner
      have ep : pW t = pW s := by rw [e0, e1, xx, yy]
      rw [e, ep]
      exact db_sem hs
    · have e : suW s t = ⟨0, 0, true, 1⟩ := by unfold suW; rw [if_neg hb, if_neg hc, if_pos hH, if_neg hR]
      have yy : ¬ s.Y * (finv s.z * finv s.z * finv s.z) = t.Y * (finv t.z * finv t.z * finv t.z) := fun h => by
        rw [h] at hy
        have := fnz (fnz hR (fnz (fnz ni ni) ni)) (fnz (fnz ni' ni') ni')
        exact this (by rw [← hy]; grobner)
      rw [e]
      refine ⟨ok_o, ?_⟩
      rw [pW_b rfl, e0, e1]
      simp only [padd]
      rw [if_pos xx, if_neg yy]
  · have e : suW s t = ⟨suX (s.X * (t.z * t.z)) (suH s.X s.z t.X t.z) (suR s.Y s.z t.Y t.z), suY (s.X * (t.z * t.z)) (s.Y * (t.z * t.z * t.z)) (suH s.X s.z t.X t.z) (suR s.Y s.z t.Y t.z), false, suH s.X s.z t.X t.z * (s.z * t.z)⟩ := by
      unfold suW; rw [if_neg hb, if_neg hc, if_neg hH]
    have nx : ¬ s.X * (finv s.z * finv s.z) = t.X * (finv t.z * finv t.z) := fun h => by
      rw [h] at hx
      have := fnz (fnz hH (fnz ni ni)) (fnz ni' ni')
      exact this (by rw [← hx]; grobner)
    have hz3 : suH s.X s.z t.X t.z * (s.z * t.z) ≠ 0 := fnz hH (fnz hz hz')
    have hj := finv_mul hz3
    have hk := finv_mul (sub_ne nx)
    have key : pW (suW s t) = padd (pW s) (pW t) := by
      rw [e, pW_a (fun h => Bool.false_ne_true h), e0, e1]
      simp only [padd]
      rw [if_neg nx]
      unfold chY chX
      rw [hx] at hk ⊢
      rw [hy]
      obtain ⟨l1, l2⟩ := su_l (suH s.X s.z t.X t.z) (suR s.Y s.z t.Y t.z) s.z _ t.z _ _ _ hi hi' hj hk
      rw [l1]
      have dH : suH s.X s.z t.X t.z = t.X * (s.z * s.z) - s.X * (t.z * t.z) := rfl
      have dR : suR s.Y s.z t.Y t.z = t.Y * (s.z * s.z * s.z) - s.Y * (t.z * t.z * t.z) := rfl
      unfold suY suX
      clear hx hy hk l1 nx hz3 ni ni' hz hz' e e0 e1 hs ht hb hc hH
      generalize finv (suH s.X s.z t.X t.z * (s.z * t.z)) = j at *
      generalize suH s.X s.z t.X t.z = h at *
      generalize suR s.Y s.z t.Y t.z = r at *
      generalize finv s.z = i at *
      generalize finv t.z = i' at *
      generalize s.X = X at *
      generalize t.X = X' at *
      generalize s.Y = Y at *
      generalize t.Y = Y' at *
      generalize s.z = z at *
      generalize t.z = z' at *
      clear dR
      rw [Pt.a.injEq]
      have g1 : h * h * (j * j) * (X' * (z * z)) = X' * (i' * i') := by grobner
      have g2 : h * h * (j * j) * (X * (z' * z')) = X * (i * i) := by grobner
      have g3 : h * h * h * (j * j * j) * (Y * (z' * z' * z')) = Y * (i * i * i) := by
        have : h * h * h * (j * j * j) = i * i' * (i * i') * (i * i') := by grobner
        rw [this]
        clear this l2 hj dH
        grobner
      have ex : (r * r - h * h * h - (X * (z' * z') * (h * h) + X * (z' * z') * (h * h))) * (j * j) = r * j * (r * j) - X * (i * i) - X' * (i' * i') := by
        clear hi hi' hj l2 g3
        subst dH
        grobner
      refine ⟨ex, ?_⟩
      rw [← ex]
      clear ex hi hi' hj l2 g1
      subst dH
      grobner
    refine ⟨⟨?_, ?_⟩, key⟩
    · rw [e]; exact .inr hz3
    · rw [key]; exact padd_on hs.2 ht.2
end Go.Vm

/- Add, Turn, Lift of points. No condition. -/
set_option maxRecDepth 100000
set_option linter.unusedSimpArgs false
set_option linter.unusedVariables false
namespace Go.Vm
open Go Go.RowKit Go.Proofs Go.Ec

noncomputable def wdP (p : Pt) : Wd := ⟨nc (rx p), nc (ry p), rb p, 1⟩
theorem nc_rx (p : Pt) : (nc (rx p)).val = rx p := by
  cases p with
  | o => rfl
  | a x y => exact congrArg Fin.val (val_nc x)
theorem nc_ry (p : Pt) : (nc (ry p)).val = ry p := by
  cases p with
  | o => rfl
  | a x y => exact congrArg Fin.val (val_nc y)
theorem toW_p (p : Pt) : toW (wV (rx p) (ry p) (rb p) 1) = some (wdP p) := by
  have h := toW_1 (nc (rx p)) (nc (ry p)) (rb p)
  rw [nc_rx, nc_ry] at h
  exact h
theorem pW_wdP (p : Pt) : pW (wdP p) = p := by
  cases p with
  | o => exact pW_b rfl
  | a x y =>
    rw [pW_a (fun h => Bool.false_ne_true h)]
    have h1 := finv_mul one_ne
    show Pt.a (nc x.val * (finv 1 * finv 1)) (nc y.val * (finv 1 * finv 1 * finv 1)) = _
    rw [val_nc, val_nc]
    generalize finv 1 = i at *
    have e : i = 1 := by grobner
    subst e
    rw [Pt.a.injEq]
    exact ⟨by grobner, by grobner⟩
theorem gd_wdP {p : Pt} (h : onC p) : gdW (wdP p) := ⟨.inr one_ne, by rw [pW_wdP]; exact h⟩
noncomputable def ptP (p : Pt) : Value := ptV (rx p) (ry p) (rb p)

noncomputable def ptLG : List DV → Option RV
  | [.pl v, .pl (.bool o)] => match toN v with
    | some x => open Classical in some (if x < pN 0 then (if Rt (nc x * nc x * nc x + 7).val then .tup [.pl (ptV x (if o = true then (0 - nc (evN (pwN (nc x * nc x * nc x + 7).val qN (pN 0)))).val else evN (pwN (nc x * nc x * nc x + 7).val qN (pN 0))) false), .pl (.int .i64 0)] else .tup [.pl (ptV 0 0 false), .pl (.int .i64 6)]) else .tup [.pl (ptV 0 0 false), .pl (.int .i64 1)])
    | none => none
  | _ => none
set_option maxHeartbeats 4000000 in
theorem ptl_ok : ∀ ds r, ptLG ds = some r → Spec Try.prog 20 ds r := by
  intro ds r h
  unfold ptLG at h
  split at h
  case h_2 => cases h
  rename_i v o
  split at h
  case h_2 => cases h
  rename_i x hv
  obtain ⟨rfl, hx⟩ := toN_eq hv
  have hΓ : Env.ok [(46, redG), (48, curG), (47, rootG), (49, pSubG)] Try.prog := ok_cons red_ok (ok_cons cur_ok (ok_cons root_ok (ok_cons pSub_ok (ok_nil _))))
  have mx : x % full = x := Nat.mod_eq_of_lt hx
  have z : nc 0 = 0 := rfl
  have hr := evN_lt (pwN_lt (nc x * nc x * nc x + 7).val qN (p := pN 0) (by rw [pN_0]; decide))
  have mr := Nat.mod_eq_of_lt hr
  have mc : (nc x * nc x * nc x + 7).val % pN 0 = (nc x * nc x * nc x + 7).val := Nat.mod_eq_of_lt (v_p _)
  cases h
  refine Spec.of_vx hΓ follows_mixed Try.func20 rfl (by kernel_rfl) (T := []) (by simp [Try.ntmps20]) (by kernel_rfl) rfl Try.ntmps20 (res := [.cell 4 26, .tmp 5]) rfl ?_
  intro W
  by_cases h1 : x < pN 0
  · have d1 := decide_eq_true h1
    by_cases h2 : Rt (nc x * nc x * nc x + 7).val
    · generalize hre : evN (pwN (nc x * nc x * nc x + 7).val qN (pN 0)) = r at *
      rw [if_pos h1, if_pos h2]
      cases o with
      | true =>
        rw [if_pos rfl]
        simp -implicitDefEqProofs (maxSteps := 10000000) only [vy_succ, vmB, slim, slimOp, gO, gSO, qSO, quietOp, cS, qSB, eK, calmOp, guardS, gK, qK, putK, plK, dOk, St.ev, St.get, St.mem, St.set, St.setm, St.put, lookA, look, newK, nextver, initT, seqE, blockQ, bodyQ, resK, retV, AV.rdv, agg_uV, ↓binK, ↓intK, unK, ↓loadK, ↓withKey_eq, ↓idxAddrK, ↓indexK, ↓partK, ↓fieldK, ↓fieldAddrK, ↓convK, ↓callK, wrG, updK, ↓lenK, ↓mmK, ↓appK, ↓copyK, ↓sliceK, ↓toArrK, nilK, evs, plains, seqParts, capsOf, capsD, AV.dv, AV.cont, ↓buildV_eq, fillL, placesOf, ↓storeK, wrL, RV.av, DV.av, List.set, Nat.reduceEqDiff, Nat.reduceAdd, Nat.reduceSub, Nat.reduceMul, Nat.reduceLT, Nat.reduceLeDiff, Nat.reduceMod, Nat.reduceDiv, Int.reduceLT, Int.reduceLE, Int.reduceToNat, ↓reduceIte, reduceCtorEq, Value.oneCell', Int.reduceAdd, Int.reduceSub, Int.reduceMod, Int.reduceMul, Int.reduceNeg, Int.reduceBEq, Int.reduceBNe, Int.reduceTDiv, Int.reduceTMod, Int.reduceEq, tyB, Try.underlying13, Try.underlying25, Try.underlying26, Try.underlying39, Try.underlying40, Try.underlying72, Try.underlying73, redG, curG, rootG, pSubG, toN_zero, val_nc, mx, mr, mc, z, d1, h2, hre, cells_pt, agg_pt, isNil_pt, ptV_lit, cells_w, agg_w, isNil_w, valm, ↓binK_eqPt, ↓binK_eqU, ↓binK_neU, eqU_v]
  
      | false =>
        rw [if_neg (by decide)]
        simp -implicitDefEqProofs (maxSteps := 10000000) only [vy_succ, vmB, slim, slimOp, gO, gSO, qSO, quietOp, cS, qSB, eK, calmOp, guardS, gK, qK, putK, plK, dOk, St.ev, St.get, St.mem, St.set, St.setm, St.put, lookA, look, newK, nextver, initT, seqE, blockQ, bodyQ, resK, retV, AV.rdv, agg_uV, ↓binK, ↓intK, unK, ↓loadK, ↓withKey_eq, ↓idxAddrK, ↓indexK, ↓partK, ↓fieldK, ↓fieldAddrK, ↓convK, ↓callK, wrG, updK, ↓lenK, ↓mmK, ↓appK, ↓copyK, ↓sliceK, ↓toArrK, nilK, evs, plains, seqParts, capsOf, capsD, AV.dv, AV.cont, ↓buildV_eq, fillL, placesOf, ↓storeK, wrL, RV.av, DV.av, List.set, Nat.reduceEqDiff, Nat.reduceAdd, Nat.reduceSub, Nat.reduceMul, Nat.reduceLT, Nat.reduceLeDiff, Nat.reduceMod, Nat.reduceDiv, Int.reduceLT, Int.reduceLE, Int.reduceToNat, ↓reduceIte, reduceCtorEq, Value.oneCell', Int.reduceAdd, Int.reduceSub, Int.reduceMod, Int.reduceMul, Int.reduceNeg, Int.reduceBEq, Int.reduceBNe, Int.reduceTDiv, Int.reduceTMod, Int.reduceEq, tyB, Try.underlying13, Try.underlying25, Try.underlying26, Try.underlying39, Try.underlying40, Try.underlying72, Try.underlying73, redG, curG, rootG, pSubG, toN_zero, val_nc, mx, mr, mc, z, d1, h2, hre, cells_pt, agg_pt, isNil_pt, ptV_lit, cells_w, agg_w, isNil_w, valm, ↓binK_eqPt, ↓binK_eqU, ↓binK_neU, eqU_v]
  
    · rw [if_pos h1, if_neg h2]
      simp -implicitDefEqProofs (maxSteps := 10000000) only [vy_succ, vmB, slim, slimOp, gO, gSO, qSO, quietOp, cS, qSB, eK, calmOp, guardS, gK, qK, putK, plK, dOk, St.ev, St.get, St.mem, St.set, St.setm, St.put, lookA, look, newK, nextver, initT, seqE, blockQ, bodyQ, resK, retV, AV.rdv, agg_uV, ↓binK, ↓intK, unK, ↓loadK, ↓withKey_eq, ↓idxAddrK, ↓indexK, ↓partK, ↓fieldK, ↓fieldAddrK, ↓convK, ↓callK, wrG, updK, ↓lenK, ↓mmK, ↓appK, ↓copyK, ↓sliceK, ↓toArrK, nilK, evs, plains, seqParts, capsOf, capsD, AV.dv, AV.cont, ↓buildV_eq, fillL, placesOf, ↓storeK, wrL, RV.av, DV.av, List.set, Nat.reduceEqDiff, Nat.reduceAdd, Nat.reduceSub, Nat.reduceMul, Nat.reduceLT, Nat.reduceLeDiff, Nat.reduceMod, Nat.reduceDiv, Int.reduceLT, Int.reduceLE, Int.reduceToNat, ↓reduceIte, reduceCtorEq, Value.oneCell', Int.reduceAdd, Int.reduceSub, Int.reduceMod, Int.reduceMul, Int.reduceNeg, Int.reduceBEq, Int.reduceBNe, Int.reduceTDiv, Int.reduceTMod, Int.reduceEq, tyB, Try.underlying13, Try.underlying25, Try.underlying26, Try.underlying39, Try.underlying40, Try.underlying72, Try.underlying73, redG, curG, rootG, pSubG, toN_zero, val_nc, mx, mr, mc, z, d1, h2, cells_pt, agg_pt, isNil_pt, ptV_lit, cells_w, agg_w, isNil_w, valm, ↓binK_eqPt, ↓binK_eqU, ↓binK_neU, eqU_v]

  · have d1 := decide_eq_false h1
    rw [if_neg h1]
    simp -implicitDefEqProofs (maxSteps := 10000000) only [vy_succ, vmB, slim, slimOp, gO, gSO, qSO, quietOp, cS, qSB, eK, calmOp, guardS, gK, qK, putK, plK, dOk, St.ev, St.get, St.mem, St.set, St.setm, St.put, lookA, look, newK, nextver, initT, seqE, blockQ, bodyQ, resK, retV, AV.rdv, agg_uV, ↓binK, ↓intK, unK, ↓loadK, ↓withKey_eq, ↓idxAddrK, ↓indexK, ↓partK, ↓fieldK, ↓fieldAddrK, ↓convK, ↓callK, wrG, updK, ↓lenK, ↓mmK, ↓appK, ↓copyK, ↓sliceK, ↓toArrK, nilK, evs, plains, seqParts, capsOf, capsD, AV.dv, AV.cont, ↓buildV_eq, fillL, placesOf, ↓storeK, wrL, RV.av, DV.av, List.set, Nat.reduceEqDiff, Nat.reduceAdd, Nat.reduceSub, Nat.reduceMul, Nat.reduceLT, Nat.reduceLeDiff, Nat.reduceMod, Nat.reduceDiv, Int.reduceLT, Int.reduceLE, Int.reduceToNat, ↓reduceIte, reduceCtorEq, Value.oneCell', Int.reduceAdd, Int.reduceSub, Int.reduceMod, Int.reduceMul, Int.reduceNeg, Int.reduceBEq, Int.reduceBNe, Int.reduceTDiv, Int.reduceTMod, Int.reduceEq, tyB, Try.underlying13, Try.underlying25, Try.underlying26, Try.underlying39, Try.underlying40, Try.underlying72, Try.underlying73, redG, curG, rootG, pSubG, toN_zero, val_nc, mx, mr, mc, z, d1, cells_pt, agg_pt, isNil_pt, ptV_lit, cells_w, agg_w, isNil_w, valm, ↓binK_eqPt, ↓binK_eqU, ↓binK_neU, eqU_v]
end Go.Vm
