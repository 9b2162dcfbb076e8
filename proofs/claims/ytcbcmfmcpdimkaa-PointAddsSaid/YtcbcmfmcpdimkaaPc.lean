/- What wide points' sums make. No condition. -/
import Derived.Test.YtcbcmfmcpdimkaaPb
set_option maxRecDepth 100000
set_option linter.unusedVariables false
namespace Go.Vm
open Go.Ec

def gdW (s : Wd) : Prop := (s.b = true ∨ s.z ≠ 0) ∧ onC (pW s)
theorem pW_b {s : Wd} (h : s.b = true) : pW s = .o := by unfold pW; rw [if_pos h]
theorem pW_a {s : Wd} (h : ¬ s.b = true) : pW s = .a (s.X * (finv s.z * finv s.z)) (s.Y * (finv s.z * finv s.z * finv s.z)) := by unfold pW; rw [if_neg h]
theorem ok_o : gdW ⟨0, 0, true, 1⟩ := ⟨.inl rfl, by rw [pW_b rfl]; trivial⟩
theorem db_x (X Y z i j k : Fp) (hzi : z * i = 1) (hj : (Y * z + Y * z) * j = 1) (hk : 2 * (Y * (i * i * i)) * k = 1) : 3 * (X * (i * i) * (X * (i * i))) * k = (X * X + X * X + X * X) * j ∧ i = 2 * Y * j := by
  have e : i = 2 * Y * j := by grobner
  refine ⟨?_, e⟩
  have hn : 2 * (Y * (i * i * i)) ≠ 0 := fun h => one_ne (by grobner)
  apply fcan hn
  grobner
theorem db_sem {s : Wd} (h : gdW s) : gdW (dbW s) ∧ pW (dbW s) = padd (pW s) (pW s) := by
  obtain ⟨h1, h2⟩ := h
  by_cases hb : s.b = true
  · have e : dbW s = ⟨0, 0, true, 1⟩ := by unfold dbW; rw [if_pos (.inl hb)]
    rw [e, pW_b hb]
    exact ⟨ok_o, pW_b rfl⟩
  · have hz : s.z ≠ 0 := h1.resolve_left hb
    have e0 := pW_a hb
    rw [e0] at h2 ⊢
    have hi := finv_mul hz
    have hy := y_ne h2
    have hY : s.Y ≠ 0 := fun e => hy (by rw [e]; grobner)
    have e : dbW s = ⟨dbX3 s.X s.Y, dbY3 s.X s.Y, false, s.Y * s.z + s.Y * s.z⟩ := by
      unfold dbW; rw [if_neg (fun h => h.elim hb hY)]
    have hz3 : s.Y * s.z + s.Y * s.z ≠ 0 := by
      have := fnz two_ne (fnz hY hz)
      intro h
      exact this (by grobner)
    have hj := finv_mul hz3
    have hk := finv_mul (fnz two_ne hy)
    have hadd : padd (.a (s.X * (finv s.z * finv s.z)) (s.Y * (finv s.z * finv s.z * finv s.z))) (.a (s.X * (finv s.z * finv s.z)) (s.Y * (finv s.z * finv s.z * finv s.z))) = .a (dbX (s.X * (finv s.z * finv s.z)) (s.Y * (finv s.z * finv s.z * finv s.z))) (dbY (s.X * (finv s.z * finv s.z)) (s.Y * (finv s.z * finv s.z * finv s.z))) := by simp [padd]
    have key : pW (dbW s) = padd (.a (s.X * (finv s.z * finv s.z)) (s.Y * (finv s.z * finv s.z * finv s.z))) (.a (s.X * (finv s.z * finv s.z)) (s.Y * (finv s.z * finv s.z * finv s.z))) := by
      rw [e, pW_a (fun h => Bool.false_ne_true h), hadd]
      simp only
      unfold dbY dbX
      obtain ⟨l1, l2⟩ := db_x s.X s.Y s.z _ _ _ hi hj hk
      rw [l1]
      clear hadd e e0 h1 h2 hb
      generalize finv s.z = i at *
      generalize finv (s.Y * s.z + s.Y * s.z) = j at *
      unfold dbY3 dbX3
      clear hk l1 hy hY hz hz3
      generalize s.X = X at *
      generalize s.Y = Y at *
      generalize s.z = z at *
      subst l2
      rw [Pt.a.injEq]
      constructor
      · grobner
      · grobner
    refine ⟨⟨?_, ?_⟩, key⟩
    · rw [e]; exact .inr hz3
    · rw [key]; exact padd_on h2 h2

theorem su_hx (X z i X' z' i' : Fp) (hi : z * i = 1) (hi' : z' * i' = 1) : X' * (i' * i') - X * (i * i) = suH X z X' z' * (i * i) * (i' * i') := by unfold suH; grobner
theorem su_ry (Y z i Y' z' i' : Fp) (hi : z * i = 1) (hi' : z' * i' = 1) : Y' * (i' * i' * i') - Y * (i * i * i) = suR Y z Y' z' * (i * i * i) * (i' * i' * i') := by unfold suR; grobner
theorem su_l (h r z i z' i' j k : Fp) (hi : z * i = 1) (hi' : z' * i' = 1) (hj : h * (z * z') * j = 1) (hk : h * (i * i) * (i' * i') * k = 1) : r * (i * i * i) * (i' * i' * i') * k = r * j ∧ i * i' = h * j := by
  have e : i * i' = h * j := by grobner
  refine ⟨?_, e⟩
  have hn : h * (i * i) * (i' * i') ≠ 0 := fun e => one_ne (by grobner)
  apply fcan hn
  grobner
theorem su_sem {s t : Wd} (hs : gdW s) (ht : gdW t) : gdW (suW s t) ∧ pW (suW s t) = padd (pW s) (pW t) := by
  by_cases hb : s.b = true
  · have e : suW s t = t := by unfold suW; rw [if_pos hb]
    rw [e, pW_b hb, o_padd]
    exact ⟨ht, rfl⟩
  by_cases hc : t.b = true
  · have e : suW s t = s := by unfold suW; rw [if_neg hb, if_pos hc]
    rw [e, pW_b hc, padd_o]
    exact ⟨hs, rfl⟩
  have hz : s.z ≠ 0 := hs.1.resolve_left hb
  have hz' : t.z ≠ 0 := ht.1.resolve_left hc
  have e0 := pW_a hb
  have e1 := pW_a hc
  have hi := finv_mul hz
  have hi' := finv_mul hz'
  have hx := su_hx s.X s.z _ t.X t.z _ hi hi'
  have hy := su_ry s.Y s.z _ t.Y t.z _ hi hi'
  have ni : finv s.z ≠ 0 := fun e => one_ne (by rw [e] at hi; grobner)
  have ni' : finv t.z ≠ 0 := fun e => one_ne (by rw [e] at hi'; grobner)
  by_cases hH : suH s.X s.z t.X t.z = 0
  · have xx : s.X * (finv s.z * finv s.z) = t.X * (finv t.z * finv t.z) := by rw [hH] at hx; grobner
    by_cases hR : suR s.Y s.z t.Y t.z = 0
    · have e : suW s t = dbW s := by unfold suW; rw [if_neg hb, if_neg hc, if_pos hH, if_pos hR]
      have yy : s.Y * (finv s.z * finv s.z * finv s.z) = t.Y * (finv t.z * finv t.z * finv t.z) := by rw [hR] at hy; grobner
      have ep : pW t = pW s := by rw [e0, e1, xx, yy]
      rw [e, ep]
      exact db_sem hs
    · have e : suW s t = ⟨0, 0, true, 1⟩ := by unfold suW; rw [if_neg hb, if_neg hc, if_pos hH, if_neg hR]
      have yy : ¬ s.Y * (finv s.z * finv s.z * finv s.z) = t.Y * (finv t.z * finv t.z * finv t.z) := fun h => by
        rw [h] at hy
        have := fnz (fnz hR (fnz (fnz ni ni) ni)) (fnz (fnz ni' ni') ni')
        exact this (by rw [← hy]; grobner)
      rw [e]
      refine ⟨ok_o, ?_⟩
      rw [pW_b rfl, e0, e1]
      simp only [padd]
      rw [if_pos xx, if_neg yy]
  · have e : suW s t = ⟨suX (s.X * (t.z * t.z)) (suH s.X s.z t.X t.z) (suR s.Y s.z t.Y t.z), suY (s.X * (t.z * t.z)) (s.Y * (t.z * t.z * t.z)) (suH s.X s.z t.X t.z) (suR s.Y s.z t.Y t.z), false, suH s.X s.z t.X t.z * (s.z * t.z)⟩ := by
      unfold suW; rw [if_neg hb, if_neg hc, if_neg hH]
    have nx : ¬ s.X * (finv s.z * finv s.z) = t.X * (finv t.z * finv t.z) := fun h => by
      rw [h] at hx
      have := fnz (fnz hH (fnz ni ni)) (fnz ni' ni')
      exact this (by rw [← hx]; grobner)
    have hz3 : suH s.X s.z t.X t.z * (s.z * t.z) ≠ 0 := fnz hH (fnz hz hz')
    have hj := finv_mul hz3
    have hk := finv_mul (sub_ne nx)
    have key : pW (suW s t) = padd (pW s) (pW t) := by
      rw [e, pW_a (fun h => Bool.false_ne_true h), e0, e1]
      simp only [padd]
      rw [if_neg nx]
      unfold chY chX
      rw [hx] at hk ⊢
      rw [hy]
      obtain ⟨l1, l2⟩ := su_l (suH s.X s.z t.X t.z) (suR s.Y s.z t.Y t.z) s.z _ t.z _ _ _ hi hi' hj hk
      rw [l1]
      have dH : suH s.X s.z t.X t.z = t.X * (s.z * s.z) - s.X * (t.z * t.z) := rfl
      have dR : suR s.Y s.z t.Y t.z = t.Y * (s.z * s.z * s.z) - s.Y * (t.z * t.z * t.z) := rfl
      unfold suY suX
      clear hx hy hk l1 nx hz3 ni ni' hz hz' e e0 e1 hs ht hb hc hH
      generalize finv (suH s.X s.z t.X t.z * (s.z * t.z)) = j at *
      generalize suH s.X s.z t.X t.z = h at *
      generalize suR s.Y s.z t.Y t.z = r at *
      generalize finv s.z = i at *
      generalize finv t.z = i' at *
      generalize s.X = X at *
      generalize t.X = X' at *
      generalize s.Y = Y at *
      generalize t.Y = Y' at *
      generalize s.z = z at *
      generalize t.z = z' at *
      clear dR
      rw [Pt.a.injEq]
      have g1 : h * h * (j * j) * (X' * (z * z)) = X' * (i' * i') := by grobner
      have g2 : h * h * (j * j) * (X * (z' * z')) = X * (i * i) := by grobner
      have g3 : h * h * h * (j * j * j) * (Y * (z' * z' * z')) = Y * (i * i * i) := by
        have : h * h * h * (j * j * j) = i * i' * (i * i') * (i * i') := by grobner
        rw [this]
        clear this l2 hj dH
        grobner
      have ex : (r * r - h * h * h - (X * (z' * z') * (h * h) + X * (z' * z') * (h * h))) * (j * j) = r * j * (r * j) - X * (i * i) - X' * (i' * i') := by
        clear hi hi' hj l2 g3
        subst dH
        grobner
      refine ⟨ex, ?_⟩
      rw [← ex]
      clear ex hi hi' hj l2 g1
      subst dH
      grobner
    refine ⟨⟨?_, ?_⟩, key⟩
    · rw [e]; exact .inr hz3
    · rw [key]; exact padd_on hs.2 ht.2
end Go.Vm
