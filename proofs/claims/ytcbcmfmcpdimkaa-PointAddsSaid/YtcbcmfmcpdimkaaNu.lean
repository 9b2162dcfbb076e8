/- Certificates for primes (Pocklington). No condition. -/
import Derived.Test.YtcbcmfmcpdimkaaNt
set_option maxRecDepth 100000
namespace Go.Vm

theorem pow_rest {r b m : Nat} (h : b ^ m % r = 1) (n : Nat) (hn : b ^ n % r = 1) : b ^ (n % m) % r = 1 := by
  have e : b ^ n = (b ^ m) ^ (n / m) * b ^ (n % m) := by rw [← Nat.pow_mul, ← Nat.pow_add, Nat.div_add_mod]
  have hr : 1 % r = 1 := by
    have := h
    rcases Nat.lt_or_ge 1 r with h1 | h1
    · exact Nat.mod_eq_of_lt h1
    · have h2 : r = 0 ∨ r = 1 := by omega
      rcases h2 with rfl | rfl
      · rfl
      · rw [Nat.mod_one] at this; cases this
  rw [e, Nat.mul_mod, Nat.pow_mod, h, Nat.one_pow, hr, Nat.one_mul, Nat.mod_mod] at hn
  exact hn
theorem pow_gcd {r b : Nat} (m n : Nat) : b ^ m % r = 1 → b ^ n % r = 1 → b ^ (Nat.gcd m n) % r = 1 := by
  induction m, n using Nat.gcd.induction with
  | H0 n => intro _ h; rw [Nat.gcd_zero_left]; exact h
  | H1 m n hm ih =>
    intro h1 h2
    rw [Nat.gcd_rec]
    exact ih (pow_rest h1 n h2) h1

theorem prime_factor : ∀ n, 1 < n → ∃ r, Prm r ∧ r ∣ n := by
  intro n
  induction n using Nat.strongRecOn with
  | ind n ih =>
    intro hn
    by_cases hp : Prm n
    · exact ⟨n, hp, Nat.dvd_refl n⟩
    · have : ∃ d, d ∣ n ∧ d ≠ 1 ∧ d ≠ n := by
        apply Classical.byContradiction
        intro hno
        refine hp ⟨hn, fun d hd => ?_⟩
        by_cases h1 : d = 1
        · exact .inl h1
        · by_cases h2 : d = n
          · exact .inr h2
          · exact absurd ⟨d, hd, h1, h2⟩ hno
      obtain ⟨d, hd, h1, h2⟩ := this
      have hle := Nat.le_of_dvd (by omega) hd
      have h0 : d ≠ 0 := by intro e; subst e; have := Nat.eq_zero_of_zero_dvd hd; omega
      obtain ⟨r, hr, hrd⟩ := ih d (by omega) (by omega)
      exact ⟨r, hr, Nat.dvd_trans hrd hd⟩
theorem small_factor {n : Nat} (hn : 1 < n) (hp : ¬ Prm n) : ∃ r, Prm r ∧ r ∣ n ∧ r * r ≤ n := by
  have : ∃ d, d ∣ n ∧ d ≠ 1 ∧ d ≠ n := by
    apply Classical.byContradiction
    intro hno
    refine hp ⟨hn, fun d hd => ?_⟩
    by_cases h1 : d = 1
    · exact .inl h1
    · by_cases h2 : d = n
      · exact .inr h2
      · exact absurd ⟨d, hd, h1, h2⟩ hno
  obtain ⟨d, ⟨e, he⟩, h1, h2⟩ := this
  have hd0 : d ≠ 0 := by intro h; subst h; omega
  have he0 : e ≠ 0 := by intro h; subst h; omega
  have he1 : e ≠ 1 := by intro h; subst h; omega
  rcases Nat.le_total d e with hle | hle
  · obtain ⟨r, hr, hrd⟩ := prime_factor d (by omega)
    have h3 := Nat.le_of_dvd (by omega) hrd
    refine ⟨r, hr, Nat.dvd_trans hrd ⟨e, he⟩, ?_⟩
    have := Nat.mul_le_mul h3 (Nat.le_trans h3 hle)
    omega
  · obtain ⟨r, hr, hrd⟩ := prime_factor e (by omega)
    have h3 := Nat.le_of_dvd (by omega) hrd
    refine ⟨r, hr, Nat.dvd_trans hrd ⟨d, by rw [he, Nat.mul_comm]⟩, ?_⟩
    have := Nat.mul_le_mul (Nat.le_trans h3 hle) h3
    omega
theorem pock {N F : Nat} (hN : 1 < N) (hbig : N < F * F) (hq : ∀ r, Prm r → r ∣ N → F ∣ r - 1) : Prm N := by
  apply Classical.byContradiction
  intro hp
  obtain ⟨r, hr, hrN, hrr⟩ := small_factor hN hp
  have h1 := hr.1
  have h2 := Nat.le_of_dvd (by omega) (hq r hr hrN)
  have := Nat.mul_le_mul (show F ≤ r by omega) (show F ≤ r by omega)
  omega

def mp (N : Nat) : Nat → Nat → Nat → Nat
  | 0, _, _ => 1
  | f + 1, a, n => cond (Nat.beq n 0) 1 (cond (Nat.beq (n % 2) 1) (a * mp N f (a * a % N) (n / 2) % N) (mp N f (a * a % N) (n / 2)))
theorem mp_eq (N : Nat) : ∀ (f a n : Nat), n < 2 ^ f → mp N f a n % N = a ^ n % N
  | 0, a, n, h => by
    have : n = 0 := by rw [Nat.pow_zero] at h; omega
    subst this; rfl
  | f + 1, a, n, h => by
    have ih := mp_eq N f (a * a % N) (n / 2) (by rw [Nat.pow_succ] at h; omega)
    have e : (a * a) ^ (n / 2) = a ^ (2 * (n / 2)) := by rw [← Nat.pow_two, ← Nat.pow_mul]
    rw [← Nat.pow_mod, e] at ih
    unfold mp
    cases h0 : Nat.beq n 0 with
    | true =>
      have : n = 0 := Nat.eq_of_beq_eq_true h0
      subst this; rfl
    | false =>
      simp only [cond_false]
      cases h1 : Nat.beq (n % 2) 1 with
      | true =>
        have h2 : n % 2 = 1 := Nat.eq_of_beq_eq_true h1
        have h3 : a ^ n = a * a ^ (2 * (n / 2)) := by rw [← Nat.pow_succ']; congr 1; omega
        simp only [cond_true]
        rw [Nat.mod_mod, Nat.mul_mod, ih, ← Nat.mul_mod, h3]
      | false =>
        have h2 : n % 2 ≠ 1 := Nat.ne_of_beq_eq_false h1
        simp only [cond_false]
        rw [ih]
        congr 2
        omega

theorem cert {N q a : Nat} (hN : 1 < N) (hb : N < 2 ^ 256) (hq : Prm q) (hd : (N - 1) % q = 0) (h1 : mp N 256 a (N - 1) = 1) (h2 : Nat.gcd (mp N 256 a ((N - 1) / q) % N + N - 1) N = 1) : ∀ r, Prm r → r ∣ N → q ∣ r - 1 := by
  intro r hr hrN
  have e1 := mp_eq N 256 a (N - 1) (by omega)
  have e2 := mp_eq N 256 a ((N - 1) / q) (by have := Nat.div_le_self (N - 1) q; omega)
  rw [h1, Nat.mod_eq_of_lt hN] at e1
  rw [e2] at h2
  have hr1 := hr.1
  have hqq : (N - 1) / q * q = N - 1 := Nat.div_mul_cancel (Nat.dvd_of_mod_eq_zero hd)
  generalize hbb : a ^ ((N - 1) / q) = b at *
  have hbq : b ^ q % r = 1 := by
    rw [← hbb, ← Nat.pow_mul, hqq, ← Nat.mod_mod_of_dvd _ hrN, ← e1, Nat.mod_eq_of_lt hr1]
  have hrb : ¬ r ∣ b := by
    intro h
    have hq1 := hq.1
    have h3 : b ^ q % r = 0 := Nat.mod_eq_zero_of_dvd (Nat.dvd_trans h ⟨b ^ (q - 1), by rw [← Nat.pow_succ']; congr 1; omega⟩)
    omega
  have hg := pow_gcd q (r - 1) hbq (fermat hr hrb)
  rcases hq.2 _ (Nat.gcd_dvd_left q (r - 1)) with h3 | h3
  · exfalso
    rw [h3, Nat.pow_one] at hg
    have h4 : r ∣ b % N + N - 1 := by
      apply Nat.dvd_of_mod_eq_zero
      obtain ⟨k, hk⟩ := hrN
      have h5 : b % N % r = 1 := by rw [Nat.mod_mod_of_dvd _ ⟨k, hk⟩]; exact hg
      have h6 := Nat.div_add_mod (b % N) r
      have h7 : b % N + N - 1 = r * (b % N / r + k) := by rw [Nat.mul_add]; omega
      rw [h7, Nat.mul_mod_right]
    have h8 := Nat.dvd_gcd h4 hrN
    rw [h2] at h8
    have := Nat.le_of_dvd (by omega) h8
    omega
  · rw [← h3]; exact Nat.gcd_dvd_right q (r - 1)

def chk (p : Nat) : Bool := Nat.blt 1 p && (List.range p).all fun d => Nat.blt d 2 || !(Nat.beq (p % d) 0)
theorem prm_chk {p : Nat} (h : chk p = true) : Prm p := by
  unfold chk at h
  rw [Bool.and_eq_true] at h
  have h1 : 1 < p := by simpa [Nat.blt_eq] using h.1
  refine ⟨h1, fun d hd => ?_⟩
  by_cases e1 : d = 1
  · exact .inl e1
  · right
    have hle := Nat.le_of_dvd (by omega) hd
    rcases Nat.lt_or_ge d p with hlt | hge
    · exfalso
      have h2 := List.all_eq_true.1 h.2 d (List.mem_range.2 hlt)
      have h0 : d ≠ 0 := by intro e; subst e; have := Nat.eq_zero_of_zero_dvd hd; omega
      have h3 := Nat.mod_eq_zero_of_dvd hd
      rw [h3, Bool.or_eq_true] at h2
      rcases h2 with h4 | h4
      · have : d < 2 := by simpa [Nat.blt_eq] using h4
        omega
      · cases h4
    · omega

theorem prm_7 : Prm 7 := prm_chk (by decide +kernel)
theorem prm_29 : Prm 29 := prm_chk (by decide +kernel)
theorem prm_53 : Prm 53 := prm_chk (by decide +kernel)
theorem prm_101 : Prm 101 := prm_chk (by decide +kernel)
theorem prm_239 : Prm 239 := prm_chk (by decide +kernel)
theorem prm_419 : Prm 419 := prm_chk (by decide +kernel)
theorem prm_1409 : Prm 1409 := prm_chk (by decide +kernel)
theorem prm_1871 : Prm 1871 := prm_chk (by decide +kernel)
theorem prm_2011 : Prm 2011 := prm_chk (by decide +kernel)
theorem prm_97 : Prm 97 := prm_chk (by decide +kernel)
theorem prm_2861 : Prm 2861 := prm_chk (by decide +kernel)
theorem prm_107590001 : Prm 107590001 := by
  have c0 := cert (N := 107590001) (q := 7) (a := 2) (by decide +kernel) (by decide +kernel) prm_7 (by decide +kernel) (by decide +kernel) (by decide +kernel)
  have c1 := cert (N := 107590001) (q := 29) (a := 2) (by decide +kernel) (by decide +kernel) prm_29 (by decide +kernel) (by decide +kernel) (by decide +kernel)
  have c2 := cert (N := 107590001) (q := 53) (a := 2) (by decide +kernel) (by decide +kernel) prm_53 (by decide +kernel) (by decide +kernel) (by decide +kernel)
  exact pock (by decide +kernel) (F := 7 * 29 * 53) (by decide +kernel) (fun r h1 h2 => Nat.Coprime.mul_dvd_of_dvd_of_dvd (by decide +kernel) (Nat.Coprime.mul_dvd_of_dvd_of_dvd (by decide +kernel) (c0 r h1 h2) (c1 r h1 h2)) (c2 r h1 h2))
theorem prm_20113 : Prm 20113 := by
  have c0 := cert (N := 20113) (q := 419) (a := 2) (by decide +kernel) (by decide +kernel) prm_419 (by decide +kernel) (by decide +kernel) (by decide +kernel)
  exact pock (by decide +kernel) (F := 419) (by decide +kernel) c0
theorem prm_1206781 : Prm 1206781 := by
  have c0 := cert (N := 1206781) (q := 20113) (a := 2) (by decide +kernel) (by decide +kernel) prm_20113 (by decide +kernel) (by decide +kernel) (by decide +kernel)
  exact pock (by decide +kernel) (F := 20113) (by decide +kernel) c0
theorem prm_7240687 : Prm 7240687 := by
  have c0 := cert (N := 7240687) (q := 1206781) (a := 2) (by decide +kernel) (by decide +kernel) prm_1206781 (by decide +kernel) (by decide +kernel) (by decide +kernel)
  exact pock (by decide +kernel) (F := 1206781) (by decide +kernel) c0
theorem prm_96557 : Prm 96557 := by
  have c0 := cert (N := 96557) (q := 101) (a := 2) (by decide +kernel) (by decide +kernel) prm_101 (by decide +kernel) (by decide +kernel) (by decide +kernel)
  have c1 := cert (N := 96557) (q := 239) (a := 2) (by decide +kernel) (by decide +kernel) prm_239 (by decide +kernel) (by decide +kernel) (by decide +kernel)
  exact pock (by decide +kernel) (F := 101 * 239) (by decide +kernel) (fun r h1 h2 => Nat.Coprime.mul_dvd_of_dvd_of_dvd (by decide +kernel) (c0 r h1 h2) (c1 r h1 h2))
theorem prm_255515944373312847190720520512484175977 : Prm 255515944373312847190720520512484175977 := by
  have c0 := cert (N := 255515944373312847190720520512484175977) (q := 107590001) (a := 2) (by decide +kernel) (by decide +kernel) prm_107590001 (by decide +kernel) (by decide +kernel) (by decide +kernel)
  have c1 := cert (N := 255515944373312847190720520512484175977) (q := 7240687) (a := 2) (by decide +kernel) (by decide +kernel) prm_7240687 (by decide +kernel) (by decide +kernel) (by decide +kernel)
  have c2 := cert (N := 255515944373312847190720520512484175977) (q := 96557) (a := 2) (by decide +kernel) (by decide +kernel) prm_96557 (by decide +kernel) (by decide +kernel) (by decide +kernel)
  exact pock (by decide +kernel) (F := 107590001 * 7240687 * 96557) (by decide +kernel) (fun r h1 h2 => Nat.Coprime.mul_dvd_of_dvd_of_dvd (by decide +kernel) (Nat.Coprime.mul_dvd_of_dvd_of_dvd (by decide +kernel) (c0 r h1 h2) (c1 r h1 h2)) (c2 r h1 h2))
theorem prm_205115282021455665897114700593932402728804164701536103180137503955397371 : Prm 205115282021455665897114700593932402728804164701536103180137503955397371 := by
  have c0 := cert (N := 205115282021455665897114700593932402728804164701536103180137503955397371) (q := 255515944373312847190720520512484175977) (a := 2) (by decide +kernel) (by decide +kernel) prm_255515944373312847190720520512484175977 (by decide +kernel) (by decide +kernel) (by decide +kernel)
  exact pock (by decide +kernel) (F := 255515944373312847190720520512484175977) (by decide +kernel) c0
theorem prm_115792089237316195423570985008687907853269984665640564039457584007908834671663 : Prm 115792089237316195423570985008687907853269984665640564039457584007908834671663 := by
  have c0 := cert (N := 115792089237316195423570985008687907853269984665640564039457584007908834671663) (q := 205115282021455665897114700593932402728804164701536103180137503955397371) (a := 2) (by decide +kernel) (by decide +kernel) prm_205115282021455665897114700593932402728804164701536103180137503955397371 (by decide +kernel) (by decide +kernel) (by decide +kernel)
  exact pock (by decide +kernel) (F := 205115282021455665897114700593932402728804164701536103180137503955397371) (by decide +kernel) c0
theorem prm_28181 : Prm 28181 := by
  have c0 := cert (N := 28181) (q := 1409) (a := 2) (by decide +kernel) (by decide +kernel) prm_1409 (by decide +kernel) (by decide +kernel) (by decide +kernel)
  exact pock (by decide +kernel) (F := 1409) (by decide +kernel) c0
theorem prm_545358713 : Prm 545358713 := by
  have c0 := cert (N := 545358713) (q := 28181) (a := 2) (by decide +kernel) (by decide +kernel) prm_28181 (by decide +kernel) (by decide +kernel) (by decide +kernel)
  exact pock (by decide +kernel) (F := 28181) (by decide +kernel) c0
theorem prm_1627771 : Prm 1627771 := by
  have c0 := cert (N := 1627771) (q := 1871) (a := 2) (by decide +kernel) (by decide +kernel) prm_1871 (by decide +kernel) (by decide +kernel) (by decide +kernel)
  exact pock (by decide +kernel) (F := 1871) (by decide +kernel) c0
theorem prm_297159362677 : Prm 297159362677 := by
  have c0 := cert (N := 297159362677) (q := 1627771) (a := 2) (by decide +kernel) (by decide +kernel) prm_1627771 (by decide +kernel) (by decide +kernel) (by decide +kernel)
  exact pock (by decide +kernel) (F := 1627771) (by decide +kernel) c0
theorem prm_29047611873442575647497758179 : Prm 29047611873442575647497758179 := by
  have c0 := cert (N := 29047611873442575647497758179) (q := 545358713) (a := 2) (by decide +kernel) (by decide +kernel) prm_545358713 (by decide +kernel) (by decide +kernel) (by decide +kernel)
  have c1 := cert (N := 29047611873442575647497758179) (q := 297159362677) (a := 2) (by decide +kernel) (by decide +kernel) prm_297159362677 (by decide +kernel) (by decide +kernel) (by decide +kernel)
  exact pock (by decide +kernel) (F := 545358713 * 297159362677) (by decide +kernel) (fun r h1 h2 => Nat.Coprime.mul_dvd_of_dvd_of_dvd (by decide +kernel) (c0 r h1 h2) (c1 r h1 h2))
theorem prm_341948486974166000522343609283189 : Prm 341948486974166000522343609283189 := by
  have c0 := cert (N := 341948486974166000522343609283189) (q := 29047611873442575647497758179) (a := 2) (by decide +kernel) (by decide +kernel) prm_29047611873442575647497758179 (by decide +kernel) (by decide +kernel) (by decide +kernel)
  exact pock (by decide +kernel) (F := 29047611873442575647497758179) (by decide +kernel) c0
theorem prm_4681609 : Prm 4681609 := by
  have c0 := cert (N := 4681609) (q := 97) (a := 2) (by decide +kernel) (by decide +kernel) prm_97 (by decide +kernel) (by decide +kernel) (by decide +kernel)
  have c1 := cert (N := 4681609) (q := 2011) (a := 2) (by decide +kernel) (by decide +kernel) prm_2011 (by decide +kernel) (by decide +kernel) (by decide +kernel)
  exact pock (by decide +kernel) (F := 97 * 2011) (by decide +kernel) (fun r h1 h2 => Nat.Coprime.mul_dvd_of_dvd_of_dvd (by decide +kernel) (c0 r h1 h2) (c1 r h1 h2))
theorem prm_85831 : Prm 85831 := by
  have c0 := cert (N := 85831) (q := 2861) (a := 2) (by decide +kernel) (by decide +kernel) prm_2861 (by decide +kernel) (by decide +kernel) (by decide +kernel)
  exact pock (by decide +kernel) (F := 2861) (by decide +kernel) c0
theorem prm_107361793816595537 : Prm 107361793816595537 := by
  have c0 := cert (N := 107361793816595537) (q := 4681609) (a := 2) (by decide +kernel) (by decide +kernel) prm_4681609 (by decide +kernel) (by decide +kernel) (by decide +kernel)
  have c1 := cert (N := 107361793816595537) (q := 85831) (a := 2) (by decide +kernel) (by decide +kernel) prm_85831 (by decide +kernel) (by decide +kernel) (by decide +kernel)
  exact pock (by decide +kernel) (F := 4681609 * 85831) (by decide +kernel) (fun r h1 h2 => Nat.Coprime.mul_dvd_of_dvd_of_dvd (by decide +kernel) (c0 r h1 h2) (c1 r h1 h2))
theorem prm_115792089237316195423570985008687907852837564279074904382605163141518161494337 : Prm 115792089237316195423570985008687907852837564279074904382605163141518161494337 := by
  have c0 := cert (N := 115792089237316195423570985008687907852837564279074904382605163141518161494337) (q := 341948486974166000522343609283189) (a := 2) (by decide +kernel) (by decide +kernel) prm_341948486974166000522343609283189 (by decide +kernel) (by decide +kernel) (by decide +kernel)
  have c1 := cert (N := 115792089237316195423570985008687907852837564279074904382605163141518161494337) (q := 107361793816595537) (a := 2) (by decide +kernel) (by decide +kernel) prm_107361793816595537 (by decide +kernel) (by decide +kernel) (by decide +kernel)
  exact pock (by decide +kernel) (F := 341948486974166000522343609283189 * 107361793816595537) (by decide +kernel) (fun r h1 h2 => Nat.Coprime.mul_dvd_of_dvd_of_dvd (by decide +kernel) (c0 r h1 h2) (c1 r h1 h2))
end Go.Vm
