/- The sums' round and mixing. No condition. -/
import Derived.Test.YtfphibjfddmnlaaKa
set_option maxRecDepth 100000
set_option linter.unusedSimpArgs false
set_option linter.unusedVariables false
namespace Go.Vm
open Go Go.RowKit Go.Proofs

abbrev K25 := Nat → W64
noncomputable def kV (A : K25) : Value := .agg #[.int .u64 (tn (A 0)), .int .u64 (tn (A 1)), .int .u64 (tn (A 2)), .int .u64 (tn (A 3)), .int .u64 (tn (A 4)), .int .u64 (tn (A 5)), .int .u64 (tn (A 6)), .int .u64 (tn (A 7)), .int .u64 (tn (A 8)), .int .u64 (tn (A 9)), .int .u64 (tn (A 10)), .int .u64 (tn (A 11)), .int .u64 (tn (A 12)), .int .u64 (tn (A 13)), .int .u64 (tn (A 14)), .int .u64 (tn (A 15)), .int .u64 (tn (A 16)), .int .u64 (tn (A 17)), .int .u64 (tn (A 18)), .int .u64 (tn (A 19)), .int .u64 (tn (A 20)), .int .u64 (tn (A 21)), .int .u64 (tn (A 22)), .int .u64 (tn (A 23)), .int .u64 (tn (A 24))]
theorem kV_fold (A : K25) : Value.agg #[.int .u64 (tn (A 0)), .int .u64 (tn (A 1)), .int .u64 (tn (A 2)), .int .u64 (tn (A 3)), .int .u64 (tn (A 4)), .int .u64 (tn (A 5)), .int .u64 (tn (A 6)), .int .u64 (tn (A 7)), .int .u64 (tn (A 8)), .int .u64 (tn (A 9)), .int .u64 (tn (A 10)), .int .u64 (tn (A 11)), .int .u64 (tn (A 12)), .int .u64 (tn (A 13)), .int .u64 (tn (A 14)), .int .u64 (tn (A 15)), .int .u64 (tn (A 16)), .int .u64 (tn (A 17)), .int .u64 (tn (A 18)), .int .u64 (tn (A 19)), .int .u64 (tn (A 20)), .int .u64 (tn (A 21)), .int .u64 (tn (A 22)), .int .u64 (tn (A 23)), .int .u64 (tn (A 24))] = kV A := rfl
theorem cells_kV (A : K25) : (kV A).cells = #[.int .u64 (tn (A 0)), .int .u64 (tn (A 1)), .int .u64 (tn (A 2)), .int .u64 (tn (A 3)), .int .u64 (tn (A 4)), .int .u64 (tn (A 5)), .int .u64 (tn (A 6)), .int .u64 (tn (A 7)), .int .u64 (tn (A 8)), .int .u64 (tn (A 9)), .int .u64 (tn (A 10)), .int .u64 (tn (A 11)), .int .u64 (tn (A 12)), .int .u64 (tn (A 13)), .int .u64 (tn (A 14)), .int .u64 (tn (A 15)), .int .u64 (tn (A 16)), .int .u64 (tn (A 17)), .int .u64 (tn (A 18)), .int .u64 (tn (A 19)), .int .u64 (tn (A 20)), .int .u64 (tn (A 21)), .int .u64 (tn (A 22)), .int .u64 (tn (A 23)), .int .u64 (tn (A 24))] := rfl
theorem isNil_kV (A : K25) : isNil (kV A) = false := rfl
theorem kV_inj {A B : K25} (h : kV A = kV B) : ∀ i, i < 25 → A i = B i := by
  unfold kV at h
  simp only [Value.agg.injEq, Array.mk.injEq, List.cons.injEq, Value.int.injEq, true_and, and_true] at h
  obtain ⟨h0, h1, h2, h3, h4, h5, h6, h7, h8, h9, h10, h11, h12, h13, h14, h15, h16, h17, h18, h19, h20, h21, h22, h23, h24⟩ := h
  intro i hi
  by_cases e0 : i = 0
  · subst e0; exact tn_inj h0
  by_cases e1 : i = 1
  · subst e1; exact tn_inj h1
  by_cases e2 : i = 2
  · subst e2; exact tn_inj h2
  by_cases e3 : i = 3
  · subst e3; exact tn_inj h3
  by_cases e4 : i = 4
  · subst e4; exact tn_inj h4
  by_cases e5 : i = 5
  · subst e5; exact tn_inj h5
  by_cases e6 : i = 6
  · subst e6; exact tn_inj h6
  by_cases e7 : i = 7
  · subst e7; exact tn_inj h7
  by_cases e8 : i = 8
  · subst e8; exact tn_inj h8
  by_cases e9 : i = 9
  · subst e9; exact tn_inj h9
  by_cases e10 : i = 10
  · subst e10; exact tn_inj h10
  by_cases e11 : i = 11
  · subst e11; exact tn_inj h11
  by_cases e12 : i = 12
  · subst e12; exact tn_inj h12
  by_cases e13 : i = 13
  · subst e13; exact tn_inj h13
  by_cases e14 : i = 14
  · subst e14; exact tn_inj h14
  by_cases e15 : i = 15
  · subst e15; exact tn_inj h15
  by_cases e16 : i = 16
  · subst e16; exact tn_inj h16
  by_cases e17 : i = 17
  · subst e17; exact tn_inj h17
  by_cases e18 : i = 18
  · subst e18; exact tn_inj h18
  by_cases e19 : i = 19
  · subst e19; exact tn_inj h19
  by_cases e20 : i = 20
  · subst e20; exact tn_inj h20
  by_cases e21 : i = 21
  · subst e21; exact tn_inj h21
  by_cases e22 : i = 22
  · subst e22; exact tn_inj h22
  by_cases e23 : i = 23
  · subst e23; exact tn_inj h23
  by_cases e24 : i = 24
  · subst e24; exact tn_inj h24
  omega
theorem kV_eq {A B : K25} (h : ∀ i, i < 25 → A i = B i) : kV A = kV B := by
  unfold kV
  rw [h 0 (by omega), h 1 (by omega), h 2 (by omega), h 3 (by omega), h 4 (by omega), h 5 (by omega), h 6 (by omega), h 7 (by omega), h 8 (by omega), h 9 (by omega), h 10 (by omega), h 11 (by omega), h 12 (by omega), h 13 (by omega), h 14 (by omega), h 15 (by omega), h 16 (by omega), h 17 (by omega), h 18 (by omega), h 19 (by omega), h 20 (by omega), h 21 (by omega), h 22 (by omega), h 23 (by omega), h 24 (by omega)]
noncomputable def cut : K25 → K25 := Classical.choose (⟨fun (A : K25) (i : Nat) => if i < 25 then A i else (0 : W64), rfl⟩ : ∃ y : K25 → K25, y = fun (A : K25) (i : Nat) => if i < 25 then A i else (0 : W64))
theorem cut_eq : cut = fun (A : K25) (i : Nat) => if i < 25 then A i else (0 : W64) := Classical.choose_spec (⟨fun (A : K25) (i : Nat) => if i < 25 then A i else (0 : W64), rfl⟩ : ∃ y : K25 → K25, y = fun (A : K25) (i : Nat) => if i < 25 then A i else (0 : W64))
theorem cut_at (A : K25) {i : Nat} (h : i < 25) : cut A i = A i := by rw [cut_eq]; exact if_pos h
theorem kV_cut (A : K25) : kV (cut A) = kV A := kV_eq fun i h => cut_at A h
theorem cut_of {A B : K25} (h : ∀ i, i < 25 → A i = B i) : cut A = cut B := by
  rw [cut_eq]
  funext i
  simp only
  split
  · exact h i ‹_›
  · rfl
noncomputable def toK : Value → Option K25 := Classical.choose (⟨_, rfl⟩ : ∃ f : Value → Option K25, f = fun v => @dite _ (∃ A, v = kV A) (Classical.propDecidable _) (fun h => some (cut h.choose)) (fun _ => none))
theorem toK_def : toK = fun v => @dite _ (∃ A, v = kV A) (Classical.propDecidable _) (fun h => some (cut h.choose)) (fun _ => none) := Classical.choose_spec (⟨_, rfl⟩ : ∃ f : Value → Option K25, f = fun v => @dite _ (∃ A, v = kV A) (Classical.propDecidable _) (fun h => some (cut h.choose)) (fun _ => none))
theorem toK_kV (A : K25) : toK (kV A) = some (cut A) := by
  rw [toK_def]
  have h : ∃ B, kV A = kV B := ⟨A, rfl⟩
  simp only
  rw [dif_pos h]
  congr 1
  exact cut_of fun i hi => (kV_inj h.choose_spec i hi).symm
theorem toK_eq {v : Value} {A : K25} (h : toK v = some A) : v = kV A ∧ A = cut A := by
  rw [toK_def] at h
  simp only at h
  split at h
  · rename_i hc
    cases h
    exact ⟨by rw [kV_cut]; exact hc.choose_spec, cut_of fun i hi => (cut_at _ hi).symm⟩
  · cases h

noncomputable def byT : Nat → Nat := Classical.choose (⟨fun i => ([0, 1, 62, 28, 27, 36, 44, 6, 55, 20, 3, 10, 43, 25, 39, 41, 45, 15, 21, 8, 18, 2, 61, 56, 14] : List Nat).getD i 0, rfl⟩ : ∃ y : Nat → Nat, y = fun i => ([0, 1, 62, 28, 27, 36, 44, 6, 55, 20, 3, 10, 43, 25, 39, 41, 45, 15, 21, 8, 18, 2, 61, 56, 14] : List Nat).getD i 0)
theorem byT_eq : byT = fun i => ([0, 1, 62, 28, 27, 36, 44, 6, 55, 20, 3, 10, 43, 25, 39, 41, 45, 15, 21, 8, 18, 2, 61, 56, 14] : List Nat).getD i 0 := Classical.choose_spec (⟨fun i => ([0, 1, 62, 28, 27, 36, 44, 6, 55, 20, 3, 10, 43, 25, 39, 41, 45, 15, 21, 8, 18, 2, 61, 56, 14] : List Nat).getD i 0, rfl⟩ : ∃ y : Nat → Nat, y = fun i => ([0, 1, 62, 28, 27, 36, 44, 6, 55, 20, 3, 10, 43, 25, 39, 41, 45, 15, 21, 8, 18, 2, 61, 56, 14] : List Nat).getD i 0)
theorem byT_0 : byT 0 = 0 := by rw [byT_eq]; rfl
theorem byT_1 : byT 1 = 1 := by rw [byT_eq]; rfl
theorem byT_2 : byT 2 = 62 := by rw [byT_eq]; rfl
theorem byT_3 : byT 3 = 28 := by rw [byT_eq]; rfl
theorem byT_4 : byT 4 = 27 := by rw [byT_eq]; rfl
theorem byT_5 : byT 5 = 36 := by rw [byT_eq]; rfl
theorem byT_6 : byT 6 = 44 := by rw [byT_eq]; rfl
theorem byT_7 : byT 7 = 6 := by rw [byT_eq]; rfl
theorem byT_8 : byT 8 = 55 := by rw [byT_eq]; rfl
theorem byT_9 : byT 9 = 20 := by rw [byT_eq]; rfl
theorem byT_10 : byT 10 = 3 := by rw [byT_eq]; rfl
theorem byT_11 : byT 11 = 10 := by rw [byT_eq]; rfl
theorem byT_12 : byT 12 = 43 := by rw [byT_eq]; rfl
theorem byT_13 : byT 13 = 25 := by rw [byT_eq]; rfl
theorem byT_14 : byT 14 = 39 := by rw [byT_eq]; rfl
theorem byT_15 : byT 15 = 41 := by rw [byT_eq]; rfl
theorem byT_16 : byT 16 = 45 := by rw [byT_eq]; rfl
theorem byT_17 : byT 17 = 15 := by rw [byT_eq]; rfl
theorem byT_18 : byT 18 = 21 := by rw [byT_eq]; rfl
theorem byT_19 : byT 19 = 8 := by rw [byT_eq]; rfl
theorem byT_20 : byT 20 = 18 := by rw [byT_eq]; rfl
theorem byT_21 : byT 21 = 2 := by rw [byT_eq]; rfl
theorem byT_22 : byT 22 = 61 := by rw [byT_eq]; rfl
theorem byT_23 : byT 23 = 56 := by rw [byT_eq]; rfl
theorem byT_24 : byT 24 = 14 := by rw [byT_eq]; rfl
noncomputable def srT : Nat → Nat := Classical.choose (⟨fun i => ([0, 6, 12, 18, 24, 3, 9, 10, 16, 22, 1, 7, 13, 19, 20, 4, 5, 11, 17, 23, 2, 8, 14, 15, 21] : List Nat).getD i 0, rfl⟩ : ∃ y : Nat → Nat, y = fun i => ([0, 6, 12, 18, 24, 3, 9, 10, 16, 22, 1, 7, 13, 19, 20, 4, 5, 11, 17, 23, 2, 8, 14, 15, 21] : List Nat).getD i 0)
theorem srT_eq : srT = fun i => ([0, 6, 12, 18, 24, 3, 9, 10, 16, 22, 1, 7, 13, 19, 20, 4, 5, 11, 17, 23, 2, 8, 14, 15, 21] : List Nat).getD i 0 := Classical.choose_spec (⟨fun i => ([0, 6, 12, 18, 24, 3, 9, 10, 16, 22, 1, 7, 13, 19, 20, 4, 5, 11, 17, 23, 2, 8, 14, 15, 21] : List Nat).getD i 0, rfl⟩ : ∃ y : Nat → Nat, y = fun i => ([0, 6, 12, 18, 24, 3, 9, 10, 16, 22, 1, 7, 13, 19, 20, 4, 5, 11, 17, 23, 2, 8, 14, 15, 21] : List Nat).getD i 0)
theorem srT_0 : srT 0 = 0 := by rw [srT_eq]; rfl
theorem srT_1 : srT 1 = 6 := by rw [srT_eq]; rfl
theorem srT_2 : srT 2 = 12 := by rw [srT_eq]; rfl
theorem srT_3 : srT 3 = 18 := by rw [srT_eq]; rfl
theorem srT_4 : srT 4 = 24 := by rw [srT_eq]; rfl
theorem srT_5 : srT 5 = 3 := by rw [srT_eq]; rfl
theorem srT_6 : srT 6 = 9 := by rw [srT_eq]; rfl
theorem srT_7 : srT 7 = 10 := by rw [srT_eq]; rfl
theorem srT_8 : srT 8 = 16 := by rw [srT_eq]; rfl
theorem srT_9 : srT 9 = 22 := by rw [srT_eq]; rfl
theorem srT_10 : srT 10 = 1 := by rw [srT_eq]; rfl
theorem srT_11 : srT 11 = 7 := by rw [srT_eq]; rfl
theorem srT_12 : srT 12 = 13 := by rw [srT_eq]; rfl
theorem srT_13 : srT 13 = 19 := by rw [srT_eq]; rfl
theorem srT_14 : srT 14 = 20 := by rw [srT_eq]; rfl
theorem srT_15 : srT 15 = 4 := by rw [srT_eq]; rfl
theorem srT_16 : srT 16 = 5 := by rw [srT_eq]; rfl
theorem srT_17 : srT 17 = 11 := by rw [srT_eq]; rfl
theorem srT_18 : srT 18 = 17 := by rw [srT_eq]; rfl
theorem srT_19 : srT 19 = 23 := by rw [srT_eq]; rfl
theorem srT_20 : srT 20 = 2 := by rw [srT_eq]; rfl
theorem srT_21 : srT 21 = 8 := by rw [srT_eq]; rfl
theorem srT_22 : srT 22 = 14 := by rw [srT_eq]; rfl
theorem srT_23 : srT 23 = 15 := by rw [srT_eq]; rfl
theorem srT_24 : srT 24 = 21 := by rw [srT_eq]; rfl
noncomputable def rcT : Nat → Int := Classical.choose (⟨fun i => ([1, 32898, 9223372036854808714, 9223372039002292224, 32907, 2147483649, 9223372039002292353, 9223372036854808585, 138, 136, 2147516425, 2147483658, 2147516555, 9223372036854775947, 9223372036854808713, 9223372036854808579, 9223372036854808578, 9223372036854775936, 32778, 9223372039002259466, 9223372039002292353, 9223372036854808704, 2147483649, 9223372039002292232] : List Int).getD i 0, rfl⟩ : ∃ y : Nat → Int, y = fun i => ([1, 32898, 9223372036854808714, 9223372039002292224, 32907, 2147483649, 9223372039002292353, 9223372036854808585, 138, 136, 2147516425, 2147483658, 2147516555, 9223372036854775947, 9223372036854808713, 9223372036854808579, 9223372036854808578, 9223372036854775936, 32778, 9223372039002259466, 9223372039002292353, 9223372036854808704, 2147483649, 9223372039002292232] : List Int).getD i 0)
theorem rcT_eq : rcT = fun i => ([1, 32898, 9223372036854808714, 9223372039002292224, 32907, 2147483649, 9223372039002292353, 9223372036854808585, 138, 136, 2147516425, 2147483658, 2147516555, 9223372036854775947, 9223372036854808713, 9223372036854808579, 9223372036854808578, 9223372036854775936, 32778, 9223372039002259466, 9223372039002292353, 9223372036854808704, 2147483649, 9223372039002292232] : List Int).getD i 0 := Classical.choose_spec (⟨fun i => ([1, 32898, 9223372036854808714, 9223372039002292224, 32907, 2147483649, 9223372039002292353, 9223372036854808585, 138, 136, 2147516425, 2147483658, 2147516555, 9223372036854775947, 9223372036854808713, 9223372036854808579, 9223372036854808578, 9223372036854775936, 32778, 9223372039002259466, 9223372039002292353, 9223372036854808704, 2147483649, 9223372039002292232] : List Int).getD i 0, rfl⟩ : ∃ y : Nat → Int, y = fun i => ([1, 32898, 9223372036854808714, 9223372039002292224, 32907, 2147483649, 9223372039002292353, 9223372036854808585, 138, 136, 2147516425, 2147483658, 2147516555, 9223372036854775947, 9223372036854808713, 9223372036854808579, 9223372036854808578, 9223372036854775936, 32778, 9223372039002259466, 9223372039002292353, 9223372036854808704, 2147483649, 9223372039002292232] : List Int).getD i 0)
theorem rcT_0 : rcT 0 = 1 := by rw [rcT_eq]; rfl
theorem rcT_1 : rcT 1 = 32898 := by rw [rcT_eq]; rfl
theorem rcT_2 : rcT 2 = 9223372036854808714 := by rw [rcT_eq]; rfl
theorem rcT_3 : rcT 3 = 9223372039002292224 := by rw [rcT_eq]; rfl
theorem rcT_4 : rcT 4 = 32907 := by rw [rcT_eq]; rfl
theorem rcT_5 : rcT 5 = 2147483649 := by rw [rcT_eq]; rfl
theorem rcT_6 : rcT 6 = 9223372039002292353 := by rw [rcT_eq]; rfl
theorem rcT_7 : rcT 7 = 9223372036854808585 := by rw [rcT_eq]; rfl
theorem rcT_8 : rcT 8 = 138 := by rw [rcT_eq]; rfl
theorem rcT_9 : rcT 9 = 136 := by rw [rcT_eq]; rfl
theorem rcT_10 : rcT 10 = 2147516425 := by rw [rcT_eq]; rfl
theorem rcT_11 : rcT 11 = 2147483658 := by rw [rcT_eq]; rfl
theorem rcT_12 : rcT 12 = 2147516555 := by rw [rcT_eq]; rfl
theorem rcT_13 : rcT 13 = 9223372036854775947 := by rw [rcT_eq]; rfl
theorem rcT_14 : rcT 14 = 9223372036854808713 := by rw [rcT_eq]; rfl
theorem rcT_15 : rcT 15 = 9223372036854808579 := by rw [rcT_eq]; rfl
theorem rcT_16 : rcT 16 = 9223372036854808578 := by rw [rcT_eq]; rfl
theorem rcT_17 : rcT 17 = 9223372036854775936 := by rw [rcT_eq]; rfl
theorem rcT_18 : rcT 18 = 32778 := by rw [rcT_eq]; rfl
theorem rcT_19 : rcT 19 = 9223372039002259466 := by rw [rcT_eq]; rfl
theorem rcT_20 : rcT 20 = 9223372039002292353 := by rw [rcT_eq]; rfl
theorem rcT_21 : rcT 21 = 9223372036854808704 := by rw [rcT_eq]; rfl
theorem rcT_22 : rcT 22 = 2147483649 := by rw [rcT_eq]; rfl
theorem rcT_23 : rcT 23 = 9223372039002292232 := by rw [rcT_eq]; rfl
noncomputable def kC : K25 → Nat → W64 := Classical.choose (⟨fun (A : K25) (x : Nat) => A x ^^^ A (x + 5) ^^^ A (x + 10) ^^^ A (x + 15) ^^^ A (x + 20), rfl⟩ : ∃ y : K25 → Nat → W64, y = fun (A : K25) (x : Nat) => A x ^^^ A (x + 5) ^^^ A (x + 10) ^^^ A (x + 15) ^^^ A (x + 20))
theorem kC_eq : kC = fun (A : K25) (x : Nat) => A x ^^^ A (x + 5) ^^^ A (x + 10) ^^^ A (x + 15) ^^^ A (x + 20) := Classical.choose_spec (⟨fun (A : K25) (x : Nat) => A x ^^^ A (x + 5) ^^^ A (x + 10) ^^^ A (x + 15) ^^^ A (x + 20), rfl⟩ : ∃ y : K25 → Nat → W64, y = fun (A : K25) (x : Nat) => A x ^^^ A (x + 5) ^^^ A (x + 10) ^^^ A (x + 15) ^^^ A (x + 20))
noncomputable def kD : K25 → Nat → W64 := Classical.choose (⟨fun (A : K25) (x : Nat) => kC A ((x + 4) % 5) ^^^ rol (kC A ((x + 1) % 5)) 1, rfl⟩ : ∃ y : K25 → Nat → W64, y = fun (A : K25) (x : Nat) => kC A ((x + 4) % 5) ^^^ rol (kC A ((x + 1) % 5)) 1)
theorem kD_eq : kD = fun (A : K25) (x : Nat) => kC A ((x + 4) % 5) ^^^ rol (kC A ((x + 1) % 5)) 1 := Classical.choose_spec (⟨fun (A : K25) (x : Nat) => kC A ((x + 4) % 5) ^^^ rol (kC A ((x + 1) % 5)) 1, rfl⟩ : ∃ y : K25 → Nat → W64, y = fun (A : K25) (x : Nat) => kC A ((x + 4) % 5) ^^^ rol (kC A ((x + 1) % 5)) 1)
noncomputable def kB : K25 → Nat → W64 := Classical.choose (⟨fun (A : K25) (j : Nat) => rol (A (srT j) ^^^ kD A (srT j % 5)) (byT (srT j)), rfl⟩ : ∃ y : K25 → Nat → W64, y = fun (A : K25) (j : Nat) => rol (A (srT j) ^^^ kD A (srT j % 5)) (byT (srT j)))
theorem kB_eq : kB = fun (A : K25) (j : Nat) => rol (A (srT j) ^^^ kD A (srT j % 5)) (byT (srT j)) := Classical.choose_spec (⟨fun (A : K25) (j : Nat) => rol (A (srT j) ^^^ kD A (srT j % 5)) (byT (srT j)), rfl⟩ : ∃ y : K25 → Nat → W64, y = fun (A : K25) (j : Nat) => rol (A (srT j) ^^^ kD A (srT j % 5)) (byT (srT j)))
noncomputable def kE : K25 → Nat → W64 := Classical.choose (⟨fun (A : K25) (i : Nat) => kB A i ^^^ ~~~(kB A (i / 5 * 5 + (i + 1) % 5)) &&& kB A (i / 5 * 5 + (i + 2) % 5), rfl⟩ : ∃ y : K25 → Nat → W64, y = fun (A : K25) (i : Nat) => kB A i ^^^ ~~~(kB A (i / 5 * 5 + (i + 1) % 5)) &&& kB A (i / 5 * 5 + (i + 2) % 5))
theorem kE_eq : kE = fun (A : K25) (i : Nat) => kB A i ^^^ ~~~(kB A (i / 5 * 5 + (i + 1) % 5)) &&& kB A (i / 5 * 5 + (i + 2) % 5) := Classical.choose_spec (⟨fun (A : K25) (i : Nat) => kB A i ^^^ ~~~(kB A (i / 5 * 5 + (i + 1) % 5)) &&& kB A (i / 5 * 5 + (i + 2) % 5), rfl⟩ : ∃ y : K25 → Nat → W64, y = fun (A : K25) (i : Nat) => kB A i ^^^ ~~~(kB A (i / 5 * 5 + (i + 1) % 5)) &&& kB A (i / 5 * 5 + (i + 2) % 5))
noncomputable def rnd : K25 → W64 → K25 := Classical.choose (⟨fun (A : K25) (c : W64) (i : Nat) => if i = 0 then kE A 0 ^^^ c else if i < 25 then kE A i else 0, rfl⟩ : ∃ y : K25 → W64 → K25, y = fun (A : K25) (c : W64) (i : Nat) => if i = 0 then kE A 0 ^^^ c else if i < 25 then kE A i else 0)
theorem rnd_eq : rnd = fun (A : K25) (c : W64) (i : Nat) => if i = 0 then kE A 0 ^^^ c else if i < 25 then kE A i else 0 := Classical.choose_spec (⟨fun (A : K25) (c : W64) (i : Nat) => if i = 0 then kE A 0 ^^^ c else if i < 25 then kE A i else 0, rfl⟩ : ∃ y : K25 → W64 → K25, y = fun (A : K25) (c : W64) (i : Nat) => if i = 0 then kE A 0 ^^^ c else if i < 25 then kE A i else 0)
theorem fC0 (A : K25) : A 0 ^^^ A 5 ^^^ A 10 ^^^ A 15 ^^^ A 20 = kC A 0 := by rw [kC_eq]
theorem fC1 (A : K25) : A 1 ^^^ A 6 ^^^ A 11 ^^^ A 16 ^^^ A 21 = kC A 1 := by rw [kC_eq]
theorem fC2 (A : K25) : A 2 ^^^ A 7 ^^^ A 12 ^^^ A 17 ^^^ A 22 = kC A 2 := by rw [kC_eq]
theorem fC3 (A : K25) : A 3 ^^^ A 8 ^^^ A 13 ^^^ A 18 ^^^ A 23 = kC A 3 := by rw [kC_eq]
theorem fC4 (A : K25) : A 4 ^^^ A 9 ^^^ A 14 ^^^ A 19 ^^^ A 24 = kC A 4 := by rw [kC_eq]
theorem fD0 (A : K25) : kC A 4 ^^^ rol (kC A 1) 1 = kD A 0 := by rw [kD_eq]
theorem fD1 (A : K25) : kC A 0 ^^^ rol (kC A 2) 1 = kD A 1 := by rw [kD_eq]
theorem fD2 (A : K25) : kC A 1 ^^^ rol (kC A 3) 1 = kD A 2 := by rw [kD_eq]
theorem fD3 (A : K25) : kC A 2 ^^^ rol (kC A 4) 1 = kD A 3 := by rw [kD_eq]
theorem fD4 (A : K25) : kC A 3 ^^^ rol (kC A 0) 1 = kD A 4 := by rw [kD_eq]
theorem fB0 (A : K25) : rol (A 0 ^^^ kD A 0) 0 = kB A 0 := by simp only [kB_eq, srT_0, byT_0, Nat.reduceMod]
theorem fB1 (A : K25) : rol (A 1 ^^^ kD A 1) 1 = kB A 10 := by simp only [kB_eq, srT_10, byT_1, Nat.reduceMod]
theorem fB2 (A : K25) : rol (A 2 ^^^ kD A 2) 62 = kB A 20 := by simp only [kB_eq, srT_20, byT_2, Nat.reduceMod]
theorem fB3 (A : K25) : rol (A 3 ^^^ kD A 3) 28 = kB A 5 := by simp only [kB_eq, srT_5, byT_3, Nat.reduceMod]
theorem fB4 (A : K25) : rol (A 4 ^^^ kD A 4) 27 = kB A 15 := by simp only [kB_eq, srT_15, byT_4, Nat.reduceMod]
theorem fB5 (A : K25) : rol (A 5 ^^^ kD A 0) 36 = kB A 16 := by simp only [kB_eq, srT_16, byT_5, Nat.reduceMod]
theorem fB6 (A : K25) : rol (A 6 ^^^ kD A 1) 44 = kB A 1 := by simp only [kB_eq, srT_1, byT_6, Nat.reduceMod]
theorem fB7 (A : K25) : rol (A 7 ^^^ kD A 2) 6 = kB A 11 := by simp only [kB_eq, srT_11, byT_7, Nat.reduceMod]
theorem fB8 (A : K25) : rol (A 8 ^^^ kD A 3) 55 = kB A 21 := by simp only [kB_eq, srT_21, byT_8, Nat.reduceMod]
theorem fB9 (A : K25) : rol (A 9 ^^^ kD A 4) 20 = kB A 6 := by simp only [kB_eq, srT_6, byT_9, Nat.reduceMod]
theorem fB10 (A : K25) : rol (A 10 ^^^ kD A 0) 3 = kB A 7 := by simp only [kB_eq, srT_7, byT_10, Nat.reduceMod]
theorem fB11 (A : K25) : rol (A 11 ^^^ kD A 1) 10 = kB A 17 := by simp only [kB_eq, srT_17, byT_11, Nat.reduceMod]
theorem fB12 (A : K25) : rol (A 12 ^^^ kD A 2) 43 = kB A 2 := by simp only [kB_eq, srT_2, byT_12, Nat.reduceMod]
theorem fB13 (A : K25) : rol (A 13 ^^^ kD A 3) 25 = kB A 12 := by simp only [kB_eq, srT_12, byT_13, Nat.reduceMod]
theorem fB14 (A : K25) : rol (A 14 ^^^ kD A 4) 39 = kB A 22 := by simp only [kB_eq, srT_22, byT_14, Nat.reduceMod]
theorem fB15 (A : K25) : rol (A 15 ^^^ kD A 0) 41 = kB A 23 := by simp only [kB_eq, srT_23, byT_15, Nat.reduceMod]
theorem fB16 (A : K25) : rol (A 16 ^^^ kD A 1) 45 = kB A 8 := by simp only [kB_eq, srT_8, byT_16, Nat.reduceMod]
theorem fB17 (A : K25) : rol (A 17 ^^^ kD A 2) 15 = kB A 18 := by simp only [kB_eq, srT_18, byT_17, Nat.reduceMod]
theorem fB18 (A : K25) : rol (A 18 ^^^ kD A 3) 21 = kB A 3 := by simp only [kB_eq, srT_3, byT_18, Nat.reduceMod]
theorem fB19 (A : K25) : rol (A 19 ^^^ kD A 4) 8 = kB A 13 := by simp only [kB_eq, srT_13, byT_19, Nat.reduceMod]
theorem fB20 (A : K25) : rol (A 20 ^^^ kD A 0) 18 = kB A 14 := by simp only [kB_eq, srT_14, byT_20, Nat.reduceMod]
theorem fB21 (A : K25) : rol (A 21 ^^^ kD A 1) 2 = kB A 24 := by simp only [kB_eq, srT_24, byT_21, Nat.reduceMod]
theorem fB22 (A : K25) : rol (A 22 ^^^ kD A 2) 61 = kB A 9 := by simp only [kB_eq, srT_9, byT_22, Nat.reduceMod]
theorem fB23 (A : K25) : rol (A 23 ^^^ kD A 3) 56 = kB A 19 := by simp only [kB_eq, srT_19, byT_23, Nat.reduceMod]
theorem fB24 (A : K25) : rol (A 24 ^^^ kD A 4) 14 = kB A 4 := by simp only [kB_eq, srT_4, byT_24, Nat.reduceMod]
theorem fE0 (A : K25) : kB A 0 ^^^ ~~~(kB A 1) &&& kB A 2 = kE A 0 := by rw [kE_eq]
theorem fE1 (A : K25) : kB A 1 ^^^ ~~~(kB A 2) &&& kB A 3 = kE A 1 := by rw [kE_eq]
theorem fE2 (A : K25) : kB A 2 ^^^ ~~~(kB A 3) &&& kB A 4 = kE A 2 := by rw [kE_eq]
theorem fE3 (A : K25) : kB A 3 ^^^ ~~~(kB A 4) &&& kB A 0 = kE A 3 := by rw [kE_eq]
theorem fE4 (A : K25) : kB A 4 ^^^ ~~~(kB A 0) &&& kB A 1 = kE A 4 := by rw [kE_eq]
theorem fE5 (A : K25) : kB A 5 ^^^ ~~~(kB A 6) &&& kB A 7 = kE A 5 := by rw [kE_eq]
theorem fE6 (A : K25) : kB A 6 ^^^ ~~~(kB A 7) &&& kB A 8 = kE A 6 := by rw [kE_eq]
theorem fE7 (A : K25) : kB A 7 ^^^ ~~~(kB A 8) &&& kB A 9 = kE A 7 := by rw [kE_eq]
theorem fE8 (A : K25) : kB A 8 ^^^ ~~~(kB A 9) &&& kB A 5 = kE A 8 := by rw [kE_eq]
theorem fE9 (A : K25) : kB A 9 ^^^ ~~~(kB A 5) &&& kB A 6 = kE A 9 := by rw [kE_eq]
theorem fE10 (A : K25) : kB A 10 ^^^ ~~~(kB A 11) &&& kB A 12 = kE A 10 := by rw [kE_eq]
theorem fE11 (A : K25) : kB A 11 ^^^ ~~~(kB A 12) &&& kB A 13 = kE A 11 := by rw [kE_eq]
theorem fE12 (A : K25) : kB A 12 ^^^ ~~~(kB A 13) &&& kB A 14 = kE A 12 := by rw [kE_eq]
theorem fE13 (A : K25) : kB A 13 ^^^ ~~~(kB A 14) &&& kB A 10 = kE A 13 := by rw [kE_eq]
theorem fE14 (A : K25) : kB A 14 ^^^ ~~~(kB A 10) &&& kB A 11 = kE A 14 := by rw [kE_eq]
theorem fE15 (A : K25) : kB A 15 ^^^ ~~~(kB A 16) &&& kB A 17 = kE A 15 := by rw [kE_eq]
theorem fE16 (A : K25) : kB A 16 ^^^ ~~~(kB A 17) &&& kB A 18 = kE A 16 := by rw [kE_eq]
theorem fE17 (A : K25) : kB A 17 ^^^ ~~~(kB A 18) &&& kB A 19 = kE A 17 := by rw [kE_eq]
theorem fE18 (A : K25) : kB A 18 ^^^ ~~~(kB A 19) &&& kB A 15 = kE A 18 := by rw [kE_eq]
theorem fE19 (A : K25) : kB A 19 ^^^ ~~~(kB A 15) &&& kB A 16 = kE A 19 := by rw [kE_eq]
theorem fE20 (A : K25) : kB A 20 ^^^ ~~~(kB A 21) &&& kB A 22 = kE A 20 := by rw [kE_eq]
theorem fE21 (A : K25) : kB A 21 ^^^ ~~~(kB A 22) &&& kB A 23 = kE A 21 := by rw [kE_eq]
theorem fE22 (A : K25) : kB A 22 ^^^ ~~~(kB A 23) &&& kB A 24 = kE A 22 := by rw [kE_eq]
theorem fE23 (A : K25) : kB A 23 ^^^ ~~~(kB A 24) &&& kB A 20 = kE A 23 := by rw [kE_eq]
theorem fE24 (A : K25) : kB A 24 ^^^ ~~~(kB A 20) &&& kB A 21 = kE A 24 := by rw [kE_eq]
theorem rnd_0 (A : K25) (c : W64) : rnd A c 0 = kE A 0 ^^^ c := by rw [rnd_eq]; rfl
theorem rnd_1 (A : K25) (c : W64) : rnd A c 1 = kE A 1 := by rw [rnd_eq]; rfl
theorem rnd_2 (A : K25) (c : W64) : rnd A c 2 = kE A 2 := by rw [rnd_eq]; rfl
theorem rnd_3 (A : K25) (c : W64) : rnd A c 3 = kE A 3 := by rw [rnd_eq]; rfl
theorem rnd_4 (A : K25) (c : W64) : rnd A c 4 = kE A 4 := by rw [rnd_eq]; rfl
theorem rnd_5 (A : K25) (c : W64) : rnd A c 5 = kE A 5 := by rw [rnd_eq]; rfl
theorem rnd_6 (A : K25) (c : W64) : rnd A c 6 = kE A 6 := by rw [rnd_eq]; rfl
theorem rnd_7 (A : K25) (c : W64) : rnd A c 7 = kE A 7 := by rw [rnd_eq]; rfl
theorem rnd_8 (A : K25) (c : W64) : rnd A c 8 = kE A 8 := by rw [rnd_eq]; rfl
theorem rnd_9 (A : K25) (c : W64) : rnd A c 9 = kE A 9 := by rw [rnd_eq]; rfl
theorem rnd_10 (A : K25) (c : W64) : rnd A c 10 = kE A 10 := by rw [rnd_eq]; rfl
theorem rnd_11 (A : K25) (c : W64) : rnd A c 11 = kE A 11 := by rw [rnd_eq]; rfl
theorem rnd_12 (A : K25) (c : W64) : rnd A c 12 = kE A 12 := by rw [rnd_eq]; rfl
theorem rnd_13 (A : K25) (c : W64) : rnd A c 13 = kE A 13 := by rw [rnd_eq]; rfl
theorem rnd_14 (A : K25) (c : W64) : rnd A c 14 = kE A 14 := by rw [rnd_eq]; rfl
theorem rnd_15 (A : K25) (c : W64) : rnd A c 15 = kE A 15 := by rw [rnd_eq]; rfl
theorem rnd_16 (A : K25) (c : W64) : rnd A c 16 = kE A 16 := by rw [rnd_eq]; rfl
theorem rnd_17 (A : K25) (c : W64) : rnd A c 17 = kE A 17 := by rw [rnd_eq]; rfl
theorem rnd_18 (A : K25) (c : W64) : rnd A c 18 = kE A 18 := by rw [rnd_eq]; rfl
theorem rnd_19 (A : K25) (c : W64) : rnd A c 19 = kE A 19 := by rw [rnd_eq]; rfl
theorem rnd_20 (A : K25) (c : W64) : rnd A c 20 = kE A 20 := by rw [rnd_eq]; rfl
theorem rnd_21 (A : K25) (c : W64) : rnd A c 21 = kE A 21 := by rw [rnd_eq]; rfl
theorem rnd_22 (A : K25) (c : W64) : rnd A c 22 = kE A 22 := by rw [rnd_eq]; rfl
theorem rnd_23 (A : K25) (c : W64) : rnd A c 23 = kE A 23 := by rw [rnd_eq]; rfl
theorem rnd_24 (A : K25) (c : W64) : rnd A c 24 = kE A 24 := by rw [rnd_eq]; rfl

theorem kC_cut (A : K25) {x : Nat} (h : x < 5) : kC (cut A) x = kC A x := by
  rw [kC_eq]
  simp only
  rw [cut_at A (show x < 25 by omega), cut_at A (show x + 5 < 25 by omega), cut_at A (show x + 10 < 25 by omega), cut_at A (show x + 15 < 25 by omega), cut_at A (show x + 20 < 25 by omega)]
theorem kD_cut (A : K25) (x : Nat) : kD (cut A) x = kD A x := by
  rw [kD_eq]
  simp only
  rw [kC_cut A (Nat.mod_lt _ (by omega)), kC_cut A (Nat.mod_lt _ (by omega))]
theorem srT_lt (j : Nat) : srT j < 25 := by
  rw [srT_eq]
  by_cases h : j < 25
  · simp only
    have : ∀ j, j < 25 → ([0, 6, 12, 18, 24, 3, 9, 10, 16, 22, 1, 7, 13, 19, 20, 4, 5, 11, 17, 23, 2, 8, 14, 15, 21] : List Nat).getD j 0 < 25 := by decide
    exact this j h
  · simp only
    rw [List.getD_eq_getElem?_getD, List.getElem?_eq_none (by simp; omega)]
    decide
theorem kB_cut (A : K25) (j : Nat) : kB (cut A) j = kB A j := by
  rw [kB_eq]
  simp only
  rw [cut_at A (srT_lt j), kD_cut]
theorem kE_cut (A : K25) (j : Nat) : kE (cut A) j = kE A j := by
  rw [kE_eq]
  simp only [kB_cut]
theorem rnd_cut (A : K25) (c : W64) : rnd (cut A) c = rnd A c := by
  rw [rnd_eq]
  simp only [kE_cut]

noncomputable def isT : Value → Value → Bool := Classical.choose (⟨_, rfl⟩ : ∃ f : Value → Value → Bool, f = fun v u => @decide (v = byV ∧ u = toV) (Classical.propDecidable _))
theorem isT_eq : isT = fun v u => @decide (v = byV ∧ u = toV) (Classical.propDecidable _) := Classical.choose_spec (⟨_, rfl⟩ : ∃ f : Value → Value → Bool, f = fun v u => @decide (v = byV ∧ u = toV) (Classical.propDecidable _))
theorem isT_self : isT byV toV = true := by rw [isT_eq]; simp
theorem isT_out {v u : Value} (h : isT v u = true) : v = byV ∧ u = toV := by rw [isT_eq] at h; simpa using h
noncomputable def roundG : List DV → Option RV
  | [.pl va, .pl vb, .pl vt, .pl (.int .u64 c)] => match toK va with
    | some A => if (isT vb vt && okW c) = true then some (.one (.pl (kV (rnd A (nt c))))) else none
    | none => none
  | _ => none

set_option maxHeartbeats 400000000 in
theorem round_walk (A : K25) (c : W64) : Spec Try.prog 16 [.pl (kV A), .pl byV, .pl toV, .pl (.int .u64 (tn c))] (.one (.pl (kV (rnd A c)))) := by
  have hΓ : Env.ok [(19, rotlG)] Try.prog := ok_cons rotl_ok (ok_nil _)
  rw [byV_eq, toV_eq]
  refine Spec.of_vx hΓ follows_mixed Try.func16 rfl (by kernel_rfl) (T := []) (by simp [Try.ntmps16]) (by kernel_rfl) rfl Try.ntmps16 (res := [.cell 8 26]) rfl ?_
  intro W
  simp -implicitDefEqProofs (maxSteps := 100000000) only [kV, vy_succ, vy_zero, vx_skip, vx_reg0, vx_reg1, vx_ord, xx_done, xx_stop, xx_alt, vx_seq, vx_cond, vx_block, vx_exit, vx_ret, vx_loop, gx_nil, gx_cons, dx_nil, dx_cons, slim, slimOp, gO, gSO, qSO, quietOp, cx_nil, cx_cons, xx_alc, cS, qSB, eK, calmOp, guardS, gK, qK, putK, plK, dOk, St.ev, St.get, St.mem, St.set, St.setm, St.put, lookA, look, newK, nextver, initT, seqE, blockQ, bodyQ, resK, retV, AV.rdv, cells_agg, cells_int, cells_bool, cells_string, cells_slice, cells_uV, agg_uV, isNil_uV, toN_uV, i64_in, IntKind.wrap_u64, IntKind.wrap_u8, IntKind.wrap_u32, ↓binK, ↓intK, unK, ↓loadK, ↓withKey_eq, ↓idxAddrK, ↓indexK, ↓partK, ↓fieldK, ↓fieldAddrK, ↓convK, ↓callK, wrG, updK, ↓lenK, ↓mmK, ↓appK, ↓copyK, ↓sliceK, ↓toArrK, nilK, optK_some, optK_tup, optK_ite, evs, plains, seqParts, capsOf, capsD, List.append_nil, List.nil_append, List.cons_append, AV.dv, AV.cont, isNil_agg, isNil_int, isNil_bool, isNil_string, isNil_nil, isNil_slice, ↓buildV_eq, fillL, placesOf, Option.map_some, Option.map_none, ↓storeK, wrL, RV.av, DV.av, List.set, List.map_cons, List.map_nil, List.length_cons, List.length_nil, List.all_cons, List.all_nil, List.getElem?_cons_zero, List.getElem?_cons_succ, List.getElem?_nil, List.size_toArray, List.getElem?_toArray, List.drop_zero, List.drop_succ_cons, List.take_zero, List.take_succ_cons, Option.getD_some, Option.getD_none, Option.some.injEq, Option.isSome_some, Nat.reduceEqDiff, Nat.reduceAdd, Nat.reduceSub, Nat.reduceMul, Nat.reduceLT, Nat.reduceLeDiff, Nat.reduceMod, Nat.reduceDiv, Int.cast_ofNat_Int, Int.reduceLT, Int.reduceLE, Int.reduceToNat, ↓reduceIte, true_and, and_true, true_or, or_true, or_false, false_or, reduceCtorEq, Bool.false_eq_true, Bool.and_true, Bool.not_true, Bool.not_false, beq_self_eq_true, Bool.true_beq, Bool.false_beq, Value.oneCell', decide_true, decide_false, Int.reduceAdd, Int.reduceSub, Int.reduceMod, Int.reduceMul, Int.reduceNeg, Int.reduceBEq, Int.reduceBNe, Int.reduceTDiv, Int.reduceTMod, ne_eq, not_false_eq_true, not_true_eq_false, Int.reduceEq, Nat.zero_add, Nat.add_zero, Nat.le_refl, Try.underlying2, s_2, g_2, z_2, Try.underlying3, s_3, g_3, z_3, Try.underlying4, s_4, g_4, z_4, Try.underlying5, s_5, g_5, z_5, Try.underlying9, s_9, g_9, z_9, Try.underlying12, s_12, g_12, z_12, Try.underlying13, s_13, g_13, z_13, q_13, Try.underlying21, s_21, g_21, z_21, Try.underlying25, s_25, g_25, z_25, Try.underlying26, s_26, g_26, z_26, q_26, Try.underlying32, s_32, g_32, l_32, r_32, Try.underlying34, s_34, g_34, z_34, Try.underlying35, s_35, g_35, z_35, q_35, Try.underlying38, s_38, g_38, z_38, q_38, Try.underlying42, s_42, g_42, l_42, r_42, Try.underlying44, s_44, g_44, z_44, q_44, Try.underlying57, s_57, g_57, l_57, r_57, Try.underlying69, s_69, g_69, z_69]
  refine VT_rounds hΓ follows_mixed 6 ?_
  simp -implicitDefEqProofs (maxSteps := 100000000) only [vy_succ, vy_zero, vx_skip, vx_reg0, vx_reg1, vx_ord, xx_done, xx_stop, xx_alt, vx_seq, vx_cond, vx_block, vx_exit, vx_ret, vx_loop, gx_nil, gx_cons, dx_nil, dx_cons, slim, slimOp, gO, gSO, qSO, quietOp, cx_nil, cx_cons, xx_alc, cS, qSB, eK, calmOp, guardS, gK, qK, putK, plK, dOk, St.ev, St.get, St.mem, St.set, St.setm, St.put, lookA, look, newK, nextver, initT, seqE, blockQ, bodyQ, resK, retV, AV.rdv, cells_agg, cells_int, cells_bool, cells_string, cells_slice, cells_uV, agg_uV, isNil_uV, toN_uV, i64_in, IntKind.wrap_u64, IntKind.wrap_u8, IntKind.wrap_u32, ↓binK, ↓intK, unK, ↓loadK, ↓withKey_eq, ↓idxAddrK, ↓indexK, ↓partK, ↓fieldK, ↓fieldAddrK, ↓convK, ↓callK, wrG, updK, ↓lenK, ↓mmK, ↓appK, ↓copyK, ↓sliceK, ↓toArrK, nilK, optK_some, optK_tup, optK_ite, evs, plains, seqParts, capsOf, capsD, List.append_nil, List.nil_append, List.cons_append, AV.dv, AV.cont, isNil_agg, isNil_int, isNil_bool, isNil_string, isNil_nil, isNil_slice, ↓buildV_eq, fillL, placesOf, Option.map_some, Option.map_none, ↓storeK, wrL, RV.av, DV.av, List.set, List.map_cons, List.map_nil, List.length_cons, List.length_nil, List.all_cons, List.all_nil, List.getElem?_cons_zero, List.getElem?_cons_succ, List.getElem?_nil, List.size_toArray, List.getElem?_toArray, List.drop_zero, List.drop_succ_cons, List.take_zero, List.take_succ_cons, Option.getD_some, Option.getD_none, Option.some.injEq, Option.isSome_some, Nat.reduceEqDiff, Nat.reduceAdd, Nat.reduceSub, Nat.reduceMul, Nat.reduceLT, Nat.reduceLeDiff, Nat.reduceMod, Nat.reduceDiv, Int.cast_ofNat_Int, Int.reduceLT, Int.reduceLE, Int.reduceToNat, ↓reduceIte, true_and, and_true, true_or, or_true, or_false, false_or, reduceCtorEq, Bool.false_eq_true, Bool.and_true, Bool.not_true, Bool.not_false, beq_self_eq_true, Bool.true_beq, Bool.false_beq, Value.oneCell', decide_true, decide_false, Int.reduceAdd, Int.reduceSub, Int.reduceMod, Int.reduceMul, Int.reduceNeg, Int.reduceBEq, Int.reduceBNe, Int.reduceTDiv, Int.reduceTMod, ne_eq, not_false_eq_true, not_true_eq_false, Int.reduceEq, Nat.zero_add, Nat.add_zero, Nat.le_refl, Try.underlying2, s_2, g_2, z_2, Try.underlying3, s_3, g_3, z_3, Try.underlying4, s_4, g_4, z_4, Try.underlying5, s_5, g_5, z_5, Try.underlying9, s_9, g_9, z_9, Try.underlying12, s_12, g_12, z_12, Try.underlying13, s_13, g_13, z_13, q_13, Try.underlying21, s_21, g_21, z_21, Try.underlying25, s_25, g_25, z_25, Try.underlying26, s_26, g_26, z_26, q_26, Try.underlying32, s_32, g_32, l_32, r_32, Try.underlying34, s_34, g_34, z_34, Try.underlying35, s_35, g_35, z_35, q_35, Try.underlying38, s_38, g_38, z_38, q_38, Try.underlying42, s_42, g_42, l_42, r_42, Try.underlying44, s_44, g_44, z_44, q_44, Try.underlying57, s_57, g_57, l_57, r_57, Try.underlying69, s_69, g_69, z_69, rotlG, okW_tn, nt_tn, bits_xor_tn, bits_and_tn, ↓unK_not, bits_not_tn, fC0, fC1, fC2, fC3, fC4, fD0, fD1, fD2, fD3, fD4, fB0, fB1, fB2, fB3, fB4, fB5, fB6, fB7, fB8, fB9, fB10, fB11, fB12, fB13, fB14, fB15, fB16, fB17, fB18, fB19, fB20, fB21, fB22, fB23, fB24, fE0, fE1, fE2, fE3, fE4, fE5, fE6, fE7, fE8, fE9, fE10, fE11, fE12, fE13, fE14, fE15, fE16, fE17, fE18, fE19, fE20, fE21, fE22, fE23, fE24]
  refine VT_rounds hΓ follows_mixed 6 ?_
  simp -implicitDefEqProofs (maxSteps := 100000000) only [vy_succ, vy_zero, vx_skip, vx_reg0, vx_reg1, vx_ord, xx_done, xx_stop, xx_alt, vx_seq, vx_cond, vx_block, vx_exit, vx_ret, vx_loop, gx_nil, gx_cons, dx_nil, dx_cons, slim, slimOp, gO, gSO, qSO, quietOp, cx_nil, cx_cons, xx_alc, cS, qSB, eK, calmOp, guardS, gK, qK, putK, plK, dOk, St.ev, St.get, St.mem, St.set, St.setm, St.put, lookA, look, newK, nextver, initT, seqE, blockQ, bodyQ, resK, retV, AV.rdv, cells_agg, cells_int, cells_bool, cells_string, cells_slice, cells_uV, agg_uV, isNil_uV, toN_uV, i64_in, IntKind.wrap_u64, IntKind.wrap_u8, IntKind.wrap_u32, ↓binK, ↓intK, unK, ↓loadK, ↓withKey_eq, ↓idxAddrK, ↓indexK, ↓partK, ↓fieldK, ↓fieldAddrK, ↓convK, ↓callK, wrG, updK, ↓lenK, ↓mmK, ↓appK, ↓copyK, ↓sliceK, ↓toArrK, nilK, optK_some, optK_tup, optK_ite, evs, plains, seqParts, capsOf, capsD, List.append_nil, List.nil_append, List.cons_append, AV.dv, AV.cont, isNil_agg, isNil_int, isNil_bool, isNil_string, isNil_nil, isNil_slice, ↓buildV_eq, fillL, placesOf, Option.map_some, Option.map_none, ↓storeK, wrL, RV.av, DV.av, List.set, List.map_cons, List.map_nil, List.length_cons, List.length_nil, List.all_cons, List.all_nil, List.getElem?_cons_zero, List.getElem?_cons_succ, List.getElem?_nil, List.size_toArray, List.getElem?_toArray, List.drop_zero, List.drop_succ_cons, List.take_zero, List.take_succ_cons, Option.getD_some, Option.getD_none, Option.some.injEq, Option.isSome_some, Nat.reduceEqDiff, Nat.reduceAdd, Nat.reduceSub, Nat.reduceMul, Nat.reduceLT, Nat.reduceLeDiff, Nat.reduceMod, Nat.reduceDiv, Int.cast_ofNat_Int, Int.reduceLT, Int.reduceLE, Int.reduceToNat, ↓reduceIte, true_and, and_true, true_or, or_true, or_false, false_or, reduceCtorEq, Bool.false_eq_true, Bool.and_true, Bool.not_true, Bool.not_false, beq_self_eq_true, Bool.true_beq, Bool.false_beq, Value.oneCell', decide_true, decide_false, Int.reduceAdd, Int.reduceSub, Int.reduceMod, Int.reduceMul, Int.reduceNeg, Int.reduceBEq, Int.reduceBNe, Int.reduceTDiv, Int.reduceTMod, ne_eq, not_false_eq_true, not_true_eq_false, Int.reduceEq, Nat.zero_add, Nat.add_zero, Nat.le_refl, Try.underlying2, s_2, g_2, z_2, Try.underlying3, s_3, g_3, z_3, Try.underlying4, s_4, g_4, z_4, Try.underlying5, s_5, g_5, z_5, Try.underlying9, s_9, g_9, z_9, Try.underlying12, s_12, g_12, z_12, Try.underlying13, s_13, g_13, z_13, q_13, Try.underlying21, s_21, g_21, z_21, Try.underlying25, s_25, g_25, z_25, Try.underlying26, s_26, g_26, z_26, q_26, Try.underlying32, s_32, g_32, l_32, r_32, Try.underlying34, s_34, g_34, z_34, Try.underlying35, s_35, g_35, z_35, q_35, Try.underlying38, s_38, g_38, z_38, q_38, Try.underlying42, s_42, g_42, l_42, r_42, Try.underlying44, s_44, g_44, z_44, q_44, Try.underlying57, s_57, g_57, l_57, r_57, Try.underlying69, s_69, g_69, z_69, rotlG, okW_tn, nt_tn, bits_xor_tn, bits_and_tn, ↓unK_not, bits_not_tn, fC0, fC1, fC2, fC3, fC4, fD0, fD1, fD2, fD3, fD4, fB0, fB1, fB2, fB3, fB4, fB5, fB6, fB7, fB8, fB9, fB10, fB11, fB12, fB13, fB14, fB15, fB16, fB17, fB18, fB19, fB20, fB21, fB22, fB23, fB24, fE0, fE1, fE2, fE3, fE4, fE5, fE6, fE7, fE8, fE9, fE10, fE11, fE12, fE13, fE14, fE15, fE16, fE17, fE18, fE19, fE20, fE21, fE22, fE23, fE24]
  refine VT_rounds hΓ follows_mixed 26 ?_
  simp -implicitDefEqProofs (maxSteps := 100000000) only [vy_succ, vy_zero, vx_skip, vx_reg0, vx_reg1, vx_ord, xx_done, xx_stop, xx_alt, vx_seq, vx_cond, vx_block, vx_exit, vx_ret, vx_loop, gx_nil, gx_cons, dx_nil, dx_cons, slim, slimOp, gO, gSO, qSO, quietOp, cx_nil, cx_cons, xx_alc, cS, qSB, eK, calmOp, guardS, gK, qK, putK, plK, dOk, St.ev, St.get, St.mem, St.set, St.setm, St.put, lookA, look, newK, nextver, initT, seqE, blockQ, bodyQ, resK, retV, AV.rdv, cells_agg, cells_int, cells_bool, cells_string, cells_slice, cells_uV, agg_uV, isNil_uV, toN_uV, i64_in, IntKind.wrap_u64, IntKind.wrap_u8, IntKind.wrap_u32, ↓binK, ↓intK, unK, ↓loadK, ↓withKey_eq, ↓idxAddrK, ↓indexK, ↓partK, ↓fieldK, ↓fieldAddrK, ↓convK, ↓callK, wrG, updK, ↓lenK, ↓mmK, ↓appK, ↓copyK, ↓sliceK, ↓toArrK, nilK, optK_some, optK_tup, optK_ite, evs, plains, seqParts, capsOf, capsD, List.append_nil, List.nil_append, List.cons_append, AV.dv, AV.cont, isNil_agg, isNil_int, isNil_bool, isNil_string, isNil_nil, isNil_slice, ↓buildV_eq, fillL, placesOf, Option.map_some, Option.map_none, ↓storeK, wrL, RV.av, DV.av, List.set, List.map_cons, List.map_nil, List.length_cons, List.length_nil, List.all_cons, List.all_nil, List.getElem?_cons_zero, List.getElem?_cons_succ, List.getElem?_nil, List.size_toArray, List.getElem?_toArray, List.drop_zero, List.drop_succ_cons, List.take_zero, List.take_succ_cons, Option.getD_some, Option.getD_none, Option.some.injEq, Option.isSome_some, Nat.reduceEqDiff, Nat.reduceAdd, Nat.reduceSub, Nat.reduceMul, Nat.reduceLT, Nat.reduceLeDiff, Nat.reduceMod, Nat.reduceDiv, Int.cast_ofNat_Int, Int.reduceLT, Int.reduceLE, Int.reduceToNat, ↓reduceIte, true_and, and_true, true_or, or_true, or_false, false_or, reduceCtorEq, Bool.false_eq_true, Bool.and_true, Bool.not_true, Bool.not_false, beq_self_eq_true, Bool.true_beq, Bool.false_beq, Value.oneCell', decide_true, decide_false, Int.reduceAdd, Int.reduceSub, Int.reduceMod, Int.reduceMul, Int.reduceNeg, Int.reduceBEq, Int.reduceBNe, Int.reduceTDiv, Int.reduceTMod, ne_eq, not_false_eq_true, not_true_eq_false, Int.reduceEq, Nat.zero_add, Nat.add_zero, Nat.le_refl, Try.underlying2, s_2, g_2, z_2, Try.underlying3, s_3, g_3, z_3, Try.underlying4, s_4, g_4, z_4, Try.underlying5, s_5, g_5, z_5, Try.underlying9, s_9, g_9, z_9, Try.underlying12, s_12, g_12, z_12, Try.underlying13, s_13, g_13, z_13, q_13, Try.underlying21, s_21, g_21, z_21, Try.underlying25, s_25, g_25, z_25, Try.underlying26, s_26, g_26, z_26, q_26, Try.underlying32, s_32, g_32, l_32, r_32, Try.underlying34, s_34, g_34, z_34, Try.underlying35, s_35, g_35, z_35, q_35, Try.underlying38, s_38, g_38, z_38, q_38, Try.underlying42, s_42, g_42, l_42, r_42, Try.underlying44, s_44, g_44, z_44, q_44, Try.underlying57, s_57, g_57, l_57, r_57, Try.underlying69, s_69, g_69, z_69, rotlG, okW_tn, nt_tn, bits_xor_tn, bits_and_tn, ↓unK_not, bits_not_tn, fC0, fC1, fC2, fC3, fC4, fD0, fD1, fD2, fD3, fD4, fB0, fB1, fB2, fB3, fB4, fB5, fB6, fB7, fB8, fB9, fB10, fB11, fB12, fB13, fB14, fB15, fB16, fB17, fB18, fB19, fB20, fB21, fB22, fB23, fB24, fE0, fE1, fE2, fE3, fE4, fE5, fE6, fE7, fE8, fE9, fE10, fE11, fE12, fE13, fE14, fE15, fE16, fE17, fE18, fE19, fE20, fE21, fE22, fE23, fE24]
  refine VT_rounds hΓ follows_mixed 26 ?_
  simp -implicitDefEqProofs (maxSteps := 100000000) only [vy_succ, vy_zero, vx_skip, vx_reg0, vx_reg1, vx_ord, xx_done, xx_stop, xx_alt, vx_seq, vx_cond, vx_block, vx_exit, vx_ret, vx_loop, gx_nil, gx_cons, dx_nil, dx_cons, slim, slimOp, gO, gSO, qSO, quietOp, cx_nil, cx_cons, xx_alc, cS, qSB, eK, calmOp, guardS, gK, qK, putK, plK, dOk, St.ev, St.get, St.mem, St.set, St.setm, St.put, lookA, look, newK, nextver, initT, seqE, blockQ, bodyQ, resK, retV, AV.rdv, cells_agg, cells_int, cells_bool, cells_string, cells_slice, cells_uV, agg_uV, isNil_uV, toN_uV, i64_in, IntKind.wrap_u64, IntKind.wrap_u8, IntKind.wrap_u32, ↓binK, ↓intK, unK, ↓loadK, ↓withKey_eq, ↓idxAddrK, ↓indexK, ↓partK, ↓fieldK, ↓fieldAddrK, ↓convK, ↓callK, wrG, updK, ↓lenK, ↓mmK, ↓appK, ↓copyK, ↓sliceK, ↓toArrK, nilK, optK_some, optK_tup, optK_ite, evs, plains, seqParts, capsOf, capsD, List.append_nil, List.nil_append, List.cons_append, AV.dv, AV.cont, isNil_agg, isNil_int, isNil_bool, isNil_string, isNil_nil, isNil_slice, ↓buildV_eq, fillL, placesOf, Option.map_some, Option.map_none, ↓storeK, wrL, RV.av, DV.av, List.set, List.map_cons, List.map_nil, List.length_cons, List.length_nil, List.all_cons, List.all_nil, List.getElem?_cons_zero, List.getElem?_cons_succ, List.getElem?_nil, List.size_toArray, List.getElem?_toArray, List.drop_zero, List.drop_succ_cons, List.take_zero, List.take_succ_cons, Option.getD_some, Option.getD_none, Option.some.injEq, Option.isSome_some, Nat.reduceEqDiff, Nat.reduceAdd, Nat.reduceSub, Nat.reduceMul, Nat.reduceLT, Nat.reduceLeDiff, Nat.reduceMod, Nat.reduceDiv, Int.cast_ofNat_Int, Int.reduceLT, Int.reduceLE, Int.reduceToNat, ↓reduceIte, true_and, and_true, true_or, or_true, or_false, false_or, reduceCtorEq, Bool.false_eq_true, Bool.and_true, Bool.not_true, Bool.not_false, beq_self_eq_true, Bool.true_beq, Bool.false_beq, Value.oneCell', decide_true, decide_false, Int.reduceAdd, Int.reduceSub, Int.reduceMod, Int.reduceMul, Int.reduceNeg, Int.reduceBEq, Int.reduceBNe, Int.reduceTDiv, Int.reduceTMod, ne_eq, not_false_eq_true, not_true_eq_false, Int.reduceEq, Nat.zero_add, Nat.add_zero, Nat.le_refl, Try.underlying2, s_2, g_2, z_2, Try.underlying3, s_3, g_3, z_3, Try.underlying4, s_4, g_4, z_4, Try.underlying5, s_5, g_5, z_5, Try.underlying9, s_9, g_9, z_9, Try.underlying12, s_12, g_12, z_12, Try.underlying13, s_13, g_13, z_13, q_13, Try.underlying21, s_21, g_21, z_21, Try.underlying25, s_25, g_25, z_25, Try.underlying26, s_26, g_26, z_26, q_26, Try.underlying32, s_32, g_32, l_32, r_32, Try.underlying34, s_34, g_34, z_34, Try.underlying35, s_35, g_35, z_35, q_35, Try.underlying38, s_38, g_38, z_38, q_38, Try.underlying42, s_42, g_42, l_42, r_42, Try.underlying44, s_44, g_44, z_44, q_44, Try.underlying57, s_57, g_57, l_57, r_57, Try.underlying69, s_69, g_69, z_69, rotlG, okW_tn, nt_tn, bits_xor_tn, bits_and_tn, ↓unK_not, bits_not_tn, fC0, fC1, fC2, fC3, fC4, fD0, fD1, fD2, fD3, fD4, fB0, fB1, fB2, fB3, fB4, fB5, fB6, fB7, fB8, fB9, fB10, fB11, fB12, fB13, fB14, fB15, fB16, fB17, fB18, fB19, fB20, fB21, fB22, fB23, fB24, fE0, fE1, fE2, fE3, fE4, fE5, fE6, fE7, fE8, fE9, fE10, fE11, fE12, fE13, fE14, fE15, fE16, fE17, fE18, fE19, fE20, fE21, fE22, fE23, fE24, rnd_0, rnd_1, rnd_2, rnd_3, rnd_4, rnd_5, rnd_6, rnd_7, rnd_8, rnd_9, rnd_10, rnd_11, rnd_12, rnd_13, rnd_14, rnd_15, rnd_16, rnd_17, rnd_18, rnd_19, rnd_20, rnd_21, rnd_22, rnd_23, rnd_24]

theorem round_ok : ∀ ds r, roundG ds = some r → Spec Try.prog 16 ds r := by
  intro ds r h
  unfold roundG at h
  split at h
  case h_2 => cases h
  rename_i va vb vt c
  split at h
  case h_2 => cases h
  rename_i A hA
  split at h
  case isFalse => cases h
  rename_i hc
  rw [Bool.and_eq_true] at hc
  obtain ⟨ht, hc⟩ := hc
  obtain ⟨rfl, rfl⟩ := isT_out ht
  cases h
  obtain ⟨rfl, hA'⟩ := toK_eq hA
  have := round_walk A (nt c)
  rw [tn_nt hc] at this
  exact this

end Go.Vm
