/- The sum of a text, in lists of bytes. No condition. -/
import Derived.Test.YtfphibjfddmnlaaKd
import Derived.Test.YtfphibjfddmnlaaStr
set_option maxRecDepth 100000
set_option linter.unusedSimpArgs false
set_option linter.unusedVariables false
namespace Go.Vm
open Go Go.RowKit Go.Proofs

noncomputable def bt : List UInt8 → Nat → W64 := Classical.choose (⟨fun l j => BitVec.ofNat 64 (l[j]?.getD 0).toNat, rfl⟩ : ∃ y : List UInt8 → Nat → W64, y = fun l j => BitVec.ofNat 64 (l[j]?.getD 0).toNat)
theorem bt_eq : bt = fun l j => BitVec.ofNat 64 (l[j]?.getD 0).toNat := Classical.choose_spec (⟨fun l j => BitVec.ofNat 64 (l[j]?.getD 0).toNat, rfl⟩ : ∃ y : List UInt8 → Nat → W64, y = fun l j => BitVec.ofNat 64 (l[j]?.getD 0).toNat)
noncomputable def wd : List UInt8 → W64 := Classical.choose (⟨fun l => bt l 0 <<< 0 ^^^ bt l 1 <<< 8 ^^^ bt l 2 <<< 16 ^^^ bt l 3 <<< 24 ^^^ bt l 4 <<< 32 ^^^ bt l 5 <<< 40 ^^^ bt l 6 <<< 48 ^^^ bt l 7 <<< 56, rfl⟩ : ∃ y : List UInt8 → W64, y = fun l => bt l 0 <<< 0 ^^^ bt l 1 <<< 8 ^^^ bt l 2 <<< 16 ^^^ bt l 3 <<< 24 ^^^ bt l 4 <<< 32 ^^^ bt l 5 <<< 40 ^^^ bt l 6 <<< 48 ^^^ bt l 7 <<< 56)
theorem wd_eq : wd = fun l => bt l 0 <<< 0 ^^^ bt l 1 <<< 8 ^^^ bt l 2 <<< 16 ^^^ bt l 3 <<< 24 ^^^ bt l 4 <<< 32 ^^^ bt l 5 <<< 40 ^^^ bt l 6 <<< 48 ^^^ bt l 7 <<< 56 := Classical.choose_spec (⟨fun l => bt l 0 <<< 0 ^^^ bt l 1 <<< 8 ^^^ bt l 2 <<< 16 ^^^ bt l 3 <<< 24 ^^^ bt l 4 <<< 32 ^^^ bt l 5 <<< 40 ^^^ bt l 6 <<< 48 ^^^ bt l 7 <<< 56, rfl⟩ : ∃ y : List UInt8 → W64, y = fun l => bt l 0 <<< 0 ^^^ bt l 1 <<< 8 ^^^ bt l 2 <<< 16 ^^^ bt l 3 <<< 24 ^^^ bt l 4 <<< 32 ^^^ bt l 5 <<< 40 ^^^ bt l 6 <<< 48 ^^^ bt l 7 <<< 56)
noncomputable def xb : K25 → List UInt8 → K25 := Classical.choose (⟨fun (A : K25) l i => if i < 17 then A i ^^^ wd (l.drop (8 * i)) else A i, rfl⟩ : ∃ y : K25 → List UInt8 → K25, y = fun (A : K25) l i => if i < 17 then A i ^^^ wd (l.drop (8 * i)) else A i)
theorem xb_eq : xb = fun (A : K25) l i => if i < 17 then A i ^^^ wd (l.drop (8 * i)) else A i := Classical.choose_spec (⟨fun (A : K25) l i => if i < 17 then A i ^^^ wd (l.drop (8 * i)) else A i, rfl⟩ : ∃ y : K25 → List UInt8 → K25, y = fun (A : K25) l i => if i < 17 then A i ^^^ wd (l.drop (8 * i)) else A i)
noncomputable def absN0 : Nat → K25 → List UInt8 → K25
  | 0, A, _ => A
  | n + 1, A, l => absN0 n (mixN 24 (xb A l)) (l.drop 136)
noncomputable def absN : Nat → K25 → List UInt8 → K25 := Classical.choose (⟨absN0, rfl⟩ : ∃ y : Nat → K25 → List UInt8 → K25, y = absN0)
theorem absN_eq : absN = absN0 := Classical.choose_spec (⟨absN0, rfl⟩ : ∃ y : Nat → K25 → List UInt8 → K25, y = absN0)
noncomputable def lo8 : W64 → UInt8 := Classical.choose (⟨fun x => UInt8.ofNat x.toNat, rfl⟩ : ∃ y : W64 → UInt8, y = fun x => UInt8.ofNat x.toNat)
theorem lo8_eq : lo8 = fun x => UInt8.ofNat x.toNat := Classical.choose_spec (⟨fun x => UInt8.ofNat x.toNat, rfl⟩ : ∃ y : W64 → UInt8, y = fun x => UInt8.ofNat x.toNat)
noncomputable def outL : K25 → List UInt8 := Classical.choose (⟨fun (A : K25) => [lo8 (A 0 >>> (0 : Nat) : W64), lo8 (A 0 >>> (8 : Nat) : W64), lo8 (A 0 >>> (16 : Nat) : W64), lo8 (A 0 >>> (24 : Nat) : W64), lo8 (A 0 >>> (32 : Nat) : W64), lo8 (A 0 >>> (40 : Nat) : W64), lo8 (A 0 >>> (48 : Nat) : W64), lo8 (A 0 >>> (56 : Nat) : W64), lo8 (A 1 >>> (0 : Nat) : W64), lo8 (A 1 >>> (8 : Nat) : W64), lo8 (A 1 >>> (16 : Nat) : W64), lo8 (A 1 >>> (24 : Nat) : W64), lo8 (A 1 >>> (32 : Nat) : W64), lo8 (A 1 >>> (40 : Nat) : W64), lo8 (A 1 >>> (48 : Nat) : W64), lo8 (A 1 >>> (56 : Nat) : W64), lo8 (A 2 >>> (0 : Nat) : W64), lo8 (A 2 >>> (8 : Nat) : W64), lo8 (A 2 >>> (16 : Nat) : W64), lo8 (A 2 >>> (24 : Nat) : W64), lo8 (A 2 >>> (32 : Nat) : W64), lo8 (A 2 >>> (40 : Nat) : W64), lo8 (A 2 >>> (48 : Nat) : W64), lo8 (A 2 >>> (56 : Nat) : W64), lo8 (A 3 >>> (0 : Nat) : W64), lo8 (A 3 >>> (8 : Nat) : W64), lo8 (A 3 >>> (16 : Nat) : W64), lo8 (A 3 >>> (24 : Nat) : W64), lo8 (A 3 >>> (32 : Nat) : W64), lo8 (A 3 >>> (40 : Nat) : W64), lo8 (A 3 >>> (48 : Nat) : W64), lo8 (A 3 >>> (56 : Nat) : W64)], rfl⟩ : ∃ y : K25 → List UInt8, y = fun (A : K25) => [lo8 (A 0 >>> (0 : Nat) : W64), lo8 (A 0 >>> (8 : Nat) : W64), lo8 (A 0 >>> (16 : Nat) : W64), lo8 (A 0 >>> (24 : Nat) : W64), lo8 (A 0 >>> (32 : Nat) : W64), lo8 (A 0 >>> (40 : Nat) : W64), lo8 (A 0 >>> (48 : Nat) : W64), lo8 (A 0 >>> (56 : Nat) : W64), lo8 (A 1 >>> (0 : Nat) : W64), lo8 (A 1 >>> (8 : Nat) : W64), lo8 (A 1 >>> (16 : Nat) : W64), lo8 (A 1 >>> (24 : Nat) : W64), lo8 (A 1 >>> (32 : Nat) : W64), lo8 (A 1 >>> (40 : Nat) : W64), lo8 (A 1 >>> (48 : Nat) : W64), lo8 (A 1 >>> (56 : Nat) : W64), lo8 (A 2 >>> (0 : Nat) : W64), lo8 (A 2 >>> (8 : Nat) : W64), lo8 (A 2 >>> (16 : Nat) : W64), lo8 (A 2 >>> (24 : Nat) : W64), lo8 (A 2 >>> (32 : Nat) : W64), lo8 (A 2 >>> (40 : Nat) : W64), lo8 (A 2 >>> (48 : Nat) : W64), lo8 (A 2 >>> (56 : Nat) : W64), lo8 (A 3 >>> (0 : Nat) : W64), lo8 (A 3 >>> (8 : Nat) : W64), lo8 (A 3 >>> (16 : Nat) : W64), lo8 (A 3 >>> (24 : Nat) : W64), lo8 (A 3 >>> (32 : Nat) : W64), lo8 (A 3 >>> (40 : Nat) : W64), lo8 (A 3 >>> (48 : Nat) : W64), lo8 (A 3 >>> (56 : Nat) : W64)])
theorem outL_eq : outL = fun (A : K25) => [lo8 (A 0 >>> (0 : Nat) : W64), lo8 (A 0 >>> (8 : Nat) : W64), lo8 (A 0 >>> (16 : Nat) : W64), lo8 (A 0 >>> (24 : Nat) : W64), lo8 (A 0 >>> (32 : Nat) : W64), lo8 (A 0 >>> (40 : Nat) : W64), lo8 (A 0 >>> (48 : Nat) : W64), lo8 (A 0 >>> (56 : Nat) : W64), lo8 (A 1 >>> (0 : Nat) : W64), lo8 (A 1 >>> (8 : Nat) : W64), lo8 (A 1 >>> (16 : Nat) : W64), lo8 (A 1 >>> (24 : Nat) : W64), lo8 (A 1 >>> (32 : Nat) : W64), lo8 (A 1 >>> (40 : Nat) : W64), lo8 (A 1 >>> (48 : Nat) : W64), lo8 (A 1 >>> (56 : Nat) : W64), lo8 (A 2 >>> (0 : Nat) : W64), lo8 (A 2 >>> (8 : Nat) : W64), lo8 (A 2 >>> (16 : Nat) : W64), lo8 (A 2 >>> (24 : Nat) : W64), lo8 (A 2 >>> (32 : Nat) : W64), lo8 (A 2 >>> (40 : Nat) : W64), lo8 (A 2 >>> (48 : Nat) : W64), lo8 (A 2 >>> (56 : Nat) : W64), lo8 (A 3 >>> (0 : Nat) : W64), lo8 (A 3 >>> (8 : Nat) : W64), lo8 (A 3 >>> (16 : Nat) : W64), lo8 (A 3 >>> (24 : Nat) : W64), lo8 (A 3 >>> (32 : Nat) : W64), lo8 (A 3 >>> (40 : Nat) : W64), lo8 (A 3 >>> (48 : Nat) : W64), lo8 (A 3 >>> (56 : Nat) : W64)] := Classical.choose_spec (⟨fun (A : K25) => [lo8 (A 0 >>> (0 : Nat) : W64), lo8 (A 0 >>> (8 : Nat) : W64), lo8 (A 0 >>> (16 : Nat) : W64), lo8 (A 0 >>> (24 : Nat) : W64), lo8 (A 0 >>> (32 : Nat) : W64), lo8 (A 0 >>> (40 : Nat) : W64), lo8 (A 0 >>> (48 : Nat) : W64), lo8 (A 0 >>> (56 : Nat) : W64), lo8 (A 1 >>> (0 : Nat) : W64), lo8 (A 1 >>> (8 : Nat) : W64), lo8 (A 1 >>> (16 : Nat) : W64), lo8 (A 1 >>> (24 : Nat) : W64), lo8 (A 1 >>> (32 : Nat) : W64), lo8 (A 1 >>> (40 : Nat) : W64), lo8 (A 1 >>> (48 : Nat) : W64), lo8 (A 1 >>> (56 : Nat) : W64), lo8 (A 2 >>> (0 : Nat) : W64), lo8 (A 2 >>> (8 : Nat) : W64), lo8 (A 2 >>> (16 : Nat) : W64), lo8 (A 2 >>> (24 : Nat) : W64), lo8 (A 2 >>> (32 : Nat) : W64), lo8 (A 2 >>> (40 : Nat) : W64), lo8 (A 2 >>> (48 : Nat) : W64), lo8 (A 2 >>> (56 : Nat) : W64), lo8 (A 3 >>> (0 : Nat) : W64), lo8 (A 3 >>> (8 : Nat) : W64), lo8 (A 3 >>> (16 : Nat) : W64), lo8 (A 3 >>> (24 : Nat) : W64), lo8 (A 3 >>> (32 : Nat) : W64), lo8 (A 3 >>> (40 : Nat) : W64), lo8 (A 3 >>> (48 : Nat) : W64), lo8 (A 3 >>> (56 : Nat) : W64)], rfl⟩ : ∃ y : K25 → List UInt8, y = fun (A : K25) => [lo8 (A 0 >>> (0 : Nat) : W64), lo8 (A 0 >>> (8 : Nat) : W64), lo8 (A 0 >>> (16 : Nat) : W64), lo8 (A 0 >>> (24 : Nat) : W64), lo8 (A 0 >>> (32 : Nat) : W64), lo8 (A 0 >>> (40 : Nat) : W64), lo8 (A 0 >>> (48 : Nat) : W64), lo8 (A 0 >>> (56 : Nat) : W64), lo8 (A 1 >>> (0 : Nat) : W64), lo8 (A 1 >>> (8 : Nat) : W64), lo8 (A 1 >>> (16 : Nat) : W64), lo8 (A 1 >>> (24 : Nat) : W64), lo8 (A 1 >>> (32 : Nat) : W64), lo8 (A 1 >>> (40 : Nat) : W64), lo8 (A 1 >>> (48 : Nat) : W64), lo8 (A 1 >>> (56 : Nat) : W64), lo8 (A 2 >>> (0 : Nat) : W64), lo8 (A 2 >>> (8 : Nat) : W64), lo8 (A 2 >>> (16 : Nat) : W64), lo8 (A 2 >>> (24 : Nat) : W64), lo8 (A 2 >>> (32 : Nat) : W64), lo8 (A 2 >>> (40 : Nat) : W64), lo8 (A 2 >>> (48 : Nat) : W64), lo8 (A 2 >>> (56 : Nat) : W64), lo8 (A 3 >>> (0 : Nat) : W64), lo8 (A 3 >>> (8 : Nat) : W64), lo8 (A 3 >>> (16 : Nat) : W64), lo8 (A 3 >>> (24 : Nat) : W64), lo8 (A 3 >>> (32 : Nat) : W64), lo8 (A 3 >>> (40 : Nat) : W64), lo8 (A 3 >>> (48 : Nat) : W64), lo8 (A 3 >>> (56 : Nat) : W64)])
noncomputable def tailL : Nat → List UInt8 := Classical.choose (⟨fun k => if k = 1 then [129] else 1 :: (List.replicate (k - 2) 0 ++ [128]), rfl⟩ : ∃ y : Nat → List UInt8, y = fun k => if k = 1 then [129] else 1 :: (List.replicate (k - 2) 0 ++ [128]))
theorem tailL_eq : tailL = fun k => if k = 1 then [129] else 1 :: (List.replicate (k - 2) 0 ++ [128]) := Classical.choose_spec (⟨fun k => if k = 1 then [129] else 1 :: (List.replicate (k - 2) 0 ++ [128]), rfl⟩ : ∃ y : Nat → List UInt8, y = fun k => if k = 1 then [129] else 1 :: (List.replicate (k - 2) 0 ++ [128]))
noncomputable def padL : List UInt8 → List UInt8 := Classical.choose (⟨fun l => l ++ tailL (136 - l.length % 136), rfl⟩ : ∃ y : List UInt8 → List UInt8, y = fun l => l ++ tailL (136 - l.length % 136))
theorem padL_eq : padL = fun l => l ++ tailL (136 - l.length % 136) := Classical.choose_spec (⟨fun l => l ++ tailL (136 - l.length % 136), rfl⟩ : ∃ y : List UInt8 → List UInt8, y = fun l => l ++ tailL (136 - l.length % 136))
noncomputable def zk : K25 := Classical.choose (⟨fun _ => 0#64, rfl⟩ : ∃ y : K25, y = fun _ => 0#64)
theorem zk_eq : zk = fun _ => 0#64 := Classical.choose_spec (⟨fun _ => 0#64, rfl⟩ : ∃ y : K25, y = fun _ => 0#64)
noncomputable def sumL : List UInt8 → List UInt8 := Classical.choose (⟨fun l => outL (absN ((l.length / 136) + 1) zk (padL l)), rfl⟩ : ∃ y : List UInt8 → List UInt8, y = fun l => outL (absN ((l.length / 136) + 1) zk (padL l)))
theorem sumL_eq : sumL = fun l => outL (absN ((l.length / 136) + 1) zk (padL l)) := Classical.choose_spec (⟨fun l => outL (absN ((l.length / 136) + 1) zk (padL l)), rfl⟩ : ∃ y : List UInt8 → List UInt8, y = fun l => outL (absN ((l.length / 136) + 1) zk (padL l)))
theorem absN_0 (A : K25) (l : List UInt8) : absN 0 A l = A := by rw [absN_eq]; rfl
theorem absN_succ (n : Nat) (A : K25) (l : List UInt8) : absN (n + 1) A l = absN n (mixN 24 (xb A l)) (l.drop 136) := by rw [absN_eq]; rfl
theorem bt_drop (l : List UInt8) (m j : Nat) : bt (l.drop m) j = bt l (m + j) := by
  rw [bt_eq]; simp only [List.getElem?_drop]
theorem bt_take (l : List UInt8) (m j : Nat) (h : j < m) : bt (l.take m) j = bt l j := by
  rw [bt_eq]; simp only [List.getElem?_take_of_lt h]
theorem wd_take (l : List UInt8) : wd (l.take 8) = wd l := by
  rw [wd_eq]
  simp only
  rw [bt_take l 8 0 (by omega), bt_take l 8 1 (by omega), bt_take l 8 2 (by omega), bt_take l 8 3 (by omega), bt_take l 8 4 (by omega), bt_take l 8 5 (by omega), bt_take l 8 6 (by omega), bt_take l 8 7 (by omega)]
theorem tn_bt (l : List UInt8) (j : Nat) : (((bstr l)[j]?.getD 0).toNat : Int) = tn (bt l j) := by
  rw [bstr_get, tn_eq, bt_eq]
  simp only [BitVec.toNat_ofNat]
  have := (l[j]?.getD 0).toNat_lt
  omega
theorem bt_lt (l : List UInt8) (j : Nat) : (bt l j).toNat < 256 := by
  rw [bt_eq]
  simp only [BitVec.toNat_ofNat]
  have := (l[j]?.getD 0).toNat_lt
  omega
theorem tn_mod (x : W64) : tn x % 18446744073709551616 = tn x := Int.emod_eq_of_lt (tn_lt x).1 (tn_lt x).2
theorem lo8_tn (x : W64) : tn x % 256 = ((lo8 x).toNat : Int) := by
  rw [tn_eq, lo8_eq]
  simp only [UInt8.toNat_ofNat']
  omega
theorem lo8_tmod (x : W64) : (tn x).tmod 256 = ((lo8 x).toNat : Int) := by
  rw [Int.tmod_eq_emod_of_nonneg (tn_lt x).1, lo8_tn]
theorem u8_mod (b : UInt8) : ((b.toNat : Nat) : Int) % 256 = (b.toNat : Int) := by
  have := b.toNat_lt
  omega
theorem xb_len (A : K25) (l : List UInt8) (i : Nat) (h : 17 ≤ i) : xb A l i = A i := by
  rw [xb_eq]; simp only; rw [if_neg (by omega)]
theorem outL_len (A : K25) : (outL A).length = 32 := by rw [outL_eq]; rfl
theorem sumL_len (l : List UInt8) : (sumL l).length = 32 := by rw [sumL_eq]; exact outL_len _
theorem tailL_len (k : Nat) (h : 0 < k) : (tailL k).length = k := by
  rw [tailL_eq]
  simp only
  split
  · simp; omega
  · simp; omega
theorem padL_len (l : List UInt8) : (padL l).length = 136 * (l.length / 136 + 1) := by
  rw [padL_eq]
  simp only [List.length_append]
  rw [tailL_len _ (by omega)]
  omega
/-- bytes that come one behind the other make a number -/
theorem xor_add (X y m : Nat) (h : X < 2 ^ m) : X ^^^ y * 2 ^ m = X + y * 2 ^ m := by
  have e : X + y * 2 ^ m = 2 ^ m * y + X := by rw [Nat.mul_comm y, Nat.add_comm]
  rw [e]
  apply Nat.eq_of_testBit_eq
  intro j
  rw [Nat.testBit_two_pow_mul_add _ h, Nat.testBit_xor, Nat.testBit_mul_two_pow]
  by_cases hj : j < m
  · have hm : ¬ m ≤ j := by omega
    simp [hj, hm]
  · have hm : m ≤ j := by omega
    have : X.testBit j = false := Nat.testBit_lt_two_pow (Nat.lt_of_lt_of_le h (Nat.pow_le_pow_right (by omega) (by omega)))
    simp [hj, this, hm]
theorem xor_shl (X b : W64) (m : Nat) (hm : m ≤ 56) (hX : X.toNat < 2 ^ m) (hb : b.toNat < 256) : (X ^^^ b <<< m).toNat = X.toNat + b.toNat * 2 ^ m ∧ (X ^^^ b <<< m).toNat < 2 ^ (m + 8) := by
  have h1 : b.toNat * 2 ^ m < 2 ^ 64 := by
    have : b.toNat * 2 ^ m < 256 * 2 ^ m := Nat.mul_lt_mul_of_pos_right hb (Nat.pow_pos (by omega))
    have h2 : 256 * 2 ^ m ≤ 256 * 2 ^ 56 := Nat.mul_le_mul_left _ (Nat.pow_le_pow_right (by omega) hm)
    omega
  have h3 : (X ^^^ b <<< m).toNat = X.toNat + b.toNat * 2 ^ m := by
    rw [BitVec.toNat_xor, BitVec.toNat_shiftLeft, Nat.shiftLeft_eq, Nat.mod_eq_of_lt h1]
    exact xor_add _ _ _ hX
  refine ⟨h3, ?_⟩
  rw [h3, Nat.pow_add]
  have : b.toNat * 2 ^ m ≤ 255 * 2 ^ m := Nat.mul_le_mul_right _ (by omega)
  omega
theorem wd_nat (l : List UInt8) : (wd l).toNat = (bt l 0).toNat * 1 + (bt l 1).toNat * 256 + (bt l 2).toNat * 65536 + (bt l 3).toNat * 16777216 + (bt l 4).toNat * 4294967296 + (bt l 5).toNat * 1099511627776 + (bt l 6).toNat * 281474976710656 + (bt l 7).toNat * 72057594037927936 := by
  rw [wd_eq]
  simp only
  have h0 := bt_lt l 0
  have e0 : (bt l 0 <<< 0).toNat = (bt l 0).toNat := by simp
  have l0 : (bt l 0 <<< 0).toNat < 2 ^ 8 := by omega
  have h1 := xor_shl _ _ 8 (by omega) l0 (bt_lt l 1)
  have h2 := xor_shl _ _ 16 (by omega) h1.2 (bt_lt l 2)
  have h3 := xor_shl _ _ 24 (by omega) h2.2 (bt_lt l 3)
  have h4 := xor_shl _ _ 32 (by omega) h3.2 (bt_lt l 4)
  have h5 := xor_shl _ _ 40 (by omega) h4.2 (bt_lt l 5)
  have h6 := xor_shl _ _ 48 (by omega) h5.2 (bt_lt l 6)
  have h7 := xor_shl _ _ 56 (by omega) h6.2 (bt_lt l 7)
  rw [h7.1, h6.1, h5.1, h4.1, h3.1, h2.1, h1.1, e0]
  simp only [Nat.reducePow, Nat.mul_one]
theorem wd_tn (l : List UInt8) : tn (wd l) = tn (bt l 0) * 1 + tn (bt l 1) * 256 + tn (bt l 2) * 65536 + tn (bt l 3) * 16777216 + tn (bt l 4) * 4294967296 + tn (bt l 5) * 1099511627776 + tn (bt l 6) * 281474976710656 + tn (bt l 7) * 72057594037927936 := by
  have := wd_nat l
  rw [tn_eq]
  simp only
  rw [this]
  omega
theorem xbF_0 (A : K25) (l : List UInt8) : A 0 ^^^ bt l 0 <<< 0 ^^^ bt l 1 <<< 8 ^^^ bt l 2 <<< 16 ^^^ bt l 3 <<< 24 ^^^ bt l 4 <<< 32 ^^^ bt l 5 <<< 40 ^^^ bt l 6 <<< 48 ^^^ bt l 7 <<< 56 = xb A l 0 := by
  rw [xb_eq, wd_eq]
  simp only [Nat.reduceLT, if_true, bt_drop, Nat.reduceAdd, Nat.reduceMul]
  simp only [BitVec.xor_assoc]
theorem xbG_0 (A : K25) (l : List UInt8) : A 0 ^^^ wd (l.drop 0) = xb A l 0 := by
  rw [xb_eq]
  rfl
theorem xbF_1 (A : K25) (l : List UInt8) : A 1 ^^^ bt l 8 <<< 0 ^^^ bt l 9 <<< 8 ^^^ bt l 10 <<< 16 ^^^ bt l 11 <<< 24 ^^^ bt l 12 <<< 32 ^^^ bt l 13 <<< 40 ^^^ bt l 14 <<< 48 ^^^ bt l 15 <<< 56 = xb A l 1 := by
  rw [xb_eq, wd_eq]
  simp only [Nat.reduceLT, if_true, bt_drop, Nat.reduceAdd, Nat.reduceMul]
  simp only [BitVec.xor_assoc]
theorem xbG_1 (A : K25) (l : List UInt8) : A 1 ^^^ wd (l.drop 8) = xb A l 1 := by
  rw [xb_eq]
  rfl
theorem xbF_2 (A : K25) (l : List UInt8) : A 2 ^^^ bt l 16 <<< 0 ^^^ bt l 17 <<< 8 ^^^ bt l 18 <<< 16 ^^^ bt l 19 <<< 24 ^^^ bt l 20 <<< 32 ^^^ bt l 21 <<< 40 ^^^ bt l 22 <<< 48 ^^^ bt l 23 <<< 56 = xb A l 2 := by
  rw [xb_eq, wd_eq]
  simp only [Nat.reduceLT, if_true, bt_drop, Nat.reduceAdd, Nat.reduceMul]
  simp only [BitVec.xor_assoc]
theorem xbG_2 (A : K25) (l : List UInt8) : A 2 ^^^ wd (l.drop 16) = xb A l 2 := by
  rw [xb_eq]
  rfl
theorem xbF_3 (A : K25) (l : List UInt8) : A 3 ^^^ bt l 24 <<< 0 ^^^ bt l 25 <<< 8 ^^^ bt l 26 <<< 16 ^^^ bt l 27 <<< 24 ^^^ bt l 28 <<< 32 ^^^ bt l 29 <<< 40 ^^^ bt l 30 <<< 48 ^^^ bt l 31 <<< 56 = xb A l 3 := by
  rw [xb_eq, wd_eq]
  simp only [Nat.reduceLT, if_true, bt_drop, Nat.reduceAdd, Nat.reduceMul]
  simp only [BitVec.xor_assoc]
theorem xbG_3 (A : K25) (l : List UInt8) : A 3 ^^^ wd (l.drop 24) = xb A l 3 := by
  rw [xb_eq]
  rfl
theorem xbF_4 (A : K25) (l : List UInt8) : A 4 ^^^ bt l 32 <<< 0 ^^^ bt l 33 <<< 8 ^^^ bt l 34 <<< 16 ^^^ bt l 35 <<< 24 ^^^ bt l 36 <<< 32 ^^^ bt l 37 <<< 40 ^^^ bt l 38 <<< 48 ^^^ bt l 39 <<< 56 = xb A l 4 := by
  rw [xb_eq, wd_eq]
  simp only [Nat.reduceLT, if_true, bt_drop, Nat.reduceAdd, Nat.reduceMul]
  simp only [BitVec.xor_assoc]
theorem xbG_4 (A : K25) (l : List UInt8) : A 4 ^^^ wd (l.drop 32) = xb A l 4 := by
  rw [xb_eq]
  rfl
theorem xbF_5 (A : K25) (l : List UInt8) : A 5 ^^^ bt l 40 <<< 0 ^^^ bt l 41 <<< 8 ^^^ bt l 42 <<< 16 ^^^ bt l 43 <<< 24 ^^^ bt l 44 <<< 32 ^^^ bt l 45 <<< 40 ^^^ bt l 46 <<< 48 ^^^ bt l 47 <<< 56 = xb A l 5 := by
  rw [xb_eq, wd_eq]
  simp only [Nat.reduceLT, if_true, bt_drop, Nat.reduceAdd, Nat.reduceMul]
  simp only [BitVec.xor_assoc]
theorem xbG_5 (A : K25) (l : List UInt8) : A 5 ^^^ wd (l.drop 40) = xb A l 5 := by
  rw [xb_eq]
  rfl
theorem xbF_6 (A : K25) (l : List UInt8) : A 6 ^^^ bt l 48 <<< 0 ^^^ bt l 49 <<< 8 ^^^ bt l 50 <<< 16 ^^^ bt l 51 <<< 24 ^^^ bt l 52 <<< 32 ^^^ bt l 53 <<< 40 ^^^ bt l 54 <<< 48 ^^^ bt l 55 <<< 56 = xb A l 6 := by
  rw [xb_eq, wd_eq]
  simp only [Nat.reduceLT, if_true, bt_drop, Nat.reduceAdd, Nat.reduceMul]
  simp only [BitVec.xor_assoc]
theorem xbG_6 (A : K25) (l : List UInt8) : A 6 ^^^ wd (l.drop 48) = xb A l 6 := by
  rw [xb_eq]
  rfl
theorem xbF_7 (A : K25) (l : List UInt8) : A 7 ^^^ bt l 56 <<< 0 ^^^ bt l 57 <<< 8 ^^^ bt l 58 <<< 16 ^^^ bt l 59 <<< 24 ^^^ bt l 60 <<< 32 ^^^ bt l 61 <<< 40 ^^^ bt l 62 <<< 48 ^^^ bt l 63 <<< 56 = xb A l 7 := by
  rw [xb_eq, wd_eq]
  simp only [Nat.reduceLT, if_true, bt_drop, Nat.reduceAdd, Nat.reduceMul]
  simp only [BitVec.xor_assoc]
theorem xbG_7 (A : K25) (l : List UInt8) : A 7 ^^^ wd (l.drop 56) = xb A l 7 := by
  rw [xb_eq]
  rfl
theorem xbF_8 (A : K25) (l : List UInt8) : A 8 ^^^ bt l 64 <<< 0 ^^^ bt l 65 <<< 8 ^^^ bt l 66 <<< 16 ^^^ bt l 67 <<< 24 ^^^ bt l 68 <<< 32 ^^^ bt l 69 <<< 40 ^^^ bt l 70 <<< 48 ^^^ bt l 71 <<< 56 = xb A l 8 := by
  rw [xb_eq, wd_eq]
  simp only [Nat.reduceLT, if_true, bt_drop, Nat.reduceAdd, Nat.reduceMul]
  simp only [BitVec.xor_assoc]
theorem xbG_8 (A : K25) (l : List UInt8) : A 8 ^^^ wd (l.drop 64) = xb A l 8 := by
  rw [xb_eq]
  rfl
theorem xbF_9 (A : K25) (l : List UInt8) : A 9 ^^^ bt l 72 <<< 0 ^^^ bt l 73 <<< 8 ^^^ bt l 74 <<< 16 ^^^ bt l 75 <<< 24 ^^^ bt l 76 <<< 32 ^^^ bt l 77 <<< 40 ^^^ bt l 78 <<< 48 ^^^ bt l 79 <<< 56 = xb A l 9 := by
  rw [xb_eq, wd_eq]
  simp only [Nat.reduceLT, if_true, bt_drop, Nat.reduceAdd, Nat.reduceMul]
  simp only [BitVec.xor_assoc]
theorem xbG_9 (A : K25) (l : List UInt8) : A 9 ^^^ wd (l.drop 72) = xb A l 9 := by
  rw [xb_eq]
  rfl
theorem xbF_10 (A : K25) (l : List UInt8) : A 10 ^^^ bt l 80 <<< 0 ^^^ bt l 81 <<< 8 ^^^ bt l 82 <<< 16 ^^^ bt l 83 <<< 24 ^^^ bt l 84 <<< 32 ^^^ bt l 85 <<< 40 ^^^ bt l 86 <<< 48 ^^^ bt l 87 <<< 56 = xb A l 10 := by
  rw [xb_eq, wd_eq]
  simp only [Nat.reduceLT, if_true, bt_drop, Nat.reduceAdd, Nat.reduceMul]
  simp only [BitVec.xor_assoc]
theorem xbG_10 (A : K25) (l : List UInt8) : A 10 ^^^ wd (l.drop 80) = xb A l 10 := by
  rw [xb_eq]
  rfl
theorem xbF_11 (A : K25) (l : List UInt8) : A 11 ^^^ bt l 88 <<< 0 ^^^ bt l 89 <<< 8 ^^^ bt l 90 <<< 16 ^^^ bt l 91 <<< 24 ^^^ bt l 92 <<< 32 ^^^ bt l 93 <<< 40 ^^^ bt l 94 <<< 48 ^^^ bt l 95 <<< 56 = xb A l 11 := by
  rw [xb_eq, wd_eq]
  simp only [Nat.reduceLT, if_true, bt_drop, Nat.reduceAdd, Nat.reduceMul]
  simp only [BitVec.xor_assoc]
theorem xbG_11 (A : K25) (l : List UInt8) : A 11 ^^^ wd (l.drop 88) = xb A l 11 := by
  rw [xb_eq]
  rfl
theorem xbF_12 (A : K25) (l : List UInt8) : A 12 ^^^ bt l 96 <<< 0 ^^^ bt l 97 <<< 8 ^^^ bt l 98 <<< 16 ^^^ bt l 99 <<< 24 ^^^ bt l 100 <<< 32 ^^^ bt l 101 <<< 40 ^^^ bt l 102 <<< 48 ^^^ bt l 103 <<< 56 = xb A l 12 := by
  rw [xb_eq, wd_eq]
  simp only [Nat.reduceLT, if_true, bt_drop, Nat.reduceAdd, Nat.reduceMul]
  simp only [BitVec.xor_assoc]
theorem xbG_12 (A : K25) (l : List UInt8) : A 12 ^^^ wd (l.drop 96) = xb A l 12 := by
  rw [xb_eq]
  rfl
theorem xbF_13 (A : K25) (l : List UInt8) : A 13 ^^^ bt l 104 <<< 0 ^^^ bt l 105 <<< 8 ^^^ bt l 106 <<< 16 ^^^ bt l 107 <<< 24 ^^^ bt l 108 <<< 32 ^^^ bt l 109 <<< 40 ^^^ bt l 110 <<< 48 ^^^ bt l 111 <<< 56 = xb A l 13 := by
  rw [xb_eq, wd_eq]
  simp only [Nat.reduceLT, if_true, bt_drop, Nat.reduceAdd, Nat.reduceMul]
  simp only [BitVec.xor_assoc]
theorem xbG_13 (A : K25) (l : List UInt8) : A 13 ^^^ wd (l.drop 104) = xb A l 13 := by
  rw [xb_eq]
  rfl
theorem xbF_14 (A : K25) (l : List UInt8) : A 14 ^^^ bt l 112 <<< 0 ^^^ bt l 113 <<< 8 ^^^ bt l 114 <<< 16 ^^^ bt l 115 <<< 24 ^^^ bt l 116 <<< 32 ^^^ bt l 117 <<< 40 ^^^ bt l 118 <<< 48 ^^^ bt l 119 <<< 56 = xb A l 14 := by
  rw [xb_eq, wd_eq]
  simp only [Nat.reduceLT, if_true, bt_drop, Nat.reduceAdd, Nat.reduceMul]
  simp only [BitVec.xor_assoc]
theorem xbG_14 (A : K25) (l : List UInt8) : A 14 ^^^ wd (l.drop 112) = xb A l 14 := by
  rw [xb_eq]
  rfl
theorem xbF_15 (A : K25) (l : List UInt8) : A 15 ^^^ bt l 120 <<< 0 ^^^ bt l 121 <<< 8 ^^^ bt l 122 <<< 16 ^^^ bt l 123 <<< 24 ^^^ bt l 124 <<< 32 ^^^ bt l 125 <<< 40 ^^^ bt l 126 <<< 48 ^^^ bt l 127 <<< 56 = xb A l 15 := by
  rw [xb_eq, wd_eq]
  simp only [Nat.reduceLT, if_true, bt_drop, Nat.reduceAdd, Nat.reduceMul]
  simp only [BitVec.xor_assoc]
theorem xbG_15 (A : K25) (l : List UInt8) : A 15 ^^^ wd (l.drop 120) = xb A l 15 := by
  rw [xb_eq]
  rfl
theorem xbF_16 (A : K25) (l : List UInt8) : A 16 ^^^ bt l 128 <<< 0 ^^^ bt l 129 <<< 8 ^^^ bt l 130 <<< 16 ^^^ bt l 131 <<< 24 ^^^ bt l 132 <<< 32 ^^^ bt l 133 <<< 40 ^^^ bt l 134 <<< 48 ^^^ bt l 135 <<< 56 = xb A l 16 := by
  rw [xb_eq, wd_eq]
  simp only [Nat.reduceLT, if_true, bt_drop, Nat.reduceAdd, Nat.reduceMul]
  simp only [BitVec.xor_assoc]
theorem xbG_16 (A : K25) (l : List UInt8) : A 16 ^^^ wd (l.drop 128) = xb A l 16 := by
  rw [xb_eq]
  rfl
theorem out_u8s (A : K25) : u8s [.int .u8 ((lo8 (A 0 >>> 0)).toNat : Int), .int .u8 ((lo8 (A 0 >>> 8)).toNat : Int), .int .u8 ((lo8 (A 0 >>> 16)).toNat : Int), .int .u8 ((lo8 (A 0 >>> 24)).toNat : Int), .int .u8 ((lo8 (A 0 >>> 32)).toNat : Int), .int .u8 ((lo8 (A 0 >>> 40)).toNat : Int), .int .u8 ((lo8 (A 0 >>> 48)).toNat : Int), .int .u8 ((lo8 (A 0 >>> 56)).toNat : Int), .int .u8 ((lo8 (A 1 >>> 0)).toNat : Int), .int .u8 ((lo8 (A 1 >>> 8)).toNat : Int), .int .u8 ((lo8 (A 1 >>> 16)).toNat : Int), .int .u8 ((lo8 (A 1 >>> 24)).toNat : Int), .int .u8 ((lo8 (A 1 >>> 32)).toNat : Int), .int .u8 ((lo8 (A 1 >>> 40)).toNat : Int), .int .u8 ((lo8 (A 1 >>> 48)).toNat : Int), .int .u8 ((lo8 (A 1 >>> 56)).toNat : Int), .int .u8 ((lo8 (A 2 >>> 0)).toNat : Int), .int .u8 ((lo8 (A 2 >>> 8)).toNat : Int), .int .u8 ((lo8 (A 2 >>> 16)).toNat : Int), .int .u8 ((lo8 (A 2 >>> 24)).toNat : Int), .int .u8 ((lo8 (A 2 >>> 32)).toNat : Int), .int .u8 ((lo8 (A 2 >>> 40)).toNat : Int), .int .u8 ((lo8 (A 2 >>> 48)).toNat : Int), .int .u8 ((lo8 (A 2 >>> 56)).toNat : Int), .int .u8 ((lo8 (A 3 >>> 0)).toNat : Int), .int .u8 ((lo8 (A 3 >>> 8)).toNat : Int), .int .u8 ((lo8 (A 3 >>> 16)).toNat : Int), .int .u8 ((lo8 (A 3 >>> 24)).toNat : Int), .int .u8 ((lo8 (A 3 >>> 32)).toNat : Int), .int .u8 ((lo8 (A 3 >>> 40)).toNat : Int), .int .u8 ((lo8 (A 3 >>> 48)).toNat : Int), .int .u8 ((lo8 (A 3 >>> 56)).toNat : Int)] = some (outL A) := by
  have := vB_u8s (outL A)
  rw [vB_eq, outL_eq] at this
  rw [outL_eq]
  exact this
end Go.Vm
