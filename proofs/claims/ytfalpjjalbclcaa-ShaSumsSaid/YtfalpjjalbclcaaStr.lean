/- Strings as lists of bytes. No condition. -/
import Derived.Test.YtfalpjjalbclcaaU
import Derived.Test.YtfalpjjalbclcaaTy
set_option maxRecDepth 100000
set_option linter.unusedSimpArgs false
set_option linter.unusedVariables false
namespace Go.Vm
open Go Go.RowKit Go.Proofs

theorem loop_toList (b : ByteArray) : ∀ (n i : Nat) (r : List UInt8), b.size - i = n → ByteArray.toList.loop b i r = r.reverse ++ b.data.toList.drop i
  | 0, i, r, h => by
    unfold ByteArray.toList.loop
    rw [if_neg (by omega), List.drop_eq_nil_of_le (by simp; exact Nat.le_of_sub_eq_zero h), List.append_nil]
  | n + 1, i, r, h => by
    unfold ByteArray.toList.loop
    have hi : i < b.size := by omega
    rw [if_pos hi, loop_toList b n (i + 1) _ (by omega)]
    have h2 : i < b.data.toList.length := by simpa using hi
    rw [List.drop_eq_getElem_cons h2]
    have h3 : b.get! i = b.data.toList[i] := by
      show b.data[i]! = _
      have h4 : i < b.data.size := hi
      rw [getElem!_pos b.data i h4]; rfl
    rw [h3]
    simp
theorem ba_toList (b : ByteArray) : b.toList = b.data.toList := by
  have := loop_toList b _ 0 [] rfl
  simpa [ByteArray.toList] using this
theorem bstr_toList (l : List UInt8) : (bstr l).toList = l := by rw [ba_toList]; rfl
theorem bstr_size' (l : List UInt8) : (bstr l).size = l.length := by simp [bstr, ByteArray.size]
theorem bstr_of (s : ByteArray) : s = bstr s.data.toList := by simp [bstr]
theorem bstr_append (a b : List UInt8) : bstr a ++ bstr b = bstr (a ++ b) := by
  apply ByteArray.ext
  simp [bstr]
theorem bstr_extract (l : List UInt8) (i j : Nat) : (bstr l).extract i j = bstr ((l.drop i).take (j - i)) := by
  apply ByteArray.ext
  simp only [bstr, ByteArray.data_extract]
  rw [List.extract_toArray, List.extract_eq_drop_take']
  simp [List.drop_take]
theorem bstr_drop (l : List UInt8) (i : Nat) : (bstr l).extract i l.length = bstr (l.drop i) := by
  rw [bstr_extract, List.take_of_length_le (by simp)]
theorem bstr_take (l : List UInt8) (i : Nat) : (bstr l).extract 0 i = bstr (l.take i) := by
  rw [bstr_extract, List.drop_zero, Nat.sub_zero]
theorem bstr_get (l : List UInt8) (i : Nat) : (bstr l)[i]?.getD 0 = l[i]?.getD 0 := by
  by_cases h : i < l.length
  · have h2 : i < (bstr l).size := by rw [bstr_size']; exact h
    rw [getElem?_pos (bstr l) i h2, List.getElem?_eq_getElem h]
    rfl
  · have h2 : ¬ i < (bstr l).size := by rw [bstr_size']; exact h
    rw [getElem?_neg (bstr l) i h2, List.getElem?_eq_none (by omega)]

/-- bytes as values -/
noncomputable def vB : List UInt8 → List Value := Classical.choose (⟨fun l => l.map fun b => .int .u8 (b.toNat : Int), rfl⟩ : ∃ y : List UInt8 → List Value, y = fun l => l.map fun b => .int .u8 (b.toNat : Int))
theorem vB_eq : vB = fun l => l.map fun b => .int .u8 (b.toNat : Int) := Classical.choose_spec (⟨fun l => l.map fun b => .int .u8 (b.toNat : Int), rfl⟩ : ∃ y : List UInt8 → List Value, y = fun l => l.map fun b => .int .u8 (b.toNat : Int))
theorem vB_len (l : List UInt8) : (vB l).length = l.length := by rw [vB_eq]; simp
theorem vB_append (a b : List UInt8) : vB a ++ vB b = vB (a ++ b) := by rw [vB_eq]; simp
theorem vB_drop (l : List UInt8) (k : Nat) : (vB l).drop k = vB (l.drop k) := by rw [vB_eq]; simp
theorem vB_take (l : List UInt8) (k : Nat) : (vB l).take k = vB (l.take k) := by rw [vB_eq]; simp
theorem vB_nil : vB [] = [] := by rw [vB_eq]; rfl
theorem vB_get (l : List UInt8) (i : Nat) (h : i < l.length) : (vB l)[i]?.getD undef = .int .u8 ((l[i]?.getD 0).toNat : Int) := by
  rw [vB_eq]; simp [h]
theorem vB_u8s (l : List UInt8) : u8s (vB l) = some l := by
  have e : vB l = (l.map fun b => ((b.toNat : Nat) : Int)).map (Value.int .u8) := by rw [vB_eq, List.map_map]; rfl
  rw [e, u8s_map, List.map_map]
  congr 1
  clear e
  induction l with
  | nil => rfl
  | cons b l ih => rw [List.map_cons, ih]; simp
theorem vB_all (l : List UInt8) : (vB l).all Value.oneCell' = true := by
  rw [vB_eq]; simp [Value.oneCell']
theorem vB_of (l : List UInt8) : (l.map fun b => Value.int .u8 (b.toNat : Int)) = vB l := by rw [vB_eq]
theorem wrL_one : ∀ (L : List Value) (i : Nat) (v : Value), wrL L i [v] = L.set i v
  | _, _, _ => rfl
theorem vB_set (l : List UInt8) (i : Nat) (b : UInt8) : (vB l).set i (.int .u8 (b.toNat : Int)) = vB (l.set i b) := by rw [vB_eq]; simp [List.map_set]
end Go.Vm
