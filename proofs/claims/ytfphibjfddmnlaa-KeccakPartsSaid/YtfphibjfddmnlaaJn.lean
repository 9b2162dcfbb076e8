/- strings.Join, by the library's contract laid at this translation. No condition. -/
import Derived.Shelf.Strings.OnBuilder
import Derived.Test.YtfphibjfddmnlaaStr
set_option maxRecDepth 100000
set_option linter.unusedSimpArgs false
set_option linter.unusedVariables false
namespace Go.Vm
open Go Go.RowKit Go.Proofs Go.Shelf

def jnRen : Go.Shelf.Ren := ⟨fun | 156 => 18 | 165 => 24 | 166 => 25 | 169 => 26 | 240 => 28 | 241 => 29 | 276 => 30 | 277 => 31 | n => n, fun | 31 => 42 | 9 => 9 | 3 => 3 | 4 => 4 | 0 => 0 | 20 => 20 | 72 => 50 | 76 => 54 | 70 => 48 | 37 => 32 | 75 => 53 | 127 => 59 | 164 => 60 | 5 => 5 | 80 => 56 | n => n, fun | n => n⟩
theorem jnLays : Go.Proofs.Lays.n156 Try.prog jnRen := {
  mixed := by kernel_rfl
  f156 := Try.func18.trans (congrArg some (by kernel_rfl))
  f165 := Try.func24.trans (congrArg some (by kernel_rfl))
  f166 := Try.func25.trans (congrArg some (by kernel_rfl))
  f169 := Try.func26.trans (congrArg some (by kernel_rfl))
  f240 := Try.func28.trans (congrArg some (by kernel_rfl))
  f241 := Try.func29.trans (congrArg some (by kernel_rfl))
  f276 := Try.func30.trans (congrArg some (by kernel_rfl))
  f277 := Try.func31.trans (congrArg some (by kernel_rfl))
  t0 := Try.underlying0
  a0 := Try.isAgg0
  z0 := Try.sizeOf0
  v0 := Try.zeroValue0
  t3 := Try.underlying3
  a3 := Try.isAgg3
  z3 := Try.sizeOf3
  v3 := Try.zeroValue3
  t4 := Try.underlying4
  a4 := Try.isAgg4
  z4 := Try.sizeOf4
  v4 := Try.zeroValue4
  t9 := Try.underlying9
  a9 := Try.isAgg9
  z9 := Try.sizeOf9
  v9 := Try.zeroValue9
  t20 := Try.underlying20
  a20 := Try.isAgg20
  z20 := Try.sizeOf20
  v20 := Try.zeroValue20
  t31 := Try.underlying42
  a31 := Try.isAgg42
  z31 := Try.sizeOf42
  v31 := Try.zeroValue42
  t37 := Try.underlying32
  a37 := Try.isAgg32
  z37 := Try.sizeOf32
  v37 := Try.zeroValue32
  t70 := Try.underlying48
  a70 := Try.isAgg48
  z70 := Try.sizeOf48
  v70 := Try.zeroValue48
  t72 := Try.underlying50
  a72 := Try.isAgg50
  z72 := Try.sizeOf50
  v72 := Try.zeroValue50
  t75 := Try.underlying53
  a75 := Try.isAgg53
  z75 := Try.sizeOf53
  v75 := Try.zeroValue53
  t76 := Try.underlying54
  a76 := Try.isAgg54
  z76 := Try.sizeOf54
  v76 := Try.zeroValue54
  t127 := Try.underlying59
  a127 := Try.isAgg59
  z127 := Try.sizeOf59
  v127 := Try.zeroValue59
  t164 := Try.underlying60
  a164 := Try.isAgg60
  z164 := Try.sizeOf60
  v164 := Try.zeroValue60 }
theorem jnExtra : Builder.Extra Try.prog jnRen := {
  sizeBuilder := by kernel_rfl
  liesBuilder := by kernel_rfl
  t5 := Try.underlying5
  a5 := Try.isAgg5
  z5 := Try.sizeOf5
  v5 := Try.zeroValue5
  infoByte := by kernel_rfl
  cellsByte := by kernel_rfl
  sizeByte := by kernel_rfl
  neB5 := by decide }

theorem jn_nosep (xs : List (List UInt8)) : Lib.join xs [] = xs.flatten := by
  unfold Lib.join List.intercalate
  induction xs with
  | nil => rfl
  | cons x xs ih =>
    cases xs with
    | nil => rfl
    | cons y ys =>
      rw [List.intersperse_cons_cons]
      simp only [List.flatten_cons, List.nil_append]
      rw [ih]
      rfl
def strsV (xs : List (List UInt8)) : List Value := xs.map fun l => .string (bstr l)
theorem joins_walk (xs : List (List UInt8)) (hn : xs.length ≤ 1000) (hl : xs.flatten.length ≤ 100000000) : Spec Try.prog 18 [.vec (strsV xs), .pl (.string ⟨#[]⟩)] (.one (.pl (.string (bstr xs.flatten)))) := by
  refine Spec.of_calls Try.func18 rfl (by kernel_rfl) fun w vs hv => ?_
  match vs, hv with
  | [v, s], hv =>
    obtain ⟨hv, hs, _⟩ := hv
    have hs' : s = .string ⟨#[]⟩ := hs
    subst hs'
    have he : (⟨(Lib.join ((xs.map bstr).map (·.data.toList)) (⟨#[]⟩ : ByteArray).data.toList).toArray⟩ : ByteArray) = bstr xs.flatten := by
      have h1 : (xs.map bstr).map (fun b : ByteArray => b.data.toList) = xs := by
        rw [List.map_map]
        have : ((fun b : ByteArray => b.data.toList) ∘ bstr) = id := rfl
        rw [this, List.map_id]
      have h2 : (⟨#[]⟩ : ByteArray).data.toList = [] := rfl
      rw [h1, h2, jn_nosep]
      rfl
    rcases hv with ⟨hx, rfl⟩ | ⟨b, o, cap, c, e, fz, rfl, hc, _, hx, h3, h4⟩
    · have hx0 : xs = [] := by simpa [strsV] using hx
      subst hx0
      refine (Any.strings_Join_none jnLays jnExtra none 0 ⟨#[]⟩ w).mono fun e w' ⟨h1, h2⟩ => ⟨_, h1, rfl, ?_⟩
      rw [h2]
      exact Below.refl _ _
    · have hlen : (strsV xs).length = xs.length := by simp [strsV]
      have hbk : b < w.heap.size := (Array.getElem?_eq_some_iff.1 hc).1
      have hcells : ∀ (j : Nat) (x : ByteArray), (xs.map bstr)[j]? = some x → w.cell? ⟨b, o + j, none⟩ = some (.string x) := fun j x hj => by
        have h1 : (strsV xs)[j]? = some (.string x) := by
          rw [List.getElem?_map] at hj
          cases hxj : xs[j]? with
          | none => rw [hxj] at hj; cases hj
          | some y =>
            rw [hxj] at hj
            simp only [Option.map_some, Option.some.injEq] at hj
            simp [strsV, hxj, hj]
        rw [← hx, List.getElem?_take] at h1
        split at h1
        · rw [List.getElem?_drop] at h1
          simp only [World.cell?, hc]
          simpa using h1
        · cases h1
      have h5 := Any.strings_Join jnLays jnExtra b o cap (xs.map bstr) ⟨#[]⟩ w hcells hbk (by rw [List.length_map]; omega) (by rw [List.length_map]; omega) (by
        have h1 : (xs.map bstr).map (fun b : ByteArray => b.data.toList) = xs := by
          rw [List.map_map]
          have : ((fun b : ByteArray => b.data.toList) ∘ bstr) = id := rfl
          rw [this, List.map_id]
        have h2 : (⟨#[]⟩ : ByteArray).data.toList = [] := rfl
        rw [h1, h2, jn_nosep]
        omega)
      rw [he, List.length_map] at h5
      rw [hlen]
      exact h5.mono fun e w' ⟨h1, h2⟩ => ⟨_, h1, rfl, h2⟩

def joinG : List DV → Option RV
  | [.vec [], .pl (.string s)] => if s.size = 0 then some (.one (.pl (.string (bstr [])))) else none
  | [.vec [.string a], .pl (.string s)] => if s.size = 0 ∧ a.size ≤ 10000000 then some (.one (.pl (.string a))) else none
  | [.vec [.string a, .string b], .pl (.string s)] => if s.size = 0 ∧ a.size ≤ 10000000 ∧ b.size ≤ 10000000 then some (.one (.pl (.string (bstr (a.data.toList ++ b.data.toList))))) else none
  | [.vec [.string a, .string b, .string c], .pl (.string s)] => if s.size = 0 ∧ a.size ≤ 10000000 ∧ b.size ≤ 10000000 ∧ c.size ≤ 10000000 then some (.one (.pl (.string (bstr (a.data.toList ++ (b.data.toList ++ c.data.toList)))))) else none
  | _ => none
theorem size0 {s : ByteArray} (h : s.size = 0) : s = ⟨#[]⟩ := by
  have h1 : s.data.size = 0 := h
  have : s.data = #[] := Array.eq_empty_of_size_eq_zero h1
  cases s
  simp only at this
  rw [this]
theorem join_ok : ∀ ds r, joinG ds = some r → Spec Try.prog 18 ds r := by
  intro ds r h
  unfold joinG at h
  split at h
  · split at h
    · rename_i s hs
      cases h
      rw [size0 hs]
      exact joins_walk [] (by simp) (by simp)
    · cases h
  · split at h
    · rename_i a s hs
      cases h
      rw [size0 hs.1]
      have h1 : a.data.toList.length = a.size := Array.length_toList
      have := joins_walk [a.data.toList] (by simp only [List.length_cons, List.length_nil]; omega) (by simp only [List.flatten_cons, List.flatten_nil, List.length_append, List.length_nil]; omega)
      simp only [strsV, List.map_cons, List.map_nil, List.flatten_cons, List.flatten_nil, List.append_nil] at this
      rw [← bstr_of] at this
      exact this
    · cases h
  · split at h
    · rename_i a b s hs
      cases h
      rw [size0 hs.1]
      have h1 : a.data.toList.length = a.size := Array.length_toList
      have h2 : b.data.toList.length = b.size := Array.length_toList
      have := joins_walk [a.data.toList, b.data.toList] (by simp only [List.length_cons, List.length_nil]; omega) (by simp only [List.flatten_cons, List.flatten_nil, List.length_append, List.length_nil]; omega)
      simp only [strsV, List.map_cons, List.map_nil, List.flatten_cons, List.flatten_nil, List.append_nil] at this
      rw [← bstr_of, ← bstr_of] at this
      exact this
    · cases h
  · split at h
    · rename_i a b c s hs
      cases h
      rw [size0 hs.1]
      have h1 : a.data.toList.length = a.size := Array.length_toList
      have h2 : b.data.toList.length = b.size := Array.length_toList
      have h3 : c.data.toList.length = c.size := Array.length_toList
      have := joins_walk [a.data.toList, b.data.toList, c.data.toList] (by simp only [List.length_cons, List.length_nil]; omega) (by simp only [List.flatten_cons, List.flatten_nil, List.length_append, List.length_nil]; omega)
      simp only [strsV, List.map_cons, List.map_nil, List.flatten_cons, List.flatten_nil, List.append_nil] at this
      rw [← bstr_of, ← bstr_of, ← bstr_of] at this
      exact this
    · cases h
  · cases h
end Go.Vm
