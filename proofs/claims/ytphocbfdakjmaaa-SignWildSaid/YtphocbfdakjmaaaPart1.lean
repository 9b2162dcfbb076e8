/- Texts of the proof, laid together: Vm1, Vm2. No condition. -/
import Derived.WalkKit
import Derived.StillTail
import Derived.Laws.StructEq
import Derived.Lib.ConvBytes
/- A small verified machine over abstract states of frames and worlds, part 1: what operations, regions, texts and functions do. No condition. -/
namespace Go.Vm
open Go Go.RowKit

inductive DV where
  | pl (v : Value)
  | vec (xs : List Value)
  | cel (x : Value)
  | blk (cells : List Value)

inductive RV where
  | one (d : DV)
  | tup (ds : List DV)
  | upd (j : Nat) (L : List Value)

inductive AV where
  | pl (v : Value)
  | vec (fr : Bool) (xs : List Value)
  | pcell (x : Value)
  | pblk (b : Nat) (cells : List Value)
  | ptr (k ver off : Nat)
  | sl (k ver off len : Nat)
  | tup (ds : List DV)
  | clo (f : FuncId) (ks : List (Nat × Nat))
  | any

structure Blk where
  ver : Nat
  elem : TypeId
  cells : List Value

structure St where
  t : List (Nat × AV)
  m : List (Nat × Blk)

def look {α : Type} : List (Nat × α) → Nat → Option α
  | [], _ => none
  | (k, v) :: r, j => if k = j then some v else look r j

def lookA : List (Nat × AV) → Nat → AV
  | [], _ => .any
  | (k, v) :: r, j => if k = j then v else lookA r j

def St.get (st : St) (j : Nat) : AV := lookA st.t j
def St.mem (st : St) (k : Nat) : Option Blk := look st.m k
def St.set (st : St) (d : Nat) (v : AV) : St := { st with t := (d, v) :: st.t }
def St.setm (st : St) (k : Nat) (b : Blk) : St := { st with m := (k, b) :: st.m }
def St.put (st : St) (d : Option Nat) (v : AV) : St :=
  match d with
  | some d => st.set d v
  | none => st
def St.ev (st : St) : Operand → AV
  | .tmp t => st.get t
  | .const v => .pl v
  | .global g => .pl (.pointer (some ⟨g, 0, none⟩))
  | .func f => .clo f []

/-- a slice value whose elements read xs, in a block for which 'good' holds -/
def VecAt (w : World) (good : Nat → Prop) (v : Value) (xs : List Value) : Prop :=
  (xs = [] ∧ v = .slice none 0 0) ∨
  ∃ b o cap c e fz, v = .slice (some ⟨b, o, none⟩) xs.length cap ∧ w.heap[b]? = some (.cells c e fz) ∧ good b ∧
    (c.toList.drop o).take xs.length = xs ∧ xs.length ≤ cap ∧ o + cap ≤ c.size

def DV.rel (w : World) (good : Nat → Prop) (v : Value) : DV → Prop
  | .pl x => v = x
  | .vec xs => VecAt w good v xs
  | .cel x => ∃ b o, v = .pointer (some ⟨b, o, none⟩) ∧ w.cell? ⟨b, o, none⟩ = some x ∧ good b
  | .blk cells => ∃ b c e fz rest, v = .pointer (some ⟨b, 0, none⟩) ∧ w.heap[b]? = some (.cells c e fz) ∧ c.toList = cells ++ rest ∧ good b

def DV.rels (w : World) (good : Nat → Prop) : List Value → List DV → Prop
  | [], [] => True
  | v :: vs, d :: ds => DV.rel w good v d ∧ DV.rels w good vs ds
  | _, _ => False

def RV.rel (w : World) (good : Nat → Prop) (v : Value) : RV → Prop
  | .one d => d.rel w good v
  | .tup ds => ∃ vs : List Value, v = .tuple vs.toArray ∧ DV.rels w good vs ds
  | .upd _ _ => False

/-- what a slice value over a variable's block is -/
def SlAt (w : World) (r : Option Nat) (n : Nat) (v : Value) (off len : Nat) : Prop :=
  (len = 0 ∧ off = 0 ∧ n = 0 ∧ v = .slice none 0 0) ∨
  ∃ b cap c e fz, r = some b ∧ v = .slice (some ⟨b, off, none⟩) len cap ∧ w.heap[b]? = some (.cells c e fz) ∧ off + cap ≤ c.size ∧ len ≤ cap ∧ off + len ≤ n

def RelV (base : Nat) (w : World) (ρ : Nat → Option Nat) (m : Nat → Option Blk) (v : Value) : AV → Prop
  | .pl x => v = x
  | .vec fr xs => VecAt w (fun b => (fr = true → base ≤ b) ∧ ∀ k, ρ k ≠ some b) v xs
  | .pcell x => ∃ b o, v = .pointer (some ⟨b, o, none⟩) ∧ w.cell? ⟨b, o, none⟩ = some x ∧ ∀ k, ρ k ≠ some b
  | .pblk b cells => v = .pointer (some ⟨b, 0, none⟩) ∧ ∃ c e fz rest, w.heap[b]? = some (.cells c e fz) ∧ c.toList = cells ++ rest ∧ ∀ k, ρ k ≠ some b
  | .ptr k ver off => ∃ blk, m k = some blk ∧ ver ≤ blk.ver ∧ (ver = blk.ver → ∃ b, ρ k = some b ∧ v = .pointer (some ⟨b, off, none⟩))
  | .sl k ver off len => ∃ blk, m k = some blk ∧ ver ≤ blk.ver ∧ (ver = blk.ver → SlAt w (ρ k) blk.cells.length v off len)
  | .tup ds => ∃ vs : List Value, v = .tuple vs.toArray ∧ DV.rels w (fun b => base ≤ b ∧ ∀ k, ρ k ≠ some b) vs ds
  | .clo f ks => ∃ vs : List Value, v = .func (.func f) #[] vs.toArray ∧ vs.length = ks.length ∧
      ∀ (i k ver : Nat), ks[i]? = some (k, ver) → ∃ blk, m k = some blk ∧ ver ≤ blk.ver ∧ (ver = blk.ver → ∃ b, ρ k = some b ∧ vs[i]? = some (Value.pointer (some ⟨b, 0, none⟩)))
  | .any => True

def KeyAt (base : Nat) (w : World) (b : Nat) (blk : Blk) : Prop :=
  base ≤ b ∧ ∃ c fz, w.heap[b]? = some (.cells c blk.elem fz) ∧ (∃ rest, c.toList = blk.cells ++ rest) ∧ (fz.2 ≤ fz.1 ∨ c.size ≤ fz.1)

/-- the memory of variables -/
structure Keys (base : Nat) (w : World) (ρ : Nat → Option Nat) (m : Nat → Option Blk) : Prop where
  bnd : base ≤ w.heap.size
  keys : ∀ k blk, m k = some blk → (ρ k = none ∧ blk.cells = []) ∨ ∃ b, ρ k = some b ∧ KeyAt base w b blk
  nokey : ∀ k, m k = none → ρ k = none
  inj : ∀ k k' b, ρ k = some b → ρ k' = some b → k = k'

structure Rel (n : Nat) (w0 : World) (ρ : Nat → Option Nat) (T : Nat → AV) (m : Nat → Option Blk) (a : Act) (w : World) : Prop where
  defers : a.defers = []
  size : a.tmps.size = n
  below : Below w0.heap.size w0 w
  keys : Keys w0.heap.size w ρ m
  tmps : ∀ j, RelV w0.heap.size w ρ m (a.tmps.getD j undef) (T j)

theorem Keys.key {base : Nat} {w : World} {ρ : Nat → Option Nat} {m : Nat → Option Blk} (h : Keys base w ρ m) {k b : Nat} (hk : ρ k = some b) :
    ∃ blk, m k = some blk ∧ KeyAt base w b blk := by
  cases hm : m k with
  | none => rw [h.nokey k hm] at hk; cases hk
  | some blk =>
    rcases h.keys k blk hm with ⟨h1, _⟩ | ⟨b', hb', hr⟩
    · rw [h1] at hk; cases hk
    · rw [hb'] at hk; cases hk
      exact ⟨blk, rfl, hr⟩

/-- the block numbers of variables are real ones -/
theorem Keys.lt {base : Nat} {w : World} {ρ : Nat → Option Nat} {m : Nat → Option Blk} (h : Keys base w ρ m) {k b : Nat} (hk : ρ k = some b) : b < w.heap.size := by
  obtain ⟨blk, _, _, c, fz, hc, _⟩ := h.key hk
  exact (Array.getElem?_eq_some_iff.1 hc).1

theorem Keys.ge {base : Nat} {w : World} {ρ : Nat → Option Nat} {m : Nat → Option Blk} (h : Keys base w ρ m) {k b : Nat} (hk : ρ k = some b) : base ≤ b := by
  obtain ⟨blk, _, h1, _⟩ := h.key hk
  exact h1

theorem VecAt.mono {w w' : World} {g g' : Nat → Prop} {v : Value} {xs : List Value} (h : VecAt w g v xs)
    (hb : ∀ b, b < w.heap.size → g b → w'.heap[b]? = w.heap[b]?) (hg : ∀ b, b < w.heap.size → g b → g' b) : VecAt w' g' v xs := by
  rcases h with h | ⟨b, o, cap, c, e, fz, hv, hc, hgb, h3⟩
  · exact .inl h
  · have hlt : b < w.heap.size := (Array.getElem?_eq_some_iff.1 hc).1
    exact .inr ⟨b, o, cap, c, e, fz, hv, by rw [hb b hlt hgb]; exact hc, hg b hlt hgb, h3⟩

theorem DV.rel_mono {w w' : World} {g g' : Nat → Prop} {v : Value} {d : DV} (h : DV.rel w g v d)
    (hb : ∀ b, b < w.heap.size → g b → w'.heap[b]? = w.heap[b]?) (hg : ∀ b, b < w.heap.size → g b → g' b) : DV.rel w' g' v d := by
  cases d with
  | pl x => exact h
  | vec xs => exact VecAt.mono h hb hg
  | cel x =>
    obtain ⟨b, o, hv, hc, hgb⟩ := h
    have hlt := World.block_lt_of_cell? _ _ hc
    exact ⟨b, o, hv, by rw [World.cell?_of_block (hb b hlt hgb)]; exact hc, hg b hlt hgb⟩
  | blk cells =>
    obtain ⟨b, c, e, fz, rest, hv, hc, hr, hgb⟩ := h
    have hlt : b < w.heap.size := (Array.getElem?_eq_some_iff.1 hc).1
    exact ⟨b, c, e, fz, rest, hv, by rw [hb b hlt hgb]; exact hc, hr, hg b hlt hgb⟩

theorem DV.rels_mono {w w' : World} {g g' : Nat → Prop} : ∀ {vs : List Value} {ds : List DV}, DV.rels w g vs ds →
    (∀ b, b < w.heap.size → g b → w'.heap[b]? = w.heap[b]?) → (∀ b, b < w.heap.size → g b → g' b) → DV.rels w' g' vs ds
  | [], [], _, _, _ => trivial
  | _ :: _, _ :: _, h, hb, hg => ⟨DV.rel_mono h.1 hb hg, DV.rels_mono h.2 hb hg⟩
  | [], _ :: _, h, _, _ => h
  | _ :: _, [], h, _, _ => h

theorem RV.rel_mono {w w' : World} {g g' : Nat → Prop} {v : Value} {r : RV} (h : RV.rel w g v r)
    (hb : ∀ b, b < w.heap.size → g b → w'.heap[b]? = w.heap[b]?) (hg : ∀ b, b < w.heap.size → g b → g' b) : RV.rel w' g' v r := by
  cases r with
  | one d => exact DV.rel_mono h hb hg
  | tup ds => obtain ⟨vs, hv, hr⟩ := h; exact ⟨vs, hv, DV.rels_mono hr hb hg⟩
  | upd j L => exact h.elim

/-- nothing that was there has turned -/
theorem RelV.ext {base : Nat} {w w' : World} {ρ : Nat → Option Nat} {m : Nat → Option Blk} {v : Value} {av : AV}
    (hb : ∀ b, b < w.heap.size → w'.heap[b]? = w.heap[b]?) (h : RelV base w ρ m v av) : RelV base w' ρ m v av := by
  cases av with
  | pl x => exact h
  | vec fr xs => exact VecAt.mono h (fun b hlt _ => hb b hlt) (fun _ _ h => h)
  | pcell x =>
    obtain ⟨b, o, hv, hc, hk⟩ := h
    have hlt := World.block_lt_of_cell? _ _ hc
    exact ⟨b, o, hv, by rw [World.cell?_of_block (hb b hlt)]; exact hc, hk⟩
  | pblk b cells =>
    obtain ⟨hv, c, e, fz, rest, hc, hr, hk⟩ := h
    have hlt : b < w.heap.size := (Array.getElem?_eq_some_iff.1 hc).1
    exact ⟨hv, c, e, fz, rest, by rw [hb b hlt]; exact hc, hr, hk⟩
  | ptr k ver off => exact h
  | sl k ver off len =>
    obtain ⟨blk, h1, h2, h3⟩ := h
    refine ⟨blk, h1, h2, fun e => ?_⟩
    rcases h3 e with h | ⟨b, cap, c, e, fz, hr, hv, hc, h4⟩
    · exact .inl h
    · exact .inr ⟨b, cap, c, e, fz, hr, hv, by rw [hb b (Array.getElem?_eq_some_iff.1 hc).1]; exact hc, h4⟩
  | tup ds => obtain ⟨vs, hv, hr⟩ := h; exact ⟨vs, hv, DV.rels_mono hr (fun b hlt _ => hb b hlt) (fun _ _ h => h)⟩
  | clo f ks => exact h
  | any => trivial

theorem KeyAt.ext {base : Nat} {w w' : World} {b : Nat} {blk : Blk} (hb : b < w.heap.size → w'.heap[b]? = w.heap[b]?) (h : KeyAt base w b blk) : KeyAt base w' b blk := by
  obtain ⟨h1, c, fz, hc, h2⟩ := h
  exact ⟨h1, c, fz, by rw [hb (Array.getElem?_eq_some_iff.1 hc).1]; exact hc, h2⟩

theorem Keys.ext {base : Nat} {w w' : World} {ρ : Nat → Option Nat} {m : Nat → Option Blk} (h : Keys base w ρ m) (hb : Below w.heap.size w w') : Keys base w' ρ m where
  bnd := Nat.le_trans h.bnd hb.size
  keys k blk hk := (h.keys k blk hk).imp id fun ⟨b, h1, h2⟩ => ⟨b, h1, h2.ext (hb.block b)⟩
  nokey := h.nokey
  inj := h.inj

/-- the world has grown, all that was there is as it was -/
theorem Rel.ext {n : Nat} {w0 w w' : World} {ρ : Nat → Option Nat} {T : Nat → AV} {m : Nat → Option Blk} {a : Act} (h : Rel n w0 ρ T m a w) (hb : Below w.heap.size w w') : Rel n w0 ρ T m a w' where
  defers := h.defers
  size := h.size
  below := h.below.trans (hb.mono h.below.size)
  keys := h.keys.ext hb
  tmps j := (h.tmps j).ext hb.block

theorem getD_set (xs : Array Value) (d j : Nat) (v : Value) (h : d < xs.size) : (xs.setIfInBounds d v).getD j undef = if d = j then v else xs.getD j undef := by
  by_cases e : d = j
  · subst e; simp [h]
  · simp [e, Array.getElem?_setIfInBounds_ne e]

def upd (T : Nat → AV) (d : Option Nat) (v : AV) : Nat → AV :=
  match d with
  | some d => fun j => if d = j then v else T j
  | none => T

theorem St.get_put (st : St) (d : Option Nat) (v : AV) : (st.put d v).get = upd st.get d v := by
  cases d <;> rfl

theorem St.mem_put (st : St) (d : Option Nat) (v : AV) : (st.put d v).mem = st.mem := by
  cases d <;> rfl

theorem Rel.put {n : Nat} {w0 w : World} {ρ : Nat → Option Nat} {T : Nat → AV} {m : Nat → Option Blk} {a : Act} (h : Rel n w0 ρ T m a w) {d : Option Nat} (hd : ∀ x, d = some x → x < n) {v : Value} {av : AV}
    (hv : RelV w0.heap.size w ρ m v av) : Rel n w0 ρ (upd T d av) m (a.put d v) w := by
  cases d with
  | none => exact h
  | some d =>
    refine ⟨h.defers, by simp [Act.put, h.size], h.below, h.keys, fun j => ?_⟩
    have hd' := hd d rfl
    show RelV _ _ _ _ ((a.tmps.setIfInBounds d v).getD j undef) (if d = j then av else T j)
    rw [getD_set _ _ _ _ (by rw [h.size]; exact hd')]
    split
    · exact hv
    · exact h.tmps j

def evT (T : Nat → AV) : Operand → AV
  | .tmp t => T t
  | .const v => .pl v
  | .global g => .pl (.pointer (some ⟨g, 0, none⟩))
  | .func f => .clo f []

theorem Rel.eval {n : Nat} {w0 w : World} {ρ : Nat → Option Nat} {T : Nat → AV} {m : Nat → Option Blk} {a : Act} (h : Rel n w0 ρ T m a w) (x : Operand) :
    RelV w0.heap.size w ρ m (a.eval x) (evT T x) := by
  cases x with
  | tmp t => exact h.tmps t
  | const v => exact (rfl : v = v)
  | global g => exact (rfl : Value.pointer _ = _)
  | func f => exact ⟨[], rfl, rfl, by simp⟩

def RV.av : RV → AV
  | .one (.pl v) => .pl v
  | .one (.vec xs) => .vec true xs
  | .one (.cel x) => .pcell x
  | .one (.blk _) => .any
  | .tup ds => .tup ds
  | .upd _ _ => .any

def DV.av : DV → AV
  | .pl v => .pl v
  | .vec xs => .vec true xs
  | .cel x => .pcell x
  | .blk _ => .any

def isNil : Value → Bool
  | .slice none 0 0 => true
  | _ => false

def AV.dv (m : Nat → Option Blk) : AV → Option DV
  | .pl v => some (if isNil v then .vec [] else .pl v)
  | .vec _ xs => some (.vec xs)
  | .sl k ver off len => match m k with
    | some blk => if ver = blk.ver ∧ off + len ≤ blk.cells.length then some (.vec ((blk.cells.drop off).take len)) else none
    | none => none
  | _ => none

theorem isNil_eq {v : Value} (h : isNil v = true) : v = .slice none 0 0 := by
  unfold isNil at h
  split at h
  · rfl
  · cases h

theorem SlAt.vec {base : Nat} {w : World} {ρ : Nat → Option Nat} {m : Nat → Option Blk} (hk : Keys base w ρ m) {k : Nat} {blk : Blk} (hm : m k = some blk) {v : Value} {off len : Nat}
    (h : SlAt w (ρ k) blk.cells.length v off len) (hl : off + len ≤ blk.cells.length) : VecAt w (fun b => base ≤ b) v ((blk.cells.drop off).take len) := by
  have hlen : ((blk.cells.drop off).take len).length = len := by simp; omega
  rcases h with ⟨rfl, rfl, hn, hv⟩ | ⟨b, cap, c, e, fz, hr, hv, hc, h1, h2, h3⟩
  · exact .inl ⟨by simp, hv⟩
  · refine .inr ⟨b, off, cap, c, e, fz, by rw [hlen]; exact hv, hc, hk.ge hr, ?_, by rw [hlen]; exact h2, h1⟩
    obtain ⟨blk', hm', _, c', fz', hc', ⟨rest, hrest⟩, _⟩ := hk.key hr
    rw [hm] at hm'; cases hm'
    rw [hc] at hc'; cases hc'
    rw [hlen, hrest, List.drop_append, List.take_append]
    simp
    omega

theorem AV.dv_sound {base : Nat} {w : World} {ρ : Nat → Option Nat} {m : Nat → Option Blk} (hk : Keys base w ρ m) {v : Value} {av : AV} (h : RelV base w ρ m v av) {d : DV}
    (hd : av.dv m = some d) : DV.rel w (fun _ => True) v d := by
  cases av with
  | pl x =>
    simp only [AV.dv, Option.some.injEq] at hd
    obtain rfl : v = x := h
    split at hd
    · rename_i hn; rw [← hd]; exact .inl ⟨rfl, isNil_eq hn⟩
    · rw [← hd]; exact (rfl : v = v)
  | vec fr xs => cases hd; exact VecAt.mono h (fun _ _ _ => rfl) (fun _ _ _ => trivial)
  | sl k ver off len =>
    obtain ⟨blk, hm, hle, hs⟩ := h
    simp only [AV.dv, hm] at hd
    split at hd
    · rename_i hc
      cases hd
      exact VecAt.mono (SlAt.vec hk hm (hs hc.1) hc.2) (fun _ _ _ => rfl) (fun _ _ _ => trivial)
    · cases hd
  | pcell x => cases hd
  | pblk b cells => cases hd
  | ptr k ver off => cases hd
  | tup ds => cases hd
  | clo f ks => cases hd
  | any => cases hd

theorem RV.av_sound {base : Nat} {w : World} {ρ : Nat → Option Nat} {m : Nat → Option Blk} {v : Value} {r : RV} (h : RV.rel w (fun b => base ≤ b ∧ ∀ k, ρ k ≠ some b) v r) : RelV base w ρ m v r.av := by
  cases r with
  | one d =>
    cases d with
    | pl x => exact h
    | vec xs => exact VecAt.mono h (fun _ _ _ => rfl) (fun _ _ h => ⟨fun _ => h.1, h.2⟩)
    | cel x =>
      obtain ⟨b, o, hv, hc, hg⟩ := h
      exact ⟨b, o, hv, hc, hg.2⟩
    | blk cells => trivial
  | tup ds => exact h
  | upd j L => exact h.elim

theorem DV.av_sound {base : Nat} {w : World} {ρ : Nat → Option Nat} {m : Nat → Option Blk} {v : Value} {d : DV} (h : DV.rel w (fun b => base ≤ b ∧ ∀ k, ρ k ≠ some b) v d) : RelV base w ρ m v d.av := by
  cases d with
  | pl x => exact h
  | vec xs => exact VecAt.mono h (fun _ _ _ => rfl) (fun _ _ h => ⟨fun _ => h.1, h.2⟩)
  | cel x =>
    obtain ⟨b, o, hv, hc, hg⟩ := h
    exact ⟨b, o, hv, hc, hg.2⟩
  | blk cells => trivial

end Go.Vm
namespace Go.Vm
open Go Go.RowKit

/-! ### Blocks -/
theorem cell_of_blk {w : World} {b : Nat} {c : Array Value} {e : TypeId} {fz : Nat × Nat} (h : w.heap[b]? = some (.cells c e fz)) (o : Nat) : w.cell? ⟨b, o, none⟩ = c[o]? := by
  simp [World.cell?, h]

theorem run_loadCells_blk {P : Program} {w : World} {b : Nat} {c : Array Value} {e : TypeId} {fz : Nat × Nat} (h : w.heap[b]? = some (.cells c e fz)) (off n : Nat) (hn : off + n ≤ c.size) :
    (loadCells ⟨b, off, none⟩ n).run P w = .ok ((c.toList.drop off).take n).toArray w := by
  have hl : ((c.toList.drop off).take n).length = n := by simp; omega
  have := run_loadCells_list (P := P) w ⟨b, off, none⟩ ((c.toList.drop off).take n) (fun j v hj => by
    rw [Addr.add_lit, cell_of_blk h]
    rw [List.getElem?_take] at hj
    split at hj
    · rw [List.getElem?_drop] at hj; simpa using hj
    · cases hj)
  rw [hl] at this
  exact this

theorem prefix_drop_take {l pre rest : List Value} (h : l = pre ++ rest) (off n : Nat) (hn : off + n ≤ pre.length) : (l.drop off).take n = (pre.drop off).take n := by
  rw [h, List.drop_append, List.take_append]
  simp
  omega

theorem prefix_get {l pre rest : List Value} (h : l = pre ++ rest) (o : Nat) (ho : o < pre.length) : l[o]? = pre[o]? := by
  rw [h, List.getElem?_append_left ho]

/-! ### Plain values -/
/-- whether two values of a type that is a struct or an array are the same, where that is known -/
noncomputable def eqV (P : Program) (t : TypeId) (xs ys : Array Value) : Option Bool :=
  open Classical in
  if h : ∃ b, ∀ w : World, (Op.equal t (.agg xs) (.agg ys)).run P w = .ok b w then some h.choose else none

theorem eqV_run {P : Program} {t : TypeId} {xs ys : Array Value} {b : Bool} (h : eqV P t xs ys = some b) (w : World) : (Op.equal t (.agg xs) (.agg ys)).run P w = .ok b w := by
  unfold eqV at h
  split at h
  · rename_i hx
    cases h
    exact hx.choose_spec w
  · cases h

theorem eqV_of {P : Program} {t : TypeId} {xs ys : Array Value} {b : Bool} (h : ∀ w : World, (Op.equal t (.agg xs) (.agg ys)).run P w = .ok b w) : eqV P t xs ys = some b := by
  unfold eqV
  have hx : ∃ b, ∀ w : World, (Op.equal t (.agg xs) (.agg ys)).run P w = .ok b w := ⟨b, h⟩
  rw [dif_pos hx]
  have h1 := hx.choose_spec default
  rw [h default] at h1
  cases h1
  rfl

def intK (op : BinOp) (k : IntKind) (a b : Int) (K : Value → Prop) : Prop :=
  match op with
  | .add => K (.int k (k.wrap (a + b)))
  | .sub => K (.int k (k.wrap (a - b)))
  | .mul => K (.int k (k.wrap (a * b)))
  | .quo => b ≠ 0 ∧ K (.int k (k.wrap (a.tdiv b)))
  | .rem => b ≠ 0 ∧ K (.int k (a.tmod b))
  | .and => K (.int k (bits .and k a b))
  | .or => K (.int k (bits .or k a b))
  | .xor => K (.int k (bits .xor k a b))
  | .andNot => K (.int k (bits .andNot k a b))
  | .eql => K (.bool (a == b))
  | .neq => K (.bool (a != b))
  | .lss => K (.bool (decide (a < b)))
  | .leq => K (.bool (decide (a ≤ b)))
  | .gtr => K (.bool (decide (b < a)))
  | .geq => K (.bool (decide (b ≤ a)))
  | _ => False

def binK (P : Program) (op : BinOp) (t : TypeId) (x y : Value) (K : Value → Prop) : Prop :=
  match x, y with
  | .int k a, .int k' b =>
    match op with
    | .shl => 0 ≤ b ∧ K (.int k (k.wrap (a * 2 ^ (min b.toNat k.bits))))
    | .shr => 0 ≤ b ∧ K (.int k (a.fdiv (2 ^ (min b.toNat k.bits))))
    | op => k = k' ∧ intK op k a b K
  | .bool a, .bool b =>
    match op with
    | .eql => P.underlying t = some .bool ∧ K (.bool (a == b))
    | .neq => P.underlying t = some .bool ∧ K (.bool (!(a == b)))
    | _ => False
  | .string a, .string b =>
    match op with
    | .add => a.size + b.size ≤ 9223372036854775807 ∧ K (.string (a ++ b))
    | .eql => K (.bool (a.toList == b.toList))
    | .neq => K (.bool (!(a.toList == b.toList)))
    | _ => False
  | .agg xs, .agg ys =>
    match op with
    | .eql => P.eqGuardType P.depth t = false ∧ ∃ b, eqV P t xs ys = some b ∧ K (.bool b)
    | .neq => P.eqGuardType P.depth t = false ∧ ∃ b, eqV P t xs ys = some b ∧ K (.bool (!b))
    | _ => False
  | _, _ => False

theorem intK_sound {P : Program} {op : BinOp} {t : TypeId} {k : IntKind} {a b : Int} {K : Value → Prop} (hs : op ≠ .shl) (hs' : op ≠ .shr) (h : intK op k a b K) :
    ∃ v, (∀ w : World, (binOp op t (.int k a) (.int k b)).run P w = .ok v w) ∧ K v := by
  cases op <;> simp only [intK] at h <;> first
    | exact absurd rfl hs
    | exact absurd rfl hs'
    | exact h.elim
    | exact ⟨_, fun w => rfl, h.2⟩
    | skip
  case add => exact ⟨_, fun w => by simp [binOp, Op.intArith], h⟩
  case sub => exact ⟨_, fun w => by simp [binOp, Op.intArith], h⟩
  case mul => exact ⟨_, fun w => by simp [binOp, Op.intArith], h⟩
  case quo => exact ⟨_, fun w => by simp [binOp, Op.intDiv, h.1], h.2⟩
  case rem => exact ⟨_, fun w => by simp [binOp, Op.intDiv, h.1], h.2⟩
  case and => exact ⟨_, fun w => by simp [binOp, intBits_and], h⟩
  case or => exact ⟨_, fun w => by simp [binOp, intBits_or], h⟩
  case xor => exact ⟨_, fun w => by simp [binOp, intBits_xor], h⟩
  case andNot => exact ⟨_, fun w => by simp [binOp, intBits_andNot], h⟩
  case eql => exact ⟨_, fun w => by simp [binOp, Op.intCmp], h⟩
  case neq => exact ⟨_, fun w => by simp [binOp, Op.intCmp], h⟩
  case lss => exact ⟨_, fun w => by simp [binOp, Op.intCmp], h⟩
  case leq => exact ⟨_, fun w => by simp [binOp, Op.intCmp], h⟩
  case gtr => exact ⟨_, fun w => by simp [binOp, Op.intCmp], h⟩
  case geq => exact ⟨_, fun w => by simp [binOp, Op.intCmp], h⟩

theorem run_eql_bool {P : Program} {t : TypeId} (h : P.underlying t = some .bool) (a b : Bool) (w : World) : (binOp .eql t (.bool a) (.bool b)).run P w = .ok (.bool (a == b)) w := by
  have e : binOp .eql t (.bool a) (.bool b) = (do pure (.bool (← Op.equal t (.bool a) (.bool b)))) := by simp only [binOp]
  have h2 : (Op.equal t (.bool a) (.bool b)).run P w = .ok (a == b) w := run_equalIn_bool' w 9999 t a b h
  rw [e, Sem.run_bind, h2]
  rfl

theorem run_neq_bool {P : Program} {t : TypeId} (h : P.underlying t = some .bool) (a b : Bool) (w : World) : (binOp .neq t (.bool a) (.bool b)).run P w = .ok (.bool (!(a == b))) w := by
  have e : binOp .neq t (.bool a) (.bool b) = (do pure (.bool (!(← Op.equal t (.bool a) (.bool b))))) := by simp only [binOp]
  have h2 : (Op.equal t (.bool a) (.bool b)).run P w = .ok (a == b) w := run_equalIn_bool' w 9999 t a b h
  rw [e, Sem.run_bind, h2]
  rfl

theorem binK_sound {P : Program} {op : BinOp} {t : TypeId} {x y : Value} {K : Value → Prop} (h : binK P op t x y K) :
    ∃ v, (∀ (u z : Operand) (w : World), (do eqGuard op t u z x y; binOp op t x y).run P w = .ok v w) ∧ K v := by
  unfold binK at h
  split at h
  · rename_i k a k' b
    split at h
    · exact ⟨_, fun u z w => by have : ¬ b < 0 := by omega
                                simp [eqGuard_at_int, binOp, Op.shift, this], h.2⟩
    · exact ⟨_, fun u z w => by have : ¬ b < 0 := by omega
                                simp [eqGuard_at_int, binOp, Op.shift, this], h.2⟩
    · rename_i op h1 h2
      obtain ⟨rfl, h⟩ := h
      obtain ⟨v, hv, hk⟩ := intK_sound (P := P) (t := t) h1 h2 h
      exact ⟨v, fun u z w => by simp [eqGuard_at_int, hv], hk⟩
  · rename_i a b
    split at h
    · exact ⟨_, fun u z w => by rw [eqGuard_at_bool, Sem.run_bind, Sem.run_pure, Result.andThen_ok, run_eql_bool h.1], h.2⟩
    · exact ⟨_, fun u z w => by rw [eqGuard_at_bool, Sem.run_bind, Sem.run_pure, Result.andThen_ok, run_neq_bool h.1], h.2⟩
    · exact h.elim
  · rename_i a b
    split at h
    · refine ⟨_, fun u z w => ?_, h.2⟩
      have : ¬ (9223372036854775807 : Int) < ((a.size + b.size : Nat) : Int) := by have := h.1; omega
      simp [eqGuard_at_string, binOp, Op.stringOp]
      omega
    · exact ⟨_, fun u z w => by simp [eqGuard_at_string, binOp, Op.stringOp], h⟩
    · exact ⟨_, fun u z w => by simp [eqGuard_at_string, binOp, Op.stringOp], h⟩
    · exact h.elim
  · rename_i xs ys
    split at h
    · obtain ⟨hg, b, hb, hk⟩ := h
      exact ⟨_, fun u z w => by simp [run_eqGuard_agg w _ t u z xs ys hg, binOp, eqV_run hb], hk⟩
    · obtain ⟨hg, b, hb, hk⟩ := h
      exact ⟨_, fun u z w => by simp [run_eqGuard_agg w _ t u z xs ys hg, binOp, eqV_run hb], hk⟩
    · exact h.elim
  · exact h.elim

def unK (op : UnOp) (x : Value) (K : Value → Prop) : Prop :=
  match op, x with
  | .not, .bool b => K (.bool !b)
  | .neg, .int k n => K (.int k (k.wrap (0 - n)))
  | .xor, .int k n => K (.int k (bits .xor k (if k.signed then -1 else k.max) n))
  | _, _ => False

theorem unK_sound {P : Program} {op : UnOp} {x : Value} {K : Value → Prop} (h : unK op x K) : ∃ v, (∀ w : World, (Op.unary op x).run P w = .ok v w) ∧ K v := by
  unfold unK at h
  split at h
  · exact ⟨_, fun w => by simp [Op.unary], h⟩
  · exact ⟨_, fun w => by simp [Op.unary, Op.intArith], h⟩
  · exact ⟨_, fun w => by simp [Op.unary, intBits_xor], h⟩
  · exact h.elim

/-- the elements of a slice -/
def AV.cont (m : Nat → Option Blk) : AV → Option (List Value)
  | .pl v => if isNil v then some [] else none
  | .vec _ xs => some xs
  | .sl k ver off len => match m k with
    | some blk => if ver = blk.ver ∧ off + len ≤ blk.cells.length then some ((blk.cells.drop off).take len) else none
    | none => none
  | _ => none

theorem AV.cont_sound {base : Nat} {w : World} {ρ : Nat → Option Nat} {m : Nat → Option Blk} (hk : Keys base w ρ m) {v : Value} {av : AV} (h : RelV base w ρ m v av) {xs : List Value}
    (hx : av.cont m = some xs) : VecAt w (fun _ => True) v xs := by
  cases av with
  | pl x =>
    simp only [AV.cont] at hx
    obtain rfl : v = x := h
    split at hx
    · rename_i hn; cases hx; exact .inl ⟨rfl, isNil_eq hn⟩
    · cases hx
  | vec fr xs => cases hx; exact VecAt.mono h (fun _ _ _ => rfl) (fun _ _ _ => trivial)
  | sl k ver off len =>
    obtain ⟨blk, hm, hle, hs⟩ := h
    simp only [AV.cont, hm] at hx
    split at hx
    · rename_i hc
      cases hx
      exact VecAt.mono (SlAt.vec hk hm (hs hc.1) hc.2) (fun _ _ _ => rfl) (fun _ _ _ => trivial)
    · cases hx
  | pcell x => cases hx
  | pblk b cells => cases hx
  | ptr k ver off => cases hx
  | tup ds => cases hx
  | clo f ks => cases hx
  | any => cases hx

/-- the bytes of a list of byte values -/
def u8s : List Value → Option (List UInt8)
  | [] => some []
  | .int .u8 n :: r => match u8s r with
    | some bs => some (UInt8.ofNat n.toNat :: bs)
    | none => none
  | _ :: _ => none

theorem u8s_map (ns : List Int) : u8s (ns.map (Value.int .u8)) = some (ns.map fun n => UInt8.ofNat n.toNat) := by
  induction ns with
  | nil => rfl
  | cons n ns ih => simp [u8s, ih]

theorem u8s_eq : ∀ {xs : List Value} {bs : List UInt8}, u8s xs = some bs → ∃ ns : List Int, xs = ns.map (Value.int .u8) ∧ bs = ns.map fun n => UInt8.ofNat n.toNat
  | [], bs, h => by cases h; exact ⟨[], rfl, rfl⟩
  | x :: r, bs, h => by
    unfold u8s at h
    split at h
    · rename_i he; cases he
    · rename_i n r' he
      cases he
      split at h
      · rename_i bs' hb
        cases h
        obtain ⟨ns, rfl, rfl⟩ := u8s_eq hb
        exact ⟨n :: ns, rfl, rfl⟩
      · cases h
    · cases h

def bstr (l : List UInt8) : ByteArray := ⟨l.toArray⟩

theorem foldl_push (ns : List Int) : ∀ s : ByteArray, ns.foldl (fun r n => r.push (UInt8.ofNat n.toNat)) s = ⟨s.data ++ (ns.map fun n => UInt8.ofNat n.toNat).toArray⟩ := by
  induction ns with
  | nil => intro s; simp
  | cons n ns ih => intro s; rw [List.foldl_cons, ih]; simp [ByteArray.push]

theorem run_bytes_vec {P : Program} {w : World} {g : Nat → Prop} {v : Value} {xs : List Value} (h : VecAt w g v xs) {bs : List UInt8} (hb : u8s xs = some bs) {src dst e : TypeId}
    (hs : P.underlying src = some (.slice e)) (he : P.underlying e = some (.int .u8)) (hd : P.underlying dst = some .string) :
    (convert src dst v).run P w = .ok (.string (bstr bs)) w := by
  rcases h with ⟨rfl, rfl⟩ | ⟨b, o, cap, c, e', fz, rfl, hc, _, hx, h1, h2⟩
  · cases hb
    rw [run_convert_bytes_string w src dst e _ _ _ hs he hd]
    simp [Conv.bytesToString, bstr]
    rfl
  · rw [run_convert_bytes_string w src dst e _ _ _ hs he hd]
    obtain ⟨ns, rfl, rfl⟩ := u8s_eq hb
    have hl := run_loadCells_blk (P := P) hc o (ns.map (Value.int .u8)).length (by omega)
    rw [hx] at hl
    rw [run_bytesToString w ⟨b, o, none⟩ _ cap ns hl, foldl_push]
    simp [bstr]

end Go.Vm
namespace Go.Vm
open Go Go.RowKit

/-- what an operation that has run so leaves -/
def Does (P : Program) (R : Value → World → Prop) : Result Next → Prop
  | .ok (.value v) w' => R v w'
  | .ok .skip w' => R undef w'
  | .ok (.enter f args) w' => Calls P f args w' (fun e w'' => ∃ v, e = .returned v ∧ R v w'')
  | _ => False

theorem Does.mono {P : Program} {R R' : Value → World → Prop} {r : Result Next} (h : Does P R r) (hr : ∀ v w, R v w → R' v w) : Does P R' r := by
  unfold Does at *
  split at h
  · exact hr _ _ h
  · exact hr _ _ h
  · exact Calls.mono h fun e w ⟨v, he, hv⟩ => ⟨v, he, hr _ _ hv⟩
  · exact h.elim

/-- A contract: called with values that read so it hands back a value that reads so; nothing that was there has turned. -/
def Spec (P : Program) (f : FuncId) (ds : List DV) (r : RV) : Prop :=
  ∀ (w : World) (vs : List Value), DV.rels w (fun _ => True) vs ds →
    Does P (fun v w' => RV.rel w' (fun b => w.heap.size ≤ b) v r ∧ Below w.heap.size w w') ((callFunc f vs.toArray).run P w)

abbrev Env := List (Nat × (List DV → Option RV))

/-- one block has turned, all else that was there is as it was -/
structure UpdAt (w w' : World) (b : Nat) (L : List Value) : Prop where
  os : w'.os = w.os
  tape : w'.tape = w.tape
  output : w'.output = w.output
  size : w.heap.size ≤ w'.heap.size
  other : ∀ k, k < w.heap.size → k ≠ b → w'.heap[k]? = w.heap[k]?
  here : ∀ c e fz cells rest, w.heap[b]? = some (.cells c e fz) → c.toList = cells ++ rest → cells.length = L.length → ∃ c', w'.heap[b]? = some (.cells c' e fz) ∧ c'.toList = L ++ rest

/-- a contract of a function that turns the block to which its value number j points -/
def SpecW (P : Program) (f : FuncId) (ds : List DV) (j : Nat) (L : List Value) : Prop :=
  ∀ (w : World) (vs : List Value), DV.rels w (fun _ => True) vs ds → ∀ b c e fz, vs[j]? = some (Value.pointer (some ⟨b, 0, none⟩)) → w.heap[b]? = some (.cells c e fz) → (fz.2 ≤ fz.1 ∨ c.size ≤ fz.1) →
    Does P (fun v w' => v = .tuple #[] ∧ UpdAt w w' b L) ((callFunc f vs.toArray).run P w)

def SpecR (P : Program) (f : FuncId) (ds : List DV) : RV → Prop
  | .upd j L => SpecW P f ds j L
  | r => Spec P f ds r

theorem SpecR.of {P : Program} {f : FuncId} {ds : List DV} {r : RV} (h : Spec P f ds r) : SpecR P f ds r := by
  cases r with
  | upd j L => exact fun w vs hv _ _ _ _ _ _ _ => (h w vs hv).mono fun _ _ h => h.1.elim
  | one d => exact h
  | tup ds => exact h

def Env.ok (Γ : Env) (P : Program) : Prop := ∀ f g, look Γ f = some g → ∀ ds r, g ds = some r → SpecR P f ds r

def szOf (P : Program) (t : TypeId) : Option Nat := (P.info? t).map (·.size)

theorem run_sizeOf {P : Program} {t : TypeId} {s : Nat} (h : szOf P t = some s) (w : World) : (sizeOf t).run P w = .ok s w := by
  unfold szOf at h
  cases hi : P.info? t with
  | none => rw [hi] at h; cases h
  | some i => rw [hi] at h; cases h; simp [sizeOf, typeInfo, hi]

def aggOf (P : Program) (t : TypeId) : Option Bool :=
  (P.underlying t).map fun
    | .struct _ | .array _ _ => true
    | _ => false

theorem run_isAgg {P : Program} {t : TypeId} {s : Bool} (h : aggOf P t = some s) (w : World) : (isAgg t).run P w = .ok s w := by
  unfold aggOf at h
  cases hi : P.underlying t with
  | none => rw [hi] at h; cases h
  | some d =>
    rw [hi] at h
    simp only [isAgg, Sem.run_bind, run_underlying hi, Result.andThen_ok]
    cases d <;> cases h <;> rfl

def withKey (m : Nat → Option Blk) (k ver : Nat) (K : Blk → Prop) : Prop :=
  match m k with
  | some blk => ver = blk.ver ∧ K blk
  | none => False

theorem withKey_eq (m : Nat → Option Blk) (k ver : Nat) (K : Blk → Prop) : withKey m k ver K = (match m k with
  | some blk => ver = blk.ver ∧ K blk
  | none => False) := rfl

theorem withKey_elim {m : Nat → Option Blk} {k ver : Nat} {K : Blk → Prop} (h : withKey m k ver K) : ∃ blk, m k = some blk ∧ ver = blk.ver ∧ K blk := by
  unfold withKey at h
  split at h
  · rename_i blk hb; exact ⟨blk, hb, h⟩
  · exact h.elim

def loadK (P : Program) (m : Nat → Option Blk) (t : TypeId) (av : AV) (K : AV → Prop) : Prop :=
  match av with
  | .pcell x => aggOf P t = some false ∧ K (.pl x)
  | .pblk _ cells => (match aggOf P t with
    | some true => (match szOf P t with
      | some s => s ≤ cells.length ∧ K (.pl (.agg (cells.take s).toArray))
      | none => False)
    | _ => False)
  | .ptr k ver off => withKey m k ver fun blk =>
    match aggOf P t with
    | some true => (match szOf P t with
      | some s => off + s ≤ blk.cells.length ∧ K (.pl (.agg ((blk.cells.drop off).take s).toArray))
      | none => False)
    | some false => off < blk.cells.length ∧ K (.pl (blk.cells[off]?.getD undef))
    | none => False
  | _ => False

theorem loadK_sound {P : Program} {m : Nat → Option Blk} {t : TypeId} {av : AV} {K : AV → Prop} (h : loadK P m t av K) :
    ∃ r, K r ∧ ∀ base w ρ v, Keys base w ρ m → RelV base w ρ m v av → ∃ x, (Instr.loadAt t v).run P w = .ok x w ∧ RelV base w ρ m x r := by
  unfold loadK at h
  split at h
  · rename_i x
    refine ⟨_, h.2, fun base w ρ v hk hv => ?_⟩
    obtain ⟨b, o, rfl, hc, _⟩ := hv
    exact ⟨x, by simp [Instr.loadAt, Instr.sureAddr, loadVar, run_isAgg h.1, run_load, hc], rfl⟩
  · rename_i b cells
    split at h
    · rename_i ha
      split at h
      · rename_i s hs
        refine ⟨_, h.2, fun base w ρ v hk hv => ?_⟩
        obtain ⟨rfl, c, e, fz, rest, hc, hrest, _⟩ := hv
        have hsz : 0 + s ≤ c.size := by have := congrArg List.length hrest; simp at this; omega
        refine ⟨_, ?_, rfl⟩
        simp only [Instr.loadAt, Instr.sureAddr, loadVar, Sem.run_bind, Sem.run_pure, Result.andThen_ok, run_isAgg ha, if_true, run_sizeOf hs, run_loadCells_blk hc 0 s hsz]
        rw [prefix_drop_take hrest 0 s (by simpa using h.1), List.drop_zero]
      · exact h.elim
    · exact h.elim
  · rename_i k ver off
    have hwk := withKey_elim h
    clear h
    obtain ⟨blk, hm, rfl, h⟩ := hwk
    split at h
    · rename_i ha
      split at h
      · rename_i s hs
        refine ⟨_, h.2, fun base w ρ v hk hv => ?_⟩
        obtain ⟨blk', hm', _, hp⟩ := hv
        rw [hm] at hm'; cases hm'
        obtain ⟨b, hb, rfl⟩ := hp rfl
        obtain ⟨blk', hm', _, c, fz, hc, ⟨rest, hrest⟩, _⟩ := hk.key hb
        rw [hm] at hm'; cases hm'
        have hsz : off + s ≤ c.size := by have := congrArg List.length hrest; simp at this; omega
        refine ⟨_, ?_, rfl⟩
        simp only [Instr.loadAt, Instr.sureAddr, loadVar, Sem.run_bind, Sem.run_pure, Result.andThen_ok, run_isAgg ha, if_true, run_sizeOf hs, run_loadCells_blk hc off s hsz]
        rw [prefix_drop_take hrest off s h.1]
      · exact h.elim
    · rename_i ha
      refine ⟨_, h.2, fun base w ρ v hk hv => ?_⟩
      obtain ⟨blk', hm', _, hp⟩ := hv
      rw [hm] at hm'; cases hm'
      obtain ⟨b, hb, rfl⟩ := hp rfl
      obtain ⟨blk', hm', _, c, fz, hc, ⟨rest, hrest⟩, _⟩ := hk.key hb
      rw [hm] at hm'; cases hm'
      refine ⟨_, ?_, rfl⟩
      have hget : c[off]? = some (blk.cells[off]?.getD undef) := by
        rw [← Array.getElem?_toList, prefix_get hrest off h.1, List.getElem?_eq_getElem h.1]; rfl
      simp [Instr.loadAt, Instr.sureAddr, loadVar, run_isAgg ha, run_load, cell_of_blk hc, hget]
    · exact h.elim
  · exact h.elim

def intOfAV (av : AV) (K : IntKind → Int → Prop) : Prop :=
  match av with
  | .pl (.int k n) => K k n
  | _ => False

def idxAddrK (P : Program) (m : Nat → Option Blk) (t : TypeId) (av : AV) (i : Int) (K : AV → Prop) : Prop :=
  match P.underlying t with
  | some (.array n e) =>
    match av with
    | .ptr k ver off => 0 ≤ i ∧ i < n ∧ withKey m k ver fun _ => match szOf P e with
      | some s => K (.ptr k ver (off + i.toNat * s))
      | none => False
    | _ => False
  | some (.slice e) =>
    match av with
    | .vec _ xs => szOf P e = some 1 ∧ 0 ≤ i ∧ i < xs.length ∧ K (.pcell (xs[i.toNat]?.getD undef))
    | .sl k ver off len => 0 ≤ i ∧ i < len ∧ withKey m k ver fun _ => match szOf P e with
      | some s => K (.ptr k ver (off + i.toNat * s))
      | none => False
    | _ => False
  | _ => False

theorem idxAddrK_sound {P : Program} {m : Nat → Option Blk} {t : TypeId} {av : AV} {i : Int} {K : AV → Prop} (h : idxAddrK P m t av i K) :
    ∃ r, K r ∧ ∀ base w ρ v kd, Keys base w ρ m → RelV base w ρ m v av → ∃ x, (Instr.indexAt t v (.int kd i)).run P w = .ok x w ∧ RelV base w ρ m x r := by
  unfold idxAddrK at h
  split at h
  · rename_i n e ht
    split at h
    · rename_i k ver off
      obtain ⟨h0, h1, h⟩ := h
      have hwk := withKey_elim h
      clear h
      obtain ⟨blk, hm, rfl, h⟩ := hwk
      split at h
      · rename_i s hs
        refine ⟨_, h, fun base w ρ v kd hk hv => ?_⟩
        obtain ⟨blk', hm', _, hp⟩ := hv
        rw [hm] at hm'; cases hm'
        obtain ⟨b, hb, rfl⟩ := hp rfl
        exact ⟨_, by simp [Instr.indexAt, asIntOf, run_underlying ht, Instr.sureAddr, h0, h1, run_sizeOf hs, Addr.add_lit], blk, hm, Nat.le_refl _, fun _ => ⟨b, hb, rfl⟩⟩
      · exact h.elim
    · exact h.elim
  · rename_i e ht
    split at h
    · rename_i fr xs
      obtain ⟨hs, h0, h1, h⟩ := h
      refine ⟨_, h, fun base w ρ v kd hk hv => ?_⟩
      rcases hv with ⟨rfl, _⟩ | ⟨b, o, cap, c, e', fz, rfl, hc, hg, hx, h2, h3⟩
      · simp at h1; omega
      · refine ⟨_, by simp [Instr.indexAt, asIntOf, run_underlying ht, h0, h1, run_sizeOf hs, Addr.add_lit], b, o + i.toNat, rfl, ?_, hg.2⟩
        rw [cell_of_blk hc, ← Array.getElem?_toList]
        have hlt : i.toNat < xs.length := by omega
        have : xs[i.toNat]? = c.toList[o + i.toNat]? := by
          conv => lhs; rw [← hx]
          rw [List.getElem?_take_of_lt hlt, List.getElem?_drop]
        rw [this]
        have hlt2 : o + i.toNat < c.toList.length := by simp; omega
        rw [List.getElem?_eq_getElem hlt2]; rfl
    · rename_i k ver off len
      obtain ⟨h0, h1, h⟩ := h
      have hwk := withKey_elim h
      clear h
      obtain ⟨blk, hm, rfl, h⟩ := hwk
      split at h
      · rename_i s hs
        refine ⟨_, h, fun base w ρ v kd hk hv => ?_⟩
        obtain ⟨blk', hm', _, hp⟩ := hv
        rw [hm] at hm'; cases hm'
        rcases hp rfl with ⟨rfl, _⟩ | ⟨b, cap, c, e', fz, hb, rfl, hc, _⟩
        · omega
        · exact ⟨_, by simp [Instr.indexAt, asIntOf, run_underlying ht, h0, h1, run_sizeOf hs, Addr.add_lit], blk, hm, Nat.le_refl _, fun _ => ⟨b, hb, rfl⟩⟩
      · exact h.elim
    · exact h.elim
  · exact h.elim

/-- a part of a struct or an array -/
def partK (P : Program) (t : TypeId) (cs : Array Value) (off : Nat) (K : Value → Prop) : Prop :=
  match aggOf P t with
  | some true => (match szOf P t with
    | some s => K (.agg (cs.extract off (off + s)))
    | none => False)
  | some false => off < cs.size ∧ K (cs[off]?.getD undef)
  | none => False

theorem partK_sound {P : Program} {t : TypeId} {cs : Array Value} {off : Nat} {K : Value → Prop} (h : partK P t cs off K) : ∃ v, K v ∧ ∀ w : World, (part t cs off).run P w = .ok v w := by
  unfold partK at h
  split at h
  · rename_i ha
    split at h
    · rename_i s hs
      exact ⟨_, h, fun w => by simp [part, run_isAgg ha, run_sizeOf hs]⟩
    · exact h.elim
  · rename_i ha
    exact ⟨_, h.2, fun w => by simp [part, run_isAgg ha, h.1]⟩
  · exact h.elim

def indexK (P : Program) (t : TypeId) (v : Value) (i : Int) (K : Value → Prop) : Prop :=
  match P.underlying t, v with
  | some (.array n e), .agg cs => 0 ≤ i ∧ i < n ∧ (match szOf P e with
    | some s => partK P e cs (i.toNat * s) K
    | none => False)
  | some .string, .string s => 0 ≤ i ∧ i < s.size ∧ K (.int .u8 ((s[i.toNat]?.getD 0).toNat : Nat))
  | _, _ => False

theorem indexK_sound {P : Program} {t : TypeId} {x : Value} {i : Int} {K : Value → Prop} (h : indexK P t x i K) : ∃ v, K v ∧ ∀ (kd : IntKind) (w : World), (Instr.index t x (.int kd i)).run P w = .ok v w := by
  unfold indexK at h
  split at h
  · rename_i n e cs ht
    obtain ⟨h0, h1, h⟩ := h
    split at h
    · rename_i s hs
      obtain ⟨v, hv, hr⟩ := partK_sound h
      exact ⟨v, hv, fun kd w => by simp [Instr.index, asIntOf, run_underlying ht, h0, h1, run_sizeOf hs, hr]⟩
    · exact h.elim
  · rename_i s ht
    obtain ⟨h0, h1, h⟩ := h
    refine ⟨_, h, fun kd w => ?_⟩
    have hlt : i.toNat < s.size := by omega
    have hg : s[i.toNat]? = some (s[i.toNat]) := by simp [hlt]
    simp [Instr.index, asIntOf, run_underlying ht, h0, hg]
  · exact h.elim

def fieldK (P : Program) (t : TypeId) (v : Value) (f : Nat) (K : Value → Prop) : Prop :=
  match P.underlying t, v with
  | some (.struct fs), .agg cs => (match fs[f]? with
    | some fd => partK P fd.type cs fd.offset K
    | none => False)
  | _, _ => False

theorem fieldK_sound {P : Program} {t : TypeId} {x : Value} {f : Nat} {K : Value → Prop} (h : fieldK P t x f K) : ∃ v, K v ∧ ∀ (w : World), (Instr.field t x f).run P w = .ok v w := by
  unfold fieldK at h
  split at h
  · rename_i fs cs ht
    split at h
    · rename_i fd hf
      obtain ⟨v, hv, hr⟩ := partK_sound h
      exact ⟨v, hv, fun w => by simp [Instr.field, run_underlying ht, hf, asAgg, hr]⟩
    · exact h.elim
  · exact h.elim

def fieldAddrK (P : Program) (m : Nat → Option Blk) (t : TypeId) (av : AV) (f : Nat) (K : AV → Prop) : Prop :=
  match P.underlying t, av with
  | some (.struct fs), .ptr k ver off => withKey m k ver fun _ => (match fs[f]? with
    | some fd => (match szOf P fd.type with
      | some s => s ≠ 0 ∧ K (.ptr k ver (off + fd.offset))
      | none => False)
    | none => False)
  | _, _ => False

theorem fieldAddrK_sound {P : Program} {m : Nat → Option Blk} {t : TypeId} {av : AV} {f : Nat} {K : AV → Prop} (h : fieldAddrK P m t av f K) :
    ∃ r, K r ∧ ∀ base w ρ v, Keys base w ρ m → RelV base w ρ m v av → ∃ x, (Instr.fieldAt t v f).run P w = .ok x w ∧ RelV base w ρ m x r := by
  unfold fieldAddrK at h
  split at h
  · rename_i fs k ver off ht
    have hwk := withKey_elim h
    clear h
    obtain ⟨blk, hm, rfl, h⟩ := hwk
    split at h
    · rename_i fd hf
      split at h
      · rename_i s hs
        refine ⟨_, h.2, fun base w ρ v hk hv => ?_⟩
        obtain ⟨blk', hm', _, hp⟩ := hv
        rw [hm] at hm'; cases hm'
        obtain ⟨b, hb, rfl⟩ := hp rfl
        have hne := h.1
        exact ⟨_, by simp [Instr.fieldAt, run_underlying ht, hf, Instr.sureAddr, fieldPlace, run_sizeOf hs, hne, Addr.add_lit], blk, hm, Nat.le_refl _, fun _ => ⟨b, hb, rfl⟩⟩
      · exact h.elim
    · exact h.elim
  · exact h.elim

end Go.Vm
namespace Go.Vm
open Go Go.RowKit

def optI (ev : Operand → AV) : Option Operand → Int → (Int → Prop) → Prop
  | none, d, K => K d
  | some x, _, K => match ev x with
    | .pl (.int _ n) => K n
    | _ => False

def sliceK (P : Program) (m : Nat → Option Blk) (t : TypeId) (av : AV) (lo : Int) (hi : Option Int) (K : AV → Prop) : Prop :=
  match P.underlying t with
  | some .string => (match av with
    | .pl (.string s) => 0 ≤ lo ∧ lo ≤ hi.getD s.size ∧ hi.getD s.size ≤ s.size ∧ K (.pl (.string (s.extract lo.toNat (hi.getD s.size).toNat)))
    | _ => False)
  | some (.slice e) => szOf P e = some 1 ∧ (match av with
    | .vec fr xs => 0 ≤ lo ∧ lo ≤ hi.getD xs.length ∧ hi.getD xs.length ≤ xs.length ∧ K (.vec fr ((xs.drop lo.toNat).take ((hi.getD xs.length).toNat - lo.toNat)))
    | .sl k ver off len => 0 ≤ lo ∧ (lo = 0 ∨ lo < len) ∧ lo ≤ hi.getD len ∧ hi.getD len ≤ len ∧ withKey m k ver fun _ => K (.sl k ver (off + lo.toNat) ((hi.getD len).toNat - lo.toNat))
    | _ => False)
  | some (.array n e) => szOf P e = some 1 ∧ (match av with
    | .ptr k ver off => 0 ≤ lo ∧ (lo = 0 ∨ lo < n) ∧ lo ≤ hi.getD n ∧ hi.getD n ≤ n ∧ withKey m k ver fun blk => off + n ≤ blk.cells.length ∧ K (.sl k ver (off + lo.toNat) ((hi.getD n).toNat - lo.toNat))
    | _ => False)
  | _ => False

/-- the bounds, as the operation has them -/
def bnd (lo : Int) : Option Value → Int → Prop
  | none, d => lo = d
  | some (.int _ n), _ => lo = n
  | _, _ => False

theorem run_sliceBounds {P : Program} (isS : Bool) (len cap : Nat) (vl vh : Option Value) (lo hi : Int) (hl : bnd lo vl 0) (hh : bnd hi vh len) (h0 : 0 ≤ lo) (h1 : lo ≤ hi) (h2 : hi ≤ cap) (w : World) :
    (Instr.sliceBounds isS len cap vl vh none).run P w = .ok (lo.toNat, hi.toNat, cap) w := by
  have e1 : ∀ (code : BoundsCode) (kd : IntKind), (Instr.sliceBound (.int kd hi) cap code).run P w = .ok hi.toNat w := fun code kd => by
    have : 0 ≤ hi := by omega
    simp [Instr.sliceBound, asIntOf, this, h2]
  have e2 : ∀ (code : BoundsCode) (kd : IntKind), (Instr.sliceBound (.int kd lo) hi.toNat code).run P w = .ok lo.toNat w := fun code kd => by
    have : lo ≤ (hi.toNat : Int) := by omega
    simp [Instr.sliceBound, asIntOf, h0]
    omega
  unfold Instr.sliceBounds
  cases vh with
  | none =>
    have hh' : hi = len := hh
    have hn : len = hi.toNat := by omega
    cases vl with
    | none => have hl' : lo = 0 := hl; subst hl'; simp; omega
    | some v =>
      cases v <;> try exact hl.elim
      rename_i kd n
      have hl' : lo = n := hl
      subst hl'
      simp only [Sem.run_bind, Sem.run_pure, Result.andThen_ok, hn, e2, Option.isSome_none, Bool.false_eq_true, if_false]
  | some v =>
    cases v <;> try exact hh.elim
    rename_i kd n
    have hh' : hi = n := hh
    subst hh'
    cases vl with
    | none => have hl' : lo = 0 := hl; subst hl'; simp only [Sem.run_bind, Sem.run_pure, Result.andThen_ok, e1, Int.toNat_zero]
    | some v =>
      cases v <;> try exact hl.elim
      rename_i kd' n'
      have hl' : lo = n' := hl
      subst hl'
      simp only [Sem.run_bind, Sem.run_pure, Result.andThen_ok, e1, e2, Option.isSome_none, Bool.false_eq_true, if_false]

theorem add_lo (b off lo : Nat) (cap : Nat) (h : lo = 0 ∨ lo < cap) : (if cap = lo then (⟨b, off, none⟩ : Addr) else (⟨b, off, none⟩ : Addr).add lo) = ⟨b, off + lo, none⟩ := by
  split
  · rename_i e; rcases h with h | h
    · subst h; rfl
    · omega
  · simp [Addr.add_lit]

def hiOk : Option Int → Option Value → Prop
  | none, vh => vh = none
  | some n, vh => ∃ k, vh = some (.int k n)

theorem bnd_get {hi : Int} {vh : Option Value} {d : Int} {ho : Option Int} (h : hiOk ho vh) (e : hi = ho.getD d) : bnd hi vh d := by
  cases ho with
  | none => subst h; exact e
  | some n => obtain ⟨k, rfl⟩ := h; exact e

theorem take_drop_take (L : List Value) (k lo n : Nat) (h : lo + n ≤ k) : (L.drop lo).take n = ((L.take k).drop lo).take n := by
  rw [List.drop_take, List.take_take]
  congr 1
  omega

theorem sliceK_sound {P : Program} {m : Nat → Option Blk} {t : TypeId} {av : AV} {lo : Int} {hi : Option Int} {K : AV → Prop} (h : sliceK P m t av lo hi K) :
    ∃ r, K r ∧ ∀ base w ρ v (vl vh : Option Value), Keys base w ρ m → RelV base w ρ m v av → bnd lo vl 0 → hiOk hi vh →
      ∃ x, (Instr.sliceAt t v vl vh none).run P w = .ok x w ∧ RelV base w ρ m x r := by
  unfold sliceK at h
  split at h
  · rename_i ht
    cases av with
    | pl v =>
      cases v <;> try exact h.elim
      rename_i s
      obtain ⟨h0, h1, h2, h⟩ := h
      refine ⟨_, h, fun base w ρ v vl vh hk hv hl hh => ?_⟩
      obtain rfl : v = .string s := hv
      refine ⟨_, ?_, rfl⟩
      have hb := run_sliceBounds (P := P) false s.size s.size vl vh lo (hi.getD s.size) hl (bnd_get hh rfl) h0 h1 h2 w
      simp [Instr.sliceAt, Instr.slice, run_underlying ht, hb]
    | _ => exact h.elim
  · rename_i e ht
    obtain ⟨hs, h⟩ := h
    cases av with
    | vec fr xs =>
      obtain ⟨h0, h1, h2, h⟩ := h
      refine ⟨_, h, fun base w ρ v vl vh hk hv hl hh => ?_⟩
      rcases hv with ⟨rfl, rfl⟩ | ⟨b, o, cap, c, e', fz, rfl, hc, hg, hx, h3, h4⟩
      · have hb := run_sliceBounds (P := P) true 0 0 vl vh lo (hi.getD 0) hl (bnd_get hh rfl) h0 (by simpa using h1) (by simpa using h2) w
        have e0 : lo.toNat = 0 := by simp at h1 h2; omega
        have e1 : (hi.getD 0).toNat = 0 := by simp at h1 h2; omega
        refine ⟨.slice none 0 0, ?_, .inl ⟨by simp, rfl⟩⟩
        simp [Instr.sliceAt, Instr.slice, run_underlying ht, hb, run_sizeOf hs, e0, e1]
      · have hb := run_sliceBounds (P := P) true xs.length cap vl vh lo (hi.getD xs.length) hl (bnd_get hh rfl) h0 h1 (by omega) w
        have hlen : ((xs.drop lo.toNat).take ((hi.getD xs.length).toNat - lo.toNat)).length = (hi.getD xs.length).toNat - lo.toNat := by simp; omega
        have hrun : ∀ q, (Instr.sliceAt t (.slice (some ⟨b, o, none⟩) xs.length cap) vl vh none).run P w = .ok q w ↔ q = (Value.slice (if cap = lo.toNat then some ⟨b, o, none⟩ else some ((⟨b, o, none⟩ : Addr).add lo.toNat)) ((hi.getD xs.length).toNat - lo.toNat) (cap - lo.toNat)) := fun q => by
          simp [Instr.sliceAt, Instr.slice, run_underlying ht, hb, run_sizeOf hs]
          exact eq_comm
        refine ⟨_, (hrun _).2 rfl, ?_⟩
        by_cases hcl : cap = lo.toNat
        · rw [if_pos hcl]
          have hz : (hi.getD xs.length).toNat - lo.toNat = 0 := by omega
          refine .inr ⟨b, o, cap - lo.toNat, c, e', fz, by rw [hlen], hc, hg, ?_, by rw [hlen]; omega, by omega⟩
          rw [hlen, hz]; simp
        · rw [if_neg hcl]
          refine .inr ⟨b, o + lo.toNat, cap - lo.toNat, c, e', fz, by rw [hlen, Addr.add_lit], hc, hg, ?_, by rw [hlen]; omega, by omega⟩
          rw [hlen, ← List.drop_drop, take_drop_take (c.toList.drop o) xs.length lo.toNat _ (by omega), hx]
    | sl k ver off len =>
      obtain ⟨h0, hc0, h1, h2, h⟩ := h
      have hwk := withKey_elim h
      clear h
      obtain ⟨blk, hm, rfl, h⟩ := hwk
      refine ⟨_, h, fun base w ρ v vl vh hk hv hl hh => ?_⟩
      obtain ⟨blk', hm', _, hp⟩ := hv
      rw [hm] at hm'; cases hm'
      rcases hp rfl with ⟨rfl, rfl, hn, rfl⟩ | ⟨b, cap, c, e', fz, hb, rfl, hc, h3, h4, h5⟩
      · have hb := run_sliceBounds (P := P) true 0 0 vl vh lo (hi.getD 0) hl (bnd_get hh rfl) h0 (by simpa using h1) (by simpa using h2) w
        have e0 : lo.toNat = 0 := by simp at h1 h2; omega
        have e1 : (hi.getD 0).toNat = 0 := by simp at h1 h2; omega
        refine ⟨.slice none 0 0, ?_, blk, hm, Nat.le_refl _, fun _ => .inl ?_⟩
        · simp [Instr.sliceAt, Instr.slice, run_underlying ht, hb, run_sizeOf hs, e0, e1]
        · simp [e0, e1, hn]
      · have hbd := run_sliceBounds (P := P) true len cap vl vh lo (hi.getD len) hl (bnd_get hh rfl) h0 h1 (by omega) w
        refine ⟨.slice (some ⟨b, off + lo.toNat, none⟩) ((hi.getD len).toNat - lo.toNat) (cap - lo.toNat), ?_, blk, hm, Nat.le_refl _, fun _ => .inr ⟨b, cap - lo.toNat, c, e', fz, hb, rfl, hc, by omega, by omega, by omega⟩⟩
        have := add_lo b off lo.toNat cap (by omega)
        simp [Instr.sliceAt, Instr.slice, run_underlying ht, hbd, run_sizeOf hs]
        rw [← this]
        split <;> simp
    | _ => exact h.elim
  · rename_i n e ht
    obtain ⟨hs, h⟩ := h
    cases av with
    | ptr k ver off =>
      obtain ⟨h0, hc0, h1, h2, h⟩ := h
      have hwk := withKey_elim h
      clear h
      obtain ⟨blk, hm, rfl, h3, h⟩ := hwk
      refine ⟨_, h, fun base w ρ v vl vh hk hv hl hh => ?_⟩
      obtain ⟨blk', hm', _, hp⟩ := hv
      rw [hm] at hm'; cases hm'
      obtain ⟨b, hb, rfl⟩ := hp rfl
      obtain ⟨blk', hm', _, c, fz, hc, ⟨rest, hrest⟩, _⟩ := hk.key hb
      rw [hm] at hm'; cases hm'
      have hsz : blk.cells.length ≤ c.size := by have := congrArg List.length hrest; simp at this; omega
      have hbd := run_sliceBounds (P := P) false n n vl vh lo (hi.getD n) hl (bnd_get hh rfl) h0 h1 (by omega) w
      refine ⟨.slice (some ⟨b, off + lo.toNat, none⟩) ((hi.getD n).toNat - lo.toNat) (n - lo.toNat), ?_, blk, hm, Nat.le_refl _, fun _ => .inr ⟨b, n - lo.toNat, c, blk.elem, fz, hb, rfl, hc, by omega, by omega, by omega⟩⟩
      have := add_lo b off lo.toNat n (by omega)
      simp [Instr.sliceAt, Instr.sureAddr, run_underlying ht, hbd, run_sizeOf hs]
      exact this
    | _ => exact h.elim
  · exact h.elim

def toArrK (P : Program) (m : Nat → Option Blk) (t : TypeId) (av : AV) (K : AV → Prop) : Prop :=
  match P.underlying t, av with
  | some (.array n _), .sl k ver off len => n ≤ len ∧ 0 < n ∧ withKey m k ver fun _ => K (.ptr k ver off)
  | _, _ => False

theorem toArrK_sound {P : Program} {m : Nat → Option Blk} {t : TypeId} {av : AV} {K : AV → Prop} (h : toArrK P m t av K) :
    ∃ r, K r ∧ ∀ base w ρ v, Keys base w ρ m → RelV base w ρ m v av → ∃ x, (Instr.arrayAt t v).run P w = .ok x w ∧ RelV base w ρ m x r := by
  unfold toArrK at h
  split at h
  · rename_i n e k ver off len ht
    obtain ⟨h1, h2, h⟩ := h
    have hwk := withKey_elim h
    clear h
    obtain ⟨blk, hm, rfl, h⟩ := hwk
    refine ⟨_, h, fun base w ρ v hk hv => ?_⟩
    obtain ⟨blk', hm', _, hp⟩ := hv
    rw [hm] at hm'; cases hm'
    rcases hp rfl with ⟨rfl, _⟩ | ⟨b, cap, c, e', fz, hb, rfl, hc, _⟩
    · omega
    · have : ¬ len < n := by omega
      exact ⟨_, by simp [Instr.arrayAt, run_underlying ht, this], blk, hm, Nat.le_refl _, fun _ => ⟨b, hb, rfl⟩⟩
  · exact h.elim

def convK (P : Program) (m : Nat → Option Blk) (src dst : TypeId) (av : AV) (K : AV → Prop) : Prop :=
  match av with
  | .pl (.int _ n) => (P.underlying src).isSome = true ∧ (match P.underlying dst with
    | some (.int k) => K (.pl (.int k (k.wrap n)))
    | _ => False)
  | .pl (.string s) => (match P.underlying dst with
    | some .string => (P.underlying src).isSome = true ∧ K (.pl (.string s))
    | _ => False)
  | av => (match P.underlying src with
    | some (.slice e) => P.underlying e = some (.int .u8) ∧ P.underlying dst = some .string ∧ (match av.cont m with
      | some xs => (match u8s xs with
        | some bs => K (.pl (.string (bstr bs)))
        | none => False)
      | none => False)
    | _ => False)

theorem convK_sound {P : Program} {m : Nat → Option Blk} {src dst : TypeId} {av : AV} {K : AV → Prop} (h : convK P m src dst av K) :
    ∃ r, K r ∧ ∀ base w ρ v, Keys base w ρ m → RelV base w ρ m v av → ∃ x, (convert src dst v).run P w = .ok x w ∧ RelV base w ρ m x r := by
  unfold convK at h
  split at h
  · rename_i k0 n
    obtain ⟨hs, h⟩ := h
    split at h
    · rename_i k hd
      refine ⟨_, h, fun base w ρ v hk hv => ?_⟩
      obtain rfl : v = .int k0 n := hv
      obtain ⟨d, hd'⟩ := Option.isSome_iff_exists.mp hs
      exact ⟨_, by simp [convert, run_underlying hd', run_underlying hd, Conv.intToInt], rfl⟩
    · exact h.elim
  · rename_i s
    split at h
    · rename_i hd
      obtain ⟨hs, h⟩ := h
      refine ⟨_, h, fun base w ρ v hk hv => ?_⟩
      obtain rfl : v = .string s := hv
      obtain ⟨d, hd'⟩ := Option.isSome_iff_exists.mp hs
      refine ⟨_, ?_, rfl⟩
      cases d <;> simp [convert, run_underlying hd', run_underlying hd]
    · exact h.elim
  · split at h
    · rename_i e hs
      obtain ⟨he, hd, h⟩ := h
      split at h
      · rename_i xs hx
        split at h
        · rename_i bs hb
          refine ⟨_, h, fun base w ρ v hk hv => ?_⟩
          exact ⟨_, run_bytes_vec (AV.cont_sound hk hv hx) hb hs he hd, rfl⟩
        · exact h.elim
      · exact h.elim
    · exact h.elim

def evs (ev : Operand → AV) (m : Nat → Option Blk) : List Operand → Option (List DV)
  | [] => some []
  | x :: r => match (ev x).dv m, evs ev m r with
    | some d, some ds => some (d :: ds)
    | _, _ => none

theorem evs_sound {base : Nat} {w : World} {ρ : Nat → Option Nat} {m : Nat → Option Blk} (hk : Keys base w ρ m) {ev : Operand → AV} {val : Operand → Value} :
    ∀ {xs : List Operand} {ds : List DV}, (∀ x ∈ xs, RelV base w ρ m (val x) (ev x)) → evs ev m xs = some ds → DV.rels w (fun _ => True) (xs.map val) ds
  | [], ds, _, h => by cases h; trivial
  | x :: r, ds, hr, h => by
    unfold evs at h
    split at h
    · rename_i d ds' hd hds
      cases h
      exact ⟨AV.dv_sound hk (hr x (by simp)) hd, evs_sound hk (fun y hy => hr y (by simp [hy])) hds⟩
    · cases h

/-- what a callee hands back -/
def optK (o : Option RV) (K : AV → Prop) : Prop :=
  match o with
  | some (.one d) => K (RV.one d).av
  | some (.tup ds) => K (RV.tup ds).av
  | _ => False

theorem optK_elim {P : Program} {f : FuncId} {ds : List DV} {o : Option RV} {K : AV → Prop} (h : optK o K) : ∃ r, o = some r ∧ K r.av ∧ (SpecR P f ds r → Spec P f ds r) := by
  unfold optK at h
  split at h
  · exact ⟨_, rfl, h, fun h => h⟩
  · exact ⟨_, rfl, h, fun h => h⟩
  · exact h.elim

theorem optK_some (d : DV) (K : AV → Prop) : optK (some (.one d)) K = K (RV.one d).av := rfl
theorem optK_tup (ds : List DV) (K : AV → Prop) : optK (some (.tup ds)) K = K (RV.tup ds).av := rfl
theorem optK_ite (c : Prop) [Decidable c] (r : RV) (K : AV → Prop) : optK (if c then some r else none) K = (c ∧ optK (some r) K) := by
  by_cases h : c <;> simp [h, optK]

/-- what captured variables read -/
def capsD (m : Nat → Option Blk) : List (Nat × Nat) → Option (List DV)
  | [] => some []
  | (k, ver) :: r => match m k, capsD m r with
    | some blk, some ds => (match blk.cells with
      | [x] => if ver = blk.ver then some (.cel x :: ds) else none
      | xs => if ver = blk.ver then some (.blk xs :: ds) else none)
    | _, _ => none

theorem capsD_sound {base : Nat} {w : World} {ρ : Nat → Option Nat} {m : Nat → Option Blk} (hk : Keys base w ρ m) :
    ∀ {ks : List (Nat × Nat)} {vs : List Value} {ds : List DV}, vs.length = ks.length →
      (∀ (i k ver : Nat), ks[i]? = some (k, ver) → ∃ blk, m k = some blk ∧ ver ≤ blk.ver ∧ (ver = blk.ver → ∃ b, ρ k = some b ∧ vs[i]? = some (Value.pointer (some ⟨b, 0, none⟩)))) →
      capsD m ks = some ds → DV.rels w (fun _ => True) vs ds
  | [], vs, ds, hl, _, h => by
    cases h
    obtain rfl : vs = [] := List.eq_nil_of_length_eq_zero (by simpa using hl)
    trivial
  | (k, ver) :: r, [], ds, hl, _, h => by simp at hl
  | (k, ver) :: r, v :: vs, ds, hl, hp, h => by
    unfold capsD at h
    split at h
    · rename_i blk ds' hm hds
      split at h
      · rename_i x hx
        split at h
        · rename_i hver
          cases h
          obtain ⟨blk', hm', _, hq⟩ := hp 0 k ver (by simp)
          rw [hm] at hm'; cases hm'
          obtain ⟨b, hb, hv⟩ := hq hver
          simp at hv
          obtain ⟨blk'', hm'', _, c, fz, hc, ⟨rest, hrest⟩, _⟩ := hk.key hb
          rw [hm] at hm''; cases hm''
          refine ⟨⟨b, 0, hv, ?_, trivial⟩, capsD_sound hk (by simpa using hl) (fun i k' ver' hi => ?_) hds⟩
          · have h0 : c.toList[0]? = some x := by rw [hrest, hx]; simp
            simp [World.cell?, hc]
            simpa using h0
          · have := hp (i + 1) k' ver' (by simpa using hi)
            simpa using this
        · cases h
      · rename_i xs hxs
        split at h
        · rename_i hver
          cases h
          obtain ⟨blk', hm', _, hq⟩ := hp 0 k ver (by simp)
          rw [hm] at hm'; cases hm'
          obtain ⟨b, hb, hv⟩ := hq hver
          simp at hv
          obtain ⟨blk'', hm'', _, c, fz, hc, ⟨rest, hrest⟩, _⟩ := hk.key hb
          rw [hm] at hm''; cases hm''
          refine ⟨⟨b, c, _, fz, rest, hv, hc, hrest, trivial⟩, capsD_sound hk (by simpa using hl) (fun i k' ver' hi => ?_) hds⟩
          have := hp (i + 1) k' ver' (by simpa using hi)
          simpa using this
        · cases h
    · cases h

theorem DV.rels_append {w : World} {g : Nat → Prop} : ∀ {vs us : List Value} {ds es : List DV}, DV.rels w g vs ds → DV.rels w g us es → DV.rels w g (vs ++ us) (ds ++ es)
  | [], _, [], _, _, h => h
  | _ :: _, _, _ :: _, _, h, h' => ⟨h.1, DV.rels_append h.2 h'⟩
  | [], _, _ :: _, _, h, _ => h.elim
  | _ :: _, _, [], _, h, _ => h.elim

def callK (Γ : Env) (m : Nat → Option Blk) (ev : Operand → AV) (f : AV) (args : List Operand) (K : AV → Prop) : Prop :=
  match f with
  | .clo fid ks => (match look Γ fid with
    | some g => (match evs ev m args with
      | some ds => (match capsD m ks with
        | some cs => optK (g (ds ++ cs)) K
        | none => False)
      | none => False)
    | none => False)
  | _ => False

theorem Spec.does {P : Program} {f : FuncId} {ds : List DV} {r : RV} (h : Spec P f ds r) {base : Nat} {w : World} {ρ : Nat → Option Nat} {m : Nat → Option Blk} (hk : Keys base w ρ m) {vs : List Value}
    (hv : DV.rels w (fun _ => True) vs ds) : Does P (fun v w' => RelV base w' ρ m v r.av ∧ Below w.heap.size w w') ((callFunc f vs.toArray).run P w) :=
  (h w vs hv).mono fun v w' ⟨h1, h2⟩ => ⟨RV.av_sound (RV.rel_mono h1 (fun _ _ _ => rfl) (fun b _ hb => ⟨Nat.le_trans hk.bnd hb, fun k e => by have := hk.lt e; omega⟩)), h2⟩

def lenK (P : Program) (t : TypeId) (av : AV) (K : AV → Prop) : Prop :=
  match P.underlying t, av with
  | some .string, .pl (.string s) => K (.pl (.int .i64 s.size))
  | some (.array n _), _ => K (.pl (.int .i64 n))
  | some (.slice _), .vec _ xs => K (.pl (.int .i64 xs.length))
  | some (.slice _), .pl (.slice _ n _) => K (.pl (.int .i64 n))
  | some (.slice _), .sl _ _ _ n => K (.pl (.int .i64 n))
  | _, _ => False

theorem lenK_sound {P : Program} {t : TypeId} {av : AV} {K : AV → Prop} (h : lenK P t av K) :
    ∃ r, K r ∧ ∀ base w ρ m v ty, (∀ k ver off n, av = .sl k ver off n → ∃ blk, m k = some blk ∧ ver = blk.ver) → RelV base w ρ m v av → ∃ x, (Builtin.len_ #[t] ty #[v]).run P w = .ok x w ∧ RelV base w ρ m x r := by
  unfold lenK at h
  split at h
  · rename_i s ht
    refine ⟨_, h, fun base w ρ m v ty _ hv => ?_⟩
    obtain rfl : v = .string s := hv
    exact ⟨_, by simp [Builtin.len_, run_underlying ht]; rfl, rfl⟩
  · rename_i n e ht
    refine ⟨_, h, fun base w ρ m v ty _ hv => ⟨_, ?_, rfl⟩⟩
    cases v <;> simp [Builtin.len_, run_underlying ht, goInt]
  · rename_i e fr xs ht
    refine ⟨_, h, fun base w ρ m v ty _ hv => ?_⟩
    rcases hv with ⟨rfl, rfl⟩ | ⟨b, o, cap, c, e', fz, rfl, _⟩
    · exact ⟨_, by simp [Builtin.len_, run_underlying ht]; rfl, rfl⟩
    · exact ⟨_, by simp [Builtin.len_, run_underlying ht]; rfl, rfl⟩
  · rename_i e a n c ht
    refine ⟨_, h, fun base w ρ m v ty _ hv => ?_⟩
    obtain rfl : v = .slice a n c := hv
    exact ⟨_, by simp [Builtin.len_, run_underlying ht]; rfl, rfl⟩
  · rename_i e k ver off n ht
    refine ⟨_, h, fun base w ρ m v ty hlive hv => ?_⟩
    obtain ⟨blk, hm, rfl⟩ := hlive _ _ _ _ rfl
    obtain ⟨blk', hm', _, hp⟩ := hv
    rw [hm] at hm'; cases hm'
    rcases hp rfl with ⟨rfl, _, _, rfl⟩ | ⟨b, cap, c, e', fz, _, rfl, _⟩
    · exact ⟨_, by simp [Builtin.len_, run_underlying ht]; rfl, rfl⟩
    · exact ⟨_, by simp [Builtin.len_, run_underlying ht]; rfl, rfl⟩
  · exact h.elim

end Go.Vm

/- A small verified machine over abstract states of frames and worlds, part 2: what operations, regions, texts and functions do. No condition. -/
namespace Go.Vm
open Go Go.RowKit

def placesOf (P : Program) : List Field → Option (List (Nat × Nat))
  | [] => some []
  | f :: fs => match szOf P f.type, placesOf P fs with
    | some s, some r => some ((f.offset, s) :: r)
    | _, _ => none

theorem run_places {P : Program} (w : World) : ∀ {fs : List Field} {pl : List (Nat × Nat)}, placesOf P fs = some pl →
    (List.mapM (fun f : Field => do pure (f.offset, ← sizeOf f.type)) fs : Sem (List (Nat × Nat))).run P w = .ok pl w
  | [], pl, h => by cases h; simp
  | f :: fs, pl, h => by
    unfold placesOf at h
    split at h
    · rename_i s r hs hr
      cases h
      have h1 := run_sizeOf hs w
      have h2 := run_places w hr
      simp only [List.mapM_cons, Sem.run_bind, h1, Result.andThen_ok, Sem.run_pure, h2]
    · cases h

def buildV (P : Program) (t : TypeId) (parts : List (Nat × Value)) : Option Value :=
  match (P.info? t).bind (·.zero), P.underlying t with
  | some z, some (.struct fs) => match placesOf P fs.toList with
    | some pl => (Instr.fill (pl.toArray[·]?) z.cells parts).map .agg
    | none => none
  | some z, some (.array _ e) => match szOf P e with
    | some s => (Instr.fill (fun i => some (i * s, s)) z.cells parts).map .agg
    | none => none
  | _, _ => none

theorem run_zero {P : Program} {t : TypeId} {z : Value} (h : (P.info? t).bind (·.zero) = some z) (w : World) : (zeroValue t).run P w = .ok z w := by
  cases hi : P.info? t with
  | none => rw [hi] at h; cases h
  | some i =>
    rw [hi] at h
    have h' : i.zero = some z := h
    simp [zeroValue, typeInfo, hi, h']

theorem buildV_sound {P : Program} {t : TypeId} {parts : List (Nat × Value)} {v : Value} (h : buildV P t parts = some v) (w : World) : (Instr.build t parts.toArray).run P w = .ok v w := by
  unfold buildV at h
  split at h
  · rename_i z fs hz ht
    split at h
    · rename_i pl hp
      cases hf : Instr.fill (pl.toArray[·]?) z.cells parts with
      | none => rw [hf] at h; cases h
      | some cs =>
        rw [hf] at h; cases h
        have h1 := run_places w hp
        have h2 : (Array.mapM (fun f : Field => do pure (f.offset, ← sizeOf f.type)) fs : Sem (Array (Nat × Nat))).run P w = .ok pl.toArray w := by
          rw [Array.mapM_eq_mapM_toList, Sem.run_map, h1]; rfl
        unfold Instr.build
        simp only [Sem.run_bind, run_zero hz, Result.andThen_ok, run_underlying ht, h2, hf, Sem.run_pure]
    · cases h
  · rename_i z n e hz ht
    split at h
    · rename_i s hs
      cases hf : Instr.fill (fun i => some (i * s, s)) z.cells parts with
      | none => rw [hf] at h; cases h
      | some cs =>
        rw [hf] at h; cases h
        unfold Instr.build
        simp only [Sem.run_bind, run_zero hz, Result.andThen_ok, run_underlying ht, run_sizeOf hs, hf, Sem.run_pure]
    · cases h
  · cases h

def plains (ev : Operand → AV) : List (Nat × Operand) → Option (List (Nat × Value))
  | [] => some []
  | (i, x) :: r => match ev x, plains ev r with
    | .pl v, some vs => some ((i, v) :: vs)
    | _, _ => none

theorem plains_sound {ev : Operand → AV} {val : Operand → Value} : ∀ {ps : List (Nat × Operand)} {vs : List (Nat × Value)}, (∀ p ∈ ps, ∀ v, ev p.2 = .pl v → val p.2 = v) →
    plains ev ps = some vs → ps.map (fun (i, x) => (i, val x)) = vs
  | [], vs, _, h => by cases h; rfl
  | (i, x) :: r, vs, hr, h => by
    unfold plains at h
    split at h
    · rename_i v vs' hv hvs
      cases h
      rw [List.map_cons, plains_sound (fun p hp => hr p (by simp [hp])) hvs]
      have := hr (i, x) (by simp) v hv
      simp only at this
      show (i, val x) :: vs' = _
      rw [this]
    · cases h

/-- the smallest or largest of integers -/
def mmK (isMax : Bool) (ev : Operand → AV) (args : List Operand) (K : AV → Prop) : Prop :=
  match args with
  | [x, y] => (match ev x, ev y with
    | .pl (.int k a), .pl (.int _ b) => K (.pl (.int k (if isMax then (if a < b then b else a) else (if b < a then b else a))))
    | _, _ => False)
  | _ => False

def capsOf (ev : Operand → AV) : List Operand → Option (List (Nat × Nat))
  | [] => some []
  | x :: r => match ev x, capsOf ev r with
    | .ptr k ver 0, some ks => some ((k, ver) :: ks)
    | _, _ => none

theorem capsOf_sound {base : Nat} {w : World} {ρ : Nat → Option Nat} {m : Nat → Option Blk} {ev : Operand → AV} {val : Operand → Value} :
    ∀ {xs : List Operand} {ks : List (Nat × Nat)}, (∀ x ∈ xs, RelV base w ρ m (val x) (ev x)) → capsOf ev xs = some ks →
      (xs.map val).length = ks.length ∧ ∀ (i k ver : Nat), ks[i]? = some (k, ver) → ∃ blk, m k = some blk ∧ ver ≤ blk.ver ∧ (ver = blk.ver → ∃ b, ρ k = some b ∧ (xs.map val)[i]? = some (Value.pointer (some ⟨b, 0, none⟩)))
  | [], ks, _, h => by cases h; simp
  | x :: r, ks, hr, h => by
    unfold capsOf at h
    split at h
    · rename_i k ver ks' hx hks
      cases h
      obtain ⟨h1, h2⟩ := capsOf_sound (val := val) (fun y hy => hr y (by simp [hy])) hks
      refine ⟨by simpa using h1, fun i k' ver' hi => ?_⟩
      cases i with
      | zero =>
        simp at hi
        obtain ⟨rfl, rfl⟩ := hi
        have := hr x (by simp)
        rw [hx] at this
        obtain ⟨blk, hm, hle, hp⟩ := this
        exact ⟨blk, hm, hle, fun e => by obtain ⟨b, hb, hv⟩ := hp e; exact ⟨b, hb, by simp [hv]⟩⟩
      | succ i =>
        have := h2 i k' ver' (by simpa using hi)
        simpa using this
    · cases h

def nilK (m : Nat → Option Blk) (av : AV) (K : AV → Prop) : Prop :=
  match av with
  | .ptr k ver off => withKey m k ver fun _ => K (.ptr k ver off)
  | .pcell x => K (.pcell x)
  | .clo f ks => K (.clo f ks)
  | _ => False

def plK (K : AV → Prop) (v : Value) : Prop := K (.pl v)

/-- what a quiet operation yields -/
def qK (P : Program) (Γ : Env) (m : Nat → Option Blk) (ev : Operand → AV) (op : Op) (K : AV → Prop) : Prop :=
  match op with
  | .move x => K (ev x)
  | .assign x => K (ev x)
  | .pick c a b => (match ev c with
    | .pl (.bool t) => K (if t then ev a else ev b)
    | _ => False)
  | .load t a => loadK P m t (ev a) K
  | .nilCheck x => nilK m (ev x) K
  | .binOp op t x y _ => (match ev x, ev y with
    | .pl a, .pl b => binK P op t a b (plK K)
    | _, _ => False)
  | .unOp op _ x => (match ev x with
    | .pl a => unK op a (plK K)
    | _ => False)
  | .convert src dst x => convK P m src dst (ev x) K
  | .sliceToArrayPointer t x => toArrK P m t (ev x) K
  | .slice t x none none none => sliceK P m t (ev x) 0 none K
  | .slice t x (some lo) none none => (match ev lo with
    | .pl (.int _ l) => sliceK P m t (ev x) l none K
    | _ => False)
  | .slice t x none (some hi) none => (match ev hi with
    | .pl (.int _ h) => sliceK P m t (ev x) 0 (some h) K
    | _ => False)
  | .slice t x (some lo) (some hi) none => (match ev lo, ev hi with
    | .pl (.int _ l), .pl (.int _ h) => sliceK P m t (ev x) l (some h) K
    | _, _ => False)
  | .fieldAddr t x f => fieldAddrK P m t (ev x) f K
  | .field t x f => (match ev x with
    | .pl v => fieldK P t v f (plK K)
    | _ => False)
  | .indexAddr t x ix => (match ev ix with
    | .pl (.int _ i) => idxAddrK P m t (ev x) i K
    | _ => False)
  | .index t x ix => (match ev x, ev ix with
    | .pl v, .pl (.int _ i) => indexK P t v i (plK K)
    | _, _ => False)
  | .extract x i => (match ev x with
    | .tup ds => (match ds[i]? with
      | some d => K d.av
      | none => False)
    | _ => False)
  | .build t parts => (match plains ev parts.toList with
    | some vs => (match buildV P t vs with
      | some v => K (.pl v)
      | none => False)
    | none => False)
  | .makeFunc (.func f) ⟨[]⟩ caps => (match capsOf ev caps.toList with
    | some ks => K (.clo f ks)
    | none => False)
  | .call { callee := .value f, args, .. } => callK Γ m ev (ev f) args.toList K
  | .call { callee := .builtin .len, args := ⟨[x]⟩, argTypes := ⟨[t]⟩ } => (match ev x with
    | .sl k ver off n => withKey m k ver fun _ => lenK P t (.sl k ver off n) K
    | av => lenK P t av K)
  | .call { callee := .builtin .min, args, .. } => mmK false ev args.toList K
  | .call { callee := .builtin .max, args, .. } => mmK true ev args.toList K
  | _ => False

/-- wherever the operands read so -/
def Quiet (P : Program) (m : Nat → Option Blk) (ev : Operand → AV) (o : Oper) (r : AV) : Prop :=
  ∀ (base : Nat) (w : World) (ρ : Nat → Option Nat) (a : Act), Keys base w ρ m → (∀ x ∈ o.op.operands, RelV base w ρ m (a.eval x) (ev x)) →
    Does P (fun v w' => RelV base w' ρ m v r ∧ Below w.heap.size w w') ((execOp a.eval o).run P w)

theorem Quiet.of_run {P : Program} {m : Nat → Option Blk} {ev : Operand → AV} {o : Oper} {r : AV}
    (h : ∀ (base : Nat) (w : World) (ρ : Nat → Option Nat) (a : Act), Keys base w ρ m → (∀ x ∈ o.op.operands, RelV base w ρ m (a.eval x) (ev x)) →
      ∃ v, (execOp a.eval o).run P w = .ok (.value v) w ∧ RelV base w ρ m v r) : Quiet P m ev o r := by
  intro base w ρ a hk hr
  obtain ⟨v, h1, h2⟩ := h base w ρ a hk hr
  rw [h1]
  exact ⟨h2, Below.refl _ _⟩

theorem max2_int {P : Program} (k k' : IntKind) (a b : Int) (w : World) : (Builtin.max2 (.int k a) (.int k' b)).run P w = .ok (.int k (if a < b then b else a)) w := by
  simp [Builtin.max2]

theorem min2_int {P : Program} (k k' : IntKind) (a b : Int) (w : World) : (Builtin.min2 (.int k a) (.int k' b)).run P w = .ok (.int k (if b < a then b else a)) w := by
  simp [Builtin.min2]

theorem mmK_sound {P : Program} {isMax : Bool} {ev : Operand → AV} {args : List Operand} {K : AV → Prop} (h : mmK isMax ev args K) :
    ∃ r, K r ∧ ∀ (val : Operand → Value) (ts : Array TypeId) (ty : TypeId) (w : World), (∀ x ∈ args, ∀ v, ev x = .pl v → val x = v) →
      ∃ v, (if isMax then Builtin.max_ ts ty (args.map val).toArray else Builtin.min_ ts ty (args.map val).toArray).run P w = .ok v w ∧ r = .pl v := by
  unfold mmK at h
  split at h
  · rename_i x y
    split at h
    · rename_i k a k' b hx hy
      refine ⟨_, h, fun val ts ty w hv => ?_⟩
      have e1 := hv x (by simp) _ hx
      have e2 := hv y (by simp) _ hy
      refine ⟨_, ?_, rfl⟩
      cases isMax
      · simp [Builtin.min_, e1, e2, min2_int]
      · simp [Builtin.max_, e1, e2, max2_int]
    · exact h.elim
  · exact h.elim

theorem qK_sound {P : Program} {Γ : Env} (hΓ : Γ.ok P) {m : Nat → Option Blk} {ev : Operand → AV} {o : Oper} {K : AV → Prop} (h : qK P Γ m ev o.op K) :
    ∃ r, K r ∧ Quiet P m ev o r := by
  obtain ⟨dst, op, ty, pos, after, guard⟩ := o
  simp only at h
  unfold qK at h
  split at h
  · exact ⟨_, h, .of_run fun base w ρ a hk hr => ⟨_, rfl, hr _ (by simp [Op.operands])⟩⟩
  · exact ⟨_, h, .of_run fun base w ρ a hk hr => ⟨_, rfl, hr _ (by simp [Op.operands])⟩⟩
  · rename_i c x y
    split at h
    · rename_i t hc
      refine ⟨_, h, .of_run fun base w ρ a hk hr => ?_⟩
      have e1 := hr c (by simp [Op.operands])
      rw [hc] at e1
      have e1' : a.eval c = .bool t := e1
      refine ⟨if t then a.eval x else a.eval y, ?_, ?_⟩
      · simp [execOp, e1', asBool]
      · cases t
        · exact hr y (by simp [Op.operands])
        · exact hr x (by simp [Op.operands])
    · exact h.elim
  · rename_i t x
    obtain ⟨r, hK, hs⟩ := loadK_sound h
    refine ⟨r, hK, .of_run fun base w ρ a hk hr => ?_⟩
    obtain ⟨v, hv, hrel⟩ := hs base w ρ (a.eval x) hk (hr x (by simp [Op.operands]))
    exact ⟨v, by simp [execOp, hv], hrel⟩
  · rename_i x
    unfold nilK at h
    split at h
    · rename_i k ver off hx
      have hwk := withKey_elim h
      obtain ⟨blk, hm, hver, hK⟩ := hwk
      refine ⟨_, hK, .of_run fun base w ρ a hk hr => ?_⟩
      have e1 := hr x (by simp [Op.operands])
      rw [hx] at e1
      obtain ⟨blk', hm', hle, hp⟩ := e1
      rw [hm] at hm'; cases hm'
      obtain ⟨b, hb, hv⟩ := hp hver
      exact ⟨a.eval x, by simp [execOp, hv], by rw [hv]; exact ⟨blk, hm, hle, fun _ => ⟨b, hb, rfl⟩⟩⟩
    · rename_i y hx
      refine ⟨_, h, .of_run fun base w ρ a hk hr => ?_⟩
      have e1 := hr x (by simp [Op.operands])
      rw [hx] at e1
      have e2 := e1
      obtain ⟨b, o, hv, _⟩ := e2
      exact ⟨a.eval x, by simp [execOp, hv], e1⟩
    · rename_i f ks hx
      refine ⟨_, h, .of_run fun base w ρ a hk hr => ?_⟩
      have e1 := hr x (by simp [Op.operands])
      rw [hx] at e1
      have e2 := e1
      obtain ⟨vs, hv, _⟩ := e2
      exact ⟨a.eval x, by simp [execOp, hv], e1⟩
    · exact h.elim
  · rename_i op t x y yt
    split at h
    · rename_i u z hx hy
      obtain ⟨v, hv, hK⟩ := binK_sound h
      refine ⟨_, hK, .of_run fun base w ρ a hk hr => ?_⟩
      have e1 := hr x (by simp [Op.operands])
      have e2 := hr y (by simp [Op.operands])
      rw [hx] at e1; rw [hy] at e2
      have e1' : a.eval x = u := e1
      have e2' : a.eval y = z := e2
      refine ⟨v, ?_, rfl⟩
      have := hv x y w
      simp only [execOp, e1', e2', Sem.run_bind, this, Result.andThen_ok, Sem.run_pure]
    · exact h.elim
  · rename_i op t x
    split at h
    · rename_i u hx
      obtain ⟨v, hv, hK⟩ := unK_sound (P := P) h
      refine ⟨_, hK, .of_run fun base w ρ a hk hr => ?_⟩
      have e1 := hr x (by simp [Op.operands])
      rw [hx] at e1
      have e1' : a.eval x = u := e1
      exact ⟨v, by simp [execOp, e1', hv], rfl⟩
    · exact h.elim
  · rename_i src dst' x
    obtain ⟨r, hK, hs⟩ := convK_sound h
    refine ⟨r, hK, .of_run fun base w ρ a hk hr => ?_⟩
    obtain ⟨v, hv, hrel⟩ := hs base w ρ (a.eval x) hk (hr x (by simp [Op.operands]))
    exact ⟨v, by simp [execOp, hv], hrel⟩
  · rename_i t x
    obtain ⟨r, hK, hs⟩ := toArrK_sound h
    refine ⟨r, hK, .of_run fun base w ρ a hk hr => ?_⟩
    obtain ⟨v, hv, hrel⟩ := hs base w ρ (a.eval x) hk (hr x (by simp [Op.operands]))
    exact ⟨v, by simp [execOp, hv], hrel⟩
  · rename_i t x
    obtain ⟨r, hK, hs⟩ := sliceK_sound h
    refine ⟨r, hK, .of_run fun base w ρ a hk hr => ?_⟩
    obtain ⟨v, hv, hrel⟩ := hs base w ρ (a.eval x) none none hk (hr x (by simp [Op.operands])) rfl rfl
    exact ⟨v, by simp [execOp, hv], hrel⟩
  · rename_i t x lo
    split at h
    · rename_i k l hl
      obtain ⟨r, hK, hs⟩ := sliceK_sound h
      refine ⟨r, hK, .of_run fun base w ρ a hk hr => ?_⟩
      have e1 := hr lo (by simp [Op.operands])
      rw [hl] at e1
      have e1' : a.eval lo = .int k l := e1
      obtain ⟨v, hv, hrel⟩ := hs base w ρ (a.eval x) (some (a.eval lo)) none hk (hr x (by simp [Op.operands])) (by rw [e1']; rfl) rfl
      exact ⟨v, by simp [execOp, hv], hrel⟩
    · exact h.elim
  · rename_i t x hi
    split at h
    · rename_i k l hl
      obtain ⟨r, hK, hs⟩ := sliceK_sound h
      refine ⟨r, hK, .of_run fun base w ρ a hk hr => ?_⟩
      have e1 := hr hi (by simp [Op.operands])
      rw [hl] at e1
      have e1' : a.eval hi = .int k l := e1
      obtain ⟨v, hv, hrel⟩ := hs base w ρ (a.eval x) none (some (a.eval hi)) hk (hr x (by simp [Op.operands])) rfl ⟨k, by rw [e1']⟩
      exact ⟨v, by simp [execOp, hv], hrel⟩
    · exact h.elim
  · rename_i t x lo hi
    split at h
    · rename_i k l k' l' hl hl'
      obtain ⟨r, hK, hs⟩ := sliceK_sound h
      refine ⟨r, hK, .of_run fun base w ρ a hk hr => ?_⟩
      have e1 := hr lo (by simp [Op.operands])
      have e2 := hr hi (by simp [Op.operands])
      rw [hl] at e1; rw [hl'] at e2
      have e1' : a.eval lo = .int k l := e1
      have e2' : a.eval hi = .int k' l' := e2
      obtain ⟨v, hv, hrel⟩ := hs base w ρ (a.eval x) (some (a.eval lo)) (some (a.eval hi)) hk (hr x (by simp [Op.operands])) (by rw [e1']; rfl) ⟨k', by rw [e2']⟩
      exact ⟨v, by simp [execOp, hv], hrel⟩
    · exact h.elim
  · rename_i t x f
    obtain ⟨r, hK, hs⟩ := fieldAddrK_sound h
    refine ⟨r, hK, .of_run fun base w ρ a hk hr => ?_⟩
    obtain ⟨v, hv, hrel⟩ := hs base w ρ (a.eval x) hk (hr x (by simp [Op.operands]))
    exact ⟨v, by simp [execOp, hv], hrel⟩
  · rename_i t x f
    split at h
    · rename_i u hx
      obtain ⟨v, hK, hv⟩ := fieldK_sound h
      refine ⟨_, hK, .of_run fun base w ρ a hk hr => ?_⟩
      have e1 := hr x (by simp [Op.operands])
      rw [hx] at e1
      have e1' : a.eval x = u := e1
      exact ⟨v, by simp [execOp, e1', hv], rfl⟩
    · exact h.elim
  · rename_i t x ix
    split at h
    · rename_i k i hi
      obtain ⟨r, hK, hs⟩ := idxAddrK_sound h
      refine ⟨r, hK, .of_run fun base w ρ a hk hr => ?_⟩
      have e1 := hr ix (by simp [Op.operands])
      rw [hi] at e1
      have e1' : a.eval ix = .int k i := e1
      obtain ⟨v, hv, hrel⟩ := hs base w ρ (a.eval x) k hk (hr x (by simp [Op.operands]))
      exact ⟨v, by simp [execOp, e1', hv], hrel⟩
    · exact h.elim
  · rename_i t x ix
    split at h
    · rename_i u k i hx hi
      obtain ⟨v, hK, hv⟩ := indexK_sound h
      refine ⟨_, hK, .of_run fun base w ρ a hk hr => ?_⟩
      have e1 := hr x (by simp [Op.operands])
      have e2 := hr ix (by simp [Op.operands])
      rw [hx] at e1; rw [hi] at e2
      have e1' : a.eval x = u := e1
      have e2' : a.eval ix = .int k i := e2
      exact ⟨v, by simp [execOp, e1', e2', hv], rfl⟩
    · exact h.elim
  · rename_i x i
    split at h
    · rename_i ds hx
      split at h
      · rename_i d hd
        refine ⟨_, h, .of_run fun base w ρ a hk hr => ?_⟩
        have e1 := hr x (by simp [Op.operands])
        rw [hx] at e1
        obtain ⟨vs, hv, hrel⟩ := e1
        have : ∀ {vs : List Value} {ds : List DV} {i : Nat} {d : DV}, DV.rels w (fun b => base ≤ b ∧ ∀ k, ρ k ≠ some b) vs ds → ds[i]? = some d → ∃ v, vs[i]? = some v ∧ DV.rel w (fun b => base ≤ b ∧ ∀ k, ρ k ≠ some b) v d := by
          intro vs
          induction vs with
          | nil => intro ds i d h1 h2; cases ds <;> simp [DV.rels] at h1; simp at h2
          | cons v vs ih =>
            intro ds i d h1 h2
            cases ds with
            | nil => simp [DV.rels] at h1
            | cons d0 ds =>
              cases i with
              | zero => simp at h2; subst h2; exact ⟨v, by simp, h1.1⟩
              | succ i => obtain ⟨v', h3, h4⟩ := ih h1.2 (by simpa using h2); exact ⟨v', by simpa using h3, h4⟩
        obtain ⟨v, hv1, hv2⟩ := this hrel hd
        refine ⟨v, ?_, DV.av_sound hv2⟩
        simp [execOp, hv, Instr.extract, hv1]
      · exact h.elim
    · exact h.elim
  · rename_i t parts
    split at h
    · rename_i vs hvs
      split at h
      · rename_i v hv
        refine ⟨_, h, .of_run fun base w ρ a hk hr => ?_⟩
        have := plains_sound (val := a.eval) (fun p hp v hv => by
          have := hr p.2 (by simp only [Op.operands, List.mem_toArray, List.mem_map]; exact ⟨p, hp, rfl⟩)
          rw [hv] at this
          exact this) hvs
        refine ⟨v, ?_, rfl⟩
        have h2 := buildV_sound hv w
        rw [← this] at h2
        have e : (Array.map (fun (x : Nat × Operand) => match x with | (i, x) => (i, a.eval x)) parts) = (List.map (fun (x : Nat × Operand) => match x with | (i, x) => (i, a.eval x)) parts.toList).toArray := by
          apply Array.ext'; simp
        simp only [execOp, e, Sem.run_bind, h2, Result.andThen_ok, Sem.run_pure]
      · exact h.elim
    · exact h.elim
  · rename_i f caps
    split at h
    · rename_i ks hks
      refine ⟨_, h, .of_run fun base w ρ a hk hr => ?_⟩
      obtain ⟨h1, h2⟩ := capsOf_sound (val := a.eval) (fun x hx => hr x (by simp [Op.operands]; simpa using hx)) hks
      refine ⟨.func (.func f) #[] (caps.toList.map a.eval).toArray, ?_, caps.toList.map a.eval, rfl, h1, h2⟩
      have e : caps.map a.eval = (caps.toList.map a.eval).toArray := by apply Array.ext'; simp
      simp [execOp, Instr.makeFunc]
      exact e
    · exact h.elim
  · rename_i f args ats
    unfold callK at h
    split at h
    · rename_i fid ks hf
      split at h
      · rename_i g hg
        split at h
        · rename_i ds hds
          split at h
          · rename_i cs hcs
            obtain ⟨r, hgr, hK, hsp⟩ := optK_elim (P := P) (f := fid) (ds := ds ++ cs) h
            refine ⟨_, hK, fun base w ρ a hk hr => ?_⟩
            have e1 := hr f (by simp [Op.operands, Call.operands])
            rw [hf] at e1
            obtain ⟨vs, hv, hl, hp⟩ := e1
            have hcaps := capsD_sound hk hl hp hcs
            have hrels := evs_sound hk (val := a.eval) (fun x hx => hr x (by simp [Op.operands, Call.operands]; exact .inr (by simpa using hx))) hds
            have hdo := (hsp (hΓ fid g hg (ds ++ cs) r hgr)).does hk (DV.rels_append hrels hcaps)
            have e : args.map a.eval ++ vs.toArray = (args.toList.map a.eval ++ vs).toArray := by apply Array.ext'; simp
            have : (execOp a.eval { dst := dst, op := .call { callee := .value f, args := args, argTypes := ats }, type := ty, pos := pos, after := after, guard := guard }).run P w = (callFunc fid (args.toList.map a.eval ++ vs).toArray).run P w := by
              simp only [execOp, resolve, hv, Deferred.ofValue, invoke]
              simp
              rw [e]
            rw [this]
            exact hdo
          · exact h.elim
        · exact h.elim
      · exact h.elim
    · exact h.elim
  · rename_i x t
    have key : ∃ r, K r ∧ ∀ base w ρ v ty, Keys base w ρ m → RelV base w ρ m v (ev x) → ∃ y, (Builtin.len_ #[t] ty #[v]).run P w = .ok y w ∧ RelV base w ρ m y r := by
      split at h
      · rename_i k ver off n hx
        obtain ⟨blk, hm, hver, h⟩ := withKey_elim h
        obtain ⟨r, hK, hs⟩ := lenK_sound h
        refine ⟨r, hK, fun base w ρ v ty hk hv => hs base w ρ m v ty (fun k' ver' off' n' e => ?_) (by rw [← hx]; exact hv)⟩
        cases e
        exact ⟨blk, hm, hver⟩
      · rename_i hne
        obtain ⟨r, hK, hs⟩ := lenK_sound h
        exact ⟨r, hK, fun base w ρ v ty hk hv => hs base w ρ m v ty (fun k' ver' off' n' e => absurd e (hne _ _ _ _)) hv⟩
    obtain ⟨r, hK, hs⟩ := key
    refine ⟨r, hK, .of_run fun base w ρ a hk hr => ?_⟩
    obtain ⟨v, hv, hrel⟩ := hs base w ρ (a.eval x) ty hk (hr x (by simp [Op.operands, Call.operands]))
    exact ⟨v, by simp [execOp, resolve, invoke, builtin, hv], hrel⟩
  · rename_i args ats
    obtain ⟨r, hK, hs⟩ := mmK_sound (P := P) h
    refine ⟨r, hK, .of_run fun base w ρ a hk hr => ?_⟩
    obtain ⟨v, hv, rfl⟩ := hs a.eval ats ty w (fun x hx v hv => by
      have := hr x (by simp [Op.operands, Call.operands]; simpa using hx)
      rw [hv] at this
      exact this)
    refine ⟨v, ?_, rfl⟩
    have e : args.map a.eval = (args.toList.map a.eval).toArray := by apply Array.ext'; simp
    simp only [Bool.false_eq_true, if_false] at hv
    simp [execOp, resolve, invoke, builtin, e, hv]
  · rename_i args ats
    obtain ⟨r, hK, hs⟩ := mmK_sound (P := P) h
    refine ⟨r, hK, .of_run fun base w ρ a hk hr => ?_⟩
    obtain ⟨v, hv, rfl⟩ := hs a.eval ats ty w (fun x hx v hv => by
      have := hr x (by simp [Op.operands, Call.operands]; simpa using hx)
      rw [hv] at this
      exact this)
    refine ⟨v, ?_, rfl⟩
    have e : args.map a.eval = (args.toList.map a.eval).toArray := by apply Array.ext'; simp
    simp only [if_true] at hv
    simp [execOp, resolve, invoke, builtin, e, hv]
  · exact h.elim

end Go.Vm
namespace Go.Vm
open Go Go.RowKit

def nextver (m : Nat → Option Blk) (d : Nat) : Nat :=
  match m d with
  | some b => b.ver + 1
  | none => 0

def wrL (L : List Value) (off : Nat) : List Value → List Value
  | [] => L
  | v :: vs => wrL (L.set off v) (off + 1) vs

theorem length_wrL : ∀ (vs : List Value) (L : List Value) (off : Nat), (wrL L off vs).length = L.length
  | [], _, _ => rfl
  | v :: vs, L, off => by rw [wrL, length_wrL vs]; simp

theorem wrL_append : ∀ (vs : List Value) (L R : List Value) (off : Nat), off + vs.length ≤ L.length → wrL (L ++ R) off vs = wrL L off vs ++ R
  | [], _, _, _, _ => rfl
  | v :: vs, L, R, off, h => by
    simp only [List.length_cons] at h
    rw [wrL, wrL, List.set_append_left _ _ (by omega), wrL_append vs _ R _ (by simp; omega)]

theorem wrL_end : ∀ (vs : List Value) (L R : List Value), vs.length ≤ R.length → wrL (L ++ R) L.length vs = L ++ vs ++ R.drop vs.length
  | [], _, _, _ => by simp [wrL]
  | v :: vs, L, [], h => by simp at h
  | v :: vs, L, r :: R, h => by
    simp only [List.length_cons] at h
    rw [wrL]
    have : (L ++ r :: R).set L.length v = (L ++ [v]) ++ R := by simp
    rw [this]
    have h2 := wrL_end vs (L ++ [v]) R (by omega)
    rw [List.length_append] at h2
    simp only [List.length_cons, List.length_nil, Nat.zero_add] at h2
    rw [h2]
    simp

/-- one block has turned, nothing else -/
structure BlkSet (w w' : World) (b : Nat) (o : Obj) : Prop where
  os : w'.os = w.os
  tape : w'.tape = w.tape
  output : w'.output = w.output
  size : w'.heap.size = w.heap.size
  here : w'.heap[b]? = some o
  other : ∀ k, k ≠ b → w'.heap[k]? = w.heap[k]?

def fzOk (fz : Nat × Nat) (n : Nat) : Prop := fz.2 ≤ fz.1 ∨ n ≤ fz.1

theorem run_store_blk {P : Program} {w : World} {b : Nat} {c : Array Value} {e : TypeId} {fz : Nat × Nat} (h : w.heap[b]? = some (.cells c e fz)) (hf : fzOk fz c.size) (off : Nat) (ho : off < c.size) (v : Value) (hv : v.oneCell' = true) :
    ∃ w', (store ⟨b, off, none⟩ v).run P w = .ok () w' ∧ BlkSet w w' b (.cells (c.setIfInBounds off v) e fz) := by
  have hc : w.cell? ⟨b, off, none⟩ = some c[off] := by rw [cell_of_blk h]; simp [ho]
  have hfr : w.frozen? ⟨b, off, none⟩ = false := by
    simp only [World.frozen?, h]
    rcases hf with hf | hf
    · simp; omega
    · simp; omega
  refine ⟨w.setCell ⟨b, off, none⟩ v, ?_, ?_⟩
  · rw [run_store P w _ v _ hv, hc]
    simp [hfr]
  · have hlt := (Array.getElem?_eq_some_iff.1 h).1
    have hge := (Array.getElem?_eq_some_iff.1 h).2
    refine ⟨rfl, rfl, rfl, by simp [World.setCell], ?_, fun k hk => ?_⟩
    · simp only [World.setCell]
      rw [Array.getElem?_modify, if_pos rfl, h]
      simp
    · simp only [World.setCell]
      rw [Array.getElem?_modify, if_neg (fun e => hk e.symm)]

theorem BlkSet.trans {w1 w2 w3 : World} {b : Nat} {o o' : Obj} (h : BlkSet w1 w2 b o) (h' : BlkSet w2 w3 b o') : BlkSet w1 w3 b o' :=
  ⟨h'.os.trans h.os, h'.tape.trans h.tape, h'.output.trans h.output, h'.size.trans h.size, h'.here, fun k hk => (h'.other k hk).trans (h.other k hk)⟩

theorem run_storeCells {P : Program} {b : Nat} {e : TypeId} {fz : Nat × Nat} (off : Nat) : ∀ (vs : List Value) (i : Nat) (c : Array Value) (w : World), w.heap[b]? = some (.cells c e fz) → fzOk fz c.size →
    off + i + vs.length ≤ c.size → (∀ v ∈ vs, v.oneCell' = true) →
    ∃ w' c', (storeCells ⟨b, off, none⟩ vs i).run P w = .ok () w' ∧ BlkSet w w' b (.cells c' e fz) ∧ c'.toList = wrL c.toList (off + i) vs
  | [], i, c, w, h, _, _, _ => ⟨w, c, by simp [storeCells], ⟨rfl, rfl, rfl, rfl, h, fun _ _ => rfl⟩, rfl⟩
  | v :: vs, i, c, w, h, hf, hn, h1 => by
    simp only [List.length_cons] at hn
    obtain ⟨w1, hr1, hb1⟩ := run_store_blk (P := P) h hf (off + i) (by omega) v (h1 v (by simp))
    obtain ⟨w2, c2, hr2, hb2, hc2⟩ := run_storeCells (P := P) off vs (i + 1) (c.setIfInBounds (off + i) v) w1 hb1.here (by simpa using hf) (by simp; omega) (fun u hu => h1 u (by simp [hu]))
    refine ⟨w2, c2, ?_, hb1.trans hb2, ?_⟩
    · simp only [storeCells, Sem.run_bind, Addr.add_lit, hr1, Result.andThen_ok, hr2]
    · rw [hc2, wrL, Array.toList_setIfInBounds, Nat.add_assoc]

/-! ### The relation -/
theorem Rel.blk {n : Nat} {w0 w w' : World} {ρ : Nat → Option Nat} {T : Nat → AV} {m : Nat → Option Blk} {a : Act} (h : Rel n w0 ρ T m a w) {k b : Nat} (hk : ρ k = some b) {blk blk' : Blk} (hm : m k = some blk)
    {c c' : Array Value} {e : TypeId} {fz fz' : Nat × Nat} (hc : w.heap[b]? = some (.cells c e fz)) (hs : BlkSet w w' b (.cells c' blk'.elem fz')) (hpre : ∃ rest, c'.toList = blk'.cells ++ rest) (hf : fzOk fz' c'.size)
    (hver : (blk'.ver = blk.ver ∧ blk'.cells.length = blk.cells.length ∧ c'.size = c.size) ∨ blk.ver < blk'.ver) :
    Rel n w0 ρ T (fun j => if k = j then some blk' else m j) a w' := by
  have hge := h.keys.ge hk
  have hlt := h.keys.lt hk
  refine ⟨h.defers, h.size, ?_, ⟨by rw [hs.size]; exact h.keys.bnd, ?_, ?_, h.keys.inj⟩, fun j => ?_⟩
  · exact h.below.trans ⟨hs.os, hs.tape, hs.output, by rw [hs.size]; exact Nat.le_refl _, fun i hi => hs.other i (by omega)⟩
  · intro k' blk'' hk'
    by_cases e1 : k = k'
    · subst e1
      simp at hk'
      subst hk'
      exact .inr ⟨b, hk, hge, c', fz', hs.here, hpre, hf⟩
    · simp [e1] at hk'
      rcases h.keys.keys k' blk'' hk' with h1 | ⟨b', hb', h2⟩
      · exact .inl h1
      · refine .inr ⟨b', hb', h2.ext fun _ => hs.other b' fun e2 => e1 ?_⟩
        subst e2
        exact h.keys.inj _ _ _ hk hb'
  · intro k' hk'
    by_cases e1 : k = k'
    · simp [e1] at hk'
    · simp [e1] at hk'
      exact h.keys.nokey k' hk'
  · have hj := h.tmps j
    generalize a.tmps.getD j undef = v at hj
    cases hav : T j with
    | pl x => rw [hav] at hj; exact hj
    | vec fr xs =>
      rw [hav] at hj
      exact VecAt.mono hj (fun b' _ hg => hs.other b' (fun e2 => hg.2 k (by rw [hk, e2]))) (fun _ _ h => h)
    | pcell x =>
      rw [hav] at hj
      obtain ⟨b', o, hv, hcc, hkk⟩ := hj
      exact ⟨b', o, hv, by rw [World.cell?_of_block (hs.other b' (fun e2 => hkk k (by rw [hk, e2])))]; exact hcc, hkk⟩
    | pblk b' cells =>
      rw [hav] at hj
      obtain ⟨hv, c0, e0, fz0, rest0, hcc, hr0, hkk⟩ := hj
      exact ⟨hv, c0, e0, fz0, rest0, by rw [hs.other b' (fun e2 => hkk k (by rw [hk, e2]))]; exact hcc, hr0, hkk⟩
    | ptr k' ver off =>
      rw [hav] at hj
      obtain ⟨blk0, hm0, hle, hp⟩ := hj
      by_cases e1 : k = k'
      · subst e1
        rw [hm] at hm0; cases hm0
        rcases hver with ⟨hv1, _, _⟩ | hv1
        · exact ⟨blk', by simp, by omega, fun e2 => hp (by omega)⟩
        · exact ⟨blk', by simp, by omega, fun e2 => by omega⟩
      · exact ⟨blk0, by simp [e1, hm0], hle, hp⟩
    | sl k' ver off len =>
      rw [hav] at hj
      obtain ⟨blk0, hm0, hle, hp⟩ := hj
      by_cases e1 : k = k'
      · subst e1
        rw [hm] at hm0; cases hm0
        rcases hver with ⟨hv1, hv2, hv3⟩ | hv1
        · refine ⟨blk', by simp, by omega, fun e2 => ?_⟩
          rcases hp (by omega) with h1 | ⟨b1, cap, c1, e', fz1, hb1, hv, hc1, h2, h3, h4⟩
          · exact .inl ⟨h1.1, h1.2.1, by omega, h1.2.2.2⟩
          · rw [hk] at hb1; cases hb1
            rw [hc] at hc1; cases hc1
            exact .inr ⟨b, cap, c', _, _, hk, hv, hs.here, by omega, h3, by omega⟩
        · exact ⟨blk', by simp, by omega, fun e2 => by omega⟩
      · refine ⟨blk0, by simp [e1, hm0], hle, fun e2 => ?_⟩
        rcases hp e2 with h1 | ⟨b1, cap, c1, e', fz1, hb1, hv, hc1, h2⟩
        · exact .inl h1
        · exact .inr ⟨b1, cap, c1, e', fz1, hb1, hv, by rw [hs.other b1 (fun e3 => e1 (h.keys.inj _ _ _ hk (e3 ▸ hb1)))]; exact hc1, h2⟩
    | tup ds =>
      rw [hav] at hj
      obtain ⟨vs, hv, hr⟩ := hj
      exact ⟨vs, hv, DV.rels_mono hr (fun b' _ hg => hs.other b' (fun e2 => hg.2 k (by rw [hk, e2]))) (fun _ _ h => h)⟩
    | clo f ks =>
      rw [hav] at hj
      obtain ⟨vs, hv, hl, hp⟩ := hj
      refine ⟨vs, hv, hl, fun i k' ver hi => ?_⟩
      obtain ⟨blk0, hm0, hle, hq⟩ := hp i k' ver hi
      by_cases e1 : k = k'
      · subst e1
        rw [hm] at hm0; cases hm0
        rcases hver with ⟨hv1, _, _⟩ | hv1
        · exact ⟨blk', by simp, by omega, fun e2 => hq (by omega)⟩
        · exact ⟨blk', by simp, by omega, fun e2 => by omega⟩
      · exact ⟨blk0, by simp [e1, hm0], hle, hq⟩
    | any => trivial

/-- a new block of the call's own under the key d -/
theorem Rel.newkey {n : Nat} {w0 w w' : World} {ρ : Nat → Option Nat} {T : Nat → AV} {m : Nat → Option Blk} {a : Act} (h : Rel n w0 ρ T m a w) (d : Nat) {blk' : Blk} (hver : ∀ blk, m d = some blk → blk.ver < blk'.ver)
    (hb : Below w.heap.size w w') {b : Nat} (hb0 : w.heap.size ≤ b) {c : Array Value} {fz : Nat × Nat} (hc : w'.heap[b]? = some (.cells c blk'.elem fz)) (hpre : ∃ rest, c.toList = blk'.cells ++ rest) (hf : fzOk fz c.size) :
    Rel n w0 (fun j => if d = j then some b else ρ j) T (fun j => if d = j then some blk' else m j) a w' := by
  have hx := h.ext hb
  have hbnd := h.keys.bnd
  refine ⟨h.defers, h.size, hx.below, ⟨hx.keys.bnd, ?_, ?_, ?_⟩, fun j => ?_⟩
  · intro k blk hk
    by_cases e1 : d = k
    · subst e1
      simp at hk
      subst hk
      exact .inr ⟨b, by simp, by omega, c, fz, hc, hpre, hf⟩
    · simp [e1] at hk
      simp only [e1, if_false]
      exact hx.keys.keys k blk hk
  · intro k hk
    by_cases e1 : d = k
    · simp [e1] at hk
    · simp [e1] at hk
      simp only [e1, if_false]
      exact h.keys.nokey k hk
  · intro k k' b' hk hk'
    by_cases e1 : d = k
    · rw [if_pos e1] at hk
      by_cases e2 : d = k'
      · omega
      · rw [if_neg e2] at hk'
        have := h.keys.lt hk'
        cases hk
        omega
    · rw [if_neg e1] at hk
      by_cases e2 : d = k'
      · rw [if_pos e2] at hk'
        have := h.keys.lt hk
        cases hk'
        omega
      · rw [if_neg e2] at hk'
        exact h.keys.inj _ _ _ hk hk'
  · have hj := h.tmps j
    generalize a.tmps.getD j undef = v at hj
    have hgd : ∀ (g : Nat → Prop), ∀ b', b' < w.heap.size → (g b' ∧ ∀ k, ρ k ≠ some b') → (g b' ∧ ∀ k, (if d = k then some b else ρ k) ≠ some b') := fun g b' hlt ⟨h1, h2⟩ => ⟨h1, fun k => by
      split
      · intro e; cases e; omega
      · exact h2 k⟩
    cases hav : T j with
    | pl x => rw [hav] at hj; exact hj
    | vec fr xs =>
      rw [hav] at hj
      exact VecAt.mono hj (fun b' hlt _ => hb.block b' hlt) (hgd _)
    | pcell x =>
      rw [hav] at hj
      obtain ⟨b', o, hv, hcc, hkk⟩ := hj
      have hlt := World.block_lt_of_cell? _ _ hcc
      exact ⟨b', o, hv, by rw [World.cell?_of_block (hb.block b' hlt)]; exact hcc, (hgd (fun _ => True) b' hlt ⟨trivial, hkk⟩).2⟩
    | pblk b' cells =>
      rw [hav] at hj
      obtain ⟨hv, c0, e0, fz0, rest0, hcc, hr0, hkk⟩ := hj
      have hlt : b' < w.heap.size := (Array.getElem?_eq_some_iff.1 hcc).1
      exact ⟨hv, c0, e0, fz0, rest0, by rw [hb.block b' hlt]; exact hcc, hr0, (hgd (fun _ => True) b' hlt ⟨trivial, hkk⟩).2⟩
    | ptr k' ver off =>
      rw [hav] at hj
      obtain ⟨blk0, hm0, hle, hp⟩ := hj
      by_cases e1 : d = k'
      · subst e1
        have := hver _ hm0
        exact ⟨blk', by simp, by omega, fun e2 => by omega⟩
      · exact ⟨blk0, by simp [e1, hm0], hle, fun e2 => by simpa [e1] using hp e2⟩
    | sl k' ver off len =>
      rw [hav] at hj
      obtain ⟨blk0, hm0, hle, hp⟩ := hj
      by_cases e1 : d = k'
      · subst e1
        have := hver _ hm0
        exact ⟨blk', by simp, by omega, fun e2 => by omega⟩
      · refine ⟨blk0, by simp [e1, hm0], hle, fun e2 => ?_⟩
        simp only [e1, if_false]
        rcases hp e2 with h1 | ⟨b1, cap, c1, e', fz1, hb1, hv, hc1, h2⟩
        · exact .inl h1
        · exact .inr ⟨b1, cap, c1, e', fz1, hb1, hv, by rw [hb.block b1 (h.keys.lt hb1)]; exact hc1, h2⟩
    | tup ds =>
      rw [hav] at hj
      obtain ⟨vs, hv, hr⟩ := hj
      exact ⟨vs, hv, DV.rels_mono hr (fun b' hlt _ => hb.block b' hlt) (hgd _)⟩
    | clo f ks =>
      rw [hav] at hj
      obtain ⟨vs, hv, hl, hp⟩ := hj
      refine ⟨vs, hv, hl, fun i k' ver hi => ?_⟩
      obtain ⟨blk0, hm0, hle, hq⟩ := hp i k' ver hi
      by_cases e1 : d = k'
      · subst e1
        have := hver _ hm0
        exact ⟨blk', by simp, by omega, fun e2 => by omega⟩
      · exact ⟨blk0, by simp [e1, hm0], hle, fun e2 => by simpa [e1] using hq e2⟩
    | any => trivial

theorem nextver_lt {m : Nat → Option Blk} {d : Nat} : ∀ blk, m d = some blk → blk.ver < nextver m d := by
  intro blk h
  simp [nextver, h]

theorem St.mem_setm (st : St) (k : Nat) (b : Blk) : (st.setm k b).mem = fun j => if k = j then some b else st.mem j := by
  funext j
  simp [St.mem, St.setm, look]

theorem St.get_setm (st : St) (k : Nat) (b : Blk) : (st.setm k b).get = st.get := rfl

end Go.Vm
namespace Go.Vm
open Go Go.RowKit

theorem run_firstCells_vec {P : Program} {w : World} {g : Nat → Prop} {v : Value} {xs : List Value} (h : VecAt w g v xs) : (Builtin.firstCells 1 xs.length v).run P w = .ok xs.toArray w := by
  rcases h with ⟨rfl, rfl⟩ | ⟨b, o, cap, c, e, fz, rfl, hc, _, hx, h1, h2⟩
  · simp [Builtin.firstCells]
  · have := run_loadCells_blk (P := P) hc o xs.length (by omega)
    rw [hx] at this
    simp [Builtin.firstCells, this]

theorem run_lenOf_vec {P : Program} {w : World} {g : Nat → Prop} {v : Value} {xs : List Value} (h : VecAt w g v xs) : (Builtin.lenOf v).run P w = .ok xs.length w := by
  rcases h with ⟨rfl, rfl⟩ | ⟨b, o, cap, c, e, fz, rfl, _⟩
  · simp [Builtin.lenOf]
  · simp [Builtin.lenOf]

theorem VecAt.drew {w : World} {g : Nat → Prop} {v : Value} {xs : List Value} (h : VecAt w g v xs) : VecAt w.drew g v xs := VecAt.mono h (fun _ _ _ => rfl) (fun _ _ h => h)

section
variable {P : Program} {w : World} {t t2 ty e e2 : TypeId} {i : TypeInfo} {z : Value}

/-- an append that finds room -/
theorem run_append_fit (ht : P.underlying t = some (.slice e)) (ht2 : P.underlying t2 = some (.slice e2)) (hi : P.info? e = some i) (hsz : i.size = 1)
    {b sLen sCap : Nat} {c : Array Value} {fz : Nat × Nat} {e' : TypeId} (hc : w.heap[b]? = some (.cells c e' fz)) (hf : fzOk fz c.size) {vx : Value} {ys : List Value} {g : Nat → Prop} (hx : VecAt w g vx ys)
    (hroom : sLen + ys.length ≤ sCap) (hcap : sCap ≤ c.size) (h1 : ∀ v ∈ ys, v.oneCell' = true) :
    ∃ w' c', (Builtin.append_ #[t, t2] ty #[.slice (some ⟨b, 0, none⟩) sLen sCap, vx]).run P w = .ok (.slice (some ⟨b, 0, none⟩) (sLen + ys.length) sCap) w' ∧ BlkSet w w' b (.cells c' e' fz) ∧ c'.toList = wrL c.toList sLen ys := by
  obtain ⟨w', c', hr, hb, hc'⟩ := run_storeCells (P := P) sLen ys 0 c w hc hf (by omega) h1
  refine ⟨w', c', ?_, hb, by simpa using hc'⟩
  simp [Builtin.append_, run_underlying ht, run_underlying ht2, sizeOf, typeInfo, hi, hsz, run_lenOf_vec hx, hroom, run_firstCells_vec hx, Addr.add_lit, hr]

/-- an append that makes a new row -/
theorem run_append_more (ht : P.underlying t = some (.slice e)) (ht2 : P.underlying t2 = some (.slice e2)) (hi : P.info? e = some i) (hsz : i.size = 1) (hz : i.zero = some z)
    {base : Option Addr} {sLen sCap : Nat} {olds : List Value} {g' : Nat → Prop} (hs : VecAt w g' (.slice base sLen sCap) olds) {vx : Value} {ys : List Value} {g : Nat → Prop} (hx : VecAt w g vx ys)
    (hzc : z.cells = #[z]) (hroom : sCap < sLen + ys.length) (hfit : (sLen + ys.length) * i.bytes ≤ 140737488355328) (h63 : sLen + ys.length ≤ 140737488355328) :
    ∃ cap rest, (Builtin.append_ #[t, t2] ty #[.slice base sLen sCap, vx]).run P w = .ok (.slice (some ⟨w.heap.size, 0, none⟩) (sLen + ys.length) cap) (w.drew.alloc (.cells (olds.toArray ++ ys.toArray ++ rest) e)) ∧
      cap = (olds.toArray ++ ys.toArray ++ rest).size := by
  have hlen : olds.length = sLen := by
    rcases hs with ⟨rfl, he⟩ | ⟨b, o, cap, c, e, fz, he, _⟩
    · cases he; rfl
    · cases he; rfl
  have hn : ¬ (sLen + ys.length ≤ sCap) := by omega
  have h1 : ¬ ((9223372036854775807 : Int) < ((sLen : Int) + (ys.length : Int))) := by omega
  have h2 : ¬ (281474976710656 < Builtin.nextslicecap (sLen + ys.length) sCap * i.bytes) := by
    have := growslice_fits (old := sCap) (need := sLen + ys.length) (bytes := i.bytes) hroom hfit
    omega
  have hge := grownCap_ge w (sLen + ys.length) sCap e
  refine ⟨grownCap w (sLen + ys.length) sCap e, Builtin.zeroCells z.cells (grownCap w (sLen + ys.length) sCap e - (sLen + ys.length)), ?_, ?_⟩
  · have hf1 := run_firstCells_vec (P := P) (VecAt.drew hs)
    have hf2 := run_firstCells_vec (P := P) (VecAt.drew hx)
    rw [hlen] at hf1
    simp [Builtin.append_, run_underlying ht, run_underlying ht2, sizeOf, typeInfo, hi, hsz, run_lenOf_vec hx, hn, h1, h2, Question.forced, hf1, hf2, zeroValue, hz, newRow, grownCap]
    have ea : ∀ r : Array Value, olds.toArray ++ (ys.toArray ++ r) = (olds ++ ys).toArray ++ r := fun r => by apply Array.ext'; simp
    rw [ea]
  · simp [size_zeroCells, hzc, hlen]
    omega
end

/-- made rows -/
theorem run_make_row {P : Program} {w : World} {t e : TypeId} {i : TypeInfo} {z : Value} (ht : P.underlying t = some (.slice e)) (hi : P.info? e = some i) (hsz : i.size = 1) (hz : i.zero = some z) (hzc : z.cells = #[z])
    (kl kc : IntKind) (l : Int) (h0 : 0 ≤ l) (hbytes : (i.bytes : Int) * l ≤ 281474976710656) (h63 : l ≤ 9223372036854775807) :
    ∃ c, (Instr.makeSlice t (.int kl l) (.int kc l)).run P w = .ok (.slice (some ⟨w.heap.size, 0, none⟩) l.toNat l.toNat) (w.alloc (.cells c e)) ∧ c.toList = List.replicate l.toNat z := by
  have hr := run_make (P := P) w t e i z ht hi hz kl kc l l h0 (Int.le_refl _) hbytes h63
  rw [hsz, Nat.mul_one] at hr
  refine ⟨_, hr, ?_⟩
  rw [hzc, toList_madeCells_one]

/-- the values of parts that stand one behind the other -/
def seqParts : Nat → List (Nat × Value) → Option (List Value)
  | _, [] => some []
  | k, (i, v) :: r => if i = k ∧ v.oneCell' = true then (match seqParts (k + 1) r with
    | some vs => some (v :: vs)
    | none => none) else none

theorem cells_one {v : Value} (h : v.oneCell' = true) : v.cells = #[v] := by
  cases v <;> first | rfl | cases h

theorem fill_seq : ∀ (parts : List (Nat × Value)) (k : Nat) (vs : List Value) (cells : Array Value), seqParts k parts = some vs → k + vs.length ≤ cells.size →
    ∃ c', Instr.fill (fun i => some (i * 1, 1)) cells parts = some c' ∧ c'.toList = wrL cells.toList k vs
  | [], k, vs, cells, h, _ => by cases h; exact ⟨cells, rfl, rfl⟩
  | (i, v) :: r, k, vs, cells, h, hn => by
    unfold seqParts at h
    split at h
    · rename_i hc
      split at h
      · rename_i vs' hvs
        cases h
        obtain ⟨rfl, h1⟩ := hc
        simp only [List.length_cons] at hn
        obtain ⟨c', hf, hc'⟩ := fill_seq r (i + 1) vs' (cells.setIfInBounds i v) hvs (by simp; omega)
        refine ⟨c', ?_, by rw [hc', Array.toList_setIfInBounds]; rfl⟩
        have hnot : ¬ (cells.size < i + 1) := by omega
        simp only [Instr.fill, cells_one h1]
        simp [hnot]
        have e : (fun (i : Nat) => some (i * 1, 1)) = fun i => some (i, 1) := by funext i; simp
        rw [e] at hf
        exact hf
      · cases h
    · cases h

theorem run_buildSlice {P : Program} {w : World} {t e : TypeId} {z : Value} (ht : P.underlying t = some (.slice e)) (hs : szOf P e = some 1) (hz : (P.info? e).bind (·.zero) = some z)
    {parts : List (Nat × Value)} {vs : List Value} (hp : seqParts 0 parts = some vs) (hn : vs.length ≤ 1000) :
    ∃ c, (Instr.buildSlice t vs.length parts.toArray).run P w = .ok (.slice (some ⟨w.heap.size, 0, none⟩) vs.length vs.length) (w.alloc (.cells c e)) ∧ c.toList = vs := by
  have hle : ¬ (16777216 < vs.length) := by omega
  have hw : ∀ (A : Array Value), A.size = vs.length → ∃ c', Instr.fill (fun i => some (i * 1, 1)) A parts = some c' ∧ c'.toList = vs := fun A hA => by
    obtain ⟨c', h1, h2⟩ := fill_seq parts 0 vs A hp (by omega)
    refine ⟨c', h1, ?_⟩
    have := wrL_end vs [] A.toList (by simp [hA])
    simp only [List.nil_append, List.length_nil] at this
    rw [h2, this, List.drop_of_length_le (by simp [hA])]
    simp
  by_cases h0 : vs.length = 0
  · have hv : vs = [] := List.eq_nil_of_length_eq_zero h0
    subst hv
    have hpn : parts = [] := by
      cases parts with
      | nil => rfl
      | cons p r =>
        simp only [seqParts] at hp
        split at hp
        · split at hp <;> cases hp
        · cases hp
    subst hpn
    refine ⟨#[], ?_, rfl⟩
    unfold Instr.buildSlice
    simp [run_underlying ht, run_sizeOf hs, Instr.fill, newRow, Array.range_zero']
  · have hne : vs ≠ [] := fun e => h0 (by simp [e])
    obtain ⟨c', h1, h2⟩ := hw ((Array.range (vs.length * 1)).map (fun i => z.cells[i % z.cells.size]!)) (by simp)
    refine ⟨c', ?_, h2⟩
    unfold Instr.buildSlice
    simp only [Sem.run_bind, run_underlying ht, Result.andThen_ok, run_sizeOf hs]
    rw [if_neg (by simpa using hle), if_neg (by simpa using h0)]
    simp only [Sem.run_bind, run_zero hz, Result.andThen_ok, Sem.run_pure]
    rw [h1]
    simp [newRow]

end Go.Vm
namespace Go.Vm
open Go Go.RowKit

def dOk (d : Option Nat) (n : Nat) : Prop :=
  match d with
  | some x => x < n
  | none => True

theorem dOk.out {d : Option Nat} {n : Nat} (h : dOk d n) : ∀ x, d = some x → x < n := fun x e => by subst e; exact h

/-- a new block of the call's own under the key of the slot that is written -/
def newK (n : Nat) (st : St) (d : Option Nat) (t : TypeId) (cells : List Value) (mk : Nat → Nat → AV) (K : St → Prop) : Prop :=
  match d with
  | some d => d < n ∧ K ((st.setm d ⟨nextver st.mem d, t, cells⟩).set d (mk d (nextver st.mem d)))
  | none => False

def storeK (P : Program) (st : St) (d : Option Nat) (t : TypeId) (a x : AV) (K : St → Prop) : Prop :=
  match d, a, x with
  | none, .ptr k ver off, .pl v => (match st.mem k with
    | some blk => ver = blk.ver ∧ szOf P t = some v.cells.size ∧ off + v.cells.size ≤ blk.cells.length ∧ v.cells.toList.all Value.oneCell' = true ∧
      K (st.setm k ⟨blk.ver, blk.elem, wrL blk.cells off v.cells.toList⟩)
    | none => False)
  | _, _, _ => False

/-- the element type of a slice type, if its elements are of one cell -/
structure Row1 (P : Program) (t e : TypeId) (z : Value) (bytes : Nat) : Prop where
  ht : P.underlying t = some (.slice e)
  row : ∃ i, P.info? e = some i ∧ i.size = 1 ∧ i.zero = some z ∧ i.bytes = bytes
  hzc : z.cells = #[z]

def oneCellZ : Value → Bool
  | .agg _ => false
  | _ => true

/-- a slice type's element type, its zero value and bytes, if its elements are of one cell -/
def rowOf (P : Program) (t : TypeId) : Option (TypeId × Value × Nat) :=
  match P.underlying t with
  | some (.slice e) => (match P.info? e with
    | some i => (match i.zero with
      | some z => if i.size = 1 ∧ oneCellZ z = true then some (e, z, i.bytes) else none
      | none => none)
    | none => none)
  | _ => none

theorem rowOf_row {P : Program} {t e : TypeId} {z : Value} {bytes : Nat} (h : rowOf P t = some (e, z, bytes)) : Row1 P t e z bytes := by
  unfold rowOf at h
  split at h
  · rename_i e' ht
    split at h
    · rename_i i hi
      split at h
      · rename_i z' hz
        split at h
        · rename_i hc
          cases h
          refine ⟨ht, ⟨i, hi, hc.1, hz, rfl⟩, ?_⟩
          have := hc.2
          cases z <;> first | rfl | cases this
        · cases h
      · cases h
    · cases h
  · cases h

def isSl (P : Program) (t : TypeId) : Bool :=
  match P.underlying t with
  | some (.slice _) => true
  | _ => false

def appK (P : Program) (n : Nat) (st : St) (d : Option Nat) (t t2 : TypeId) (s x : AV) (K : St → Prop) : Prop :=
  match rowOf P t, isSl P t2, d with
  | some (e, _, bytes), true, some d => d < n ∧
    (match x.cont st.mem with
    | some ys => ys.all Value.oneCell' = true ∧
      (match s with
      | .pl v => isNil v = true ∧ 0 < ys.length ∧ ys.length * bytes ≤ 140737488355328 ∧ ys.length ≤ 140737488355328 ∧
          K ((st.setm d ⟨nextver st.mem d, e, ys⟩).set d (.sl d (nextver st.mem d) 0 ys.length))
      | .sl k ver off len => off = 0 ∧ (match st.mem k with
        | some blk => ver = blk.ver ∧ len = blk.cells.length ∧ blk.elem = e ∧ (len + ys.length) * bytes ≤ 140737488355328 ∧ len + ys.length ≤ 140737488355328 ∧
          K ((st.setm k ⟨ver + 1, e, blk.cells ++ ys⟩).set d (.sl k (ver + 1) 0 (len + ys.length)))
        | none => False)
      | _ => False)
    | none => False)
  | _, _, _ => False

def copyK (P : Program) (n : Nat) (st : St) (dst : Option Nat) (t : TypeId) (d x : AV) (K : St → Prop) : Prop :=
  (match P.underlying t with
  | some (.slice e) => szOf P e = some 1
  | _ => False) ∧ dOk dst n ∧
  match d, x with
  | .sl k ver off len, .pl (.string s) => (match st.mem k with
    | some blk => ver = blk.ver ∧ off + len ≤ blk.cells.length ∧ 0 < len ∧
      K ((st.setm k ⟨blk.ver, blk.elem, wrL blk.cells off ((s.data.toList.take (min s.size len)).map fun b => Value.int .u8 b.toNat)⟩).put dst (.pl (goInt (min s.size len : Nat))))
    | none => False)
  | _, _ => False

def putK (n : Nat) (d : Option Nat) (K : St → Prop) (st : St) (r : AV) : Prop := dOk d n ∧ K (st.put d r)

/-- what a called function writes into a captured variable -/
def wrG (Γ : Env) (m : Nat → Option Blk) (ev : Operand → AV) (fid : Nat) (ks : List (Nat × Nat)) (args : List Operand) : Option (Nat × List Value) :=
  match look Γ fid with
  | some g => (match evs ev m args with
    | some ds => (match capsD m ks with
      | some cs => (match g (ds ++ cs) with
        | some (.upd j L) => if ds.length ≤ j then some (j - ds.length, L) else none
        | _ => none)
      | none => none)
    | none => none)
  | none => none

def updK (n : Nat) (st : St) (d : Option Nat) (ks : List (Nat × Nat)) (i : Nat) (L : List Value) (K : St → Prop) : Prop :=
  match ks[i]? with
  | some (k, ver) => (match st.mem k with
    | some blk => ver = blk.ver ∧ L.length = blk.cells.length ∧ putK n d K (st.setm k { blk with cells := L }) (.pl (.tuple #[]))
    | none => False)
  | none => False

/-- what an operation does -/
def gK (P : Program) (Γ : Env) (n : Nat) (o : Oper) (st : St) (K : St → Prop) : Prop :=
  match o.op with
  | .alloc t => (match (P.info? t).bind (·.zero) with
    | some z => newK n st o.dst t z.cells.toList (fun d v => .ptr d v 0) K
    | none => False)
  | .box t x => (match st.ev x with
    | .pl v => newK n st o.dst t v.cells.toList (fun d v => .ptr d v 0) K
    | _ => False)
  | .store t a x => storeK P st o.dst t (st.ev a) (st.ev x) K
  | .makeSlice t l c => (match st.ev l, st.ev c with
    | .pl (.int _ a), .pl (.int _ b) => (match rowOf P t with
      | some (e, z, bytes) => a = b ∧ 0 ≤ a ∧ (bytes : Int) * a ≤ 281474976710656 ∧ a ≤ 9223372036854775807 ∧
        newK n st o.dst e (List.replicate a.toNat z) (fun d v => .sl d v 0 a.toNat) K
      | none => False)
    | _, _ => False)
  | .buildSlice t len parts => (match plains st.ev parts.toList with
    | some vs => (match seqParts 0 vs with
      | some xs => (match rowOf P t with
        | some (e, _, _) => len = xs.length ∧ len ≤ 1000 ∧ newK n st o.dst e xs (fun d v => .sl d v 0 len) K
        | none => False)
      | none => False)
    | none => False)
  | .convert src dst x => (match st.ev x with
    | .pl (.string s) => (match P.underlying dst with
      | some (.slice e) => (P.underlying src).isSome = true ∧ P.underlying e = some (.int .u8) ∧
          newK n st o.dst e (s.data.toList.map fun b => Value.int .u8 b.toNat) (fun d v => .sl d v 0 s.size) K
      | _ => qK P Γ st.mem st.ev o.op (putK n o.dst K st))
    | _ => qK P Γ st.mem st.ev o.op (putK n o.dst K st))
  | .call { callee := .builtin .append, args := ⟨[s, x]⟩, argTypes := ⟨[t, t2]⟩ } => appK P n st o.dst t t2 (st.ev s) (st.ev x) K
  | .call { callee := .builtin .copy, args := ⟨[d, x]⟩, argTypes := ⟨[t, _]⟩ } => copyK P n st o.dst t (st.ev d) (st.ev x) K
  | .call { callee := .value f, args, .. } => (match st.ev f with
    | .clo fid (p :: ks) => (match wrG Γ st.mem st.ev fid (p :: ks) args.toList with
      | some (i, L) => updK n st o.dst (p :: ks) i L K
      | none => qK P Γ st.mem st.ev o.op (putK n o.dst K st))
    | _ => qK P Γ st.mem st.ev o.op (putK n o.dst K st))
  | _ => qK P Γ st.mem st.ev o.op (putK n o.dst K st)

/-- the operation has been carried out: the frame and the world read as the state says -/
def After (n : Nat) (w0 : World) (o : Oper) (a : Act) (K : St → Prop) (v : Value) (w' : World) : Prop :=
  ∃ ρ' st', K st' ∧ Rel n w0 ρ' st'.get st'.mem (a.put o.dst v) w'

theorem quiet_after {P : Program} {Γ : Env} (hΓ : Γ.ok P) {n : Nat} {o : Oper} {st : St} {K : St → Prop} (h : qK P Γ st.mem st.ev o.op (putK n o.dst K st))
    {w0 w : World} {ρ : Nat → Option Nat} {a : Act} (hr : Rel n w0 ρ st.get st.mem a w) : Does P (After n w0 o a K) ((execOp a.eval o).run P w) := by
  obtain ⟨r, ⟨hd, hK⟩, hq⟩ := qK_sound hΓ h
  refine (hq w0.heap.size w ρ a hr.keys (fun x _ => hr.eval x)).mono fun v w' ⟨h1, h2⟩ => ?_
  refine ⟨ρ, _, hK, ?_⟩
  rw [St.get_put, St.mem_put]
  exact (hr.ext h2).put hd.out h1

theorem set_put (st : St) (d : Nat) (v : AV) : st.set d v = st.put (some d) v := rfl

theorem newK_after {n : Nat} {o : Oper} {st : St} {t : TypeId} {cells : List Value} {mk : Nat → Nat → AV} {K : St → Prop} (h : newK n st o.dst t cells mk K)
    {w0 w w' : World} {ρ : Nat → Option Nat} {a : Act} (hr : Rel n w0 ρ st.get st.mem a w) (hb : Below w.heap.size w w') {b : Nat} (hb0 : w.heap.size ≤ b) {c : Array Value} {fz : Nat × Nat} (hc : w'.heap[b]? = some (.cells c t fz))
    (hpre : ∃ rest, c.toList = cells ++ rest) (hf : fzOk fz c.size) {v : Value}
    (hv : ∀ d ver, RelV w0.heap.size w' (fun j => if d = j then some b else ρ j) (fun j => if d = j then some ⟨ver, t, cells⟩ else st.mem j) v (mk d ver)) : After n w0 o a K v w' := by
  unfold newK at h
  split at h
  · rename_i d hd
    obtain ⟨hlt, hK⟩ := h
    refine ⟨fun j => if d = j then some b else ρ j, _, hK, ?_⟩
    rw [hd, set_put, St.get_put, St.mem_put, St.mem_setm, St.get_setm]
    exact (hr.newkey d (blk' := ⟨nextver st.mem d, t, cells⟩) nextver_lt hb hb0 hc hpre hf).put (fun x e => by cases e; exact hlt) (hv d _)
  · exact h.elim

theorem below_alloc (w : World) (o : Obj) : Below w.heap.size w (w.alloc o) := (Below.refl _ _).alloc (Nat.le_refl _) o
theorem below_drew_alloc (w : World) (o : Obj) : Below w.heap.size w (w.drew.alloc o) := ((Below.refl w.heap.size w).drew).alloc (Nat.le_refl _) o
theorem alloc_new (w : World) (o : Obj) : (w.alloc o).heap[w.heap.size]? = some o := by
  show (w.heap.push o)[w.heap.size]? = some o
  simp
theorem drew_alloc_new (w : World) (o : Obj) : (w.drew.alloc o).heap[w.heap.size]? = some o := alloc_new w.drew o

theorem storeK_after {P : Program} {o : Oper} {st : St} {t : TypeId} {x y : Operand} {K : St → Prop} {n : Nat} (h : storeK P st o.dst t (st.ev x) (st.ev y) K)
    {w0 w : World} {ρ : Nat → Option Nat} {a : Act} (hr : Rel n w0 ρ st.get st.mem a w) :
    ∃ w', (Instr.storeAt t (a.eval x) (a.eval y)).run P w = .ok () w' ∧ After n w0 o a K undef w' := by
  unfold storeK at h
  split at h
  · rename_i k ver off v hd hx hy
    split at h
    case h_2 => exact h.elim
    rename_i blk hm
    obtain ⟨rfl, hs, hl, h1, hK⟩ := h
    have e1 := hr.eval x
    have e2 := hr.eval y
    rw [show evT st.get x = st.ev x from rfl, hx] at e1
    rw [show evT st.get y = st.ev y from rfl, hy] at e2
    have e2' : a.eval y = v := e2
    obtain ⟨blk', hm', _, hp⟩ := e1
    rw [hm] at hm'; cases hm'
    obtain ⟨b, hb, hv⟩ := hp rfl
    obtain ⟨blk', hm', _, c, fz, hc, ⟨rest, hrest⟩, hf⟩ := hr.keys.key hb
    rw [hm] at hm'; cases hm'
    have hsz : blk.cells.length ≤ c.size := by have := congrArg List.length hrest; simp at this; omega
    obtain ⟨w', c', hrun, hset, hc'⟩ := run_storeCells (P := P) off v.cells.toList 0 c w hc hf (by simpa using Nat.le_trans hl hsz) (List.all_eq_true.1 h1)
    refine ⟨w', ?_, ?_⟩
    · simp only [Instr.storeAt, hv, Instr.sureAddr, e2', storeVar, Sem.run_bind, Sem.run_pure, Result.andThen_ok, run_sizeOf hs]
      rw [if_neg (by simp)]
      exact hrun
    · refine ⟨ρ, _, hK, ?_⟩
      rw [hd, St.get_setm, St.mem_setm]
      have hcs : c'.size = c.size := by rw [← Array.length_toList, hc', length_wrL, Array.length_toList]
      refine hr.blk hb hm hc hset ⟨rest, ?_⟩ (by rw [hcs]; exact hf) (.inl ⟨rfl, by simp [length_wrL], hcs⟩)
      rw [hc', hrest, Nat.add_zero]
      exact wrL_append _ _ _ _ (by simpa using hl)
  · exact h.elim

theorem appK_after {P : Program} {n : Nat} {o : Oper} {st : St} {t t2 : TypeId} {s x : Operand} {K : St → Prop} (h : appK P n st o.dst t t2 (st.ev s) (st.ev x) K)
    {w0 w : World} {ρ : Nat → Option Nat} {a : Act} (hr : Rel n w0 ρ st.get st.mem a w) (ty : TypeId) :
    ∃ v w', (Builtin.append_ #[t, t2] ty #[a.eval s, a.eval x]).run P w = .ok v w' ∧ After n w0 o a K v w' := by
  unfold appK at h
  split at h
  case h_2 => exact h.elim
  rename_i e z bytes d hrow hsl hd
  obtain ⟨ht, ⟨i, hi, hsz, hz, hby⟩, hzc⟩ := rowOf_row hrow
  subst hby
  obtain ⟨e2, ht2⟩ : ∃ e2, P.underlying t2 = some (.slice e2) := by
    unfold isSl at hsl
    split at hsl
    · rename_i e2 h2; exact ⟨e2, h2⟩
    · cases hsl
  obtain ⟨hdn, h⟩ := h
  split at h
  case h_2 => exact h.elim
  rename_i ys hys
  obtain ⟨h1, h⟩ := h
  have h1' := List.all_eq_true.1 h1
  have hx := AV.cont_sound hr.keys (hr.eval x) hys
  have es := hr.eval s
  rw [show evT st.get s = st.ev s from rfl] at es
  split at h
  · rename_i v hs
    obtain ⟨hn, hpos, hb1, hb2, hK⟩ := h
    rw [hs] at es
    have es' : a.eval s = v := es
    have hv : v = .slice none 0 0 := isNil_eq hn
    obtain ⟨cap, rest, hrun, hcap⟩ := run_append_more (P := P) (w := w) (ty := ty) ht ht2 hi hsz hz (base := none) (sLen := 0) (sCap := 0) (olds := []) (g' := fun _ => True) (.inl ⟨rfl, rfl⟩) hx hzc (by omega) (by simpa using hb1) (by omega)
    rw [es', hv]
    refine ⟨_, _, hrun, ?_⟩
    refine newK_after (st := st) (cells := ys) (mk := fun d v => .sl d v 0 ys.length) (by rw [hd]; exact ⟨hdn, hK⟩) hr (below_drew_alloc w _) (Nat.le_refl _) (drew_alloc_new w _) ⟨rest.toList, by simp⟩ (.inl (Nat.le_refl _)) (fun d ver => ?_)
    refine ⟨⟨ver, e, ys⟩, by simp, Nat.le_refl _, fun _ => .inr ⟨w.heap.size, cap, _, _, _, by simp, by simp, drew_alloc_new w _, ?_, ?_, by simp⟩⟩
    · rw [hcap]; simp
    · rw [hcap]; simp
  · rename_i k ver off len hs
    obtain ⟨rfl, h⟩ := h
    split at h
    case h_2 => exact h.elim
    rename_i blk hm
    obtain ⟨rfl, rfl, hel, hb1, hb2, hK⟩ := h
    rw [hs] at es
    obtain ⟨blk', hm', _, hp⟩ := es
    rw [hm] at hm'; cases hm'
    have hlen0 : (blk.cells ++ ys).length = blk.cells.length + ys.length := by simp
    rcases hp rfl with ⟨hl0, _, _, hv⟩ | ⟨b, cap, c, e', fz, hb, hv, hc, h2, h3, h4⟩
    · have hnil : blk.cells = [] := List.eq_nil_of_length_eq_zero hl0
      rw [hv]
      by_cases hpos : ys.length = 0
      · have hyn : ys = [] := List.eq_nil_of_length_eq_zero hpos
        subst hyn
        refine ⟨.slice none 0 0, w, ?_, ?_⟩
        · have hf := run_firstCells_vec (P := P) hx
          simp only [List.length_nil] at hf
          have hl := run_lenOf_vec (P := P) hx
          simp [Builtin.append_, run_underlying ht, run_underlying ht2, sizeOf, typeInfo, hi, hsz, hl, hf]
        · cases hρ : ρ k with
          | none =>
            refine ⟨ρ, _, hK, ?_⟩
            rw [hd, set_put, St.get_put, St.mem_put, St.mem_setm, St.get_setm]
            have hrel : Rel n w0 ρ st.get (fun j => if k = j then some ⟨blk.ver + 1, e, blk.cells ++ []⟩ else st.mem j) a w := by
              refine ⟨hr.defers, hr.size, hr.below, ⟨hr.keys.bnd, ?_, ?_, hr.keys.inj⟩, fun j => ?_⟩
              · intro k' blk' hk'
                by_cases e1 : k = k'
                · subst e1; simp at hk'; subst hk'; exact .inl ⟨hρ, by simp [hnil]⟩
                · simp [e1] at hk'; exact hr.keys.keys k' blk' hk'
              · intro k' hk'
                by_cases e1 : k = k'
                · simp [e1] at hk'
                · simp [e1] at hk'; exact hr.keys.nokey k' hk'
              · have hj := hr.tmps j
                generalize a.tmps.getD j undef = u at hj
                cases hav : st.get j with
                | pl x => rw [hav] at hj; exact hj
                | vec fr xs => rw [hav] at hj; exact hj
                | pcell x => rw [hav] at hj; exact hj
                | pblk b cells => rw [hav] at hj; exact hj
                | ptr k' ver off =>
                  rw [hav] at hj
                  obtain ⟨blk0, hm0, hle, hq⟩ := hj
                  by_cases e1 : k = k'
                  · subst e1; rw [hm] at hm0; cases hm0
                    exact ⟨_, by simp; rfl, by simp; omega, fun e2 => by simp at e2; omega⟩
                  · exact ⟨blk0, by simp [e1, hm0], hle, hq⟩
                | sl k' ver off len =>
                  rw [hav] at hj
                  obtain ⟨blk0, hm0, hle, hq⟩ := hj
                  by_cases e1 : k = k'
                  · subst e1; rw [hm] at hm0; cases hm0
                    exact ⟨_, by simp; rfl, by simp; omega, fun e2 => by simp at e2; omega⟩
                  · exact ⟨blk0, by simp [e1, hm0], hle, hq⟩
                | tup ds => rw [hav] at hj; exact hj
                | clo f ks =>
                  rw [hav] at hj
                  obtain ⟨vs, hv, hl, hp⟩ := hj
                  refine ⟨vs, hv, hl, fun i k' ver hi => ?_⟩
                  obtain ⟨blk0, hm0, hle, hq⟩ := hp i k' ver hi
                  by_cases e1 : k = k'
                  · subst e1; rw [hm] at hm0; cases hm0
                    exact ⟨_, by simp; rfl, by simp; omega, fun e2 => by simp at e2; omega⟩
                  · exact ⟨blk0, by simp [e1, hm0], hle, hq⟩
                | any => trivial
            refine hrel.put (fun x e => by cases e; exact hdn) ⟨_, by simp; rfl, Nat.le_refl _, fun _ => .inl ⟨by simp [hl0], rfl, by simp [hnil], rfl⟩⟩
          | some b =>
            obtain ⟨blk', hm', hbge, c, fz, hc, ⟨rest, hrest⟩, hf⟩ := hr.keys.key hρ
            rw [hm] at hm'; cases hm'
            refine ⟨ρ, _, hK, ?_⟩
            rw [hd, set_put, St.get_put, St.mem_put, St.mem_setm, St.get_setm]
            have hset : BlkSet w w b (.cells c e fz) := ⟨rfl, rfl, rfl, rfl, by rw [← hel]; exact hc, fun _ _ => rfl⟩
            have hrel := hr.blk hρ hm (blk' := ⟨blk.ver + 1, e, blk.cells ++ []⟩) hc hset ⟨rest, by simpa using hrest⟩ hf (.inr (by simp))
            refine hrel.put (fun x e => by cases e; exact hdn) ⟨_, by simp; rfl, Nat.le_refl _, fun _ => .inl ⟨by simp [hl0], rfl, by simp [hnil], rfl⟩⟩
      · obtain ⟨cap, rest, hrun, hcap⟩ := run_append_more (P := P) (w := w) (ty := ty) ht ht2 hi hsz hz (base := none) (sLen := 0) (sCap := 0) (olds := []) (g' := fun _ => True) (.inl ⟨rfl, rfl⟩) hx hzc (by omega) (by simpa [hl0] using hb1) (by omega)
        refine ⟨_, _, hrun, ?_⟩
        refine ⟨fun j => if k = j then some w.heap.size else ρ j, _, hK, ?_⟩
        rw [hd, set_put, St.get_put, St.mem_put, St.mem_setm, St.get_setm]
        have hrel := hr.newkey k (blk' := ⟨blk.ver + 1, e, blk.cells ++ ys⟩) (fun b hb => by rw [hm] at hb; cases hb; simp) (below_drew_alloc w _) (Nat.le_refl _) (c := #[] ++ ys.toArray ++ rest) (fz := (0, 0)) (drew_alloc_new w _) ⟨rest.toList, by simp [hnil]⟩ (.inl (Nat.le_refl _))
        refine hrel.put (fun x e => by cases e; exact hdn) ⟨_, by simp; rfl, Nat.le_refl _, fun _ => .inr ⟨w.heap.size, cap, _, _, _, by simp, by simp [hl0], drew_alloc_new w _, ?_, ?_, by simp⟩⟩
        · rw [hcap]; simp
        · rw [hcap]; simp [hl0]
    · obtain ⟨blk', hm', hbge, c', fz', hc', ⟨rest, hrest⟩, hf⟩ := hr.keys.key hb
      rw [hm] at hm'; cases hm'
      rw [hc] at hc'; cases hc'
      have hcl : blk.cells.length ≤ c.size := by have := congrArg List.length hrest; simp at this; omega
      rw [hv]
      by_cases hroom : blk.cells.length + ys.length ≤ cap
      · obtain ⟨w', c', hrun, hset, hc2⟩ := run_append_fit (P := P) (w := w) (ty := ty) ht ht2 hi hsz hc hf hx hroom (by omega) h1'
        refine ⟨_, _, hrun, ?_⟩
        refine ⟨ρ, _, hK, ?_⟩
        rw [hd, set_put, St.get_put, St.mem_put, St.mem_setm, St.get_setm]
        have hcs : c'.size = c.size := by rw [← Array.length_toList, hc2, length_wrL, Array.length_toList]
        have hwr := wrL_end ys blk.cells rest (by have := congrArg List.length hrest; simp at this; omega)
        have hrel := hr.blk hb hm (blk' := ⟨blk.ver + 1, blk.elem, blk.cells ++ ys⟩) hc hset ⟨rest.drop ys.length, by rw [hc2, hrest, hwr]⟩ (by rw [hcs]; exact hf) (.inr (by simp))
        rw [hel] at hrel
        refine hrel.put (fun x e => by cases e; exact hdn) ⟨_, by simp; rfl, Nat.le_refl _, fun _ => .inr ⟨b, cap, c', _, _, hb, rfl, hset.here, ?_, hroom, by simp⟩⟩
        omega
      · have hs2 : VecAt w (fun _ => True) (.slice (some ⟨b, 0, none⟩) blk.cells.length cap) blk.cells := by
          refine .inr ⟨b, 0, cap, c, _, fz, rfl, hc, trivial, ?_, h3, by omega⟩
          rw [List.drop_zero, hrest]; simp
        obtain ⟨cap', rest', hrun, hcap⟩ := run_append_more (P := P) (w := w) (ty := ty) ht ht2 hi hsz hz hs2 hx hzc (by omega) (by simpa using hb1) (by omega)
        refine ⟨_, _, hrun, ?_⟩
        refine ⟨fun j => if k = j then some w.heap.size else ρ j, _, hK, ?_⟩
        rw [hd, set_put, St.get_put, St.mem_put, St.mem_setm, St.get_setm]
        have hrel := hr.newkey k (blk' := ⟨blk.ver + 1, e, blk.cells ++ ys⟩) (fun b hb => by rw [hm] at hb; cases hb; simp) (below_drew_alloc w _) (Nat.le_refl _) (c := blk.cells.toArray ++ ys.toArray ++ rest') (fz := (0, 0)) (drew_alloc_new w _) ⟨rest'.toList, by simp⟩ (.inl (Nat.le_refl _))
        refine hrel.put (fun x e => by cases e; exact hdn) ⟨_, by simp; rfl, Nat.le_refl _, fun _ => .inr ⟨w.heap.size, cap', _, _, _, by simp, by simp, drew_alloc_new w _, ?_, ?_, by simp⟩⟩
        · rw [hcap]; simp
        · rw [hcap]; simp
  · exact h.elim

theorem copyK_after {P : Program} {n : Nat} {o : Oper} {st : St} {t t2 : TypeId} {d x : Operand} {K : St → Prop} (h : copyK P n st o.dst t (st.ev d) (st.ev x) K)
    {w0 w : World} {ρ : Nat → Option Nat} {a : Act} (hr : Rel n w0 ρ st.get st.mem a w) (ty : TypeId) :
    ∃ v w', (Builtin.copy_ #[t, t2] ty #[a.eval d, a.eval x]).run P w = .ok v w' ∧ After n w0 o a K v w' := by
  obtain ⟨ht, hd, h⟩ := h
  split at ht
  case h_2 => exact ht.elim
  rename_i e hte
  split at h
  case h_2 => exact h.elim
  rename_i k ver off len s hd1 hx1
  split at h
  case h_2 => exact h.elim
  rename_i blk hm
  obtain ⟨rfl, hl, hpos, hK⟩ := h
  have e1 := hr.eval d
  have e2 := hr.eval x
  rw [show evT st.get d = st.ev d from rfl, hd1] at e1
  rw [show evT st.get x = st.ev x from rfl, hx1] at e2
  have e2' : a.eval x = .string s := e2
  obtain ⟨blk', hm', _, hp⟩ := e1
  rw [hm] at hm'; cases hm'
  rcases hp rfl with ⟨hl0, _⟩ | ⟨b, cap, c, e', fz, hb, hv, hc, h2, h3, h4⟩
  · omega
  obtain ⟨blk', hm', hbge, c', fz', hc', ⟨rest, hrest⟩, hf⟩ := hr.keys.key hb
  rw [hm] at hm'; cases hm'
  rw [hc] at hc'; cases hc'
  have hcl : blk.cells.length ≤ c.size := by have := congrArg List.length hrest; simp at this; omega
  let ys := (s.data.toList.take (min s.size len)).map fun b => Value.int .u8 (b.toNat : Int)
  have hyl : ys.length ≤ len := by simp [ys]; omega
  obtain ⟨w', c', hrun, hset, hc2⟩ := run_storeCells (P := P) off ys 0 c w hc hf (by omega) (fun v hv => by simp only [ys, List.mem_map] at hv; obtain ⟨b, _, rfl⟩ := hv; rfl)
  refine ⟨goInt (min s.size len : Nat), w', ?_, ?_⟩
  · rw [hv, e2']
    simp [Builtin.copy_, run_underlying hte, Builtin.lenOf, Builtin.firstCells, run_sizeOf ht]
    have e3 : List.take (s.size.min len) (List.map (fun b => Value.int .u8 (b.toNat : Int)) s.data.toList) = ys := by
      simp only [ys, List.map_take]
    rw [e3, hrun]
    rfl
  · refine ⟨ρ, _, hK, ?_⟩
    rw [St.get_put, St.mem_put, St.get_setm, St.mem_setm]
    have hcs : c'.size = c.size := by rw [← Array.length_toList, hc2, length_wrL, Array.length_toList]
    have hrel := hr.blk hb hm (blk' := { blk with cells := wrL blk.cells off ys }) hc hset ⟨rest, by rw [hc2, hrest, Nat.add_zero]; exact wrL_append _ _ _ _ (by omega)⟩ (by rw [hcs]; exact hf) (.inl ⟨rfl, by simp [length_wrL], hcs⟩)
    exact hrel.put hd.out rfl

theorem rels_len {w : World} {g : Nat → Prop} : ∀ {vs : List Value} {ds : List DV}, DV.rels w g vs ds → vs.length = ds.length
  | [], [], _ => rfl
  | _ :: vs, _ :: ds, h => by simp [rels_len h.2]
  | [], _ :: _, h => h.elim
  | _ :: _, [], h => h.elim

theorem upd_after {P : Program} {Γ : Env} (hΓ : Γ.ok P) {n : Nat} {o : Oper} {st : St} {K : St → Prop} {f : Operand} {args : Array Operand} {ats : Array TypeId} (ho : o.op = .call { callee := .value f, args := args, argTypes := ats })
    {fid : Nat} {p : Nat × Nat} {ks : List (Nat × Nat)} (hf : st.ev f = .clo fid (p :: ks)) {i : Nat} {L : List Value} (hw : wrG Γ st.mem st.ev fid (p :: ks) args.toList = some (i, L)) (h : updK n st o.dst (p :: ks) i L K)
    {w0 w : World} {ρ : Nat → Option Nat} {a : Act} (hr : Rel n w0 ρ st.get st.mem a w) : Does P (After n w0 o a K) ((execOp a.eval o).run P w) := by
  unfold wrG at hw
  split at hw
  case h_2 => cases hw
  rename_i g hg
  split at hw
  case h_2 => cases hw
  rename_i ds hds
  split at hw
  case h_2 => cases hw
  rename_i cs hcs
  split at hw
  case h_2 => cases hw
  rename_i j L' hgu
  split at hw
  case isFalse => cases hw
  rename_i hj
  simp only [Option.some.injEq, Prod.mk.injEq] at hw
  obtain ⟨rfl, rfl⟩ := hw
  unfold updK at h
  split at h
  case h_2 => exact h.elim
  rename_i k ver hki
  split at h
  case h_2 => exact h.elim
  rename_i blk hm
  obtain ⟨hver, hlen, hd, hK⟩ := h
  have e1 := hr.eval f
  rw [show evT st.get f = st.ev f from rfl, hf] at e1
  obtain ⟨vs, hv, hl, hp⟩ := e1
  have hcaps := capsD_sound hr.keys hl hp hcs
  have hrels := evs_sound hr.keys (val := a.eval) (fun x _ => hr.eval x) hds
  have hln := rels_len hrels
  obtain ⟨blk', hm', _, hq⟩ := hp _ k ver hki
  rw [hm] at hm'; cases hm'
  obtain ⟨b, hb, hvb⟩ := hq hver
  obtain ⟨blk', hm', _, c, fz, hc, ⟨rest, hrest⟩, hfz⟩ := hr.keys.key hb
  rw [hm] at hm'; cases hm'
  have hsp : SpecW P fid (ds ++ cs) j L' := hΓ fid g hg (ds ++ cs) _ hgu
  have hidx : (args.toList.map a.eval ++ vs)[j]? = some (Value.pointer (some ⟨b, 0, none⟩)) := by
    rw [List.getElem?_append_right (by rw [hln]; exact hj), hln]
    exact hvb
  have hdo := hsp w _ (DV.rels_append hrels hcaps) b c blk.elem fz hidx hc hfz
  have e : args.map a.eval ++ vs.toArray = (args.toList.map a.eval ++ vs).toArray := by apply Array.ext'; simp
  have hrun : (execOp a.eval o).run P w = (callFunc fid (args.toList.map a.eval ++ vs).toArray).run P w := by
    simp only [execOp, ho, resolve, hv, Deferred.ofValue, invoke]
    simp
    rw [e]
  rw [hrun]
  refine hdo.mono fun v w' ⟨hv', hu⟩ => ?_
  subst hv'
  obtain ⟨c', hc', hc2⟩ := hu.here c blk.elem fz blk.cells rest hc hrest hlen.symm
  have hcs' : c'.size = c.size := by
    have h1 := congrArg List.length hrest
    have h2 := congrArg List.length hc2
    simp at h1 h2
    omega
  have hlt : b < w.heap.size := (Array.getElem?_eq_some_iff.1 hc).1
  have hset : BlkSet w { w with heap := w.heap.setIfInBounds b (.cells c' blk.elem fz) } b (.cells c' blk.elem fz) :=
    ⟨rfl, rfl, rfl, by simp, by simp [hlt], fun k hk => by simp [Array.getElem?_setIfInBounds_ne (Ne.symm hk)]⟩
  have hrel := hr.blk hb hm (blk' := { blk with cells := L' }) hc hset ⟨rest, hc2⟩ (by rw [hcs']; exact hfz) (.inl ⟨rfl, hlen, hcs'⟩)
  have hbel : Below (World.heap { w with heap := w.heap.setIfInBounds b (.cells c' blk.elem fz) }).size { w with heap := w.heap.setIfInBounds b (.cells c' blk.elem fz) } w' := by
    refine ⟨hu.os, hu.tape, hu.output, by simpa using hu.size, fun k' hk' => ?_⟩
    have hk2 : k' < w.heap.size := by simpa using hk'
    by_cases e2 : k' = b
    · subst e2
      rw [hc']
      simp [hlt]
    · rw [hu.other k' hk2 e2]
      simp [Array.getElem?_setIfInBounds_ne (Ne.symm e2)]
  have hrel2 := hrel.ext hbel
  refine ⟨ρ, _, hK, ?_⟩
  rw [St.get_put, St.mem_put, St.get_setm, St.mem_setm]
  exact hrel2.put hd.out rfl

theorem gK_sound {P : Program} {Γ : Env} (hΓ : Γ.ok P) {n : Nat} {o : Oper} {st : St} {K : St → Prop} (h : gK P Γ n o st K)
    {w0 w : World} {ρ : Nat → Option Nat} {a : Act} (hr : Rel n w0 ρ st.get st.mem a w) : Does P (After n w0 o a K) ((execOp a.eval o).run P w) := by
  unfold gK at h
  split at h
  · rename_i t ho
    split at h
    · rename_i z hz
      have hrun : (execOp a.eval o).run P w = .ok (.value (.pointer (some ⟨w.heap.size, 0, none⟩))) (w.alloc (.cells z.cells t)) := by
        simp [execOp, ho, Instr.alloc, run_zero hz, newVar, newRow]
      rw [hrun]
      exact newK_after h hr (below_alloc w _) (Nat.le_refl _) (alloc_new w _) ⟨[], by simp⟩ (.inl (Nat.le_refl _)) (fun d ver => ⟨_, by simp; rfl, Nat.le_refl _, fun _ => ⟨w.heap.size, by simp, rfl⟩⟩)
    · exact h.elim
  · rename_i t x ho
    split at h
    · rename_i v hx
      have e1 := hr.eval x
      rw [show evT st.get x = st.ev x from rfl, hx] at e1
      have e1' : a.eval x = v := e1
      have hrun : (execOp a.eval o).run P w = .ok (.value (.pointer (some ⟨w.heap.size, 0, none⟩))) (w.alloc (.cells v.cells t)) := by
        simp [execOp, ho, Instr.box, newVar, newRow, e1']
      rw [hrun]
      exact newK_after h hr (below_alloc w _) (Nat.le_refl _) (alloc_new w _) ⟨[], by simp⟩ (.inl (Nat.le_refl _)) (fun d ver => ⟨_, by simp; rfl, Nat.le_refl _, fun _ => ⟨w.heap.size, by simp, rfl⟩⟩)
    · exact h.elim
  · rename_i t x y ho
    obtain ⟨w', hrun, haf⟩ := storeK_after h hr
    have : (execOp a.eval o).run P w = .ok .skip w' := by simp [execOp, ho, hrun]
    rw [this]
    exact haf
  · rename_i t l c ho
    split at h
    · rename_i kl x kc y hl hc
      split at h
      case h_2 => exact h.elim
      rename_i e z bytes hrow
      obtain ⟨ht, ⟨i, hi, hsz, hz, hby⟩, hzc⟩ := rowOf_row hrow
      obtain ⟨rfl, h0, hb, h63, h⟩ := h
      subst hby
      have e1 := hr.eval l
      have e2 := hr.eval c
      rw [show evT st.get l = st.ev l from rfl, hl] at e1
      rw [show evT st.get c = st.ev c from rfl, hc] at e2
      have e1' : a.eval l = .int kl x := e1
      have e2' : a.eval c = .int kc x := e2
      obtain ⟨cs, hrun, hcs⟩ := run_make_row (P := P) (w := w) ht hi hsz hz hzc kl kc x h0 hb h63
      have : (execOp a.eval o).run P w = .ok (.value (.slice (some ⟨w.heap.size, 0, none⟩) x.toNat x.toNat)) (w.alloc (.cells cs e)) := by simp [execOp, ho, e1', e2', hrun]
      rw [this]
      have hsize : cs.size = x.toNat := by rw [← Array.length_toList, hcs]; simp
      refine newK_after h hr (below_alloc w _) (Nat.le_refl _) (alloc_new w _) ⟨[], by simp [hcs]⟩ (.inl (Nat.le_refl _)) (fun d ver => ⟨_, by simp; rfl, Nat.le_refl _, fun _ => .inr ⟨w.heap.size, x.toNat, cs, e, _, by simp, rfl, alloc_new w _, by omega, by omega, by simp⟩⟩)
    · exact h.elim
  · rename_i t len parts ho
    split at h
    · rename_i vs hvs
      split at h
      · rename_i xs hxs
        split at h
        case h_2 => exact h.elim
        rename_i e z bytes hrow
        obtain ⟨ht, ⟨i, hi, hsz, hz, hby⟩, hzc⟩ := rowOf_row hrow
        obtain ⟨rfl, hle, h⟩ := h
        have hsz' : szOf P e = some 1 := by simp [szOf, hi, hsz]
        have hz' : (P.info? e).bind (·.zero) = some z := by simp [hi, hz]
        obtain ⟨cs, hrun, hcs⟩ := run_buildSlice (P := P) (w := w) ht hsz' hz' hxs hle
        have hpl := plains_sound (val := a.eval) (fun p hp v hv => by
          have := hr.eval p.2
          rw [show evT st.get p.2 = st.ev p.2 from rfl, hv] at this
          exact this) hvs
        have e3 : (Array.map (fun (x : Nat × Operand) => match x with | (i, x) => (i, a.eval x)) parts) = vs.toArray := by
          rw [← hpl]; apply Array.ext'; simp
        have : (execOp a.eval o).run P w = .ok (.value (.slice (some ⟨w.heap.size, 0, none⟩) xs.length xs.length)) (w.alloc (.cells cs e)) := by simp [execOp, ho, e3, hrun]
        rw [this]
        have hsize : cs.size = xs.length := by rw [← Array.length_toList, hcs]
        refine newK_after h hr (below_alloc w _) (Nat.le_refl _) (alloc_new w _) ⟨[], by simp [hcs]⟩ (.inl (Nat.le_refl _)) (fun d ver => ⟨_, by simp; rfl, Nat.le_refl _, fun _ => .inr ⟨w.heap.size, xs.length, cs, e, _, by simp, rfl, alloc_new w _, by omega, by omega, by simp⟩⟩)
      · exact h.elim
    · exact h.elim
  · rename_i src dst x ho
    split at h
    · rename_i s hx
      split at h
      · rename_i e hd
        obtain ⟨hs, he, h⟩ := h
        obtain ⟨u, hs'⟩ := Option.isSome_iff_exists.mp hs
        have e1 := hr.eval x
        rw [show evT st.get x = st.ev x from rfl, hx] at e1
        have e1' : a.eval x = .string s := e1
        have hrun := Lib.run_convert_string_bytes (P := P) w src dst e s hs' hd he
        have : (execOp a.eval o).run P w = .ok (.value (.slice (some ⟨w.heap.size, 0, none⟩) s.size (grownCap w s.size 0 e))) (Lib.bytesWorld w e s) := by simp [execOp, ho, e1', hrun]
        rw [this]
        have hge := grownCap_ge w s.size 0 e
        have hbelow : Below w.heap.size w (Lib.bytesWorld w e s) := ⟨rfl, rfl, rfl, by rw [Lib.bytesWorld_size]; omega, fun k hk => Lib.bytesWorld_at_old w e s k hk⟩
        have hcz : (Lib.bytesCells w e s).size = grownCap w s.size 0 e := by simp [Lib.bytesCells]; omega
        refine newK_after h hr hbelow (Nat.le_refl _) (Lib.bytesWorld_at_new w e s) ⟨(Array.replicate (grownCap w s.size 0 e - s.size) (Value.int .u8 0)).toList, by simp [Lib.bytesCells]⟩ (.inr (Nat.le_refl _)) (fun d ver => ⟨_, by simp; rfl, Nat.le_refl _, fun _ => .inr ⟨w.heap.size, _, _, _, _, by simp, rfl, Lib.bytesWorld_at_new w e s, by omega, by omega, by simp⟩⟩)
      · exact quiet_after hΓ h hr
    · exact quiet_after hΓ h hr
  · rename_i s x t t2 ho
    obtain ⟨v, w', hrun, haf⟩ := appK_after h hr o.type
    have : (execOp a.eval o).run P w = .ok (.value v) w' := by simp [execOp, ho, resolve, invoke, builtin, hrun]
    rw [this]
    exact haf
  · rename_i d x t t2 ho
    obtain ⟨v, w', hrun, haf⟩ := copyK_after (t2 := t2) h hr o.type
    have : (execOp a.eval o).run P w = .ok (.value v) w' := by simp [execOp, ho, resolve, invoke, builtin, hrun]
    rw [this]
    exact haf
  · rename_i f args ats ho
    split at h
    · rename_i fid p ks hf
      split at h
      · rename_i i L hw
        exact upd_after hΓ ho hf hw h hr
      · exact quiet_after hΓ h hr
    · exact quiet_after hΓ h hr
  · exact quiet_after hΓ h hr

end Go.Vm
