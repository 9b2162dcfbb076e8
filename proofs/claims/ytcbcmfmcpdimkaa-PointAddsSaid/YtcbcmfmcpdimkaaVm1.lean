/- A small verified machine over abstract states of frames and worlds, part 1: what operations, regions, texts and functions do. No condition. -/
import Derived.WalkKit
import Derived.StillTail
import Derived.Laws.StructEq
namespace Go.Vm
open Go Go.RowKit

inductive DV where
  | pl (v : Value)
  | vec (xs : List Value)
  | cel (x : Value)
  | blk (cells : List Value)

inductive RV where
  | one (d : DV)
  | tup (ds : List DV)
  | upd (j : Nat) (L : List Value)

inductive AV where
  | pl (v : Value)
  | vec (fr : Bool) (xs : List Value)
  | pcell (x : Value)
  | pblk (b : Nat) (cells : List Value)
  | ptr (k ver off : Nat)
  | sl (k ver off len : Nat)
  | tup (ds : List DV)
  | clo (f : FuncId) (ks : List (Nat × Nat))
  | any

structure Blk where
  ver : Nat
  elem : TypeId
  cells : List Value

structure St where
  t : List (Nat × AV)
  m : List (Nat × Blk)

def look {α : Type} : List (Nat × α) → Nat → Option α
  | [], _ => none
  | (k, v) :: r, j => if k = j then some v else look r j

def lookA : List (Nat × AV) → Nat → AV
  | [], _ => .any
  | (k, v) :: r, j => if k = j then v else lookA r j

def St.get (st : St) (j : Nat) : AV := lookA st.t j
def St.mem (st : St) (k : Nat) : Option Blk := look st.m k
def St.set (st : St) (d : Nat) (v : AV) : St := { st with t := (d, v) :: st.t }
def St.setm (st : St) (k : Nat) (b : Blk) : St := { st with m := (k, b) :: st.m }
def St.put (st : St) (d : Option Nat) (v : AV) : St :=
  match d with
  | some d => st.set d v
  | none => st
def St.ev (st : St) : Operand → AV
  | .tmp t => st.get t
  | .const v => .pl v
  | .global g => .pl (.pointer (some ⟨g, 0, none⟩))
  | .func f => .clo f []

/-- a slice value whose elements read xs, in a block for which 'good' holds -/
def VecAt (w : World) (good : Nat → Prop) (v : Value) (xs : List Value) : Prop :=
  (xs = [] ∧ v = .slice none 0 0) ∨
  ∃ b o cap c e fz, v = .slice (some ⟨b, o, none⟩) xs.length cap ∧ w.heap[b]? = some (.cells c e fz) ∧ good b ∧
    (c.toList.drop o).take xs.length = xs ∧ xs.length ≤ cap ∧ o + cap ≤ c.size

def DV.rel (w : World) (good : Nat → Prop) (v : Value) : DV → Prop
  | .pl x => v = x
  | .vec xs => VecAt w good v xs
  | .cel x => ∃ b o, v = .pointer (some ⟨b, o, none⟩) ∧ w.cell? ⟨b, o, none⟩ = some x ∧ good b
  | .blk cells => ∃ b c e fz rest, v = .pointer (some ⟨b, 0, none⟩) ∧ w.heap[b]? = some (.cells c e fz) ∧ c.toList = cells ++ rest ∧ good b

def DV.rels (w : World) (good : Nat → Prop) : List Value → List DV → Prop
  | [], [] => True
  | v :: vs, d :: ds => DV.rel w good v d ∧ DV.rels w good vs ds
  | _, _ => False

def RV.rel (w : World) (good : Nat → Prop) (v : Value) : RV → Prop
  | .one d => d.rel w good v
  | .tup ds => ∃ vs : List Value, v = .tuple vs.toArray ∧ DV.rels w good vs ds
  | .upd _ _ => False

/-- what a slice value over a variable's block is -/
def SlAt (w : World) (r : Option Nat) (n : Nat) (v : Value) (off len : Nat) : Prop :=
  (len = 0 ∧ off = 0 ∧ n = 0 ∧ v = .slice none 0 0) ∨
  ∃ b cap c e fz, r = some b ∧ v = .slice (some ⟨b, off, none⟩) len cap ∧ w.heap[b]? = some (.cells c e fz) ∧ off + cap ≤ c.size ∧ len ≤ cap ∧ off + len ≤ n

def RelV (base : Nat) (w : World) (ρ : Nat → Option Nat) (m : Nat → Option Blk) (v : Value) : AV → Prop
  | .pl x => v = x
  | .vec fr xs => VecAt w (fun b => (fr = true → base ≤ b) ∧ ∀ k, ρ k ≠ some b) v xs
  | .pcell x => ∃ b o, v = .pointer (some ⟨b, o, none⟩) ∧ w.cell? ⟨b, o, none⟩ = some x ∧ ∀ k, ρ k ≠ some b
  | .pblk b cells => v = .pointer (some ⟨b, 0, none⟩) ∧ ∃ c e fz rest, w.heap[b]? = some (.cells c e fz) ∧ c.toList = cells ++ rest ∧ ∀ k, ρ k ≠ some b
  | .ptr k ver off => ∃ blk, m k = some blk ∧ ver ≤ blk.ver ∧ (ver = blk.ver → ∃ b, ρ k = some b ∧ v = .pointer (some ⟨b, off, none⟩))
  | .sl k ver off len => ∃ blk, m k = some blk ∧ ver ≤ blk.ver ∧ (ver = blk.ver → SlAt w (ρ k) blk.cells.length v off len)
  | .tup ds => ∃ vs : List Value, v = .tuple vs.toArray ∧ DV.rels w (fun b => base ≤ b ∧ ∀ k, ρ k ≠ some b) vs ds
  | .clo f ks => ∃ vs : List Value, v = .func (.func f) #[] vs.toArray ∧ vs.length = ks.length ∧
      ∀ (i k ver : Nat), ks[i]? = some (k, ver) → ∃ blk, m k = some blk ∧ ver ≤ blk.ver ∧ (ver = blk.ver → ∃ b, ρ k = some b ∧ vs[i]? = some (Value.pointer (some ⟨b, 0, none⟩)))
  | .any => True

def KeyAt (base : Nat) (w : World) (b : Nat) (blk : Blk) : Prop :=
  base ≤ b ∧ ∃ c fz, w.heap[b]? = some (.cells c blk.elem fz) ∧ (∃ rest, c.toList = blk.cells ++ rest) ∧ (fz.2 ≤ fz.1 ∨ c.size ≤ fz.1)

/-- the memory of variables -/
structure Keys (base : Nat) (w : World) (ρ : Nat → Option Nat) (m : Nat → Option Blk) : Prop where
  bnd : base ≤ w.heap.size
  keys : ∀ k blk, m k = some blk → (ρ k = none ∧ blk.cells = []) ∨ ∃ b, ρ k = some b ∧ KeyAt base w b blk
  nokey : ∀ k, m k = none → ρ k = none
  inj : ∀ k k' b, ρ k = some b → ρ k' = some b → k = k'

structure Rel (n : Nat) (w0 : World) (ρ : Nat → Option Nat) (T : Nat → AV) (m : Nat → Option Blk) (a : Act) (w : World) : Prop where
  defers : a.defers = []
  size : a.tmps.size = n
  below : Below w0.heap.size w0 w
  keys : Keys w0.heap.size w ρ m
  tmps : ∀ j, RelV w0.heap.size w ρ m (a.tmps.getD j undef) (T j)

theorem Keys.key {base : Nat} {w : World} {ρ : Nat → Option Nat} {m : Nat → Option Blk} (h : Keys base w ρ m) {k b : Nat} (hk : ρ k = some b) :
    ∃ blk, m k = some blk ∧ KeyAt base w b blk := by
  cases hm : m k with
  | none => rw [h.nokey k hm] at hk; cases hk
  | some blk =>
    rcases h.keys k blk hm with ⟨h1, _⟩ | ⟨b', hb', hr⟩
    · rw [h1] at hk; cases hk
    · rw [hb'] at hk; cases hk
      exact ⟨blk, rfl, hr⟩

/-- the block numbers of variables are real ones -/
theorem Keys.lt {base : Nat} {w : World} {ρ : Nat → Option Nat} {m : Nat → Option Blk} (h : Keys base w ρ m) {k b : Nat} (hk : ρ k = some b) : b < w.heap.size := by
  obtain ⟨blk, _, _, c, fz, hc, _⟩ := h.key hk
  exact (Array.getElem?_eq_some_iff.1 hc).1

theorem Keys.ge {base : Nat} {w : World} {ρ : Nat → Option Nat} {m : Nat → Option Blk} (h : Keys base w ρ m) {k b : Nat} (hk : ρ k = some b) : base ≤ b := by
  obtain ⟨blk, _, h1, _⟩ := h.key hk
  exact h1

theorem VecAt.mono {w w' : World} {g g' : Nat → Prop} {v : Value} {xs : List Value} (h : VecAt w g v xs)
    (hb : ∀ b, b < w.heap.size → g b → w'.heap[b]? = w.heap[b]?) (hg : ∀ b, b < w.heap.size → g b → g' b) : VecAt w' g' v xs := by
  rcases h with h | ⟨b, o, cap, c, e, fz, hv, hc, hgb, h3⟩
  · exact .inl h
  · have hlt : b < w.heap.size := (Array.getElem?_eq_some_iff.1 hc).1
    exact .inr ⟨b, o, cap, c, e, fz, hv, by rw [hb b hlt hgb]; exact hc, hg b hlt hgb, h3⟩

theorem DV.rel_mono {w w' : World} {g g' : Nat → Prop} {v : Value} {d : DV} (h : DV.rel w g v d)
    (hb : ∀ b, b < w.heap.size → g b → w'.heap[b]? = w.heap[b]?) (hg : ∀ b, b < w.heap.size → g b → g' b) : DV.rel w' g' v d := by
  cases d with
  | pl x => exact h
  | vec xs => exact VecAt.mono h hb hg
  | cel x =>
    obtain ⟨b, o, hv, hc, hgb⟩ := h
    have hlt := World.block_lt_of_cell? _ _ hc
    exact ⟨b, o, hv, by rw [World.cell?_of_block (hb b hlt hgb)]; exact hc, hg b hlt hgb⟩
  | blk cells =>
    obtain ⟨b, c, e, fz, rest, hv, hc, hr, hgb⟩ := h
    have hlt : b < w.heap.size := (Array.getElem?_eq_some_iff.1 hc).1
    exact ⟨b, c, e, fz, rest, hv, by rw [hb b hlt hgb]; exact hc, hr, hg b hlt hgb⟩

theorem DV.rels_mono {w w' : World} {g g' : Nat → Prop} : ∀ {vs : List Value} {ds : List DV}, DV.rels w g vs ds →
    (∀ b, b < w.heap.size → g b → w'.heap[b]? = w.heap[b]?) → (∀ b, b < w.heap.size → g b → g' b) → DV.rels w' g' vs ds
  | [], [], _, _, _ => trivial
  | _ :: _, _ :: _, h, hb, hg => ⟨DV.rel_mono h.1 hb hg, DV.rels_mono h.2 hb hg⟩
  | [], _ :: _, h, _, _ => h
  | _ :: _, [], h, _, _ => h

theorem RV.rel_mono {w w' : World} {g g' : Nat → Prop} {v : Value} {r : RV} (h : RV.rel w g v r)
    (hb : ∀ b, b < w.heap.size → g b → w'.heap[b]? = w.heap[b]?) (hg : ∀ b, b < w.heap.size → g b → g' b) : RV.rel w' g' v r := by
  cases r with
  | one d => exact DV.rel_mono h hb hg
  | tup ds => obtain ⟨vs, hv, hr⟩ := h; exact ⟨vs, hv, DV.rels_mono hr hb hg⟩
  | upd j L => exact h.elim

/-- nothing that was there has turned -/
theorem RelV.ext {base : Nat} {w w' : World} {ρ : Nat → Option Nat} {m : Nat → Option Blk} {v : Value} {av : AV}
    (hb : ∀ b, b < w.heap.size → w'.heap[b]? = w.heap[b]?) (h : RelV base w ρ m v av) : RelV base w' ρ m v av := by
  cases av with
  | pl x => exact h
  | vec fr xs => exact VecAt.mono h (fun b hlt _ => hb b hlt) (fun _ _ h => h)
  | pcell x =>
    obtain ⟨b, o, hv, hc, hk⟩ := h
    have hlt := World.block_lt_of_cell? _ _ hc
    exact ⟨b, o, hv, by rw [World.cell?_of_block (hb b hlt)]; exact hc, hk⟩
  | pblk b cells =>
    obtain ⟨hv, c, e, fz, rest, hc, hr, hk⟩ := h
    have hlt : b < w.heap.size := (Array.getElem?_eq_some_iff.1 hc).1
    exact ⟨hv, c, e, fz, rest, by rw [hb b hlt]; exact hc, hr, hk⟩
  | ptr k ver off => exact h
  | sl k ver off len =>
    obtain ⟨blk, h1, h2, h3⟩ := h
    refine ⟨blk, h1, h2, fun e => ?_⟩
    rcases h3 e with h | ⟨b, cap, c, e, fz, hr, hv, hc, h4⟩
    · exact .inl h
    · exact .inr ⟨b, cap, c, e, fz, hr, hv, by rw [hb b (Array.getElem?_eq_some_iff.1 hc).1]; exact hc, h4⟩
  | tup ds => obtain ⟨vs, hv, hr⟩ := h; exact ⟨vs, hv, DV.rels_mono hr (fun b hlt _ => hb b hlt) (fun _ _ h => h)⟩
  | clo f ks => exact h
  | any => trivial

theorem KeyAt.ext {base : Nat} {w w' : World} {b : Nat} {blk : Blk} (hb : b < w.heap.size → w'.heap[b]? = w.heap[b]?) (h : KeyAt base w b blk) : KeyAt base w' b blk := by
  obtain ⟨h1, c, fz, hc, h2⟩ := h
  exact ⟨h1, c, fz, by rw [hb (Array.getElem?_eq_some_iff.1 hc).1]; exact hc, h2⟩

theorem Keys.ext {base : Nat} {w w' : World} {ρ : Nat → Option Nat} {m : Nat → Option Blk} (h : Keys base w ρ m) (hb : Below w.heap.size w w') : Keys base w' ρ m where
  bnd := Nat.le_trans h.bnd hb.size
  keys k blk hk := (h.keys k blk hk).imp id fun ⟨b, h1, h2⟩ => ⟨b, h1, h2.ext (hb.block b)⟩
  nokey := h.nokey
  inj := h.inj

/-- the world has grown, all that was there is as it was -/
theorem Rel.ext {n : Nat} {w0 w w' : World} {ρ : Nat → Option Nat} {T : Nat → AV} {m : Nat → Option Blk} {a : Act} (h : Rel n w0 ρ T m a w) (hb : Below w.heap.size w w') : Rel n w0 ρ T m a w' where
  defers := h.defers
  size := h.size
  below := h.below.trans (hb.mono h.below.size)
  keys := h.keys.ext hb
  tmps j := (h.tmps j).ext hb.block

theorem getD_set (xs : Array Value) (d j : Nat) (v : Value) (h : d < xs.size) : (xs.setIfInBounds d v).getD j undef = if d = j then v else xs.getD j undef := by
  by_cases e : d = j
  · subst e; simp [h]
  · simp [e, Array.getElem?_setIfInBounds_ne e]

def upd (T : Nat → AV) (d : Option Nat) (v : AV) : Nat → AV :=
  match d with
  | some d => fun j => if d = j then v else T j
  | none => T

theorem St.get_put (st : St) (d : Option Nat) (v : AV) : (st.put d v).get = upd st.get d v := by
  cases d <;> rfl

theorem St.mem_put (st : St) (d : Option Nat) (v : AV) : (st.put d v).mem = st.mem := by
  cases d <;> rfl

theorem Rel.put {n : Nat} {w0 w : World} {ρ : Nat → Option Nat} {T : Nat → AV} {m : Nat → Option Blk} {a : Act} (h : Rel n w0 ρ T m a w) {d : Option Nat} (hd : ∀ x, d = some x → x < n) {v : Value} {av : AV}
    (hv : RelV w0.heap.size w ρ m v av) : Rel n w0 ρ (upd T d av) m (a.put d v) w := by
  cases d with
  | none => exact h
  | some d =>
    refine ⟨h.defers, by simp [Act.put, h.size], h.below, h.keys, fun j => ?_⟩
    have hd' := hd d rfl
    show RelV _ _ _ _ ((a.tmps.setIfInBounds d v).getD j undef) (if d = j then av else T j)
    rw [getD_set _ _ _ _ (by rw [h.size]; exact hd')]
    split
    · exact hv
    · exact h.tmps j

def evT (T : Nat → AV) : Operand → AV
  | .tmp t => T t
  | .const v => .pl v
  | .global g => .pl (.pointer (some ⟨g, 0, none⟩))
  | .func f => .clo f []

theorem Rel.eval {n : Nat} {w0 w : World} {ρ : Nat → Option Nat} {T : Nat → AV} {m : Nat → Option Blk} {a : Act} (h : Rel n w0 ρ T m a w) (x : Operand) :
    RelV w0.heap.size w ρ m (a.eval x) (evT T x) := by
  cases x with
  | tmp t => exact h.tmps t
  | const v => exact (rfl : v = v)
  | global g => exact (rfl : Value.pointer _ = _)
  | func f => exact ⟨[], rfl, rfl, by simp⟩

def RV.av : RV → AV
  | .one (.pl v) => .pl v
  | .one (.vec xs) => .vec true xs
  | .one (.cel x) => .pcell x
  | .one (.blk _) => .any
  | .tup ds => .tup ds
  | .upd _ _ => .any

def DV.av : DV → AV
  | .pl v => .pl v
  | .vec xs => .vec true xs
  | .cel x => .pcell x
  | .blk _ => .any

def isNil : Value → Bool
  | .slice none 0 0 => true
  | _ => false

def AV.dv (m : Nat → Option Blk) : AV → Option DV
  | .pl v => some (if isNil v then .vec [] else .pl v)
  | .vec _ xs => some (.vec xs)
  | .sl k ver off len => match m k with
    | some blk => if ver = blk.ver ∧ off + len ≤ blk.cells.length then some (.vec ((blk.cells.drop off).take len)) else none
    | none => none
  | _ => none

theorem isNil_eq {v : Value} (h : isNil v = true) : v = .slice none 0 0 := by
  unfold isNil at h
  split at h
  · rfl
  · cases h

theorem SlAt.vec {base : Nat} {w : World} {ρ : Nat → Option Nat} {m : Nat → Option Blk} (hk : Keys base w ρ m) {k : Nat} {blk : Blk} (hm : m k = some blk) {v : Value} {off len : Nat}
    (h : SlAt w (ρ k) blk.cells.length v off len) (hl : off + len ≤ blk.cells.length) : VecAt w (fun b => base ≤ b) v ((blk.cells.drop off).take len) := by
  have hlen : ((blk.cells.drop off).take len).length = len := by simp; omega
  rcases h with ⟨rfl, rfl, hn, hv⟩ | ⟨b, cap, c, e, fz, hr, hv, hc, h1, h2, h3⟩
  · exact .inl ⟨by simp, hv⟩
  · refine .inr ⟨b, off, cap, c, e, fz, by rw [hlen]; exact hv, hc, hk.ge hr, ?_, by rw [hlen]; exact h2, h1⟩
    obtain ⟨blk', hm', _, c', fz', hc', ⟨rest, hrest⟩, _⟩ := hk.key hr
    rw [hm] at hm'; cases hm'
    rw [hc] at hc'; cases hc'
    rw [hlen, hrest, List.drop_append, List.take_append]
    simp
    omega

theorem AV.dv_sound {base : Nat} {w : World} {ρ : Nat → Option Nat} {m : Nat → Option Blk} (hk : Keys base w ρ m) {v : Value} {av : AV} (h : RelV base w ρ m v av) {d : DV}
    (hd : av.dv m = some d) : DV.rel w (fun _ => True) v d := by
  cases av with
  | pl x =>
    simp only [AV.dv, Option.some.injEq] at hd
    obtain rfl : v = x := h
    split at hd
    · rename_i hn; rw [← hd]; exact .inl ⟨rfl, isNil_eq hn⟩
    · rw [← hd]; exact (rfl : v = v)
  | vec fr xs => cases hd; exact VecAt.mono h (fun _ _ _ => rfl) (fun _ _ _ => trivial)
  | sl k ver off len =>
    obtain ⟨blk, hm, hle, hs⟩ := h
    simp only [AV.dv, hm] at hd
    split at hd
    · rename_i hc
      cases hd
      exact VecAt.mono (SlAt.vec hk hm (hs hc.1) hc.2) (fun _ _ _ => rfl) (fun _ _ _ => trivial)
    · cases hd
  | pcell x => cases hd
  | pblk b cells => cases hd
  | ptr k ver off => cases hd
  | tup ds => cases hd
  | clo f ks => cases hd
  | any => cases hd

theorem RV.av_sound {base : Nat} {w : World} {ρ : Nat → Option Nat} {m : Nat → Option Blk} {v : Value} {r : RV} (h : RV.rel w (fun b => base ≤ b ∧ ∀ k, ρ k ≠ some b) v r) : RelV base w ρ m v r.av := by
  cases r with
  | one d =>
    cases d with
    | pl x => exact h
    | vec xs => exact VecAt.mono h (fun _ _ _ => rfl) (fun _ _ h => ⟨fun _ => h.1, h.2⟩)
    | cel x =>
      obtain ⟨b, o, hv, hc, hg⟩ := h
      exact ⟨b, o, hv, hc, hg.2⟩
    | blk cells => trivial
  | tup ds => exact h
  | upd j L => exact h.elim

theorem DV.av_sound {base : Nat} {w : World} {ρ : Nat → Option Nat} {m : Nat → Option Blk} {v : Value} {d : DV} (h : DV.rel w (fun b => base ≤ b ∧ ∀ k, ρ k ≠ some b) v d) : RelV base w ρ m v d.av := by
  cases d with
  | pl x => exact h
  | vec xs => exact VecAt.mono h (fun _ _ _ => rfl) (fun _ _ h => ⟨fun _ => h.1, h.2⟩)
  | cel x =>
    obtain ⟨b, o, hv, hc, hg⟩ := h
    exact ⟨b, o, hv, hc, hg.2⟩
  | blk cells => trivial

end Go.Vm
namespace Go.Vm
open Go Go.RowKit

/-! ### Blocks -/
theorem cell_of_blk {w : World} {b : Nat} {c : Array Value} {e : TypeId} {fz : Nat × Nat} (h : w.heap[b]? = some (.cells c e fz)) (o : Nat) : w.cell? ⟨b, o, none⟩ = c[o]? := by
  simp [World.cell?, h]

theorem run_loadCells_blk {P : Program} {w : World} {b : Nat} {c : Array Value} {e : TypeId} {fz : Nat × Nat} (h : w.heap[b]? = some (.cells c e fz)) (off n : Nat) (hn : off + n ≤ c.size) :
    (loadCells ⟨b, off, none⟩ n).run P w = .ok ((c.toList.drop off).take n).toArray w := by
  have hl : ((c.toList.drop off).take n).length = n := by simp; omega
  have := run_loadCells_list (P := P) w ⟨b, off, none⟩ ((c.toList.drop off).take n) (fun j v hj => by
    rw [Addr.add_lit, cell_of_blk h]
    rw [List.getElem?_take] at hj
    split at hj
    · rw [List.getElem?_drop] at hj; simpa using hj
    · cases hj)
  rw [hl] at this
  exact this

theorem prefix_drop_take {l pre rest : List Value} (h : l = pre ++ rest) (off n : Nat) (hn : off + n ≤ pre.length) : (l.drop off).take n = (pre.drop off).take n := by
  rw [h, List.drop_append, List.take_append]
  simp
  omega

theorem prefix_get {l pre rest : List Value} (h : l = pre ++ rest) (o : Nat) (ho : o < pre.length) : l[o]? = pre[o]? := by
  rw [h, List.getElem?_append_left ho]

/-! ### Plain values -/
/-- whether two values of a type that is a struct or an array are the same, where that is known -/
noncomputable def eqV (P : Program) (t : TypeId) (xs ys : Array Value) : Option Bool :=
  open Classical in
  if h : ∃ b, ∀ w : World, (Op.equal t (.agg xs) (.agg ys)).run P w = .ok b w then some h.choose else none

theorem eqV_run {P : Program} {t : TypeId} {xs ys : Array Value} {b : Bool} (h : eqV P t xs ys = some b) (w : World) : (Op.equal t (.agg xs) (.agg ys)).run P w = .ok b w := by
  unfold eqV at h
  split at h
  · rename_i hx
    cases h
    exact hx.choose_spec w
  · cases h

theorem eqV_of {P : Program} {t : TypeId} {xs ys : Array Value} {b : Bool} (h : ∀ w : World, (Op.equal t (.agg xs) (.agg ys)).run P w = .ok b w) : eqV P t xs ys = some b := by
  unfold eqV
  have hx : ∃ b, ∀ w : World, (Op.equal t (.agg xs) (.agg ys)).run P w = .ok b w := ⟨b, h⟩
  rw [dif_pos hx]
  have h1 := hx.choose_spec default
  rw [h default] at h1
  cases h1
  rfl

def intK (op : BinOp) (k : IntKind) (a b : Int) (K : Value → Prop) : Prop :=
  match op with
  | .add => K (.int k (k.wrap (a + b)))
  | .sub => K (.int k (k.wrap (a - b)))
  | .mul => K (.int k (k.wrap (a * b)))
  | .quo => b ≠ 0 ∧ K (.int k (k.wrap (a.tdiv b)))
  | .rem => b ≠ 0 ∧ K (.int k (a.tmod b))
  | .and => K (.int k (bits .and k a b))
  | .or => K (.int k (bits .or k a b))
  | .xor => K (.int k (bits .xor k a b))
  | .andNot => K (.int k (bits .andNot k a b))
  | .eql => K (.bool (a == b))
  | .neq => K (.bool (a != b))
  | .lss => K (.bool (decide (a < b)))
  | .leq => K (.bool (decide (a ≤ b)))
  | .gtr => K (.bool (decide (b < a)))
  | .geq => K (.bool (decide (b ≤ a)))
  | _ => False

def binK (P : Program) (op : BinOp) (t : TypeId) (x y : Value) (K : Value → Prop) : Prop :=
  match x, y with
  | .int k a, .int k' b =>
    match op with
    | .shl => 0 ≤ b ∧ K (.int k (k.wrap (a * 2 ^ (min b.toNat k.bits))))
    | .shr => 0 ≤ b ∧ K (.int k (a.fdiv (2 ^ (min b.toNat k.bits))))
    | op => k = k' ∧ intK op k a b K
  | .bool a, .bool b =>
    match op with
    | .eql => P.underlying t = some .bool ∧ K (.bool (a == b))
    | .neq => P.underlying t = some .bool ∧ K (.bool (!(a == b)))
    | _ => False
  | .string a, .string b =>
    match op with
    | .add => a.size + b.size ≤ 9223372036854775807 ∧ K (.string (a ++ b))
    | .eql => K (.bool (a.toList == b.toList))
    | .neq => K (.bool (!(a.toList == b.toList)))
    | _ => False
  | .agg xs, .agg ys =>
    match op with
    | .eql => P.eqGuardType P.depth t = false ∧ ∃ b, eqV P t xs ys = some b ∧ K (.bool b)
    | .neq => P.eqGuardType P.depth t = false ∧ ∃ b, eqV P t xs ys = some b ∧ K (.bool (!b))
    | _ => False
  | _, _ => False

theorem intK_sound {P : Program} {op : BinOp} {t : TypeId} {k : IntKind} {a b : Int} {K : Value → Prop} (hs : op ≠ .shl) (hs' : op ≠ .shr) (h : intK op k a b K) :
    ∃ v, (∀ w : World, (binOp op t (.int k a) (.int k b)).run P w = .ok v w) ∧ K v := by
  cases op <;> simp only [intK] at h <;> first
    | exact absurd rfl hs
    | exact absurd rfl hs'
    | exact h.elim
    | exact ⟨_, fun w => rfl, h.2⟩
    | skip
  case add => exact ⟨_, fun w => by simp [binOp, Op.intArith], h⟩
  case sub => exact ⟨_, fun w => by simp [binOp, Op.intArith], h⟩
  case mul => exact ⟨_, fun w => by simp [binOp, Op.intArith], h⟩
  case quo => exact ⟨_, fun w => by simp [binOp, Op.intDiv, h.1], h.2⟩
  case rem => exact ⟨_, fun w => by simp [binOp, Op.intDiv, h.1], h.2⟩
  case and => exact ⟨_, fun w => by simp [binOp, intBits_and], h⟩
  case or => exact ⟨_, fun w => by simp [binOp, intBits_or], h⟩
  case xor => exact ⟨_, fun w => by simp [binOp, intBits_xor], h⟩
  case andNot => exact ⟨_, fun w => by simp [binOp, intBits_andNot], h⟩
  case eql => exact ⟨_, fun w => by simp [binOp, Op.intCmp], h⟩
  case neq => exact ⟨_, fun w => by simp [binOp, Op.intCmp], h⟩
  case lss => exact ⟨_, fun w => by simp [binOp, Op.intCmp], h⟩
  case leq => exact ⟨_, fun w => by simp [binOp, Op.intCmp], h⟩
  case gtr => exact ⟨_, fun w => by simp [binOp, Op.intCmp], h⟩
  case geq => exact ⟨_, fun w => by simp [binOp, Op.intCmp], h⟩

theorem run_eql_bool {P : Program} {t : TypeId} (h : P.underlying t = some .bool) (a b : Bool) (w : World) : (binOp .eql t (.bool a) (.bool b)).run P w = .ok (.bool (a == b)) w := by
  have e : binOp .eql t (.bool a) (.bool b) = (do pure (.bool (← Op.equal t (.bool a) (.bool b)))) := by simp only [binOp]
  have h2 : (Op.equal t (.bool a) (.bool b)).run P w = .ok (a == b) w := run_equalIn_bool' w 9999 t a b h
  rw [e, Sem.run_bind, h2]
  rfl

theorem run_neq_bool {P : Program} {t : TypeId} (h : P.underlying t = some .bool) (a b : Bool) (w : World) : (binOp .neq t (.bool a) (.bool b)).run P w = .ok (.bool (!(a == b))) w := by
  have e : binOp .neq t (.bool a) (.bool b) = (do pure (.bool (!(← Op.equal t (.bool a) (.bool b))))) := by simp only [binOp]
  have h2 : (Op.equal t (.bool a) (.bool b)).run P w = .ok (a == b) w := run_equalIn_bool' w 9999 t a b h
  rw [e, Sem.run_bind, h2]
  rfl

theorem binK_sound {P : Program} {op : BinOp} {t : TypeId} {x y : Value} {K : Value → Prop} (h : binK P op t x y K) :
    ∃ v, (∀ (u z : Operand) (w : World), (do eqGuard op t u z x y; binOp op t x y).run P w = .ok v w) ∧ K v := by
  unfold binK at h
  split at h
  · rename_i k a k' b
    split at h
    · exact ⟨_, fun u z w => by have : ¬ b < 0 := by omega
                                simp [eqGuard_at_int, binOp, Op.shift, this], h.2⟩
    · exact ⟨_, fun u z w => by have : ¬ b < 0 := by omega
                                simp [eqGuard_at_int, binOp, Op.shift, this], h.2⟩
    · rename_i op h1 h2
      obtain ⟨rfl, h⟩ := h
      obtain ⟨v, hv, hk⟩ := intK_sound (P := P) (t := t) h1 h2 h
      exact ⟨v, fun u z w => by simp [eqGuard_at_int, hv], hk⟩
  · rename_i a b
    split at h
    · exact ⟨_, fun u z w => by rw [eqGuard_at_bool, Sem.run_bind, Sem.run_pure, Result.andThen_ok, run_eql_bool h.1], h.2⟩
    · exact ⟨_, fun u z w => by rw [eqGuard_at_bool, Sem.run_bind, Sem.run_pure, Result.andThen_ok, run_neq_bool h.1], h.2⟩
    · exact h.elim
  · rename_i a b
    split at h
    · refine ⟨_, fun u z w => ?_, h.2⟩
      have : ¬ (9223372036854775807 : Int) < ((a.size + b.size : Nat) : Int) := by have := h.1; omega
      simp [eqGuard_at_string, binOp, Op.stringOp]
      omega
    · exact ⟨_, fun u z w => by simp [eqGuard_at_string, binOp, Op.stringOp], h⟩
    · exact ⟨_, fun u z w => by simp [eqGuard_at_string, binOp, Op.stringOp], h⟩
    · exact h.elim
  · rename_i xs ys
    split at h
    · obtain ⟨hg, b, hb, hk⟩ := h
      exact ⟨_, fun u z w => by simp [run_eqGuard_agg w _ t u z xs ys hg, binOp, eqV_run hb], hk⟩
    · obtain ⟨hg, b, hb, hk⟩ := h
      exact ⟨_, fun u z w => by simp [run_eqGuard_agg w _ t u z xs ys hg, binOp, eqV_run hb], hk⟩
    · exact h.elim
  · exact h.elim

def unK (op : UnOp) (x : Value) (K : Value → Prop) : Prop :=
  match op, x with
  | .not, .bool b => K (.bool !b)
  | .neg, .int k n => K (.int k (k.wrap (0 - n)))
  | .xor, .int k n => K (.int k (bits .xor k (if k.signed then -1 else k.max) n))
  | _, _ => False

theorem unK_sound {P : Program} {op : UnOp} {x : Value} {K : Value → Prop} (h : unK op x K) : ∃ v, (∀ w : World, (Op.unary op x).run P w = .ok v w) ∧ K v := by
  unfold unK at h
  split at h
  · exact ⟨_, fun w => by simp [Op.unary], h⟩
  · exact ⟨_, fun w => by simp [Op.unary, Op.intArith], h⟩
  · exact ⟨_, fun w => by simp [Op.unary, intBits_xor], h⟩
  · exact h.elim

/-- the elements of a slice -/
def AV.cont (m : Nat → Option Blk) : AV → Option (List Value)
  | .pl v => if isNil v then some [] else none
  | .vec _ xs => some xs
  | .sl k ver off len => match m k with
    | some blk => if ver = blk.ver ∧ off + len ≤ blk.cells.length then some ((blk.cells.drop off).take len) else none
    | none => none
  | _ => none

theorem AV.cont_sound {base : Nat} {w : World} {ρ : Nat → Option Nat} {m : Nat → Option Blk} (hk : Keys base w ρ m) {v : Value} {av : AV} (h : RelV base w ρ m v av) {xs : List Value}
    (hx : av.cont m = some xs) : VecAt w (fun _ => True) v xs := by
  cases av with
  | pl x =>
    simp only [AV.cont] at hx
    obtain rfl : v = x := h
    split at hx
    · rename_i hn; cases hx; exact .inl ⟨rfl, isNil_eq hn⟩
    · cases hx
  | vec fr xs => cases hx; exact VecAt.mono h (fun _ _ _ => rfl) (fun _ _ _ => trivial)
  | sl k ver off len =>
    obtain ⟨blk, hm, hle, hs⟩ := h
    simp only [AV.cont, hm] at hx
    split at hx
    · rename_i hc
      cases hx
      exact VecAt.mono (SlAt.vec hk hm (hs hc.1) hc.2) (fun _ _ _ => rfl) (fun _ _ _ => trivial)
    · cases hx
  | pcell x => cases hx
  | pblk b cells => cases hx
  | ptr k ver off => cases hx
  | tup ds => cases hx
  | clo f ks => cases hx
  | any => cases hx

/-- the bytes of a list of byte values -/
def u8s : List Value → Option (List UInt8)
  | [] => some []
  | .int .u8 n :: r => match u8s r with
    | some bs => some (UInt8.ofNat n.toNat :: bs)
    | none => none
  | _ :: _ => none

theorem u8s_map (ns : List Int) : u8s (ns.map (Value.int .u8)) = some (ns.map fun n => UInt8.ofNat n.toNat) := by
  induction ns with
  | nil => rfl
  | cons n ns ih => simp [u8s, ih]

theorem u8s_eq : ∀ {xs : List Value} {bs : List UInt8}, u8s xs = some bs → ∃ ns : List Int, xs = ns.map (Value.int .u8) ∧ bs = ns.map fun n => UInt8.ofNat n.toNat
  | [], bs, h => by cases h; exact ⟨[], rfl, rfl⟩
  | x :: r, bs, h => by
    unfold u8s at h
    split at h
    · rename_i he; cases he
    · rename_i n r' he
      cases he
      split at h
      · rename_i bs' hb
        cases h
        obtain ⟨ns, rfl, rfl⟩ := u8s_eq hb
        exact ⟨n :: ns, rfl, rfl⟩
      · cases h
    · cases h

def bstr (l : List UInt8) : ByteArray := ⟨l.toArray⟩

theorem foldl_push (ns : List Int) : ∀ s : ByteArray, ns.foldl (fun r n => r.push (UInt8.ofNat n.toNat)) s = ⟨s.data ++ (ns.map fun n => UInt8.ofNat n.toNat).toArray⟩ := by
  induction ns with
  | nil => intro s; simp
  | cons n ns ih => intro s; rw [List.foldl_cons, ih]; simp [ByteArray.push]

theorem run_bytes_vec {P : Program} {w : World} {g : Nat → Prop} {v : Value} {xs : List Value} (h : VecAt w g v xs) {bs : List UInt8} (hb : u8s xs = some bs) {src dst e : TypeId}
    (hs : P.underlying src = some (.slice e)) (he : P.underlying e = some (.int .u8)) (hd : P.underlying dst = some .string) :
    (convert src dst v).run P w = .ok (.string (bstr bs)) w := by
  rcases h with ⟨rfl, rfl⟩ | ⟨b, o, cap, c, e', fz, rfl, hc, _, hx, h1, h2⟩
  · cases hb
    rw [run_convert_bytes_string w src dst e _ _ _ hs he hd]
    simp [Conv.bytesToString, bstr]
    rfl
  · rw [run_convert_bytes_string w src dst e _ _ _ hs he hd]
    obtain ⟨ns, rfl, rfl⟩ := u8s_eq hb
    have hl := run_loadCells_blk (P := P) hc o (ns.map (Value.int .u8)).length (by omega)
    rw [hx] at hl
    rw [run_bytesToString w ⟨b, o, none⟩ _ cap ns hl, foldl_push]
    simp [bstr]

end Go.Vm
namespace Go.Vm
open Go Go.RowKit

/-- what an operation that has run so leaves -/
def Does (P : Program) (R : Value → World → Prop) : Result Next → Prop
  | .ok (.value v) w' => R v w'
  | .ok .skip w' => R undef w'
  | .ok (.enter f args) w' => Calls P f args w' (fun e w'' => ∃ v, e = .returned v ∧ R v w'')
  | _ => False

theorem Does.mono {P : Program} {R R' : Value → World → Prop} {r : Result Next} (h : Does P R r) (hr : ∀ v w, R v w → R' v w) : Does P R' r := by
  unfold Does at *
  split at h
  · exact hr _ _ h
  · exact hr _ _ h
  · exact Calls.mono h fun e w ⟨v, he, hv⟩ => ⟨v, he, hr _ _ hv⟩
  · exact h.elim

/-- A contract: called with values that read so it hands back a value that reads so; nothing that was there has turned. -/
def Spec (P : Program) (f : FuncId) (ds : List DV) (r : RV) : Prop :=
  ∀ (w : World) (vs : List Value), DV.rels w (fun _ => True) vs ds →
    Does P (fun v w' => RV.rel w' (fun b => w.heap.size ≤ b) v r ∧ Below w.heap.size w w') ((callFunc f vs.toArray).run P w)

abbrev Env := List (Nat × (List DV → Option RV))

/-- one block has turned, all else that was there is as it was -/
structure UpdAt (w w' : World) (b : Nat) (L : List Value) : Prop where
  os : w'.os = w.os
  tape : w'.tape = w.tape
  output : w'.output = w.output
  size : w.heap.size ≤ w'.heap.size
  other : ∀ k, k < w.heap.size → k ≠ b → w'.heap[k]? = w.heap[k]?
  here : ∀ c e fz cells rest, w.heap[b]? = some (.cells c e fz) → c.toList = cells ++ rest → cells.length = L.length → ∃ c', w'.heap[b]? = some (.cells c' e fz) ∧ c'.toList = L ++ rest

/-- a contract of a function that turns the block to which its value number j points -/
def SpecW (P : Program) (f : FuncId) (ds : List DV) (j : Nat) (L : List Value) : Prop :=
  ∀ (w : World) (vs : List Value), DV.rels w (fun _ => True) vs ds → ∀ b c e fz, vs[j]? = some (Value.pointer (some ⟨b, 0, none⟩)) → w.heap[b]? = some (.cells c e fz) → (fz.2 ≤ fz.1 ∨ c.size ≤ fz.1) →
    Does P (fun v w' => v = .tuple #[] ∧ UpdAt w w' b L) ((callFunc f vs.toArray).run P w)

def SpecR (P : Program) (f : FuncId) (ds : List DV) : RV → Prop
  | .upd j L => SpecW P f ds j L
  | r => Spec P f ds r

theorem SpecR.of {P : Program} {f : FuncId} {ds : List DV} {r : RV} (h : Spec P f ds r) : SpecR P f ds r := by
  cases r with
  | upd j L => exact fun w vs hv _ _ _ _ _ _ _ => (h w vs hv).mono fun _ _ h => h.1.elim
  | one d => exact h
  | tup ds => exact h

def Env.ok (Γ : Env) (P : Program) : Prop := ∀ f g, look Γ f = some g → ∀ ds r, g ds = some r → SpecR P f ds r

def szOf (P : Program) (t : TypeId) : Option Nat := (P.info? t).map (·.size)

theorem run_sizeOf {P : Program} {t : TypeId} {s : Nat} (h : szOf P t = some s) (w : World) : (sizeOf t).run P w = .ok s w := by
  unfold szOf at h
  cases hi : P.info? t with
  | none => rw [hi] at h; cases h
  | some i => rw [hi] at h; cases h; simp [sizeOf, typeInfo, hi]

def aggOf (P : Program) (t : TypeId) : Option Bool :=
  (P.underlying t).map fun
    | .struct _ | .array _ _ => true
    | _ => false

theorem run_isAgg {P : Program} {t : TypeId} {s : Bool} (h : aggOf P t = some s) (w : World) : (isAgg t).run P w = .ok s w := by
  unfold aggOf at h
  cases hi : P.underlying t with
  | none => rw [hi] at h; cases h
  | some d =>
    rw [hi] at h
    simp only [isAgg, Sem.run_bind, run_underlying hi, Result.andThen_ok]
    cases d <;> cases h <;> rfl

def withKey (m : Nat → Option Blk) (k ver : Nat) (K : Blk → Prop) : Prop :=
  match m k with
  | some blk => ver = blk.ver ∧ K blk
  | none => False

theorem withKey_eq (m : Nat → Option Blk) (k ver : Nat) (K : Blk → Prop) : withKey m k ver K = (match m k with
  | some blk => ver = blk.ver ∧ K blk
  | none => False) := rfl

theorem withKey_elim {m : Nat → Option Blk} {k ver : Nat} {K : Blk → Prop} (h : withKey m k ver K) : ∃ blk, m k = some blk ∧ ver = blk.ver ∧ K blk := by
  unfold withKey at h
  split at h
  · rename_i blk hb; exact ⟨blk, hb, h⟩
  · exact h.elim

def loadK (P : Program) (m : Nat → Option Blk) (t : TypeId) (av : AV) (K : AV → Prop) : Prop :=
  match av with
  | .pcell x => aggOf P t = some false ∧ K (.pl x)
  | .pblk _ cells => (match aggOf P t with
    | some true => (match szOf P t with
      | some s => s ≤ cells.length ∧ K (.pl (.agg (cells.take s).toArray))
      | none => False)
    | _ => False)
  | .ptr k ver off => withKey m k ver fun blk =>
    match aggOf P t with
    | some true => (match szOf P t with
      | some s => off + s ≤ blk.cells.length ∧ K (.pl (.agg ((blk.cells.drop off).take s).toArray))
      | none => False)
    | some false => off < blk.cells.length ∧ K (.pl (blk.cells[off]?.getD undef))
    | none => False
  | _ => False

theorem loadK_sound {P : Program} {m : Nat → Option Blk} {t : TypeId} {av : AV} {K : AV → Prop} (h : loadK P m t av K) :
    ∃ r, K r ∧ ∀ base w ρ v, Keys base w ρ m → RelV base w ρ m v av → ∃ x, (Instr.loadAt t v).run P w = .ok x w ∧ RelV base w ρ m x r := by
  unfold loadK at h
  split at h
  · rename_i x
    refine ⟨_, h.2, fun base w ρ v hk hv => ?_⟩
    obtain ⟨b, o, rfl, hc, _⟩ := hv
    exact ⟨x, by simp [Instr.loadAt, Instr.sureAddr, loadVar, run_isAgg h.1, run_load, hc], rfl⟩
  · rename_i b cells
    split at h
    · rename_i ha
      split at h
      · rename_i s hs
        refine ⟨_, h.2, fun base w ρ v hk hv => ?_⟩
        obtain ⟨rfl, c, e, fz, rest, hc, hrest, _⟩ := hv
        have hsz : 0 + s ≤ c.size := by have := congrArg List.length hrest; simp at this; omega
        refine ⟨_, ?_, rfl⟩
        simp only [Instr.loadAt, Instr.sureAddr, loadVar, Sem.run_bind, Sem.run_pure, Result.andThen_ok, run_isAgg ha, if_true, run_sizeOf hs, run_loadCells_blk hc 0 s hsz]
        rw [prefix_drop_take hrest 0 s (by simpa using h.1), List.drop_zero]
      · exact h.elim
    · exact h.elim
  · rename_i k ver off
    have hwk := withKey_elim h
    clear h
    obtain ⟨blk, hm, rfl, h⟩ := hwk
    split at h
    · rename_i ha
      split at h
      · rename_i s hs
        refine ⟨_, h.2, fun base w ρ v hk hv => ?_⟩
        obtain ⟨blk', hm', _, hp⟩ := hv
        rw [hm] at hm'; cases hm'
        obtain ⟨b, hb, rfl⟩ := hp rfl
        obtain ⟨blk', hm', _, c, fz, hc, ⟨rest, hrest⟩, _⟩ := hk.key hb
        rw [hm] at hm'; cases hm'
        have hsz : off + s ≤ c.size := by have := congrArg List.length hrest; simp at this; omega
        refine ⟨_, ?_, rfl⟩
        simp only [Instr.loadAt, Instr.sureAddr, loadVar, Sem.run_bind, Sem.run_pure, Result.andThen_ok, run_isAgg ha, if_true, run_sizeOf hs, run_loadCells_blk hc off s hsz]
        rw [prefix_drop_take hrest off s h.1]
      · exact h.elim
    · rename_i ha
      refine ⟨_, h.2, fun base w ρ v hk hv => ?_⟩
      obtain ⟨blk', hm', _, hp⟩ := hv
      rw [hm] at hm'; cases hm'
      obtain ⟨b, hb, rfl⟩ := hp rfl
      obtain ⟨blk', hm', _, c, fz, hc, ⟨rest, hrest⟩, _⟩ := hk.key hb
      rw [hm] at hm'; cases hm'
      refine ⟨_, ?_, rfl⟩
      have hget : c[off]? = some (blk.cells[off]?.getD undef) := by
        rw [← Array.getElem?_toList, prefix_get hrest off h.1, List.getElem?_eq_getElem h.1]; rfl
      simp [Instr.loadAt, Instr.sureAddr, loadVar, run_isAgg ha, run_load, cell_of_blk hc, hget]
    · exact h.elim
  · exact h.elim

def intOfAV (av : AV) (K : IntKind → Int → Prop) : Prop :=
  match av with
  | .pl (.int k n) => K k n
  | _ => False

def idxAddrK (P : Program) (m : Nat → Option Blk) (t : TypeId) (av : AV) (i : Int) (K : AV → Prop) : Prop :=
  match P.underlying t with
  | some (.array n e) =>
    match av with
    | .ptr k ver off => 0 ≤ i ∧ i < n ∧ withKey m k ver fun _ => match szOf P e with
      | some s => K (.ptr k ver (off + i.toNat * s))
      | none => False
    | _ => False
  | some (.slice e) =>
    match av with
    | .vec _ xs => szOf P e = some 1 ∧ 0 ≤ i ∧ i < xs.length ∧ K (.pcell (xs[i.toNat]?.getD undef))
    | .sl k ver off len => 0 ≤ i ∧ i < len ∧ withKey m k ver fun _ => match szOf P e with
      | some s => K (.ptr k ver (off + i.toNat * s))
      | none => False
    | _ => False
  | _ => False

theorem idxAddrK_sound {P : Program} {m : Nat → Option Blk} {t : TypeId} {av : AV} {i : Int} {K : AV → Prop} (h : idxAddrK P m t av i K) :
    ∃ r, K r ∧ ∀ base w ρ v kd, Keys base w ρ m → RelV base w ρ m v av → ∃ x, (Instr.indexAt t v (.int kd i)).run P w = .ok x w ∧ RelV base w ρ m x r := by
  unfold idxAddrK at h
  split at h
  · rename_i n e ht
    split at h
    · rename_i k ver off
      obtain ⟨h0, h1, h⟩ := h
      have hwk := withKey_elim h
      clear h
      obtain ⟨blk, hm, rfl, h⟩ := hwk
      split at h
      · rename_i s hs
        refine ⟨_, h, fun base w ρ v kd hk hv => ?_⟩
        obtain ⟨blk', hm', _, hp⟩ := hv
        rw [hm] at hm'; cases hm'
        obtain ⟨b, hb, rfl⟩ := hp rfl
        exact ⟨_, by simp [Instr.indexAt, asIntOf, run_underlying ht, Instr.sureAddr, h0, h1, run_sizeOf hs, Addr.add_lit], blk, hm, Nat.le_refl _, fun _ => ⟨b, hb, rfl⟩⟩
      · exact h.elim
    · exact h.elim
  · rename_i e ht
    split at h
    · rename_i fr xs
      obtain ⟨hs, h0, h1, h⟩ := h
      refine ⟨_, h, fun base w ρ v kd hk hv => ?_⟩
      rcases hv with ⟨rfl, _⟩ | ⟨b, o, cap, c, e', fz, rfl, hc, hg, hx, h2, h3⟩
      · simp at h1; omega
      · refine ⟨_, by simp [Instr.indexAt, asIntOf, run_underlying ht, h0, h1, run_sizeOf hs, Addr.add_lit], b, o + i.toNat, rfl, ?_, hg.2⟩
        rw [cell_of_blk hc, ← Array.getElem?_toList]
        have hlt : i.toNat < xs.length := by omega
        have : xs[i.toNat]? = c.toList[o + i.toNat]? := by
          conv => lhs; rw [← hx]
          rw [List.getElem?_take_of_lt hlt, List.getElem?_drop]
        rw [this]
        have hlt2 : o + i.toNat < c.toList.length := by simp; omega
        rw [List.getElem?_eq_getElem hlt2]; rfl
    · rename_i k ver off len
      obtain ⟨h0, h1, h⟩ := h
      have hwk := withKey_elim h
      clear h
      obtain ⟨blk, hm, rfl, h⟩ := hwk
      split at h
      · rename_i s hs
        refine ⟨_, h, fun base w ρ v kd hk hv => ?_⟩
        obtain ⟨blk', hm', _, hp⟩ := hv
        rw [hm] at hm'; cases hm'
        rcases hp rfl with ⟨rfl, _⟩ | ⟨b, cap, c, e', fz, hb, rfl, hc, _⟩
        · omega
        · exact ⟨_, by simp [Instr.indexAt, asIntOf, run_underlying ht, h0, h1, run_sizeOf hs, Addr.add_lit], blk, hm, Nat.le_refl _, fun _ => ⟨b, hb, rfl⟩⟩
      · exact h.elim
    · exact h.elim
  · exact h.elim

/-- a part of a struct or an array -/
def partK (P : Program) (t : TypeId) (cs : Array Value) (off : Nat) (K : Value → Prop) : Prop :=
  match aggOf P t with
  | some true => (match szOf P t with
    | some s => K (.agg (cs.extract off (off + s)))
    | none => False)
  | some false => off < cs.size ∧ K (cs[off]?.getD undef)
  | none => False

theorem partK_sound {P : Program} {t : TypeId} {cs : Array Value} {off : Nat} {K : Value → Prop} (h : partK P t cs off K) : ∃ v, K v ∧ ∀ w : World, (part t cs off).run P w = .ok v w := by
  unfold partK at h
  split at h
  · rename_i ha
    split at h
    · rename_i s hs
      exact ⟨_, h, fun w => by simp [part, run_isAgg ha, run_sizeOf hs]⟩
    · exact h.elim
  · rename_i ha
    exact ⟨_, h.2, fun w => by simp [part, run_isAgg ha, h.1]⟩
  · exact h.elim

def indexK (P : Program) (t : TypeId) (v : Value) (i : Int) (K : Value → Prop) : Prop :=
  match P.underlying t, v with
  | some (.array n e), .agg cs => 0 ≤ i ∧ i < n ∧ (match szOf P e with
    | some s => partK P e cs (i.toNat * s) K
    | none => False)
  | some .string, .string s => 0 ≤ i ∧ i < s.size ∧ K (.int .u8 ((s[i.toNat]?.getD 0).toNat : Nat))
  | _, _ => False

theorem indexK_sound {P : Program} {t : TypeId} {x : Value} {i : Int} {K : Value → Prop} (h : indexK P t x i K) : ∃ v, K v ∧ ∀ (kd : IntKind) (w : World), (Instr.index t x (.int kd i)).run P w = .ok v w := by
  unfold indexK at h
  split at h
  · rename_i n e cs ht
    obtain ⟨h0, h1, h⟩ := h
    split at h
    · rename_i s hs
      obtain ⟨v, hv, hr⟩ := partK_sound h
      exact ⟨v, hv, fun kd w => by simp [Instr.index, asIntOf, run_underlying ht, h0, h1, run_sizeOf hs, hr]⟩
    · exact h.elim
  · rename_i s ht
    obtain ⟨h0, h1, h⟩ := h
    refine ⟨_, h, fun kd w => ?_⟩
    have hlt : i.toNat < s.size := by omega
    have hg : s[i.toNat]? = some (s[i.toNat]) := by simp [hlt]
    simp [Instr.index, asIntOf, run_underlying ht, h0, hg]
  · exact h.elim

def fieldK (P : Program) (t : TypeId) (v : Value) (f : Nat) (K : Value → Prop) : Prop :=
  match P.underlying t, v with
  | some (.struct fs), .agg cs => (match fs[f]? with
    | some fd => partK P fd.type cs fd.offset K
    | none => False)
  | _, _ => False

theorem fieldK_sound {P : Program} {t : TypeId} {x : Value} {f : Nat} {K : Value → Prop} (h : fieldK P t x f K) : ∃ v, K v ∧ ∀ (w : World), (Instr.field t x f).run P w = .ok v w := by
  unfold fieldK at h
  split at h
  · rename_i fs cs ht
    split at h
    · rename_i fd hf
      obtain ⟨v, hv, hr⟩ := partK_sound h
      exact ⟨v, hv, fun w => by simp [Instr.field, run_underlying ht, hf, asAgg, hr]⟩
    · exact h.elim
  · exact h.elim

def fieldAddrK (P : Program) (m : Nat → Option Blk) (t : TypeId) (av : AV) (f : Nat) (K : AV → Prop) : Prop :=
  match P.underlying t, av with
  | some (.struct fs), .ptr k ver off => withKey m k ver fun _ => (match fs[f]? with
    | some fd => (match szOf P fd.type with
      | some s => s ≠ 0 ∧ K (.ptr k ver (off + fd.offset))
      | none => False)
    | none => False)
  | _, _ => False

theorem fieldAddrK_sound {P : Program} {m : Nat → Option Blk} {t : TypeId} {av : AV} {f : Nat} {K : AV → Prop} (h : fieldAddrK P m t av f K) :
    ∃ r, K r ∧ ∀ base w ρ v, Keys base w ρ m → RelV base w ρ m v av → ∃ x, (Instr.fieldAt t v f).run P w = .ok x w ∧ RelV base w ρ m x r := by
  unfold fieldAddrK at h
  split at h
  · rename_i fs k ver off ht
    have hwk := withKey_elim h
    clear h
    obtain ⟨blk, hm, rfl, h⟩ := hwk
    split at h
    · rename_i fd hf
      split at h
      · rename_i s hs
        refine ⟨_, h.2, fun base w ρ v hk hv => ?_⟩
        obtain ⟨blk', hm', _, hp⟩ := hv
        rw [hm] at hm'; cases hm'
        obtain ⟨b, hb, rfl⟩ := hp rfl
        have hne := h.1
        exact ⟨_, by simp [Instr.fieldAt, run_underlying ht, hf, Instr.sureAddr, fieldPlace, run_sizeOf hs, hne, Addr.add_lit], blk, hm, Nat.le_refl _, fun _ => ⟨b, hb, rfl⟩⟩
      · exact h.elim
    · exact h.elim
  · exact h.elim

end Go.Vm
namespace Go.Vm
open Go Go.RowKit

def optI (ev : Operand → AV) : Option Operand → Int → (Int → Prop) → Prop
  | none, d, K => K d
  | some x, _, K => match ev x with
    | .pl (.int _ n) => K n
    | _ => False

def sliceK (P : Program) (m : Nat → Option Blk) (t : TypeId) (av : AV) (lo : Int) (hi : Option Int) (K : AV → Prop) : Prop :=
  match P.underlying t with
  | some .string => (match av with
    | .pl (.string s) => 0 ≤ lo ∧ lo ≤ hi.getD s.size ∧ hi.getD s.size ≤ s.size ∧ K (.pl (.string (s.extract lo.toNat (hi.getD s.size).toNat)))
    | _ => False)
  | some (.slice e) => szOf P e = some 1 ∧ (match av with
    | .vec fr xs => 0 ≤ lo ∧ lo ≤ hi.getD xs.length ∧ hi.getD xs.length ≤ xs.length ∧ K (.vec fr ((xs.drop lo.toNat).take ((hi.getD xs.length).toNat - lo.toNat)))
    | .sl k ver off len => 0 ≤ lo ∧ (lo = 0 ∨ lo < len) ∧ lo ≤ hi.getD len ∧ hi.getD len ≤ len ∧ withKey m k ver fun _ => K (.sl k ver (off + lo.toNat) ((hi.getD len).toNat - lo.toNat))
    | _ => False)
  | some (.array n e) => szOf P e = some 1 ∧ (match av with
    | .ptr k ver off => 0 ≤ lo ∧ (lo = 0 ∨ lo < n) ∧ lo ≤ hi.getD n ∧ hi.getD n ≤ n ∧ withKey m k ver fun blk => off + n ≤ blk.cells.length ∧ K (.sl k ver (off + lo.toNat) ((hi.getD n).toNat - lo.toNat))
    | _ => False)
  | _ => False

/-- the bounds, as the operation has them -/
def bnd (lo : Int) : Option Value → Int → Prop
  | none, d => lo = d
  | some (.int _ n), _ => lo = n
  | _, _ => False

theorem run_sliceBounds {P : Program} (isS : Bool) (len cap : Nat) (vl vh : Option Value) (lo hi : Int) (hl : bnd lo vl 0) (hh : bnd hi vh len) (h0 : 0 ≤ lo) (h1 : lo ≤ hi) (h2 : hi ≤ cap) (w : World) :
    (Instr.sliceBounds isS len cap vl vh none).run P w = .ok (lo.toNat, hi.toNat, cap) w := by
  have e1 : ∀ (code : BoundsCode) (kd : IntKind), (Instr.sliceBound (.int kd hi) cap code).run P w = .ok hi.toNat w := fun code kd => by
    have : 0 ≤ hi := by omega
    simp [Instr.sliceBound, asIntOf, this, h2]
  have e2 : ∀ (code : BoundsCode) (kd : IntKind), (Instr.sliceBound (.int kd lo) hi.toNat code).run P w = .ok lo.toNat w := fun code kd => by
    have : lo ≤ (hi.toNat : Int) := by omega
    simp [Instr.sliceBound, asIntOf, h0]
    omega
  unfold Instr.sliceBounds
  cases vh with
  | none =>
    have hh' : hi = len := hh
    have hn : len = hi.toNat := by omega
    cases vl with
    | none => have hl' : lo = 0 := hl; subst hl'; simp; omega
    | some v =>
      cases v <;> try exact hl.elim
      rename_i kd n
      have hl' : lo = n := hl
      subst hl'
      simp only [Sem.run_bind, Sem.run_pure, Result.andThen_ok, hn, e2, Option.isSome_none, Bool.false_eq_true, if_false]
  | some v =>
    cases v <;> try exact hh.elim
    rename_i kd n
    have hh' : hi = n := hh
    subst hh'
    cases vl with
    | none => have hl' : lo = 0 := hl; subst hl'; simp only [Sem.run_bind, Sem.run_pure, Result.andThen_ok, e1, Int.toNat_zero]
    | some v =>
      cases v <;> try exact hl.elim
      rename_i kd' n'
      have hl' : lo = n' := hl
      subst hl'
      simp only [Sem.run_bind, Sem.run_pure, Result.andThen_ok, e1, e2, Option.isSome_none, Bool.false_eq_true, if_false]

theorem add_lo (b off lo : Nat) (cap : Nat) (h : lo = 0 ∨ lo < cap) : (if cap = lo then (⟨b, off, none⟩ : Addr) else (⟨b, off, none⟩ : Addr).add lo) = ⟨b, off + lo, none⟩ := by
  split
  · rename_i e; rcases h with h | h
    · subst h; rfl
    · omega
  · simp [Addr.add_lit]

def hiOk : Option Int → Option Value → Prop
  | none, vh => vh = none
  | some n, vh => ∃ k, vh = some (.int k n)

theorem bnd_get {hi : Int} {vh : Option Value} {d : Int} {ho : Option Int} (h : hiOk ho vh) (e : hi = ho.getD d) : bnd hi vh d := by
  cases ho with
  | none => subst h; exact e
  | some n => obtain ⟨k, rfl⟩ := h; exact e

theorem take_drop_take (L : List Value) (k lo n : Nat) (h : lo + n ≤ k) : (L.drop lo).take n = ((L.take k).drop lo).take n := by
  rw [List.drop_take, List.take_take]
  congr 1
  omega

theorem sliceK_sound {P : Program} {m : Nat → Option Blk} {t : TypeId} {av : AV} {lo : Int} {hi : Option Int} {K : AV → Prop} (h : sliceK P m t av lo hi K) :
    ∃ r, K r ∧ ∀ base w ρ v (vl vh : Option Value), Keys base w ρ m → RelV base w ρ m v av → bnd lo vl 0 → hiOk hi vh →
      ∃ x, (Instr.sliceAt t v vl vh none).run P w = .ok x w ∧ RelV base w ρ m x r := by
  unfold sliceK at h
  split at h
  · rename_i ht
    cases av with
    | pl v =>
      cases v <;> try exact h.elim
      rename_i s
      obtain ⟨h0, h1, h2, h⟩ := h
      refine ⟨_, h, fun base w ρ v vl vh hk hv hl hh => ?_⟩
      obtain rfl : v = .string s := hv
      refine ⟨_, ?_, rfl⟩
      have hb := run_sliceBounds (P := P) false s.size s.size vl vh lo (hi.getD s.size) hl (bnd_get hh rfl) h0 h1 h2 w
      simp [Instr.sliceAt, Instr.slice, run_underlying ht, hb]
    | _ => exact h.elim
  · rename_i e ht
    obtain ⟨hs, h⟩ := h
    cases av with
    | vec fr xs =>
      obtain ⟨h0, h1, h2, h⟩ := h
      refine ⟨_, h, fun base w ρ v vl vh hk hv hl hh => ?_⟩
      rcases hv with ⟨rfl, rfl⟩ | ⟨b, o, cap, c, e', fz, rfl, hc, hg, hx, h3, h4⟩
      · have hb := run_sliceBounds (P := P) true 0 0 vl vh lo (hi.getD 0) hl (bnd_get hh rfl) h0 (by simpa using h1) (by simpa using h2) w
        have e0 : lo.toNat = 0 := by simp at h1 h2; omega
        have e1 : (hi.getD 0).toNat = 0 := by simp at h1 h2; omega
        refine ⟨.slice none 0 0, ?_, .inl ⟨by simp, rfl⟩⟩
        simp [Instr.sliceAt, Instr.slice, run_underlying ht, hb, run_sizeOf hs, e0, e1]
      · have hb := run_sliceBounds (P := P) true xs.length cap vl vh lo (hi.getD xs.length) hl (bnd_get hh rfl) h0 h1 (by omega) w
        have hlen : ((xs.drop lo.toNat).take ((hi.getD xs.length).toNat - lo.toNat)).length = (hi.getD xs.length).toNat - lo.toNat := by simp; omega
        have hrun : ∀ q, (Instr.sliceAt t (.slice (some ⟨b, o, none⟩) xs.length cap) vl vh none).run P w = .ok q w ↔ q = (Value.slice (if cap = lo.toNat then some ⟨b, o, none⟩ else some ((⟨b, o, none⟩ : Addr).add lo.toNat)) ((hi.getD xs.length).toNat - lo.toNat) (cap - lo.toNat)) := fun q => by
          simp [Instr.sliceAt, Instr.slice, run_underlying ht, hb, run_sizeOf hs]
          exact eq_comm
        refine ⟨_, (hrun _).2 rfl, ?_⟩
        by_cases hcl : cap = lo.toNat
        · rw [if_pos hcl]
          have hz : (hi.getD xs.length).toNat - lo.toNat = 0 := by omega
          refine .inr ⟨b, o, cap - lo.toNat, c, e', fz, by rw [hlen], hc, hg, ?_, by rw [hlen]; omega, by omega⟩
          rw [hlen, hz]; simp
        · rw [if_neg hcl]
          refine .inr ⟨b, o + lo.toNat, cap - lo.toNat, c, e', fz, by rw [hlen, Addr.add_lit], hc, hg, ?_, by rw [hlen]; omega, by omega⟩
          rw [hlen, ← List.drop_drop, take_drop_take (c.toList.drop o) xs.length lo.toNat _ (by omega), hx]
    | sl k ver off len =>
      obtain ⟨h0, hc0, h1, h2, h⟩ := h
      have hwk := withKey_elim h
      clear h
      obtain ⟨blk, hm, rfl, h⟩ := hwk
      refine ⟨_, h, fun base w ρ v vl vh hk hv hl hh => ?_⟩
      obtain ⟨blk', hm', _, hp⟩ := hv
      rw [hm] at hm'; cases hm'
      rcases hp rfl with ⟨rfl, rfl, hn, rfl⟩ | ⟨b, cap, c, e', fz, hb, rfl, hc, h3, h4, h5⟩
      · have hb := run_sliceBounds (P := P) true 0 0 vl vh lo (hi.getD 0) hl (bnd_get hh rfl) h0 (by simpa using h1) (by simpa using h2) w
        have e0 : lo.toNat = 0 := by simp at h1 h2; omega
        have e1 : (hi.getD 0).toNat = 0 := by simp at h1 h2; omega
        refine ⟨.slice none 0 0, ?_, blk, hm, Nat.le_refl _, fun _ => .inl ?_⟩
        · simp [Instr.sliceAt, Instr.slice, run_underlying ht, hb, run_sizeOf hs, e0, e1]
        · simp [e0, e1, hn]
      · have hbd := run_sliceBounds (P := P) true len cap vl vh lo (hi.getD len) hl (bnd_get hh rfl) h0 h1 (by omega) w
        refine ⟨.slice (some ⟨b, off + lo.toNat, none⟩) ((hi.getD len).toNat - lo.toNat) (cap - lo.toNat), ?_, blk, hm, Nat.le_refl _, fun _ => .inr ⟨b, cap - lo.toNat, c, e', fz, hb, rfl, hc, by omega, by omega, by omega⟩⟩
        have := add_lo b off lo.toNat cap (by omega)
        simp [Instr.sliceAt, Instr.slice, run_underlying ht, hbd, run_sizeOf hs]
        rw [← this]
        split <;> simp
    | _ => exact h.elim
  · rename_i n e ht
    obtain ⟨hs, h⟩ := h
    cases av with
    | ptr k ver off =>
      obtain ⟨h0, hc0, h1, h2, h⟩ := h
      have hwk := withKey_elim h
      clear h
      obtain ⟨blk, hm, rfl, h3, h⟩ := hwk
      refine ⟨_, h, fun base w ρ v vl vh hk hv hl hh => ?_⟩
      obtain ⟨blk', hm', _, hp⟩ := hv
      rw [hm] at hm'; cases hm'
      obtain ⟨b, hb, rfl⟩ := hp rfl
      obtain ⟨blk', hm', _, c, fz, hc, ⟨rest, hrest⟩, _⟩ := hk.key hb
      rw [hm] at hm'; cases hm'
      have hsz : blk.cells.length ≤ c.size := by have := congrArg List.length hrest; simp at this; omega
      have hbd := run_sliceBounds (P := P) false n n vl vh lo (hi.getD n) hl (bnd_get hh rfl) h0 h1 (by omega) w
      refine ⟨.slice (some ⟨b, off + lo.toNat, none⟩) ((hi.getD n).toNat - lo.toNat) (n - lo.toNat), ?_, blk, hm, Nat.le_refl _, fun _ => .inr ⟨b, n - lo.toNat, c, blk.elem, fz, hb, rfl, hc, by omega, by omega, by omega⟩⟩
      have := add_lo b off lo.toNat n (by omega)
      simp [Instr.sliceAt, Instr.sureAddr, run_underlying ht, hbd, run_sizeOf hs]
      exact this
    | _ => exact h.elim
  · exact h.elim

def toArrK (P : Program) (m : Nat → Option Blk) (t : TypeId) (av : AV) (K : AV → Prop) : Prop :=
  match P.underlying t, av with
  | some (.array n _), .sl k ver off len => n ≤ len ∧ 0 < n ∧ withKey m k ver fun _ => K (.ptr k ver off)
  | _, _ => False

theorem toArrK_sound {P : Program} {m : Nat → Option Blk} {t : TypeId} {av : AV} {K : AV → Prop} (h : toArrK P m t av K) :
    ∃ r, K r ∧ ∀ base w ρ v, Keys base w ρ m → RelV base w ρ m v av → ∃ x, (Instr.arrayAt t v).run P w = .ok x w ∧ RelV base w ρ m x r := by
  unfold toArrK at h
  split at h
  · rename_i n e k ver off len ht
    obtain ⟨h1, h2, h⟩ := h
    have hwk := withKey_elim h
    clear h
    obtain ⟨blk, hm, rfl, h⟩ := hwk
    refine ⟨_, h, fun base w ρ v hk hv => ?_⟩
    obtain ⟨blk', hm', _, hp⟩ := hv
    rw [hm] at hm'; cases hm'
    rcases hp rfl with ⟨rfl, _⟩ | ⟨b, cap, c, e', fz, hb, rfl, hc, _⟩
    · omega
    · have : ¬ len < n := by omega
      exact ⟨_, by simp [Instr.arrayAt, run_underlying ht, this], blk, hm, Nat.le_refl _, fun _ => ⟨b, hb, rfl⟩⟩
  · exact h.elim

def convK (P : Program) (m : Nat → Option Blk) (src dst : TypeId) (av : AV) (K : AV → Prop) : Prop :=
  match av with
  | .pl (.int _ n) => (P.underlying src).isSome = true ∧ (match P.underlying dst with
    | some (.int k) => K (.pl (.int k (k.wrap n)))
    | _ => False)
  | .pl (.string s) => (match P.underlying dst with
    | some .string => (P.underlying src).isSome = true ∧ K (.pl (.string s))
    | _ => False)
  | av => (match P.underlying src with
    | some (.slice e) => P.underlying e = some (.int .u8) ∧ P.underlying dst = some .string ∧ (match av.cont m with
      | some xs => (match u8s xs with
        | some bs => K (.pl (.string (bstr bs)))
        | none => False)
      | none => False)
    | _ => False)

theorem convK_sound {P : Program} {m : Nat → Option Blk} {src dst : TypeId} {av : AV} {K : AV → Prop} (h : convK P m src dst av K) :
    ∃ r, K r ∧ ∀ base w ρ v, Keys base w ρ m → RelV base w ρ m v av → ∃ x, (convert src dst v).run P w = .ok x w ∧ RelV base w ρ m x r := by
  unfold convK at h
  split at h
  · rename_i k0 n
    obtain ⟨hs, h⟩ := h
    split at h
    · rename_i k hd
      refine ⟨_, h, fun base w ρ v hk hv => ?_⟩
      obtain rfl : v = .int k0 n := hv
      obtain ⟨d, hd'⟩ := Option.isSome_iff_exists.mp hs
      exact ⟨_, by simp [convert, run_underlying hd', run_underlying hd, Conv.intToInt], rfl⟩
    · exact h.elim
  · rename_i s
    split at h
    · rename_i hd
      obtain ⟨hs, h⟩ := h
      refine ⟨_, h, fun base w ρ v hk hv => ?_⟩
      obtain rfl : v = .string s := hv
      obtain ⟨d, hd'⟩ := Option.isSome_iff_exists.mp hs
      refine ⟨_, ?_, rfl⟩
      cases d <;> simp [convert, run_underlying hd', run_underlying hd]
    · exact h.elim
  · split at h
    · rename_i e hs
      obtain ⟨he, hd, h⟩ := h
      split at h
      · rename_i xs hx
        split at h
        · rename_i bs hb
          refine ⟨_, h, fun base w ρ v hk hv => ?_⟩
          exact ⟨_, run_bytes_vec (AV.cont_sound hk hv hx) hb hs he hd, rfl⟩
        · exact h.elim
      · exact h.elim
    · exact h.elim

def evs (ev : Operand → AV) (m : Nat → Option Blk) : List Operand → Option (List DV)
  | [] => some []
  | x :: r => match (ev x).dv m, evs ev m r with
    | some d, some ds => some (d :: ds)
    | _, _ => none

theorem evs_sound {base : Nat} {w : World} {ρ : Nat → Option Nat} {m : Nat → Option Blk} (hk : Keys base w ρ m) {ev : Operand → AV} {val : Operand → Value} :
    ∀ {xs : List Operand} {ds : List DV}, (∀ x ∈ xs, RelV base w ρ m (val x) (ev x)) → evs ev m xs = some ds → DV.rels w (fun _ => True) (xs.map val) ds
  | [], ds, _, h => by cases h; trivial
  | x :: r, ds, hr, h => by
    unfold evs at h
    split at h
    · rename_i d ds' hd hds
      cases h
      exact ⟨AV.dv_sound hk (hr x (by simp)) hd, evs_sound hk (fun y hy => hr y (by simp [hy])) hds⟩
    · cases h

/-- what a callee hands back -/
def optK (o : Option RV) (K : AV → Prop) : Prop :=
  match o with
  | some (.one d) => K (RV.one d).av
  | some (.tup ds) => K (RV.tup ds).av
  | _ => False

theorem optK_elim {P : Program} {f : FuncId} {ds : List DV} {o : Option RV} {K : AV → Prop} (h : optK o K) : ∃ r, o = some r ∧ K r.av ∧ (SpecR P f ds r → Spec P f ds r) := by
  unfold optK at h
  split at h
  · exact ⟨_, rfl, h, fun h => h⟩
  · exact ⟨_, rfl, h, fun h => h⟩
  · exact h.elim

theorem optK_some (d : DV) (K : AV → Prop) : optK (some (.one d)) K = K (RV.one d).av := rfl
theorem optK_tup (ds : List DV) (K : AV → Prop) : optK (some (.tup ds)) K = K (RV.tup ds).av := rfl
theorem optK_ite (c : Prop) [Decidable c] (r : RV) (K : AV → Prop) : optK (if c then some r else none) K = (c ∧ optK (some r) K) := by
  by_cases h : c <;> simp [h, optK]

/-- what captured variables read -/
def capsD (m : Nat → Option Blk) : List (Nat × Nat) → Option (List DV)
  | [] => some []
  | (k, ver) :: r => match m k, capsD m r with
    | some blk, some ds => (match blk.cells with
      | [x] => if ver = blk.ver then some (.cel x :: ds) else none
      | xs => if ver = blk.ver then some (.blk xs :: ds) else none)
    | _, _ => none

theorem capsD_sound {base : Nat} {w : World} {ρ : Nat → Option Nat} {m : Nat → Option Blk} (hk : Keys base w ρ m) :
    ∀ {ks : List (Nat × Nat)} {vs : List Value} {ds : List DV}, vs.length = ks.length →
      (∀ (i k ver : Nat), ks[i]? = some (k, ver) → ∃ blk, m k = some blk ∧ ver ≤ blk.ver ∧ (ver = blk.ver → ∃ b, ρ k = some b ∧ vs[i]? = some (Value.pointer (some ⟨b, 0, none⟩)))) →
      capsD m ks = some ds → DV.rels w (fun _ => True) vs ds
  | [], vs, ds, hl, _, h => by
    cases h
    obtain rfl : vs = [] := List.eq_nil_of_length_eq_zero (by simpa using hl)
    trivial
  | (k, ver) :: r, [], ds, hl, _, h => by simp at hl
  | (k, ver) :: r, v :: vs, ds, hl, hp, h => by
    unfold capsD at h
    split at h
    · rename_i blk ds' hm hds
      split at h
      · rename_i x hx
        split at h
        · rename_i hver
          cases h
          obtain ⟨blk', hm', _, hq⟩ := hp 0 k ver (by simp)
          rw [hm] at hm'; cases hm'
          obtain ⟨b, hb, hv⟩ := hq hver
          simp at hv
          obtain ⟨blk'', hm'', _, c, fz, hc, ⟨rest, hrest⟩, _⟩ := hk.key hb
          rw [hm] at hm''; cases hm''
          refine ⟨⟨b, 0, hv, ?_, trivial⟩, capsD_sound hk (by simpa using hl) (fun i k' ver' hi => ?_) hds⟩
          · have h0 : c.toList[0]? = some x := by rw [hrest, hx]; simp
            simp [World.cell?, hc]
            simpa using h0
          · have := hp (i + 1) k' ver' (by simpa using hi)
            simpa using this
        · cases h
      · rename_i xs hxs
        split at h
        · rename_i hver
          cases h
          obtain ⟨blk', hm', _, hq⟩ := hp 0 k ver (by simp)
          rw [hm] at hm'; cases hm'
          obtain ⟨b, hb, hv⟩ := hq hver
          simp at hv
          obtain ⟨blk'', hm'', _, c, fz, hc, ⟨rest, hrest⟩, _⟩ := hk.key hb
          rw [hm] at hm''; cases hm''
          refine ⟨⟨b, c, _, fz, rest, hv, hc, hrest, trivial⟩, capsD_sound hk (by simpa using hl) (fun i k' ver' hi => ?_) hds⟩
          have := hp (i + 1) k' ver' (by simpa using hi)
          simpa using this
        · cases h
    · cases h

theorem DV.rels_append {w : World} {g : Nat → Prop} : ∀ {vs us : List Value} {ds es : List DV}, DV.rels w g vs ds → DV.rels w g us es → DV.rels w g (vs ++ us) (ds ++ es)
  | [], _, [], _, _, h => h
  | _ :: _, _, _ :: _, _, h, h' => ⟨h.1, DV.rels_append h.2 h'⟩
  | [], _, _ :: _, _, h, _ => h.elim
  | _ :: _, _, [], _, h, _ => h.elim

def callK (Γ : Env) (m : Nat → Option Blk) (ev : Operand → AV) (f : AV) (args : List Operand) (K : AV → Prop) : Prop :=
  match f with
  | .clo fid ks => (match look Γ fid with
    | some g => (match evs ev m args with
      | some ds => (match capsD m ks with
        | some cs => optK (g (ds ++ cs)) K
        | none => False)
      | none => False)
    | none => False)
  | _ => False

theorem Spec.does {P : Program} {f : FuncId} {ds : List DV} {r : RV} (h : Spec P f ds r) {base : Nat} {w : World} {ρ : Nat → Option Nat} {m : Nat → Option Blk} (hk : Keys base w ρ m) {vs : List Value}
    (hv : DV.rels w (fun _ => True) vs ds) : Does P (fun v w' => RelV base w' ρ m v r.av ∧ Below w.heap.size w w') ((callFunc f vs.toArray).run P w) :=
  (h w vs hv).mono fun v w' ⟨h1, h2⟩ => ⟨RV.av_sound (RV.rel_mono h1 (fun _ _ _ => rfl) (fun b _ hb => ⟨Nat.le_trans hk.bnd hb, fun k e => by have := hk.lt e; omega⟩)), h2⟩

def lenK (P : Program) (t : TypeId) (av : AV) (K : AV → Prop) : Prop :=
  match P.underlying t, av with
  | some .string, .pl (.string s) => K (.pl (.int .i64 s.size))
  | some (.array n _), _ => K (.pl (.int .i64 n))
  | some (.slice _), .vec _ xs => K (.pl (.int .i64 xs.length))
  | some (.slice _), .pl (.slice _ n _) => K (.pl (.int .i64 n))
  | some (.slice _), .sl _ _ _ n => K (.pl (.int .i64 n))
  | _, _ => False

theorem lenK_sound {P : Program} {t : TypeId} {av : AV} {K : AV → Prop} (h : lenK P t av K) :
    ∃ r, K r ∧ ∀ base w ρ m v ty, (∀ k ver off n, av = .sl k ver off n → ∃ blk, m k = some blk ∧ ver = blk.ver) → RelV base w ρ m v av → ∃ x, (Builtin.len_ #[t] ty #[v]).run P w = .ok x w ∧ RelV base w ρ m x r := by
  unfold lenK at h
  split at h
  · rename_i s ht
    refine ⟨_, h, fun base w ρ m v ty _ hv => ?_⟩
    obtain rfl : v = .string s := hv
    exact ⟨_, by simp [Builtin.len_, run_underlying ht]; rfl, rfl⟩
  · rename_i n e ht
    refine ⟨_, h, fun base w ρ m v ty _ hv => ⟨_, ?_, rfl⟩⟩
    cases v <;> simp [Builtin.len_, run_underlying ht, goInt]
  · rename_i e fr xs ht
    refine ⟨_, h, fun base w ρ m v ty _ hv => ?_⟩
    rcases hv with ⟨rfl, rfl⟩ | ⟨b, o, cap, c, e', fz, rfl, _⟩
    · exact ⟨_, by simp [Builtin.len_, run_underlying ht]; rfl, rfl⟩
    · exact ⟨_, by simp [Builtin.len_, run_underlying ht]; rfl, rfl⟩
  · rename_i e a n c ht
    refine ⟨_, h, fun base w ρ m v ty _ hv => ?_⟩
    obtain rfl : v = .slice a n c := hv
    exact ⟨_, by simp [Builtin.len_, run_underlying ht]; rfl, rfl⟩
  · rename_i e k ver off n ht
    refine ⟨_, h, fun base w ρ m v ty hlive hv => ?_⟩
    obtain ⟨blk, hm, rfl⟩ := hlive _ _ _ _ rfl
    obtain ⟨blk', hm', _, hp⟩ := hv
    rw [hm] at hm'; cases hm'
    rcases hp rfl with ⟨rfl, _, _, rfl⟩ | ⟨b, cap, c, e', fz, _, rfl, _⟩
    · exact ⟨_, by simp [Builtin.len_, run_underlying ht]; rfl, rfl⟩
    · exact ⟨_, by simp [Builtin.len_, run_underlying ht]; rfl, rfl⟩
  · exact h.elim

end Go.Vm
