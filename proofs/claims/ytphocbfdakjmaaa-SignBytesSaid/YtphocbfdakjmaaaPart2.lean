/- Texts of the proof, laid together: Vx, Vm3, U. No condition. -/
import Derived.Test.YtphocbfdakjmaaaPart1
import Derived.Deep.LoopGhost
/- What quiet operations do does not change when there are more variables. No condition. -/
namespace Go.Vm
open Go Go.RowKit

def Ext (m m' : Nat → Option Blk) : Prop := ∀ k b, m k = some b → m' k = some b
theorem Ext.refl (m : Nat → Option Blk) : Ext m m := fun _ _ h => h

theorem withKey_ext {m m' : Nat → Option Blk} (he : Ext m m') {k ver : Nat} {blk : Blk} (hm : m k = some blk) (hv : ver = blk.ver) {K : Blk → Prop} (h : K blk) : withKey m' k ver K := by
  unfold withKey
  rw [he k blk hm]
  exact ⟨hv, h⟩

theorem loadK_ext {P : Program} {m : Nat → Option Blk} {t : TypeId} {av : AV} {K : AV → Prop} (h : loadK P m t av K) : ∃ r, K r ∧ ∀ m', Ext m m' → loadK P m' t av (fun x => x = r) := by
  unfold loadK at h
  split at h
  · rename_i x
    exact ⟨_, h.2, fun m' _ => ⟨h.1, rfl⟩⟩
  · rename_i b cells
    split at h
    · rename_i ha
      split at h
      · rename_i s hs
        refine ⟨_, h.2, fun m' _ => ?_⟩
        show (match aggOf P t with | some true => _ | _ => _)
        rw [ha]
        simp only
        rw [hs]
        exact ⟨h.1, rfl⟩
      · exact h.elim
    · exact h.elim
  · rename_i k ver off
    obtain ⟨blk, hm, hv, h⟩ := withKey_elim h
    split at h
    · rename_i ha
      split at h
      · rename_i s hs
        refine ⟨_, h.2, fun m' he => withKey_ext he hm hv ?_⟩
        rw [ha]
        simp only
        rw [hs]
        exact ⟨h.1, rfl⟩
      · exact h.elim
    · rename_i ha
      refine ⟨_, h.2, fun m' he => withKey_ext he hm hv ?_⟩
      rw [ha]
      exact ⟨h.1, rfl⟩
    · exact h.elim
  · exact h.elim

theorem fieldAddrK_ext {P : Program} {m : Nat → Option Blk} {t : TypeId} {av : AV} {f : Nat} {K : AV → Prop} (h : fieldAddrK P m t av f K) : ∃ r, K r ∧ ∀ m', Ext m m' → fieldAddrK P m' t av f (fun x => x = r) := by
  unfold fieldAddrK at h
  split at h
  · rename_i fs k ver off ht
    obtain ⟨blk, hm, hv, h⟩ := withKey_elim h
    split at h
    · rename_i fd hf
      split at h
      · rename_i s hs
        refine ⟨_, h.2, fun m' he => ?_⟩
        unfold fieldAddrK
        rw [ht]
        refine withKey_ext he hm hv ?_
        rw [hf]
        simp only
        rw [hs]
        first | exact ⟨h.1, rfl⟩ | exact ⟨h.1, trivial⟩
      · exact h.elim
    · exact h.elim
  · exact h.elim

theorem cont_ext {m m' : Nat → Option Blk} (he : Ext m m') {av : AV} {xs : List Value} (h : av.cont m = some xs) : av.cont m' = some xs := by
  cases av with
  | sl k ver off len =>
    simp only [AV.cont] at h ⊢
    cases hm : m k with
    | none => rw [hm] at h; cases h
    | some blk => rw [hm] at h; rw [he k blk hm]; exact h
  | _ => exact h

theorem dv_ext {m m' : Nat → Option Blk} (he : Ext m m') {av : AV} {d : DV} (h : av.dv m = some d) : av.dv m' = some d := by
  cases av with
  | sl k ver off len =>
    simp only [AV.dv] at h ⊢
    cases hm : m k with
    | none => rw [hm] at h; cases h
    | some blk => rw [hm] at h; rw [he k blk hm]; exact h
  | _ => exact h

theorem evs_ext {m m' : Nat → Option Blk} (he : Ext m m') {ev : Operand → AV} : ∀ {xs : List Operand} {ds : List DV}, evs ev m xs = some ds → evs ev m' xs = some ds
  | [], ds, h => h
  | x :: r, ds, h => by
    unfold evs at h ⊢
    split at h
    · rename_i d ds' hd hds
      rw [dv_ext he hd, evs_ext he hds]
      exact h
    · cases h

theorem capsD_ext {m m' : Nat → Option Blk} (he : Ext m m') : ∀ {ks : List (Nat × Nat)} {ds : List DV}, capsD m ks = some ds → capsD m' ks = some ds
  | [], ds, h => h
  | (k, ver) :: r, ds, h => by
    unfold capsD at h ⊢
    split at h
    · rename_i blk ds' hm hds
      rw [he k blk hm, capsD_ext he hds]
      exact h
    · cases h

theorem optK_ext {o : Option RV} {K : AV → Prop} (h : optK o K) : ∃ r, K r ∧ optK o (fun x => x = r) := by
  unfold optK at h
  split at h
  · exact ⟨_, h, rfl⟩
  · exact ⟨_, h, rfl⟩
  · exact h.elim

theorem callK_ext {Γ : Env} {m : Nat → Option Blk} {ev : Operand → AV} {f : AV} {args : List Operand} {K : AV → Prop} (h : callK Γ m ev f args K) : ∃ r, K r ∧ ∀ m', Ext m m' → callK Γ m' ev f args (fun x => x = r) := by
  unfold callK at h
  split at h
  · rename_i fid ks
    split at h
    · rename_i g hg
      split at h
      · rename_i ds hds
        split at h
        · rename_i cs hcs
          obtain ⟨r, hr, ho⟩ := optK_ext h
          refine ⟨r, hr, fun m' he => ?_⟩
          simp only [callK, hg, evs_ext he hds, capsD_ext he hcs]
          exact ho
        · exact h.elim
      · exact h.elim
    · exact h.elim
  · exact h.elim

theorem intK_ext {op : BinOp} {k : IntKind} {a b : Int} {K : Value → Prop} (h : intK op k a b K) : ∃ r, K r ∧ intK op k a b (fun x => x = r) := by
  cases op <;> simp only [intK] at h ⊢ <;> first
    | exact h.elim
    | exact ⟨_, h, rfl⟩
    | exact ⟨_, h.2, h.1, rfl⟩

theorem binK_ext {P : Program} {op : BinOp} {t : TypeId} {x y : Value} {K : Value → Prop} (h : binK P op t x y K) : ∃ r, K r ∧ binK P op t x y (fun z => z = r) := by
  unfold binK at h
  split at h
  · rename_i k a k' b
    split at h
    · exact ⟨_, h.2, h.1, rfl⟩
    · exact ⟨_, h.2, h.1, rfl⟩
    · rename_i op h1 h2
      obtain ⟨rfl, h⟩ := h
      obtain ⟨r, hr, hi⟩ := intK_ext h
      refine ⟨r, hr, ?_⟩
      cases op <;> first
        | exact absurd rfl h1
        | exact absurd rfl h2
        | (simp only [binK, true_and]; exact hi)
  · rename_i a b
    split at h
    · exact ⟨_, h.2, h.1, rfl⟩
    · exact ⟨_, h.2, h.1, rfl⟩
    · exact h.elim
  · rename_i a b
    split at h
    · exact ⟨_, h.2, h.1, rfl⟩
    · exact ⟨_, h, rfl⟩
    · exact ⟨_, h, rfl⟩
    · exact h.elim
  · rename_i xs ys
    split at h
    · obtain ⟨hg, b, hb, hk⟩ := h
      exact ⟨_, hk, hg, b, hb, rfl⟩
    · obtain ⟨hg, b, hb, hk⟩ := h
      exact ⟨_, hk, hg, b, hb, rfl⟩
    · exact h.elim
  · exact h.elim

theorem sliceK_ext {P : Program} {m : Nat → Option Blk} {t : TypeId} {av : AV} {lo : Int} {hi : Option Int} {K : AV → Prop} (h : sliceK P m t av lo hi K) : ∃ r, K r ∧ ∀ m', Ext m m' → sliceK P m' t av lo hi (fun x => x = r) := by
  unfold sliceK at h
  split at h
  · rename_i ht
    cases av with
    | pl v =>
      cases v with
      | string s =>
        obtain ⟨h1, h2, h3, h4⟩ := h
        refine ⟨_, h4, fun m' _ => ?_⟩
        unfold sliceK
        rw [ht]
        exact ⟨h1, h2, h3, rfl⟩
      | _ => exact h.elim
    | _ => exact h.elim
  · rename_i e ht
    obtain ⟨hs, h⟩ := h
    cases av with
    | vec fr xs =>
      obtain ⟨h1, h2, h3, h4⟩ := h
      refine ⟨_, h4, fun m' _ => ?_⟩
      unfold sliceK
      rw [ht]
      exact ⟨hs, h1, h2, h3, rfl⟩
    | sl k ver off len =>
      obtain ⟨h1, h2, h3, h4, h5⟩ := h
      obtain ⟨blk, hm, hv, h⟩ := withKey_elim h5
      refine ⟨_, h, fun m' he => ?_⟩
      unfold sliceK
      rw [ht]
      exact ⟨hs, h1, h2, h3, h4, withKey_ext he hm hv rfl⟩
    | _ => exact h.elim
  · rename_i n e ht
    obtain ⟨hs, h⟩ := h
    cases av with
    | ptr k ver off =>
      obtain ⟨h1, h2, h3, h4, h5⟩ := h
      obtain ⟨blk, hm, hv, h6, h⟩ := withKey_elim h5
      refine ⟨_, h, fun m' he => ?_⟩
      unfold sliceK
      rw [ht]
      exact ⟨hs, h1, h2, h3, h4, withKey_ext he hm hv ⟨h6, rfl⟩⟩
    | _ => exact h.elim
  · exact h.elim

theorem lenK_ext {P : Program} {t : TypeId} {av : AV} {K : AV → Prop} (h : lenK P t av K) : ∃ r, K r ∧ lenK P t av (fun x => x = r) := by
  unfold lenK at h
  split at h
  case h_6 => exact h.elim
  all_goals
    rename_i ht
    refine ⟨_, h, ?_⟩
    unfold lenK
    rw [ht]

theorem unK_ext {op : UnOp} {x : Value} {K : Value → Prop} (h : unK op x K) : ∃ r, K r ∧ unK op x (fun z => z = r) := by
  unfold unK at h
  split at h
  case h_4 => exact h.elim
  all_goals exact ⟨_, h, rfl⟩

theorem plK_eq (r : Value) : (plK fun x => x = AV.pl r) = fun z => z = r := by
  funext z
  unfold plK
  simp

theorem convK_ext {P : Program} {m : Nat → Option Blk} {src dst : TypeId} {av : AV} {K : AV → Prop} (h : convK P m src dst av K) : ∃ r, K r ∧ ∀ m', Ext m m' → convK P m' src dst av (fun x => x = r) := by
  unfold convK at h
  split at h
  · obtain ⟨h0, h⟩ := h
    split at h
    · rename_i k hd
      refine ⟨_, h, fun m' _ => ?_⟩
      unfold convK
      simp only [hd]
      exact ⟨h0, trivial⟩
    · exact h.elim
  · split at h
    · rename_i hd
      refine ⟨_, h.2, fun m' _ => ?_⟩
      unfold convK
      simp only [hd]
      exact ⟨h.1, trivial⟩
    · exact h.elim
  · rename_i hi hs
    split at h
    · rename_i e he
      obtain ⟨h1, h2, h⟩ := h
      split at h
      · rename_i xs hx
        split at h
        · rename_i bs hb
          refine ⟨_, h, fun m' hm => ?_⟩
          unfold convK
          split
          · exact absurd rfl (hi _ _)
          · exact absurd rfl (hs _)
          · simp only [he, cont_ext hm hx, hb]
            exact ⟨h1, h2, trivial⟩
        · exact h.elim
      · exact h.elim
    · exact h.elim
theorem indexK_ext {P : Program} {t : TypeId} {v : Value} {i : Int} {K : Value → Prop} (h : indexK P t v i K) : ∃ r, K r ∧ indexK P t v i (fun x => x = r) := by
  unfold indexK at h
  split at h
  · rename_i n e cs ht
    obtain ⟨h0, h1, h⟩ := h
    split at h
    · rename_i s hs
      unfold partK at h
      split at h
      · rename_i ha
        split at h
        · rename_i s' hs'
          refine ⟨_, h, ?_⟩
          unfold indexK
          simp only [ht, hs]
          refine ⟨h0, h1, ?_⟩
          unfold partK
          simp only [ha, hs']
        · exact h.elim
      · rename_i ha
        refine ⟨_, h.2, ?_⟩
        unfold indexK
        simp only [ht, hs]
        refine ⟨h0, h1, ?_⟩
        unfold partK
        simp only [ha]
        exact ⟨h.1, trivial⟩
      · exact h.elim
    · exact h.elim
  · rename_i s ht
    refine ⟨_, h.2.2, ?_⟩
    unfold indexK
    simp only [ht]
    exact ⟨h.1, h.2.1, trivial⟩
  · exact h.elim

/-- quiet operations of a region with new variables -/
def calmOp : Op → Bool
  | .move _ | .assign _ | .pick .. | .load .. | .binOp .. | .fieldAddr .. | .extract .. | .unOp .. => true
  | .slice _ _ none none none | .slice _ _ (some _) none none | .slice _ _ none (some _) none | .slice _ _ (some _) (some _) none => true
  | .call { callee := .value _, .. } => true
  | .call { callee := .builtin .len, args := ⟨[_]⟩, argTypes := ⟨[_]⟩ } => true
  | .buildSlice .. => true
  | .convert .. | .index .. | .build .. => true
  | _ => false

/-- what such an operation yields: a new slice is a list of values -/
def eK (P : Program) (Γ : Env) (m : Nat → Option Blk) (ev : Operand → AV) (op : Op) (K : AV → Prop) : Prop :=
  match op with
  | .buildSlice t len parts => (match plains ev parts.toList with
    | some vs => (match seqParts 0 vs with
      | some xs => (match rowOf P t with
        | some (_, _, _) => len = xs.length ∧ len ≤ 1000 ∧ K (.vec true xs)
        | none => False)
      | none => False)
    | none => False)
  | op => qK P Γ m ev op K

theorem eK_qK {P : Program} {Γ : Env} {m : Nat → Option Blk} {ev : Operand → AV} {op : Op} {K : AV → Prop} (h : ∀ t len parts, op ≠ .buildSlice t len parts) : eK P Γ m ev op K = qK P Γ m ev op K := by
  cases op <;> first | rfl | exact absurd rfl (h _ _ _)

theorem eK_sound {P : Program} {Γ : Env} (hΓ : Γ.ok P) {m : Nat → Option Blk} {ev : Operand → AV} {o : Oper} {K : AV → Prop} (h : eK P Γ m ev o.op K) :
    ∃ r, K r ∧ Quiet P m ev o r := by
  unfold eK at h
  split at h
  · rename_i t len parts ho
    split at h
    case h_2 => exact h.elim
    rename_i vs hvs
    split at h
    case h_2 => exact h.elim
    rename_i xs hxs
    split at h
    case h_2 => exact h.elim
    rename_i e z bytes hrow
    obtain ⟨ht, ⟨i, hi, hsz, hz, hby⟩, hzc⟩ := rowOf_row hrow
    obtain ⟨rfl, hle, h⟩ := h
    refine ⟨_, h, fun base w ρ a hk hr => ?_⟩
    have hsz' : szOf P e = some 1 := by simp [szOf, hi, hsz]
    have hz' : (P.info? e).bind (·.zero) = some z := by simp [hi, hz]
    obtain ⟨cs, hrun, hcs⟩ := run_buildSlice (P := P) (w := w) ht hsz' hz' hxs hle
    have hpl := plains_sound (val := a.eval) (fun p hp v hv => by
      have := hr p.2 (by simp only [ho, Op.operands, List.mem_toArray, List.mem_map]; exact ⟨p, hp, rfl⟩)
      rw [hv] at this
      exact this) hvs
    have e3 : (Array.map (fun (x : Nat × Operand) => match x with | (i, x) => (i, a.eval x)) parts) = vs.toArray := by
      rw [← hpl]; apply Array.ext'; simp
    have : (execOp a.eval o).run P w = .ok (.value (.slice (some ⟨w.heap.size, 0, none⟩) xs.length xs.length)) (w.alloc (.cells cs e)) := by simp [execOp, ho, e3, hrun]
    rw [this]
    have hsize : cs.size = xs.length := by rw [← Array.length_toList, hcs]
    exact ⟨.inr ⟨w.heap.size, 0, xs.length, cs, e, _, rfl, alloc_new w _, ⟨fun _ => hk.bnd, fun k e => by have := hk.lt e; omega⟩, by rw [hcs]; simp, Nat.le_refl _, by omega⟩, below_alloc w _⟩
  · exact qK_sound hΓ h

theorem eK_ext {P : Program} {Γ : Env} {m : Nat → Option Blk} {ev : Operand → AV} {op : Op} {K : AV → Prop} (hc : calmOp op = true) (h : eK P Γ m ev op K) : ∃ r, K r ∧ ∀ m', Ext m m' → eK P Γ m' ev op (fun x => x = r) := by
  unfold calmOp at hc
  split at hc
  · exact ⟨_, h, fun _ _ => rfl⟩
  · exact ⟨_, h, fun _ _ => rfl⟩
  · rename_i c a b
    simp only [eK, qK] at h ⊢
    split at h
    · rename_i t ht
      refine ⟨_, h, fun _ _ => ?_⟩
      rfl
    · exact h.elim
  · exact loadK_ext h
  · rename_i op t x y z
    simp only [eK, qK] at h ⊢
    split at h
    · rename_i a b ha hb
      obtain ⟨v, hv, hb⟩ := binK_ext h
      refine ⟨.pl v, hv, fun _ _ => ?_⟩
      have e : (plK fun x => x = AV.pl v) = fun z => z = v := by
        funext z
        unfold plK
        simp
      rw [e]
      exact hb
    · exact h.elim
  · exact fieldAddrK_ext h
  · rename_i x i
    simp only [eK, qK] at h ⊢
    split at h
    · rename_i ds hds
      split at h
      · rename_i d hd
        refine ⟨_, h, fun _ _ => ?_⟩
        rfl
      · exact h.elim
    · exact h.elim
  · rename_i op t x
    simp only [eK, qK] at h ⊢
    split at h
    · rename_i a ha
      obtain ⟨v, hv, hu⟩ := unK_ext h
      refine ⟨.pl v, hv, fun _ _ => ?_⟩
      rw [plK_eq]
      exact hu
    · exact h.elim
  · exact sliceK_ext h
  · rename_i t x lo
    simp only [eK, qK] at h ⊢
    split at h
    · exact sliceK_ext h
    · exact h.elim
  · rename_i t x hi
    simp only [eK, qK] at h ⊢
    split at h
    · exact sliceK_ext h
    · exact h.elim
  · rename_i t x lo hi
    simp only [eK, qK] at h ⊢
    split at h
    · exact sliceK_ext h
    · exact h.elim
  · rename_i f args ats
    exact callK_ext h
  · rename_i x t
    simp only [eK, qK] at h ⊢
    split at h
    · obtain ⟨blk, hm, hv, h⟩ := withKey_elim h
      obtain ⟨r, hr, hl⟩ := lenK_ext h
      exact ⟨r, hr, fun m' he => withKey_ext he hm hv hl⟩
    · obtain ⟨r, hr, hl⟩ := lenK_ext h
      exact ⟨r, hr, fun m' he => hl⟩
  · rename_i t len parts
    simp only [eK] at h ⊢
    split at h
    case h_2 => exact h.elim
    rename_i vs hvs
    split at h
    case h_2 => exact h.elim
    rename_i xs hxs
    split at h
    case h_2 => exact h.elim
    exact ⟨_, h.2.2, fun _ _ => ⟨h.1, h.2.1, rfl⟩⟩
  · exact convK_ext h
  · rename_i t x ix
    simp only [eK, qK] at h ⊢
    split at h
    · rename_i v k i hv hi
      obtain ⟨r, hr, hx⟩ := indexK_ext h
      refine ⟨.pl r, hr, fun _ _ => ?_⟩
      rw [plK_eq]
      exact hx
    · exact h.elim
  · rename_i t parts
    simp only [eK, qK] at h ⊢
    split at h
    case h_2 => exact h.elim
    rename_i vs hvs
    split at h
    case h_2 => exact h.elim
    exact ⟨_, h, fun _ _ => rfl⟩
  · cases hc
end Go.Vm

/- A small verified machine over abstract states of frames and worlds, part 3: what operations, regions, texts and functions do. No condition. -/
namespace Go.Vm
open Go Go.RowKit

def IsG (v : AV) (w c : Bool) : Prop := (∃ b, v = .pl (.bool b) ∧ c = (b == w)) ∨ (v = .pl undef ∧ c = false)
def gvS (v : AV) (w : Bool) (K : Bool → Prop) : Prop := ∃ c, IsG v w c ∧ K c
@[congr] theorem gvS_cg {v v' : AV} {w K} (h : v = v') : gvS v w K = gvS v' w K := by rw [h]
theorem gvS_bool (b w : Bool) (K : Bool → Prop) : gvS (.pl (.bool b)) w K = K (b == w) := by
  apply propext
  constructor
  · rintro ⟨c, (⟨b', e, rfl⟩ | ⟨e, _⟩), hk⟩
    · cases e; exact hk
    · cases e
  · intro h; exact ⟨_, .inl ⟨b, rfl, rfl⟩, h⟩
theorem gvS_undef (w : Bool) (K : Bool → Prop) : gvS (.pl undef) w K = K false := by
  apply propext
  constructor
  · rintro ⟨c, (⟨b', e, _⟩ | ⟨_, rfl⟩), hk⟩
    · cases e
    · exact hk
  · intro h; exact ⟨_, .inr ⟨rfl, rfl⟩, h⟩
/-- whether an operation is wanted -/
def guardS (D : List (Option Nat)) (st : St) (g : Nat × Bool) (K : Bool → Prop) : Prop :=
  match (D[g.1]?).getD none with
  | some d => gvS (st.get d) g.2 K
  | none => False

def gS (P : Program) (Γ : Env) (n : Nat) (o : Oper) (K : St → Prop) (st : St) (b : Bool) : Prop :=
  match b with
  | true => gK P Γ n o st K
  | false => putK n o.dst K st (.pl undef)

def qS (P : Program) (Γ : Env) (n : Nat) (o : Oper) (K : St → Prop) (st : St) (b : Bool) : Prop :=
  match b with
  | true => qK P Γ st.mem st.ev o.op (putK n o.dst K st)
  | false => putK n o.dst K st (.pl undef)

def gL (P : Program) (Γ : Env) (n : Nat) (D : List (Option Nat)) : List Oper → (St → Prop) → St → Prop
  | [], K, st => K st
  | o :: rest, K, st => (match o.guard with
    | none => gK P Γ n o st (gL P Γ n D rest K)
    | some g => guardS D st g (gS P Γ n o (gL P Γ n D rest K) st))

def qL (P : Program) (Γ : Env) (n : Nat) (D : List (Option Nat)) : List Oper → (St → Prop) → St → Prop
  | [], K, st => K st
  | o :: rest, K, st => (match o.guard with
    | none => qK P Γ st.mem st.ev o.op (putK n o.dst (qL P Γ n D rest K) st)
    | some g => guardS D st g (qS P Γ n o (qL P Γ n D rest K) st))

theorem guardS_elim {ops : Array Oper} {st : St} {g : Nat × Bool} {K : Bool → Prop} (h : guardS (ops.toList.map (·.dst)) st g K) : ∃ d b, (ops[g.1]?).bind (·.dst) = some d ∧ IsG (st.get d) g.2 b ∧ K b := by
  have e : ((ops.toList.map (·.dst))[g.1]?).getD none = (ops[g.1]?).bind (·.dst) := by
    cases h : ops[g.1]? <;> simp [h]
  unfold guardS at h
  rw [e] at h
  split at h
  · rename_i d hd
    obtain ⟨c, hc, hk⟩ := h
    exact ⟨d, c, hd, hc, hk⟩
  · exact h.elim

theorem wanted_of {n : Nat} {w0 w : World} {ρ : Nat → Option Nat} {T : Nat → AV} {m : Nat → Option Blk} {a : Act} (hr : Rel n w0 ρ T m a w) {ops : Array Oper} {o : Oper} {j : Nat} {want : Bool} (hg : o.guard = some (j, want))
    {d : Nat} (hd : (ops[j]?).bind (·.dst) = some d) {c : Bool} (hb : IsG (T d) want c) : Region.wanted o (yielded ops a.tmps) = c := by
  rcases hb with ⟨b, hb, rfl⟩ | ⟨hb, rfl⟩
  case inr =>
    have h1 := hr.tmps d
    rw [hb] at h1
    have h2 : a.tmps.getD d undef = undef := h1
    simp only [Region.wanted, hg, yielded, hd, Option.bind_some]
    simp only [Array.getD_eq_getD_getElem?] at h2
    cases h4 : a.tmps[d]? with
    | none => rfl
    | some v => rw [h4] at h2; simp at h2; rw [h2]; rfl
  have h1 := hr.tmps d
  rw [hb] at h1
  have h2 : a.tmps.getD d undef = .bool b := h1
  have h3 : a.tmps[d]? = some (.bool b) := by
    simp only [Array.getD_eq_getD_getElem?] at h2
    cases h4 : a.tmps[d]? with
    | none => rw [h4] at h2; simp [undef] at h2
    | some v => rw [h4] at h2; simp at h2; rw [h2]
  simp only [Region.wanted, hg, yielded, hd, Option.bind_some, h3]
  cases b <;> cases want <;> rfl

theorem upon_of_does {P : Program} {o : Oper} {a : Act} {next : Act → World → Prop} {Q : Exit → Act → World → Prop} {R : Value → World → Prop} {r : Result Next} (h : Does P R r)
    (hn : ∀ v w', R v w' → next (a.put o.dst v) w') : o.upon P a next Q r := by
  unfold Does at h
  split at h
  · exact hn _ _ h
  · exact hn _ _ h
  · refine Calls.mono h fun e w ⟨v, he, hv⟩ => ?_
    subst he
    exact hn _ _ hv
  · exact h.elim

theorem gops_sound {P : Program} {Γ : Env} (hΓ : Γ.ok P) {n : Nat} {ops : Array Oper} {w0 : World} {K : St → Prop} {Q : Exit → Act → World → Prop} (hQ : ∀ ρ st a w, K st → Rel n w0 ρ st.get st.mem a w → Q .normal a w) :
    ∀ (l : List Oper) (k : Nat) (st : St) (ρ : Nat → Option Nat) (a : Act) (w : World), (∀ j, l[j]? = ops[k + j]?) → gL P Γ n (ops.toList.map (·.dst)) l K st → Rel n w0 ρ st.get st.mem a w → wpOps P ops Q (List.range' k l.length) a w
  | [], _, st, ρ, a, w, _, h, hr => hQ ρ st a w h hr
  | o :: l, k, st, ρ, a, w, hl, h, hr => by
    have h0 : ops[k]? = some o := by simpa using (hl 0).symm
    have hl' : ∀ j, l[j]? = ops[k + 1 + j]? := fun j => by have := hl (j + 1); simpa [Nat.add_assoc, Nat.add_comm 1 j] using this
    rw [List.length_cons, List.range'_succ, wpOps_cons]
    unfold wpOp
    simp only [h0]
    have hyes : gK P Γ n o st (gL P Γ n (ops.toList.map (·.dst)) l K) → o.wp P a w (wpOps P ops Q (List.range' (k + 1) l.length)) Q := fun hg =>
      upon_of_does (gK_sound hΓ hg hr) fun v w' ⟨ρ', st', hK, hr'⟩ => gops_sound hΓ hQ l (k + 1) st' ρ' _ _ hl' hK hr'
    have hno : putK n o.dst (gL P Γ n (ops.toList.map (·.dst)) l K) st (.pl undef) → wpOps P ops Q (List.range' (k + 1) l.length) (a.put o.dst undef) w := fun hg =>
      gops_sound hΓ hQ l (k + 1) _ ρ _ _ hl' hg.2 (by rw [St.get_put, St.mem_put]; exact hr.put hg.1.out rfl)
    unfold gL at h
    split at h
    · rename_i hg
      have : Region.wanted o (yielded ops a.tmps) = true := by simp [Region.wanted, hg]
      rw [if_pos this]
      exact .inl (hyes h)
    · rename_i g hg
      obtain ⟨j, want⟩ := g
      obtain ⟨d, b, hd, hb, h⟩ := guardS_elim h
      have hw := wanted_of hr hg hd hb
      cases hbw : b with
      | true =>
        simp only [hbw] at h hw
        rw [if_pos hw]
        exact .inl (hyes h)
      | false =>
        simp only [hbw] at h hw
        rw [if_neg (by rw [hw]; simp)]
        exact hno h

theorem region_seq {P : Program} {Γ : Env} (hΓ : Γ.ok P) {n : Nat} {ops : Array Oper} {w0 : World} {K : St → Prop} {Q : Exit → Act → World → Prop} (hQ : ∀ ρ st a w, K st → Rel n w0 ρ st.get st.mem a w → Q .normal a w)
    {id : Nat} {st : St} {ρ : Nat → Option Nat} {a : Act} {w : World} (h : gL P Γ n (ops.toList.map (·.dst)) ops.toList K st) (hr : Rel n w0 ρ st.get st.mem a w) : (Code.region id ops false).wp P Q a w := by
  refine wp_region ?_
  rw [List.range_eq_range']
  have := gops_sound hΓ hQ ops.toList 0 st ρ a w (fun j => by simp) h hr
  simpa using this

/-! ### Orders -/
def wantA (ops : Array Oper) (o : Oper) (T : Nat → AV) (r : Bool) : Prop :=
  match o.guard with
  | none => r = true
  | some (j, want) => match (ops[j]?).bind (·.dst) with
    | some d => IsG (T d) want r
    | none => False

/-- what the operation yields in the state T -/
def Yields1 (P : Program) (m : Nat → Option Blk) (n : Nat) (ops : Array Oper) (o : Oper) (r : AV) (T : Nat → AV) : Prop :=
  dOk o.dst n ∧ ((wantA ops o T true ∧ Quiet P m (evT T) o r) ∨ (wantA ops o T false ∧ r = .pl undef))

theorem wantA_congr {ops : Array Oper} {o : Oper} {T T' : Nat → AV} {r : Bool} (h : ∀ d ∈ o.looksAt ops, T d = T' d) (hw : wantA ops o T r) : wantA ops o T' r := by
  cases hg : o.guard with
  | none => simp only [wantA, hg] at hw ⊢; exact hw
  | some g =>
    obtain ⟨j, want⟩ := g
    cases hd : (ops[j]?).bind (·.dst) with
    | none => simp only [wantA, hg, hd] at hw
    | some d =>
      simp only [wantA, hg, hd] at hw ⊢
      have : T d = T' d := h d (by simp [Oper.looksAt, hg, hd])
      rw [← this]
      exact hw

theorem Yields1.congr {P : Program} {m : Nat → Option Blk} {n : Nat} {ops : Array Oper} {o : Oper} {r : AV} {T T' : Nat → AV} (h : ∀ d ∈ o.looksAt ops, T d = T' d) (hy : Yields1 P m n ops o r T) : Yields1 P m n ops o r T' := by
  refine ⟨hy.1, hy.2.imp (fun ⟨h1, h2⟩ => ⟨wantA_congr h h1, fun base w ρ a hk hx => h2 base w ρ a hk fun x hm => ?_⟩) (fun ⟨h1, h2⟩ => ⟨wantA_congr h h1, h2⟩)⟩
  have e : evT T x = evT T' x := by
    cases x with
    | tmp t =>
      refine h t ?_
      simp only [Oper.looksAt, List.mem_append, List.mem_filterMap]
      exact .inl ⟨.tmp t, by simpa using hm, rfl⟩
    | _ => rfl
  rw [e]
  exact hx x hm

def chain (P : Program) (m : Nat → Option Blk) (n : Nat) (ops : Array Oper) : List Nat → (Nat → AV) → (Nat → AV) → Prop
  | [], T, T' => T = T'
  | i :: l, T, T' => ∃ o r, ops[i]? = some o ∧ Yields1 P m n ops o r T ∧ chain P m n ops l (upd T o.dst r) T'

theorem upd_ne {T : Nat → AV} {d : Option Nat} {v : AV} {j : Nat} (h : d ≠ some j) : upd T d v j = T j := by
  cases d with
  | none => rfl
  | some x => simp only [upd]; rw [if_neg (fun e => h (by rw [e]))]

theorem upd_comm {T : Nat → AV} {d e : Option Nat} {v u : AV} (h : ∀ x, d = some x → e ≠ some x) : upd (upd T d v) e u = upd (upd T e u) d v := by
  cases d with
  | none => rfl
  | some x =>
    cases e with
    | none => rfl
    | some y =>
      have : x ≠ y := fun e => h x rfl (by rw [e])
      funext j
      simp only [upd]
      by_cases e1 : x = j <;> by_cases e2 : y = j <;> simp [e1, e2]
      omega

theorem chain_swap {P : Program} {m : Nat → Option Blk} {n : Nat} {ops : Array Oper} {i j : Nat} {oi oj : Oper} (hi : ops[i]? = some oi) (hj : ops[j]? = some oj) (hap : oi.apart ops oj = true) {l : List Nat} {T T' : Nat → AV}
    (h : chain P m n ops (j :: i :: l) T T') : chain P m n ops (i :: j :: l) T T' := by
  obtain ⟨oj', rj, hj', hyj, oi', ri, hi', hyi, hc⟩ := h
  rw [hj] at hj'; cases hj'
  rw [hi] at hi'; cases hi'
  obtain ⟨h1, h2, h3⟩ := Oper.apart_spec hap
  refine ⟨oi, ri, hi, hyi.congr fun d hd => upd_ne fun e => h3 d e hd, oj, rj, hj, hyj.congr fun d hd => (upd_ne fun e => h1 d e hd).symm, ?_⟩
  rw [upd_comm h2]
  exact hc

theorem chain_front {P : Program} {m : Nat → Option Blk} {n : Nat} {ops : Array Oper} {i : Nat} {oi : Oper} (hi : ops[i]? = some oi) : ∀ {l1 : List Nat} {l2 : List Nat} {T T' : Nat → AV},
    (∀ j ∈ l1, ∃ oj, ops[j]? = some oj ∧ oi.apart ops oj = true) → chain P m n ops (l1 ++ i :: l2) T T' → chain P m n ops (i :: (l1 ++ l2)) T T'
  | [], _, _, _, _, h => h
  | j :: l1, l2, T, T', hj, h => by
    obtain ⟨oj, hoj, hap⟩ := hj j (by simp)
    refine chain_swap hi hoj hap ?_
    obtain ⟨oj', r, ho, hy, hc⟩ := h
    exact ⟨oj', r, ho, hy, chain_front hi (fun k hk => hj k (by simp [hk])) hc⟩

theorem qops_chain {P : Program} {Γ : Env} (hΓ : Γ.ok P) {n : Nat} {ops : Array Oper} {K : St → Prop} :
    ∀ (l : List Oper) (k : Nat) (st : St), (∀ j o, l[j]? = some o → ops[k + j]? = some o) → qL P Γ n (ops.toList.map (·.dst)) l K st → ∃ st', K st' ∧ st'.mem = st.mem ∧ chain P st.mem n ops (List.range' k l.length) st.get st'.get
  | [], _, st, _, h => ⟨st, h, rfl, rfl⟩
  | o :: l, k, st, hl, h => by
    have h0 : ops[k]? = some o := by simpa using hl 0 o rfl
    have hl' : ∀ j o, l[j]? = some o → ops[k + 1 + j]? = some o := fun j o ho => by have := hl (j + 1) o (by simpa using ho); simpa [Nat.add_assoc, Nat.add_comm 1 j] using this
    have key : ∀ r, Yields1 P st.mem n ops o r st.get → qL P Γ n (ops.toList.map (·.dst)) l K (st.put o.dst r) → ∃ st', K st' ∧ st'.mem = st.mem ∧ chain P st.mem n ops (List.range' k (o :: l).length) st.get st'.get := fun r hy hq => by
      obtain ⟨st', hK, hm, hc⟩ := qops_chain hΓ l (k + 1) _ hl' hq
      rw [St.mem_put] at hm hc
      rw [St.get_put] at hc
      refine ⟨st', hK, hm, ?_⟩
      rw [List.length_cons, List.range'_succ]
      exact ⟨o, r, h0, hy, hc⟩
    unfold qL at h
    split at h
    · rename_i hg
      obtain ⟨r, ⟨hd, hq⟩, hqu⟩ := qK_sound hΓ h
      exact key r ⟨hd, .inl ⟨by simp [wantA, hg], hqu⟩⟩ hq
    · rename_i g hg
      obtain ⟨j, want⟩ := g
      obtain ⟨d, b, hd, hb, h⟩ := guardS_elim h
      cases hbw : b with
      | true =>
        simp only [hbw] at h
        obtain ⟨r, ⟨hdn, hq⟩, hqu⟩ := qK_sound hΓ h
        exact key r ⟨hdn, .inl ⟨by simp only [wantA, hg, hd]; exact hbw ▸ hb, hqu⟩⟩ hq
      | false =>
        simp only [hbw] at h
        obtain ⟨hdn, hq⟩ := h
        exact key _ ⟨hdn, .inr ⟨by simp only [wantA, hg, hd]; exact hbw ▸ hb, rfl⟩⟩ hq

def indB (ops : Array Oper) (p : Nat) : Bool :=
  (List.range p).all fun i => (List.range i).all fun j => Region.waitsFor .any ops i j ||
    (match ops[i]?, ops[j]? with
    | some oi, some oj => oi.apart ops oj
    | _, _ => false)

def backB (ops : Array Oper) : Bool :=
  (List.range ops.size).all fun i => match ops[i]? with
    | some o => o.after.all fun e => !Region.binds .any e || decide (e.on < i)
    | none => false

/-- an operation that takes a part of a result: it looks at no memory -/
def sameOp (mv : Bool) : Op → Bool
  | .extract _ _ => true
  | .move _ => mv
  | _ => false
def eagB (mv : Bool) (ops : Array Oper) (i : Nat) : Bool :=
  match ops[i]? with
  | some o => sameOp mv o.op
  | none => false

/-- such a one is apart from all others but those that wait for it or for which it waits; those come ahead of the tail -/
def eagsB (mv : Bool) (ops : Array Oper) (p : Nat) : Bool :=
  (List.range p).all fun i => !eagB mv ops i ||
    ((List.range ops.size).all (fun j => j == i || Region.waitsFor .any ops j i || Region.waitsFor .any ops i j ||
      (match ops[i]?, ops[j]? with
      | some oi, some oj => oi.apart ops oj
      | _, _ => false)) &&
     (List.range i).all (fun j => !Region.waitsFor .any ops i j || !eagB mv ops j))

/-- every other one of the first p has one behind it, up to p, that waits for it -/
def sinkE (mv : Bool) (ops : Array Oper) (p : Nat) : Bool :=
  (List.range p).all fun i => eagB mv ops i || (List.range (p + 1)).any fun j => decide (i < j) && !eagB mv ops j && Region.waitsFor .any ops j i

def noSelB (ops : Array Oper) : Bool := Region.noSelect ops

/-- the first p operations may come in any order; the rest come behind them, one behind the other -/
def regB (mv : Bool) (ops : Array Oper) (p : Nat) : Bool :=
  decide (p ≤ ops.size) && indB ops p && backB ops && eagsB mv ops p && noSelB ops && (p == ops.size || (sinkE mv ops p && Region.chainB .any ops p))

theorem backB_spec {ops : Array Oper} (h : backB ops = true) {i : Nat} {o : Oper} (hi : ops[i]? = some o) : ∀ e ∈ o.after, Region.binds .any e = true → e.on < i := by
  intro e he hb
  have hlt := (Array.getElem?_eq_some_iff.1 hi).1
  have h1 := List.all_eq_true.1 h i (List.mem_range.2 hlt)
  simp only [hi] at h1
  have h2 := Array.all_eq_true'.1 h1 e he
  simpa [hb] using h2

theorem tail_any {P : Program} {ops : Array Oper} {Q : Exit → Act → World → Prop} (hback : backB ops = true) {p : Nat} (hchain : p < ops.size → Region.chainB .any ops p = true) :
    ∀ (fuel k : Nat) (listed : Array Bool) (a : Act) (w : World), p ≤ k → fuel + k = ops.size → listed.size = ops.size → (∀ i, i < ops.size → (listed.getD i true = false ↔ k ≤ i)) →
      wpOps P ops Q (List.range' k fuel) a w → wpAny P .any ops Q fuel listed a w
  | 0, k, listed, a, w, hp, hk, hs, hl, h => by
    refine ⟨?_, h⟩
    apply List.eq_nil_iff_forall_not_mem.2
    intro i hi
    obtain ⟨h1, o, ho, _⟩ := mem_ready.1 hi
    have hlt := (Array.getElem?_eq_some_iff.1 ho).1
    have := (hl i hlt).1 h1
    omega
  | fuel + 1, k, listed, a, w, hp, hk, hs, hl, h => by
    have hklt : k < ops.size := by omega
    have hkr : k ∈ Region.ready .any ops listed := by
      refine mem_ready.2 ⟨(hl k hklt).2 (Nat.le_refl _), ops[k], by simp [hklt], fun e he hb => ?_⟩
      have := backB_spec hback (i := k) (o := ops[k]) (by simp [hklt]) e he hb
      have h3 : ¬ (listed.getD e.on true = false) := fun h4 => by have := (hl e.on (by omega)).1 h4; omega
      have h4 : e.on < listed.size := by omega
      simp [h4] at h3 ⊢
      exact h3
    refine ⟨fun e => (by rw [e] at hkr; cases hkr), fun i hi => ?_⟩
    obtain ⟨h1, o, ho, hall⟩ := mem_ready.1 hi
    have hlt := (Array.getElem?_eq_some_iff.1 ho).1
    have hki := (hl i hlt).1 h1
    have hik : i = k := by
      by_cases e : i = k
      · exact e
      · have hc := List.all_eq_true.1 (hchain (by omega)) i (List.mem_range.2 hlt)
        have : ¬ (i ≤ p) := by omega
        simp only [this, decide_false, Bool.false_or] at hc
        obtain ⟨o', ho', e', he', hb', hon⟩ := Region.waitsFor_spec hc
        rw [ho] at ho'; cases ho'
        have h5 := hall e' he' hb'
        have h6 := (hl (i - 1) (by omega)).2 (by omega)
        rw [hon] at h5
        have h7 : i - 1 < listed.size := by omega
        simp [h7] at h5 h6
        rw [h6] at h5; cases h5
    subst hik
    rw [List.range'_succ, wpOps_cons] at h
    refine wpOp_mono (fun a w h => ?_) h
    refine tail_any hback hchain fuel (i + 1) _ a w (by omega) (by omega) (by simp [hs]) (fun j hj => ?_) h
    by_cases e : i = j
    · subst e
      simp [hs, hlt]
    · rw [getD_set_ne true e, hl j hj]
      omega

theorem does_wpOp {P : Program} {ops : Array Oper} {Q : Exit → Act → World → Prop} {n : Nat} {w0 w : World} {ρ : Nat → Option Nat} {T : Nat → AV} {m : Nat → Option Blk} {a : Act} (hr : Rel n w0 ρ T m a w) {i : Nat} {o : Oper} (hi : ops[i]? = some o)
    {r : AV} (hy : Yields1 P m n ops o r T) {next : Act → World → Prop} (hn : ∀ a' w', Rel n w0 ρ (upd T o.dst r) m a' w' → next a' w') : wpOp P ops Q i next a w := by
  unfold wpOp
  simp only [hi]
  have hwant : ∀ b, wantA ops o T b → Region.wanted o (yielded ops a.tmps) = b := fun b hb => by
    unfold wantA at hb
    split at hb
    · rename_i hg; simp [Region.wanted, hg, hb]
    · rename_i j want hg
      split at hb
      · rename_i d hd
        exact wanted_of hr hg hd hb
      · exact hb.elim
  rcases hy.2 with ⟨hw, hq⟩ | ⟨hw, rfl⟩
  · rw [if_pos (hwant true hw)]
    exact .inl (upon_of_does (hq w0.heap.size w ρ a hr.keys (fun x _ => hr.eval x)) fun v w' ⟨h1, h2⟩ => hn _ _ ((hr.ext h2).put hy.1.out h1))
  · rw [if_neg (by rw [hwant false hw]; simp)]
    exact hn _ _ (hr.put hy.1.out rfl)

theorem extract_same {P : Program} {o : Oper} {x : Operand} {ix : Nat} (ho : o.op = .extract x ix) {a : Act} {w : World} {R : Value → World → Prop} (h : Does P R ((execOp a.eval o).run P w)) :
    ∃ v, (∀ w', (execOp a.eval o).run P w' = .ok (.value v) w') ∧ R v w := by
  have e : execOp a.eval o = (do pure (.value (← Instr.extract (a.eval x) ix))) := by simp only [execOp, ho]
  rw [e] at h ⊢
  cases hv : a.eval x with
  | tuple vs =>
    cases hg : vs[ix]? with
    | some v =>
      have hrun : ∀ w', (do pure (.value (← Instr.extract (.tuple vs) ix)) : Sem Next).run P w' = .ok (.value v) w' := fun w' => by simp [Instr.extract, hg]
      rw [hv, hrun w] at h
      exact ⟨v, hrun, h⟩
    | none =>
      have hrun : (do pure (.value (← Instr.extract (.tuple vs) ix)) : Sem Next).run P w = .halt (.stuck "Extract: no such component") w := by simp [Instr.extract, hg]
      rw [hv, hrun] at h
      exact h.elim
  | _ =>
    rw [hv] at h
    simp [Instr.extract, Does] at h

theorem same_run {P : Program} {mv : Bool} {o : Oper} (ho : sameOp mv o.op = true) {a : Act} {w : World} {R : Value → World → Prop} (h : Does P R ((execOp a.eval o).run P w)) :
    ∃ v, (∀ w', (execOp a.eval o).run P w' = .ok (.value v) w') ∧ R v w := by
  cases hop : o.op with
  | extract x ix => exact extract_same hop h
  | move x =>
    have e : ∀ w', (execOp a.eval o).run P w' = .ok (.value (a.eval x)) w' := fun w' => by simp [execOp, hop]
    rw [e w] at h
    exact ⟨a.eval x, e, h⟩
  | _ => rw [hop] at ho; cases ho

theorem tail_waitsE {mv : Bool} {ops : Array Oper} {p : Nat} {listed : Array Bool} (hs : sinkE mv ops p = true) (hinv : HeadInv .any ops p listed) {o : Oper} (hp : ops[p]? = some o) (hr : p ∈ Region.ready .any ops listed) :
    ∀ (d i : Nat), p - i = d → i < p → eagB mv ops i = false → listed.getD i true = false → False := by
  intro d
  induction d using Nat.strongRecOn with
  | _ d ih =>
    intro i hd hi he hun
    have h1 := List.all_eq_true.1 hs i (List.mem_range.2 hi)
    rw [he, Bool.false_or] at h1
    obtain ⟨j, hj, hj2⟩ := List.any_eq_true.1 h1
    simp only [Bool.and_eq_true, decide_eq_true_eq, Bool.not_eq_true'] at hj2
    obtain ⟨⟨hij, hje⟩, hw⟩ := hj2
    obtain ⟨oj, hoj, e, hea, hb, hon⟩ := Region.waitsFor_spec hw
    have hjp := List.mem_range.1 hj
    have hcl : listed.getD i false = true := by
      by_cases ejp : j = p
      · subst ejp
        obtain ⟨_, o', ho', hall⟩ := mem_ready.1 hr
        rw [hoj] at ho'; cases ho'
        rw [← hon]
        exact hall e hea hb
      · have hjl : ¬ (listed.getD j true = false) := fun h => ih (p - j) (by omega) j rfl (by omega) hje h
        have hjs : j < listed.size := by have := (Array.getElem?_eq_some_iff.1 hoj).1; rw [hinv.size]; exact this
        rw [← hon]
        refine hinv.closed j oj hoj ?_ e hea hb
        simp [hjs] at hjl ⊢
        exact hjl
    have his : i < listed.size := by have := (Array.getElem?_eq_some_iff.1 hoj).1; rw [hinv.size]; omega
    simp [his] at hun hcl
    rw [hun] at hcl
    cases hcl

theorem drawn_any {P : Program} {mv : Bool} {n : Nat} {ops : Array Oper} {Q : Exit → Act → World → Prop} {w0 : World} {m : Nat → Option Blk} {T' : Nat → AV} {p : Nat} (hp : p ≤ ops.size) (hind : indB ops p = true) (hback : backB ops = true)
    (heag : eagsB mv ops p = true) (hsel : noSelB ops = true) (hP : ∀ c a a' w, Q (.panic c) a w → Q (.panic c) a' w)
    (hsink : p < ops.size → sinkE mv ops p = true) (hchain : p < ops.size → Region.chainB .any ops p = true)
    (htail : ∀ ρ a w, Rel n w0 ρ T' m a w → wpOps P ops Q (List.range' p (ops.size - p)) a w) :
    ∀ (R : List Nat) (listed : Array Bool) (T : Nat → AV) (ρ : Nat → Option Nat) (a : Act) (w : World), R.Pairwise (· < ·) → (∀ i, i ∈ R ↔ i < p ∧ listed.getD i true = false) → HeadInv .any ops p listed →
      chain P m n ops R T T' → Rel n w0 ρ T m a w → wpAny P .any ops Q (R.length + (ops.size - p)) listed a w := by
  intro R
  generalize hlen : R.length = len
  induction len generalizing R with
  | zero =>
    intro listed T ρ a w hsort hR hinv hch hr
    have : R = [] := List.eq_nil_of_length_eq_zero hlen
    subst this
    obtain rfl : T = T' := hch
    rw [Nat.zero_add]
    refine tail_any hback hchain (ops.size - p) p listed a w (Nat.le_refl _) (by omega) hinv.size (fun i hi => ⟨fun h => ?_, fun h => hinv.tail i h hi⟩) (htail ρ a w hr)
    by_cases e : p ≤ i
    · exact e
    · exact absurd ((hR i).2 ⟨by omega, h⟩) (by simp)
  | succ len ih =>
    intro listed T ρ a w hsort hR hinv hch hr
    have hne : R ≠ [] := fun e => by rw [e] at hlen; cases hlen
    have e1 : len + 1 + (ops.size - p) = (len + (ops.size - p)) + 1 := by omega
    rw [e1]
    -- the first one is ready
    have hfirst : ∀ i0 R0, R = i0 :: R0 → i0 ∈ Region.ready .any ops listed := fun i0 R0 hR0 => by
      subst hR0
      have h0 := (hR i0).1 (by simp)
      have hlt : i0 < ops.size := by omega
      refine mem_ready.2 ⟨h0.2, ops[i0], by simp [hlt], fun e he hb => ?_⟩
      have hon := backB_spec hback (i := i0) (o := ops[i0]) (by simp [hlt]) e he hb
      have h3 : ¬ (listed.getD e.on true = false) := fun h4 => by
        have h5 := (hR e.on).2 ⟨by omega, h4⟩
        simp only [List.mem_cons] at h5
        rcases h5 with h5 | h5
        · omega
        · have := List.rel_of_pairwise_cons hsort h5; omega
      have h4 : e.on < listed.size := by rw [hinv.size]; omega
      simp [h4] at h3 ⊢
      exact h3
    -- one that is ready and of the first p: it is apart from all ahead of it
    have hsplit : ∀ i, i ∈ Region.ready .any ops listed → i < p → ∃ oi l1 l2 r, ops[i]? = some oi ∧ R = l1 ++ i :: l2 ∧ Yields1 P m n ops oi r T ∧ chain P m n ops (l1 ++ l2) (upd T oi.dst r) T' := fun i hi hip => by
      obtain ⟨hun, oi, hoi, hall⟩ := mem_ready.1 hi
      obtain ⟨l1, l2, hRe⟩ := List.append_of_mem ((hR i).2 ⟨hip, hun⟩)
      have hap : ∀ j ∈ l1, ∃ oj, ops[j]? = some oj ∧ oi.apart ops oj = true := fun j hj => by
        have hjR := (hR j).1 (by rw [hRe]; simp [hj])
        have hji : j < i := by
          rw [hRe] at hsort
          have := List.pairwise_append.1 hsort
          exact this.2.2 j hj i (by simp)
        have h1 := List.all_eq_true.1 (List.all_eq_true.1 hind i (List.mem_range.2 hip)) j (List.mem_range.2 hji)
        have hjlt : j < ops.size := by omega
        refine ⟨ops[j], by simp [hjlt], ?_⟩
        rw [Bool.or_eq_true] at h1
        rcases h1 with h2 | h2
        · exfalso
          obtain ⟨o', ho', e', he', hb', hon⟩ := Region.waitsFor_spec h2
          rw [hoi] at ho'; cases ho'
          have h5 := hall e' he' hb'
          rw [hon] at h5
          have h6 := hjR.2
          have h7 : j < listed.size := by rw [hinv.size]; omega
          simp [h7] at h5 h6
          rw [h6] at h5; cases h5
        · simpa [hoi, hjlt] using h2
      rw [hRe] at hch
      obtain ⟨o', r, ho', hy, hc⟩ := chain_front hoi hap hch
      rw [hoi] at ho'; cases ho'
      exact ⟨oi, l1, l2, r, hoi, hRe, hy, hc⟩
    -- what is left behind it
    have hnext : ∀ i l1 l2, R = l1 ++ i :: l2 → i < ops.size → (l1 ++ l2).length = len ∧ (l1 ++ l2).Pairwise (· < ·) ∧ (∀ j, j ∈ l1 ++ l2 ↔ j < p ∧ (listed.setIfInBounds i true).getD j true = false) := fun i l1 l2 hRe hilt => by
      subst hRe
      have hs := List.pairwise_append.1 hsort
      refine ⟨by simp at hlen ⊢; omega, List.pairwise_append.2 ⟨hs.1, (List.pairwise_cons.1 hs.2.1).2, fun x hx y hy => hs.2.2 x hx y (by simp [hy])⟩, fun j => ?_⟩
      by_cases e : i = j
      · subst e
        have h8 : i < listed.size := by rw [hinv.size]; exact hilt
        constructor
        · intro h9
          exfalso
          rcases List.mem_append.1 h9 with h10 | h10
          · have := hs.2.2 i h10 i (by simp); omega
          · have := (List.pairwise_cons.1 hs.2.1).1 i h10; omega
        · intro h9
          simp [h8] at h9
      · rw [getD_set_ne true e]
        have e' : ¬ j = i := fun h => e h.symm
        rw [← hR j]
        simp [e']
    by_cases hS : ∃ s, s < p ∧ eagB mv ops s = true ∧ s ∈ Region.ready .any ops listed
    · obtain ⟨s, hsp, hse, hsr⟩ := hS
      obtain ⟨os, l1, l2, r, hos, hRe, hy, hc⟩ := hsplit s hsr hsp
      have hslt := (Array.getElem?_eq_some_iff.1 hos).1
      obtain ⟨hn1, hn2, hn3⟩ := hnext s l1 l2 hRe hslt
      obtain ⟨hsun, os', hos', hall⟩ := mem_ready.1 hsr
      rw [hos] at hos'; cases hos'
      have hop : sameOp mv os.op = true := by simpa only [eagB, hos] using hse
      have hwant : ∀ b, wantA ops os T b → Region.wanted os (yielded ops a.tmps) = b := fun b hb => by
        unfold wantA at hb
        split at hb
        · rename_i hg; simp [Region.wanted, hg, hb]
        · rename_i j want hg
          split at hb
          · rename_i d hd
            exact wanted_of hr hg hd hb
          · exact hb.elim
      have hyc : ∃ v, Yields P ops os v a ∧ RelV w0.heap.size w ρ m v r := by
        rcases hy.2 with ⟨hw, hq⟩ | ⟨hw, rfl⟩
        · obtain ⟨v, hv, hrel⟩ := same_run hop (hq w0.heap.size w ρ a hr.keys (fun x _ => hr.eval x))
          exact ⟨v, .inl ⟨hwant true hw, hv⟩, hrel.1⟩
        · exact ⟨undef, .inr ⟨hwant false hw, rfl⟩, rfl⟩
      obtain ⟨v, hyv, hrel⟩ := hyc
      have hE := List.all_eq_true.1 heag s (List.mem_range.2 hsp)
      rw [hse] at hE
      simp only [Bool.not_true, Bool.false_or, Bool.and_eq_true] at hE
      refine wpAny_first hos (Region.noSelect_spec hsel) (fun c a w h => hP _ _ _ _ h) _ listed a w (fun j oj hoj hji hun hno => ?_) hsr hyv ?_
      · have h1 := List.all_eq_true.1 hE.1 j (List.mem_range.2 (Array.getElem?_eq_some_iff.1 hoj).1)
        simp only [Bool.or_eq_true, beq_iff_eq, hji, false_or, hos, hoj] at h1
        rcases h1 with (h1 | h1) | h1
        · exfalso
          obtain ⟨o', ho', e', he', hb', hon⟩ := Region.waitsFor_spec h1
          rw [hoj] at ho'; cases ho'
          exact hno e' he' hb' hon
        · exfalso
          obtain ⟨o', ho', e', he', hb', hon⟩ := Region.waitsFor_spec h1
          rw [hos] at ho'; cases ho'
          have h5 := hall e' he' hb'
          rw [hon] at h5
          have h7 : j < listed.size := by rw [hinv.size]; exact (Array.getElem?_eq_some_iff.1 hoj).1
          simp [h7] at h5 hun
          rw [hun] at h5; cases h5
        · exact h1
      · exact ih (l1 ++ l2) hn1 (listed.setIfInBounds s true) _ ρ _ w hn2 hn3 (hinv.set hsr hsp) hc (hr.put hy.1.out hrel)
    · refine ⟨fun e => ?_, fun i hi => ?_⟩
      · exfalso
        cases R with
        | nil => exact hne rfl
        | cons i0 R0 =>
          have := hfirst i0 R0 rfl
          rw [e] at this
          cases this
      · obtain ⟨hun, oi, hoi, hall⟩ := mem_ready.1 hi
        have hilt := (Array.getElem?_eq_some_iff.1 hoi).1
        have hip : i < p := by
          by_cases e : i < p
          · exact e
          · exfalso
            have hpl : p < ops.size := by omega
            have hip : i = p := by
              by_cases e2 : i = p
              · exact e2
              · have hc := List.all_eq_true.1 (hchain hpl) i (List.mem_range.2 hilt)
                have : ¬ (i ≤ p) := by omega
                simp only [this, decide_false, Bool.false_or] at hc
                obtain ⟨o', ho', e', he', hb', hon⟩ := Region.waitsFor_spec hc
                rw [hoi] at ho'; cases ho'
                have h5 := hall e' he' hb'
                have h6 := hinv.tail (i - 1) (by omega) (by omega)
                rw [hon] at h5
                have h7 : i - 1 < listed.size := by rw [hinv.size]; omega
                simp [h7] at h5 h6
                rw [h6] at h5; cases h5
            subst hip
            have hpw : ∀ j, j < i → eagB mv ops j = false → ¬ (listed.getD j true = false) := fun j hj he h => tail_waitsE (hsink hpl) hinv hoi hi (i - j) j rfl hj he h
            -- the least that is left is one that takes a part; all for which it waits are listed
            obtain ⟨i0, hi0⟩ := List.exists_mem_of_ne_nil R hne
            have h0 := (hR i0).1 hi0
            have he0 : eagB mv ops i0 = true := by
              cases he : eagB mv ops i0 with
              | true => rfl
              | false => exact absurd h0.2 (hpw i0 h0.1 he)
            refine hS ⟨i0, h0.1, he0, ?_⟩
            have hlt : i0 < ops.size := by omega
            refine mem_ready.2 ⟨h0.2, ops[i0], by simp [hlt], fun e he hb => ?_⟩
            have hon := backB_spec hback (i := i0) (o := ops[i0]) (by simp [hlt]) e he hb
            have hE := List.all_eq_true.1 heag i0 (List.mem_range.2 h0.1)
            rw [he0] at hE
            simp only [Bool.not_true, Bool.false_or, Bool.and_eq_true] at hE
            have h2 := List.all_eq_true.1 hE.2 e.on (List.mem_range.2 hon)
            have hw : Region.waitsFor .any ops i0 e.on = true := by
              unfold Region.waitsFor
              simp only [hlt, getElem?_pos]
              exact Array.any_eq_true'.2 ⟨e, he, by simp [hb]⟩
            rw [hw] at h2
            simp only [Bool.not_true, Bool.false_or, Bool.not_eq_true'] at h2
            have h3 := hpw e.on (by omega) h2
            have h4 : e.on < listed.size := by rw [hinv.size]; omega
            simp [h4] at h3 ⊢
            exact h3
        obtain ⟨oi', l1, l2, r, hoi', hRe, hy, hc⟩ := hsplit i hi hip
        rw [hoi] at hoi'; cases hoi'
        obtain ⟨hn1, hn2, hn3⟩ := hnext i l1 l2 hRe hilt
        exact does_wpOp hr hoi hy fun a' w' hr' => ih (l1 ++ l2) hn1 (listed.setIfInBounds i true) _ ρ a' w' hn2 hn3 (hinv.set hi hip) hc hr'

theorem region_drawn {P : Program} {mv : Bool} {Γ : Env} (hΓ : Γ.ok P) (hm : P.follows .mixedOrders = true) {n : Nat} {ops : Array Oper} (p : Nat) (hB : regB mv ops p = true) {w0 : World} {K : St → Prop} {Q : Exit → Act → World → Prop}
    (hQ : ∀ ρ st a w, K st → Rel n w0 ρ st.get st.mem a w → Q .normal a w) (hP : ∀ c a a' w, Q (.panic c) a w → Q (.panic c) a' w) {id : Nat} {st : St} {ρ : Nat → Option Nat} {a : Act} {w : World}
    (h : qL P Γ n (ops.toList.map (·.dst)) (ops.toList.take p) (gL P Γ n (ops.toList.map (·.dst)) (ops.toList.drop p) K) st) (hr : Rel n w0 ρ st.get st.mem a w) : (Code.region id ops true).wp P Q a w := by
  simp only [regB, Bool.and_eq_true, decide_eq_true_eq, Bool.or_eq_true, beq_iff_eq] at hB
  obtain ⟨⟨⟨⟨⟨hp, hind⟩, hback⟩, heag⟩, hsel⟩, htl⟩ := hB
  have htl' : p < ops.size → sinkE mv ops p = true ∧ Region.chainB .any ops p = true := fun hlt => htl.resolve_left (by omega)
  refine wp_region_any hm ?_
  obtain ⟨st', hK, hmem, hch⟩ := qops_chain hΓ _ 0 st (fun j o ho => by
    rw [List.getElem?_take] at ho
    split at ho
    · simpa using ho
    · cases ho) h
  have hl : (ops.toList.take p).length = p := by simp [hp]
  rw [hl] at hch
  have hr' : Rel n w0 ρ st.get st.mem a { w with drawn := w.drawn + 1 } := hr.ext (Below.drew (Below.refl _ _))
  have := drawn_any (P := P) (Q := Q) (w0 := w0) hp hind hback heag hsel hP (fun h => (htl' h).1) (fun h => (htl' h).2) (T' := st'.get) (m := st.mem) (fun ρ a w hr2 => by
      rw [← hmem] at hr2
      have hg := gops_sound hΓ hQ (ops.toList.drop p) p st' ρ a w (fun j => by simp) hK hr2
      simpa using hg)
    (List.range' 0 p) (Array.replicate ops.size false) st.get ρ a _ (by simpa [List.range_eq_range'] using List.pairwise_lt_range (n := p)) (fun i => by
      simp only [List.mem_range'_1]
      constructor
      · intro h1
        have : i < ops.size := by omega
        exact ⟨by omega, by simp [this]⟩
      · intro h1; omega) ⟨by simp, fun j oj _ hlj => (by
        exfalso
        rw [getD_replicate_false] at hlj
        cases hlj), fun t ht ht' => (by simp [ht'])⟩ hch hr'
  rw [List.length_range'] at this
  have e : p + (ops.size - p) = ops.size := by omega
  rw [e] at this
  exact this

/-! ### Regions with new variables: quiet operations, new variables and stores into these -/
def isAlc : Op → Bool
  | .alloc _ => true
  | _ => false
def isSto : Op → Bool
  | .store .. => true
  | _ => false

/-- what one operation of such a region does, from the memory m, in which no new variable is; M: which new variables there are -/
def StepC (P : Program) (m : Nat → Option Blk) (n : Nat) (ops : Array Oper) (o : Oper) (r : AV) (M M' : Nat → Option Blk) (T : Nat → AV) : Prop :=
  (isAlc o.op = false ∧ isSto o.op = false ∧ (∀ m', Ext m m' → Yields1 P m' n ops o r T) ∧ M' = M) ∨
  (∃ d t z, o.op = .alloc t ∧ o.guard = none ∧ o.dst = some d ∧ d < n ∧ (P.info? t).bind (·.zero) = some z ∧ m d = none ∧ M d = none ∧ r = .ptr d 0 0 ∧ M' = fun j => if d = j then some ⟨0, t, z.cells.toList⟩ else M j) ∨
  (∃ t x y k off v blk, o.op = .store t x y ∧ o.guard = none ∧ o.dst = none ∧ evT T x = .ptr k blk.ver off ∧ evT T y = .pl v ∧ m k = none ∧ M k = some blk ∧ szOf P t = some v.cells.size ∧ off + v.cells.size ≤ blk.cells.length ∧ v.cells.toList.all Value.oneCell' = true ∧
    r = .any ∧ M' = fun j => if k = j then some ⟨blk.ver, blk.elem, wrL blk.cells off v.cells.toList⟩ else M j)

def chainC (P : Program) (m : Nat → Option Blk) (n : Nat) (ops : Array Oper) : List Nat → (Nat → AV) → (Nat → Option Blk) → (Nat → AV) → (Nat → Option Blk) → Prop
  | [], T, M, T', M' => T = T' ∧ M = M'
  | i :: l, T, M, T', M' => ∃ o r M1, ops[i]? = some o ∧ StepC P m n ops o r M M1 T ∧ chainC P m n ops l (upd T o.dst r) M1 T' M'

theorem evT_upd {ops : Array Oper} {oi oj : Oper} (h3 : ∀ d, oj.dst = some d → d ∉ oi.looksAt ops) {T : Nat → AV} {r : AV} {x : Operand} (hx : x ∈ oi.op.operands) : evT (upd T oj.dst r) x = evT T x := by
  cases x with
  | tmp t =>
    refine upd_ne fun e => h3 t e ?_
    simp only [Oper.looksAt, List.mem_append, List.mem_filterMap]
    exact .inl ⟨.tmp t, by simpa using hx, rfl⟩
  | _ => rfl

/-- which operations may change places -/
def freeB (oi oj : Oper) : Bool := (!isAlc oi.op && !isSto oi.op) || (!isAlc oj.op && !isSto oj.op) || (isAlc oi.op && isAlc oj.op)

theorem chainC_swap {P : Program} {m : Nat → Option Blk} {n : Nat} {ops : Array Oper} {i j : Nat} {oi oj : Oper} (hi : ops[i]? = some oi) (hj : ops[j]? = some oj) (hap : oi.apart ops oj = true) (hfr : freeB oi oj = true) {l : List Nat} {T T' : Nat → AV} {M M' : Nat → Option Blk}
    (h : chainC P m n ops (j :: i :: l) T M T' M') : chainC P m n ops (i :: j :: l) T M T' M' := by
  obtain ⟨oj', rj, Mj, hj', hyj, oi', ri, Mi, hi', hyi, hc⟩ := h
  rw [hj] at hj'; cases hj'
  rw [hi] at hi'; cases hi'
  obtain ⟨h1, h2, h3⟩ := Oper.apart_spec hap
  have h3' : ∀ d, oj.dst = some d → d ∉ oi.looksAt ops := fun d e he => h3 d e he
  have h1' : ∀ d, oi.dst = some d → d ∉ oj.looksAt ops := fun d e he => h1 d e he
  have hcom : upd (upd T oj.dst rj) oi.dst ri = upd (upd T oi.dst ri) oj.dst rj := (upd_comm h2).symm
  have quietI : ∀ {r : AV}, (∀ m', Ext m m' → Yields1 P m' n ops oi r (upd T oj.dst rj)) → ∀ m', Ext m m' → Yields1 P m' n ops oi r T := fun h m' he => (h m' he).congr fun d hd => upd_ne fun e => h3 d e hd
  have quietJ : ∀ {r : AV} {ri : AV}, (∀ m', Ext m m' → Yields1 P m' n ops oj r T) → ∀ m', Ext m m' → Yields1 P m' n ops oj r (upd T oi.dst ri) := fun h m' he => (h m' he).congr fun d hd => (upd_ne fun e => h1 d e hd).symm
  have aI : ∀ {b}, isAlc oi.op = b → isAlc oi.op = b := fun h => h
  rcases hyi with ⟨ai, si, yi, rfl⟩ | ⟨d, t, z, opi, gi, di, ltn, hz, md, Md, rfl, rfl⟩ | ⟨t, x, y, k, off, v, blk, opi, gi, di, ex, ey, mk, Mk, hsz, hof, hall, rfl, rfl⟩
  · -- i is quiet
    rcases hyj with ⟨aj, sj, yj, rfl⟩ | ⟨d', t', z', opj, gj, dj, ltn', hz', md', Md', rfl, rfl⟩ | ⟨t', x', y', k', off', v', blk', opj, gj, dj, ex', ey', mk', Mk', hsz', hof', hall', rfl, rfl⟩
    · exact ⟨oi, ri, _, hi, .inl ⟨ai, si, quietI yi, rfl⟩, oj, rj, _, hj, .inl ⟨aj, sj, quietJ yj, rfl⟩, hcom ▸ hc⟩
    · exact ⟨oi, ri, _, hi, .inl ⟨ai, si, quietI yi, rfl⟩, oj, _, _, hj, .inr (.inl ⟨d', t', z', opj, gj, dj, ltn', hz', md', Md', rfl, rfl⟩), hcom ▸ hc⟩
    · refine ⟨oi, ri, _, hi, .inl ⟨ai, si, quietI yi, rfl⟩, oj, _, _, hj, .inr (.inr ⟨t', x', y', k', off', v', blk', opj, gj, dj, ?_, ?_, mk', Mk', hsz', hof', hall', rfl, rfl⟩), hcom ▸ hc⟩
      · rw [evT_upd (ops := ops) h1' (by rw [opj]; simp [Op.operands])]; exact ex'
      · rw [evT_upd (ops := ops) h1' (by rw [opj]; simp [Op.operands])]; exact ey'
  · -- i is a new variable
    rcases hyj with ⟨aj, sj, yj, rfl⟩ | ⟨d', t', z', opj, gj, dj, ltn', hz', md', Md', rfl, rfl⟩ | ⟨t', x', y', k', off', v', blk', opj, gj, dj, ex', ey', mk', Mk', hsz', hof', hall', rfl, rfl⟩
    · exact ⟨oi, _, _, hi, .inr (.inl ⟨d, t, z, opi, gi, di, ltn, hz, md, Md, rfl, rfl⟩), oj, rj, _, hj, .inl ⟨aj, sj, quietJ yj, rfl⟩, hcom ▸ hc⟩
    · have hdd : d' ≠ d := fun e => by subst e; simp at Md
      have hM : M d = none := by simpa [hdd] using Md
      refine ⟨oi, _, _, hi, .inr (.inl ⟨d, t, z, opi, gi, di, ltn, hz, md, hM, rfl, rfl⟩), oj, _, _, hj, .inr (.inl ⟨d', t', z', opj, gj, dj, ltn', hz', md', ?_, rfl, rfl⟩), ?_⟩
      · simp [Ne.symm hdd, Md']
      · have : (fun j => if d = j then some (⟨0, t, z.cells.toList⟩ : Blk) else if d' = j then some ⟨0, t', z'.cells.toList⟩ else M j) = fun j => if d' = j then some ⟨0, t', z'.cells.toList⟩ else if d = j then some ⟨0, t, z.cells.toList⟩ else M j := by
          funext j
          by_cases e1 : d = j <;> by_cases e2 : d' = j <;> simp [e1, e2]
          exact absurd (e2.trans e1.symm) hdd
        rw [← this, ← hcom]
        exact hc
    · exfalso
      simp [freeB, opi, opj, isAlc, isSto] at hfr
  · -- i is a store
    rcases hyj with ⟨aj, sj, yj, rfl⟩ | ⟨d', t', z', opj, gj, dj, ltn', hz', md', Md', rfl, rfl⟩ | ⟨t', x', y', k', off', v', blk', opj, gj, dj, ex', ey', mk', Mk', hsz', hof', hall', rfl, rfl⟩
    · refine ⟨oi, _, _, hi, .inr (.inr ⟨t, x, y, k, off, v, blk, opi, gi, di, ?_, ?_, mk, Mk, hsz, hof, hall, rfl, rfl⟩), oj, rj, _, hj, .inl ⟨aj, sj, quietJ yj, rfl⟩, hcom ▸ hc⟩
      · rw [← ex, evT_upd (ops := ops) h3' (by rw [opi]; simp [Op.operands])]
      · rw [← ey, evT_upd (ops := ops) h3' (by rw [opi]; simp [Op.operands])]
    · exfalso
      simp [freeB, opi, opj, isAlc, isSto] at hfr
    · exfalso
      simp [freeB, opi, opj, isAlc, isSto] at hfr

theorem chainC_front {P : Program} {m : Nat → Option Blk} {n : Nat} {ops : Array Oper} {i : Nat} {oi : Oper} (hi : ops[i]? = some oi) : ∀ {l1 : List Nat} {l2 : List Nat} {T T' : Nat → AV} {M M' : Nat → Option Blk},
    (∀ j ∈ l1, ∃ oj, ops[j]? = some oj ∧ oi.apart ops oj = true ∧ freeB oi oj = true) → chainC P m n ops (l1 ++ i :: l2) T M T' M' → chainC P m n ops (i :: (l1 ++ l2)) T M T' M'
  | [], _, _, _, _, _, _, h => h
  | j :: l1, l2, T, T', M, M', hj, h => by
    obtain ⟨oj, hoj, hap, hfr⟩ := hj j (by simp)
    refine chainC_swap hi hoj hap hfr ?_
    obtain ⟨oj', r, M1, ho, hy, hc⟩ := h
    exact ⟨oj', r, M1, ho, hy, chainC_front hi (fun k hk => hj k (by simp [hk])) hc⟩

/-- the memory with the new variables -/
def both (m M : Nat → Option Blk) : Nat → Option Blk := fun k => match M k with
  | some b => some b
  | none => m k
theorem both_ext {m M : Nat → Option Blk} (hd : ∀ k b, m k = some b → M k = none) : Ext m (both m M) := fun k b h => by
  unfold both
  rw [hd k b h]
  exact h

theorem both_upd {m M : Nat → Option Blk} {d : Nat} {b : Blk} : (fun j => if d = j then some b else both m M j) = both m (fun j => if d = j then some b else M j) := by
  funext j
  unfold both
  by_cases e : d = j <;> simp [e]

/-- one operation is carried out -/
theorem stepC_wpOp {P : Program} {m M M1 : Nat → Option Blk} {n : Nat} {ops : Array Oper} {Q : Exit → Act → World → Prop} {w0 w : World} {ρ : Nat → Option Nat} {T : Nat → AV} {a : Act} (hd : ∀ k b, m k = some b → M k = none)
    (hr : Rel n w0 ρ T (both m M) a w) {i : Nat} {o : Oper} (hi : ops[i]? = some o) {r : AV} (hy : StepC P m n ops o r M M1 T) {next : Act → World → Prop}
    (hn : ∀ ρ' a' w', (∀ k b, m k = some b → M1 k = none) → Rel n w0 ρ' (upd T o.dst r) (both m M1) a' w' → next a' w') : wpOp P ops Q i next a w := by
  rcases hy with ⟨_, _, hy, rfl⟩ | ⟨d, t, z, ho, hg, hdst, hlt, hz, hm, hM, rfl, rfl⟩ | ⟨t, x, y, k, off, v, blk, ho, hg, hdst, hx, hv, hm, hM, hs, hl, h1, rfl, rfl⟩
  · exact does_wpOp hr hi (hy _ (both_ext hd)) fun a' w' h => hn ρ a' w' hd h
  · unfold wpOp
    simp only [hi]
    rw [if_pos (by simp [Region.wanted, hg])]
    refine .inl (upon_of_does (R := fun v w' => v = .pointer (some ⟨w.heap.size, 0, none⟩) ∧ w' = w.alloc (.cells z.cells t)) ?_ ?_)
    · have hrun : (execOp a.eval o).run P w = .ok (.value (.pointer (some ⟨w.heap.size, 0, none⟩))) (w.alloc (.cells z.cells t)) := by
        simp [execOp, ho, Instr.alloc, run_zero hz, newVar, newRow]
      rw [hrun]
      exact ⟨rfl, rfl⟩
    · rintro v w' ⟨rfl, rfl⟩
      have hb0 : both m M d = none := by simp [both, hm, hM]
      have h2 := hr.newkey d (blk' := ⟨0, t, z.cells.toList⟩) (fun b hb => by rw [hb0] at hb; cases hb) (below_alloc w (.cells z.cells t)) (Nat.le_refl _) (alloc_new w _) ⟨[], by simp⟩ (.inl (Nat.le_refl _))
      refine hn (fun j => if d = j then some w.heap.size else ρ j) _ _ (fun k b hk => ?_) ?_
      · by_cases e : d = k
        · subst e; rw [hm] at hk; cases hk
        · simp [e, hd k b hk]
      · rw [hdst, ← both_upd]
        exact h2.put (fun x e => by cases e; exact hlt) ⟨_, by simp; rfl, Nat.le_refl _, fun _ => ⟨w.heap.size, by simp, rfl⟩⟩
  · have hbm : both m M k = some blk := by simp [both, hM]
    have e1 := hr.eval x
    have e2 := hr.eval y
    rw [hx] at e1
    rw [hv] at e2
    have e2' : a.eval y = v := e2
    obtain ⟨blk', hm', _, hp⟩ := e1
    rw [hbm] at hm'; cases hm'
    obtain ⟨b, hb, hva⟩ := hp rfl
    obtain ⟨blk', hm', _, c, fz, hc, ⟨rest, hrest⟩, hf⟩ := hr.keys.key hb
    rw [hbm] at hm'; cases hm'
    have hsz : blk.cells.length ≤ c.size := by have := congrArg List.length hrest; simp at this; omega
    obtain ⟨w', c', hrun, hset, hc'⟩ := run_storeCells (P := P) off v.cells.toList 0 c w hc hf (by simpa using Nat.le_trans hl hsz) (List.all_eq_true.1 h1)
    have hrun2 : (execOp a.eval o).run P w = .ok .skip w' := by
      have : (Instr.storeAt t (a.eval x) (a.eval y)).run P w = .ok () w' := by
        simp only [Instr.storeAt, hva, Instr.sureAddr, e2', storeVar, Sem.run_bind, Sem.run_pure, Result.andThen_ok, run_sizeOf hs]
        rw [if_neg (by simp)]
        exact hrun
      simp [execOp, ho, this]
    unfold wpOp
    simp only [hi]
    rw [if_pos (by simp [Region.wanted, hg])]
    refine .inl (upon_of_does (R := fun u u' => u = undef ∧ u' = w') ?_ ?_)
    · rw [hrun2]
      exact ⟨rfl, rfl⟩
    · rintro u u' ⟨rfl, rfl⟩
      have hcs : c'.size = c.size := by rw [← Array.length_toList, hc', length_wrL, Array.length_toList]
      have h2 := hr.blk hb hbm (blk' := ⟨blk.ver, blk.elem, wrL blk.cells off v.cells.toList⟩) hc hset ⟨rest, by rw [hc', hrest, Nat.add_zero]; exact wrL_append _ _ _ _ (by simpa using hl)⟩ (by rw [hcs]; exact hf) (.inl ⟨rfl, by simp [length_wrL], hcs⟩)
      refine hn ρ _ _ (fun k' b' hk' => ?_) ?_
      · by_cases e : k = k'
        · subst e; rw [hm] at hk'; cases hk'
        · simp [e, hd k' b' hk']
      · rw [hdst, ← both_upd]
        exact h2

def indC (ops : Array Oper) : Bool :=
  (List.range ops.size).all fun i => (List.range i).all fun j => Region.waitsFor .any ops i j ||
    (match ops[i]?, ops[j]? with
    | some oi, some oj => oi.apart ops oj && freeB oi oj
    | _, _ => false)

theorem drawn_anyC {P : Program} {n : Nat} {ops : Array Oper} {Q : Exit → Act → World → Prop} {w0 : World} {m : Nat → Option Blk} {T' : Nat → AV} {M' : Nat → Option Blk} (hind : indC ops = true) (hback : backB ops = true)
    (hQ : ∀ ρ a w, Rel n w0 ρ T' (both m M') a w → Q .normal a w) :
    ∀ (len : Nat) (R : List Nat) (listed : Array Bool) (T : Nat → AV) (M : Nat → Option Blk) (ρ : Nat → Option Nat) (a : Act) (w : World), R.length = len → R.Pairwise (· < ·) → (∀ i, i ∈ R ↔ i < ops.size ∧ listed.getD i true = false) → listed.size = ops.size →
      (∀ k b, m k = some b → M k = none) → chainC P m n ops R T M T' M' → Rel n w0 ρ T (both m M) a w → wpAny P .any ops Q len listed a w
  | 0, R, listed, T, M, ρ, a, w, hlen, hsort, hR, hs, hd, hch, hr => by
    have : R = [] := List.eq_nil_of_length_eq_zero hlen
    subst this
    obtain ⟨rfl, rfl⟩ := hch
    refine ⟨List.eq_nil_iff_forall_not_mem.2 fun i hi => ?_, hQ ρ a w hr⟩
    obtain ⟨hun, oi, hoi, _⟩ := mem_ready.1 hi
    exact absurd ((hR i).2 ⟨(Array.getElem?_eq_some_iff.1 hoi).1, hun⟩) (by simp)
  | len + 1, R, listed, T, M, ρ, a, w, hlen, hsort, hR, hs, hd, hch, hr => by
    have hne : R ≠ [] := fun e => by rw [e] at hlen; cases hlen
    refine ⟨fun e => ?_, fun i hi => ?_⟩
    · exfalso
      cases R with
      | nil => exact hne rfl
      | cons i0 R0 =>
        have h0 := (hR i0).1 (by simp)
        have hlt : i0 < ops.size := h0.1
        have : i0 ∈ Region.ready .any ops listed := by
          refine mem_ready.2 ⟨h0.2, ops[i0], by simp [hlt], fun e he hb => ?_⟩
          have hon := backB_spec hback (i := i0) (o := ops[i0]) (by simp [hlt]) e he hb
          have h3 : ¬ (listed.getD e.on true = false) := fun h4 => by
            have h5 := (hR e.on).2 ⟨by omega, h4⟩
            simp only [List.mem_cons] at h5
            rcases h5 with h5 | h5
            · omega
            · have := List.rel_of_pairwise_cons hsort h5; omega
          have h4 : e.on < listed.size := by rw [hs]; omega
          simp [h4] at h3 ⊢
          exact h3
        rw [e] at this
        cases this
    · obtain ⟨hun, oi, hoi, hall⟩ := mem_ready.1 hi
      have hilt := (Array.getElem?_eq_some_iff.1 hoi).1
      obtain ⟨l1, l2, hRe⟩ := List.append_of_mem ((hR i).2 ⟨hilt, hun⟩)
      have hap : ∀ j ∈ l1, ∃ oj, ops[j]? = some oj ∧ oi.apart ops oj = true ∧ freeB oi oj = true := fun j hj => by
        have hjR := (hR j).1 (by rw [hRe]; simp [hj])
        have hji : j < i := by
          rw [hRe] at hsort
          have := List.pairwise_append.1 hsort
          exact this.2.2 j hj i (by simp)
        have h1 := List.all_eq_true.1 (List.all_eq_true.1 hind i (List.mem_range.2 hilt)) j (List.mem_range.2 hji)
        have hjlt : j < ops.size := by omega
        refine ⟨ops[j], by simp [hjlt], ?_⟩
        rw [Bool.or_eq_true] at h1
        rcases h1 with h2 | h2
        · exfalso
          obtain ⟨o', ho', e', he', hb', hon⟩ := Region.waitsFor_spec h2
          rw [hoi] at ho'; cases ho'
          have h5 := hall e' he' hb'
          rw [hon] at h5
          have h6 := hjR.2
          have h7 : j < listed.size := by rw [hs]; omega
          simp [h7] at h5 h6
          rw [h6] at h5; cases h5
        · simpa [hoi, hjlt] using h2
      rw [hRe] at hch
      obtain ⟨o', r, M1, ho', hy, hc⟩ := chainC_front hoi hap hch
      rw [hoi] at ho'; cases ho'
      refine stepC_wpOp hd hr hoi hy fun ρ' a' w' hd' hr' => ?_
      subst hRe
      have hsp := List.pairwise_append.1 hsort
      refine drawn_anyC hind hback hQ len (l1 ++ l2) (listed.setIfInBounds i true) _ M1 ρ' a' w' (by simp at hlen ⊢; omega) (List.pairwise_append.2 ⟨hsp.1, (List.pairwise_cons.1 hsp.2.1).2, fun x hx y hy => hsp.2.2 x hx y (by simp [hy])⟩) (fun j => ?_) (by simp [hs]) hd' hc hr'
      by_cases e : i = j
      · subst e
        have h8 : i < listed.size := by rw [hs]; exact hilt
        constructor
        · intro h9
          exfalso
          rcases List.mem_append.1 h9 with h10 | h10
          · have := hsp.2.2 i h10 i (by simp); omega
          · have := (List.pairwise_cons.1 hsp.2.1).1 i h10; omega
        · intro h9
          simp [h8] at h9
      · rw [getD_set_ne true e]
        have e' : ¬ j = i := fun h => e h.symm
        rw [← hR j]
        simp [e']

/-! The state that is carried along: B is the memory at the region's start -/
def qSB (P : Program) (Γ : Env) (n : Nat) (B : List (Nat × Blk)) (d : Option Nat) (op : Op) (K : St → Prop) (st : St) (b : Bool) : Prop :=
  match b with
  | true => eK P Γ (look B) st.ev op (putK n d K st)
  | false => putK n d K st (.pl undef)

def cS (P : Program) (n : Nat) (B : List (Nat × Blk)) (d : Option Nat) (op : Op) (st : St) (K : St → Prop) : Prop :=
  match op with
  | .alloc t => (match d with
    | some d => look B d = none ∧ st.mem d = none ∧ (match (P.info? t).bind (·.zero) with
      | some z => d < n ∧ K ((st.setm d ⟨0, t, z.cells.toList⟩).set d (.ptr d 0 0))
      | none => False)
    | none => False)
  | .store t a x => (match st.ev a with
    | .ptr k ver off => look B k = none ∧ storeK P st d t (.ptr k ver off) (st.ev x) K
    | _ => False)
  | _ => False

def cL (P : Program) (Γ : Env) (n : Nat) (D : List (Option Nat)) (B : List (Nat × Blk)) : List Oper → (St → Prop) → St → Prop
  | [], K, st => K st
  | o :: rest, K, st => (match calmOp o.op with
    | true => (match o.guard with
      | none => eK P Γ (look B) st.ev o.op (putK n o.dst (cL P Γ n D B rest K) st)
      | some g => guardS D st g (qSB P Γ n B o.dst o.op (cL P Γ n D B rest K) st))
    | false => (match o.guard with
      | none => cS P n B o.dst o.op st (cL P Γ n D B rest K)
      | some _ => False))

def freshM (B : List (Nat × Blk)) (st : St) (k : Nat) : Option Blk :=
  match look B k with
  | none => st.mem k
  | some _ => none

theorem calm_not {op : Op} (h : calmOp op = true) : isAlc op = false ∧ isSto op = false := by
  unfold calmOp at h
  split at h <;> first | exact ⟨rfl, rfl⟩ | cases h

theorem cops_chain {P : Program} {Γ : Env} (hΓ : Γ.ok P) {n : Nat} {ops : Array Oper} {B : List (Nat × Blk)} {K : St → Prop} :
    ∀ (l : List Oper) (k : Nat) (st : St), (∀ j o, l[j]? = some o → ops[k + j]? = some o) → (∀ j b, look B j = some b → st.mem j = some b) → cL P Γ n (ops.toList.map (·.dst)) B l K st →
      ∃ st', K st' ∧ (∀ j b, look B j = some b → st'.mem j = some b) ∧ chainC P (look B) n ops (List.range' k l.length) st.get (freshM B st) st'.get (freshM B st')
  | [], _, st, _, hB, h => ⟨st, h, hB, rfl, rfl⟩
  | o :: l, k, st, hl, hB, h => by
    have h0 : ops[k]? = some o := by simpa using hl 0 o rfl
    have hl' : ∀ j o, l[j]? = some o → ops[k + 1 + j]? = some o := fun j o ho => by have := hl (j + 1) o (by simpa using ho); simpa [Nat.add_assoc, Nat.add_comm 1 j] using this
    have hfr : ∀ r, freshM B (st.put o.dst r) = freshM B st := fun r => by funext j; unfold freshM; rw [St.mem_put]
    have key : ∀ r, calmOp o.op = true → (∀ m', Ext (look B) m' → Yields1 P m' n ops o r st.get) → cL P Γ n (ops.toList.map (·.dst)) B l K (st.put o.dst r) →
        ∃ st', K st' ∧ (∀ j b, look B j = some b → st'.mem j = some b) ∧ chainC P (look B) n ops (List.range' k (o :: l).length) st.get (freshM B st) st'.get (freshM B st') := fun r hcalm hy hq => by
      obtain ⟨st', hK, hB', hc⟩ := cops_chain hΓ l (k + 1) _ hl' (by rw [St.mem_put]; exact hB) hq
      rw [St.get_put, hfr] at hc
      refine ⟨st', hK, hB', ?_⟩
      rw [List.length_cons, List.range'_succ]
      exact ⟨o, r, _, h0, .inl ⟨(calm_not hcalm).1, (calm_not hcalm).2, hy, rfl⟩, hc⟩
    unfold cL at h
    split at h
    · rename_i hcalm
      split at h
      · rename_i hg
        obtain ⟨r, ⟨hd, hq⟩, hx⟩ := eK_ext hcalm h
        refine key r hcalm (fun m' he => ?_) hq
        obtain ⟨r', rfl, hqu⟩ := eK_sound hΓ (hx m' he)
        exact ⟨hd, .inl ⟨by simp [wantA, hg], hqu⟩⟩
      · rename_i g hg
        obtain ⟨j, want⟩ := g
        obtain ⟨d, b, hd, hb, h⟩ := guardS_elim h
        cases hbw : b with
        | true =>
          simp only [hbw] at h
          obtain ⟨r, ⟨hdn, hq⟩, hx⟩ := eK_ext hcalm h
          refine key r hcalm (fun m' he => ?_) hq
          obtain ⟨r', rfl, hqu⟩ := eK_sound hΓ (hx m' he)
          exact ⟨hdn, .inl ⟨by simp only [wantA, hg, hd]; exact hbw ▸ hb, hqu⟩⟩
        | false =>
          simp only [hbw] at h
          obtain ⟨hdn, hq⟩ := h
          exact key _ hcalm (fun m' _ => ⟨hdn, .inr ⟨by simp only [wantA, hg, hd]; exact hbw ▸ hb, rfl⟩⟩) hq
    · split at h
      case h_2 => exact h.elim
      rename_i hg
      unfold cS at h
      split at h
      · rename_i t ho
        split at h
        case h_2 => exact h.elim
        rename_i d hdst
        obtain ⟨hBd, hmd, h⟩ := h
        split at h
        case h_2 => exact h.elim
        rename_i z hz
        obtain ⟨hlt, h⟩ := h
        obtain ⟨st', hK, hB', hc⟩ := cops_chain hΓ l (k + 1) _ hl' (fun j b hj => by
          rw [set_put, St.mem_put, St.mem_setm]
          by_cases e : d = j
          · subst e; rw [hBd] at hj; cases hj
          · simp only [e, if_false]; exact hB j b hj) h
        refine ⟨st', hK, hB', ?_⟩
        rw [List.length_cons, List.range'_succ]
        refine ⟨o, _, _, h0, .inr (.inl ⟨d, t, z, ho, hg, hdst, hlt, hz, hBd, ?_, rfl, rfl⟩), ?_⟩
        · unfold freshM; rw [hBd]; exact hmd
        · rw [set_put, St.get_put, St.get_setm] at hc
          rw [hdst]
          have e : freshM B ((st.setm d ⟨0, t, z.cells.toList⟩).put (some d) (.ptr d 0 0)) = fun j => if d = j then some ⟨0, t, z.cells.toList⟩ else freshM B st j := by
            funext j
            unfold freshM
            rw [St.mem_put, St.mem_setm]
            by_cases e : d = j
            · subst e; simp [hBd]
            · simp [e]
          rw [e] at hc
          exact hc
      · rename_i t x y ho
        split at h
        case h_2 => exact h.elim
        rename_i kk ver off hx
        obtain ⟨hBk, h⟩ := h
        unfold storeK at h
        split at h
        case h_2 => exact h.elim
        rename_i k' ver' off' v hdst hav hy
        cases hav
        split at h
        case h_2 => exact h.elim
        rename_i blk hm
        obtain ⟨rfl, hs, hlc, h1, h⟩ := h
        obtain ⟨st', hK, hB', hc⟩ := cops_chain hΓ l (k + 1) _ hl' (fun j b hj => by
          rw [St.mem_setm]
          by_cases e : kk = j
          · subst e; rw [hBk] at hj; cases hj
          · simp only [e, if_false]; exact hB j b hj) h
        refine ⟨st', hK, hB', ?_⟩
        rw [List.length_cons, List.range'_succ]
        refine ⟨o, _, _, h0, .inr (.inr ⟨t, x, y, kk, off, v, blk, ho, hg, hdst, hx, hy, hBk, ?_, hs, hlc, h1, rfl, rfl⟩), ?_⟩
        · unfold freshM; rw [hBk]; exact hm
        · rw [St.get_setm] at hc
          rw [hdst]
          have e : freshM B (st.setm kk ⟨blk.ver, blk.elem, wrL blk.cells off v.cells.toList⟩) = fun j => if kk = j then some ⟨blk.ver, blk.elem, wrL blk.cells off v.cells.toList⟩ else freshM B st j := by
            funext j
            unfold freshM
            rw [St.mem_setm]
            by_cases e : kk = j
            · subst e; simp [hBk]
            · simp [e]
          rw [e] at hc
          exact hc
      · exact h.elim

theorem both_fresh {B : List (Nat × Blk)} {st : St} (h : ∀ j b, look B j = some b → st.mem j = some b) : both (look B) (freshM B st) = st.mem := by
  funext j
  unfold both freshM
  cases hj : look B j with
  | none => cases st.mem j <;> rfl
  | some b => simp [h j b hj]

theorem region_fresh {P : Program} {Γ : Env} (hΓ : Γ.ok P) (hm : P.follows .mixedOrders = true) {n : Nat} {ops : Array Oper} (hB : (indC ops && backB ops) = true) {w0 : World} {K : St → Prop} {Q : Exit → Act → World → Prop}
    (hQ : ∀ ρ st a w, K st → Rel n w0 ρ st.get st.mem a w → Q .normal a w) {id : Nat} {st : St} {ρ : Nat → Option Nat} {a : Act} {w : World}
    (h : cL P Γ n (ops.toList.map (·.dst)) st.m ops.toList K st) (hr : Rel n w0 ρ st.get st.mem a w) : (Code.region id ops true).wp P Q a w := by
  simp only [Bool.and_eq_true] at hB
  refine wp_region_any hm ?_
  have hr' : Rel n w0 ρ st.get st.mem a { w with drawn := w.drawn + 1 } := hr.ext (Below.drew (Below.refl _ _))
  obtain ⟨st', hK, hB', hch⟩ := cops_chain hΓ ops.toList 0 st (fun j o ho => by simpa using ho) (fun j b hj => hj) h
  have e1 : both (look st.m) (freshM st.m st) = st.mem := both_fresh (fun j b hj => hj)
  have e2 := both_fresh hB'
  rw [← e1] at hr'
  have := drawn_anyC (P := P) (Q := Q) (w0 := w0) hB.1 hB.2 (T' := st'.get) (M' := freshM st.m st') (m := look st.m) (fun ρ a w hr2 => by rw [e2] at hr2; exact hQ ρ st' a w hK hr2)
    ops.size (List.range' 0 ops.size) (Array.replicate ops.size false) st.get (freshM st.m st) ρ a _ (by simp) (by simpa [List.range_eq_range'] using List.pairwise_lt_range (n := ops.size)) (fun i => by
      simp only [List.mem_range'_1]
      constructor
      · intro h1
        have : i < ops.size := by omega
        exact ⟨by omega, by simp [this]⟩
      · intro h1; omega) (by simp) (fun k b hk => by unfold freshM; rw [hk]) (by simpa using hch) hr'
  exact this

end Go.Vm
namespace Go.Vm
open Go Go.RowKit

/-! ### All orders, one by one -/
inductive OT where
  | done
  | stop
  | bad
  | alc
  | alt (i : Nat) (sub more : OT)

def OT.beq : OT → OT → Bool
  | .done, .done => true
  | .stop, .stop => true
  | .bad, .bad => true
  | .alc, .alc => true
  | .alt i a b, .alt j c d => i == j && OT.beq a c && OT.beq b d
  | _, _ => false

theorem OT.beq_eq : ∀ {a b : OT}, OT.beq a b = true → a = b
  | .done, .done, _ => rfl
  | .stop, .stop, _ => rfl
  | .bad, .bad, _ => rfl
  | .alc, .alc, _ => rfl
  | .alt i a b, .alt j c d, h => by
    simp only [OT.beq, Bool.and_eq_true, beq_iff_eq] at h
    obtain ⟨⟨rfl, h1⟩, h2⟩ := h
    rw [OT.beq_eq h1, OT.beq_eq h2]

def altsOf (f : Nat → OT) : List Nat → OT
  | [] => .stop
  | i :: r => .alt i (f i) (altsOf f r)

def treeOf (ops : Array Oper) : Nat → Array Bool → OT
  | 0, listed => (match Region.ready .any ops listed with
    | [] => .done
    | _ => .bad)
  | fuel + 1, listed => (match Region.ready .any ops listed with
    | [] => .done
    | i :: r => altsOf (fun j => treeOf ops fuel (listed.setIfInBounds j true)) (i :: r))

/-- a region, in every order that the tree tells -/
def xL (P : Program) (Γ : Env) (n : Nat) (D : List (Option Nat)) (ops : List Oper) (K : St → Prop) : OT → St → Prop
  | .done, st => K st
  | .stop, _ => True
  | .bad, _ => False
  | .alc, st => cL P Γ n D st.m ops K st
  | .alt i sub more, st => (match ops[i]? with
    | some o => (match o.guard with
      | none => gK P Γ n o st (xL P Γ n D ops K sub)
      | some g => guardS D st g (gS P Γ n o (xL P Γ n D ops K sub) st))
    | none => False) ∧ xL P Γ n D ops K more st

theorem xL_alts {P : Program} {Γ : Env} {n : Nat} {D : List (Option Nat)} {ops : List Oper} {K : St → Prop} {f : Nat → OT} {st : St} : ∀ {l : List Nat}, xL P Γ n D ops K (altsOf f l) st → ∀ i ∈ l, ∃ o, ops[i]? = some o ∧
      (match o.guard with
      | none => gK P Γ n o st (xL P Γ n D ops K (f i))
      | some g => guardS D st g (gS P Γ n o (xL P Γ n D ops K (f i)) st))
  | [], _, i, hi => by cases hi
  | j :: l, h, i, hi => by
    obtain ⟨h1, h2⟩ := h
    rcases List.mem_cons.1 hi with rfl | hi
    · split at h1
      · rename_i o ho
        exact ⟨o, ho, h1⟩
      · exact h1.elim
    · exact xL_alts h2 i hi

theorem xL_sound {P : Program} {Γ : Env} (hΓ : Γ.ok P) {n : Nat} {ops : Array Oper} {w0 : World} {K : St → Prop} {Q : Exit → Act → World → Prop} (hQ : ∀ ρ st a w, K st → Rel n w0 ρ st.get st.mem a w → Q .normal a w) :
    ∀ (fuel : Nat) (listed : Array Bool) (st : St) (ρ : Nat → Option Nat) (a : Act) (w : World), xL P Γ n (ops.toList.map (·.dst)) ops.toList K (treeOf ops fuel listed) st → Rel n w0 ρ st.get st.mem a w → wpAny P .any ops Q fuel listed a w
  | 0, listed, st, ρ, a, w, h, hr => by
    unfold treeOf at h
    split at h
    · rename_i hn; exact ⟨hn, hQ ρ st a w h hr⟩
    · exact h.elim
  | fuel + 1, listed, st, ρ, a, w, h, hr => by
    unfold treeOf at h
    split at h
    · rename_i hn
      exact ⟨fun _ => hQ ρ st a w h hr, fun i hi => (by rw [hn] at hi; cases hi)⟩
    · rename_i i0 r0 hn
      refine ⟨fun e => (by rw [hn] at e; cases e), fun i hi => ?_⟩
      rw [hn] at hi
      obtain ⟨o, ho, h⟩ := xL_alts (l := i0 :: r0) h i hi
      have h0 : ops[i]? = some o := by simpa using ho
      unfold wpOp
      simp only [h0]
      have hyes : gK P Γ n o st (xL P Γ n (ops.toList.map (·.dst)) ops.toList K (treeOf ops fuel (listed.setIfInBounds i true))) → o.wp P a w (wpAny P .any ops Q fuel (listed.setIfInBounds i true)) Q := fun hg =>
        upon_of_does (gK_sound hΓ hg hr) fun v w' ⟨ρ', st', hK, hr'⟩ => xL_sound hΓ hQ fuel _ st' ρ' _ _ hK hr'
      have hno : putK n o.dst (xL P Γ n (ops.toList.map (·.dst)) ops.toList K (treeOf ops fuel (listed.setIfInBounds i true))) st (.pl undef) → wpAny P .any ops Q fuel (listed.setIfInBounds i true) (a.put o.dst undef) w := fun hg =>
        xL_sound hΓ hQ fuel _ _ ρ _ _ hg.2 (by rw [St.get_put, St.mem_put]; exact hr.put hg.1.out rfl)
      split at h
      · rename_i hg
        have : Region.wanted o (yielded ops a.tmps) = true := by simp [Region.wanted, hg]
        rw [if_pos this]
        exact .inl (hyes h)
      · rename_i g hg
        obtain ⟨j, want⟩ := g
        obtain ⟨d, b, hd, hb, h⟩ := guardS_elim h
        have hw := wanted_of hr hg hd hb
        cases hbw : b with
        | true =>
          simp only [hbw] at h hw
          rw [if_pos hw]
          exact .inl (hyes h)
        | false =>
          simp only [hbw] at h hw
          rw [if_neg (by rw [hw]; simp)]
          exact hno h

theorem region_orders {P : Program} {Γ : Env} (hΓ : Γ.ok P) (hm : P.follows .mixedOrders = true) {n : Nat} {ops : Array Oper} {t : OT} (hB : OT.beq (treeOf ops ops.size (Array.replicate ops.size false)) t = true) {w0 : World} {K : St → Prop} {Q : Exit → Act → World → Prop}
    (hQ : ∀ ρ st a w, K st → Rel n w0 ρ st.get st.mem a w → Q .normal a w) {id : Nat} {st : St} {ρ : Nat → Option Nat} {a : Act} {w : World}
    (h : xL P Γ n (ops.toList.map (·.dst)) ops.toList K t st) (hr : Rel n w0 ρ st.get st.mem a w) : (Code.region id ops true).wp P Q a w := by
  refine wp_region_any hm ?_
  rw [← OT.beq_eq hB] at h
  have hr' : Rel n w0 ρ st.get st.mem a { w with drawn := w.drawn + 1 } := hr.ext (Below.drew (Below.refl _ _))
  exact xL_sound hΓ hQ ops.size _ st ρ a _ h hr'

end Go.Vm
namespace Go.Vm
open Go Go.RowKit

def okE : Exit → Prop
  | .panic _ => False
  | .outgrown => False
  | _ => True

/-- from every frame and world that read as the state says -/
def VW (P : Program) (n : Nat) (w0 : World) (c : Code) (Q : Exit → St → Prop) (st : St) : Prop :=
  ∀ ρ a w, Rel n w0 ρ st.get st.mem a w → c.wp P (fun e a' w' => okE e ∧ ∃ ρ' st', Rel n w0 ρ' st'.get st'.mem a' w' ∧ Q e st') a w

/-- how many operations of a region that draws its order may come in any order -/
def quietOp : Op → Bool
  | .alloc _ | .box .. | .store .. | .makeSlice .. | .buildSlice .. | .call { callee := .builtin .append, .. } | .call { callee := .builtin .copy, .. } => false
  | _ => true

def preLen : List Oper → Nat
  | [] => 0
  | o :: r => if quietOp o.op then preLen r + 1 else 0

/-- an operation without what only its order needs -/
structure SOp where
  d : Option Nat
  op : Op
  g : Option (Nat × Bool)

/-- a text without what only its order needs -/
inductive SC where
  | skip
  | reg (draw : Bool) (ops : List SOp)
  | ord (t : OT) (ops : List SOp)
  | seq (a b : SC)
  | cond (c : Operand) (x y : SC)
  | block (id : Nat) (c : SC)
  | exit (id : Nat)
  | ret
  | loop (c : SC)
  | bad

def slimOp (o : Oper) : SOp := ⟨o.dst, o.op, o.guard⟩

def slim (T : List (Nat × OT)) : Code → SC
  | .skip => .skip
  | .label _ => .skip
  | .region id ops draw => (match look T id with
    | some t => .ord t (ops.toList.map slimOp)
    | none => .reg draw (ops.toList.map slimOp))
  | .seq a b => .seq (slim T a) (slim T b)
  | .cond c x y => .cond c (slim T x) (slim T y)
  | .block id c => .block id (slim T c)
  | .exit id => .exit id
  | .ret => .ret
  | .loop c => .loop (slim T c)
  | _ => .bad

def gO (P : Program) (Γ : Env) (n : Nat) (d : Option Nat) (op : Op) (st : St) (K : St → Prop) : Prop := gK P Γ n ⟨d, op, 0, "", #[], none⟩ st K

def gSO (P : Program) (Γ : Env) (n : Nat) (d : Option Nat) (op : Op) (K : St → Prop) (st : St) (b : Bool) : Prop :=
  match b with
  | true => gO P Γ n d op st K
  | false => putK n d K st (.pl undef)

def qSO (P : Program) (Γ : Env) (n : Nat) (d : Option Nat) (op : Op) (K : St → Prop) (st : St) (b : Bool) : Prop :=
  match b with
  | true => qK P Γ st.mem st.ev op (putK n d K st)
  | false => putK n d K st (.pl undef)

/-- a region in the order of the text -/
def gR (P : Program) (Γ : Env) (n : Nat) (D : List (Option Nat)) : List SOp → (St → Prop) → St → Prop
  | [], K, st => K st
  | o :: rest, K, st => (match o.g with
    | none => gO P Γ n o.d o.op st (gR P Γ n D rest K)
    | some g => guardS D st g (gSO P Γ n o.d o.op (gR P Γ n D rest K) st))

/-- a region that draws its order, in the order of the text -/
def dR (P : Program) (Γ : Env) (n : Nat) (D : List (Option Nat)) : List SOp → (St → Prop) → St → Prop
  | [], K, st => K st
  | o :: rest, K, st => (match quietOp o.op with
    | true => (match o.g with
      | none => qK P Γ st.mem st.ev o.op (putK n o.d (dR P Γ n D rest K) st)
      | some g => guardS D st g (qSO P Γ n o.d o.op (dR P Γ n D rest K) st))
    | false => gR P Γ n D (o :: rest) K st)

/-- a region with new variables -/
def cR (P : Program) (Γ : Env) (n : Nat) (D : List (Option Nat)) (B : List (Nat × Blk)) : List SOp → (St → Prop) → St → Prop
  | [], K, st => K st
  | o :: rest, K, st => (match calmOp o.op with
    | true => (match o.g with
      | none => eK P Γ (look B) st.ev o.op (putK n o.d (cR P Γ n D B rest K) st)
      | some g => guardS D st g (qSB P Γ n B o.d o.op (cR P Γ n D B rest K) st))
    | false => (match o.g with
      | none => cS P n B o.d o.op st (cR P Γ n D B rest K)
      | some _ => False))

theorem cR_eq {P : Program} {Γ : Env} {n : Nat} {D : List (Option Nat)} {B : List (Nat × Blk)} (K : St → Prop) : ∀ (l : List Oper), cR P Γ n D B (l.map slimOp) K = cL P Γ n D B l K
  | [] => rfl
  | o :: l => by
    funext st
    rw [List.map_cons]
    unfold cR cL
    rw [cR_eq K l]
    rfl

/-- a region in every order that the tree tells -/
def xR (P : Program) (Γ : Env) (n : Nat) (D : List (Option Nat)) (ops : List SOp) (K : St → Prop) : OT → St → Prop
  | .done, st => K st
  | .stop, _ => True
  | .bad, _ => False
  | .alc, st => cR P Γ n D st.m ops K st
  | .alt i sub more, st => (match ops[i]? with
    | some o => (match o.g with
      | none => gO P Γ n o.d o.op st (xR P Γ n D ops K sub)
      | some g => guardS D st g (gSO P Γ n o.d o.op (xR P Γ n D ops K sub) st))
    | none => False) ∧ xR P Γ n D ops K more st

theorem xR_eq {P : Program} {Γ : Env} {n : Nat} {D : List (Option Nat)} {l : List Oper} (K : St → Prop) : ∀ (t : OT), xR P Γ n D (l.map slimOp) K t = xL P Γ n D l K t
  | .done => rfl
  | .stop => rfl
  | .bad => rfl
  | .alc => by
    funext st
    unfold xR xL
    rw [cR_eq]
  | .alt i sub more => by
    funext st
    unfold xR xL
    rw [xR_eq K sub, xR_eq K more, List.getElem?_map]
    cases l[i]? with
    | none => rfl
    | some o =>
      simp only [slimOp, Option.map_some]
      have e : gS P Γ n o (xL P Γ n D l K sub) st = gSO P Γ n o.dst o.op (xL P Γ n D l K sub) st := by
        funext b; cases b <;> rfl
      rw [e]
      rfl

theorem gR_eq {P : Program} {Γ : Env} {n : Nat} {D : List (Option Nat)} (K : St → Prop) : ∀ (l : List Oper), gR P Γ n D (l.map slimOp) K = gL P Γ n D l K
  | [] => rfl
  | o :: l => by
    funext st
    rw [List.map_cons]
    unfold gR gL
    rw [gR_eq K l]
    simp only [slimOp]
    have e : gS P Γ n o (gL P Γ n D l K) st = gSO P Γ n o.dst o.op (gL P Γ n D l K) st := by
      funext b; cases b <;> rfl
    rw [e]
    rfl

theorem dR_eq {P : Program} {Γ : Env} {n : Nat} {D : List (Option Nat)} (K : St → Prop) : ∀ (l : List Oper), dR P Γ n D (l.map slimOp) K = qL P Γ n D (l.take (preLen l)) (gL P Γ n D (l.drop (preLen l)) K)
  | [] => rfl
  | o :: l => by
    funext st
    rw [List.map_cons]
    unfold dR preLen
    have eo : (slimOp o).op = o.op := rfl
    rw [eo]
    cases h : quietOp o.op with
    | true =>
      rw [if_pos rfl, List.take_succ_cons, List.drop_succ_cons]
      simp only
      unfold qL
      rw [dR_eq K l]
      have e : qS P Γ n o (qL P Γ n D (l.take (preLen l)) (gL P Γ n D (l.drop (preLen l)) K)) st = qSO P Γ n o.dst o.op (qL P Γ n D (l.take (preLen l)) (gL P Γ n D (l.drop (preLen l)) K)) st := by
        funext b; cases b <;> rfl
      rw [e]
      rfl
    | false =>
      have := congrFun (gR_eq (P := P) (Γ := Γ) (n := n) (D := D) K (o :: l)) st
      rw [List.map_cons] at this
      exact this

def drawnOk (T : List (Nat × OT)) : Code → Bool
  | .region id ops d => (match look T id with
    | some t => d && (match t with
      | .alc => indC ops && backB ops
      | t => OT.beq (treeOf ops ops.size (Array.replicate ops.size false)) t)
    | none => !d || regB false ops (preLen ops.toList) || regB true ops (preLen ops.toList))
  | .seq a b => drawnOk T a && drawnOk T b
  | .cond _ a b => drawnOk T a && drawnOk T b
  | .block _ c => drawnOk T c
  | .loop c => drawnOk T c
  | _ => true

def blockQ (id : Nat) (Q : Exit → St → Prop) (e : Exit) (st : St) : Prop :=
  match e with
  | .exit id' => if id' = id then Q .normal st else Q (.exit id') st
  | .normal => Q .normal st
  | .goto l => Q (.goto l) st
  | .ret => Q .ret st
  | .panic ch => Q (.panic ch) st
  | .outgrown => Q .outgrown st

def seqE (K : St → Prop) (Q : Exit → St → Prop) (e : Exit) (st : St) : Prop :=
  match e with
  | .normal => K st
  | .exit id => Q (.exit id) st
  | .goto l => Q (.goto l) st
  | .ret => Q .ret st
  | .panic ch => Q (.panic ch) st
  | .outgrown => Q .outgrown st

/-- from every frame and world that read as the state says, whichever text it is that looks so -/
def VS (P : Program) (n : Nat) (w0 : World) (c : SC) (Q : Exit → St → Prop) (st : St) : Prop :=
  ∀ (T : List (Nat × OT)) (c0 : Code), slim T c0 = c → drawnOk T c0 = true → VW P n w0 c0 Q st

/-- what a text comes to from a state -/
def vw (P : Program) (Γ : Env) (n : Nat) (w0 : World) : SC → (Exit → St → Prop) → St → Prop
  | .skip, Q, st => Q .normal st
  | .reg draw ops, Q, st => (match draw with
    | false => gR P Γ n (ops.map (·.d)) ops (Q .normal) st
    | true => dR P Γ n (ops.map (·.d)) ops (Q .normal) st)
  | .ord t ops, Q, st => xR P Γ n (ops.map (·.d)) ops (Q .normal) t st
  | .seq a b, Q, st => vw P Γ n w0 a (seqE (vw P Γ n w0 b Q) Q) st
  | .cond c x y, Q, st => (match st.ev c with
    | .pl (.bool b) => (match b with
      | true => vw P Γ n w0 x Q st
      | false => vw P Γ n w0 y Q st)
    | _ => False)
  | .block id c, Q, st => vw P Γ n w0 c (blockQ id Q) st
  | .exit id, Q, st => Q (.exit id) st
  | .ret, Q, st => Q .ret st
  | .loop c, Q, st => VS P n w0 (.loop c) Q st
  | .bad, _, _ => False

theorem map_d (ops : Array Oper) : (ops.toList.map slimOp).map (·.d) = ops.toList.map (·.dst) := by
  rw [List.map_map]; rfl

theorem vw_sound {P : Program} {Γ : Env} (hΓ : Γ.ok P) (hm : P.follows .mixedOrders = true) {n : Nat} {w0 : World} (T : List (Nat × OT)) : ∀ (c : Code) (Q : Exit → St → Prop) (st : St), drawnOk T c = true → vw P Γ n w0 (slim T c) Q st → VW P n w0 c Q st
  | .skip, Q, st, hd, h => fun ρ a w hr => wp_skip ⟨trivial, ρ, st, hr, h⟩
  | .label l, Q, st, hd, h => fun ρ a w hr => wp_label ⟨trivial, ρ, st, hr, h⟩
  | .region id ops d, Q, st, hd, h => fun ρ a w hr => by
    simp only [drawnOk] at hd
    simp only [slim] at h
    cases hT : look T id with
    | some t =>
      rw [hT] at hd h
      simp only [Bool.and_eq_true] at hd
      obtain ⟨rfl, hB⟩ := hd
      simp only [vw] at h
      rw [map_d, xR_eq] at h
      split at hB
      · exact region_fresh hΓ hm hB (fun ρ' st' a' w' hK hr' => ⟨trivial, ρ', st', hr', hK⟩) h hr
      · exact region_orders hΓ hm hB (fun ρ' st' a' w' hK hr' => ⟨trivial, ρ', st', hr', hK⟩) h hr
    | none =>
      rw [hT] at hd h
      cases d with
      | false =>
        have h' : gL P Γ n (ops.toList.map (·.dst)) ops.toList (Q .normal) st := by
          simp only [vw] at h
          rw [map_d, gR_eq] at h
          exact h
        exact region_seq hΓ (fun ρ' st' a' w' hK hr' => ⟨trivial, ρ', st', hr', hK⟩) h' hr
      | true =>
        have hB : regB false ops (preLen ops.toList) = true ∨ regB true ops (preLen ops.toList) = true := by simpa using hd
        simp only [vw] at h
        rw [map_d, dR_eq] at h
        rcases hB with hB | hB
        · exact region_drawn hΓ hm _ hB (fun ρ' st' a' w' hK hr' => ⟨trivial, ρ', st', hr', hK⟩) (fun _ _ _ _ h => h.1.elim) h hr
        · exact region_drawn hΓ hm _ hB (fun ρ' st' a' w' hK hr' => ⟨trivial, ρ', st', hr', hK⟩) (fun _ _ _ _ h => h.1.elim) h hr
  | .seq x y, Q, st, hd, h => fun ρ a w hr => by
    refine wp_seq (wp_mono (vw_sound hΓ hm T x _ st (Bool.and_eq_true _ _ ▸ hd : _ ∧ _).1 h ρ a w hr) fun e a' w' ⟨hok, ρ', st', hr', hq⟩ => ?_)
    cases e with
    | normal => exact vw_sound hΓ hm T y Q st' (Bool.and_eq_true _ _ ▸ hd : _ ∧ _).2 hq ρ' a' w' hr'
    | _ => exact ⟨hok, ρ', st', hr', hq⟩
  | .cond c x y, Q, st, hd, h => fun ρ a w hr => by
    simp only [slim, vw] at h
    split at h
    · rename_i b hb
      have e1 := hr.eval c
      rw [show evT st.get c = st.ev c from rfl, hb] at e1
      have e1' : a.eval c = .bool b := e1
      exact wp_cond_split e1' (fun e => vw_sound hΓ hm T x Q st (Bool.and_eq_true _ _ ▸ hd : _ ∧ _).1 (by rw [e] at h; exact h) ρ a w hr) (fun e => vw_sound hΓ hm T y Q st (Bool.and_eq_true _ _ ▸ hd : _ ∧ _).2 (by rw [e] at h; exact h) ρ a w hr)
    · exact h.elim
  | .block id c, Q, st, hd, h => fun ρ a w hr => by
    refine wp_block (wp_mono (vw_sound hΓ hm T c _ st hd h ρ a w hr) fun e a' w' ⟨hok, ρ', st', hr', hq⟩ => ?_)
    cases e with
    | exit id' =>
      simp only [blockQ] at hq
      simp only [Exit.inBlock]
      split
      · rename_i e; rw [if_pos e] at hq; exact ⟨trivial, ρ', st', hr', hq⟩
      · rename_i e; rw [if_neg e] at hq; exact ⟨trivial, ρ', st', hr', hq⟩
    | _ => exact ⟨hok, ρ', st', hr', hq⟩
  | .exit id, Q, st, hd, h => fun ρ a w hr => wp_exit ⟨trivial, ρ, st, hr, h⟩
  | .ret, Q, st, hd, h => fun ρ a w hr => wp_ret ⟨trivial, ρ, st, hr, h⟩
  | .loop c, Q, st, hd, h => h T (.loop c) rfl hd
  | .rangeFunc .., _, _, _, h => h.elim
  | .scope _, _, _, _, h => h.elim
  | .goto _, _, _, _, h => h.elim
  | .refuse _, _, _, _, h => h.elim

theorem slim_loop {T : List (Nat × OT)} {c0 : Code} {c : SC} (h : slim T c0 = .loop c) : ∃ c1, c0 = .loop c1 ∧ slim T c1 = c := by
  cases c0 <;> simp only [slim] at h
  case region => split at h <;> cases h
  all_goals try cases h
  exact ⟨_, rfl, rfl⟩

/-! ### Less is known -/
/-- what st' says, st says -/
def Sub (st st' : St) : Prop :=
  (∀ j, st'.get j = .any ∨ st'.get j = st.get j) ∧ (∀ k blk, st'.mem k = some blk → st.mem k = some blk) ∧
  (∀ j, match st'.get j with
    | .ptr k _ _ => (st'.mem k).isSome = true
    | .sl k _ _ _ => (st'.mem k).isSome = true
    | .clo _ ks => ∀ p ∈ ks, (st'.mem p.1).isSome = true
    | _ => True)

theorem Rel.sub {n : Nat} {w0 w : World} {ρ : Nat → Option Nat} {st st' : St} {a : Act} (h : Rel n w0 ρ st.get st.mem a w) (hs : Sub st st') :
    Rel n w0 (fun k => if (st'.mem k).isSome then ρ k else none) st'.get st'.mem a w := by
  obtain ⟨h1, h2, h3⟩ := hs
  have hmem : ∀ k, (st'.mem k).isSome = true → ∃ blk, st'.mem k = some blk ∧ st.mem k = some blk := fun k hk => by
    obtain ⟨blk, hb⟩ := Option.isSome_iff_exists.1 hk
    exact ⟨blk, hb, h2 k blk hb⟩
  have hle : ∀ k b, (if (st'.mem k).isSome then ρ k else none) = some b → ρ k = some b := fun k b hk => by
    split at hk
    · exact hk
    · cases hk
  refine ⟨h.defers, h.size, h.below, ⟨h.keys.bnd, ?_, ?_, ?_⟩, fun j => ?_⟩
  · intro k blk hk
    simp only [hk, Option.isSome_some, if_true]
    exact h.keys.keys k blk (h2 k blk hk)
  · intro k hk
    simp [hk]
  · intro k k' b hk hk'
    exact h.keys.inj k k' b (hle _ _ hk) (hle _ _ hk')
  · rcases h1 j with e | e
    · rw [e]; trivial
    · have hj := h.tmps j
      have hl := h3 j
      rw [e] at hl ⊢
      generalize a.tmps.getD j undef = v at hj
      cases hav : st.get j with
      | pl x => rw [hav] at hj; exact hj
      | vec fr xs =>
        rw [hav] at hj
        exact VecAt.mono hj (fun _ _ _ => rfl) (fun b _ hg => ⟨hg.1, fun k hk => hg.2 k (hle _ _ hk)⟩)
      | pcell x =>
        rw [hav] at hj
        obtain ⟨b, o, hv, hc, hk⟩ := hj
        exact ⟨b, o, hv, hc, fun k hk' => hk k (hle _ _ hk')⟩
      | pblk b cells =>
        rw [hav] at hj
        obtain ⟨hv, c, e, fz, rest, hc, hr, hk⟩ := hj
        exact ⟨hv, c, e, fz, rest, hc, hr, fun k hk' => hk k (hle _ _ hk')⟩
      | ptr k ver off =>
        rw [hav] at hj hl
        simp only at hl
        obtain ⟨blk, hb, hb'⟩ := hmem k hl
        obtain ⟨blk0, hm0, hle0, hp⟩ := hj
        rw [hb'] at hm0; cases hm0
        exact ⟨blk, hb, hle0, fun e => by simpa [hl] using hp e⟩
      | sl k ver off len =>
        rw [hav] at hj hl
        simp only at hl
        obtain ⟨blk, hb, hb'⟩ := hmem k hl
        obtain ⟨blk0, hm0, hle0, hp⟩ := hj
        rw [hb'] at hm0; cases hm0
        exact ⟨blk, hb, hle0, fun e => by simpa [hl] using hp e⟩
      | tup ds =>
        rw [hav] at hj
        obtain ⟨vs, hv, hr⟩ := hj
        exact ⟨vs, hv, DV.rels_mono hr (fun _ _ _ => rfl) (fun b _ hg => ⟨hg.1, fun k hk => hg.2 k (hle _ _ hk)⟩)⟩
      | clo f ks =>
        rw [hav] at hj hl
        simp only at hl
        obtain ⟨vs, hv, hlen, hp⟩ := hj
        refine ⟨vs, hv, hlen, fun i k ver hi => ?_⟩
        have hl' := hl (k, ver) (List.mem_of_getElem? hi)
        obtain ⟨blk, hb, hb'⟩ := hmem k hl'
        obtain ⟨blk0, hm0, hle0, hq⟩ := hp i k ver hi
        rw [hb'] at hm0; cases hm0
        exact ⟨blk, hb, hle0, fun e => by simpa [hl'] using hq e⟩
      | any => trivial

/-- the slots that the list names read as it says -/
def subT (st : St) : List (Nat × AV) → Prop
  | [] => True
  | (j, v) :: r => st.get j = v ∧ subT st r

def subM (st : St) : List (Nat × Blk) → Prop
  | [] => True
  | (k, b) :: r => st.mem k = some b ∧ subM st r

/-- every variable that a slot leads to is named -/
def liveB (ks : List Nat) : List (Nat × AV) → Bool
  | [] => true
  | (_, .ptr k _ _) :: r => ks.contains k && liveB ks r
  | (_, .sl k _ _ _) :: r => ks.contains k && liveB ks r
  | (_, .clo _ cs) :: r => cs.all (fun p => ks.contains p.1) && liveB ks r
  | _ :: r => liveB ks r

theorem lookA_mem : ∀ {l : List (Nat × AV)} {j : Nat}, lookA l j = .any ∨ (j, lookA l j) ∈ l
  | [], _ => .inl rfl
  | (k, v) :: r, j => by
    simp only [lookA]
    split
    · rename_i e; subst e; exact .inr (by simp)
    · rcases lookA_mem (l := r) (j := j) with h | h
      · exact .inl h
      · exact .inr (by simp [h])

theorem look_mem {α : Type} : ∀ {l : List (Nat × α)} {j : Nat} {v : α}, look l j = some v → (j, v) ∈ l
  | [], _, _, h => by cases h
  | (k, u) :: r, j, v, h => by
    simp only [look] at h
    split at h
    · rename_i e; subst e; cases h; simp
    · exact List.mem_cons_of_mem _ (look_mem h)

theorem look_isSome {α : Type} : ∀ {l : List (Nat × α)} {j : Nat}, (l.map (·.1)).contains j = true → (look l j).isSome = true
  | [], _, h => by cases h
  | (k, u) :: r, j, h => by
    simp only [look]
    split
    · rfl
    · rename_i e
      refine look_isSome ?_
      simp only [List.map_cons, List.contains_cons, Bool.or_eq_true, beq_iff_eq] at h
      exact h.resolve_left (fun e' => e e'.symm)

theorem subT_mem {st : St} : ∀ {l : List (Nat × AV)} {j : Nat} {v : AV}, subT st l → (j, v) ∈ l → st.get j = v
  | [], _, _, _, h => by cases h
  | (k, u) :: r, j, v, hs, h => by
    rcases List.mem_cons.1 h with h | h
    · cases h; exact hs.1
    · exact subT_mem hs.2 h

theorem subM_mem {st : St} : ∀ {l : List (Nat × Blk)} {j : Nat} {v : Blk}, subM st l → (j, v) ∈ l → st.mem j = some v
  | [], _, _, _, h => by cases h
  | (k, u) :: r, j, v, hs, h => by
    rcases List.mem_cons.1 h with h | h
    · cases h; exact hs.1
    · exact subM_mem hs.2 h

theorem liveB_mem {ks : List Nat} : ∀ {l : List (Nat × AV)} {j : Nat} {v : AV}, liveB ks l = true → (j, v) ∈ l → match v with
    | .ptr k _ _ => ks.contains k = true
    | .sl k _ _ _ => ks.contains k = true
    | .clo _ cs => ∀ p ∈ cs, ks.contains p.1 = true
    | _ => True
  | [], _, _, _, h => by cases h
  | (k, u) :: r, j, v, hs, h => by
    have hr : liveB ks r = true := by
      unfold liveB at hs
      split at hs
      all_goals rename_i heq; cases heq <;> simp_all
    rcases List.mem_cons.1 h with h | h
    · cases h
      cases u with
      | ptr k _ _ => simp only [liveB, Bool.and_eq_true] at hs; exact hs.1
      | sl k _ _ _ => simp only [liveB, Bool.and_eq_true] at hs; exact hs.1
      | clo f cs => simp only [liveB, Bool.and_eq_true, List.all_eq_true] at hs; exact hs.1
      | _ => trivial
    · exact liveB_mem hr h

theorem Sub.of {st st' : St} (ht : subT st st'.t) (hm : subM st st'.m) (hl : liveB (st'.m.map (·.1)) st'.t = true) : Sub st st' := by
  refine ⟨fun j => ?_, fun k blk hk => subM_mem hm (look_mem hk), fun j => ?_⟩
  · rcases lookA_mem (l := st'.t) (j := j) with h | h
    · exact .inl h
    · exact .inr (subT_mem ht h).symm
  · rcases lookA_mem (l := st'.t) (j := j) with h | h
    · have : st'.get j = .any := h
      rw [this]; trivial
    · have := liveB_mem hl h
      have e : st'.get j = lookA st'.t j := rfl
      rw [e]
      generalize lookA st'.t j = v at this
      cases v with
      | ptr k _ _ => exact look_isSome this
      | sl k _ _ _ => exact look_isSome this
      | clo f cs => exact fun p hp => look_isSome (this p hp)
      | _ => trivial

theorem VW.sub {P : Program} {n : Nat} {w0 : World} {c : Code} {Q : Exit → St → Prop} {st st' : St} (hs : Sub st st') (h : VW P n w0 c Q st') : VW P n w0 c Q st :=
  fun _ a w hr => h _ a w (hr.sub hs)

theorem VW.mono {P : Program} {n : Nat} {w0 : World} {c : Code} {Q Q' : Exit → St → Prop} {st : St} (hq : ∀ e st, Q e st → Q' e st) (h : VW P n w0 c Q st) : VW P n w0 c Q' st :=
  fun ρ a w hr => wp_mono (h ρ a w hr) fun _ _ _ ⟨hok, ρ', st', h1, h2⟩ => ⟨hok, ρ', st', h1, hq _ _ h2⟩

/-- at a round's end: on to a state that is lower -/
def backE {α : Type} (S : α → St) (inv : α → Prop) (μ : α → Nat) (x : α) (st' : St) : Prop := ∃ x', inv x' ∧ μ x' < μ x ∧ Sub st' (S x')

/-- A loop: states S x, a relation, a measure. -/
theorem VS_loop {P : Program} {Γ : Env} (hΓ : Γ.ok P) (hm : P.follows .mixedOrders = true) {n : Nat} {w0 : World} {c : SC} {Q : Exit → St → Prop} {st : St} {α : Type} (S : α → St) (inv : α → Prop) (μ : α → Nat) (x0 : α) (h0 : Sub st (S x0)) (hi : inv x0)
    (round : ∀ x, inv x → vw P Γ n w0 c (seqE (backE S inv μ x) Q) (S x)) : VS P n w0 (.loop c) Q st := by
  intro T c0 hc0 hd ρ a w hr
  obtain ⟨c1, rfl, rfl⟩ := slim_loop hc0
  refine wp_loop_ghost (fun k a w => ∃ x ρ, inv x ∧ μ x = k ∧ Rel n w0 ρ (S x).get (S x).mem a w) (μ x0) ⟨x0, _, hi, rfl, hr.sub h0⟩ ?_
  rintro k a w ⟨x, ρ, hx, rfl, hr⟩
  refine wp_mono (vw_sound hΓ hm T c1 _ _ hd (round x hx) ρ a w hr) fun e a' w' ⟨hok, ρ', st', hr', hq⟩ => ?_
  cases e with
  | normal =>
    obtain ⟨x', hx', hlt, hs⟩ := hq
    exact ⟨μ x', hlt, x', _, hx', rfl, hr'.sub hs⟩
  | _ => exact ⟨hok, ρ', st', hr', hq⟩

def vr (P : Program) (Γ : Env) (n : Nat) (w0 : World) (c : SC) (Q : Exit → St → Prop) : Nat → St → Prop
  | 0, _ => False
  | k + 1, st => vw P Γ n w0 c (seqE (vr P Γ n w0 c Q k) Q) st

/-- a loop of so many rounds at most -/
theorem VS_rounds {P : Program} {Γ : Env} (hΓ : Γ.ok P) (hm : P.follows .mixedOrders = true) {n : Nat} {w0 : World} {c : SC} {Q : Exit → St → Prop} (k : Nat) {st : St} (h : vr P Γ n w0 c Q k st) : VS P n w0 (.loop c) Q st := by
  intro T c0 hc0 hd ρ a w hr
  obtain ⟨c1, rfl, rfl⟩ := slim_loop hc0
  refine wp_loop_rounds k ?_
  have key : ∀ k st ρ a w, vr P Γ n w0 (slim T c1) Q k st → Rel n w0 ρ st.get st.mem a w → Code.rounds P c1 (fun e a' w' => okE e ∧ ∃ ρ' st', Rel n w0 ρ' st'.get st'.mem a' w' ∧ Q e st') k a w := by
    intro k
    induction k with
    | zero => intro st ρ a w h _; exact h
    | succ k ih =>
      intro st ρ a w h hr
      rw [rounds_succ]
      refine wp_mono (vw_sound hΓ hm T c1 _ _ hd h ρ a w hr) fun e a' w' ⟨hok, ρ', st', hr', hq⟩ => ?_
      cases e with
      | normal => exact ih st' ρ' a' w' hq hr'
      | _ => exact ⟨hok, ρ', st', hr', hq⟩
  exact key k st ρ a w h hr

theorem VS_sub {P : Program} {n : Nat} {w0 : World} {c : SC} {Q : Exit → St → Prop} {st st' : St} (hs : Sub st st') (h : VS P n w0 c Q st') : VS P n w0 c Q st :=
  fun T c0 h1 h2 => (h T c0 h1 h2).sub hs

theorem VS_mono {P : Program} {n : Nat} {w0 : World} {c : SC} {Q Q' : Exit → St → Prop} {st : St} (hq : ∀ e st, Q e st → Q' e st) (h : VS P n w0 c Q st) : VS P n w0 c Q' st :=
  fun T c0 h1 h2 => (h T c0 h1 h2).mono hq

/-! ### Functions -/
def AV.rdv (m : Nat → Option Blk) : AV → Option DV
  | .pl v => some (if isNil v then .vec [] else .pl v)
  | .vec true xs => some (.vec xs)
  | .sl k ver off len => match m k with
    | some blk => if ver = blk.ver ∧ off + len ≤ blk.cells.length then some (.vec ((blk.cells.drop off).take len)) else none
    | none => none
  | _ => none

theorem AV.rdv_sound {base : Nat} {w : World} {ρ : Nat → Option Nat} {m : Nat → Option Blk} (hk : Keys base w ρ m) {v : Value} {av : AV} (h : RelV base w ρ m v av) {d : DV}
    (hd : av.rdv m = some d) : DV.rel w (fun b => base ≤ b) v d := by
  cases av with
  | pl x =>
    simp only [AV.rdv, Option.some.injEq] at hd
    obtain rfl : v = x := h
    split at hd
    · rename_i hn; rw [← hd]; exact .inl ⟨rfl, isNil_eq hn⟩
    · rw [← hd]; exact (rfl : v = v)
  | vec fr xs =>
    cases fr with
    | true => cases hd; exact VecAt.mono h (fun _ _ _ => rfl) (fun _ _ h => h.1 rfl)
    | false => cases hd
  | sl k ver off len =>
    obtain ⟨blk, hm, hle, hs⟩ := h
    simp only [AV.rdv, hm] at hd
    split at hd
    · rename_i hc
      cases hd
      exact SlAt.vec hk hm (hs hc.1) hc.2
    · cases hd
  | pcell x => cases hd
  | pblk b cells => cases hd
  | ptr k ver off => cases hd
  | tup ds => cases hd
  | clo f ks => cases hd
  | any => cases hd

def resK (P : Program) (st : St) : List ResultVar → (List DV → Prop) → Prop
  | [], K => K []
  | .tmp t :: r, K => (match (st.get t).rdv st.mem with
    | some d => resK P st r fun ds => K (d :: ds)
    | none => False)
  | .cell a t :: r, K => loadK P st.mem t (st.get a) fun av => (match av with
    | .pl v => resK P st r fun ds => K (.pl v :: ds)
    | _ => False)

def retV : List DV → RV
  | [d] => .one d
  | ds => .tup ds

def bodyQ (P : Program) (results : List ResultVar) (r : RV) (e : Exit) (st : St) : Prop :=
  match e with
  | .normal => resK P st results fun ds => retV ds = r
  | .ret => resK P st results fun ds => retV ds = r
  | _ => False

def resStep (tmps : Array Value) : ResultVar → Sem Value
  | .tmp t => pure (tmps.getD t undef)
  | .cell a t => do loadVar t (← asAddr (tmps.getD a undef))

theorem results_eq (fn : Func) (tmps : Array Value) : results fn tmps = (do
    let vs ← fn.results.mapM (resStep tmps)
    pure (if h : vs.size = 1 then vs[0] else .tuple vs)) := by
  unfold results
  congr 2

theorem resK_sound {P : Program} {n : Nat} {w0 w : World} {ρ : Nat → Option Nat} {st : St} {a : Act} (hr : Rel n w0 ρ st.get st.mem a w) : ∀ (rs : List ResultVar) (K : List DV → Prop), resK P st rs K →
    ∃ vs ds, K ds ∧ DV.rels w (fun b => w0.heap.size ≤ b) vs ds ∧
      (rs.mapM (resStep a.tmps)).run P w = .ok vs w
  | [], K, h => ⟨[], [], h, trivial, by simp⟩
  | .tmp t :: r, K, h => by
    unfold resK at h
    split at h
    · rename_i d hd
      obtain ⟨vs, ds, hK, hrel, hrun⟩ := resK_sound hr r _ h
      refine ⟨a.tmps.getD t undef :: vs, d :: ds, hK, ⟨AV.rdv_sound hr.keys (hr.tmps t) hd, hrel⟩, ?_⟩
      have h1 : (resStep a.tmps (.tmp t)).run P w = .ok (a.tmps.getD t undef) w := rfl
      rw [List.mapM_cons, Sem.run_bind, h1, Result.andThen_ok, Sem.run_bind, hrun]
      rfl
    · exact h.elim
  | .cell x t :: r, K, h => by
    unfold resK at h
    obtain ⟨av, hK, hs⟩ := loadK_sound h
    split at hK
    · rename_i v
      obtain ⟨vs, ds, hK', hrel, hrun⟩ := resK_sound hr r _ hK
      obtain ⟨y, hy, hrelv⟩ := hs w0.heap.size w ρ (a.tmps.getD x undef) hr.keys (hr.tmps x)
      obtain rfl : y = v := hrelv
      have hy' : (resStep a.tmps (.cell x t)).run P w = .ok y w := by
        unfold resStep
        simp only [Instr.loadAt, Instr.sureAddr] at hy
        cases hv : a.tmps.getD x undef with
        | pointer p =>
          cases p with
          | some q => rw [hv] at hy; simp only [Sem.run_bind, hv, asAddr]; simpa using hy
          | none => rw [hv] at hy; simp at hy
        | _ => rw [hv] at hy; simp at hy
      refine ⟨y :: vs, .pl y :: ds, hK', ⟨(rfl : y = y), hrel⟩, ?_⟩
      rw [List.mapM_cons, Sem.run_bind, hy', Result.andThen_ok, Sem.run_bind, hrun]
      rfl
    · exact hK.elim

def initT : Nat → List DV → List (Nat × AV)
  | _, [] => []
  | i, .pl v :: r => (i, .pl v) :: initT (i + 1) r
  | i, .vec xs :: r => (i, .vec false xs) :: initT (i + 1) r
  | i, .cel x :: r => (i, .pcell x) :: initT (i + 1) r
  | i, .blk _ :: r => (i, .any) :: initT (i + 1) r

theorem initT_rel {w : World} {base : Nat} : ∀ (ds : List DV) (vs : List Value) (i j : Nat) (v : Value), DV.rels w (fun _ => True) vs ds → (∀ k u, vs[k]? = some u → i + k = j → v = u) → RelV base w (fun _ => none) (fun _ => none) v (lookA (initT i ds) j)
  | [], _, _, _, _, _, _ => trivial
  | d :: ds, [], _, _, _, h, _ => h.elim
  | .pl x :: ds, u :: vs, i, j, v, h, hv => by
    simp only [initT, lookA]
    split
    · rename_i e
      have := hv 0 u (by simp) (by omega)
      subst this
      exact h.1
    · exact initT_rel ds vs (i + 1) j v h.2 fun k u' hk e => hv (k + 1) u' (by simpa using hk) (by omega)
  | .vec xs :: ds, u :: vs, i, j, v, h, hv => by
    simp only [initT, lookA]
    split
    · rename_i e
      have := hv 0 u (by simp) (by omega)
      subst this
      exact VecAt.mono h.1 (fun _ _ _ => rfl) (fun b _ _ => ⟨fun e => (by cases e), fun k e => (by cases e)⟩)
    · exact initT_rel ds vs (i + 1) j v h.2 fun k u' hk e => hv (k + 1) u' (by simpa using hk) (by omega)
  | .cel x :: ds, u :: vs, i, j, v, h, hv => by
    simp only [initT, lookA]
    split
    · rename_i e
      have := hv 0 u (by simp) (by omega)
      subst this
      obtain ⟨b, o, h1, h2, _⟩ := h.1
      exact ⟨b, o, h1, h2, fun k e => (by cases e)⟩
    · exact initT_rel ds vs (i + 1) j v h.2 fun k u' hk e => hv (k + 1) u' (by simpa using hk) (by omega)
  | .blk cells :: ds, u :: vs, i, j, v, h, hv => by
    simp only [initT, lookA]
    split
    · trivial
    · exact initT_rel ds vs (i + 1) j v h.2 fun k u' hk e => hv (k + 1) u' (by simpa using hk) (by omega)

theorem rels_length {w : World} {g : Nat → Prop} : ∀ {vs : List Value} {ds : List DV}, DV.rels w g vs ds → vs.length = ds.length
  | [], [], _ => rfl
  | _ :: vs, _ :: ds, h => by simp [rels_length h.2]
  | [], _ :: _, h => h.elim
  | _ :: _, [], h => h.elim

theorem Spec.of_calls {P : Program} {f : FuncId} {fn : Func} (hf : P.funcs[f]? = some fn) {c : Code} (hb : fn.body = some c) (hname : (fn.name == "runtime.NumGoroutine") = false) {ds : List DV} {r : RV}
    (h : ∀ (w : World) (vs : List Value), DV.rels w (fun _ => True) vs ds → Calls P f vs.toArray w (fun e w' => ∃ v, e = .returned v ∧ RV.rel w' (fun b => w.heap.size ≤ b) v r ∧ Below w.heap.size w w')) : Spec P f ds r := by
  intro w vs hv
  have hrun : (callFunc f vs.toArray).run P w = .ok (.enter f vs.toArray) w := by
    have h1 : fn.name ≠ "runtime.NumGoroutine" := by simpa using hname
    simp [callFunc, hf, h1, hb]
  rw [hrun]
  exact h w vs hv

theorem Spec.calls {P : Program} {f : FuncId} {fn : Func} (hf : P.funcs[f]? = some fn) {c : Code} (hb : fn.body = some c) (hname : (fn.name == "runtime.NumGoroutine") = false) {ds : List DV} {r : RV} (h : Spec P f ds r)
    (w : World) (vs : List Value) (hv : DV.rels w (fun _ => True) vs ds) : Calls P f vs.toArray w (fun e w' => ∃ v, e = .returned v ∧ RV.rel w' (fun b => w.heap.size ≤ b) v r ∧ Below w.heap.size w w') := by
  have := h w vs hv
  have hrun : (callFunc f vs.toArray).run P w = .ok (.enter f vs.toArray) w := by
    have h1 : fn.name ≠ "runtime.NumGoroutine" := by simpa using hname
    simp [callFunc, hf, h1, hb]
  rw [hrun] at this
  exact this

/-- A function's contract from what its text comes to. -/
theorem Spec.of_vw {P : Program} {Γ : Env} (hΓ : Γ.ok P) (hm : P.follows .mixedOrders = true) {f : FuncId} {fn : Func} (hf : P.funcs[f]? = some fn) {c : Code} (hb : fn.body = some c) (hname : (fn.name == "runtime.NumGoroutine") = false)
    {ds : List DV} {r : RV} {T : List (Nat × OT)} (hlen : ds.length ≤ fn.ntmps) (hd : drawnOk T c = true) {sc : SC} (hsc : slim T c = sc) {n : Nat} (hn : fn.ntmps = n) {res : List ResultVar} (hres : fn.results.toList = res) (h : ∀ w0, vw P Γ n w0 sc (bodyQ P res r) ⟨initT 0 ds, []⟩) : Spec P f ds r := by
  subst hsc hn hres
  refine Spec.of_calls hf hb hname fun w vs hv => calls_of_wp hf hb ?_
  have hl := rels_length hv
  have hr : Rel fn.ntmps w (fun _ => none) (St.get ⟨initT 0 ds, []⟩) (St.mem ⟨initT 0 ds, []⟩) { tmps := vs.toArray ++ Array.replicate (fn.ntmps - vs.toArray.size) undef, defers := [] } w := by
    refine ⟨rfl, by simp; omega, Below.refl _ _, ⟨Nat.le_refl _, fun k blk hk => (by cases hk), fun _ _ => rfl, fun _ _ _ h => (by cases h)⟩, fun j => ?_⟩
    refine initT_rel ds vs 0 j _ hv fun k u hk e => ?_
    have hlt := (List.getElem?_eq_some_iff.1 hk).1
    rw [Nat.zero_add] at e
    subst e
    have h1 : (vs.toArray ++ Array.replicate (fn.ntmps - vs.toArray.size) undef)[k]? = some u := by
      rw [Array.getElem?_append_left (by simpa using hlt)]
      simpa using hk
    rw [Array.getD_eq_getD_getElem?, h1]
    rfl
  refine wp_mono (vw_sound hΓ hm T c _ _ hd (h w) _ _ _ hr) fun e a' w' ⟨hok, ρ', st', hr', hq⟩ => ?_
  have fin : resK P st' fn.results.toList (fun ds => retV ds = r) → a'.defers = [] ∧ ∃ v, (results fn a'.tmps).run P w' = .ok v w' ∧ ∃ v', Ending.returned v = .returned v' ∧ RV.rel w' (fun b => w.heap.size ≤ b) v' r ∧ Below w.heap.size w w' := fun hk => by
    obtain ⟨us, ds', rfl, hrel, hrun⟩ := resK_sound hr' _ _ hk
    have hl2 := rels_length hrel
    refine ⟨hr'.defers, if h : us.toArray.size = 1 then us.toArray[0] else .tuple us.toArray, ?_, _, rfl, ?_, hr'.below⟩
    · rw [results_eq, Sem.run_bind, Array.mapM_eq_mapM_toList, Sem.run_map, hrun]
      rfl
    · cases us with
      | nil =>
        cases ds' with
        | nil => exact ⟨[], rfl, trivial⟩
        | cons => cases hl2
      | cons u us =>
        cases us with
        | nil =>
          cases ds' with
          | nil => cases hl2
          | cons d ds' =>
            cases ds' with
            | nil => exact hrel.1
            | cons => cases hl2
        | cons u' us =>
          cases ds' with
          | nil => cases hl2
          | cons d ds' =>
            cases ds' with
            | nil => cases hl2
            | cons d' ds' =>
              rw [dif_neg (by simp)]
              exact ⟨u :: u' :: us, rfl, hrel⟩
  cases e with
  | normal => exact fin hq
  | ret => exact fin hq
  | _ => exact hq.elim

end Go.Vm

/- Numbers of 256 bits as values of four words; lists of digits. No condition. -/
namespace Go.Vm
open Go Go.RowKit

noncomputable def w0 (x : Nat) : Nat := Classical.choose (⟨x % 18446744073709551616, rfl⟩ : ∃ y, y = x % 18446744073709551616)
theorem w0_eq (x : Nat) : w0 x = x % 18446744073709551616 := Classical.choose_spec (⟨x % 18446744073709551616, rfl⟩ : ∃ y, y = x % 18446744073709551616)
noncomputable def w1 (x : Nat) : Nat := Classical.choose (⟨x / 18446744073709551616 % 18446744073709551616, rfl⟩ : ∃ y, y = x / 18446744073709551616 % 18446744073709551616)
theorem w1_eq (x : Nat) : w1 x = x / 18446744073709551616 % 18446744073709551616 := Classical.choose_spec (⟨x / 18446744073709551616 % 18446744073709551616, rfl⟩ : ∃ y, y = x / 18446744073709551616 % 18446744073709551616)
noncomputable def w2 (x : Nat) : Nat := Classical.choose (⟨x / 340282366920938463463374607431768211456 % 18446744073709551616, rfl⟩ : ∃ y, y = x / 340282366920938463463374607431768211456 % 18446744073709551616)
theorem w2_eq (x : Nat) : w2 x = x / 340282366920938463463374607431768211456 % 18446744073709551616 := Classical.choose_spec (⟨x / 340282366920938463463374607431768211456 % 18446744073709551616, rfl⟩ : ∃ y, y = x / 340282366920938463463374607431768211456 % 18446744073709551616)
noncomputable def w3 (x : Nat) : Nat := Classical.choose (⟨x / 6277101735386680763835789423207666416102355444464034512896 % 18446744073709551616, rfl⟩ : ∃ y, y = x / 6277101735386680763835789423207666416102355444464034512896 % 18446744073709551616)
theorem w3_eq (x : Nat) : w3 x = x / 6277101735386680763835789423207666416102355444464034512896 % 18446744073709551616 := Classical.choose_spec (⟨x / 6277101735386680763835789423207666416102355444464034512896 % 18446744073709551616, rfl⟩ : ∃ y, y = x / 6277101735386680763835789423207666416102355444464034512896 % 18446744073709551616)

theorem w0_lt (x : Nat) : w0 x < 18446744073709551616 := by rw [w0_eq]; exact Nat.mod_lt _ (by decide)
theorem w1_lt (x : Nat) : w1 x < 18446744073709551616 := by rw [w1_eq]; exact Nat.mod_lt _ (by decide)
theorem w2_lt (x : Nat) : w2 x < 18446744073709551616 := by rw [w2_eq]; exact Nat.mod_lt _ (by decide)
theorem w3_lt (x : Nat) : w3 x < 18446744073709551616 := by rw [w3_eq]; exact Nat.mod_lt _ (by decide)

def num (a b c d : Nat) : Nat := a + b * 18446744073709551616 + c * 340282366920938463463374607431768211456 + d * 6277101735386680763835789423207666416102355444464034512896

noncomputable def full : Nat := Classical.choose (⟨115792089237316195423570985008687907853269984665640564039457584007913129639936, rfl⟩ : ∃ y, y = 115792089237316195423570985008687907853269984665640564039457584007913129639936)
theorem full_eq : full = 115792089237316195423570985008687907853269984665640564039457584007913129639936 := Classical.choose_spec (⟨115792089237316195423570985008687907853269984665640564039457584007913129639936, rfl⟩ : ∃ y, y = 115792089237316195423570985008687907853269984665640564039457584007913129639936)

theorem words (x : Nat) : num (w0 x) (w1 x) (w2 x) (w3 x) = x % full := by
  simp only [num, w0_eq, w1_eq, w2_eq, w3_eq, full_eq]
  omega

theorem words_lt {x : Nat} (h : x < full) : num (w0 x) (w1 x) (w2 x) (w3 x) = x := by
  rw [words, Nat.mod_eq_of_lt h]

theorem num_lt {a b c d : Nat} (ha : a < 18446744073709551616) (hb : b < 18446744073709551616) (hc : c < 18446744073709551616) (hd : d < 18446744073709551616) : num a b c d < full := by
  simp only [num, full_eq]
  omega

theorem words_num {a b c d : Nat} (ha : a < 18446744073709551616) (hb : b < 18446744073709551616) (hc : c < 18446744073709551616) (hd : d < 18446744073709551616) :
    w0 (num a b c d) = a ∧ w1 (num a b c d) = b ∧ w2 (num a b c d) = c ∧ w3 (num a b c d) = d := by
  simp only [num, w0_eq, w1_eq, w2_eq, w3_eq]
  omega

theorem i64_in {x : Int} (h : -9223372036854775808 ≤ x) (h' : x < 9223372036854775808) : IntKind.i64.wrap x = x := by
  rw [IntKind.wrap_i64]; omega
theorem u64_nat (n : Nat) (h : n < 18446744073709551616) : IntKind.u64.wrap (n : Int) = (n : Int) := by
  rw [IntKind.wrap_u64]; omega

def i64 (n : Int) : Value := .int .i64 n
def u64 (n : Int) : Value := .int .u64 n

/-- a number, by its four words -/
noncomputable def uV (x : Nat) : Value := .agg #[.int .u64 (w0 x : Nat), .int .u64 (w1 x : Nat), .int .u64 (w2 x : Nat), .int .u64 (w3 x : Nat)]

def toN0 : Value → Option Nat
  | .agg ⟨[.int .u64 a, .int .u64 b, .int .u64 c, .int .u64 d]⟩ =>
    if (0 ≤ a ∧ a < 18446744073709551616) ∧ (0 ≤ b ∧ b < 18446744073709551616) ∧ (0 ≤ c ∧ c < 18446744073709551616) ∧ (0 ≤ d ∧ d < 18446744073709551616)
    then some (num a.toNat b.toNat c.toNat d.toNat) else none
  | _ => none

noncomputable def toN : Value → Option Nat := Classical.choose (⟨toN0, rfl⟩ : ∃ f, f = toN0)
theorem toN_0 : toN = toN0 := Classical.choose_spec (⟨toN0, rfl⟩ : ∃ f, f = toN0)

theorem toN_uV (x : Nat) : toN (uV x) = some (x % full) := by
  rw [toN_0]
  unfold toN0 uV
  have h0 := w0_lt x
  have h1 := w1_lt x
  have h2 := w2_lt x
  have h3 := w3_lt x
  simp only
  rw [if_pos ⟨⟨by omega, by omega⟩, ⟨by omega, by omega⟩, ⟨by omega, by omega⟩, ⟨by omega, by omega⟩⟩]
  simp only [Int.toNat_natCast]
  rw [words]

theorem w0_mod (x : Nat) : w0 (x % full) = w0 x := by simp only [w0_eq, full_eq]; omega
theorem w1_mod (x : Nat) : w1 (x % full) = w1 x := by simp only [w1_eq, full_eq]; omega
theorem w2_mod (x : Nat) : w2 (x % full) = w2 x := by simp only [w2_eq, full_eq]; omega
theorem w3_mod (x : Nat) : w3 (x % full) = w3 x := by simp only [w3_eq, full_eq]; omega

theorem uV_mod (x : Nat) : uV (x % full) = uV x := by
  unfold uV
  rw [w0_mod, w1_mod, w2_mod, w3_mod]

theorem toN_eq {v : Value} {x : Nat} (h : toN v = some x) : v = uV x ∧ x < full := by
  rw [toN_0] at h
  unfold toN0 at h
  split at h
  · rename_i a b c d
    split at h
    · rename_i hc
      obtain ⟨⟨a0, a1⟩, ⟨b0, b1⟩, ⟨c0, c1⟩, ⟨d0, d1⟩⟩ := hc
      cases h
      have hw := words_num (a := a.toNat) (b := b.toNat) (c := c.toNat) (d := d.toNat) (by omega) (by omega) (by omega) (by omega)
      refine ⟨?_, num_lt (by omega) (by omega) (by omega) (by omega)⟩
      unfold uV
      rw [hw.1, hw.2.1, hw.2.2.1, hw.2.2.2]
      rw [Int.toNat_of_nonneg a0, Int.toNat_of_nonneg b0, Int.toNat_of_nonneg c0, Int.toNat_of_nonneg d0]
    · cases h
  · cases h

/-- four words that make a number -/
theorem uV_of {x a b c d : Nat} (ha : a < 18446744073709551616) (hb : b < 18446744073709551616) (hc : c < 18446744073709551616) (hd : d < 18446744073709551616) (h : num a b c d = x % full) :
    uV x = .agg #[.int .u64 (a : Nat), .int .u64 (b : Nat), .int .u64 (c : Nat), .int .u64 (d : Nat)] := by
  rw [← uV_mod, ← h]
  have hw := words_num ha hb hc hd
  unfold uV
  rw [hw.1, hw.2.1, hw.2.2.1, hw.2.2.2]

theorem cells_uV (x : Nat) : (uV x).cells = #[.int .u64 (w0 x : Nat), .int .u64 (w1 x : Nat), .int .u64 (w2 x : Nat), .int .u64 (w3 x : Nat)] := rfl
theorem agg_uV (x : Nat) : Value.agg #[.int .u64 (w0 x : Nat), .int .u64 (w1 x : Nat), .int .u64 (w2 x : Nat), .int .u64 (w3 x : Nat)] = uV x := rfl

theorem cells_agg (cs : Array Value) : (Value.agg cs).cells = cs := rfl
theorem cells_int (k : IntKind) (n : Int) : (Value.int k n).cells = #[.int k n] := rfl
theorem cells_bool (b : Bool) : (Value.bool b).cells = #[.bool b] := rfl
theorem cells_string (b : ByteArray) : (Value.string b).cells = #[.string b] := rfl
theorem cells_slice (a : Option Addr) (n m : Nat) : (Value.slice a n m).cells = #[.slice a n m] := rfl
theorem fold_wrL (off : Nat) : ∀ (vs : List Value) (cs : Array Value) (k : Nat), ((vs.zipIdx k).foldl (fun cs (c, j) => cs.setIfInBounds (off + j) c) cs).toList = wrL cs.toList (off + k) vs
  | [], cs, k => rfl
  | v :: vs, cs, k => by
    rw [List.zipIdx_cons, List.foldl_cons, fold_wrL off vs, wrL, Array.toList_setIfInBounds, Nat.add_assoc]

def fillL (place : Nat → Option (Nat × Nat)) (cells : List Value) : List (Nat × Value) → Option (List Value)
  | [] => some cells
  | p :: rest => match place p.1 with
    | none => none
    | some o => if p.2.cells.size = o.2 ∧ o.1 + p.2.cells.size ≤ cells.length then fillL place (wrL cells o.1 p.2.cells.toList) rest else none

theorem fill_list (place : Nat → Option (Nat × Nat)) : ∀ (parts : List (Nat × Value)) (cells : Array Value), Instr.fill place cells parts = (fillL place cells.toList parts).map List.toArray
  | [], cells => by simp [Instr.fill, fillL]
  | (i, v) :: rest, cells => by
    unfold Instr.fill fillL
    simp only
    cases h : place i with
    | none => rfl
    | some o =>
      obtain ⟨off, size⟩ := o
      simp only
      by_cases hc : v.cells.size = size ∧ off + v.cells.size ≤ cells.size
      · have h1 : (decide (v.cells.size ≠ size) || decide (off + v.cells.size > cells.size)) = false := by simp [hc.1]; omega
        rw [h1, if_pos (show v.cells.size = size ∧ off + v.cells.size ≤ cells.toList.length from hc)]
        simp only [Bool.false_eq_true, if_false]
        rw [fill_list place rest]
        congr 2
        have := fold_wrL off v.cells.toList cells 0
        rw [Nat.add_zero] at this
        rw [← this, ← Array.foldl_toList, Array.toList_zipIdx]
      · have h1 : (decide (v.cells.size ≠ size) || decide (off + v.cells.size > cells.size)) = true := by
          simp
          by_cases h2 : v.cells.size = size
          · right
            have : ¬ (off + v.cells.size ≤ cells.size) := fun h3 => hc ⟨h2, h3⟩
            omega
          · left; exact h2
        rw [h1, if_neg (show ¬ (v.cells.size = size ∧ off + v.cells.size ≤ cells.toList.length) from hc)]
        rfl

theorem buildV_eq (P : Program) (t : TypeId) (parts : List (Nat × Value)) : buildV P t parts =
    (match (P.info? t).bind (·.zero), P.underlying t with
    | some z, some (.struct fs) => (match placesOf P fs.toList with
      | some pl => (fillL (fun i => pl[i]?) z.cells.toList parts).map fun l => .agg l.toArray
      | none => none)
    | some z, some (.array _ e) => (match szOf P e with
      | some s => (fillL (fun i => some (i * s, s)) z.cells.toList parts).map fun l => .agg l.toArray
      | none => none)
    | _, _ => none) := by
  unfold buildV
  cases (P.info? t).bind (·.zero) with
  | none => rfl
  | some z =>
    cases P.underlying t with
    | none => rfl
    | some u =>
      cases u <;> try rfl
      · rename_i n e
        simp only
        cases szOf P e with
        | none => rfl
        | some s => simp only; rw [fill_list, Option.map_map]; rfl
      · rename_i fs
        simp only
        cases placesOf P fs.toList with
        | none => rfl
        | some pl =>
          simp only
          rw [fill_list, Option.map_map]
          have : (fun (x : Nat) => pl.toArray[x]?) = (fun (i : Nat) => pl[i]?) := by funext x; simp
          rw [this]
          rfl

theorem isNil_agg (cs : Array Value) : isNil (.agg cs) = false := rfl
theorem isNil_int (k : IntKind) (n : Int) : isNil (.int k n) = false := rfl
theorem isNil_bool (b : Bool) : isNil (.bool b) = false := rfl
theorem isNil_string (b : ByteArray) : isNil (.string b) = false := rfl
theorem isNil_nil : isNil (.slice none 0 0) = true := rfl
theorem isNil_slice (a : Addr) (n m : Nat) : isNil (.slice (some a) n m) = false := rfl
theorem isNil_uV (x : Nat) : isNil (uV x) = false := rfl

/-! ### The machine, sealed: nothing unfolds it but these equations -/
section
variable {P : Program} {Γ : Env} {n : Nat} {W : World}
noncomputable def gx (P : Program) (Γ : Env) (n : Nat) (D : List (Option Nat)) : List SOp → (St → Prop) → St → Prop := Classical.choose (⟨gR P Γ n D, rfl⟩ : ∃ f, f = gR P Γ n D)
theorem gx_eq {D} : gx P Γ n D = gR P Γ n D := Classical.choose_spec (⟨gR P Γ n D, rfl⟩ : ∃ f, f = gR P Γ n D)
noncomputable def dx (P : Program) (Γ : Env) (n : Nat) (D : List (Option Nat)) : List SOp → (St → Prop) → St → Prop := Classical.choose (⟨dR P Γ n D, rfl⟩ : ∃ f, f = dR P Γ n D)
theorem dx_eq {D} : dx P Γ n D = dR P Γ n D := Classical.choose_spec (⟨dR P Γ n D, rfl⟩ : ∃ f, f = dR P Γ n D)
noncomputable def xx (P : Program) (Γ : Env) (n : Nat) (D : List (Option Nat)) (ops : List SOp) (K : St → Prop) : OT → St → Prop := Classical.choose (⟨xR P Γ n D ops K, rfl⟩ : ∃ f, f = xR P Γ n D ops K)
theorem xx_eq {D ops K} : xx P Γ n D ops K = xR P Γ n D ops K := Classical.choose_spec (⟨xR P Γ n D ops K, rfl⟩ : ∃ f, f = xR P Γ n D ops K)
noncomputable def cx (P : Program) (Γ : Env) (n : Nat) (D : List (Option Nat)) : List (Nat × Blk) → List SOp → (St → Prop) → St → Prop := Classical.choose (⟨cR P Γ n D, rfl⟩ : ∃ f, f = cR P Γ n D)
theorem cx_eq {D} : cx P Γ n D = cR P Γ n D := Classical.choose_spec (⟨cR P Γ n D, rfl⟩ : ∃ f, f = cR P Γ n D)
noncomputable def vx (P : Program) (Γ : Env) (n : Nat) (W : World) : SC → (Exit → St → Prop) → St → Prop := Classical.choose (⟨vw P Γ n W, rfl⟩ : ∃ f, f = vw P Γ n W)
theorem vx_eq : vx P Γ n W = vw P Γ n W := Classical.choose_spec (⟨vw P Γ n W, rfl⟩ : ∃ f, f = vw P Γ n W)
noncomputable def vy (P : Program) (Γ : Env) (n : Nat) (W : World) : SC → (Exit → St → Prop) → Nat → St → Prop := Classical.choose (⟨vr P Γ n W, rfl⟩ : ∃ f, f = vr P Γ n W)
theorem vy_eq : vy P Γ n W = vr P Γ n W := Classical.choose_spec (⟨vr P Γ n W, rfl⟩ : ∃ f, f = vr P Γ n W)
noncomputable def VT (P : Program) (n : Nat) (W : World) : SC → (Exit → St → Prop) → St → Prop := Classical.choose (⟨VS P n W, rfl⟩ : ∃ f, f = VS P n W)
theorem VT_eq : VT P n W = VS P n W := Classical.choose_spec (⟨VS P n W, rfl⟩ : ∃ f, f = VS P n W)

theorem gx_nil {D K st} : gx P Γ n D [] K st = K st := by rw [gx_eq]; rfl
theorem gx_cons {D o rest K st} : gx P Γ n D (o :: rest) K st = (match o.g with
    | none => gO P Γ n o.d o.op st (gx P Γ n D rest K)
    | some g => guardS D st g (gSO P Γ n o.d o.op (gx P Γ n D rest K) st)) := by rw [gx_eq]; rfl
theorem dx_nil {D K st} : dx P Γ n D [] K st = K st := by rw [dx_eq]; rfl
theorem dx_cons {D o rest K st} : dx P Γ n D (o :: rest) K st = (match quietOp o.op with
    | true => (match o.g with
      | none => qK P Γ st.mem st.ev o.op (putK n o.d (dx P Γ n D rest K) st)
      | some g => guardS D st g (qSO P Γ n o.d o.op (dx P Γ n D rest K) st))
    | false => gx P Γ n D (o :: rest) K st) := by rw [dx_eq, gx_eq]; rfl
theorem xx_done {D ops K st} : xx P Γ n D ops K .done st = K st := by rw [xx_eq]; rfl
theorem xx_stop {D ops K st} : xx P Γ n D ops K .stop st = True := by rw [xx_eq]; rfl
theorem xx_alt {D ops K i sub more st} : xx P Γ n D ops K (.alt i sub more) st = ((match ops[i]? with
    | some o => (match o.g with
      | none => gO P Γ n o.d o.op st (xx P Γ n D ops K sub)
      | some g => guardS D st g (gSO P Γ n o.d o.op (xx P Γ n D ops K sub) st))
    | none => False) ∧ xx P Γ n D ops K more st) := by rw [xx_eq]; rfl
theorem xx_alc {D ops K st} : xx P Γ n D ops K .alc st = cx P Γ n D st.m ops K st := by rw [xx_eq, cx_eq]; rfl
theorem cx_nil {D B K st} : cx P Γ n D B [] K st = K st := by rw [cx_eq]; rfl
theorem cx_cons {D B o rest K st} : cx P Γ n D B (o :: rest) K st = (match calmOp o.op with
    | true => (match o.g with
      | none => eK P Γ (look B) st.ev o.op (putK n o.d (cx P Γ n D B rest K) st)
      | some g => guardS D st g (qSB P Γ n B o.d o.op (cx P Γ n D B rest K) st))
    | false => (match o.g with
      | none => cS P n B o.d o.op st (cx P Γ n D B rest K)
      | some _ => False)) := by rw [cx_eq]; rfl
theorem vx_ord {t ops Q st} : vx P Γ n W (.ord t ops) Q st = xx P Γ n (ops.map (·.d)) ops (Q .normal) t st := by rw [vx_eq, xx_eq]; rfl
theorem vx_skip {Q st} : vx P Γ n W .skip Q st = Q .normal st := by rw [vx_eq]; rfl
theorem vx_reg0 {ops Q st} : vx P Γ n W (.reg false ops) Q st = gx P Γ n (ops.map (·.d)) ops (Q .normal) st := by rw [vx_eq, gx_eq]; rfl
theorem vx_reg1 {ops Q st} : vx P Γ n W (.reg true ops) Q st = dx P Γ n (ops.map (·.d)) ops (Q .normal) st := by rw [vx_eq, dx_eq]; rfl
theorem vx_seq {a b Q st} : vx P Γ n W (.seq a b) Q st = vx P Γ n W a (seqE (vx P Γ n W b Q) Q) st := by rw [vx_eq]; rfl
theorem vx_cond {c x y Q st} : vx P Γ n W (.cond c x y) Q st = (match st.ev c with
    | .pl (.bool b) => (match b with
      | true => vx P Γ n W x Q st
      | false => vx P Γ n W y Q st)
    | _ => False) := by rw [vx_eq]; rfl
theorem vx_block {id c Q st} : vx P Γ n W (.block id c) Q st = vx P Γ n W c (blockQ id Q) st := by rw [vx_eq]; rfl
theorem vx_exit {id Q st} : vx P Γ n W (.exit id) Q st = Q (.exit id) st := by rw [vx_eq]; rfl
theorem vx_ret {Q st} : vx P Γ n W .ret Q st = Q .ret st := by rw [vx_eq]; rfl
theorem vx_loop {c Q st} : vx P Γ n W (.loop c) Q st = VT P n W (.loop c) Q st := by rw [vx_eq, VT_eq]; rfl
theorem vy_zero {c Q st} : vy P Γ n W c Q 0 st = False := by rw [vy_eq]; rfl
theorem vy_succ {c Q k st} : vy P Γ n W c Q (k + 1) st = vx P Γ n W c (seqE (vy P Γ n W c Q k) Q) st := by rw [vy_eq, vx_eq]; rfl

theorem VT_rounds (hΓ : Γ.ok P) (hm : P.follows .mixedOrders = true) {c Q} (k : Nat) {st : St} (h : vy P Γ n W c Q k st) : VT P n W (.loop c) Q st := by
  rw [VT_eq]
  rw [vy_eq] at h
  exact VS_rounds hΓ hm k h
theorem VT_loop (hΓ : Γ.ok P) (hm : P.follows .mixedOrders = true) {c : SC} {Q : Exit → St → Prop} {st : St} {α : Type} (S : α → St) (inv : α → Prop) (μ : α → Nat) (x0 : α) (h0 : Sub st (S x0)) (hi : inv x0)
    (round : ∀ x, inv x → vx P Γ n W c (seqE (backE S inv μ x) Q) (S x)) : VT P n W (.loop c) Q st := by
  rw [VT_eq]
  rw [vx_eq] at round
  exact VS_loop hΓ hm S inv μ x0 h0 hi round
theorem VT_sub {c : SC} {Q : Exit → St → Prop} {st st' : St} (hs : Sub st st') (h : VT P n W c Q st') : VT P n W c Q st := by
  rw [VT_eq] at *
  exact VS_sub hs h
theorem Spec.of_vx (hΓ : Γ.ok P) (hm : P.follows .mixedOrders = true) {f : FuncId} {fn : Func} (hf : P.funcs[f]? = some fn) {c : Code} (hb : fn.body = some c) (hname : (fn.name == "runtime.NumGoroutine") = false)
    {ds : List DV} {r : RV} {T : List (Nat × OT)} (hlen : ds.length ≤ fn.ntmps) (hd : drawnOk T c = true) {sc : SC} (hsc : slim T c = sc) {n : Nat} (hn : fn.ntmps = n) {res : List ResultVar} (hres : fn.results.toList = res) (h : ∀ W, vx P Γ n W sc (bodyQ P res r) ⟨initT 0 ds, []⟩) : Spec P f ds r :=
  Spec.of_vw hΓ hm hf hb hname hlen hd hsc hn hres fun W => by
    have := h W
    rw [vx_eq] at this
    exact this

/-! ### Evaluation order: continuations are not looked into before they are called -/
@[congr] theorem vx_cg {c Q} {st st' : St} (h : st = st') : vx P Γ n W c Q st = vx P Γ n W c Q st' := by rw [h]
@[congr] theorem vy_cg {c Q k} {st st' : St} (h : st = st') : vy P Γ n W c Q k st = vy P Γ n W c Q k st' := by rw [h]
@[congr] theorem VT_cg {c Q} {st st' : St} (h : st = st') : VT P n W c Q st = VT P n W c Q st' := by rw [h]
@[congr] theorem seqE_cg {K Q e} {st st' : St} (h : st = st') : seqE K Q e st = seqE K Q e st' := by rw [h]
@[congr] theorem blockQ_cg {i Q e} {st st' : St} (h : st = st') : blockQ i Q e st = blockQ i Q e st' := by rw [h]
@[congr] theorem bodyQ_cg {res r e} {st st' : St} (h : st = st') : bodyQ P res r e st = bodyQ P res r e st' := by rw [h]
@[congr] theorem resK_cg {res K} {st st' : St} (h : st = st') : resK P st res K = resK P st' res K := by rw [h]
@[congr] theorem xx_cg {D ops K t} {st st' : St} (h : st = st') : xx P Γ n D ops K t st = xx P Γ n D ops K t st' := by rw [h]
@[congr] theorem cx_cg {D B l K} {st st' : St} (h : st = st') : cx P Γ n D B l K st = cx P Γ n D B l K st' := by rw [h]
@[congr] theorem eK_cg {m ev op op' K} (h : op = op') : eK P Γ m ev op K = eK P Γ m ev op' K := by rw [h]
@[congr] theorem cS_cg {B d op K} {st st' : St} (h : st = st') : cS P n B d op st K = cS P n B d op st' K := by rw [h]
@[congr] theorem qSB_cg {B d op K b b'} {st st' : St} (h : st = st') (hb : b = b') : qSB P Γ n B d op K st b = qSB P Γ n B d op K st' b' := by rw [h, hb]
@[congr] theorem gx_cg {D l K} {st st' : St} (h : st = st') : gx P Γ n D l K st = gx P Γ n D l K st' := by rw [h]
@[congr] theorem dx_cg {D l K} {st st' : St} (h : st = st') : dx P Γ n D l K st = dx P Γ n D l K st' := by rw [h]
@[congr] theorem gO_cg {d op K} {st st' : St} (h : st = st') : gO P Γ n d op st K = gO P Γ n d op st' K := by rw [h]
@[congr] theorem gK_cg {o K} {st st' : St} (h : st = st') : gK P Γ n o st K = gK P Γ n o st' K := by rw [h]
@[congr] theorem gSO_cg {d op K b b'} {st st' : St} (h : st = st') (hb : b = b') : gSO P Γ n d op K st b = gSO P Γ n d op K st' b' := by rw [h, hb]
@[congr] theorem qSO_cg {d op K b b'} {st st' : St} (h : st = st') (hb : b = b') : qSO P Γ n d op K st b = qSO P Γ n d op K st' b' := by rw [h, hb]
@[congr] theorem guardS_cg {D g K} {st st' : St} (h : st = st') : guardS D st g K = guardS D st' g K := by rw [h]
@[congr] theorem newK_cg {d t mk K} {st st' : St} {cs cs' : List Value} (h : st = st') (hc : cs = cs') : newK n st d t cs mk K = newK n st' d t cs' mk K := by rw [h, hc]
@[congr] theorem putK_cg {d K} {st st' : St} {r r' : AV} (h : st = st') (hr : r = r') : putK n d K st r = putK n d K st' r' := by rw [h, hr]
@[congr] theorem plK_cg {K} {v v' : Value} (h : v = v') : plK K v = plK K v' := by rw [h]
@[congr] theorem qK_cg {m ev op op' K} (h : op = op') : qK P Γ m ev op K = qK P Γ m ev op' K := by rw [h]
@[congr] theorem optK_cg {o o' : Option RV} {K} (h : o = o') : optK o K = optK o' K := by rw [h]
@[congr] theorem backE_cg {α : Type} {S : α → St} {inv : α → Prop} {μ : α → Nat} {x : α} {st st' : St} (h : st = st') : backE S inv μ x st = backE S inv μ x st' := by rw [h]
end

theorem ok_nil (P : Program) : Env.ok [] P := fun f g h => by cases h
theorem ok_cons {P : Program} {f : Nat} {g : List DV → Option RV} {Γ : Env} (h : ∀ ds r, g ds = some r → Spec P f ds r) (hΓ : Env.ok Γ P) : Env.ok ((f, g) :: Γ) P := fun f' g' hl => by
  simp only [look] at hl
  split at hl
  · rename_i e; subst e; cases hl; exact fun ds r hr => SpecR.of (h ds r hr)
  · exact hΓ f' g' hl
theorem ok_consW {P : Program} {f : Nat} {g : List DV → Option RV} {Γ : Env} (h : ∀ ds r, g ds = some r → SpecR P f ds r) (hΓ : Env.ok Γ P) : Env.ok ((f, g) :: Γ) P := fun f' g' hl => by
  simp only [look] at hl
  split at hl
  · rename_i e; subst e; cases hl; exact h
  · exact hΓ f' g' hl

/-! ### Add64, Sub64 -/
def add64G : List DV → Option RV
  | [.pl (.int .u64 x), .pl (.int .u64 y), .pl (.int .u64 c)] =>
    if 0 ≤ x ∧ 0 ≤ y ∧ 0 ≤ c ∧ c ≤ 1 then some (.tup [.pl (.int .u64 ((x + y + c) % 18446744073709551616)), .pl (.int .u64 ((x + y + c) / 18446744073709551616))]) else none
  | _ => none

noncomputable def okW : Int → Bool := Classical.choose (⟨fun x => decide (0 ≤ x ∧ x < 18446744073709551616), rfl⟩ : ∃ f : Int → Bool, f = fun x => decide (0 ≤ x ∧ x < 18446744073709551616))
theorem okW_eq : okW = fun x => decide (0 ≤ x ∧ x < 18446744073709551616) := Classical.choose_spec (⟨fun x => decide (0 ≤ x ∧ x < 18446744073709551616), rfl⟩ : ∃ f : Int → Bool, f = fun x => decide (0 ≤ x ∧ x < 18446744073709551616))
noncomputable def okC : Int → Bool := Classical.choose (⟨fun x => decide (0 ≤ x ∧ x ≤ 1), rfl⟩ : ∃ f : Int → Bool, f = fun x => decide (0 ≤ x ∧ x ≤ 1))
theorem okC_eq : okC = fun x => decide (0 ≤ x ∧ x ≤ 1) := Classical.choose_spec (⟨fun x => decide (0 ≤ x ∧ x ≤ 1), rfl⟩ : ∃ f : Int → Bool, f = fun x => decide (0 ≤ x ∧ x ≤ 1))
theorem okW_of {x : Int} (h : 0 ≤ x) (h' : x < 18446744073709551616) : okW x = true := by rw [okW_eq]; exact decide_eq_true ⟨h, h'⟩
theorem okC_of {x : Int} (h : 0 ≤ x) (h' : x ≤ 1) : okC x = true := by rw [okC_eq]; exact decide_eq_true ⟨h, h'⟩
theorem okW_nat {x : Nat} (h : x < 18446744073709551616) : okW (x : Int) = true := okW_of (by omega) (by omega)
theorem okW_0 (x : Nat) : okW (w0 x : Nat) = true := okW_nat (w0_lt x)
theorem okW_1 (x : Nat) : okW (w1 x : Nat) = true := okW_nat (w1_lt x)
theorem okW_2 (x : Nat) : okW (w2 x : Nat) = true := okW_nat (w2_lt x)
theorem okW_3 (x : Nat) : okW (w3 x : Nat) = true := okW_nat (w3_lt x)
theorem okC_0 : okC 0 = true := okC_of (by omega) (by omega)
def brw (x y c : Int) : Int := if x < y + c then 1 else 0

noncomputable def sub64G : List DV → Option RV
  | [.pl (.int .u64 x), .pl (.int .u64 y), .pl (.int .u64 c)] =>
    if (okW x && okW y && okC c) = true then some (.tup [.pl (.int .u64 ((x - y - c) % 18446744073709551616)), .pl (.int .u64 (brw x y c))]) else none
  | _ => none

theorem add64_entry : ∀ {P : Program} (x y c : Int), 0 ≤ x → 0 ≤ y → 0 ≤ c → c ≤ 1 → ∀ (w : World), (add64Entry #[.int .u64 x, .int .u64 y, .int .u64 c]).run P w =
      .ok (.tuple #[.int .u64 ((x + y + c) % 18446744073709551616), .int .u64 ((x + y + c) / 18446744073709551616)]) w := fun x y c hx hy hc hc1 w => run_add64 x y c hx hy hc hc1 w

def sub64E : Array Value → Sem Value := fun args => do
  let (x, y, b) ← Extern.MathBitsCarry.three "Sub64" args
  pure (Extern.MathBitsCarry.pair ((x + Extern.MathBitsCarry.m64 - y - b) % Extern.MathBitsCarry.m64) (if x < y + b then 1 else 0))

theorem run_sub64E {P : Program} (x y b : Nat) (hb : b ≤ 1) (w : World) :
    (sub64E #[.int .u64 x, .int .u64 y, .int .u64 b]).run P w =
      .ok (.tuple #[.int .u64 (((x + 18446744073709551616 - y - b) % 18446744073709551616 : Nat) : Int), .int .u64 ((if x < y + b then 1 else 0 : Nat) : Int)]) w := by
  have : b = 0 ∨ b = 1 := by omega
  rcases this with rfl | rfl <;> rfl

theorem add64_ok {P : Program} {f : FuncId} {fn : Func} (hf : P.funcs[f]? = some fn) (h1 : (fn.name == "runtime.NumGoroutine") = false) (h2 : fn.body.isNone = true) (h3 : Extern.findNext fn = none) (h4 : Extern.find fn = some add64Entry) :
    ∀ ds r, add64G ds = some r → Spec P f ds r := by
  intro ds r h w vs hv
  unfold add64G at h
  split at h
  · rename_i x y c
    split at h
    · rename_i hc
      cases h
      match vs, hv with
      | [a, b, d], hv =>
        obtain ⟨rfl, rfl, rfl, _⟩ := hv
        rw [run_callFunc_extern hf h1 h2 h3 h4, run_add64 x y c hc.1 hc.2.1 hc.2.2.1 hc.2.2.2]
        exact ⟨⟨_, rfl, rfl, rfl, trivial⟩, Below.refl _ _⟩
    · cases h
  · cases h

theorem sub64_ok {P : Program} {f : FuncId} {fn : Func} (hf : P.funcs[f]? = some fn) (h1 : (fn.name == "runtime.NumGoroutine") = false) (h2 : fn.body.isNone = true) (h3 : Extern.findNext fn = none) (h4 : Extern.find fn = some sub64E) :
    ∀ ds r, sub64G ds = some r → Spec P f ds r := by
  intro ds r h w vs hv
  unfold sub64G at h
  split at h
  · rename_i x y c
    split at h
    · rename_i hc
      cases h
      match vs, hv with
      | [a, b, d], hv =>
        obtain ⟨rfl, rfl, rfl, _⟩ := hv
        simp only [okW_eq, okC_eq, Bool.and_eq_true, decide_eq_true_eq] at hc
        obtain ⟨X, rfl⟩ := Int.eq_ofNat_of_zero_le hc.1.1.1
        obtain ⟨Y, rfl⟩ := Int.eq_ofNat_of_zero_le hc.1.2.1
        obtain ⟨C, rfl⟩ := Int.eq_ofNat_of_zero_le hc.2.1
        have := run_sub64E (P := P) X Y C (by omega) w
        rw [run_callFunc_extern hf h1 h2 h3 h4, this]
        refine ⟨⟨_, rfl, ?_, ?_, trivial⟩, Below.refl _ _⟩
        · show Value.int .u64 _ = Value.int .u64 _
          congr 1
          omega
        · show Value.int .u64 _ = Value.int .u64 _
          congr 1
          unfold brw
          split <;> split <;> omega
    · cases h
  · cases h

/-- the plain laws of the list, as one -/
theorem vmB : type_of% (And.intro (And.intro (And.intro (And.intro (And.intro (And.intro @vy_zero @vx_skip) (And.intro @vx_reg0 (And.intro @vx_reg1 @vx_ord))) (And.intro (And.intro @xx_done (And.intro @xx_stop @xx_alt)) (And.intro @vx_seq (And.intro @vx_cond @vx_block)))) (And.intro (And.intro (And.intro @vx_exit @vx_ret) (And.intro @vx_loop (And.intro @gx_nil @gx_cons))) (And.intro (And.intro @dx_nil (And.intro @dx_cons @cx_nil)) (And.intro @cx_cons (And.intro @xx_alc @gvS_bool))))) (And.intro (And.intro (And.intro (And.intro @gvS_undef @cells_agg) (And.intro @cells_int (And.intro @cells_bool @cells_string))) (And.intro (And.intro @cells_slice (And.intro @cells_uV @isNil_uV)) (And.intro @toN_uV (And.intro @i64_in @IntKind.wrap_u64)))) (And.intro (And.intro (And.intro @IntKind.wrap_u8 (And.intro @IntKind.wrap_u32 @optK_some)) (And.intro @optK_tup (And.intro @optK_ite @List.append_nil.{0}))) (And.intro (And.intro @List.nil_append.{0} (And.intro @List.cons_append.{0} @isNil_agg)) (And.intro @isNil_int (And.intro @isNil_bool @isNil_string)))))) (And.intro (And.intro (And.intro (And.intro (And.intro @isNil_nil @isNil_slice) (And.intro @Option.map_some.{0, 0} (And.intro @Option.map_none.{0, 0} @List.map_cons.{0, 0}))) (And.intro (And.intro @List.map_nil.{0, 0} (And.intro @List.length_cons.{0} @List.length_nil.{0})) (And.intro @List.all_cons.{0} (And.intro @List.all_nil.{0} @List.getElem?_cons_zero.{0})))) (And.intro (And.intro (And.intro @List.getElem?_cons_succ.{0} @List.getElem?_nil.{0}) (And.intro @List.size_toArray.{0} (And.intro @List.getElem?_toArray.{0} @List.drop_zero.{0}))) (And.intro (And.intro @List.drop_succ_cons.{0} (And.intro @List.take_zero.{0} @List.take_succ_cons.{0})) (And.intro @Option.getD_some.{0} (And.intro @Option.getD_none.{0} @Option.some.injEq.{0}))))) (And.intro (And.intro (And.intro (And.intro @Option.isSome_some.{0} @Int.cast_ofNat_Int) (And.intro @true_and (And.intro @and_true @true_or))) (And.intro (And.intro @or_true (And.intro @or_false @false_or)) (And.intro @Bool.false_eq_true (And.intro @Bool.and_true @Bool.not_true)))) (And.intro (And.intro (And.intro @Bool.not_false (And.intro @beq_self_eq_true.{0} @Bool.true_beq)) (And.intro @Bool.false_beq (And.intro @decide_true @decide_false))) (And.intro (And.intro @ne_eq.{1} (And.intro @not_false_eq_true @not_true_eq_false)) (And.intro @Nat.zero_add (And.intro @Nat.add_zero @Nat.le_refl))))))) := (And.intro (And.intro (And.intro (And.intro (And.intro (And.intro @vy_zero @vx_skip) (And.intro @vx_reg0 (And.intro @vx_reg1 @vx_ord))) (And.intro (And.intro @xx_done (And.intro @xx_stop @xx_alt)) (And.intro @vx_seq (And.intro @vx_cond @vx_block)))) (And.intro (And.intro (And.intro @vx_exit @vx_ret) (And.intro @vx_loop (And.intro @gx_nil @gx_cons))) (And.intro (And.intro @dx_nil (And.intro @dx_cons @cx_nil)) (And.intro @cx_cons (And.intro @xx_alc @gvS_bool))))) (And.intro (And.intro (And.intro (And.intro @gvS_undef @cells_agg) (And.intro @cells_int (And.intro @cells_bool @cells_string))) (And.intro (And.intro @cells_slice (And.intro @cells_uV @isNil_uV)) (And.intro @toN_uV (And.intro @i64_in @IntKind.wrap_u64)))) (And.intro (And.intro (And.intro @IntKind.wrap_u8 (And.intro @IntKind.wrap_u32 @optK_some)) (And.intro @optK_tup (And.intro @optK_ite @List.append_nil.{0}))) (And.intro (And.intro @List.nil_append.{0} (And.intro @List.cons_append.{0} @isNil_agg)) (And.intro @isNil_int (And.intro @isNil_bool @isNil_string)))))) (And.intro (And.intro (And.intro (And.intro (And.intro @isNil_nil @isNil_slice) (And.intro @Option.map_some.{0, 0} (And.intro @Option.map_none.{0, 0} @List.map_cons.{0, 0}))) (And.intro (And.intro @List.map_nil.{0, 0} (And.intro @List.length_cons.{0} @List.length_nil.{0})) (And.intro @List.all_cons.{0} (And.intro @List.all_nil.{0} @List.getElem?_cons_zero.{0})))) (And.intro (And.intro (And.intro @List.getElem?_cons_succ.{0} @List.getElem?_nil.{0}) (And.intro @List.size_toArray.{0} (And.intro @List.getElem?_toArray.{0} @List.drop_zero.{0}))) (And.intro (And.intro @List.drop_succ_cons.{0} (And.intro @List.take_zero.{0} @List.take_succ_cons.{0})) (And.intro @Option.getD_some.{0} (And.intro @Option.getD_none.{0} @Option.some.injEq.{0}))))) (And.intro (And.intro (And.intro (And.intro @Option.isSome_some.{0} @Int.cast_ofNat_Int) (And.intro @true_and (And.intro @and_true @true_or))) (And.intro (And.intro @or_true (And.intro @or_false @false_or)) (And.intro @Bool.false_eq_true (And.intro @Bool.and_true @Bool.not_true)))) (And.intro (And.intro (And.intro @Bool.not_false (And.intro @beq_self_eq_true.{0} @Bool.true_beq)) (And.intro @Bool.false_beq (And.intro @decide_true @decide_false))) (And.intro (And.intro @ne_eq.{1} (And.intro @not_false_eq_true @not_true_eq_false)) (And.intro @Nat.zero_add (And.intro @Nat.add_zero @Nat.le_refl)))))))
end Go.Vm
