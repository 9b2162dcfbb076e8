/- What quiet operations do does not change when there are more variables. No condition. -/
import Derived.Test.YtcbcmfmcpdimkaaVm2
namespace Go.Vm
open Go Go.RowKit

def Ext (m m' : Nat → Option Blk) : Prop := ∀ k b, m k = some b → m' k = some b
theorem Ext.refl (m : Nat → Option Blk) : Ext m m := fun _ _ h => h

theorem withKey_ext {m m' : Nat → Option Blk} (he : Ext m m') {k ver : Nat} {blk : Blk} (hm : m k = some blk) (hv : ver = blk.ver) {K : Blk → Prop} (h : K blk) : withKey m' k ver K := by
  unfold withKey
  rw [he k blk hm]
  exact ⟨hv, h⟩

theorem loadK_ext {P : Program} {m : Nat → Option Blk} {t : TypeId} {av : AV} {K : AV → Prop} (h : loadK P m t av K) : ∃ r, K r ∧ ∀ m', Ext m m' → loadK P m' t av (fun x => x = r) := by
  unfold loadK at h
  split at h
  · rename_i x
    exact ⟨_, h.2, fun m' _ => ⟨h.1, rfl⟩⟩
  · rename_i b cells
    split at h
    · rename_i ha
      split at h
      · rename_i s hs
        refine ⟨_, h.2, fun m' _ => ?_⟩
        show (match aggOf P t with | some true => _ | _ => _)
        rw [ha]
        simp only
        rw [hs]
        exact ⟨h.1, rfl⟩
      · exact h.elim
    · exact h.elim
  · rename_i k ver off
    obtain ⟨blk, hm, hv, h⟩ := withKey_elim h
    split at h
    · rename_i ha
      split at h
      · rename_i s hs
        refine ⟨_, h.2, fun m' he => withKey_ext he hm hv ?_⟩
        rw [ha]
        simp only
        rw [hs]
        exact ⟨h.1, rfl⟩
      · exact h.elim
    · rename_i ha
      refine ⟨_, h.2, fun m' he => withKey_ext he hm hv ?_⟩
      rw [ha]
      exact ⟨h.1, rfl⟩
    · exact h.elim
  · exact h.elim

theorem fieldAddrK_ext {P : Program} {m : Nat → Option Blk} {t : TypeId} {av : AV} {f : Nat} {K : AV → Prop} (h : fieldAddrK P m t av f K) : ∃ r, K r ∧ ∀ m', Ext m m' → fieldAddrK P m' t av f (fun x => x = r) := by
  unfold fieldAddrK at h
  split at h
  · rename_i fs k ver off ht
    obtain ⟨blk, hm, hv, h⟩ := withKey_elim h
    split at h
    · rename_i fd hf
      split at h
      · rename_i s hs
        refine ⟨_, h.2, fun m' he => ?_⟩
        unfold fieldAddrK
        rw [ht]
        refine withKey_ext he hm hv ?_
        rw [hf]
        simp only
        rw [hs]
        first | exact ⟨h.1, rfl⟩ | exact ⟨h.1, trivial⟩
      · exact h.elim
    · exact h.elim
  · exact h.elim

theorem cont_ext {m m' : Nat → Option Blk} (he : Ext m m') {av : AV} {xs : List Value} (h : av.cont m = some xs) : av.cont m' = some xs := by
  cases av with
  | sl k ver off len =>
    simp only [AV.cont] at h ⊢
    cases hm : m k with
    | none => rw [hm] at h; cases h
    | some blk => rw [hm] at h; rw [he k blk hm]; exact h
  | _ => exact h

theorem dv_ext {m m' : Nat → Option Blk} (he : Ext m m') {av : AV} {d : DV} (h : av.dv m = some d) : av.dv m' = some d := by
  cases av with
  | sl k ver off len =>
    simp only [AV.dv] at h ⊢
    cases hm : m k with
    | none => rw [hm] at h; cases h
    | some blk => rw [hm] at h; rw [he k blk hm]; exact h
  | _ => exact h

theorem evs_ext {m m' : Nat → Option Blk} (he : Ext m m') {ev : Operand → AV} : ∀ {xs : List Operand} {ds : List DV}, evs ev m xs = some ds → evs ev m' xs = some ds
  | [], ds, h => h
  | x :: r, ds, h => by
    unfold evs at h ⊢
    split at h
    · rename_i d ds' hd hds
      rw [dv_ext he hd, evs_ext he hds]
      exact h
    · cases h

theorem capsD_ext {m m' : Nat → Option Blk} (he : Ext m m') : ∀ {ks : List (Nat × Nat)} {ds : List DV}, capsD m ks = some ds → capsD m' ks = some ds
  | [], ds, h => h
  | (k, ver) :: r, ds, h => by
    unfold capsD at h ⊢
    split at h
    · rename_i blk ds' hm hds
      rw [he k blk hm, capsD_ext he hds]
      exact h
    · cases h

theorem optK_ext {o : Option RV} {K : AV → Prop} (h : optK o K) : ∃ r, K r ∧ optK o (fun x => x = r) := by
  unfold optK at h
  split at h
  · exact ⟨_, h, rfl⟩
  · exact ⟨_, h, rfl⟩
  · exact h.elim

theorem callK_ext {Γ : Env} {m : Nat → Option Blk} {ev : Operand → AV} {f : AV} {args : List Operand} {K : AV → Prop} (h : callK Γ m ev f args K) : ∃ r, K r ∧ ∀ m', Ext m m' → callK Γ m' ev f args (fun x => x = r) := by
  unfold callK at h
  split at h
  · rename_i fid ks
    split at h
    · rename_i g hg
      split at h
      · rename_i ds hds
        split at h
        · rename_i cs hcs
          obtain ⟨r, hr, ho⟩ := optK_ext h
          refine ⟨r, hr, fun m' he => ?_⟩
          simp only [callK, hg, evs_ext he hds, capsD_ext he hcs]
          exact ho
        · exact h.elim
      · exact h.elim
    · exact h.elim
  · exact h.elim

theorem intK_ext {op : BinOp} {k : IntKind} {a b : Int} {K : Value → Prop} (h : intK op k a b K) : ∃ r, K r ∧ intK op k a b (fun x => x = r) := by
  cases op <;> simp only [intK] at h ⊢ <;> first
    | exact h.elim
    | exact ⟨_, h, rfl⟩
    | exact ⟨_, h.2, h.1, rfl⟩

theorem binK_ext {P : Program} {op : BinOp} {t : TypeId} {x y : Value} {K : Value → Prop} (h : binK P op t x y K) : ∃ r, K r ∧ binK P op t x y (fun z => z = r) := by
  unfold binK at h
  split at h
  · rename_i k a k' b
    split at h
    · exact ⟨_, h.2, h.1, rfl⟩
    · exact ⟨_, h.2, h.1, rfl⟩
    · rename_i op h1 h2
      obtain ⟨rfl, h⟩ := h
      obtain ⟨r, hr, hi⟩ := intK_ext h
      refine ⟨r, hr, ?_⟩
      cases op <;> first
        | exact absurd rfl h1
        | exact absurd rfl h2
        | (simp only [binK, true_and]; exact hi)
  · rename_i a b
    split at h
    · exact ⟨_, h.2, h.1, rfl⟩
    · exact ⟨_, h.2, h.1, rfl⟩
    · exact h.elim
  · rename_i a b
    split at h
    · exact ⟨_, h.2, h.1, rfl⟩
    · exact ⟨_, h, rfl⟩
    · exact ⟨_, h, rfl⟩
    · exact h.elim
  · rename_i xs ys
    split at h
    · obtain ⟨hg, b, hb, hk⟩ := h
      exact ⟨_, hk, hg, b, hb, rfl⟩
    · obtain ⟨hg, b, hb, hk⟩ := h
      exact ⟨_, hk, hg, b, hb, rfl⟩
    · exact h.elim
  · exact h.elim

theorem sliceK_ext {P : Program} {m : Nat → Option Blk} {t : TypeId} {av : AV} {lo : Int} {hi : Option Int} {K : AV → Prop} (h : sliceK P m t av lo hi K) : ∃ r, K r ∧ ∀ m', Ext m m' → sliceK P m' t av lo hi (fun x => x = r) := by
  unfold sliceK at h
  split at h
  · rename_i ht
    cases av with
    | pl v =>
      cases v with
      | string s =>
        obtain ⟨h1, h2, h3, h4⟩ := h
        refine ⟨_, h4, fun m' _ => ?_⟩
        unfold sliceK
        rw [ht]
        exact ⟨h1, h2, h3, rfl⟩
      | _ => exact h.elim
    | _ => exact h.elim
  · rename_i e ht
    obtain ⟨hs, h⟩ := h
    cases av with
    | vec fr xs =>
      obtain ⟨h1, h2, h3, h4⟩ := h
      refine ⟨_, h4, fun m' _ => ?_⟩
      unfold sliceK
      rw [ht]
      exact ⟨hs, h1, h2, h3, rfl⟩
    | sl k ver off len =>
      obtain ⟨h1, h2, h3, h4, h5⟩ := h
      obtain ⟨blk, hm, hv, h⟩ := withKey_elim h5
      refine ⟨_, h, fun m' he => ?_⟩
      unfold sliceK
      rw [ht]
      exact ⟨hs, h1, h2, h3, h4, withKey_ext he hm hv rfl⟩
    | _ => exact h.elim
  · rename_i n e ht
    obtain ⟨hs, h⟩ := h
    cases av with
    | ptr k ver off =>
      obtain ⟨h1, h2, h3, h4, h5⟩ := h
      obtain ⟨blk, hm, hv, h6, h⟩ := withKey_elim h5
      refine ⟨_, h, fun m' he => ?_⟩
      unfold sliceK
      rw [ht]
      exact ⟨hs, h1, h2, h3, h4, withKey_ext he hm hv ⟨h6, rfl⟩⟩
    | _ => exact h.elim
  · exact h.elim

theorem lenK_ext {P : Program} {t : TypeId} {av : AV} {K : AV → Prop} (h : lenK P t av K) : ∃ r, K r ∧ lenK P t av (fun x => x = r) := by
  unfold lenK at h
  split at h
  case h_6 => exact h.elim
  all_goals
    rename_i ht
    refine ⟨_, h, ?_⟩
    unfold lenK
    rw [ht]

theorem unK_ext {op : UnOp} {x : Value} {K : Value → Prop} (h : unK op x K) : ∃ r, K r ∧ unK op x (fun z => z = r) := by
  unfold unK at h
  split at h
  case h_4 => exact h.elim
  all_goals exact ⟨_, h, rfl⟩

theorem plK_eq (r : Value) : (plK fun x => x = AV.pl r) = fun z => z = r := by
  funext z
  unfold plK
  simp

/-- quiet operations of a region with new variables -/
def calmOp : Op → Bool
  | .move _ | .assign _ | .pick .. | .load .. | .binOp .. | .fieldAddr .. | .extract .. | .unOp .. => true
  | .slice _ _ none none none | .slice _ _ (some _) none none | .slice _ _ none (some _) none | .slice _ _ (some _) (some _) none => true
  | .call { callee := .value _, .. } => true
  | .call { callee := .builtin .len, args := ⟨[_]⟩, argTypes := ⟨[_]⟩ } => true
  | .buildSlice .. => true
  | _ => false

/-- what such an operation yields: a new slice is a list of values -/
def eK (P : Program) (Γ : Env) (m : Nat → Option Blk) (ev : Operand → AV) (op : Op) (K : AV → Prop) : Prop :=
  match op with
  | .buildSlice t len parts => (match plains ev parts.toList with
    | some vs => (match seqParts 0 vs with
      | some xs => (match rowOf P t with
        | some (_, _, _) => len = xs.length ∧ len ≤ 1000 ∧ K (.vec true xs)
        | none => False)
      | none => False)
    | none => False)
  | op => qK P Γ m ev op K

theorem eK_qK {P : Program} {Γ : Env} {m : Nat → Option Blk} {ev : Operand → AV} {op : Op} {K : AV → Prop} (h : ∀ t len parts, op ≠ .buildSlice t len parts) : eK P Γ m ev op K = qK P Γ m ev op K := by
  cases op <;> first | rfl | exact absurd rfl (h _ _ _)

theorem eK_sound {P : Program} {Γ : Env} (hΓ : Γ.ok P) {m : Nat → Option Blk} {ev : Operand → AV} {o : Oper} {K : AV → Prop} (h : eK P Γ m ev o.op K) :
    ∃ r, K r ∧ Quiet P m ev o r := by
  unfold eK at h
  split at h
  · rename_i t len parts ho
    split at h
    case h_2 => exact h.elim
    rename_i vs hvs
    split at h
    case h_2 => exact h.elim
    rename_i xs hxs
    split at h
    case h_2 => exact h.elim
    rename_i e z bytes hrow
    obtain ⟨ht, ⟨i, hi, hsz, hz, hby⟩, hzc⟩ := rowOf_row hrow
    obtain ⟨rfl, hle, h⟩ := h
    refine ⟨_, h, fun base w ρ a hk hr => ?_⟩
    have hsz' : szOf P e = some 1 := by simp [szOf, hi, hsz]
    have hz' : (P.info? e).bind (·.zero) = some z := by simp [hi, hz]
    obtain ⟨cs, hrun, hcs⟩ := run_buildSlice (P := P) (w := w) ht hsz' hz' hxs hle
    have hpl := plains_sound (val := a.eval) (fun p hp v hv => by
      have := hr p.2 (by simp only [ho, Op.operands, List.mem_toArray, List.mem_map]; exact ⟨p, hp, rfl⟩)
      rw [hv] at this
      exact this) hvs
    have e3 : (Array.map (fun (x : Nat × Operand) => match x with | (i, x) => (i, a.eval x)) parts) = vs.toArray := by
      rw [← hpl]; apply Array.ext'; simp
    have : (execOp a.eval o).run P w = .ok (.value (.slice (some ⟨w.heap.size, 0, none⟩) xs.length xs.length)) (w.alloc (.cells cs e)) := by simp [execOp, ho, e3, hrun]
    rw [this]
    have hsize : cs.size = xs.length := by rw [← Array.length_toList, hcs]
    exact ⟨.inr ⟨w.heap.size, 0, xs.length, cs, e, _, rfl, alloc_new w _, ⟨fun _ => hk.bnd, fun k e => by have := hk.lt e; omega⟩, by rw [hcs]; simp, Nat.le_refl _, by omega⟩, below_alloc w _⟩
  · exact qK_sound hΓ h

theorem eK_ext {P : Program} {Γ : Env} {m : Nat → Option Blk} {ev : Operand → AV} {op : Op} {K : AV → Prop} (hc : calmOp op = true) (h : eK P Γ m ev op K) : ∃ r, K r ∧ ∀ m', Ext m m' → eK P Γ m' ev op (fun x => x = r) := by
  unfold calmOp at hc
  split at hc
  · exact ⟨_, h, fun _ _ => rfl⟩
  · exact ⟨_, h, fun _ _ => rfl⟩
  · rename_i c a b
    simp only [eK, qK] at h ⊢
    split at h
    · rename_i t ht
      refine ⟨_, h, fun _ _ => ?_⟩
      rfl
    · exact h.elim
  · exact loadK_ext h
  · rename_i op t x y z
    simp only [eK, qK] at h ⊢
    split at h
    · rename_i a b ha hb
      obtain ⟨v, hv, hb⟩ := binK_ext h
      refine ⟨.pl v, hv, fun _ _ => ?_⟩
      have e : (plK fun x => x = AV.pl v) = fun z => z = v := by
        funext z
        unfold plK
        simp
      rw [e]
      exact hb
    · exact h.elim
  · exact fieldAddrK_ext h
  · rename_i x i
    simp only [eK, qK] at h ⊢
    split at h
    · rename_i ds hds
      split at h
      · rename_i d hd
        refine ⟨_, h, fun _ _ => ?_⟩
        rfl
      · exact h.elim
    · exact h.elim
  · rename_i op t x
    simp only [eK, qK] at h ⊢
    split at h
    · rename_i a ha
      obtain ⟨v, hv, hu⟩ := unK_ext h
      refine ⟨.pl v, hv, fun _ _ => ?_⟩
      rw [plK_eq]
      exact hu
    · exact h.elim
  · exact sliceK_ext h
  · rename_i t x lo
    simp only [eK, qK] at h ⊢
    split at h
    · exact sliceK_ext h
    · exact h.elim
  · rename_i t x hi
    simp only [eK, qK] at h ⊢
    split at h
    · exact sliceK_ext h
    · exact h.elim
  · rename_i t x lo hi
    simp only [eK, qK] at h ⊢
    split at h
    · exact sliceK_ext h
    · exact h.elim
  · rename_i f args ats
    exact callK_ext h
  · rename_i x t
    simp only [eK, qK] at h ⊢
    split at h
    · obtain ⟨blk, hm, hv, h⟩ := withKey_elim h
      obtain ⟨r, hr, hl⟩ := lenK_ext h
      exact ⟨r, hr, fun m' he => withKey_ext he hm hv hl⟩
    · obtain ⟨r, hr, hl⟩ := lenK_ext h
      exact ⟨r, hr, fun m' he => hl⟩
  · rename_i t len parts
    simp only [eK] at h ⊢
    split at h
    case h_2 => exact h.elim
    rename_i vs hvs
    split at h
    case h_2 => exact h.elim
    rename_i xs hxs
    split at h
    case h_2 => exact h.elim
    exact ⟨_, h.2.2, fun _ _ => ⟨h.1, h.2.1, rfl⟩⟩
  · cases hc
end Go.Vm
