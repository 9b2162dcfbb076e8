/- A small verified machine over abstract states of frames and worlds, part 2: what operations, regions, texts and functions do. No condition. -/
import Derived.Test.YtcbcmfmcpdimkaaVm1
import Derived.Lib.ConvBytes
namespace Go.Vm
open Go Go.RowKit

def placesOf (P : Program) : List Field → Option (List (Nat × Nat))
  | [] => some []
  | f :: fs => match szOf P f.type, placesOf P fs with
    | some s, some r => some ((f.offset, s) :: r)
    | _, _ => none

theorem run_places {P : Program} (w : World) : ∀ {fs : List Field} {pl : List (Nat × Nat)}, placesOf P fs = some pl →
    (List.mapM (fun f : Field => do pure (f.offset, ← sizeOf f.type)) fs : Sem (List (Nat × Nat))).run P w = .ok pl w
  | [], pl, h => by cases h; simp
  | f :: fs, pl, h => by
    unfold placesOf at h
    split at h
    · rename_i s r hs hr
      cases h
      have h1 := run_sizeOf hs w
      have h2 := run_places w hr
      simp only [List.mapM_cons, Sem.run_bind, h1, Result.andThen_ok, Sem.run_pure, h2]
    · cases h

def buildV (P : Program) (t : TypeId) (parts : List (Nat × Value)) : Option Value :=
  match (P.info? t).bind (·.zero), P.underlying t with
  | some z, some (.struct fs) => match placesOf P fs.toList with
    | some pl => (Instr.fill (pl.toArray[·]?) z.cells parts).map .agg
    | none => none
  | some z, some (.array _ e) => match szOf P e with
    | some s => (Instr.fill (fun i => some (i * s, s)) z.cells parts).map .agg
    | none => none
  | _, _ => none

theorem run_zero {P : Program} {t : TypeId} {z : Value} (h : (P.info? t).bind (·.zero) = some z) (w : World) : (zeroValue t).run P w = .ok z w := by
  cases hi : P.info? t with
  | none => rw [hi] at h; cases h
  | some i =>
    rw [hi] at h
    have h' : i.zero = some z := h
    simp [zeroValue, typeInfo, hi, h']

theorem buildV_sound {P : Program} {t : TypeId} {parts : List (Nat × Value)} {v : Value} (h : buildV P t parts = some v) (w : World) : (Instr.build t parts.toArray).run P w = .ok v w := by
  unfold buildV at h
  split at h
  · rename_i z fs hz ht
    split at h
    · rename_i pl hp
      cases hf : Instr.fill (pl.toArray[·]?) z.cells parts with
      | none => rw [hf] at h; cases h
      | some cs =>
        rw [hf] at h; cases h
        have h1 := run_places w hp
        have h2 : (Array.mapM (fun f : Field => do pure (f.offset, ← sizeOf f.type)) fs : Sem (Array (Nat × Nat))).run P w = .ok pl.toArray w := by
          rw [Array.mapM_eq_mapM_toList, Sem.run_map, h1]; rfl
        unfold Instr.build
        simp only [Sem.run_bind, run_zero hz, Result.andThen_ok, run_underlying ht, h2, hf, Sem.run_pure]
    · cases h
  · rename_i z n e hz ht
    split at h
    · rename_i s hs
      cases hf : Instr.fill (fun i => some (i * s, s)) z.cells parts with
      | none => rw [hf] at h; cases h
      | some cs =>
        rw [hf] at h; cases h
        unfold Instr.build
        simp only [Sem.run_bind, run_zero hz, Result.andThen_ok, run_underlying ht, run_sizeOf hs, hf, Sem.run_pure]
    · cases h
  · cases h

def plains (ev : Operand → AV) : List (Nat × Operand) → Option (List (Nat × Value))
  | [] => some []
  | (i, x) :: r => match ev x, plains ev r with
    | .pl v, some vs => some ((i, v) :: vs)
    | _, _ => none

theorem plains_sound {ev : Operand → AV} {val : Operand → Value} : ∀ {ps : List (Nat × Operand)} {vs : List (Nat × Value)}, (∀ p ∈ ps, ∀ v, ev p.2 = .pl v → val p.2 = v) →
    plains ev ps = some vs → ps.map (fun (i, x) => (i, val x)) = vs
  | [], vs, _, h => by cases h; rfl
  | (i, x) :: r, vs, hr, h => by
    unfold plains at h
    split at h
    · rename_i v vs' hv hvs
      cases h
      rw [List.map_cons, plains_sound (fun p hp => hr p (by simp [hp])) hvs]
      have := hr (i, x) (by simp) v hv
      simp only at this
      show (i, val x) :: vs' = _
      rw [this]
    · cases h

/-- the smallest or largest of integers -/
def mmK (isMax : Bool) (ev : Operand → AV) (args : List Operand) (K : AV → Prop) : Prop :=
  match args with
  | [x, y] => (match ev x, ev y with
    | .pl (.int k a), .pl (.int _ b) => K (.pl (.int k (if isMax then (if a < b then b else a) else (if b < a then b else a))))
    | _, _ => False)
  | _ => False

def capsOf (ev : Operand → AV) : List Operand → Option (List (Nat × Nat))
  | [] => some []
  | x :: r => match ev x, capsOf ev r with
    | .ptr k ver 0, some ks => some ((k, ver) :: ks)
    | _, _ => none

theorem capsOf_sound {base : Nat} {w : World} {ρ : Nat → Option Nat} {m : Nat → Option Blk} {ev : Operand → AV} {val : Operand → Value} :
    ∀ {xs : List Operand} {ks : List (Nat × Nat)}, (∀ x ∈ xs, RelV base w ρ m (val x) (ev x)) → capsOf ev xs = some ks →
      (xs.map val).length = ks.length ∧ ∀ (i k ver : Nat), ks[i]? = some (k, ver) → ∃ blk, m k = some blk ∧ ver ≤ blk.ver ∧ (ver = blk.ver → ∃ b, ρ k = some b ∧ (xs.map val)[i]? = some (Value.pointer (some ⟨b, 0, none⟩)))
  | [], ks, _, h => by cases h; simp
  | x :: r, ks, hr, h => by
    unfold capsOf at h
    split at h
    · rename_i k ver ks' hx hks
      cases h
      obtain ⟨h1, h2⟩ := capsOf_sound (val := val) (fun y hy => hr y (by simp [hy])) hks
      refine ⟨by simpa using h1, fun i k' ver' hi => ?_⟩
      cases i with
      | zero =>
        simp at hi
        obtain ⟨rfl, rfl⟩ := hi
        have := hr x (by simp)
        rw [hx] at this
        obtain ⟨blk, hm, hle, hp⟩ := this
        exact ⟨blk, hm, hle, fun e => by obtain ⟨b, hb, hv⟩ := hp e; exact ⟨b, hb, by simp [hv]⟩⟩
      | succ i =>
        have := h2 i k' ver' (by simpa using hi)
        simpa using this
    · cases h

def nilK (m : Nat → Option Blk) (av : AV) (K : AV → Prop) : Prop :=
  match av with
  | .ptr k ver off => withKey m k ver fun _ => K (.ptr k ver off)
  | .pcell x => K (.pcell x)
  | .clo f ks => K (.clo f ks)
  | _ => False

def plK (K : AV → Prop) (v : Value) : Prop := K (.pl v)

/-- what a quiet operation yields -/
def qK (P : Program) (Γ : Env) (m : Nat → Option Blk) (ev : Operand → AV) (op : Op) (K : AV → Prop) : Prop :=
  match op with
  | .move x => K (ev x)
  | .assign x => K (ev x)
  | .pick c a b => (match ev c with
    | .pl (.bool t) => K (if t then ev a else ev b)
    | _ => False)
  | .load t a => loadK P m t (ev a) K
  | .nilCheck x => nilK m (ev x) K
  | .binOp op t x y _ => (match ev x, ev y with
    | .pl a, .pl b => binK P op t a b (plK K)
    | _, _ => False)
  | .unOp op _ x => (match ev x with
    | .pl a => unK op a (plK K)
    | _ => False)
  | .convert src dst x => convK P m src dst (ev x) K
  | .sliceToArrayPointer t x => toArrK P m t (ev x) K
  | .slice t x none none none => sliceK P m t (ev x) 0 none K
  | .slice t x (some lo) none none => (match ev lo with
    | .pl (.int _ l) => sliceK P m t (ev x) l none K
    | _ => False)
  | .slice t x none (some hi) none => (match ev hi with
    | .pl (.int _ h) => sliceK P m t (ev x) 0 (some h) K
    | _ => False)
  | .slice t x (some lo) (some hi) none => (match ev lo, ev hi with
    | .pl (.int _ l), .pl (.int _ h) => sliceK P m t (ev x) l (some h) K
    | _, _ => False)
  | .fieldAddr t x f => fieldAddrK P m t (ev x) f K
  | .field t x f => (match ev x with
    | .pl v => fieldK P t v f (plK K)
    | _ => False)
  | .indexAddr t x ix => (match ev ix with
    | .pl (.int _ i) => idxAddrK P m t (ev x) i K
    | _ => False)
  | .index t x ix => (match ev x, ev ix with
    | .pl v, .pl (.int _ i) => indexK P t v i (plK K)
    | _, _ => False)
  | .extract x i => (match ev x with
    | .tup ds => (match ds[i]? with
      | some d => K d.av
      | none => False)
    | _ => False)
  | .build t parts => (match plains ev parts.toList with
    | some vs => (match buildV P t vs with
      | some v => K (.pl v)
      | none => False)
    | none => False)
  | .makeFunc (.func f) ⟨[]⟩ caps => (match capsOf ev caps.toList with
    | some ks => K (.clo f ks)
    | none => False)
  | .call { callee := .value f, args, .. } => callK Γ m ev (ev f) args.toList K
  | .call { callee := .builtin .len, args := ⟨[x]⟩, argTypes := ⟨[t]⟩ } => (match ev x with
    | .sl k ver off n => withKey m k ver fun _ => lenK P t (.sl k ver off n) K
    | av => lenK P t av K)
  | .call { callee := .builtin .min, args, .. } => mmK false ev args.toList K
  | .call { callee := .builtin .max, args, .. } => mmK true ev args.toList K
  | _ => False

/-- wherever the operands read so -/
def Quiet (P : Program) (m : Nat → Option Blk) (ev : Operand → AV) (o : Oper) (r : AV) : Prop :=
  ∀ (base : Nat) (w : World) (ρ : Nat → Option Nat) (a : Act), Keys base w ρ m → (∀ x ∈ o.op.operands, RelV base w ρ m (a.eval x) (ev x)) →
    Does P (fun v w' => RelV base w' ρ m v r ∧ Below w.heap.size w w') ((execOp a.eval o).run P w)

theorem Quiet.of_run {P : Program} {m : Nat → Option Blk} {ev : Operand → AV} {o : Oper} {r : AV}
    (h : ∀ (base : Nat) (w : World) (ρ : Nat → Option Nat) (a : Act), Keys base w ρ m → (∀ x ∈ o.op.operands, RelV base w ρ m (a.eval x) (ev x)) →
      ∃ v, (execOp a.eval o).run P w = .ok (.value v) w ∧ RelV base w ρ m v r) : Quiet P m ev o r := by
  intro base w ρ a hk hr
  obtain ⟨v, h1, h2⟩ := h base w ρ a hk hr
  rw [h1]
  exact ⟨h2, Below.refl _ _⟩

theorem max2_int {P : Program} (k k' : IntKind) (a b : Int) (w : World) : (Builtin.max2 (.int k a) (.int k' b)).run P w = .ok (.int k (if a < b then b else a)) w := by
  simp [Builtin.max2]

theorem min2_int {P : Program} (k k' : IntKind) (a b : Int) (w : World) : (Builtin.min2 (.int k a) (.int k' b)).run P w = .ok (.int k (if b < a then b else a)) w := by
  simp [Builtin.min2]

theorem mmK_sound {P : Program} {isMax : Bool} {ev : Operand → AV} {args : List Operand} {K : AV → Prop} (h : mmK isMax ev args K) :
    ∃ r, K r ∧ ∀ (val : Operand → Value) (ts : Array TypeId) (ty : TypeId) (w : World), (∀ x ∈ args, ∀ v, ev x = .pl v → val x = v) →
      ∃ v, (if isMax then Builtin.max_ ts ty (args.map val).toArray else Builtin.min_ ts ty (args.map val).toArray).run P w = .ok v w ∧ r = .pl v := by
  unfold mmK at h
  split at h
  · rename_i x y
    split at h
    · rename_i k a k' b hx hy
      refine ⟨_, h, fun val ts ty w hv => ?_⟩
      have e1 := hv x (by simp) _ hx
      have e2 := hv y (by simp) _ hy
      refine ⟨_, ?_, rfl⟩
      cases isMax
      · simp [Builtin.min_, e1, e2, min2_int]
      · simp [Builtin.max_, e1, e2, max2_int]
    · exact h.elim
  · exact h.elim

theorem qK_sound {P : Program} {Γ : Env} (hΓ : Γ.ok P) {m : Nat → Option Blk} {ev : Operand → AV} {o : Oper} {K : AV → Prop} (h : qK P Γ m ev o.op K) :
    ∃ r, K r ∧ Quiet P m ev o r := by
  obtain ⟨dst, op, ty, pos, after, guard⟩ := o
  simp only at h
  unfold qK at h
  split at h
  · exact ⟨_, h, .of_run fun base w ρ a hk hr => ⟨_, rfl, hr _ (by simp [Op.operands])⟩⟩
  · exact ⟨_, h, .of_run fun base w ρ a hk hr => ⟨_, rfl, hr _ (by simp [Op.operands])⟩⟩
  · rename_i c x y
    split at h
    · rename_i t hc
      refine ⟨_, h, .of_run fun base w ρ a hk hr => ?_⟩
      have e1 := hr c (by simp [Op.operands])
      rw [hc] at e1
      have e1' : a.eval c = .bool t := e1
      refine ⟨if t then a.eval x else a.eval y, ?_, ?_⟩
      · simp [execOp, e1', asBool]
      · cases t
        · exact hr y (by simp [Op.operands])
        · exact hr x (by simp [Op.operands])
    · exact h.elim
  · rename_i t x
    obtain ⟨r, hK, hs⟩ := loadK_sound h
    refine ⟨r, hK, .of_run fun base w ρ a hk hr => ?_⟩
    obtain ⟨v, hv, hrel⟩ := hs base w ρ (a.eval x) hk (hr x (by simp [Op.operands]))
    exact ⟨v, by simp [execOp, hv], hrel⟩
  · rename_i x
    unfold nilK at h
    split at h
    · rename_i k ver off hx
      have hwk := withKey_elim h
      obtain ⟨blk, hm, hver, hK⟩ := hwk
      refine ⟨_, hK, .of_run fun base w ρ a hk hr => ?_⟩
      have e1 := hr x (by simp [Op.operands])
      rw [hx] at e1
      obtain ⟨blk', hm', hle, hp⟩ := e1
      rw [hm] at hm'; cases hm'
      obtain ⟨b, hb, hv⟩ := hp hver
      exact ⟨a.eval x, by simp [execOp, hv], by rw [hv]; exact ⟨blk, hm, hle, fun _ => ⟨b, hb, rfl⟩⟩⟩
    · rename_i y hx
      refine ⟨_, h, .of_run fun base w ρ a hk hr => ?_⟩
      have e1 := hr x (by simp [Op.operands])
      rw [hx] at e1
      have e2 := e1
      obtain ⟨b, o, hv, _⟩ := e2
      exact ⟨a.eval x, by simp [execOp, hv], e1⟩
    · rename_i f ks hx
      refine ⟨_, h, .of_run fun base w ρ a hk hr => ?_⟩
      have e1 := hr x (by simp [Op.operands])
      rw [hx] at e1
      have e2 := e1
      obtain ⟨vs, hv, _⟩ := e2
      exact ⟨a.eval x, by simp [execOp, hv], e1⟩
    · exact h.elim
  · rename_i op t x y yt
    split at h
    · rename_i u z hx hy
      obtain ⟨v, hv, hK⟩ := binK_sound h
      refine ⟨_, hK, .of_run fun base w ρ a hk hr => ?_⟩
      have e1 := hr x (by simp [Op.operands])
      have e2 := hr y (by simp [Op.operands])
      rw [hx] at e1; rw [hy] at e2
      have e1' : a.eval x = u := e1
      have e2' : a.eval y = z := e2
      refine ⟨v, ?_, rfl⟩
      have := hv x y w
      simp only [execOp, e1', e2', Sem.run_bind, this, Result.andThen_ok, Sem.run_pure]
    · exact h.elim
  · rename_i op t x
    split at h
    · rename_i u hx
      obtain ⟨v, hv, hK⟩ := unK_sound (P := P) h
      refine ⟨_, hK, .of_run fun base w ρ a hk hr => ?_⟩
      have e1 := hr x (by simp [Op.operands])
      rw [hx] at e1
      have e1' : a.eval x = u := e1
      exact ⟨v, by simp [execOp, e1', hv], rfl⟩
    · exact h.elim
  · rename_i src dst' x
    obtain ⟨r, hK, hs⟩ := convK_sound h
    refine ⟨r, hK, .of_run fun base w ρ a hk hr => ?_⟩
    obtain ⟨v, hv, hrel⟩ := hs base w ρ (a.eval x) hk (hr x (by simp [Op.operands]))
    exact ⟨v, by simp [execOp, hv], hrel⟩
  · rename_i t x
    obtain ⟨r, hK, hs⟩ := toArrK_sound h
    refine ⟨r, hK, .of_run fun base w ρ a hk hr => ?_⟩
    obtain ⟨v, hv, hrel⟩ := hs base w ρ (a.eval x) hk (hr x (by simp [Op.operands]))
    exact ⟨v, by simp [execOp, hv], hrel⟩
  · rename_i t x
    obtain ⟨r, hK, hs⟩ := sliceK_sound h
    refine ⟨r, hK, .of_run fun base w ρ a hk hr => ?_⟩
    obtain ⟨v, hv, hrel⟩ := hs base w ρ (a.eval x) none none hk (hr x (by simp [Op.operands])) rfl rfl
    exact ⟨v, by simp [execOp, hv], hrel⟩
  · rename_i t x lo
    split at h
    · rename_i k l hl
      obtain ⟨r, hK, hs⟩ := sliceK_sound h
      refine ⟨r, hK, .of_run fun base w ρ a hk hr => ?_⟩
      have e1 := hr lo (by simp [Op.operands])
      rw [hl] at e1
      have e1' : a.eval lo = .int k l := e1
      obtain ⟨v, hv, hrel⟩ := hs base w ρ (a.eval x) (some (a.eval lo)) none hk (hr x (by simp [Op.operands])) (by rw [e1']; rfl) rfl
      exact ⟨v, by simp [execOp, hv], hrel⟩
    · exact h.elim
  · rename_i t x hi
    split at h
    · rename_i k l hl
      obtain ⟨r, hK, hs⟩ := sliceK_sound h
      refine ⟨r, hK, .of_run fun base w ρ a hk hr => ?_⟩
      have e1 := hr hi (by simp [Op.operands])
      rw [hl] at e1
      have e1' : a.eval hi = .int k l := e1
      obtain ⟨v, hv, hrel⟩ := hs base w ρ (a.eval x) none (some (a.eval hi)) hk (hr x (by simp [Op.operands])) rfl ⟨k, by rw [e1']⟩
      exact ⟨v, by simp [execOp, hv], hrel⟩
    · exact h.elim
  · rename_i t x lo hi
    split at h
    · rename_i k l k' l' hl hl'
      obtain ⟨r, hK, hs⟩ := sliceK_sound h
      refine ⟨r, hK, .of_run fun base w ρ a hk hr => ?_⟩
      have e1 := hr lo (by simp [Op.operands])
      have e2 := hr hi (by simp [Op.operands])
      rw [hl] at e1; rw [hl'] at e2
      have e1' : a.eval lo = .int k l := e1
      have e2' : a.eval hi = .int k' l' := e2
      obtain ⟨v, hv, hrel⟩ := hs base w ρ (a.eval x) (some (a.eval lo)) (some (a.eval hi)) hk (hr x (by simp [Op.operands])) (by rw [e1']; rfl) ⟨k', by rw [e2']⟩
      exact ⟨v, by simp [execOp, hv], hrel⟩
    · exact h.elim
  · rename_i t x f
    obtain ⟨r, hK, hs⟩ := fieldAddrK_sound h
    refine ⟨r, hK, .of_run fun base w ρ a hk hr => ?_⟩
    obtain ⟨v, hv, hrel⟩ := hs base w ρ (a.eval x) hk (hr x (by simp [Op.operands]))
    exact ⟨v, by simp [execOp, hv], hrel⟩
  · rename_i t x f
    split at h
    · rename_i u hx
      obtain ⟨v, hK, hv⟩ := fieldK_sound h
      refine ⟨_, hK, .of_run fun base w ρ a hk hr => ?_⟩
      have e1 := hr x (by simp [Op.operands])
      rw [hx] at e1
      have e1' : a.eval x = u := e1
      exact ⟨v, by simp [execOp, e1', hv], rfl⟩
    · exact h.elim
  · rename_i t x ix
    split at h
    · rename_i k i hi
      obtain ⟨r, hK, hs⟩ := idxAddrK_sound h
      refine ⟨r, hK, .of_run fun base w ρ a hk hr => ?_⟩
      have e1 := hr ix (by simp [Op.operands])
      rw [hi] at e1
      have e1' : a.eval ix = .int k i := e1
      obtain ⟨v, hv, hrel⟩ := hs base w ρ (a.eval x) k hk (hr x (by simp [Op.operands]))
      exact ⟨v, by simp [execOp, e1', hv], hrel⟩
    · exact h.elim
  · rename_i t x ix
    split at h
    · rename_i u k i hx hi
      obtain ⟨v, hK, hv⟩ := indexK_sound h
      refine ⟨_, hK, .of_run fun base w ρ a hk hr => ?_⟩
      have e1 := hr x (by simp [Op.operands])
      have e2 := hr ix (by simp [Op.operands])
      rw [hx] at e1; rw [hi] at e2
      have e1' : a.eval x = u := e1
      have e2' : a.eval ix = .int k i := e2
      exact ⟨v, by simp [execOp, e1', e2', hv], rfl⟩
    · exact h.elim
  · rename_i x i
    split at h
    · rename_i ds hx
      split at h
      · rename_i d hd
        refine ⟨_, h, .of_run fun base w ρ a hk hr => ?_⟩
        have e1 := hr x (by simp [Op.operands])
        rw [hx] at e1
        obtain ⟨vs, hv, hrel⟩ := e1
        have : ∀ {vs : List Value} {ds : List DV} {i : Nat} {d : DV}, DV.rels w (fun b => base ≤ b ∧ ∀ k, ρ k ≠ some b) vs ds → ds[i]? = some d → ∃ v, vs[i]? = some v ∧ DV.rel w (fun b => base ≤ b ∧ ∀ k, ρ k ≠ some b) v d := by
          intro vs
          induction vs with
          | nil => intro ds i d h1 h2; cases ds <;> simp [DV.rels] at h1; simp at h2
          | cons v vs ih =>
            intro ds i d h1 h2
            cases ds with
            | nil => simp [DV.rels] at h1
            | cons d0 ds =>
              cases i with
              | zero => simp at h2; subst h2; exact ⟨v, by simp, h1.1⟩
              | succ i => obtain ⟨v', h3, h4⟩ := ih h1.2 (by simpa using h2); exact ⟨v', by simpa using h3, h4⟩
        obtain ⟨v, hv1, hv2⟩ := this hrel hd
        refine ⟨v, ?_, DV.av_sound hv2⟩
        simp [execOp, hv, Instr.extract, hv1]
      · exact h.elim
    · exact h.elim
  · rename_i t parts
    split at h
    · rename_i vs hvs
      split at h
      · rename_i v hv
        refine ⟨_, h, .of_run fun base w ρ a hk hr => ?_⟩
        have := plains_sound (val := a.eval) (fun p hp v hv => by
          have := hr p.2 (by simp only [Op.operands, List.mem_toArray, List.mem_map]; exact ⟨p, hp, rfl⟩)
          rw [hv] at this
          exact this) hvs
        refine ⟨v, ?_, rfl⟩
        have h2 := buildV_sound hv w
        rw [← this] at h2
        have e : (Array.map (fun (x : Nat × Operand) => match x with | (i, x) => (i, a.eval x)) parts) = (List.map (fun (x : Nat × Operand) => match x with | (i, x) => (i, a.eval x)) parts.toList).toArray := by
          apply Array.ext'; simp
        simp only [execOp, e, Sem.run_bind, h2, Result.andThen_ok, Sem.run_pure]
      · exact h.elim
    · exact h.elim
  · rename_i f caps
    split at h
    · rename_i ks hks
      refine ⟨_, h, .of_run fun base w ρ a hk hr => ?_⟩
      obtain ⟨h1, h2⟩ := capsOf_sound (val := a.eval) (fun x hx => hr x (by simp [Op.operands]; simpa using hx)) hks
      refine ⟨.func (.func f) #[] (caps.toList.map a.eval).toArray, ?_, caps.toList.map a.eval, rfl, h1, h2⟩
      have e : caps.map a.eval = (caps.toList.map a.eval).toArray := by apply Array.ext'; simp
      simp [execOp, Instr.makeFunc]
      exact e
    · exact h.elim
  · rename_i f args ats
    unfold callK at h
    split at h
    · rename_i fid ks hf
      split at h
      · rename_i g hg
        split at h
        · rename_i ds hds
          split at h
          · rename_i cs hcs
            obtain ⟨r, hgr, hK, hsp⟩ := optK_elim (P := P) (f := fid) (ds := ds ++ cs) h
            refine ⟨_, hK, fun base w ρ a hk hr => ?_⟩
            have e1 := hr f (by simp [Op.operands, Call.operands])
            rw [hf] at e1
            obtain ⟨vs, hv, hl, hp⟩ := e1
            have hcaps := capsD_sound hk hl hp hcs
            have hrels := evs_sound hk (val := a.eval) (fun x hx => hr x (by simp [Op.operands, Call.operands]; exact .inr (by simpa using hx))) hds
            have hdo := (hsp (hΓ fid g hg (ds ++ cs) r hgr)).does hk (DV.rels_append hrels hcaps)
            have e : args.map a.eval ++ vs.toArray = (args.toList.map a.eval ++ vs).toArray := by apply Array.ext'; simp
            have : (execOp a.eval { dst := dst, op := .call { callee := .value f, args := args, argTypes := ats }, type := ty, pos := pos, after := after, guard := guard }).run P w = (callFunc fid (args.toList.map a.eval ++ vs).toArray).run P w := by
              simp only [execOp, resolve, hv, Deferred.ofValue, invoke]
              simp
              rw [e]
            rw [this]
            exact hdo
          · exact h.elim
        · exact h.elim
      · exact h.elim
    · exact h.elim
  · rename_i x t
    have key : ∃ r, K r ∧ ∀ base w ρ v ty, Keys base w ρ m → RelV base w ρ m v (ev x) → ∃ y, (Builtin.len_ #[t] ty #[v]).run P w = .ok y w ∧ RelV base w ρ m y r := by
      split at h
      · rename_i k ver off n hx
        obtain ⟨blk, hm, hver, h⟩ := withKey_elim h
        obtain ⟨r, hK, hs⟩ := lenK_sound h
        refine ⟨r, hK, fun base w ρ v ty hk hv => hs base w ρ m v ty (fun k' ver' off' n' e => ?_) (by rw [← hx]; exact hv)⟩
        cases e
        exact ⟨blk, hm, hver⟩
      · rename_i hne
        obtain ⟨r, hK, hs⟩ := lenK_sound h
        exact ⟨r, hK, fun base w ρ v ty hk hv => hs base w ρ m v ty (fun k' ver' off' n' e => absurd e (hne _ _ _ _)) hv⟩
    obtain ⟨r, hK, hs⟩ := key
    refine ⟨r, hK, .of_run fun base w ρ a hk hr => ?_⟩
    obtain ⟨v, hv, hrel⟩ := hs base w ρ (a.eval x) ty hk (hr x (by simp [Op.operands, Call.operands]))
    exact ⟨v, by simp [execOp, resolve, invoke, builtin, hv], hrel⟩
  · rename_i args ats
    obtain ⟨r, hK, hs⟩ := mmK_sound (P := P) h
    refine ⟨r, hK, .of_run fun base w ρ a hk hr => ?_⟩
    obtain ⟨v, hv, rfl⟩ := hs a.eval ats ty w (fun x hx v hv => by
      have := hr x (by simp [Op.operands, Call.operands]; simpa using hx)
      rw [hv] at this
      exact this)
    refine ⟨v, ?_, rfl⟩
    have e : args.map a.eval = (args.toList.map a.eval).toArray := by apply Array.ext'; simp
    simp only [Bool.false_eq_true, if_false] at hv
    simp [execOp, resolve, invoke, builtin, e, hv]
  · rename_i args ats
    obtain ⟨r, hK, hs⟩ := mmK_sound (P := P) h
    refine ⟨r, hK, .of_run fun base w ρ a hk hr => ?_⟩
    obtain ⟨v, hv, rfl⟩ := hs a.eval ats ty w (fun x hx v hv => by
      have := hr x (by simp [Op.operands, Call.operands]; simpa using hx)
      rw [hv] at this
      exact this)
    refine ⟨v, ?_, rfl⟩
    have e : args.map a.eval = (args.toList.map a.eval).toArray := by apply Array.ext'; simp
    simp only [if_true] at hv
    simp [execOp, resolve, invoke, builtin, e, hv]
  · exact h.elim

end Go.Vm
namespace Go.Vm
open Go Go.RowKit

def nextver (m : Nat → Option Blk) (d : Nat) : Nat :=
  match m d with
  | some b => b.ver + 1
  | none => 0

def wrL (L : List Value) (off : Nat) : List Value → List Value
  | [] => L
  | v :: vs => wrL (L.set off v) (off + 1) vs

theorem length_wrL : ∀ (vs : List Value) (L : List Value) (off : Nat), (wrL L off vs).length = L.length
  | [], _, _ => rfl
  | v :: vs, L, off => by rw [wrL, length_wrL vs]; simp

theorem wrL_append : ∀ (vs : List Value) (L R : List Value) (off : Nat), off + vs.length ≤ L.length → wrL (L ++ R) off vs = wrL L off vs ++ R
  | [], _, _, _, _ => rfl
  | v :: vs, L, R, off, h => by
    simp only [List.length_cons] at h
    rw [wrL, wrL, List.set_append_left _ _ (by omega), wrL_append vs _ R _ (by simp; omega)]

theorem wrL_end : ∀ (vs : List Value) (L R : List Value), vs.length ≤ R.length → wrL (L ++ R) L.length vs = L ++ vs ++ R.drop vs.length
  | [], _, _, _ => by simp [wrL]
  | v :: vs, L, [], h => by simp at h
  | v :: vs, L, r :: R, h => by
    simp only [List.length_cons] at h
    rw [wrL]
    have : (L ++ r :: R).set L.length v = (L ++ [v]) ++ R := by simp
    rw [this]
    have h2 := wrL_end vs (L ++ [v]) R (by omega)
    rw [List.length_append] at h2
    simp only [List.length_cons, List.length_nil, Nat.zero_add] at h2
    rw [h2]
    simp

/-- one block has turned, nothing else -/
structure BlkSet (w w' : World) (b : Nat) (o : Obj) : Prop where
  os : w'.os = w.os
  tape : w'.tape = w.tape
  output : w'.output = w.output
  size : w'.heap.size = w.heap.size
  here : w'.heap[b]? = some o
  other : ∀ k, k ≠ b → w'.heap[k]? = w.heap[k]?

def fzOk (fz : Nat × Nat) (n : Nat) : Prop := fz.2 ≤ fz.1 ∨ n ≤ fz.1

theorem run_store_blk {P : Program} {w : World} {b : Nat} {c : Array Value} {e : TypeId} {fz : Nat × Nat} (h : w.heap[b]? = some (.cells c e fz)) (hf : fzOk fz c.size) (off : Nat) (ho : off < c.size) (v : Value) (hv : v.oneCell' = true) :
    ∃ w', (store ⟨b, off, none⟩ v).run P w = .ok () w' ∧ BlkSet w w' b (.cells (c.setIfInBounds off v) e fz) := by
  have hc : w.cell? ⟨b, off, none⟩ = some c[off] := by rw [cell_of_blk h]; simp [ho]
  have hfr : w.frozen? ⟨b, off, none⟩ = false := by
    simp only [World.frozen?, h]
    rcases hf with hf | hf
    · simp; omega
    · simp; omega
  refine ⟨w.setCell ⟨b, off, none⟩ v, ?_, ?_⟩
  · rw [run_store P w _ v _ hv, hc]
    simp [hfr]
  · have hlt := (Array.getElem?_eq_some_iff.1 h).1
    have hge := (Array.getElem?_eq_some_iff.1 h).2
    refine ⟨rfl, rfl, rfl, by simp [World.setCell], ?_, fun k hk => ?_⟩
    · simp only [World.setCell]
      rw [Array.getElem?_modify, if_pos rfl, h]
      simp
    · simp only [World.setCell]
      rw [Array.getElem?_modify, if_neg (fun e => hk e.symm)]

theorem BlkSet.trans {w1 w2 w3 : World} {b : Nat} {o o' : Obj} (h : BlkSet w1 w2 b o) (h' : BlkSet w2 w3 b o') : BlkSet w1 w3 b o' :=
  ⟨h'.os.trans h.os, h'.tape.trans h.tape, h'.output.trans h.output, h'.size.trans h.size, h'.here, fun k hk => (h'.other k hk).trans (h.other k hk)⟩

theorem run_storeCells {P : Program} {b : Nat} {e : TypeId} {fz : Nat × Nat} (off : Nat) : ∀ (vs : List Value) (i : Nat) (c : Array Value) (w : World), w.heap[b]? = some (.cells c e fz) → fzOk fz c.size →
    off + i + vs.length ≤ c.size → (∀ v ∈ vs, v.oneCell' = true) →
    ∃ w' c', (storeCells ⟨b, off, none⟩ vs i).run P w = .ok () w' ∧ BlkSet w w' b (.cells c' e fz) ∧ c'.toList = wrL c.toList (off + i) vs
  | [], i, c, w, h, _, _, _ => ⟨w, c, by simp [storeCells], ⟨rfl, rfl, rfl, rfl, h, fun _ _ => rfl⟩, rfl⟩
  | v :: vs, i, c, w, h, hf, hn, h1 => by
    simp only [List.length_cons] at hn
    obtain ⟨w1, hr1, hb1⟩ := run_store_blk (P := P) h hf (off + i) (by omega) v (h1 v (by simp))
    obtain ⟨w2, c2, hr2, hb2, hc2⟩ := run_storeCells (P := P) off vs (i + 1) (c.setIfInBounds (off + i) v) w1 hb1.here (by simpa using hf) (by simp; omega) (fun u hu => h1 u (by simp [hu]))
    refine ⟨w2, c2, ?_, hb1.trans hb2, ?_⟩
    · simp only [storeCells, Sem.run_bind, Addr.add_lit, hr1, Result.andThen_ok, hr2]
    · rw [hc2, wrL, Array.toList_setIfInBounds, Nat.add_assoc]

/-! ### The relation -/
theorem Rel.blk {n : Nat} {w0 w w' : World} {ρ : Nat → Option Nat} {T : Nat → AV} {m : Nat → Option Blk} {a : Act} (h : Rel n w0 ρ T m a w) {k b : Nat} (hk : ρ k = some b) {blk blk' : Blk} (hm : m k = some blk)
    {c c' : Array Value} {e : TypeId} {fz fz' : Nat × Nat} (hc : w.heap[b]? = some (.cells c e fz)) (hs : BlkSet w w' b (.cells c' blk'.elem fz')) (hpre : ∃ rest, c'.toList = blk'.cells ++ rest) (hf : fzOk fz' c'.size)
    (hver : (blk'.ver = blk.ver ∧ blk'.cells.length = blk.cells.length ∧ c'.size = c.size) ∨ blk.ver < blk'.ver) :
    Rel n w0 ρ T (fun j => if k = j then some blk' else m j) a w' := by
  have hge := h.keys.ge hk
  have hlt := h.keys.lt hk
  refine ⟨h.defers, h.size, ?_, ⟨by rw [hs.size]; exact h.keys.bnd, ?_, ?_, h.keys.inj⟩, fun j => ?_⟩
  · exact h.below.trans ⟨hs.os, hs.tape, hs.output, by rw [hs.size]; exact Nat.le_refl _, fun i hi => hs.other i (by omega)⟩
  · intro k' blk'' hk'
    by_cases e1 : k = k'
    · subst e1
      simp at hk'
      subst hk'
      exact .inr ⟨b, hk, hge, c', fz', hs.here, hpre, hf⟩
    · simp [e1] at hk'
      rcases h.keys.keys k' blk'' hk' with h1 | ⟨b', hb', h2⟩
      · exact .inl h1
      · refine .inr ⟨b', hb', h2.ext fun _ => hs.other b' fun e2 => e1 ?_⟩
        subst e2
        exact h.keys.inj _ _ _ hk hb'
  · intro k' hk'
    by_cases e1 : k = k'
    · simp [e1] at hk'
    · simp [e1] at hk'
      exact h.keys.nokey k' hk'
  · have hj := h.tmps j
    generalize a.tmps.getD j undef = v at hj
    cases hav : T j with
    | pl x => rw [hav] at hj; exact hj
    | vec fr xs =>
      rw [hav] at hj
      exact VecAt.mono hj (fun b' _ hg => hs.other b' (fun e2 => hg.2 k (by rw [hk, e2]))) (fun _ _ h => h)
    | pcell x =>
      rw [hav] at hj
      obtain ⟨b', o, hv, hcc, hkk⟩ := hj
      exact ⟨b', o, hv, by rw [World.cell?_of_block (hs.other b' (fun e2 => hkk k (by rw [hk, e2])))]; exact hcc, hkk⟩
    | pblk b' cells =>
      rw [hav] at hj
      obtain ⟨hv, c0, e0, fz0, rest0, hcc, hr0, hkk⟩ := hj
      exact ⟨hv, c0, e0, fz0, rest0, by rw [hs.other b' (fun e2 => hkk k (by rw [hk, e2]))]; exact hcc, hr0, hkk⟩
    | ptr k' ver off =>
      rw [hav] at hj
      obtain ⟨blk0, hm0, hle, hp⟩ := hj
      by_cases e1 : k = k'
      · subst e1
        rw [hm] at hm0; cases hm0
        rcases hver with ⟨hv1, _, _⟩ | hv1
        · exact ⟨blk', by simp, by omega, fun e2 => hp (by omega)⟩
        · exact ⟨blk', by simp, by omega, fun e2 => by omega⟩
      · exact ⟨blk0, by simp [e1, hm0], hle, hp⟩
    | sl k' ver off len =>
      rw [hav] at hj
      obtain ⟨blk0, hm0, hle, hp⟩ := hj
      by_cases e1 : k = k'
      · subst e1
        rw [hm] at hm0; cases hm0
        rcases hver with ⟨hv1, hv2, hv3⟩ | hv1
        · refine ⟨blk', by simp, by omega, fun e2 => ?_⟩
          rcases hp (by omega) with h1 | ⟨b1, cap, c1, e', fz1, hb1, hv, hc1, h2, h3, h4⟩
          · exact .inl ⟨h1.1, h1.2.1, by omega, h1.2.2.2⟩
          · rw [hk] at hb1; cases hb1
            rw [hc] at hc1; cases hc1
            exact .inr ⟨b, cap, c', _, _, hk, hv, hs.here, by omega, h3, by omega⟩
        · exact ⟨blk', by simp, by omega, fun e2 => by omega⟩
      · refine ⟨blk0, by simp [e1, hm0], hle, fun e2 => ?_⟩
        rcases hp e2 with h1 | ⟨b1, cap, c1, e', fz1, hb1, hv, hc1, h2⟩
        · exact .inl h1
        · exact .inr ⟨b1, cap, c1, e', fz1, hb1, hv, by rw [hs.other b1 (fun e3 => e1 (h.keys.inj _ _ _ hk (e3 ▸ hb1)))]; exact hc1, h2⟩
    | tup ds =>
      rw [hav] at hj
      obtain ⟨vs, hv, hr⟩ := hj
      exact ⟨vs, hv, DV.rels_mono hr (fun b' _ hg => hs.other b' (fun e2 => hg.2 k (by rw [hk, e2]))) (fun _ _ h => h)⟩
    | clo f ks =>
      rw [hav] at hj
      obtain ⟨vs, hv, hl, hp⟩ := hj
      refine ⟨vs, hv, hl, fun i k' ver hi => ?_⟩
      obtain ⟨blk0, hm0, hle, hq⟩ := hp i k' ver hi
      by_cases e1 : k = k'
      · subst e1
        rw [hm] at hm0; cases hm0
        rcases hver with ⟨hv1, _, _⟩ | hv1
        · exact ⟨blk', by simp, by omega, fun e2 => hq (by omega)⟩
        · exact ⟨blk', by simp, by omega, fun e2 => by omega⟩
      · exact ⟨blk0, by simp [e1, hm0], hle, hq⟩
    | any => trivial

/-- a new block of the call's own under the key d -/
theorem Rel.newkey {n : Nat} {w0 w w' : World} {ρ : Nat → Option Nat} {T : Nat → AV} {m : Nat → Option Blk} {a : Act} (h : Rel n w0 ρ T m a w) (d : Nat) {blk' : Blk} (hver : ∀ blk, m d = some blk → blk.ver < blk'.ver)
    (hb : Below w.heap.size w w') {b : Nat} (hb0 : w.heap.size ≤ b) {c : Array Value} {fz : Nat × Nat} (hc : w'.heap[b]? = some (.cells c blk'.elem fz)) (hpre : ∃ rest, c.toList = blk'.cells ++ rest) (hf : fzOk fz c.size) :
    Rel n w0 (fun j => if d = j then some b else ρ j) T (fun j => if d = j then some blk' else m j) a w' := by
  have hx := h.ext hb
  have hbnd := h.keys.bnd
  refine ⟨h.defers, h.size, hx.below, ⟨hx.keys.bnd, ?_, ?_, ?_⟩, fun j => ?_⟩
  · intro k blk hk
    by_cases e1 : d = k
    · subst e1
      simp at hk
      subst hk
      exact .inr ⟨b, by simp, by omega, c, fz, hc, hpre, hf⟩
    · simp [e1] at hk
      simp only [e1, if_false]
      exact hx.keys.keys k blk hk
  · intro k hk
    by_cases e1 : d = k
    · simp [e1] at hk
    · simp [e1] at hk
      simp only [e1, if_false]
      exact h.keys.nokey k hk
  · intro k k' b' hk hk'
    by_cases e1 : d = k
    · rw [if_pos e1] at hk
      by_cases e2 : d = k'
      · omega
      · rw [if_neg e2] at hk'
        have := h.keys.lt hk'
        cases hk
        omega
    · rw [if_neg e1] at hk
      by_cases e2 : d = k'
      · rw [if_pos e2] at hk'
        have := h.keys.lt hk
        cases hk'
        omega
      · rw [if_neg e2] at hk'
        exact h.keys.inj _ _ _ hk hk'
  · have hj := h.tmps j
    generalize a.tmps.getD j undef = v at hj
    have hgd : ∀ (g : Nat → Prop), ∀ b', b' < w.heap.size → (g b' ∧ ∀ k, ρ k ≠ some b') → (g b' ∧ ∀ k, (if d = k then some b else ρ k) ≠ some b') := fun g b' hlt ⟨h1, h2⟩ => ⟨h1, fun k => by
      split
      · intro e; cases e; omega
      · exact h2 k⟩
    cases hav : T j with
    | pl x => rw [hav] at hj; exact hj
    | vec fr xs =>
      rw [hav] at hj
      exact VecAt.mono hj (fun b' hlt _ => hb.block b' hlt) (hgd _)
    | pcell x =>
      rw [hav] at hj
      obtain ⟨b', o, hv, hcc, hkk⟩ := hj
      have hlt := World.block_lt_of_cell? _ _ hcc
      exact ⟨b', o, hv, by rw [World.cell?_of_block (hb.block b' hlt)]; exact hcc, (hgd (fun _ => True) b' hlt ⟨trivial, hkk⟩).2⟩
    | pblk b' cells =>
      rw [hav] at hj
      obtain ⟨hv, c0, e0, fz0, rest0, hcc, hr0, hkk⟩ := hj
      have hlt : b' < w.heap.size := (Array.getElem?_eq_some_iff.1 hcc).1
      exact ⟨hv, c0, e0, fz0, rest0, by rw [hb.block b' hlt]; exact hcc, hr0, (hgd (fun _ => True) b' hlt ⟨trivial, hkk⟩).2⟩
    | ptr k' ver off =>
      rw [hav] at hj
      obtain ⟨blk0, hm0, hle, hp⟩ := hj
      by_cases e1 : d = k'
      · subst e1
        have := hver _ hm0
        exact ⟨blk', by simp, by omega, fun e2 => by omega⟩
      · exact ⟨blk0, by simp [e1, hm0], hle, fun e2 => by simpa [e1] using hp e2⟩
    | sl k' ver off len =>
      rw [hav] at hj
      obtain ⟨blk0, hm0, hle, hp⟩ := hj
      by_cases e1 : d = k'
      · subst e1
        have := hver _ hm0
        exact ⟨blk', by simp, by omega, fun e2 => by omega⟩
      · refine ⟨blk0, by simp [e1, hm0], hle, fun e2 => ?_⟩
        simp only [e1, if_false]
        rcases hp e2 with h1 | ⟨b1, cap, c1, e', fz1, hb1, hv, hc1, h2⟩
        · exact .inl h1
        · exact .inr ⟨b1, cap, c1, e', fz1, hb1, hv, by rw [hb.block b1 (h.keys.lt hb1)]; exact hc1, h2⟩
    | tup ds =>
      rw [hav] at hj
      obtain ⟨vs, hv, hr⟩ := hj
      exact ⟨vs, hv, DV.rels_mono hr (fun b' hlt _ => hb.block b' hlt) (hgd _)⟩
    | clo f ks =>
      rw [hav] at hj
      obtain ⟨vs, hv, hl, hp⟩ := hj
      refine ⟨vs, hv, hl, fun i k' ver hi => ?_⟩
      obtain ⟨blk0, hm0, hle, hq⟩ := hp i k' ver hi
      by_cases e1 : d = k'
      · subst e1
        have := hver _ hm0
        exact ⟨blk', by simp, by omega, fun e2 => by omega⟩
      · exact ⟨blk0, by simp [e1, hm0], hle, fun e2 => by simpa [e1] using hq e2⟩
    | any => trivial

theorem nextver_lt {m : Nat → Option Blk} {d : Nat} : ∀ blk, m d = some blk → blk.ver < nextver m d := by
  intro blk h
  simp [nextver, h]

theorem St.mem_setm (st : St) (k : Nat) (b : Blk) : (st.setm k b).mem = fun j => if k = j then some b else st.mem j := by
  funext j
  simp [St.mem, St.setm, look]

theorem St.get_setm (st : St) (k : Nat) (b : Blk) : (st.setm k b).get = st.get := rfl

end Go.Vm
namespace Go.Vm
open Go Go.RowKit

theorem run_firstCells_vec {P : Program} {w : World} {g : Nat → Prop} {v : Value} {xs : List Value} (h : VecAt w g v xs) : (Builtin.firstCells 1 xs.length v).run P w = .ok xs.toArray w := by
  rcases h with ⟨rfl, rfl⟩ | ⟨b, o, cap, c, e, fz, rfl, hc, _, hx, h1, h2⟩
  · simp [Builtin.firstCells]
  · have := run_loadCells_blk (P := P) hc o xs.length (by omega)
    rw [hx] at this
    simp [Builtin.firstCells, this]

theorem run_lenOf_vec {P : Program} {w : World} {g : Nat → Prop} {v : Value} {xs : List Value} (h : VecAt w g v xs) : (Builtin.lenOf v).run P w = .ok xs.length w := by
  rcases h with ⟨rfl, rfl⟩ | ⟨b, o, cap, c, e, fz, rfl, _⟩
  · simp [Builtin.lenOf]
  · simp [Builtin.lenOf]

theorem VecAt.drew {w : World} {g : Nat → Prop} {v : Value} {xs : List Value} (h : VecAt w g v xs) : VecAt w.drew g v xs := VecAt.mono h (fun _ _ _ => rfl) (fun _ _ h => h)

section
variable {P : Program} {w : World} {t t2 ty e e2 : TypeId} {i : TypeInfo} {z : Value}

/-- an append that finds room -/
theorem run_append_fit (ht : P.underlying t = some (.slice e)) (ht2 : P.underlying t2 = some (.slice e2)) (hi : P.info? e = some i) (hsz : i.size = 1)
    {b sLen sCap : Nat} {c : Array Value} {fz : Nat × Nat} {e' : TypeId} (hc : w.heap[b]? = some (.cells c e' fz)) (hf : fzOk fz c.size) {vx : Value} {ys : List Value} {g : Nat → Prop} (hx : VecAt w g vx ys)
    (hroom : sLen + ys.length ≤ sCap) (hcap : sCap ≤ c.size) (h1 : ∀ v ∈ ys, v.oneCell' = true) :
    ∃ w' c', (Builtin.append_ #[t, t2] ty #[.slice (some ⟨b, 0, none⟩) sLen sCap, vx]).run P w = .ok (.slice (some ⟨b, 0, none⟩) (sLen + ys.length) sCap) w' ∧ BlkSet w w' b (.cells c' e' fz) ∧ c'.toList = wrL c.toList sLen ys := by
  obtain ⟨w', c', hr, hb, hc'⟩ := run_storeCells (P := P) sLen ys 0 c w hc hf (by omega) h1
  refine ⟨w', c', ?_, hb, by simpa using hc'⟩
  simp [Builtin.append_, run_underlying ht, run_underlying ht2, sizeOf, typeInfo, hi, hsz, run_lenOf_vec hx, hroom, run_firstCells_vec hx, Addr.add_lit, hr]

/-- an append that makes a new row -/
theorem run_append_more (ht : P.underlying t = some (.slice e)) (ht2 : P.underlying t2 = some (.slice e2)) (hi : P.info? e = some i) (hsz : i.size = 1) (hz : i.zero = some z)
    {base : Option Addr} {sLen sCap : Nat} {olds : List Value} {g' : Nat → Prop} (hs : VecAt w g' (.slice base sLen sCap) olds) {vx : Value} {ys : List Value} {g : Nat → Prop} (hx : VecAt w g vx ys)
    (hzc : z.cells = #[z]) (hroom : sCap < sLen + ys.length) (hfit : (sLen + ys.length) * i.bytes ≤ 140737488355328) (h63 : sLen + ys.length ≤ 140737488355328) :
    ∃ cap rest, (Builtin.append_ #[t, t2] ty #[.slice base sLen sCap, vx]).run P w = .ok (.slice (some ⟨w.heap.size, 0, none⟩) (sLen + ys.length) cap) (w.drew.alloc (.cells (olds.toArray ++ ys.toArray ++ rest) e)) ∧
      cap = (olds.toArray ++ ys.toArray ++ rest).size := by
  have hlen : olds.length = sLen := by
    rcases hs with ⟨rfl, he⟩ | ⟨b, o, cap, c, e, fz, he, _⟩
    · cases he; rfl
    · cases he; rfl
  have hn : ¬ (sLen + ys.length ≤ sCap) := by omega
  have h1 : ¬ ((9223372036854775807 : Int) < ((sLen : Int) + (ys.length : Int))) := by omega
  have h2 : ¬ (281474976710656 < Builtin.nextslicecap (sLen + ys.length) sCap * i.bytes) := by
    have := growslice_fits (old := sCap) (need := sLen + ys.length) (bytes := i.bytes) hroom hfit
    omega
  have hge := grownCap_ge w (sLen + ys.length) sCap e
  refine ⟨grownCap w (sLen + ys.length) sCap e, Builtin.zeroCells z.cells (grownCap w (sLen + ys.length) sCap e - (sLen + ys.length)), ?_, ?_⟩
  · have hf1 := run_firstCells_vec (P := P) (VecAt.drew hs)
    have hf2 := run_firstCells_vec (P := P) (VecAt.drew hx)
    rw [hlen] at hf1
    simp [Builtin.append_, run_underlying ht, run_underlying ht2, sizeOf, typeInfo, hi, hsz, run_lenOf_vec hx, hn, h1, h2, Question.forced, hf1, hf2, zeroValue, hz, newRow, grownCap]
    have ea : ∀ r : Array Value, olds.toArray ++ (ys.toArray ++ r) = (olds ++ ys).toArray ++ r := fun r => by apply Array.ext'; simp
    rw [ea]
  · simp [size_zeroCells, hzc, hlen]
    omega
end

/-- made rows -/
theorem run_make_row {P : Program} {w : World} {t e : TypeId} {i : TypeInfo} {z : Value} (ht : P.underlying t = some (.slice e)) (hi : P.info? e = some i) (hsz : i.size = 1) (hz : i.zero = some z) (hzc : z.cells = #[z])
    (kl kc : IntKind) (l : Int) (h0 : 0 ≤ l) (hbytes : (i.bytes : Int) * l ≤ 281474976710656) (h63 : l ≤ 9223372036854775807) :
    ∃ c, (Instr.makeSlice t (.int kl l) (.int kc l)).run P w = .ok (.slice (some ⟨w.heap.size, 0, none⟩) l.toNat l.toNat) (w.alloc (.cells c e)) ∧ c.toList = List.replicate l.toNat z := by
  have hr := run_make (P := P) w t e i z ht hi hz kl kc l l h0 (Int.le_refl _) hbytes h63
  rw [hsz, Nat.mul_one] at hr
  refine ⟨_, hr, ?_⟩
  rw [hzc, toList_madeCells_one]

/-- the values of parts that stand one behind the other -/
def seqParts : Nat → List (Nat × Value) → Option (List Value)
  | _, [] => some []
  | k, (i, v) :: r => if i = k ∧ v.oneCell' = true then (match seqParts (k + 1) r with
    | some vs => some (v :: vs)
    | none => none) else none

theorem cells_one {v : Value} (h : v.oneCell' = true) : v.cells = #[v] := by
  cases v <;> first | rfl | cases h

theorem fill_seq : ∀ (parts : List (Nat × Value)) (k : Nat) (vs : List Value) (cells : Array Value), seqParts k parts = some vs → k + vs.length ≤ cells.size →
    ∃ c', Instr.fill (fun i => some (i * 1, 1)) cells parts = some c' ∧ c'.toList = wrL cells.toList k vs
  | [], k, vs, cells, h, _ => by cases h; exact ⟨cells, rfl, rfl⟩
  | (i, v) :: r, k, vs, cells, h, hn => by
    unfold seqParts at h
    split at h
    · rename_i hc
      split at h
      · rename_i vs' hvs
        cases h
        obtain ⟨rfl, h1⟩ := hc
        simp only [List.length_cons] at hn
        obtain ⟨c', hf, hc'⟩ := fill_seq r (i + 1) vs' (cells.setIfInBounds i v) hvs (by simp; omega)
        refine ⟨c', ?_, by rw [hc', Array.toList_setIfInBounds]; rfl⟩
        have hnot : ¬ (cells.size < i + 1) := by omega
        simp only [Instr.fill, cells_one h1]
        simp [hnot]
        have e : (fun (i : Nat) => some (i * 1, 1)) = fun i => some (i, 1) := by funext i; simp
        rw [e] at hf
        exact hf
      · cases h
    · cases h

theorem run_buildSlice {P : Program} {w : World} {t e : TypeId} {z : Value} (ht : P.underlying t = some (.slice e)) (hs : szOf P e = some 1) (hz : (P.info? e).bind (·.zero) = some z)
    {parts : List (Nat × Value)} {vs : List Value} (hp : seqParts 0 parts = some vs) (hn : vs.length ≤ 1000) :
    ∃ c, (Instr.buildSlice t vs.length parts.toArray).run P w = .ok (.slice (some ⟨w.heap.size, 0, none⟩) vs.length vs.length) (w.alloc (.cells c e)) ∧ c.toList = vs := by
  have hle : ¬ (16777216 < vs.length) := by omega
  have hw : ∀ (A : Array Value), A.size = vs.length → ∃ c', Instr.fill (fun i => some (i * 1, 1)) A parts = some c' ∧ c'.toList = vs := fun A hA => by
    obtain ⟨c', h1, h2⟩ := fill_seq parts 0 vs A hp (by omega)
    refine ⟨c', h1, ?_⟩
    have := wrL_end vs [] A.toList (by simp [hA])
    simp only [List.nil_append, List.length_nil] at this
    rw [h2, this, List.drop_of_length_le (by simp [hA])]
    simp
  by_cases h0 : vs.length = 0
  · have hv : vs = [] := List.eq_nil_of_length_eq_zero h0
    subst hv
    have hpn : parts = [] := by
      cases parts with
      | nil => rfl
      | cons p r =>
        simp only [seqParts] at hp
        split at hp
        · split at hp <;> cases hp
        · cases hp
    subst hpn
    refine ⟨#[], ?_, rfl⟩
    unfold Instr.buildSlice
    simp [run_underlying ht, run_sizeOf hs, Instr.fill, newRow, Array.range_zero']
  · have hne : vs ≠ [] := fun e => h0 (by simp [e])
    obtain ⟨c', h1, h2⟩ := hw ((Array.range (vs.length * 1)).map (fun i => z.cells[i % z.cells.size]!)) (by simp)
    refine ⟨c', ?_, h2⟩
    unfold Instr.buildSlice
    simp only [Sem.run_bind, run_underlying ht, Result.andThen_ok, run_sizeOf hs]
    rw [if_neg (by simpa using hle), if_neg (by simpa using h0)]
    simp only [Sem.run_bind, run_zero hz, Result.andThen_ok, Sem.run_pure]
    rw [h1]
    simp [newRow]

end Go.Vm
namespace Go.Vm
open Go Go.RowKit

def dOk (d : Option Nat) (n : Nat) : Prop :=
  match d with
  | some x => x < n
  | none => True

theorem dOk.out {d : Option Nat} {n : Nat} (h : dOk d n) : ∀ x, d = some x → x < n := fun x e => by subst e; exact h

/-- a new block of the call's own under the key of the slot that is written -/
def newK (n : Nat) (st : St) (d : Option Nat) (t : TypeId) (cells : List Value) (mk : Nat → Nat → AV) (K : St → Prop) : Prop :=
  match d with
  | some d => d < n ∧ K ((st.setm d ⟨nextver st.mem d, t, cells⟩).set d (mk d (nextver st.mem d)))
  | none => False

def storeK (P : Program) (st : St) (d : Option Nat) (t : TypeId) (a x : AV) (K : St → Prop) : Prop :=
  match d, a, x with
  | none, .ptr k ver off, .pl v => (match st.mem k with
    | some blk => ver = blk.ver ∧ szOf P t = some v.cells.size ∧ off + v.cells.size ≤ blk.cells.length ∧ v.cells.toList.all Value.oneCell' = true ∧
      K (st.setm k ⟨blk.ver, blk.elem, wrL blk.cells off v.cells.toList⟩)
    | none => False)
  | _, _, _ => False

/-- the element type of a slice type, if its elements are of one cell -/
structure Row1 (P : Program) (t e : TypeId) (z : Value) (bytes : Nat) : Prop where
  ht : P.underlying t = some (.slice e)
  row : ∃ i, P.info? e = some i ∧ i.size = 1 ∧ i.zero = some z ∧ i.bytes = bytes
  hzc : z.cells = #[z]

def oneCellZ : Value → Bool
  | .agg _ => false
  | _ => true

/-- a slice type's element type, its zero value and bytes, if its elements are of one cell -/
def rowOf (P : Program) (t : TypeId) : Option (TypeId × Value × Nat) :=
  match P.underlying t with
  | some (.slice e) => (match P.info? e with
    | some i => (match i.zero with
      | some z => if i.size = 1 ∧ oneCellZ z = true then some (e, z, i.bytes) else none
      | none => none)
    | none => none)
  | _ => none

theorem rowOf_row {P : Program} {t e : TypeId} {z : Value} {bytes : Nat} (h : rowOf P t = some (e, z, bytes)) : Row1 P t e z bytes := by
  unfold rowOf at h
  split at h
  · rename_i e' ht
    split at h
    · rename_i i hi
      split at h
      · rename_i z' hz
        split at h
        · rename_i hc
          cases h
          refine ⟨ht, ⟨i, hi, hc.1, hz, rfl⟩, ?_⟩
          have := hc.2
          cases z <;> first | rfl | cases this
        · cases h
      · cases h
    · cases h
  · cases h

def isSl (P : Program) (t : TypeId) : Bool :=
  match P.underlying t with
  | some (.slice _) => true
  | _ => false

def appK (P : Program) (n : Nat) (st : St) (d : Option Nat) (t t2 : TypeId) (s x : AV) (K : St → Prop) : Prop :=
  match rowOf P t, isSl P t2, d with
  | some (e, _, bytes), true, some d => d < n ∧
    (match x.cont st.mem with
    | some ys => ys.all Value.oneCell' = true ∧
      (match s with
      | .pl v => isNil v = true ∧ 0 < ys.length ∧ ys.length * bytes ≤ 140737488355328 ∧ ys.length ≤ 140737488355328 ∧
          K ((st.setm d ⟨nextver st.mem d, e, ys⟩).set d (.sl d (nextver st.mem d) 0 ys.length))
      | .sl k ver off len => off = 0 ∧ (match st.mem k with
        | some blk => ver = blk.ver ∧ len = blk.cells.length ∧ blk.elem = e ∧ (len + ys.length) * bytes ≤ 140737488355328 ∧ len + ys.length ≤ 140737488355328 ∧
          K ((st.setm k ⟨ver + 1, e, blk.cells ++ ys⟩).set d (.sl k (ver + 1) 0 (len + ys.length)))
        | none => False)
      | _ => False)
    | none => False)
  | _, _, _ => False

def copyK (P : Program) (n : Nat) (st : St) (dst : Option Nat) (t : TypeId) (d x : AV) (K : St → Prop) : Prop :=
  (match P.underlying t with
  | some (.slice e) => szOf P e = some 1
  | _ => False) ∧ dOk dst n ∧
  match d, x with
  | .sl k ver off len, .pl (.string s) => (match st.mem k with
    | some blk => ver = blk.ver ∧ off + len ≤ blk.cells.length ∧ 0 < len ∧
      K ((st.setm k ⟨blk.ver, blk.elem, wrL blk.cells off ((s.data.toList.take (min s.size len)).map fun b => Value.int .u8 b.toNat)⟩).put dst (.pl (goInt (min s.size len : Nat))))
    | none => False)
  | _, _ => False

def putK (n : Nat) (d : Option Nat) (K : St → Prop) (st : St) (r : AV) : Prop := dOk d n ∧ K (st.put d r)

/-- what a called function writes into a captured variable -/
def wrG (Γ : Env) (m : Nat → Option Blk) (ev : Operand → AV) (fid : Nat) (ks : List (Nat × Nat)) (args : List Operand) : Option (Nat × List Value) :=
  match look Γ fid with
  | some g => (match evs ev m args with
    | some ds => (match capsD m ks with
      | some cs => (match g (ds ++ cs) with
        | some (.upd j L) => if ds.length ≤ j then some (j - ds.length, L) else none
        | _ => none)
      | none => none)
    | none => none)
  | none => none

def updK (n : Nat) (st : St) (d : Option Nat) (ks : List (Nat × Nat)) (i : Nat) (L : List Value) (K : St → Prop) : Prop :=
  match ks[i]? with
  | some (k, ver) => (match st.mem k with
    | some blk => ver = blk.ver ∧ L.length = blk.cells.length ∧ putK n d K (st.setm k { blk with cells := L }) (.pl (.tuple #[]))
    | none => False)
  | none => False

/-- what an operation does -/
def gK (P : Program) (Γ : Env) (n : Nat) (o : Oper) (st : St) (K : St → Prop) : Prop :=
  match o.op with
  | .alloc t => (match (P.info? t).bind (·.zero) with
    | some z => newK n st o.dst t z.cells.toList (fun d v => .ptr d v 0) K
    | none => False)
  | .box t x => (match st.ev x with
    | .pl v => newK n st o.dst t v.cells.toList (fun d v => .ptr d v 0) K
    | _ => False)
  | .store t a x => storeK P st o.dst t (st.ev a) (st.ev x) K
  | .makeSlice t l c => (match st.ev l, st.ev c with
    | .pl (.int _ a), .pl (.int _ b) => (match rowOf P t with
      | some (e, z, bytes) => a = b ∧ 0 ≤ a ∧ (bytes : Int) * a ≤ 281474976710656 ∧ a ≤ 9223372036854775807 ∧
        newK n st o.dst e (List.replicate a.toNat z) (fun d v => .sl d v 0 a.toNat) K
      | none => False)
    | _, _ => False)
  | .buildSlice t len parts => (match plains st.ev parts.toList with
    | some vs => (match seqParts 0 vs with
      | some xs => (match rowOf P t with
        | some (e, _, _) => len = xs.length ∧ len ≤ 1000 ∧ newK n st o.dst e xs (fun d v => .sl d v 0 len) K
        | none => False)
      | none => False)
    | none => False)
  | .convert src dst x => (match st.ev x with
    | .pl (.string s) => (match P.underlying dst with
      | some (.slice e) => (P.underlying src).isSome = true ∧ P.underlying e = some (.int .u8) ∧
          newK n st o.dst e (s.data.toList.map fun b => Value.int .u8 b.toNat) (fun d v => .sl d v 0 s.size) K
      | _ => qK P Γ st.mem st.ev o.op (putK n o.dst K st))
    | _ => qK P Γ st.mem st.ev o.op (putK n o.dst K st))
  | .call { callee := .builtin .append, args := ⟨[s, x]⟩, argTypes := ⟨[t, t2]⟩ } => appK P n st o.dst t t2 (st.ev s) (st.ev x) K
  | .call { callee := .builtin .copy, args := ⟨[d, x]⟩, argTypes := ⟨[t, _]⟩ } => copyK P n st o.dst t (st.ev d) (st.ev x) K
  | .call { callee := .value f, args, .. } => (match st.ev f with
    | .clo fid (p :: ks) => (match wrG Γ st.mem st.ev fid (p :: ks) args.toList with
      | some (i, L) => updK n st o.dst (p :: ks) i L K
      | none => qK P Γ st.mem st.ev o.op (putK n o.dst K st))
    | _ => qK P Γ st.mem st.ev o.op (putK n o.dst K st))
  | _ => qK P Γ st.mem st.ev o.op (putK n o.dst K st)

/-- the operation has been carried out: the frame and the world read as the state says -/
def After (n : Nat) (w0 : World) (o : Oper) (a : Act) (K : St → Prop) (v : Value) (w' : World) : Prop :=
  ∃ ρ' st', K st' ∧ Rel n w0 ρ' st'.get st'.mem (a.put o.dst v) w'

theorem quiet_after {P : Program} {Γ : Env} (hΓ : Γ.ok P) {n : Nat} {o : Oper} {st : St} {K : St → Prop} (h : qK P Γ st.mem st.ev o.op (putK n o.dst K st))
    {w0 w : World} {ρ : Nat → Option Nat} {a : Act} (hr : Rel n w0 ρ st.get st.mem a w) : Does P (After n w0 o a K) ((execOp a.eval o).run P w) := by
  obtain ⟨r, ⟨hd, hK⟩, hq⟩ := qK_sound hΓ h
  refine (hq w0.heap.size w ρ a hr.keys (fun x _ => hr.eval x)).mono fun v w' ⟨h1, h2⟩ => ?_
  refine ⟨ρ, _, hK, ?_⟩
  rw [St.get_put, St.mem_put]
  exact (hr.ext h2).put hd.out h1

theorem set_put (st : St) (d : Nat) (v : AV) : st.set d v = st.put (some d) v := rfl

theorem newK_after {n : Nat} {o : Oper} {st : St} {t : TypeId} {cells : List Value} {mk : Nat → Nat → AV} {K : St → Prop} (h : newK n st o.dst t cells mk K)
    {w0 w w' : World} {ρ : Nat → Option Nat} {a : Act} (hr : Rel n w0 ρ st.get st.mem a w) (hb : Below w.heap.size w w') {b : Nat} (hb0 : w.heap.size ≤ b) {c : Array Value} {fz : Nat × Nat} (hc : w'.heap[b]? = some (.cells c t fz))
    (hpre : ∃ rest, c.toList = cells ++ rest) (hf : fzOk fz c.size) {v : Value}
    (hv : ∀ d ver, RelV w0.heap.size w' (fun j => if d = j then some b else ρ j) (fun j => if d = j then some ⟨ver, t, cells⟩ else st.mem j) v (mk d ver)) : After n w0 o a K v w' := by
  unfold newK at h
  split at h
  · rename_i d hd
    obtain ⟨hlt, hK⟩ := h
    refine ⟨fun j => if d = j then some b else ρ j, _, hK, ?_⟩
    rw [hd, set_put, St.get_put, St.mem_put, St.mem_setm, St.get_setm]
    exact (hr.newkey d (blk' := ⟨nextver st.mem d, t, cells⟩) nextver_lt hb hb0 hc hpre hf).put (fun x e => by cases e; exact hlt) (hv d _)
  · exact h.elim

theorem below_alloc (w : World) (o : Obj) : Below w.heap.size w (w.alloc o) := (Below.refl _ _).alloc (Nat.le_refl _) o
theorem below_drew_alloc (w : World) (o : Obj) : Below w.heap.size w (w.drew.alloc o) := ((Below.refl w.heap.size w).drew).alloc (Nat.le_refl _) o
theorem alloc_new (w : World) (o : Obj) : (w.alloc o).heap[w.heap.size]? = some o := by
  show (w.heap.push o)[w.heap.size]? = some o
  simp
theorem drew_alloc_new (w : World) (o : Obj) : (w.drew.alloc o).heap[w.heap.size]? = some o := alloc_new w.drew o

theorem storeK_after {P : Program} {o : Oper} {st : St} {t : TypeId} {x y : Operand} {K : St → Prop} {n : Nat} (h : storeK P st o.dst t (st.ev x) (st.ev y) K)
    {w0 w : World} {ρ : Nat → Option Nat} {a : Act} (hr : Rel n w0 ρ st.get st.mem a w) :
    ∃ w', (Instr.storeAt t (a.eval x) (a.eval y)).run P w = .ok () w' ∧ After n w0 o a K undef w' := by
  unfold storeK at h
  split at h
  · rename_i k ver off v hd hx hy
    split at h
    case h_2 => exact h.elim
    rename_i blk hm
    obtain ⟨rfl, hs, hl, h1, hK⟩ := h
    have e1 := hr.eval x
    have e2 := hr.eval y
    rw [show evT st.get x = st.ev x from rfl, hx] at e1
    rw [show evT st.get y = st.ev y from rfl, hy] at e2
    have e2' : a.eval y = v := e2
    obtain ⟨blk', hm', _, hp⟩ := e1
    rw [hm] at hm'; cases hm'
    obtain ⟨b, hb, hv⟩ := hp rfl
    obtain ⟨blk', hm', _, c, fz, hc, ⟨rest, hrest⟩, hf⟩ := hr.keys.key hb
    rw [hm] at hm'; cases hm'
    have hsz : blk.cells.length ≤ c.size := by have := congrArg List.length hrest; simp at this; omega
    obtain ⟨w', c', hrun, hset, hc'⟩ := run_storeCells (P := P) off v.cells.toList 0 c w hc hf (by simpa using Nat.le_trans hl hsz) (List.all_eq_true.1 h1)
    refine ⟨w', ?_, ?_⟩
    · simp only [Instr.storeAt, hv, Instr.sureAddr, e2', storeVar, Sem.run_bind, Sem.run_pure, Result.andThen_ok, run_sizeOf hs]
      rw [if_neg (by simp)]
      exact hrun
    · refine ⟨ρ, _, hK, ?_⟩
      rw [hd, St.get_setm, St.mem_setm]
      have hcs : c'.size = c.size := by rw [← Array.length_toList, hc', length_wrL, Array.length_toList]
      refine hr.blk hb hm hc hset ⟨rest, ?_⟩ (by rw [hcs]; exact hf) (.inl ⟨rfl, by simp [length_wrL], hcs⟩)
      rw [hc', hrest, Nat.add_zero]
      exact wrL_append _ _ _ _ (by simpa using hl)
  · exact h.elim

theorem appK_after {P : Program} {n : Nat} {o : Oper} {st : St} {t t2 : TypeId} {s x : Operand} {K : St → Prop} (h : appK P n st o.dst t t2 (st.ev s) (st.ev x) K)
    {w0 w : World} {ρ : Nat → Option Nat} {a : Act} (hr : Rel n w0 ρ st.get st.mem a w) (ty : TypeId) :
    ∃ v w', (Builtin.append_ #[t, t2] ty #[a.eval s, a.eval x]).run P w = .ok v w' ∧ After n w0 o a K v w' := by
  unfold appK at h
  split at h
  case h_2 => exact h.elim
  rename_i e z bytes d hrow hsl hd
  obtain ⟨ht, ⟨i, hi, hsz, hz, hby⟩, hzc⟩ := rowOf_row hrow
  subst hby
  obtain ⟨e2, ht2⟩ : ∃ e2, P.underlying t2 = some (.slice e2) := by
    unfold isSl at hsl
    split at hsl
    · rename_i e2 h2; exact ⟨e2, h2⟩
    · cases hsl
  obtain ⟨hdn, h⟩ := h
  split at h
  case h_2 => exact h.elim
  rename_i ys hys
  obtain ⟨h1, h⟩ := h
  have h1' := List.all_eq_true.1 h1
  have hx := AV.cont_sound hr.keys (hr.eval x) hys
  have es := hr.eval s
  rw [show evT st.get s = st.ev s from rfl] at es
  split at h
  · rename_i v hs
    obtain ⟨hn, hpos, hb1, hb2, hK⟩ := h
    rw [hs] at es
    have es' : a.eval s = v := es
    have hv : v = .slice none 0 0 := isNil_eq hn
    obtain ⟨cap, rest, hrun, hcap⟩ := run_append_more (P := P) (w := w) (ty := ty) ht ht2 hi hsz hz (base := none) (sLen := 0) (sCap := 0) (olds := []) (g' := fun _ => True) (.inl ⟨rfl, rfl⟩) hx hzc (by omega) (by simpa using hb1) (by omega)
    rw [es', hv]
    refine ⟨_, _, hrun, ?_⟩
    refine newK_after (st := st) (cells := ys) (mk := fun d v => .sl d v 0 ys.length) (by rw [hd]; exact ⟨hdn, hK⟩) hr (below_drew_alloc w _) (Nat.le_refl _) (drew_alloc_new w _) ⟨rest.toList, by simp⟩ (.inl (Nat.le_refl _)) (fun d ver => ?_)
    refine ⟨⟨ver, e, ys⟩, by simp, Nat.le_refl _, fun _ => .inr ⟨w.heap.size, cap, _, _, _, by simp, by simp, drew_alloc_new w _, ?_, ?_, by simp⟩⟩
    · rw [hcap]; simp
    · rw [hcap]; simp
  · rename_i k ver off len hs
    obtain ⟨rfl, h⟩ := h
    split at h
    case h_2 => exact h.elim
    rename_i blk hm
    obtain ⟨rfl, rfl, hel, hb1, hb2, hK⟩ := h
    rw [hs] at es
    obtain ⟨blk', hm', _, hp⟩ := es
    rw [hm] at hm'; cases hm'
    have hlen0 : (blk.cells ++ ys).length = blk.cells.length + ys.length := by simp
    rcases hp rfl with ⟨hl0, _, _, hv⟩ | ⟨b, cap, c, e', fz, hb, hv, hc, h2, h3, h4⟩
    · have hnil : blk.cells = [] := List.eq_nil_of_length_eq_zero hl0
      rw [hv]
      by_cases hpos : ys.length = 0
      · have hyn : ys = [] := List.eq_nil_of_length_eq_zero hpos
        subst hyn
        refine ⟨.slice none 0 0, w, ?_, ?_⟩
        · have hf := run_firstCells_vec (P := P) hx
          simp only [List.length_nil] at hf
          have hl := run_lenOf_vec (P := P) hx
          simp [Builtin.append_, run_underlying ht, run_underlying ht2, sizeOf, typeInfo, hi, hsz, hl, hf]
        · cases hρ : ρ k with
          | none =>
            refine ⟨ρ, _, hK, ?_⟩
            rw [hd, set_put, St.get_put, St.mem_put, St.mem_setm, St.get_setm]
            have hrel : Rel n w0 ρ st.get (fun j => if k = j then some ⟨blk.ver + 1, e, blk.cells ++ []⟩ else st.mem j) a w := by
              refine ⟨hr.defers, hr.size, hr.below, ⟨hr.keys.bnd, ?_, ?_, hr.keys.inj⟩, fun j => ?_⟩
              · intro k' blk' hk'
                by_cases e1 : k = k'
                · subst e1; simp at hk'; subst hk'; exact .inl ⟨hρ, by simp [hnil]⟩
                · simp [e1] at hk'; exact hr.keys.keys k' blk' hk'
              · intro k' hk'
                by_cases e1 : k = k'
                · simp [e1] at hk'
                · simp [e1] at hk'; exact hr.keys.nokey k' hk'
              · have hj := hr.tmps j
                generalize a.tmps.getD j undef = u at hj
                cases hav : st.get j with
                | pl x => rw [hav] at hj; exact hj
                | vec fr xs => rw [hav] at hj; exact hj
                | pcell x => rw [hav] at hj; exact hj
                | pblk b cells => rw [hav] at hj; exact hj
                | ptr k' ver off =>
                  rw [hav] at hj
                  obtain ⟨blk0, hm0, hle, hq⟩ := hj
                  by_cases e1 : k = k'
                  · subst e1; rw [hm] at hm0; cases hm0
                    exact ⟨_, by simp; rfl, by simp; omega, fun e2 => by simp at e2; omega⟩
                  · exact ⟨blk0, by simp [e1, hm0], hle, hq⟩
                | sl k' ver off len =>
                  rw [hav] at hj
                  obtain ⟨blk0, hm0, hle, hq⟩ := hj
                  by_cases e1 : k = k'
                  · subst e1; rw [hm] at hm0; cases hm0
                    exact ⟨_, by simp; rfl, by simp; omega, fun e2 => by simp at e2; omega⟩
                  · exact ⟨blk0, by simp [e1, hm0], hle, hq⟩
                | tup ds => rw [hav] at hj; exact hj
                | clo f ks =>
                  rw [hav] at hj
                  obtain ⟨vs, hv, hl, hp⟩ := hj
                  refine ⟨vs, hv, hl, fun i k' ver hi => ?_⟩
                  obtain ⟨blk0, hm0, hle, hq⟩ := hp i k' ver hi
                  by_cases e1 : k = k'
                  · subst e1; rw [hm] at hm0; cases hm0
                    exact ⟨_, by simp; rfl, by simp; omega, fun e2 => by simp at e2; omega⟩
                  · exact ⟨blk0, by simp [e1, hm0], hle, hq⟩
                | any => trivial
            refine hrel.put (fun x e => by cases e; exact hdn) ⟨_, by simp; rfl, Nat.le_refl _, fun _ => .inl ⟨by simp [hl0], rfl, by simp [hnil], rfl⟩⟩
          | some b =>
            obtain ⟨blk', hm', hbge, c, fz, hc, ⟨rest, hrest⟩, hf⟩ := hr.keys.key hρ
            rw [hm] at hm'; cases hm'
            refine ⟨ρ, _, hK, ?_⟩
            rw [hd, set_put, St.get_put, St.mem_put, St.mem_setm, St.get_setm]
            have hset : BlkSet w w b (.cells c e fz) := ⟨rfl, rfl, rfl, rfl, by rw [← hel]; exact hc, fun _ _ => rfl⟩
            have hrel := hr.blk hρ hm (blk' := ⟨blk.ver + 1, e, blk.cells ++ []⟩) hc hset ⟨rest, by simpa using hrest⟩ hf (.inr (by simp))
            refine hrel.put (fun x e => by cases e; exact hdn) ⟨_, by simp; rfl, Nat.le_refl _, fun _ => .inl ⟨by simp [hl0], rfl, by simp [hnil], rfl⟩⟩
      · obtain ⟨cap, rest, hrun, hcap⟩ := run_append_more (P := P) (w := w) (ty := ty) ht ht2 hi hsz hz (base := none) (sLen := 0) (sCap := 0) (olds := []) (g' := fun _ => True) (.inl ⟨rfl, rfl⟩) hx hzc (by omega) (by simpa [hl0] using hb1) (by omega)
        refine ⟨_, _, hrun, ?_⟩
        refine ⟨fun j => if k = j then some w.heap.size else ρ j, _, hK, ?_⟩
        rw [hd, set_put, St.get_put, St.mem_put, St.mem_setm, St.get_setm]
        have hrel := hr.newkey k (blk' := ⟨blk.ver + 1, e, blk.cells ++ ys⟩) (fun b hb => by rw [hm] at hb; cases hb; simp) (below_drew_alloc w _) (Nat.le_refl _) (c := #[] ++ ys.toArray ++ rest) (fz := (0, 0)) (drew_alloc_new w _) ⟨rest.toList, by simp [hnil]⟩ (.inl (Nat.le_refl _))
        refine hrel.put (fun x e => by cases e; exact hdn) ⟨_, by simp; rfl, Nat.le_refl _, fun _ => .inr ⟨w.heap.size, cap, _, _, _, by simp, by simp [hl0], drew_alloc_new w _, ?_, ?_, by simp⟩⟩
        · rw [hcap]; simp
        · rw [hcap]; simp [hl0]
    · obtain ⟨blk', hm', hbge, c', fz', hc', ⟨rest, hrest⟩, hf⟩ := hr.keys.key hb
      rw [hm] at hm'; cases hm'
      rw [hc] at hc'; cases hc'
      have hcl : blk.cells.length ≤ c.size := by have := congrArg List.length hrest; simp at this; omega
      rw [hv]
      by_cases hroom : blk.cells.length + ys.length ≤ cap
      · obtain ⟨w', c', hrun, hset, hc2⟩ := run_append_fit (P := P) (w := w) (ty := ty) ht ht2 hi hsz hc hf hx hroom (by omega) h1'
        refine ⟨_, _, hrun, ?_⟩
        refine ⟨ρ, _, hK, ?_⟩
        rw [hd, set_put, St.get_put, St.mem_put, St.mem_setm, St.get_setm]
        have hcs : c'.size = c.size := by rw [← Array.length_toList, hc2, length_wrL, Array.length_toList]
        have hwr := wrL_end ys blk.cells rest (by have := congrArg List.length hrest; simp at this; omega)
        have hrel := hr.blk hb hm (blk' := ⟨blk.ver + 1, blk.elem, blk.cells ++ ys⟩) hc hset ⟨rest.drop ys.length, by rw [hc2, hrest, hwr]⟩ (by rw [hcs]; exact hf) (.inr (by simp))
        rw [hel] at hrel
        refine hrel.put (fun x e => by cases e; exact hdn) ⟨_, by simp; rfl, Nat.le_refl _, fun _ => .inr ⟨b, cap, c', _, _, hb, rfl, hset.here, ?_, hroom, by simp⟩⟩
        omega
      · have hs2 : VecAt w (fun _ => True) (.slice (some ⟨b, 0, none⟩) blk.cells.length cap) blk.cells := by
          refine .inr ⟨b, 0, cap, c, _, fz, rfl, hc, trivial, ?_, h3, by omega⟩
          rw [List.drop_zero, hrest]; simp
        obtain ⟨cap', rest', hrun, hcap⟩ := run_append_more (P := P) (w := w) (ty := ty) ht ht2 hi hsz hz hs2 hx hzc (by omega) (by simpa using hb1) (by omega)
        refine ⟨_, _, hrun, ?_⟩
        refine ⟨fun j => if k = j then some w.heap.size else ρ j, _, hK, ?_⟩
        rw [hd, set_put, St.get_put, St.mem_put, St.mem_setm, St.get_setm]
        have hrel := hr.newkey k (blk' := ⟨blk.ver + 1, e, blk.cells ++ ys⟩) (fun b hb => by rw [hm] at hb; cases hb; simp) (below_drew_alloc w _) (Nat.le_refl _) (c := blk.cells.toArray ++ ys.toArray ++ rest') (fz := (0, 0)) (drew_alloc_new w _) ⟨rest'.toList, by simp⟩ (.inl (Nat.le_refl _))
        refine hrel.put (fun x e => by cases e; exact hdn) ⟨_, by simp; rfl, Nat.le_refl _, fun _ => .inr ⟨w.heap.size, cap', _, _, _, by simp, by simp, drew_alloc_new w _, ?_, ?_, by simp⟩⟩
        · rw [hcap]; simp
        · rw [hcap]; simp
  · exact h.elim

theorem copyK_after {P : Program} {n : Nat} {o : Oper} {st : St} {t t2 : TypeId} {d x : Operand} {K : St → Prop} (h : copyK P n st o.dst t (st.ev d) (st.ev x) K)
    {w0 w : World} {ρ : Nat → Option Nat} {a : Act} (hr : Rel n w0 ρ st.get st.mem a w) (ty : TypeId) :
    ∃ v w', (Builtin.copy_ #[t, t2] ty #[a.eval d, a.eval x]).run P w = .ok v w' ∧ After n w0 o a K v w' := by
  obtain ⟨ht, hd, h⟩ := h
  split at ht
  case h_2 => exact ht.elim
  rename_i e hte
  split at h
  case h_2 => exact h.elim
  rename_i k ver off len s hd1 hx1
  split at h
  case h_2 => exact h.elim
  rename_i blk hm
  obtain ⟨rfl, hl, hpos, hK⟩ := h
  have e1 := hr.eval d
  have e2 := hr.eval x
  rw [show evT st.get d = st.ev d from rfl, hd1] at e1
  rw [show evT st.get x = st.ev x from rfl, hx1] at e2
  have e2' : a.eval x = .string s := e2
  obtain ⟨blk', hm', _, hp⟩ := e1
  rw [hm] at hm'; cases hm'
  rcases hp rfl with ⟨hl0, _⟩ | ⟨b, cap, c, e', fz, hb, hv, hc, h2, h3, h4⟩
  · omega
  obtain ⟨blk', hm', hbge, c', fz', hc', ⟨rest, hrest⟩, hf⟩ := hr.keys.key hb
  rw [hm] at hm'; cases hm'
  rw [hc] at hc'; cases hc'
  have hcl : blk.cells.length ≤ c.size := by have := congrArg List.length hrest; simp at this; omega
  let ys := (s.data.toList.take (min s.size len)).map fun b => Value.int .u8 (b.toNat : Int)
  have hyl : ys.length ≤ len := by simp [ys]; omega
  obtain ⟨w', c', hrun, hset, hc2⟩ := run_storeCells (P := P) off ys 0 c w hc hf (by omega) (fun v hv => by simp only [ys, List.mem_map] at hv; obtain ⟨b, _, rfl⟩ := hv; rfl)
  refine ⟨goInt (min s.size len : Nat), w', ?_, ?_⟩
  · rw [hv, e2']
    simp [Builtin.copy_, run_underlying hte, Builtin.lenOf, Builtin.firstCells, run_sizeOf ht]
    have e3 : List.take (s.size.min len) (List.map (fun b => Value.int .u8 (b.toNat : Int)) s.data.toList) = ys := by
      simp only [ys, List.map_take]
    rw [e3, hrun]
    rfl
  · refine ⟨ρ, _, hK, ?_⟩
    rw [St.get_put, St.mem_put, St.get_setm, St.mem_setm]
    have hcs : c'.size = c.size := by rw [← Array.length_toList, hc2, length_wrL, Array.length_toList]
    have hrel := hr.blk hb hm (blk' := { blk with cells := wrL blk.cells off ys }) hc hset ⟨rest, by rw [hc2, hrest, Nat.add_zero]; exact wrL_append _ _ _ _ (by omega)⟩ (by rw [hcs]; exact hf) (.inl ⟨rfl, by simp [length_wrL], hcs⟩)
    exact hrel.put hd.out rfl

theorem rels_len {w : World} {g : Nat → Prop} : ∀ {vs : List Value} {ds : List DV}, DV.rels w g vs ds → vs.length = ds.length
  | [], [], _ => rfl
  | _ :: vs, _ :: ds, h => by simp [rels_len h.2]
  | [], _ :: _, h => h.elim
  | _ :: _, [], h => h.elim

theorem upd_after {P : Program} {Γ : Env} (hΓ : Γ.ok P) {n : Nat} {o : Oper} {st : St} {K : St → Prop} {f : Operand} {args : Array Operand} {ats : Array TypeId} (ho : o.op = .call { callee := .value f, args := args, argTypes := ats })
    {fid : Nat} {p : Nat × Nat} {ks : List (Nat × Nat)} (hf : st.ev f = .clo fid (p :: ks)) {i : Nat} {L : List Value} (hw : wrG Γ st.mem st.ev fid (p :: ks) args.toList = some (i, L)) (h : updK n st o.dst (p :: ks) i L K)
    {w0 w : World} {ρ : Nat → Option Nat} {a : Act} (hr : Rel n w0 ρ st.get st.mem a w) : Does P (After n w0 o a K) ((execOp a.eval o).run P w) := by
  unfold wrG at hw
  split at hw
  case h_2 => cases hw
  rename_i g hg
  split at hw
  case h_2 => cases hw
  rename_i ds hds
  split at hw
  case h_2 => cases hw
  rename_i cs hcs
  split at hw
  case h_2 => cases hw
  rename_i j L' hgu
  split at hw
  case isFalse => cases hw
  rename_i hj
  simp only [Option.some.injEq, Prod.mk.injEq] at hw
  obtain ⟨rfl, rfl⟩ := hw
  unfold updK at h
  split at h
  case h_2 => exact h.elim
  rename_i k ver hki
  split at h
  case h_2 => exact h.elim
  rename_i blk hm
  obtain ⟨hver, hlen, hd, hK⟩ := h
  have e1 := hr.eval f
  rw [show evT st.get f = st.ev f from rfl, hf] at e1
  obtain ⟨vs, hv, hl, hp⟩ := e1
  have hcaps := capsD_sound hr.keys hl hp hcs
  have hrels := evs_sound hr.keys (val := a.eval) (fun x _ => hr.eval x) hds
  have hln := rels_len hrels
  obtain ⟨blk', hm', _, hq⟩ := hp _ k ver hki
  rw [hm] at hm'; cases hm'
  obtain ⟨b, hb, hvb⟩ := hq hver
  obtain ⟨blk', hm', _, c, fz, hc, ⟨rest, hrest⟩, hfz⟩ := hr.keys.key hb
  rw [hm] at hm'; cases hm'
  have hsp : SpecW P fid (ds ++ cs) j L' := hΓ fid g hg (ds ++ cs) _ hgu
  have hidx : (args.toList.map a.eval ++ vs)[j]? = some (Value.pointer (some ⟨b, 0, none⟩)) := by
    rw [List.getElem?_append_right (by rw [hln]; exact hj), hln]
    exact hvb
  have hdo := hsp w _ (DV.rels_append hrels hcaps) b c blk.elem fz hidx hc hfz
  have e : args.map a.eval ++ vs.toArray = (args.toList.map a.eval ++ vs).toArray := by apply Array.ext'; simp
  have hrun : (execOp a.eval o).run P w = (callFunc fid (args.toList.map a.eval ++ vs).toArray).run P w := by
    simp only [execOp, ho, resolve, hv, Deferred.ofValue, invoke]
    simp
    rw [e]
  rw [hrun]
  refine hdo.mono fun v w' ⟨hv', hu⟩ => ?_
  subst hv'
  obtain ⟨c', hc', hc2⟩ := hu.here c blk.elem fz blk.cells rest hc hrest hlen.symm
  have hcs' : c'.size = c.size := by
    have h1 := congrArg List.length hrest
    have h2 := congrArg List.length hc2
    simp at h1 h2
    omega
  have hlt : b < w.heap.size := (Array.getElem?_eq_some_iff.1 hc).1
  have hset : BlkSet w { w with heap := w.heap.setIfInBounds b (.cells c' blk.elem fz) } b (.cells c' blk.elem fz) :=
    ⟨rfl, rfl, rfl, by simp, by simp [hlt], fun k hk => by simp [Array.getElem?_setIfInBounds_ne (Ne.symm hk)]⟩
  have hrel := hr.blk hb hm (blk' := { blk with cells := L' }) hc hset ⟨rest, hc2⟩ (by rw [hcs']; exact hfz) (.inl ⟨rfl, hlen, hcs'⟩)
  have hbel : Below (World.heap { w with heap := w.heap.setIfInBounds b (.cells c' blk.elem fz) }).size { w with heap := w.heap.setIfInBounds b (.cells c' blk.elem fz) } w' := by
    refine ⟨hu.os, hu.tape, hu.output, by simpa using hu.size, fun k' hk' => ?_⟩
    have hk2 : k' < w.heap.size := by simpa using hk'
    by_cases e2 : k' = b
    · subst e2
      rw [hc']
      simp [hlt]
    · rw [hu.other k' hk2 e2]
      simp [Array.getElem?_setIfInBounds_ne (Ne.symm e2)]
  have hrel2 := hrel.ext hbel
  refine ⟨ρ, _, hK, ?_⟩
  rw [St.get_put, St.mem_put, St.get_setm, St.mem_setm]
  exact hrel2.put hd.out rfl

theorem gK_sound {P : Program} {Γ : Env} (hΓ : Γ.ok P) {n : Nat} {o : Oper} {st : St} {K : St → Prop} (h : gK P Γ n o st K)
    {w0 w : World} {ρ : Nat → Option Nat} {a : Act} (hr : Rel n w0 ρ st.get st.mem a w) : Does P (After n w0 o a K) ((execOp a.eval o).run P w) := by
  unfold gK at h
  split at h
  · rename_i t ho
    split at h
    · rename_i z hz
      have hrun : (execOp a.eval o).run P w = .ok (.value (.pointer (some ⟨w.heap.size, 0, none⟩))) (w.alloc (.cells z.cells t)) := by
        simp [execOp, ho, Instr.alloc, run_zero hz, newVar, newRow]
      rw [hrun]
      exact newK_after h hr (below_alloc w _) (Nat.le_refl _) (alloc_new w _) ⟨[], by simp⟩ (.inl (Nat.le_refl _)) (fun d ver => ⟨_, by simp; rfl, Nat.le_refl _, fun _ => ⟨w.heap.size, by simp, rfl⟩⟩)
    · exact h.elim
  · rename_i t x ho
    split at h
    · rename_i v hx
      have e1 := hr.eval x
      rw [show evT st.get x = st.ev x from rfl, hx] at e1
      have e1' : a.eval x = v := e1
      have hrun : (execOp a.eval o).run P w = .ok (.value (.pointer (some ⟨w.heap.size, 0, none⟩))) (w.alloc (.cells v.cells t)) := by
        simp [execOp, ho, Instr.box, newVar, newRow, e1']
      rw [hrun]
      exact newK_after h hr (below_alloc w _) (Nat.le_refl _) (alloc_new w _) ⟨[], by simp⟩ (.inl (Nat.le_refl _)) (fun d ver => ⟨_, by simp; rfl, Nat.le_refl _, fun _ => ⟨w.heap.size, by simp, rfl⟩⟩)
    · exact h.elim
  · rename_i t x y ho
    obtain ⟨w', hrun, haf⟩ := storeK_after h hr
    have : (execOp a.eval o).run P w = .ok .skip w' := by simp [execOp, ho, hrun]
    rw [this]
    exact haf
  · rename_i t l c ho
    split at h
    · rename_i kl x kc y hl hc
      split at h
      case h_2 => exact h.elim
      rename_i e z bytes hrow
      obtain ⟨ht, ⟨i, hi, hsz, hz, hby⟩, hzc⟩ := rowOf_row hrow
      obtain ⟨rfl, h0, hb, h63, h⟩ := h
      subst hby
      have e1 := hr.eval l
      have e2 := hr.eval c
      rw [show evT st.get l = st.ev l from rfl, hl] at e1
      rw [show evT st.get c = st.ev c from rfl, hc] at e2
      have e1' : a.eval l = .int kl x := e1
      have e2' : a.eval c = .int kc x := e2
      obtain ⟨cs, hrun, hcs⟩ := run_make_row (P := P) (w := w) ht hi hsz hz hzc kl kc x h0 hb h63
      have : (execOp a.eval o).run P w = .ok (.value (.slice (some ⟨w.heap.size, 0, none⟩) x.toNat x.toNat)) (w.alloc (.cells cs e)) := by simp [execOp, ho, e1', e2', hrun]
      rw [this]
      have hsize : cs.size = x.toNat := by rw [← Array.length_toList, hcs]; simp
      refine newK_after h hr (below_alloc w _) (Nat.le_refl _) (alloc_new w _) ⟨[], by simp [hcs]⟩ (.inl (Nat.le_refl _)) (fun d ver => ⟨_, by simp; rfl, Nat.le_refl _, fun _ => .inr ⟨w.heap.size, x.toNat, cs, e, _, by simp, rfl, alloc_new w _, by omega, by omega, by simp⟩⟩)
    · exact h.elim
  · rename_i t len parts ho
    split at h
    · rename_i vs hvs
      split at h
      · rename_i xs hxs
        split at h
        case h_2 => exact h.elim
        rename_i e z bytes hrow
        obtain ⟨ht, ⟨i, hi, hsz, hz, hby⟩, hzc⟩ := rowOf_row hrow
        obtain ⟨rfl, hle, h⟩ := h
        have hsz' : szOf P e = some 1 := by simp [szOf, hi, hsz]
        have hz' : (P.info? e).bind (·.zero) = some z := by simp [hi, hz]
        obtain ⟨cs, hrun, hcs⟩ := run_buildSlice (P := P) (w := w) ht hsz' hz' hxs hle
        have hpl := plains_sound (val := a.eval) (fun p hp v hv => by
          have := hr.eval p.2
          rw [show evT st.get p.2 = st.ev p.2 from rfl, hv] at this
          exact this) hvs
        have e3 : (Array.map (fun (x : Nat × Operand) => match x with | (i, x) => (i, a.eval x)) parts) = vs.toArray := by
          rw [← hpl]; apply Array.ext'; simp
        have : (execOp a.eval o).run P w = .ok (.value (.slice (some ⟨w.heap.size, 0, none⟩) xs.length xs.length)) (w.alloc (.cells cs e)) := by simp [execOp, ho, e3, hrun]
        rw [this]
        have hsize : cs.size = xs.length := by rw [← Array.length_toList, hcs]
        refine newK_after h hr (below_alloc w _) (Nat.le_refl _) (alloc_new w _) ⟨[], by simp [hcs]⟩ (.inl (Nat.le_refl _)) (fun d ver => ⟨_, by simp; rfl, Nat.le_refl _, fun _ => .inr ⟨w.heap.size, xs.length, cs, e, _, by simp, rfl, alloc_new w _, by omega, by omega, by simp⟩⟩)
      · exact h.elim
    · exact h.elim
  · rename_i src dst x ho
    split at h
    · rename_i s hx
      split at h
      · rename_i e hd
        obtain ⟨hs, he, h⟩ := h
        obtain ⟨u, hs'⟩ := Option.isSome_iff_exists.mp hs
        have e1 := hr.eval x
        rw [show evT st.get x = st.ev x from rfl, hx] at e1
        have e1' : a.eval x = .string s := e1
        have hrun := Lib.run_convert_string_bytes (P := P) w src dst e s hs' hd he
        have : (execOp a.eval o).run P w = .ok (.value (.slice (some ⟨w.heap.size, 0, none⟩) s.size (grownCap w s.size 0 e))) (Lib.bytesWorld w e s) := by simp [execOp, ho, e1', hrun]
        rw [this]
        have hge := grownCap_ge w s.size 0 e
        have hbelow : Below w.heap.size w (Lib.bytesWorld w e s) := ⟨rfl, rfl, rfl, by rw [Lib.bytesWorld_size]; omega, fun k hk => Lib.bytesWorld_at_old w e s k hk⟩
        have hcz : (Lib.bytesCells w e s).size = grownCap w s.size 0 e := by simp [Lib.bytesCells]; omega
        refine newK_after h hr hbelow (Nat.le_refl _) (Lib.bytesWorld_at_new w e s) ⟨(Array.replicate (grownCap w s.size 0 e - s.size) (Value.int .u8 0)).toList, by simp [Lib.bytesCells]⟩ (.inr (Nat.le_refl _)) (fun d ver => ⟨_, by simp; rfl, Nat.le_refl _, fun _ => .inr ⟨w.heap.size, _, _, _, _, by simp, rfl, Lib.bytesWorld_at_new w e s, by omega, by omega, by simp⟩⟩)
      · exact quiet_after hΓ h hr
    · exact quiet_after hΓ h hr
  · rename_i s x t t2 ho
    obtain ⟨v, w', hrun, haf⟩ := appK_after h hr o.type
    have : (execOp a.eval o).run P w = .ok (.value v) w' := by simp [execOp, ho, resolve, invoke, builtin, hrun]
    rw [this]
    exact haf
  · rename_i d x t t2 ho
    obtain ⟨v, w', hrun, haf⟩ := copyK_after (t2 := t2) h hr o.type
    have : (execOp a.eval o).run P w = .ok (.value v) w' := by simp [execOp, ho, resolve, invoke, builtin, hrun]
    rw [this]
    exact haf
  · rename_i f args ats ho
    split at h
    · rename_i fid p ks hf
      split at h
      · rename_i i L hw
        exact upd_after hΓ ho hf hw h hr
      · exact quiet_after hΓ h hr
    · exact quiet_after hΓ h hr
  · exact quiet_after hΓ h hr

end Go.Vm
