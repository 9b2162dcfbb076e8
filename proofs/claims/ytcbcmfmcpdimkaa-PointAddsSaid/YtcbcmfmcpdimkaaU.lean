/- Numbers of 256 bits as values of four words; lists of digits. No condition. -/
import Derived.Test.YtcbcmfmcpdimkaaVm3
namespace Go.Vm
open Go Go.RowKit

noncomputable def w0 (x : Nat) : Nat := Classical.choose (⟨x % 18446744073709551616, rfl⟩ : ∃ y, y = x % 18446744073709551616)
theorem w0_eq (x : Nat) : w0 x = x % 18446744073709551616 := Classical.choose_spec (⟨x % 18446744073709551616, rfl⟩ : ∃ y, y = x % 18446744073709551616)
noncomputable def w1 (x : Nat) : Nat := Classical.choose (⟨x / 18446744073709551616 % 18446744073709551616, rfl⟩ : ∃ y, y = x / 18446744073709551616 % 18446744073709551616)
theorem w1_eq (x : Nat) : w1 x = x / 18446744073709551616 % 18446744073709551616 := Classical.choose_spec (⟨x / 18446744073709551616 % 18446744073709551616, rfl⟩ : ∃ y, y = x / 18446744073709551616 % 18446744073709551616)
noncomputable def w2 (x : Nat) : Nat := Classical.choose (⟨x / 340282366920938463463374607431768211456 % 18446744073709551616, rfl⟩ : ∃ y, y = x / 340282366920938463463374607431768211456 % 18446744073709551616)
theorem w2_eq (x : Nat) : w2 x = x / 340282366920938463463374607431768211456 % 18446744073709551616 := Classical.choose_spec (⟨x / 340282366920938463463374607431768211456 % 18446744073709551616, rfl⟩ : ∃ y, y = x / 340282366920938463463374607431768211456 % 18446744073709551616)
noncomputable def w3 (x : Nat) : Nat := Classical.choose (⟨x / 6277101735386680763835789423207666416102355444464034512896 % 18446744073709551616, rfl⟩ : ∃ y, y = x / 6277101735386680763835789423207666416102355444464034512896 % 18446744073709551616)
theorem w3_eq (x : Nat) : w3 x = x / 6277101735386680763835789423207666416102355444464034512896 % 18446744073709551616 := Classical.choose_spec (⟨x / 6277101735386680763835789423207666416102355444464034512896 % 18446744073709551616, rfl⟩ : ∃ y, y = x / 6277101735386680763835789423207666416102355444464034512896 % 18446744073709551616)

theorem w0_lt (x : Nat) : w0 x < 18446744073709551616 := by rw [w0_eq]; exact Nat.mod_lt _ (by decide)
theorem w1_lt (x : Nat) : w1 x < 18446744073709551616 := by rw [w1_eq]; exact Nat.mod_lt _ (by decide)
theorem w2_lt (x : Nat) : w2 x < 18446744073709551616 := by rw [w2_eq]; exact Nat.mod_lt _ (by decide)
theorem w3_lt (x : Nat) : w3 x < 18446744073709551616 := by rw [w3_eq]; exact Nat.mod_lt _ (by decide)

def num (a b c d : Nat) : Nat := a + b * 18446744073709551616 + c * 340282366920938463463374607431768211456 + d * 6277101735386680763835789423207666416102355444464034512896

noncomputable def full : Nat := Classical.choose (⟨115792089237316195423570985008687907853269984665640564039457584007913129639936, rfl⟩ : ∃ y, y = 115792089237316195423570985008687907853269984665640564039457584007913129639936)
theorem full_eq : full = 115792089237316195423570985008687907853269984665640564039457584007913129639936 := Classical.choose_spec (⟨115792089237316195423570985008687907853269984665640564039457584007913129639936, rfl⟩ : ∃ y, y = 115792089237316195423570985008687907853269984665640564039457584007913129639936)

theorem words (x : Nat) : num (w0 x) (w1 x) (w2 x) (w3 x) = x % full := by
  simp only [num, w0_eq, w1_eq, w2_eq, w3_eq, full_eq]
  omega

theorem words_lt {x : Nat} (h : x < full) : num (w0 x) (w1 x) (w2 x) (w3 x) = x := by
  rw [words, Nat.mod_eq_of_lt h]

theorem num_lt {a b c d : Nat} (ha : a < 18446744073709551616) (hb : b < 18446744073709551616) (hc : c < 18446744073709551616) (hd : d < 18446744073709551616) : num a b c d < full := by
  simp only [num, full_eq]
  omega

theorem words_num {a b c d : Nat} (ha : a < 18446744073709551616) (hb : b < 18446744073709551616) (hc : c < 18446744073709551616) (hd : d < 18446744073709551616) :
    w0 (num a b c d) = a ∧ w1 (num a b c d) = b ∧ w2 (num a b c d) = c ∧ w3 (num a b c d) = d := by
  simp only [num, w0_eq, w1_eq, w2_eq, w3_eq]
  omega

theorem i64_in {x : Int} (h : -9223372036854775808 ≤ x) (h' : x < 9223372036854775808) : IntKind.i64.wrap x = x := by
  rw [IntKind.wrap_i64]; omega
theorem u64_nat (n : Nat) (h : n < 18446744073709551616) : IntKind.u64.wrap (n : Int) = (n : Int) := by
  rw [IntKind.wrap_u64]; omega

def i64 (n : Int) : Value := .int .i64 n
def u64 (n : Int) : Value := .int .u64 n

/-- a number, by its four words -/
noncomputable def uV (x : Nat) : Value := .agg #[.int .u64 (w0 x : Nat), .int .u64 (w1 x : Nat), .int .u64 (w2 x : Nat), .int .u64 (w3 x : Nat)]

def toN0 : Value → Option Nat
  | .agg ⟨[.int .u64 a, .int .u64 b, .int .u64 c, .int .u64 d]⟩ =>
    if (0 ≤ a ∧ a < 18446744073709551616) ∧ (0 ≤ b ∧ b < 18446744073709551616) ∧ (0 ≤ c ∧ c < 18446744073709551616) ∧ (0 ≤ d ∧ d < 18446744073709551616)
    then some (num a.toNat b.toNat c.toNat d.toNat) else none
  | _ => none

noncomputable def toN : Value → Option Nat := Classical.choose (⟨toN0, rfl⟩ : ∃ f, f = toN0)
theorem toN_0 : toN = toN0 := Classical.choose_spec (⟨toN0, rfl⟩ : ∃ f, f = toN0)

theorem toN_uV (x : Nat) : toN (uV x) = some (x % full) := by
  rw [toN_0]
  unfold toN0 uV
  have h0 := w0_lt x
  have h1 := w1_lt x
  have h2 := w2_lt x
  have h3 := w3_lt x
  simp only
  rw [if_pos ⟨⟨by omega, by omega⟩, ⟨by omega, by omega⟩, ⟨by omega, by omega⟩, ⟨by omega, by omega⟩⟩]
  simp only [Int.toNat_natCast]
  rw [words]

theorem w0_mod (x : Nat) : w0 (x % full) = w0 x := by simp only [w0_eq, full_eq]; omega
theorem w1_mod (x : Nat) : w1 (x % full) = w1 x := by simp only [w1_eq, full_eq]; omega
theorem w2_mod (x : Nat) : w2 (x % full) = w2 x := by simp only [w2_eq, full_eq]; omega
theorem w3_mod (x : Nat) : w3 (x % full) = w3 x := by simp only [w3_eq, full_eq]; omega

theorem uV_mod (x : Nat) : uV (x % full) = uV x := by
  unfold uV
  rw [w0_mod, w1_mod, w2_mod, w3_mod]

theorem toN_eq {v : Value} {x : Nat} (h : toN v = some x) : v = uV x ∧ x < full := by
  rw [toN_0] at h
  unfold toN0 at h
  split at h
  · rename_i a b c d
    split at h
    · rename_i hc
      obtain ⟨⟨a0, a1⟩, ⟨b0, b1⟩, ⟨c0, c1⟩, ⟨d0, d1⟩⟩ := hc
      cases h
      have hw := words_num (a := a.toNat) (b := b.toNat) (c := c.toNat) (d := d.toNat) (by omega) (by omega) (by omega) (by omega)
      refine ⟨?_, num_lt (by omega) (by omega) (by omega) (by omega)⟩
      unfold uV
      rw [hw.1, hw.2.1, hw.2.2.1, hw.2.2.2]
      rw [Int.toNat_of_nonneg a0, Int.toNat_of_nonneg b0, Int.toNat_of_nonneg c0, Int.toNat_of_nonneg d0]
    · cases h
  · cases h

/-- four words that make a number -/
theorem uV_of {x a b c d : Nat} (ha : a < 18446744073709551616) (hb : b < 18446744073709551616) (hc : c < 18446744073709551616) (hd : d < 18446744073709551616) (h : num a b c d = x % full) :
    uV x = .agg #[.int .u64 (a : Nat), .int .u64 (b : Nat), .int .u64 (c : Nat), .int .u64 (d : Nat)] := by
  rw [← uV_mod, ← h]
  have hw := words_num ha hb hc hd
  unfold uV
  rw [hw.1, hw.2.1, hw.2.2.1, hw.2.2.2]

theorem cells_uV (x : Nat) : (uV x).cells = #[.int .u64 (w0 x : Nat), .int .u64 (w1 x : Nat), .int .u64 (w2 x : Nat), .int .u64 (w3 x : Nat)] := rfl
theorem agg_uV (x : Nat) : Value.agg #[.int .u64 (w0 x : Nat), .int .u64 (w1 x : Nat), .int .u64 (w2 x : Nat), .int .u64 (w3 x : Nat)] = uV x := rfl

theorem cells_agg (cs : Array Value) : (Value.agg cs).cells = cs := rfl
theorem cells_int (k : IntKind) (n : Int) : (Value.int k n).cells = #[.int k n] := rfl
theorem cells_bool (b : Bool) : (Value.bool b).cells = #[.bool b] := rfl
theorem cells_string (b : ByteArray) : (Value.string b).cells = #[.string b] := rfl
theorem cells_slice (a : Option Addr) (n m : Nat) : (Value.slice a n m).cells = #[.slice a n m] := rfl
theorem fold_wrL (off : Nat) : ∀ (vs : List Value) (cs : Array Value) (k : Nat), ((vs.zipIdx k).foldl (fun cs (c, j) => cs.setIfInBounds (off + j) c) cs).toList = wrL cs.toList (off + k) vs
  | [], cs, k => rfl
  | v :: vs, cs, k => by
    rw [List.zipIdx_cons, List.foldl_cons, fold_wrL off vs, wrL, Array.toList_setIfInBounds, Nat.add_assoc]

def fillL (place : Nat → Option (Nat × Nat)) (cells : List Value) : List (Nat × Value) → Option (List Value)
  | [] => some cells
  | p :: rest => match place p.1 with
    | none => none
    | some o => if p.2.cells.size = o.2 ∧ o.1 + p.2.cells.size ≤ cells.length then fillL place (wrL cells o.1 p.2.cells.toList) rest else none

theorem fill_list (place : Nat → Option (Nat × Nat)) : ∀ (parts : List (Nat × Value)) (cells : Array Value), Instr.fill place cells parts = (fillL place cells.toList parts).map List.toArray
  | [], cells => by simp [Instr.fill, fillL]
  | (i, v) :: rest, cells => by
    unfold Instr.fill fillL
    simp only
    cases h : place i with
    | none => rfl
    | some o =>
      obtain ⟨off, size⟩ := o
      simp only
      by_cases hc : v.cells.size = size ∧ off + v.cells.size ≤ cells.size
      · have h1 : (decide (v.cells.size ≠ size) || decide (off + v.cells.size > cells.size)) = false := by simp [hc.1]; omega
        rw [h1, if_pos (show v.cells.size = size ∧ off + v.cells.size ≤ cells.toList.length from hc)]
        simp only [Bool.false_eq_true, if_false]
        rw [fill_list place rest]
        congr 2
        have := fold_wrL off v.cells.toList cells 0
        rw [Nat.add_zero] at this
        rw [← this, ← Array.foldl_toList, Array.toList_zipIdx]
      · have h1 : (decide (v.cells.size ≠ size) || decide (off + v.cells.size > cells.size)) = true := by
          simp
          by_cases h2 : v.cells.size = size
          · right
            have : ¬ (off + v.cells.size ≤ cells.size) := fun h3 => hc ⟨h2, h3⟩
            omega
          · left; exact h2
        rw [h1, if_neg (show ¬ (v.cells.size = size ∧ off + v.cells.size ≤ cells.toList.length) from hc)]
        rfl

theorem buildV_eq (P : Program) (t : TypeId) (parts : List (Nat × Value)) : buildV P t parts =
    (match (P.info? t).bind (·.zero), P.underlying t with
    | some z, some (.struct fs) => (match placesOf P fs.toList with
      | some pl => (fillL (fun i => pl[i]?) z.cells.toList parts).map fun l => .agg l.toArray
      | none => none)
    | some z, some (.array _ e) => (match szOf P e with
      | some s => (fillL (fun i => some (i * s, s)) z.cells.toList parts).map fun l => .agg l.toArray
      | none => none)
    | _, _ => none) := by
  unfold buildV
  cases (P.info? t).bind (·.zero) with
  | none => rfl
  | some z =>
    cases P.underlying t with
    | none => rfl
    | some u =>
      cases u <;> try rfl
      · rename_i n e
        simp only
        cases szOf P e with
        | none => rfl
        | some s => simp only; rw [fill_list, Option.map_map]; rfl
      · rename_i fs
        simp only
        cases placesOf P fs.toList with
        | none => rfl
        | some pl =>
          simp only
          rw [fill_list, Option.map_map]
          have : (fun (x : Nat) => pl.toArray[x]?) = (fun (i : Nat) => pl[i]?) := by funext x; simp
          rw [this]
          rfl

theorem isNil_agg (cs : Array Value) : isNil (.agg cs) = false := rfl
theorem isNil_int (k : IntKind) (n : Int) : isNil (.int k n) = false := rfl
theorem isNil_bool (b : Bool) : isNil (.bool b) = false := rfl
theorem isNil_string (b : ByteArray) : isNil (.string b) = false := rfl
theorem isNil_nil : isNil (.slice none 0 0) = true := rfl
theorem isNil_slice (a : Addr) (n m : Nat) : isNil (.slice (some a) n m) = false := rfl
theorem isNil_uV (x : Nat) : isNil (uV x) = false := rfl

/-! ### The machine, sealed: nothing unfolds it but these equations -/
section
variable {P : Program} {Γ : Env} {n : Nat} {W : World}
noncomputable def gx (P : Program) (Γ : Env) (n : Nat) (D : List (Option Nat)) : List SOp → (St → Prop) → St → Prop := Classical.choose (⟨gR P Γ n D, rfl⟩ : ∃ f, f = gR P Γ n D)
theorem gx_eq {D} : gx P Γ n D = gR P Γ n D := Classical.choose_spec (⟨gR P Γ n D, rfl⟩ : ∃ f, f = gR P Γ n D)
noncomputable def dx (P : Program) (Γ : Env) (n : Nat) (D : List (Option Nat)) : List SOp → (St → Prop) → St → Prop := Classical.choose (⟨dR P Γ n D, rfl⟩ : ∃ f, f = dR P Γ n D)
theorem dx_eq {D} : dx P Γ n D = dR P Γ n D := Classical.choose_spec (⟨dR P Γ n D, rfl⟩ : ∃ f, f = dR P Γ n D)
noncomputable def xx (P : Program) (Γ : Env) (n : Nat) (D : List (Option Nat)) (ops : List SOp) (K : St → Prop) : OT → St → Prop := Classical.choose (⟨xR P Γ n D ops K, rfl⟩ : ∃ f, f = xR P Γ n D ops K)
theorem xx_eq {D ops K} : xx P Γ n D ops K = xR P Γ n D ops K := Classical.choose_spec (⟨xR P Γ n D ops K, rfl⟩ : ∃ f, f = xR P Γ n D ops K)
noncomputable def cx (P : Program) (Γ : Env) (n : Nat) (D : List (Option Nat)) : List (Nat × Blk) → List SOp → (St → Prop) → St → Prop := Classical.choose (⟨cR P Γ n D, rfl⟩ : ∃ f, f = cR P Γ n D)
theorem cx_eq {D} : cx P Γ n D = cR P Γ n D := Classical.choose_spec (⟨cR P Γ n D, rfl⟩ : ∃ f, f = cR P Γ n D)
noncomputable def vx (P : Program) (Γ : Env) (n : Nat) (W : World) : SC → (Exit → St → Prop) → St → Prop := Classical.choose (⟨vw P Γ n W, rfl⟩ : ∃ f, f = vw P Γ n W)
theorem vx_eq : vx P Γ n W = vw P Γ n W := Classical.choose_spec (⟨vw P Γ n W, rfl⟩ : ∃ f, f = vw P Γ n W)
noncomputable def vy (P : Program) (Γ : Env) (n : Nat) (W : World) : SC → (Exit → St → Prop) → Nat → St → Prop := Classical.choose (⟨vr P Γ n W, rfl⟩ : ∃ f, f = vr P Γ n W)
theorem vy_eq : vy P Γ n W = vr P Γ n W := Classical.choose_spec (⟨vr P Γ n W, rfl⟩ : ∃ f, f = vr P Γ n W)
noncomputable def VT (P : Program) (n : Nat) (W : World) : SC → (Exit → St → Prop) → St → Prop := Classical.choose (⟨VS P n W, rfl⟩ : ∃ f, f = VS P n W)
theorem VT_eq : VT P n W = VS P n W := Classical.choose_spec (⟨VS P n W, rfl⟩ : ∃ f, f = VS P n W)

theorem gx_nil {D K st} : gx P Γ n D [] K st = K st := by rw [gx_eq]; rfl
theorem gx_cons {D o rest K st} : gx P Γ n D (o :: rest) K st = (match o.g with
    | none => gO P Γ n o.d o.op st (gx P Γ n D rest K)
    | some g => guardS D st g (gSO P Γ n o.d o.op (gx P Γ n D rest K) st)) := by rw [gx_eq]; rfl
theorem dx_nil {D K st} : dx P Γ n D [] K st = K st := by rw [dx_eq]; rfl
theorem dx_cons {D o rest K st} : dx P Γ n D (o :: rest) K st = (match quietOp o.op with
    | true => (match o.g with
      | none => qK P Γ st.mem st.ev o.op (putK n o.d (dx P Γ n D rest K) st)
      | some g => guardS D st g (qSO P Γ n o.d o.op (dx P Γ n D rest K) st))
    | false => gx P Γ n D (o :: rest) K st) := by rw [dx_eq, gx_eq]; rfl
theorem xx_done {D ops K st} : xx P Γ n D ops K .done st = K st := by rw [xx_eq]; rfl
theorem xx_stop {D ops K st} : xx P Γ n D ops K .stop st = True := by rw [xx_eq]; rfl
theorem xx_alt {D ops K i sub more st} : xx P Γ n D ops K (.alt i sub more) st = ((match ops[i]? with
    | some o => (match o.g with
      | none => gO P Γ n o.d o.op st (xx P Γ n D ops K sub)
      | some g => guardS D st g (gSO P Γ n o.d o.op (xx P Γ n D ops K sub) st))
    | none => False) ∧ xx P Γ n D ops K more st) := by rw [xx_eq]; rfl
theorem xx_alc {D ops K st} : xx P Γ n D ops K .alc st = cx P Γ n D st.m ops K st := by rw [xx_eq, cx_eq]; rfl
theorem cx_nil {D B K st} : cx P Γ n D B [] K st = K st := by rw [cx_eq]; rfl
theorem cx_cons {D B o rest K st} : cx P Γ n D B (o :: rest) K st = (match calmOp o.op with
    | true => (match o.g with
      | none => eK P Γ (look B) st.ev o.op (putK n o.d (cx P Γ n D B rest K) st)
      | some g => guardS D st g (qSB P Γ n B o.d o.op (cx P Γ n D B rest K) st))
    | false => (match o.g with
      | none => cS P n B o.d o.op st (cx P Γ n D B rest K)
      | some _ => False)) := by rw [cx_eq]; rfl
theorem vx_ord {t ops Q st} : vx P Γ n W (.ord t ops) Q st = xx P Γ n (ops.map (·.d)) ops (Q .normal) t st := by rw [vx_eq, xx_eq]; rfl
theorem vx_skip {Q st} : vx P Γ n W .skip Q st = Q .normal st := by rw [vx_eq]; rfl
theorem vx_reg0 {ops Q st} : vx P Γ n W (.reg false ops) Q st = gx P Γ n (ops.map (·.d)) ops (Q .normal) st := by rw [vx_eq, gx_eq]; rfl
theorem vx_reg1 {ops Q st} : vx P Γ n W (.reg true ops) Q st = dx P Γ n (ops.map (·.d)) ops (Q .normal) st := by rw [vx_eq, dx_eq]; rfl
theorem vx_seq {a b Q st} : vx P Γ n W (.seq a b) Q st = vx P Γ n W a (seqE (vx P Γ n W b Q) Q) st := by rw [vx_eq]; rfl
theorem vx_cond {c x y Q st} : vx P Γ n W (.cond c x y) Q st = (match st.ev c with
    | .pl (.bool b) => (match b with
      | true => vx P Γ n W x Q st
      | false => vx P Γ n W y Q st)
    | _ => False) := by rw [vx_eq]; rfl
theorem vx_block {id c Q st} : vx P Γ n W (.block id c) Q st = vx P Γ n W c (blockQ id Q) st := by rw [vx_eq]; rfl
theorem vx_exit {id Q st} : vx P Γ n W (.exit id) Q st = Q (.exit id) st := by rw [vx_eq]; rfl
theorem vx_ret {Q st} : vx P Γ n W .ret Q st = Q .ret st := by rw [vx_eq]; rfl
theorem vx_loop {c Q st} : vx P Γ n W (.loop c) Q st = VT P n W (.loop c) Q st := by rw [vx_eq, VT_eq]; rfl
theorem vy_zero {c Q st} : vy P Γ n W c Q 0 st = False := by rw [vy_eq]; rfl
theorem vy_succ {c Q k st} : vy P Γ n W c Q (k + 1) st = vx P Γ n W c (seqE (vy P Γ n W c Q k) Q) st := by rw [vy_eq, vx_eq]; rfl

theorem VT_rounds (hΓ : Γ.ok P) (hm : P.follows .mixedOrders = true) {c Q} (k : Nat) {st : St} (h : vy P Γ n W c Q k st) : VT P n W (.loop c) Q st := by
  rw [VT_eq]
  rw [vy_eq] at h
  exact VS_rounds hΓ hm k h
theorem VT_loop (hΓ : Γ.ok P) (hm : P.follows .mixedOrders = true) {c : SC} {Q : Exit → St → Prop} {st : St} {α : Type} (S : α → St) (inv : α → Prop) (μ : α → Nat) (x0 : α) (h0 : Sub st (S x0)) (hi : inv x0)
    (round : ∀ x, inv x → vx P Γ n W c (seqE (backE S inv μ x) Q) (S x)) : VT P n W (.loop c) Q st := by
  rw [VT_eq]
  rw [vx_eq] at round
  exact VS_loop hΓ hm S inv μ x0 h0 hi round
theorem VT_sub {c : SC} {Q : Exit → St → Prop} {st st' : St} (hs : Sub st st') (h : VT P n W c Q st') : VT P n W c Q st := by
  rw [VT_eq] at *
  exact VS_sub hs h
theorem Spec.of_vx (hΓ : Γ.ok P) (hm : P.follows .mixedOrders = true) {f : FuncId} {fn : Func} (hf : P.funcs[f]? = some fn) {c : Code} (hb : fn.body = some c) (hname : (fn.name == "runtime.NumGoroutine") = false)
    {ds : List DV} {r : RV} {T : List (Nat × OT)} (hlen : ds.length ≤ fn.ntmps) (hd : drawnOk T c = true) {sc : SC} (hsc : slim T c = sc) {n : Nat} (hn : fn.ntmps = n) {res : List ResultVar} (hres : fn.results.toList = res) (h : ∀ W, vx P Γ n W sc (bodyQ P res r) ⟨initT 0 ds, []⟩) : Spec P f ds r :=
  Spec.of_vw hΓ hm hf hb hname hlen hd hsc hn hres fun W => by
    have := h W
    rw [vx_eq] at this
    exact this

/-! ### Evaluation order: continuations are not looked into before they are called -/
@[congr] theorem vx_cg {c Q} {st st' : St} (h : st = st') : vx P Γ n W c Q st = vx P Γ n W c Q st' := by rw [h]
@[congr] theorem vy_cg {c Q k} {st st' : St} (h : st = st') : vy P Γ n W c Q k st = vy P Γ n W c Q k st' := by rw [h]
@[congr] theorem VT_cg {c Q} {st st' : St} (h : st = st') : VT P n W c Q st = VT P n W c Q st' := by rw [h]
@[congr] theorem seqE_cg {K Q e} {st st' : St} (h : st = st') : seqE K Q e st = seqE K Q e st' := by rw [h]
@[congr] theorem blockQ_cg {i Q e} {st st' : St} (h : st = st') : blockQ i Q e st = blockQ i Q e st' := by rw [h]
@[congr] theorem bodyQ_cg {res r e} {st st' : St} (h : st = st') : bodyQ P res r e st = bodyQ P res r e st' := by rw [h]
@[congr] theorem resK_cg {res K} {st st' : St} (h : st = st') : resK P st res K = resK P st' res K := by rw [h]
@[congr] theorem xx_cg {D ops K t} {st st' : St} (h : st = st') : xx P Γ n D ops K t st = xx P Γ n D ops K t st' := by rw [h]
@[congr] theorem cx_cg {D B l K} {st st' : St} (h : st = st') : cx P Γ n D B l K st = cx P Γ n D B l K st' := by rw [h]
@[congr] theorem eK_cg {m ev op op' K} (h : op = op') : eK P Γ m ev op K = eK P Γ m ev op' K := by rw [h]
@[congr] theorem cS_cg {B d op K} {st st' : St} (h : st = st') : cS P n B d op st K = cS P n B d op st' K := by rw [h]
@[congr] theorem qSB_cg {B d op K b b'} {st st' : St} (h : st = st') (hb : b = b') : qSB P Γ n B d op K st b = qSB P Γ n B d op K st' b' := by rw [h, hb]
@[congr] theorem gx_cg {D l K} {st st' : St} (h : st = st') : gx P Γ n D l K st = gx P Γ n D l K st' := by rw [h]
@[congr] theorem dx_cg {D l K} {st st' : St} (h : st = st') : dx P Γ n D l K st = dx P Γ n D l K st' := by rw [h]
@[congr] theorem gO_cg {d op K} {st st' : St} (h : st = st') : gO P Γ n d op st K = gO P Γ n d op st' K := by rw [h]
@[congr] theorem gK_cg {o K} {st st' : St} (h : st = st') : gK P Γ n o st K = gK P Γ n o st' K := by rw [h]
@[congr] theorem gSO_cg {d op K b b'} {st st' : St} (h : st = st') (hb : b = b') : gSO P Γ n d op K st b = gSO P Γ n d op K st' b' := by rw [h, hb]
@[congr] theorem qSO_cg {d op K b b'} {st st' : St} (h : st = st') (hb : b = b') : qSO P Γ n d op K st b = qSO P Γ n d op K st' b' := by rw [h, hb]
@[congr] theorem guardS_cg {D g K} {st st' : St} (h : st = st') : guardS D st g K = guardS D st' g K := by rw [h]
@[congr] theorem newK_cg {d t mk K} {st st' : St} {cs cs' : List Value} (h : st = st') (hc : cs = cs') : newK n st d t cs mk K = newK n st' d t cs' mk K := by rw [h, hc]
@[congr] theorem putK_cg {d K} {st st' : St} {r r' : AV} (h : st = st') (hr : r = r') : putK n d K st r = putK n d K st' r' := by rw [h, hr]
@[congr] theorem plK_cg {K} {v v' : Value} (h : v = v') : plK K v = plK K v' := by rw [h]
@[congr] theorem qK_cg {m ev op op' K} (h : op = op') : qK P Γ m ev op K = qK P Γ m ev op' K := by rw [h]
@[congr] theorem optK_cg {o o' : Option RV} {K} (h : o = o') : optK o K = optK o' K := by rw [h]
@[congr] theorem backE_cg {α : Type} {S : α → St} {inv : α → Prop} {μ : α → Nat} {x : α} {st st' : St} (h : st = st') : backE S inv μ x st = backE S inv μ x st' := by rw [h]
end

theorem ok_nil (P : Program) : Env.ok [] P := fun f g h => by cases h
theorem ok_cons {P : Program} {f : Nat} {g : List DV → Option RV} {Γ : Env} (h : ∀ ds r, g ds = some r → Spec P f ds r) (hΓ : Env.ok Γ P) : Env.ok ((f, g) :: Γ) P := fun f' g' hl => by
  simp only [look] at hl
  split at hl
  · rename_i e; subst e; cases hl; exact fun ds r hr => SpecR.of (h ds r hr)
  · exact hΓ f' g' hl
theorem ok_consW {P : Program} {f : Nat} {g : List DV → Option RV} {Γ : Env} (h : ∀ ds r, g ds = some r → SpecR P f ds r) (hΓ : Env.ok Γ P) : Env.ok ((f, g) :: Γ) P := fun f' g' hl => by
  simp only [look] at hl
  split at hl
  · rename_i e; subst e; cases hl; exact h
  · exact hΓ f' g' hl

/-! ### Add64, Sub64 -/
def add64G : List DV → Option RV
  | [.pl (.int .u64 x), .pl (.int .u64 y), .pl (.int .u64 c)] =>
    if 0 ≤ x ∧ 0 ≤ y ∧ 0 ≤ c ∧ c ≤ 1 then some (.tup [.pl (.int .u64 ((x + y + c) % 18446744073709551616)), .pl (.int .u64 ((x + y + c) / 18446744073709551616))]) else none
  | _ => none

noncomputable def okW : Int → Bool := Classical.choose (⟨fun x => decide (0 ≤ x ∧ x < 18446744073709551616), rfl⟩ : ∃ f : Int → Bool, f = fun x => decide (0 ≤ x ∧ x < 18446744073709551616))
theorem okW_eq : okW = fun x => decide (0 ≤ x ∧ x < 18446744073709551616) := Classical.choose_spec (⟨fun x => decide (0 ≤ x ∧ x < 18446744073709551616), rfl⟩ : ∃ f : Int → Bool, f = fun x => decide (0 ≤ x ∧ x < 18446744073709551616))
noncomputable def okC : Int → Bool := Classical.choose (⟨fun x => decide (0 ≤ x ∧ x ≤ 1), rfl⟩ : ∃ f : Int → Bool, f = fun x => decide (0 ≤ x ∧ x ≤ 1))
theorem okC_eq : okC = fun x => decide (0 ≤ x ∧ x ≤ 1) := Classical.choose_spec (⟨fun x => decide (0 ≤ x ∧ x ≤ 1), rfl⟩ : ∃ f : Int → Bool, f = fun x => decide (0 ≤ x ∧ x ≤ 1))
theorem okW_of {x : Int} (h : 0 ≤ x) (h' : x < 18446744073709551616) : okW x = true := by rw [okW_eq]; exact decide_eq_true ⟨h, h'⟩
theorem okC_of {x : Int} (h : 0 ≤ x) (h' : x ≤ 1) : okC x = true := by rw [okC_eq]; exact decide_eq_true ⟨h, h'⟩
theorem okW_nat {x : Nat} (h : x < 18446744073709551616) : okW (x : Int) = true := okW_of (by omega) (by omega)
theorem okW_0 (x : Nat) : okW (w0 x : Nat) = true := okW_nat (w0_lt x)
theorem okW_1 (x : Nat) : okW (w1 x : Nat) = true := okW_nat (w1_lt x)
theorem okW_2 (x : Nat) : okW (w2 x : Nat) = true := okW_nat (w2_lt x)
theorem okW_3 (x : Nat) : okW (w3 x : Nat) = true := okW_nat (w3_lt x)
theorem okC_0 : okC 0 = true := okC_of (by omega) (by omega)
def brw (x y c : Int) : Int := if x < y + c then 1 else 0

noncomputable def sub64G : List DV → Option RV
  | [.pl (.int .u64 x), .pl (.int .u64 y), .pl (.int .u64 c)] =>
    if (okW x && okW y && okC c) = true then some (.tup [.pl (.int .u64 ((x - y - c) % 18446744073709551616)), .pl (.int .u64 (brw x y c))]) else none
  | _ => none

theorem add64_entry : ∀ {P : Program} (x y c : Int), 0 ≤ x → 0 ≤ y → 0 ≤ c → c ≤ 1 → ∀ (w : World), (add64Entry #[.int .u64 x, .int .u64 y, .int .u64 c]).run P w =
      .ok (.tuple #[.int .u64 ((x + y + c) % 18446744073709551616), .int .u64 ((x + y + c) / 18446744073709551616)]) w := fun x y c hx hy hc hc1 w => run_add64 x y c hx hy hc hc1 w

def sub64E : Array Value → Sem Value := fun args => do
  let (x, y, b) ← Extern.MathBitsCarry.three "Sub64" args
  pure (Extern.MathBitsCarry.pair ((x + Extern.MathBitsCarry.m64 - y - b) % Extern.MathBitsCarry.m64) (if x < y + b then 1 else 0))

theorem run_sub64E {P : Program} (x y b : Nat) (hb : b ≤ 1) (w : World) :
    (sub64E #[.int .u64 x, .int .u64 y, .int .u64 b]).run P w =
      .ok (.tuple #[.int .u64 (((x + 18446744073709551616 - y - b) % 18446744073709551616 : Nat) : Int), .int .u64 ((if x < y + b then 1 else 0 : Nat) : Int)]) w := by
  have : b = 0 ∨ b = 1 := by omega
  rcases this with rfl | rfl <;> rfl

theorem add64_ok {P : Program} {f : FuncId} {fn : Func} (hf : P.funcs[f]? = some fn) (h1 : (fn.name == "runtime.NumGoroutine") = false) (h2 : fn.body.isNone = true) (h3 : Extern.findNext fn = none) (h4 : Extern.find fn = some add64Entry) :
    ∀ ds r, add64G ds = some r → Spec P f ds r := by
  intro ds r h w vs hv
  unfold add64G at h
  split at h
  · rename_i x y c
    split at h
    · rename_i hc
      cases h
      match vs, hv with
      | [a, b, d], hv =>
        obtain ⟨rfl, rfl, rfl, _⟩ := hv
        rw [run_callFunc_extern hf h1 h2 h3 h4, run_add64 x y c hc.1 hc.2.1 hc.2.2.1 hc.2.2.2]
        exact ⟨⟨_, rfl, rfl, rfl, trivial⟩, Below.refl _ _⟩
    · cases h
  · cases h

theorem sub64_ok {P : Program} {f : FuncId} {fn : Func} (hf : P.funcs[f]? = some fn) (h1 : (fn.name == "runtime.NumGoroutine") = false) (h2 : fn.body.isNone = true) (h3 : Extern.findNext fn = none) (h4 : Extern.find fn = some sub64E) :
    ∀ ds r, sub64G ds = some r → Spec P f ds r := by
  intro ds r h w vs hv
  unfold sub64G at h
  split at h
  · rename_i x y c
    split at h
    · rename_i hc
      cases h
      match vs, hv with
      | [a, b, d], hv =>
        obtain ⟨rfl, rfl, rfl, _⟩ := hv
        simp only [okW_eq, okC_eq, Bool.and_eq_true, decide_eq_true_eq] at hc
        obtain ⟨X, rfl⟩ := Int.eq_ofNat_of_zero_le hc.1.1.1
        obtain ⟨Y, rfl⟩ := Int.eq_ofNat_of_zero_le hc.1.2.1
        obtain ⟨C, rfl⟩ := Int.eq_ofNat_of_zero_le hc.2.1
        have := run_sub64E (P := P) X Y C (by omega) w
        rw [run_callFunc_extern hf h1 h2 h3 h4, this]
        refine ⟨⟨_, rfl, ?_, ?_, trivial⟩, Below.refl _ _⟩
        · show Value.int .u64 _ = Value.int .u64 _
          congr 1
          omega
        · show Value.int .u64 _ = Value.int .u64 _
          congr 1
          unfold brw
          split <;> split <;> omega
    · cases h
  · cases h

end Go.Vm
