/- Numbers of the field, points and wide points as values. No condition. -/
import Derived.Test.YtcbcmfmcpdimkaaPq
import Derived.Test.YtcbcmfmcpdimkaaGc
import Derived.Test.YtcbcmfmcpdimkaaRt
set_option maxRecDepth 100000
set_option linter.unusedSimpArgs false
set_option linter.unusedVariables false
namespace Go.Vm
open Go Go.RowKit Go.Proofs Go.Ec

theorem nc_v (a : Nat) : a % pN 0 = (nc a).val := by rw [pN_0]; rfl
theorem add_v (a b : Nat) : (a + b) % pN 0 = (nc a + nc b).val := by rw [nc_v, nc_add]
theorem mul_v (a b : Nat) : a * b % pN 0 = (nc a * nc b).val := by rw [nc_v, nc_mul]
theorem nc_mod (a : Nat) : nc (a % 115792089237316195423570985008687907853269984665640564039457584007908834671663) = nc a := Fin.ext (Nat.mod_mod _ _)
theorem sub_v (a b : Nat) : (a % pN 0 + (pN 0 - b % pN 0)) % pN 0 = (nc a - nc b).val := by
  rw [pN_0, Fin.sub_def]
  show _ = ((_ - b % _) + a % _) % _
  rw [Nat.add_comm]
theorem v_p (A : Fp) : A.val < pN 0 := by rw [pN_0]; exact A.isLt
theorem v_lt (A : Fp) : A.val < full := Nat.lt_trans (v_p A) (pN_lt 0)
theorem toN_v (A : Fp) : toN (uV A.val) = some A.val := toN_lt (v_lt A)
theorem toN_0' : toN (uV 0) = some 0 := by rw [toN_uV, Nat.zero_mod]
theorem toN_1' : toN (uV 1) = some 1 := toN_lt (by rw [full_eq]; omega)
theorem valm (A : Fp) : A.val % full = A.val := Nat.mod_eq_of_lt (v_lt A)
theorem mod7 : 7 % full = 7 := Nat.mod_eq_of_lt (by rw [full_eq]; omega)
theorem eqU_v (A B : Fp) : eqU A.val B.val = decide (A = B) := by
  rw [eqU_lt (v_lt A) (v_lt B)]
  exact decide_eq_decide.2 ⟨Fin.ext, congrArg Fin.val⟩
theorem eqU_v0 (A : Fp) : eqU A.val 0 = decide (A = 0) := eqU_v A 0
theorem nc7 : nc 7 = 7 := rfl

theorem cells_pt (x y : Nat) (b : Bool) : (ptV x y b).cells = #[.int .u64 (w0 x : Nat), .int .u64 (w1 x : Nat), .int .u64 (w2 x : Nat), .int .u64 (w3 x : Nat), .int .u64 (w0 y : Nat), .int .u64 (w1 y : Nat), .int .u64 (w2 y : Nat), .int .u64 (w3 y : Nat), .bool b] := rfl
theorem agg_pt (x y : Nat) (b : Bool) : Value.agg #[.int .u64 (w0 x : Nat), .int .u64 (w1 x : Nat), .int .u64 (w2 x : Nat), .int .u64 (w3 x : Nat), .int .u64 (w0 y : Nat), .int .u64 (w1 y : Nat), .int .u64 (w2 y : Nat), .int .u64 (w3 y : Nat), .bool b] = ptV x y b := rfl
theorem isNil_pt (x y : Nat) (b : Bool) : isNil (ptV x y b) = false := rfl
theorem w_0 : w0 0 = 0 ∧ w1 0 = 0 ∧ w2 0 = 0 ∧ w3 0 = 0 := by
  rw [w0_eq, w1_eq, w2_eq, w3_eq]; simp
theorem w_1 : w0 1 = 1 ∧ w1 1 = 0 ∧ w2 1 = 0 ∧ w3 1 = 0 := by
  rw [w0_eq, w1_eq, w2_eq, w3_eq]; simp
theorem ptV_lit (b : Bool) : Value.agg #[.int .u64 0, .int .u64 0, .int .u64 0, .int .u64 0, .int .u64 0, .int .u64 0, .int .u64 0, .int .u64 0, .bool b] = ptV 0 0 b := by
  rw [← agg_pt, w_0.1, w_0.2.1, w_0.2.2.1, w_0.2.2.2]; rfl

noncomputable def wV (x y : Nat) (b : Bool) (z : Nat) : Value := .agg #[.int .u64 (w0 x : Nat), .int .u64 (w1 x : Nat), .int .u64 (w2 x : Nat), .int .u64 (w3 x : Nat), .int .u64 (w0 y : Nat), .int .u64 (w1 y : Nat), .int .u64 (w2 y : Nat), .int .u64 (w3 y : Nat), .bool b, .int .u64 (w0 z : Nat), .int .u64 (w1 z : Nat), .int .u64 (w2 z : Nat), .int .u64 (w3 z : Nat)]
theorem cells_w (x y : Nat) (b : Bool) (z : Nat) : (wV x y b z).cells = #[.int .u64 (w0 x : Nat), .int .u64 (w1 x : Nat), .int .u64 (w2 x : Nat), .int .u64 (w3 x : Nat), .int .u64 (w0 y : Nat), .int .u64 (w1 y : Nat), .int .u64 (w2 y : Nat), .int .u64 (w3 y : Nat), .bool b, .int .u64 (w0 z : Nat), .int .u64 (w1 z : Nat), .int .u64 (w2 z : Nat), .int .u64 (w3 z : Nat)] := rfl
theorem agg_w (x y : Nat) (b : Bool) (z : Nat) : Value.agg #[.int .u64 (w0 x : Nat), .int .u64 (w1 x : Nat), .int .u64 (w2 x : Nat), .int .u64 (w3 x : Nat), .int .u64 (w0 y : Nat), .int .u64 (w1 y : Nat), .int .u64 (w2 y : Nat), .int .u64 (w3 y : Nat), .bool b, .int .u64 (w0 z : Nat), .int .u64 (w1 z : Nat), .int .u64 (w2 z : Nat), .int .u64 (w3 z : Nat)] = wV x y b z := rfl
theorem isNil_w (x y : Nat) (b : Bool) (z : Nat) : isNil (wV x y b z) = false := rfl
theorem wV_1 (x y : Nat) (b : Bool) : Value.agg #[.int .u64 (w0 x : Nat), .int .u64 (w1 x : Nat), .int .u64 (w2 x : Nat), .int .u64 (w3 x : Nat), .int .u64 (w0 y : Nat), .int .u64 (w1 y : Nat), .int .u64 (w2 y : Nat), .int .u64 (w3 y : Nat), .bool b, .int .u64 1, .int .u64 0, .int .u64 0, .int .u64 0] = wV x y b 1 := by
  rw [← agg_w, w_1.1, w_1.2.1, w_1.2.2.1, w_1.2.2.2]; rfl

theorem int_inj {a b : Nat} (h : Value.int .u64 (a : Int) = Value.int .u64 (b : Int)) : a = b := by
  injection h with _ h2; exact Int.ofNat_inj.1 h2
theorem num_inj {a b : Nat} (ha : a < full) (hb : b < full) (h0 : w0 a = w0 b) (h1 : w1 a = w1 b) (h2 : w2 a = w2 b) (h3 : w3 a = w3 b) : a = b := by
  rw [← words_lt ha, ← words_lt hb, h0, h1, h2, h3]
theorem wV_inj {x y z x' y' z' : Nat} {b b' : Bool} (hx : x < full) (hy : y < full) (hz : z < full) (hx' : x' < full) (hy' : y' < full) (hz' : z' < full) (h : wV x y b z = wV x' y' b' z') : x = x' ∧ y = y' ∧ b = b' ∧ z = z' := by
  unfold wV at h
  injection h with h
  injection h with h
  simp only [List.cons.injEq, Value.int.injEq, true_and, Int.ofNat_inj, Value.bool.injEq, and_true] at h
  obtain ⟨a0, a1, a2, a3, c0, c1, c2, c3, e, d0, d1, d2, d3⟩ := h
  exact ⟨num_inj hx hx' a0 a1 a2 a3, num_inj hy hy' c0 c1 c2 c3, e, num_inj hz hz' d0 d1 d2 d3⟩
theorem ptV_inj {x y x' y' : Nat} {b b' : Bool} (hx : x < full) (hy : y < full) (hx' : x' < full) (hy' : y' < full) (h : ptV x y b = ptV x' y' b') : x = x' ∧ y = y' ∧ b = b' := by
  rw [← agg_pt, ← agg_pt] at h
  injection h with h
  injection h with h
  simp only [List.cons.injEq, Value.int.injEq, true_and, Int.ofNat_inj, Value.bool.injEq, and_true] at h
  obtain ⟨a0, a1, a2, a3, c0, c1, c2, c3, e⟩ := h
  exact ⟨num_inj hx hx' a0 a1 a2 a3, num_inj hy hy' c0 c1 c2 c3, e⟩

/-- a point's numbers, as they lie -/
noncomputable def toR : Value → Option (Nat × Nat × Bool) := fun v => open Classical in if h : ∃ q : Nat × Nat × Bool, (q.1 < full ∧ q.2.1 < full) ∧ v = ptV q.1 q.2.1 q.2.2 then some (Classical.choose h) else none
theorem toR_lt {x y : Nat} {b : Bool} (hx : x < full) (hy : y < full) : toR (ptV x y b) = some (x, y, b) := by
  have h : ∃ q : Nat × Nat × Bool, (q.1 < full ∧ q.2.1 < full) ∧ ptV x y b = ptV q.1 q.2.1 q.2.2 := ⟨(x, y, b), ⟨hx, hy⟩, rfl⟩
  unfold toR
  rw [dif_pos h]
  obtain ⟨⟨h1, h2⟩, h3⟩ := Classical.choose_spec h
  obtain ⟨e1, e2, e3⟩ := ptV_inj hx hy h1 h2 h3
  generalize Classical.choose h = q at *
  obtain ⟨x', y', b'⟩ := q
  simp only at e1 e2 e3
  rw [e1, e2, e3]
theorem toR_eq {v : Value} {x y : Nat} {b : Bool} (h : toR v = some (x, y, b)) : v = ptV x y b ∧ x < full ∧ y < full := by
  unfold toR at h
  split at h
  case isFalse => cases h
  rename_i h0
  injection h with h
  obtain ⟨⟨h1, h2⟩, h3⟩ := Classical.choose_spec h0
  rw [h] at h1 h2 h3
  exact ⟨h3, h1, h2⟩
theorem toR_v (X Y : Fp) (b : Bool) : toR (ptV X.val Y.val b) = some (X.val, Y.val, b) := toR_lt (v_lt X) (v_lt Y)
theorem toR_0 (b : Bool) : toR (ptV 0 0 b) = some (0, 0, b) := toR_lt full_pos full_pos

structure Wd where
  X : Fp
  Y : Fp
  b : Bool
  z : Fp
noncomputable def toW : Value → Option Wd := fun v => open Classical in if h : ∃ q : Wd, v = wV q.X.val q.Y.val q.b q.z.val then some (Classical.choose h) else none
theorem toW_v (X Y : Fp) (b : Bool) (z : Fp) : toW (wV X.val Y.val b z.val) = some ⟨X, Y, b, z⟩ := by
  have h : ∃ q : Wd, wV X.val Y.val b z.val = wV q.X.val q.Y.val q.b q.z.val := ⟨⟨X, Y, b, z⟩, rfl⟩
  unfold toW
  rw [dif_pos h]
  have h3 := Classical.choose_spec h
  obtain ⟨e1, e2, e3, e4⟩ := wV_inj (v_lt _) (v_lt _) (v_lt _) (v_lt _) (v_lt _) (v_lt _) h3
  generalize Classical.choose h = q at *
  obtain ⟨x', y', b', z'⟩ := q
  rw [Fin.ext e1, Fin.ext e2, e3, Fin.ext e4]
theorem toW_1 (X Y : Fp) (b : Bool) : toW (wV X.val Y.val b 1) = some ⟨X, Y, b, 1⟩ := toW_v X Y b 1
theorem toW_eq {v : Value} {s : Wd} (h : toW v = some s) : v = wV s.X.val s.Y.val s.b s.z.val := by
  unfold toW at h
  split at h
  case isFalse => cases h
  rename_i h0
  injection h with h
  rw [← h]
  exact Classical.choose_spec h0
end Go.Vm
