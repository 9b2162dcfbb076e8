/- Texts of the proof, laid together: E, Fd, Fe, Pw, Ff, Po, Nu, Tu. No condition. -/
import Derived.Test.YtphocbfdakjmaaaPart3
/- Contract: Mul. No condition. -/
set_option maxRecDepth 100000
set_option linter.unusedSimpArgs false
set_option linter.unusedVariables false
namespace Go.Vm
open Go Go.RowKit Go.Proofs

noncomputable def mulG : List DV → Option RV
  | [.pl va, .pl vb] => match toN va, toN vb with
    | some a, some b => some (.tup [.pl (uV (a * b)), .pl (uV (a * b / full))])
    | _, _ => none
  | _ => none

theorem mul_step (x y : Nat) (o c : Int) (hx : x < 18446744073709551616) (hy : y < 18446744073709551616) (ho : 0 ≤ o) (ho' : o < 18446744073709551616) (hc : 0 ≤ c) (hc' : c < 18446744073709551616) :
    ∃ l1 c1 h1 lo c2 ca : Nat, (((x * y % 18446744073709551616 : Nat) : Int) + o + 0) % 18446744073709551616 = (l1 : Int) ∧ (((x * y % 18446744073709551616 : Nat) : Int) + o + 0) / 18446744073709551616 = (c1 : Int) ∧
      (((x * y / 18446744073709551616 : Nat) : Int) + (c1 : Int)) % 18446744073709551616 = (h1 : Int) ∧ ((l1 : Int) + c + 0) % 18446744073709551616 = (lo : Int) ∧ ((l1 : Int) + c + 0) / 18446744073709551616 = (c2 : Int) ∧
      ((h1 : Int) + (c2 : Int)) % 18446744073709551616 = (ca : Int) ∧ (lo : Int) < 18446744073709551616 ∧ (ca : Int) < 18446744073709551616 ∧ (lo : Int) + ca * 18446744073709551616 = ((x * y : Nat) : Int) + o + c := by
  have hp : x * y ≤ 340282366920938463426481119284349108225 := Nat.mul_le_mul (show x ≤ 18446744073709551615 by omega) (show y ≤ 18446744073709551615 by omega)
  generalize x * y = p at *
  obtain ⟨O, rfl⟩ := Int.eq_ofNat_of_zero_le ho
  obtain ⟨C, rfl⟩ := Int.eq_ofNat_of_zero_le hc
  have hpm := Nat.div_add_mod p 18446744073709551616
  have hl : p % 18446744073709551616 < 18446744073709551616 := Nat.mod_lt _ (by omega)
  have hh : p / 18446744073709551616 ≤ 18446744073709551614 := by omega
  generalize p / 18446744073709551616 = hi at *
  generalize p % 18446744073709551616 = lo at *
  obtain ⟨l1, c1, e1, f1, g1⟩ : ∃ l1 c1, lo + O = l1 + 18446744073709551616 * c1 ∧ l1 < 18446744073709551616 ∧ c1 ≤ 1 := ⟨(lo + O) % 18446744073709551616, (lo + O) / 18446744073709551616, by omega, by omega, by omega⟩
  obtain ⟨l2, c2, e2, f2, g2⟩ : ∃ l2 c2, l1 + C = l2 + 18446744073709551616 * c2 ∧ l2 < 18446744073709551616 ∧ c2 ≤ 1 := ⟨(l1 + C) % 18446744073709551616, (l1 + C) / 18446744073709551616, by omega, by omega, by omega⟩
  refine ⟨l1, c1, hi + c1, l2, c2, hi + c1 + c2, by omega, by omega, by omega, by omega, by omega, by omega, by omega, by omega, by omega⟩

theorem mul_row (x b : Nat) (hb : num (w0 b) (w1 b) (w2 b) (w3 b) = b) {o0 o1 o2 o3 : Int} {l0 l1 l2 l3 k0 k1 k2 k3 : Nat}
    (h0 : (l0 : Int) + k0 * 18446744073709551616 = ((x * w0 b : Nat) : Int) + o0 + 0) (h1 : (l1 : Int) + k1 * 18446744073709551616 = ((x * w1 b : Nat) : Int) + o1 + k0)
    (h2 : (l2 : Int) + k2 * 18446744073709551616 = ((x * w2 b : Nat) : Int) + o2 + k1) (h3 : (l3 : Int) + k3 * 18446744073709551616 = ((x * w3 b : Nat) : Int) + o3 + k2) :
    (l0 : Int) + l1 * 18446744073709551616 + l2 * 340282366920938463463374607431768211456 + l3 * 6277101735386680763835789423207666416102355444464034512896 + k3 * 115792089237316195423570985008687907853269984665640564039457584007913129639936 = ((x * b : Nat) : Int) + o0 + o1 * 18446744073709551616 + o2 * 340282366920938463463374607431768211456 + o3 * 6277101735386680763835789423207666416102355444464034512896 := by
  have e : x * b = x * w0 b + x * w1 b * 18446744073709551616 + x * w2 b * 340282366920938463463374607431768211456 + x * w3 b * 6277101735386680763835789423207666416102355444464034512896 := by
    conv => lhs; rw [← hb]
    simp only [num, Nat.mul_add, Nat.mul_assoc]
  rw [e]
  generalize x * w0 b = z0 at *
  generalize x * w1 b = z1 at *
  generalize x * w2 b = z2 at *
  generalize x * w3 b = z3 at *
  omega

theorem mul_total (a b : Nat) (ha : num (w0 a) (w1 a) (w2 a) (w3 a) = a) {l00 l01 l02 l03 c0 l10 l11 l12 l13 c1 l20 l21 l22 l23 c2 l30 l31 l32 l33 c3 : Nat}
    (h0 : (l00 : Int) + l01 * 18446744073709551616 + l02 * 340282366920938463463374607431768211456 + l03 * 6277101735386680763835789423207666416102355444464034512896 + c0 * 115792089237316195423570985008687907853269984665640564039457584007913129639936 = ((w0 a * b : Nat) : Int) + 0 + 0 * 18446744073709551616 + 0 * 340282366920938463463374607431768211456 + 0 * 6277101735386680763835789423207666416102355444464034512896)
    (h1 : (l10 : Int) + l11 * 18446744073709551616 + l12 * 340282366920938463463374607431768211456 + l13 * 6277101735386680763835789423207666416102355444464034512896 + c1 * 115792089237316195423570985008687907853269984665640564039457584007913129639936 = ((w1 a * b : Nat) : Int) + l01 + l02 * 18446744073709551616 + l03 * 340282366920938463463374607431768211456 + c0 * 6277101735386680763835789423207666416102355444464034512896)
    (h2 : (l20 : Int) + l21 * 18446744073709551616 + l22 * 340282366920938463463374607431768211456 + l23 * 6277101735386680763835789423207666416102355444464034512896 + c2 * 115792089237316195423570985008687907853269984665640564039457584007913129639936 = ((w2 a * b : Nat) : Int) + l11 + l12 * 18446744073709551616 + l13 * 340282366920938463463374607431768211456 + c1 * 6277101735386680763835789423207666416102355444464034512896)
    (h3 : (l30 : Int) + l31 * 18446744073709551616 + l32 * 340282366920938463463374607431768211456 + l33 * 6277101735386680763835789423207666416102355444464034512896 + c3 * 115792089237316195423570985008687907853269984665640564039457584007913129639936 = ((w3 a * b : Nat) : Int) + l21 + l22 * 18446744073709551616 + l23 * 340282366920938463463374607431768211456 + c2 * 6277101735386680763835789423207666416102355444464034512896) :
    a * b = num l00 l10 l20 l30 + full * num l31 l32 l33 c3 := by
  have e : a * b = w0 a * b + w1 a * b * 18446744073709551616 + w2 a * b * 340282366920938463463374607431768211456 + w3 a * b * 6277101735386680763835789423207666416102355444464034512896 := by
    conv => lhs; rw [← ha]
    simp only [num, Nat.add_mul, Nat.mul_right_comm _ _ b]
  rw [e, full_eq]
  generalize w0 a * b = z0 at *
  generalize w1 a * b = z1 at *
  generalize w2 a * b = z2 at *
  generalize w3 a * b = z3 at *
  unfold num
  omega

def mulTree : OT := .alt 0 (.alt 1 (.alt 2 (.alt 3 (.alt 4 (.alt 5 (.alt 6 (.alt 7 (.done) (.stop)) (.stop)) (.alt 6 (.alt 5 (.alt 7 (.done) (.stop)) (.stop)) (.stop))) (.alt 6 (.alt 4 (.alt 5 (.alt 7 (.done) (.stop)) (.stop)) (.stop)) (.stop))) (.alt 6 (.alt 3 (.alt 4 (.alt 5 (.alt 7 (.done) (.stop)) (.stop)) (.stop)) (.stop)) (.stop))) (.alt 3 (.alt 2 (.alt 4 (.alt 5 (.alt 6 (.alt 7 (.done) (.stop)) (.stop)) (.alt 6 (.alt 5 (.alt 7 (.done) (.stop)) (.stop)) (.stop))) (.alt 6 (.alt 4 (.alt 5 (.alt 7 (.done) (.stop)) (.stop)) (.stop)) (.stop))) (.alt 4 (.alt 2 (.alt 5 (.alt 6 (.alt 7 (.done) (.stop)) (.stop)) (.alt 6 (.alt 5 (.alt 7 (.done) (.stop)) (.stop)) (.stop))) (.alt 5 (.alt 2 (.alt 6 (.alt 7 (.done) (.stop)) (.stop)) (.stop)) (.stop))) (.stop))) (.stop))) (.alt 3 (.alt 1 (.alt 2 (.alt 4 (.alt 5 (.alt 6 (.alt 7 (.done) (.stop)) (.stop)) (.alt 6 (.alt 5 (.alt 7 (.done) (.stop)) (.stop)) (.stop))) (.alt 6 (.alt 4 (.alt 5 (.alt 7 (.done) (.stop)) (.stop)) (.stop)) (.stop))) (.alt 4 (.alt 2 (.alt 5 (.alt 6 (.alt 7 (.done) (.stop)) (.stop)) (.alt 6 (.alt 5 (.alt 7 (.done) (.stop)) (.stop)) (.stop))) (.alt 5 (.alt 2 (.alt 6 (.alt 7 (.done) (.stop)) (.stop)) (.stop)) (.stop))) (.stop))) (.alt 4 (.alt 1 (.alt 2 (.alt 5 (.alt 6 (.alt 7 (.done) (.stop)) (.stop)) (.alt 6 (.alt 5 (.alt 7 (.done) (.stop)) (.stop)) (.stop))) (.alt 5 (.alt 2 (.alt 6 (.alt 7 (.done) (.stop)) (.stop)) (.stop)) (.stop))) (.alt 5 (.alt 1 (.alt 2 (.alt 6 (.alt 7 (.done) (.stop)) (.stop)) (.stop)) (.stop)) (.stop))) (.stop))) (.stop))) (.alt 3 (.alt 0 (.alt 1 (.alt 2 (.alt 4 (.alt 5 (.alt 6 (.alt 7 (.done) (.stop)) (.stop)) (.alt 6 (.alt 5 (.alt 7 (.done) (.stop)) (.stop)) (.stop))) (.alt 6 (.alt 4 (.alt 5 (.alt 7 (.done) (.stop)) (.stop)) (.stop)) (.stop))) (.alt 4 (.alt 2 (.alt 5 (.alt 6 (.alt 7 (.done) (.stop)) (.stop)) (.alt 6 (.alt 5 (.alt 7 (.done) (.stop)) (.stop)) (.stop))) (.alt 5 (.alt 2 (.alt 6 (.alt 7 (.done) (.stop)) (.stop)) (.stop)) (.stop))) (.stop))) (.alt 4 (.alt 1 (.alt 2 (.alt 5 (.alt 6 (.alt 7 (.done) (.stop)) (.stop)) (.alt 6 (.alt 5 (.alt 7 (.done) (.stop)) (.stop)) (.stop))) (.alt 5 (.alt 2 (.alt 6 (.alt 7 (.done) (.stop)) (.stop)) (.stop)) (.stop))) (.alt 5 (.alt 1 (.alt 2 (.alt 6 (.alt 7 (.done) (.stop)) (.stop)) (.stop)) (.stop)) (.stop))) (.stop))) (.alt 4 (.alt 0 (.alt 1 (.alt 2 (.alt 5 (.alt 6 (.alt 7 (.done) (.stop)) (.stop)) (.alt 6 (.alt 5 (.alt 7 (.done) (.stop)) (.stop)) (.stop))) (.alt 5 (.alt 2 (.alt 6 (.alt 7 (.done) (.stop)) (.stop)) (.stop)) (.stop))) (.alt 5 (.alt 1 (.alt 2 (.alt 6 (.alt 7 (.done) (.stop)) (.stop)) (.stop)) (.stop)) (.stop))) (.alt 5 (.alt 0 (.alt 1 (.alt 2 (.alt 6 (.alt 7 (.done) (.stop)) (.stop)) (.stop)) (.stop)) (.stop)) (.stop))) (.stop))) (.stop))

set_option maxHeartbeats 40000000 in
theorem mul_ok : ∀ ds r, mulG ds = some r → Spec Try.prog 82 ds r := by
  intro ds r h
  unfold mulG at h
  split at h
  case h_2 => cases h
  rename_i va vb
  split at h
  case h_2 => cases h
  rename_i a b ha hb
  cases h
  obtain ⟨rfl, ha'⟩ := toN_eq ha
  obtain ⟨rfl, hb'⟩ := toN_eq hb
  have a0 := w0_lt a; have a1 := w1_lt a; have a2 := w2_lt a; have a3 := w3_lt a
  have b0 := w0_lt b; have b1 := w1_lt b; have b2 := w2_lt b; have b3 := w3_lt b
  have hΓ : Env.ok [(94, mul64G), (95, add64G)] Try.prog := ok_cons mul64_here (ok_cons add64_here (ok_nil _))
  obtain ⟨l00, p00, h00, o00, q00, c00, e00, f00, g00, i00, j00, k00, m00, r00, s00⟩ := mul_step (w0 a) (w0 b) (0 : Int) (0 : Int) a0 b0 (by omega) (by omega) (by omega) (by omega)
  obtain ⟨l01, p01, h01, o01, q01, c01, e01, f01, g01, i01, j01, k01, m01, r01, s01⟩ := mul_step (w0 a) (w1 b) (0 : Int) (c00 : Int) a0 b1 (by omega) (by omega) (by omega) (by omega)
  obtain ⟨l02, p02, h02, o02, q02, c02, e02, f02, g02, i02, j02, k02, m02, r02, s02⟩ := mul_step (w0 a) (w2 b) (0 : Int) (c01 : Int) a0 b2 (by omega) (by omega) (by omega) (by omega)
  obtain ⟨l03, p03, h03, o03, q03, c03, e03, f03, g03, i03, j03, k03, m03, r03, s03⟩ := mul_step (w0 a) (w3 b) (0 : Int) (c02 : Int) a0 b3 (by omega) (by omega) (by omega) (by omega)
  have R0 := mul_row (w0 a) b (words_lt hb') s00 s01 s02 s03
  clear s00 s01 s02 s03
  obtain ⟨l10, p10, h10, o10, q10, c10, e10, f10, g10, i10, j10, k10, m10, r10, s10⟩ := mul_step (w1 a) (w0 b) (o01 : Int) (0 : Int) a1 b0 (by omega) (by omega) (by omega) (by omega)
  obtain ⟨l11, p11, h11, o11, q11, c11, e11, f11, g11, i11, j11, k11, m11, r11, s11⟩ := mul_step (w1 a) (w1 b) (o02 : Int) (c10 : Int) a1 b1 (by omega) (by omega) (by omega) (by omega)
  obtain ⟨l12, p12, h12, o12, q12, c12, e12, f12, g12, i12, j12, k12, m12, r12, s12⟩ := mul_step (w1 a) (w2 b) (o03 : Int) (c11 : Int) a1 b2 (by omega) (by omega) (by omega) (by omega)
  obtain ⟨l13, p13, h13, o13, q13, c13, e13, f13, g13, i13, j13, k13, m13, r13, s13⟩ := mul_step (w1 a) (w3 b) (c03 : Int) (c12 : Int) a1 b3 (by omega) (by omega) (by omega) (by omega)
  have R1 := mul_row (w1 a) b (words_lt hb') s10 s11 s12 s13
  clear s10 s11 s12 s13
  obtain ⟨l20, p20, h20, o20, q20, c20, e20, f20, g20, i20, j20, k20, m20, r20, s20⟩ := mul_step (w2 a) (w0 b) (o11 : Int) (0 : Int) a2 b0 (by omega) (by omega) (by omega) (by omega)
  obtain ⟨l21, p21, h21, o21, q21, c21, e21, f21, g21, i21, j21, k21, m21, r21, s21⟩ := mul_step (w2 a) (w1 b) (o12 : Int) (c20 : Int) a2 b1 (by omega) (by omega) (by omega) (by omega)
  obtain ⟨l22, p22, h22, o22, q22, c22, e22, f22, g22, i22, j22, k22, m22, r22, s22⟩ := mul_step (w2 a) (w2 b) (o13 : Int) (c21 : Int) a2 b2 (by omega) (by omega) (by omega) (by omega)
  obtain ⟨l23, p23, h23, o23, q23, c23, e23, f23, g23, i23, j23, k23, m23, r23, s23⟩ := mul_step (w2 a) (w3 b) (c13 : Int) (c22 : Int) a2 b3 (by omega) (by omega) (by omega) (by omega)
  have R2 := mul_row (w2 a) b (words_lt hb') s20 s21 s22 s23
  clear s20 s21 s22 s23
  obtain ⟨l30, p30, h30, o30, q30, c30, e30, f30, g30, i30, j30, k30, m30, r30, s30⟩ := mul_step (w3 a) (w0 b) (o21 : Int) (0 : Int) a3 b0 (by omega) (by omega) (by omega) (by omega)
  obtain ⟨l31, p31, h31, o31, q31, c31, e31, f31, g31, i31, j31, k31, m31, r31, s31⟩ := mul_step (w3 a) (w1 b) (o22 : Int) (c30 : Int) a3 b1 (by omega) (by omega) (by omega) (by omega)
  obtain ⟨l32, p32, h32, o32, q32, c32, e32, f32, g32, i32, j32, k32, m32, r32, s32⟩ := mul_step (w3 a) (w2 b) (o23 : Int) (c31 : Int) a3 b2 (by omega) (by omega) (by omega) (by omega)
  obtain ⟨l33, p33, h33, o33, q33, c33, e33, f33, g33, i33, j33, k33, m33, r33, s33⟩ := mul_step (w3 a) (w3 b) (c23 : Int) (c32 : Int) a3 b3 (by omega) (by omega) (by omega) (by omega)
  have R3 := mul_row (w3 a) b (words_lt hb') s30 s31 s32 s33
  clear s30 s31 s32 s33
  have hsum := mul_total a b (words_lt ha') R0 R1 R2 R3
  clear R0 R1 R2 R3
  have hlow : uV (a * b) = .agg #[.int .u64 o00, .int .u64 o10, .int .u64 o20, .int .u64 o30] := by
    have hl := num_lt (a := o00) (b := o10) (c := o20) (d := o30) (by omega) (by omega) (by omega) (by omega)
    exact uV_of (by omega) (by omega) (by omega) (by omega) (by rw [hsum, Nat.add_mul_mod_self_left, Nat.mod_eq_of_lt hl])
  have hhigh : uV (a * b / full) = .agg #[.int .u64 o31, .int .u64 o32, .int .u64 o33, .int .u64 c33] := by
    have hl := num_lt (a := o00) (b := o10) (c := o20) (d := o30) (by omega) (by omega) (by omega) (by omega)
    have hl2 := num_lt (a := o31) (b := o32) (c := o33) (d := c33) (by omega) (by omega) (by omega) (by omega)
    have hf : 0 < full := by rw [full_eq]; omega
    exact uV_of (by omega) (by omega) (by omega) (by omega) (by rw [hsum, Nat.add_mul_div_left _ _ hf, Nat.div_eq_of_lt hl, Nat.zero_add, Nat.mod_eq_of_lt hl2])
  rw [hlow, hhigh]
  clear hlow hhigh hsum
  refine Spec.of_vx hΓ follows_mixed Try.func82 rfl (by kernel_rfl) (T := [(19, mulTree)]) (by simp [Try.ntmps82]) (by kernel_rfl) rfl Try.ntmps82 (res := [.cell 4 24, .cell 5 24]) rfl ?_
  intro W
  simp -implicitDefEqProofs (maxSteps := 10000000) only [vmB, slim, slimOp, gO, gSO, qSO, quietOp, cS, qSB, eK, calmOp, guardS, gK, qK, putK, plK, dOk, St.ev, St.get, St.mem, St.set, St.setm, St.put, lookA, look, newK, nextver, initT, seqE, blockQ, bodyQ, resK, retV, AV.rdv, uV, ↓binK, ↓intK, unK, ↓loadK, ↓withKey_eq, ↓idxAddrK, ↓indexK, ↓partK, ↓fieldK, ↓fieldAddrK, ↓convK, ↓callK, wrG, updK, ↓lenK, ↓mmK, ↓appK, ↓copyK, ↓sliceK, ↓toArrK, nilK, evs, plains, seqParts, capsOf, capsD, AV.dv, AV.cont, ↓buildV_eq, fillL, placesOf, ↓storeK, wrL, RV.av, DV.av, List.set, Nat.reduceEqDiff, Nat.reduceAdd, Nat.reduceSub, Nat.reduceMul, Nat.reduceLT, Nat.reduceLeDiff, Nat.reduceMod, Nat.reduceDiv, Int.reduceLT, Int.reduceLE, Int.reduceToNat, ↓reduceIte, reduceCtorEq, Value.oneCell', Int.reduceAdd, Int.reduceSub, Int.reduceMod, Int.reduceMul, Int.reduceNeg, Int.reduceBEq, Int.reduceBNe, Int.reduceTDiv, Int.reduceTMod, Int.reduceEq, tyB, Try.underlying13, Try.underlying25, Try.underlying26, Try.underlying39, Try.underlying40, Try.underlying72, Try.underlying73]
  refine VT_rounds hΓ follows_mixed 5 ?_
  rw [vy_succ]
  simp -implicitDefEqProofs (maxSteps := 10000000) only [vmB, slim, slimOp, gO, gSO, qSO, quietOp, cS, qSB, eK, calmOp, guardS, gK, qK, putK, plK, dOk, St.ev, St.get, St.mem, St.set, St.setm, St.put, lookA, look, newK, nextver, initT, seqE, blockQ, bodyQ, resK, retV, AV.rdv, uV, ↓binK, ↓intK, unK, ↓loadK, ↓withKey_eq, ↓idxAddrK, ↓indexK, ↓partK, ↓fieldK, ↓fieldAddrK, ↓convK, ↓callK, wrG, updK, ↓lenK, ↓mmK, ↓appK, ↓copyK, ↓sliceK, ↓toArrK, nilK, evs, plains, seqParts, capsOf, capsD, AV.dv, AV.cont, ↓buildV_eq, fillL, placesOf, ↓storeK, wrL, RV.av, DV.av, List.set, Nat.reduceEqDiff, Nat.reduceAdd, Nat.reduceSub, Nat.reduceMul, Nat.reduceLT, Nat.reduceLeDiff, Nat.reduceMod, Nat.reduceDiv, Int.reduceLT, Int.reduceLE, Int.reduceToNat, ↓reduceIte, reduceCtorEq, Value.oneCell', Int.reduceAdd, Int.reduceSub, Int.reduceMod, Int.reduceMul, Int.reduceNeg, Int.reduceBEq, Int.reduceBNe, Int.reduceTDiv, Int.reduceTMod, Int.reduceEq, tyB, Try.underlying13, Try.underlying25, Try.underlying26, Try.underlying39, Try.underlying40, Try.underlying72, Try.underlying73, mul64G, add64G, okW_0, okW_1, okW_2, okW_3, Bool.and_true, Int.toNat_natCast, Int.natCast_nonneg]
  refine VT_rounds hΓ follows_mixed 5 ?_
  rw [vy_succ]
  simp -implicitDefEqProofs (maxSteps := 10000000) only [vmB, slim, slimOp, gO, gSO, qSO, quietOp, cS, qSB, eK, calmOp, guardS, gK, qK, putK, plK, dOk, St.ev, St.get, St.mem, St.set, St.setm, St.put, lookA, look, newK, nextver, initT, seqE, blockQ, bodyQ, resK, retV, AV.rdv, uV, ↓binK, ↓intK, unK, ↓loadK, ↓withKey_eq, ↓idxAddrK, ↓indexK, ↓partK, ↓fieldK, ↓fieldAddrK, ↓convK, ↓callK, wrG, updK, ↓lenK, ↓mmK, ↓appK, ↓copyK, ↓sliceK, ↓toArrK, nilK, evs, plains, seqParts, capsOf, capsD, AV.dv, AV.cont, ↓buildV_eq, fillL, placesOf, ↓storeK, wrL, RV.av, DV.av, List.set, Nat.reduceEqDiff, Nat.reduceAdd, Nat.reduceSub, Nat.reduceMul, Nat.reduceLT, Nat.reduceLeDiff, Nat.reduceMod, Nat.reduceDiv, Int.reduceLT, Int.reduceLE, Int.reduceToNat, ↓reduceIte, reduceCtorEq, Value.oneCell', Int.reduceAdd, Int.reduceSub, Int.reduceMod, Int.reduceMul, Int.reduceNeg, Int.reduceBEq, Int.reduceBNe, Int.reduceTDiv, Int.reduceTMod, Int.reduceEq, tyB, Try.underlying13, Try.underlying25, Try.underlying26, Try.underlying39, Try.underlying40, Try.underlying72, Try.underlying73, mul64G, add64G, okW_0, okW_1, okW_2, okW_3, Bool.and_true, Int.toNat_natCast, Int.natCast_nonneg, e00, f00, g00, i00, j00, k00]
  rw [vy_succ]
  simp -implicitDefEqProofs (maxSteps := 10000000) only [vmB, slim, slimOp, gO, gSO, qSO, quietOp, cS, qSB, eK, calmOp, guardS, gK, qK, putK, plK, dOk, St.ev, St.get, St.mem, St.set, St.setm, St.put, lookA, look, newK, nextver, initT, seqE, blockQ, bodyQ, resK, retV, AV.rdv, uV, ↓binK, ↓intK, unK, ↓loadK, ↓withKey_eq, ↓idxAddrK, ↓indexK, ↓partK, ↓fieldK, ↓fieldAddrK, ↓convK, ↓callK, wrG, updK, ↓lenK, ↓mmK, ↓appK, ↓copyK, ↓sliceK, ↓toArrK, nilK, evs, plains, seqParts, capsOf, capsD, AV.dv, AV.cont, ↓buildV_eq, fillL, placesOf, ↓storeK, wrL, RV.av, DV.av, List.set, Nat.reduceEqDiff, Nat.reduceAdd, Nat.reduceSub, Nat.reduceMul, Nat.reduceLT, Nat.reduceLeDiff, Nat.reduceMod, Nat.reduceDiv, Int.reduceLT, Int.reduceLE, Int.reduceToNat, ↓reduceIte, reduceCtorEq, Value.oneCell', Int.reduceAdd, Int.reduceSub, Int.reduceMod, Int.reduceMul, Int.reduceNeg, Int.reduceBEq, Int.reduceBNe, Int.reduceTDiv, Int.reduceTMod, Int.reduceEq, tyB, Try.underlying13, Try.underlying25, Try.underlying26, Try.underlying39, Try.underlying40, Try.underlying72, Try.underlying73, mul64G, add64G, okW_0, okW_1, okW_2, okW_3, Bool.and_true, Int.toNat_natCast, Int.natCast_nonneg, e01, f01, g01, i01, j01, k01]
  rw [vy_succ]
  simp -implicitDefEqProofs (maxSteps := 10000000) only [vmB, slim, slimOp, gO, gSO, qSO, quietOp, cS, qSB, eK, calmOp, guardS, gK, qK, putK, plK, dOk, St.ev, St.get, St.mem, St.set, St.setm, St.put, lookA, look, newK, nextver, initT, seqE, blockQ, bodyQ, resK, retV, AV.rdv, uV, ↓binK, ↓intK, unK, ↓loadK, ↓withKey_eq, ↓idxAddrK, ↓indexK, ↓partK, ↓fieldK, ↓fieldAddrK, ↓convK, ↓callK, wrG, updK, ↓lenK, ↓mmK, ↓appK, ↓copyK, ↓sliceK, ↓toArrK, nilK, evs, plains, seqParts, capsOf, capsD, AV.dv, AV.cont, ↓buildV_eq, fillL, placesOf, ↓storeK, wrL, RV.av, DV.av, List.set, Nat.reduceEqDiff, Nat.reduceAdd, Nat.reduceSub, Nat.reduceMul, Nat.reduceLT, Nat.reduceLeDiff, Nat.reduceMod, Nat.reduceDiv, Int.reduceLT, Int.reduceLE, Int.reduceToNat, ↓reduceIte, reduceCtorEq, Value.oneCell', Int.reduceAdd, Int.reduceSub, Int.reduceMod, Int.reduceMul, Int.reduceNeg, Int.reduceBEq, Int.reduceBNe, Int.reduceTDiv, Int.reduceTMod, Int.reduceEq, tyB, Try.underlying13, Try.underlying25, Try.underlying26, Try.underlying39, Try.underlying40, Try.underlying72, Try.underlying73, mul64G, add64G, okW_0, okW_1, okW_2, okW_3, Bool.and_true, Int.toNat_natCast, Int.natCast_nonneg, e02, f02, g02, i02, j02, k02]
  rw [vy_succ]
  simp -implicitDefEqProofs (maxSteps := 10000000) only [vmB, slim, slimOp, gO, gSO, qSO, quietOp, cS, qSB, eK, calmOp, guardS, gK, qK, putK, plK, dOk, St.ev, St.get, St.mem, St.set, St.setm, St.put, lookA, look, newK, nextver, initT, seqE, blockQ, bodyQ, resK, retV, AV.rdv, uV, ↓binK, ↓intK, unK, ↓loadK, ↓withKey_eq, ↓idxAddrK, ↓indexK, ↓partK, ↓fieldK, ↓fieldAddrK, ↓convK, ↓callK, wrG, updK, ↓lenK, ↓mmK, ↓appK, ↓copyK, ↓sliceK, ↓toArrK, nilK, evs, plains, seqParts, capsOf, capsD, AV.dv, AV.cont, ↓buildV_eq, fillL, placesOf, ↓storeK, wrL, RV.av, DV.av, List.set, Nat.reduceEqDiff, Nat.reduceAdd, Nat.reduceSub, Nat.reduceMul, Nat.reduceLT, Nat.reduceLeDiff, Nat.reduceMod, Nat.reduceDiv, Int.reduceLT, Int.reduceLE, Int.reduceToNat, ↓reduceIte, reduceCtorEq, Value.oneCell', Int.reduceAdd, Int.reduceSub, Int.reduceMod, Int.reduceMul, Int.reduceNeg, Int.reduceBEq, Int.reduceBNe, Int.reduceTDiv, Int.reduceTMod, Int.reduceEq, tyB, Try.underlying13, Try.underlying25, Try.underlying26, Try.underlying39, Try.underlying40, Try.underlying72, Try.underlying73, mul64G, add64G, okW_0, okW_1, okW_2, okW_3, Bool.and_true, Int.toNat_natCast, Int.natCast_nonneg, e03, f03, g03, i03, j03, k03]
  rw [vy_succ]
  simp -implicitDefEqProofs (maxSteps := 10000000) only [vmB, slim, slimOp, gO, gSO, qSO, quietOp, cS, qSB, eK, calmOp, guardS, gK, qK, putK, plK, dOk, St.ev, St.get, St.mem, St.set, St.setm, St.put, lookA, look, newK, nextver, initT, seqE, blockQ, bodyQ, resK, retV, AV.rdv, uV, ↓binK, ↓intK, unK, ↓loadK, ↓withKey_eq, ↓idxAddrK, ↓indexK, ↓partK, ↓fieldK, ↓fieldAddrK, ↓convK, ↓callK, wrG, updK, ↓lenK, ↓mmK, ↓appK, ↓copyK, ↓sliceK, ↓toArrK, nilK, evs, plains, seqParts, capsOf, capsD, AV.dv, AV.cont, ↓buildV_eq, fillL, placesOf, ↓storeK, wrL, RV.av, DV.av, List.set, Nat.reduceEqDiff, Nat.reduceAdd, Nat.reduceSub, Nat.reduceMul, Nat.reduceLT, Nat.reduceLeDiff, Nat.reduceMod, Nat.reduceDiv, Int.reduceLT, Int.reduceLE, Int.reduceToNat, ↓reduceIte, reduceCtorEq, Value.oneCell', Int.reduceAdd, Int.reduceSub, Int.reduceMod, Int.reduceMul, Int.reduceNeg, Int.reduceBEq, Int.reduceBNe, Int.reduceTDiv, Int.reduceTMod, Int.reduceEq, tyB, Try.underlying13, Try.underlying25, Try.underlying26, Try.underlying39, Try.underlying40, Try.underlying72, Try.underlying73, mul64G, add64G, okW_0, okW_1, okW_2, okW_3, Bool.and_true, Int.toNat_natCast, Int.natCast_nonneg]
  rw [vy_succ]
  simp -implicitDefEqProofs (maxSteps := 10000000) only [vmB, slim, slimOp, gO, gSO, qSO, quietOp, cS, qSB, eK, calmOp, guardS, gK, qK, putK, plK, dOk, St.ev, St.get, St.mem, St.set, St.setm, St.put, lookA, look, newK, nextver, initT, seqE, blockQ, bodyQ, resK, retV, AV.rdv, uV, ↓binK, ↓intK, unK, ↓loadK, ↓withKey_eq, ↓idxAddrK, ↓indexK, ↓partK, ↓fieldK, ↓fieldAddrK, ↓convK, ↓callK, wrG, updK, ↓lenK, ↓mmK, ↓appK, ↓copyK, ↓sliceK, ↓toArrK, nilK, evs, plains, seqParts, capsOf, capsD, AV.dv, AV.cont, ↓buildV_eq, fillL, placesOf, ↓storeK, wrL, RV.av, DV.av, List.set, Nat.reduceEqDiff, Nat.reduceAdd, Nat.reduceSub, Nat.reduceMul, Nat.reduceLT, Nat.reduceLeDiff, Nat.reduceMod, Nat.reduceDiv, Int.reduceLT, Int.reduceLE, Int.reduceToNat, ↓reduceIte, reduceCtorEq, Value.oneCell', Int.reduceAdd, Int.reduceSub, Int.reduceMod, Int.reduceMul, Int.reduceNeg, Int.reduceBEq, Int.reduceBNe, Int.reduceTDiv, Int.reduceTMod, Int.reduceEq, tyB, Try.underlying13, Try.underlying25, Try.underlying26, Try.underlying39, Try.underlying40, Try.underlying72, Try.underlying73, mul64G, add64G, okW_0, okW_1, okW_2, okW_3, Bool.and_true, Int.toNat_natCast, Int.natCast_nonneg]
  refine VT_rounds hΓ follows_mixed 5 ?_
  rw [vy_succ]
  simp -implicitDefEqProofs (maxSteps := 10000000) only [vmB, slim, slimOp, gO, gSO, qSO, quietOp, cS, qSB, eK, calmOp, guardS, gK, qK, putK, plK, dOk, St.ev, St.get, St.mem, St.set, St.setm, St.put, lookA, look, newK, nextver, initT, seqE, blockQ, bodyQ, resK, retV, AV.rdv, uV, ↓binK, ↓intK, unK, ↓loadK, ↓withKey_eq, ↓idxAddrK, ↓indexK, ↓partK, ↓fieldK, ↓fieldAddrK, ↓convK, ↓callK, wrG, updK, ↓lenK, ↓mmK, ↓appK, ↓copyK, ↓sliceK, ↓toArrK, nilK, evs, plains, seqParts, capsOf, capsD, AV.dv, AV.cont, ↓buildV_eq, fillL, placesOf, ↓storeK, wrL, RV.av, DV.av, List.set, Nat.reduceEqDiff, Nat.reduceAdd, Nat.reduceSub, Nat.reduceMul, Nat.reduceLT, Nat.reduceLeDiff, Nat.reduceMod, Nat.reduceDiv, Int.reduceLT, Int.reduceLE, Int.reduceToNat, ↓reduceIte, reduceCtorEq, Value.oneCell', Int.reduceAdd, Int.reduceSub, Int.reduceMod, Int.reduceMul, Int.reduceNeg, Int.reduceBEq, Int.reduceBNe, Int.reduceTDiv, Int.reduceTMod, Int.reduceEq, tyB, Try.underlying13, Try.underlying25, Try.underlying26, Try.underlying39, Try.underlying40, Try.underlying72, Try.underlying73, mul64G, add64G, okW_0, okW_1, okW_2, okW_3, Bool.and_true, Int.toNat_natCast, Int.natCast_nonneg, e10, f10, g10, i10, j10, k10]
  rw [vy_succ]
  simp -implicitDefEqProofs (maxSteps := 10000000) only [vmB, slim, slimOp, gO, gSO, qSO, quietOp, cS, qSB, eK, calmOp, guardS, gK, qK, putK, plK, dOk, St.ev, St.get, St.mem, St.set, St.setm, St.put, lookA, look, newK, nextver, initT, seqE, blockQ, bodyQ, resK, retV, AV.rdv, uV, ↓binK, ↓intK, unK, ↓loadK, ↓withKey_eq, ↓idxAddrK, ↓indexK, ↓partK, ↓fieldK, ↓fieldAddrK, ↓convK, ↓callK, wrG, updK, ↓lenK, ↓mmK, ↓appK, ↓copyK, ↓sliceK, ↓toArrK, nilK, evs, plains, seqParts, capsOf, capsD, AV.dv, AV.cont, ↓buildV_eq, fillL, placesOf, ↓storeK, wrL, RV.av, DV.av, List.set, Nat.reduceEqDiff, Nat.reduceAdd, Nat.reduceSub, Nat.reduceMul, Nat.reduceLT, Nat.reduceLeDiff, Nat.reduceMod, Nat.reduceDiv, Int.reduceLT, Int.reduceLE, Int.reduceToNat, ↓reduceIte, reduceCtorEq, Value.oneCell', Int.reduceAdd, Int.reduceSub, Int.reduceMod, Int.reduceMul, Int.reduceNeg, Int.reduceBEq, Int.reduceBNe, Int.reduceTDiv, Int.reduceTMod, Int.reduceEq, tyB, Try.underlying13, Try.underlying25, Try.underlying26, Try.underlying39, Try.underlying40, Try.underlying72, Try.underlying73, mul64G, add64G, okW_0, okW_1, okW_2, okW_3, Bool.and_true, Int.toNat_natCast, Int.natCast_nonneg, e11, f11, g11, i11, j11, k11]
  rw [vy_succ]
  simp -implicitDefEqProofs (maxSteps := 10000000) only [vmB, slim, slimOp, gO, gSO, qSO, quietOp, cS, qSB, eK, calmOp, guardS, gK, qK, putK, plK, dOk, St.ev, St.get, St.mem, St.set, St.setm, St.put, lookA, look, newK, nextver, initT, seqE, blockQ, bodyQ, resK, retV, AV.rdv, uV, ↓binK, ↓intK, unK, ↓loadK, ↓withKey_eq, ↓idxAddrK, ↓indexK, ↓partK, ↓fieldK, ↓fieldAddrK, ↓convK, ↓callK, wrG, updK, ↓lenK, ↓mmK, ↓appK, ↓copyK, ↓sliceK, ↓toArrK, nilK, evs, plains, seqParts, capsOf, capsD, AV.dv, AV.cont, ↓buildV_eq, fillL, placesOf, ↓storeK, wrL, RV.av, DV.av, List.set, Nat.reduceEqDiff, Nat.reduceAdd, Nat.reduceSub, Nat.reduceMul, Nat.reduceLT, Nat.reduceLeDiff, Nat.reduceMod, Nat.reduceDiv, Int.reduceLT, Int.reduceLE, Int.reduceToNat, ↓reduceIte, reduceCtorEq, Value.oneCell', Int.reduceAdd, Int.reduceSub, Int.reduceMod, Int.reduceMul, Int.reduceNeg, Int.reduceBEq, Int.reduceBNe, Int.reduceTDiv, Int.reduceTMod, Int.reduceEq, tyB, Try.underlying13, Try.underlying25, Try.underlying26, Try.underlying39, Try.underlying40, Try.underlying72, Try.underlying73, mul64G, add64G, okW_0, okW_1, okW_2, okW_3, Bool.and_true, Int.toNat_natCast, Int.natCast_nonneg, e12, f12, g12, i12, j12, k12]
  rw [vy_succ]
  simp -implicitDefEqProofs (maxSteps := 10000000) only [vmB, slim, slimOp, gO, gSO, qSO, quietOp, cS, qSB, eK, calmOp, guardS, gK, qK, putK, plK, dOk, St.ev, St.get, St.mem, St.set, St.setm, St.put, lookA, look, newK, nextver, initT, seqE, blockQ, bodyQ, resK, retV, AV.rdv, uV, ↓binK, ↓intK, unK, ↓loadK, ↓withKey_eq, ↓idxAddrK, ↓indexK, ↓partK, ↓fieldK, ↓fieldAddrK, ↓convK, ↓callK, wrG, updK, ↓lenK, ↓mmK, ↓appK, ↓copyK, ↓sliceK, ↓toArrK, nilK, evs, plains, seqParts, capsOf, capsD, AV.dv, AV.cont, ↓buildV_eq, fillL, placesOf, ↓storeK, wrL, RV.av, DV.av, List.set, Nat.reduceEqDiff, Nat.reduceAdd, Nat.reduceSub, Nat.reduceMul, Nat.reduceLT, Nat.reduceLeDiff, Nat.reduceMod, Nat.reduceDiv, Int.reduceLT, Int.reduceLE, Int.reduceToNat, ↓reduceIte, reduceCtorEq, Value.oneCell', Int.reduceAdd, Int.reduceSub, Int.reduceMod, Int.reduceMul, Int.reduceNeg, Int.reduceBEq, Int.reduceBNe, Int.reduceTDiv, Int.reduceTMod, Int.reduceEq, tyB, Try.underlying13, Try.underlying25, Try.underlying26, Try.underlying39, Try.underlying40, Try.underlying72, Try.underlying73, mul64G, add64G, okW_0, okW_1, okW_2, okW_3, Bool.and_true, Int.toNat_natCast, Int.natCast_nonneg, e13, f13, g13, i13, j13, k13]
  rw [vy_succ]
  simp -implicitDefEqProofs (maxSteps := 10000000) only [vmB, slim, slimOp, gO, gSO, qSO, quietOp, cS, qSB, eK, calmOp, guardS, gK, qK, putK, plK, dOk, St.ev, St.get, St.mem, St.set, St.setm, St.put, lookA, look, newK, nextver, initT, seqE, blockQ, bodyQ, resK, retV, AV.rdv, uV, ↓binK, ↓intK, unK, ↓loadK, ↓withKey_eq, ↓idxAddrK, ↓indexK, ↓partK, ↓fieldK, ↓fieldAddrK, ↓convK, ↓callK, wrG, updK, ↓lenK, ↓mmK, ↓appK, ↓copyK, ↓sliceK, ↓toArrK, nilK, evs, plains, seqParts, capsOf, capsD, AV.dv, AV.cont, ↓buildV_eq, fillL, placesOf, ↓storeK, wrL, RV.av, DV.av, List.set, Nat.reduceEqDiff, Nat.reduceAdd, Nat.reduceSub, Nat.reduceMul, Nat.reduceLT, Nat.reduceLeDiff, Nat.reduceMod, Nat.reduceDiv, Int.reduceLT, Int.reduceLE, Int.reduceToNat, ↓reduceIte, reduceCtorEq, Value.oneCell', Int.reduceAdd, Int.reduceSub, Int.reduceMod, Int.reduceMul, Int.reduceNeg, Int.reduceBEq, Int.reduceBNe, Int.reduceTDiv, Int.reduceTMod, Int.reduceEq, tyB, Try.underlying13, Try.underlying25, Try.underlying26, Try.underlying39, Try.underlying40, Try.underlying72, Try.underlying73, mul64G, add64G, okW_0, okW_1, okW_2, okW_3, Bool.and_true, Int.toNat_natCast, Int.natCast_nonneg]
  rw [vy_succ]
  simp -implicitDefEqProofs (maxSteps := 10000000) only [vmB, slim, slimOp, gO, gSO, qSO, quietOp, cS, qSB, eK, calmOp, guardS, gK, qK, putK, plK, dOk, St.ev, St.get, St.mem, St.set, St.setm, St.put, lookA, look, newK, nextver, initT, seqE, blockQ, bodyQ, resK, retV, AV.rdv, uV, ↓binK, ↓intK, unK, ↓loadK, ↓withKey_eq, ↓idxAddrK, ↓indexK, ↓partK, ↓fieldK, ↓fieldAddrK, ↓convK, ↓callK, wrG, updK, ↓lenK, ↓mmK, ↓appK, ↓copyK, ↓sliceK, ↓toArrK, nilK, evs, plains, seqParts, capsOf, capsD, AV.dv, AV.cont, ↓buildV_eq, fillL, placesOf, ↓storeK, wrL, RV.av, DV.av, List.set, Nat.reduceEqDiff, Nat.reduceAdd, Nat.reduceSub, Nat.reduceMul, Nat.reduceLT, Nat.reduceLeDiff, Nat.reduceMod, Nat.reduceDiv, Int.reduceLT, Int.reduceLE, Int.reduceToNat, ↓reduceIte, reduceCtorEq, Value.oneCell', Int.reduceAdd, Int.reduceSub, Int.reduceMod, Int.reduceMul, Int.reduceNeg, Int.reduceBEq, Int.reduceBNe, Int.reduceTDiv, Int.reduceTMod, Int.reduceEq, tyB, Try.underlying13, Try.underlying25, Try.underlying26, Try.underlying39, Try.underlying40, Try.underlying72, Try.underlying73, mul64G, add64G, okW_0, okW_1, okW_2, okW_3, Bool.and_true, Int.toNat_natCast, Int.natCast_nonneg]
  refine VT_rounds hΓ follows_mixed 5 ?_
  rw [vy_succ]
  simp -implicitDefEqProofs (maxSteps := 10000000) only [vmB, slim, slimOp, gO, gSO, qSO, quietOp, cS, qSB, eK, calmOp, guardS, gK, qK, putK, plK, dOk, St.ev, St.get, St.mem, St.set, St.setm, St.put, lookA, look, newK, nextver, initT, seqE, blockQ, bodyQ, resK, retV, AV.rdv, uV, ↓binK, ↓intK, unK, ↓loadK, ↓withKey_eq, ↓idxAddrK, ↓indexK, ↓partK, ↓fieldK, ↓fieldAddrK, ↓convK, ↓callK, wrG, updK, ↓lenK, ↓mmK, ↓appK, ↓copyK, ↓sliceK, ↓toArrK, nilK, evs, plains, seqParts, capsOf, capsD, AV.dv, AV.cont, ↓buildV_eq, fillL, placesOf, ↓storeK, wrL, RV.av, DV.av, List.set, Nat.reduceEqDiff, Nat.reduceAdd, Nat.reduceSub, Nat.reduceMul, Nat.reduceLT, Nat.reduceLeDiff, Nat.reduceMod, Nat.reduceDiv, Int.reduceLT, Int.reduceLE, Int.reduceToNat, ↓reduceIte, reduceCtorEq, Value.oneCell', Int.reduceAdd, Int.reduceSub, Int.reduceMod, Int.reduceMul, Int.reduceNeg, Int.reduceBEq, Int.reduceBNe, Int.reduceTDiv, Int.reduceTMod, Int.reduceEq, tyB, Try.underlying13, Try.underlying25, Try.underlying26, Try.underlying39, Try.underlying40, Try.underlying72, Try.underlying73, mul64G, add64G, okW_0, okW_1, okW_2, okW_3, Bool.and_true, Int.toNat_natCast, Int.natCast_nonneg, e20, f20, g20, i20, j20, k20]
  rw [vy_succ]
  simp -implicitDefEqProofs (maxSteps := 10000000) only [vmB, slim, slimOp, gO, gSO, qSO, quietOp, cS, qSB, eK, calmOp, guardS, gK, qK, putK, plK, dOk, St.ev, St.get, St.mem, St.set, St.setm, St.put, lookA, look, newK, nextver, initT, seqE, blockQ, bodyQ, resK, retV, AV.rdv, uV, ↓binK, ↓intK, unK, ↓loadK, ↓withKey_eq, ↓idxAddrK, ↓indexK, ↓partK, ↓fieldK, ↓fieldAddrK, ↓convK, ↓callK, wrG, updK, ↓lenK, ↓mmK, ↓appK, ↓copyK, ↓sliceK, ↓toArrK, nilK, evs, plains, seqParts, capsOf, capsD, AV.dv, AV.cont, ↓buildV_eq, fillL, placesOf, ↓storeK, wrL, RV.av, DV.av, List.set, Nat.reduceEqDiff, Nat.reduceAdd, Nat.reduceSub, Nat.reduceMul, Nat.reduceLT, Nat.reduceLeDiff, Nat.reduceMod, Nat.reduceDiv, Int.reduceLT, Int.reduceLE, Int.reduceToNat, ↓reduceIte, reduceCtorEq, Value.oneCell', Int.reduceAdd, Int.reduceSub, Int.reduceMod, Int.reduceMul, Int.reduceNeg, Int.reduceBEq, Int.reduceBNe, Int.reduceTDiv, Int.reduceTMod, Int.reduceEq, tyB, Try.underlying13, Try.underlying25, Try.underlying26, Try.underlying39, Try.underlying40, Try.underlying72, Try.underlying73, mul64G, add64G, okW_0, okW_1, okW_2, okW_3, Bool.and_true, Int.toNat_natCast, Int.natCast_nonneg, e21, f21, g21, i21, j21, k21]
  rw [vy_succ]
  simp -implicitDefEqProofs (maxSteps := 10000000) only [vmB, slim, slimOp, gO, gSO, qSO, quietOp, cS, qSB, eK, calmOp, guardS, gK, qK, putK, plK, dOk, St.ev, St.get, St.mem, St.set, St.setm, St.put, lookA, look, newK, nextver, initT, seqE, blockQ, bodyQ, resK, retV, AV.rdv, uV, ↓binK, ↓intK, unK, ↓loadK, ↓withKey_eq, ↓idxAddrK, ↓indexK, ↓partK, ↓fieldK, ↓fieldAddrK, ↓convK, ↓callK, wrG, updK, ↓lenK, ↓mmK, ↓appK, ↓copyK, ↓sliceK, ↓toArrK, nilK, evs, plains, seqParts, capsOf, capsD, AV.dv, AV.cont, ↓buildV_eq, fillL, placesOf, ↓storeK, wrL, RV.av, DV.av, List.set, Nat.reduceEqDiff, Nat.reduceAdd, Nat.reduceSub, Nat.reduceMul, Nat.reduceLT, Nat.reduceLeDiff, Nat.reduceMod, Nat.reduceDiv, Int.reduceLT, Int.reduceLE, Int.reduceToNat, ↓reduceIte, reduceCtorEq, Value.oneCell', Int.reduceAdd, Int.reduceSub, Int.reduceMod, Int.reduceMul, Int.reduceNeg, Int.reduceBEq, Int.reduceBNe, Int.reduceTDiv, Int.reduceTMod, Int.reduceEq, tyB, Try.underlying13, Try.underlying25, Try.underlying26, Try.underlying39, Try.underlying40, Try.underlying72, Try.underlying73, mul64G, add64G, okW_0, okW_1, okW_2, okW_3, Bool.and_true, Int.toNat_natCast, Int.natCast_nonneg, e22, f22, g22, i22, j22, k22]
  rw [vy_succ]
  simp -implicitDefEqProofs (maxSteps := 10000000) only [vmB, slim, slimOp, gO, gSO, qSO, quietOp, cS, qSB, eK, calmOp, guardS, gK, qK, putK, plK, dOk, St.ev, St.get, St.mem, St.set, St.setm, St.put, lookA, look, newK, nextver, initT, seqE, blockQ, bodyQ, resK, retV, AV.rdv, uV, ↓binK, ↓intK, unK, ↓loadK, ↓withKey_eq, ↓idxAddrK, ↓indexK, ↓partK, ↓fieldK, ↓fieldAddrK, ↓convK, ↓callK, wrG, updK, ↓lenK, ↓mmK, ↓appK, ↓copyK, ↓sliceK, ↓toArrK, nilK, evs, plains, seqParts, capsOf, capsD, AV.dv, AV.cont, ↓buildV_eq, fillL, placesOf, ↓storeK, wrL, RV.av, DV.av, List.set, Nat.reduceEqDiff, Nat.reduceAdd, Nat.reduceSub, Nat.reduceMul, Nat.reduceLT, Nat.reduceLeDiff, Nat.reduceMod, Nat.reduceDiv, Int.reduceLT, Int.reduceLE, Int.reduceToNat, ↓reduceIte, reduceCtorEq, Value.oneCell', Int.reduceAdd, Int.reduceSub, Int.reduceMod, Int.reduceMul, Int.reduceNeg, Int.reduceBEq, Int.reduceBNe, Int.reduceTDiv, Int.reduceTMod, Int.reduceEq, tyB, Try.underlying13, Try.underlying25, Try.underlying26, Try.underlying39, Try.underlying40, Try.underlying72, Try.underlying73, mul64G, add64G, okW_0, okW_1, okW_2, okW_3, Bool.and_true, Int.toNat_natCast, Int.natCast_nonneg, e23, f23, g23, i23, j23, k23]
  rw [vy_succ]
  simp -implicitDefEqProofs (maxSteps := 10000000) only [vmB, slim, slimOp, gO, gSO, qSO, quietOp, cS, qSB, eK, calmOp, guardS, gK, qK, putK, plK, dOk, St.ev, St.get, St.mem, St.set, St.setm, St.put, lookA, look, newK, nextver, initT, seqE, blockQ, bodyQ, resK, retV, AV.rdv, uV, ↓binK, ↓intK, unK, ↓loadK, ↓withKey_eq, ↓idxAddrK, ↓indexK, ↓partK, ↓fieldK, ↓fieldAddrK, ↓convK, ↓callK, wrG, updK, ↓lenK, ↓mmK, ↓appK, ↓copyK, ↓sliceK, ↓toArrK, nilK, evs, plains, seqParts, capsOf, capsD, AV.dv, AV.cont, ↓buildV_eq, fillL, placesOf, ↓storeK, wrL, RV.av, DV.av, List.set, Nat.reduceEqDiff, Nat.reduceAdd, Nat.reduceSub, Nat.reduceMul, Nat.reduceLT, Nat.reduceLeDiff, Nat.reduceMod, Nat.reduceDiv, Int.reduceLT, Int.reduceLE, Int.reduceToNat, ↓reduceIte, reduceCtorEq, Value.oneCell', Int.reduceAdd, Int.reduceSub, Int.reduceMod, Int.reduceMul, Int.reduceNeg, Int.reduceBEq, Int.reduceBNe, Int.reduceTDiv, Int.reduceTMod, Int.reduceEq, tyB, Try.underlying13, Try.underlying25, Try.underlying26, Try.underlying39, Try.underlying40, Try.underlying72, Try.underlying73, mul64G, add64G, okW_0, okW_1, okW_2, okW_3, Bool.and_true, Int.toNat_natCast, Int.natCast_nonneg]
  rw [vy_succ]
  simp -implicitDefEqProofs (maxSteps := 10000000) only [vmB, slim, slimOp, gO, gSO, qSO, quietOp, cS, qSB, eK, calmOp, guardS, gK, qK, putK, plK, dOk, St.ev, St.get, St.mem, St.set, St.setm, St.put, lookA, look, newK, nextver, initT, seqE, blockQ, bodyQ, resK, retV, AV.rdv, uV, ↓binK, ↓intK, unK, ↓loadK, ↓withKey_eq, ↓idxAddrK, ↓indexK, ↓partK, ↓fieldK, ↓fieldAddrK, ↓convK, ↓callK, wrG, updK, ↓lenK, ↓mmK, ↓appK, ↓copyK, ↓sliceK, ↓toArrK, nilK, evs, plains, seqParts, capsOf, capsD, AV.dv, AV.cont, ↓buildV_eq, fillL, placesOf, ↓storeK, wrL, RV.av, DV.av, List.set, Nat.reduceEqDiff, Nat.reduceAdd, Nat.reduceSub, Nat.reduceMul, Nat.reduceLT, Nat.reduceLeDiff, Nat.reduceMod, Nat.reduceDiv, Int.reduceLT, Int.reduceLE, Int.reduceToNat, ↓reduceIte, reduceCtorEq, Value.oneCell', Int.reduceAdd, Int.reduceSub, Int.reduceMod, Int.reduceMul, Int.reduceNeg, Int.reduceBEq, Int.reduceBNe, Int.reduceTDiv, Int.reduceTMod, Int.reduceEq, tyB, Try.underlying13, Try.underlying25, Try.underlying26, Try.underlying39, Try.underlying40, Try.underlying72, Try.underlying73, mul64G, add64G, okW_0, okW_1, okW_2, okW_3, Bool.and_true, Int.toNat_natCast, Int.natCast_nonneg]
  refine VT_rounds hΓ follows_mixed 5 ?_
  rw [vy_succ]
  simp -implicitDefEqProofs (maxSteps := 10000000) only [vmB, slim, slimOp, gO, gSO, qSO, quietOp, cS, qSB, eK, calmOp, guardS, gK, qK, putK, plK, dOk, St.ev, St.get, St.mem, St.set, St.setm, St.put, lookA, look, newK, nextver, initT, seqE, blockQ, bodyQ, resK, retV, AV.rdv, uV, ↓binK, ↓intK, unK, ↓loadK, ↓withKey_eq, ↓idxAddrK, ↓indexK, ↓partK, ↓fieldK, ↓fieldAddrK, ↓convK, ↓callK, wrG, updK, ↓lenK, ↓mmK, ↓appK, ↓copyK, ↓sliceK, ↓toArrK, nilK, evs, plains, seqParts, capsOf, capsD, AV.dv, AV.cont, ↓buildV_eq, fillL, placesOf, ↓storeK, wrL, RV.av, DV.av, List.set, Nat.reduceEqDiff, Nat.reduceAdd, Nat.reduceSub, Nat.reduceMul, Nat.reduceLT, Nat.reduceLeDiff, Nat.reduceMod, Nat.reduceDiv, Int.reduceLT, Int.reduceLE, Int.reduceToNat, ↓reduceIte, reduceCtorEq, Value.oneCell', Int.reduceAdd, Int.reduceSub, Int.reduceMod, Int.reduceMul, Int.reduceNeg, Int.reduceBEq, Int.reduceBNe, Int.reduceTDiv, Int.reduceTMod, Int.reduceEq, tyB, Try.underlying13, Try.underlying25, Try.underlying26, Try.underlying39, Try.underlying40, Try.underlying72, Try.underlying73, mul64G, add64G, okW_0, okW_1, okW_2, okW_3, Bool.and_true, Int.toNat_natCast, Int.natCast_nonneg, e30, f30, g30, i30, j30, k30]
  rw [vy_succ]
  simp -implicitDefEqProofs (maxSteps := 10000000) only [vmB, slim, slimOp, gO, gSO, qSO, quietOp, cS, qSB, eK, calmOp, guardS, gK, qK, putK, plK, dOk, St.ev, St.get, St.mem, St.set, St.setm, St.put, lookA, look, newK, nextver, initT, seqE, blockQ, bodyQ, resK, retV, AV.rdv, uV, ↓binK, ↓intK, unK, ↓loadK, ↓withKey_eq, ↓idxAddrK, ↓indexK, ↓partK, ↓fieldK, ↓fieldAddrK, ↓convK, ↓callK, wrG, updK, ↓lenK, ↓mmK, ↓appK, ↓copyK, ↓sliceK, ↓toArrK, nilK, evs, plains, seqParts, capsOf, capsD, AV.dv, AV.cont, ↓buildV_eq, fillL, placesOf, ↓storeK, wrL, RV.av, DV.av, List.set, Nat.reduceEqDiff, Nat.reduceAdd, Nat.reduceSub, Nat.reduceMul, Nat.reduceLT, Nat.reduceLeDiff, Nat.reduceMod, Nat.reduceDiv, Int.reduceLT, Int.reduceLE, Int.reduceToNat, ↓reduceIte, reduceCtorEq, Value.oneCell', Int.reduceAdd, Int.reduceSub, Int.reduceMod, Int.reduceMul, Int.reduceNeg, Int.reduceBEq, Int.reduceBNe, Int.reduceTDiv, Int.reduceTMod, Int.reduceEq, tyB, Try.underlying13, Try.underlying25, Try.underlying26, Try.underlying39, Try.underlying40, Try.underlying72, Try.underlying73, mul64G, add64G, okW_0, okW_1, okW_2, okW_3, Bool.and_true, Int.toNat_natCast, Int.natCast_nonneg, e31, f31, g31, i31, j31, k31]
  rw [vy_succ]
  simp -implicitDefEqProofs (maxSteps := 10000000) only [vmB, slim, slimOp, gO, gSO, qSO, quietOp, cS, qSB, eK, calmOp, guardS, gK, qK, putK, plK, dOk, St.ev, St.get, St.mem, St.set, St.setm, St.put, lookA, look, newK, nextver, initT, seqE, blockQ, bodyQ, resK, retV, AV.rdv, uV, ↓binK, ↓intK, unK, ↓loadK, ↓withKey_eq, ↓idxAddrK, ↓indexK, ↓partK, ↓fieldK, ↓fieldAddrK, ↓convK, ↓callK, wrG, updK, ↓lenK, ↓mmK, ↓appK, ↓copyK, ↓sliceK, ↓toArrK, nilK, evs, plains, seqParts, capsOf, capsD, AV.dv, AV.cont, ↓buildV_eq, fillL, placesOf, ↓storeK, wrL, RV.av, DV.av, List.set, Nat.reduceEqDiff, Nat.reduceAdd, Nat.reduceSub, Nat.reduceMul, Nat.reduceLT, Nat.reduceLeDiff, Nat.reduceMod, Nat.reduceDiv, Int.reduceLT, Int.reduceLE, Int.reduceToNat, ↓reduceIte, reduceCtorEq, Value.oneCell', Int.reduceAdd, Int.reduceSub, Int.reduceMod, Int.reduceMul, Int.reduceNeg, Int.reduceBEq, Int.reduceBNe, Int.reduceTDiv, Int.reduceTMod, Int.reduceEq, tyB, Try.underlying13, Try.underlying25, Try.underlying26, Try.underlying39, Try.underlying40, Try.underlying72, Try.underlying73, mul64G, add64G, okW_0, okW_1, okW_2, okW_3, Bool.and_true, Int.toNat_natCast, Int.natCast_nonneg, e32, f32, g32, i32, j32, k32]
  rw [vy_succ]
  simp -implicitDefEqProofs (maxSteps := 10000000) only [vmB, slim, slimOp, gO, gSO, qSO, quietOp, cS, qSB, eK, calmOp, guardS, gK, qK, putK, plK, dOk, St.ev, St.get, St.mem, St.set, St.setm, St.put, lookA, look, newK, nextver, initT, seqE, blockQ, bodyQ, resK, retV, AV.rdv, uV, ↓binK, ↓intK, unK, ↓loadK, ↓withKey_eq, ↓idxAddrK, ↓indexK, ↓partK, ↓fieldK, ↓fieldAddrK, ↓convK, ↓callK, wrG, updK, ↓lenK, ↓mmK, ↓appK, ↓copyK, ↓sliceK, ↓toArrK, nilK, evs, plains, seqParts, capsOf, capsD, AV.dv, AV.cont, ↓buildV_eq, fillL, placesOf, ↓storeK, wrL, RV.av, DV.av, List.set, Nat.reduceEqDiff, Nat.reduceAdd, Nat.reduceSub, Nat.reduceMul, Nat.reduceLT, Nat.reduceLeDiff, Nat.reduceMod, Nat.reduceDiv, Int.reduceLT, Int.reduceLE, Int.reduceToNat, ↓reduceIte, reduceCtorEq, Value.oneCell', Int.reduceAdd, Int.reduceSub, Int.reduceMod, Int.reduceMul, Int.reduceNeg, Int.reduceBEq, Int.reduceBNe, Int.reduceTDiv, Int.reduceTMod, Int.reduceEq, tyB, Try.underlying13, Try.underlying25, Try.underlying26, Try.underlying39, Try.underlying40, Try.underlying72, Try.underlying73, mul64G, add64G, okW_0, okW_1, okW_2, okW_3, Bool.and_true, Int.toNat_natCast, Int.natCast_nonneg, e33, f33, g33, i33, j33, k33]
  rw [vy_succ]
  simp -implicitDefEqProofs (maxSteps := 10000000) only [vmB, slim, slimOp, gO, gSO, qSO, quietOp, cS, qSB, eK, calmOp, guardS, gK, qK, putK, plK, dOk, St.ev, St.get, St.mem, St.set, St.setm, St.put, lookA, look, newK, nextver, initT, seqE, blockQ, bodyQ, resK, retV, AV.rdv, uV, ↓binK, ↓intK, unK, ↓loadK, ↓withKey_eq, ↓idxAddrK, ↓indexK, ↓partK, ↓fieldK, ↓fieldAddrK, ↓convK, ↓callK, wrG, updK, ↓lenK, ↓mmK, ↓appK, ↓copyK, ↓sliceK, ↓toArrK, nilK, evs, plains, seqParts, capsOf, capsD, AV.dv, AV.cont, ↓buildV_eq, fillL, placesOf, ↓storeK, wrL, RV.av, DV.av, List.set, Nat.reduceEqDiff, Nat.reduceAdd, Nat.reduceSub, Nat.reduceMul, Nat.reduceLT, Nat.reduceLeDiff, Nat.reduceMod, Nat.reduceDiv, Int.reduceLT, Int.reduceLE, Int.reduceToNat, ↓reduceIte, reduceCtorEq, Value.oneCell', Int.reduceAdd, Int.reduceSub, Int.reduceMod, Int.reduceMul, Int.reduceNeg, Int.reduceBEq, Int.reduceBNe, Int.reduceTDiv, Int.reduceTMod, Int.reduceEq, tyB, Try.underlying13, Try.underlying25, Try.underlying26, Try.underlying39, Try.underlying40, Try.underlying72, Try.underlying73, mul64G, add64G, okW_0, okW_1, okW_2, okW_3, Bool.and_true, Int.toNat_natCast, Int.natCast_nonneg]
  rw [vy_succ]
  simp -implicitDefEqProofs (maxSteps := 10000000) only [vmB, slim, slimOp, gO, gSO, qSO, quietOp, cS, qSB, eK, calmOp, guardS, gK, qK, putK, plK, dOk, St.ev, St.get, St.mem, St.set, St.setm, St.put, lookA, look, newK, nextver, initT, seqE, blockQ, bodyQ, resK, retV, AV.rdv, uV, ↓binK, ↓intK, unK, ↓loadK, ↓withKey_eq, ↓idxAddrK, ↓indexK, ↓partK, ↓fieldK, ↓fieldAddrK, ↓convK, ↓callK, wrG, updK, ↓lenK, ↓mmK, ↓appK, ↓copyK, ↓sliceK, ↓toArrK, nilK, evs, plains, seqParts, capsOf, capsD, AV.dv, AV.cont, ↓buildV_eq, fillL, placesOf, ↓storeK, wrL, RV.av, DV.av, List.set, Nat.reduceEqDiff, Nat.reduceAdd, Nat.reduceSub, Nat.reduceMul, Nat.reduceLT, Nat.reduceLeDiff, Nat.reduceMod, Nat.reduceDiv, Int.reduceLT, Int.reduceLE, Int.reduceToNat, ↓reduceIte, reduceCtorEq, Value.oneCell', Int.reduceAdd, Int.reduceSub, Int.reduceMod, Int.reduceMul, Int.reduceNeg, Int.reduceBEq, Int.reduceBNe, Int.reduceTDiv, Int.reduceTMod, Int.reduceEq, tyB, Try.underlying13, Try.underlying25, Try.underlying26, Try.underlying39, Try.underlying40, Try.underlying72, Try.underlying73, mul64G, add64G, okW_0, okW_1, okW_2, okW_3, Bool.and_true, Int.toNat_natCast, Int.natCast_nonneg, mulTree]

end Go.Vm

/- Contracts of the field's functions: below, modulus, reduce. No condition. -/
set_option maxRecDepth 100000
set_option linter.unusedSimpArgs false
set_option linter.unusedVariables false
namespace Go.Vm
open Go Go.RowKit Go.Proofs

/-- by how much the moduli are below 2^256 -/
noncomputable def cOf : Int → Nat := Classical.choose (⟨fun w => if w = 0 then 4294968273 else 432420386565659656852420866394968145599, rfl⟩ : ∃ f : Int → Nat, f = fun w => if w = 0 then 4294968273 else 432420386565659656852420866394968145599)
theorem cOf_eq : cOf = fun w => if w = 0 then 4294968273 else 432420386565659656852420866394968145599 := Classical.choose_spec (⟨fun w => if w = 0 then 4294968273 else 432420386565659656852420866394968145599, rfl⟩ : ∃ f : Int → Nat, f = fun w => if w = 0 then 4294968273 else 432420386565659656852420866394968145599)
theorem cOf_pos (w : Int) : 0 < cOf w := by rw [cOf_eq]; simp only; split <;> omega
theorem cOf_small (w : Int) : 4 * cOf w < full := by rw [cOf_eq, full_eq]; simp only; split <;> omega
theorem uV_c0 : Value.agg #[.int .u64 4294968273, .int .u64 0, .int .u64 0, .int .u64 0] = uV (cOf 0) := by
  have := uV_of (x := cOf 0) (a := 4294968273) (b := 0) (c := 0) (d := 0) (by omega) (by omega) (by omega) (by omega) (by rw [cOf_eq]; simp only [num, full_eq]; simp)
  exact this.symm
theorem uV_c1 : Value.agg #[.int .u64 4624529908474429119, .int .u64 4994812053365940164, .int .u64 1, .int .u64 0] = uV (cOf 1) := by
  have := uV_of (x := cOf 1) (a := 4624529908474429119) (b := 4994812053365940164) (c := 1) (d := 0) (by omega) (by omega) (by omega) (by omega) (by rw [cOf_eq]; simp only [num, full_eq]; simp)
  exact this.symm

def isW (w : Int) : Bool := w == 0 || w == 1
noncomputable def belowG : List DV → Option RV
  | [.pl (.int .i64 w)] => some (.tup [.pl (uV (if isW w then cOf w else 0)), .pl (.bool (isW w))])
  | _ => none

theorem below_ok : ∀ ds r, belowG ds = some r → Spec Try.prog 50 ds r := by
  intro ds r h
  unfold belowG at h
  split at h
  case h_2 => cases h
  rename_i w
  cases h
  have hΓ : Env.ok [] Try.prog := ok_nil _
  by_cases h0 : w = 0
  · subst h0
    refine Spec.of_vx hΓ follows_mixed Try.func50 rfl (by kernel_rfl) (T := []) (by simp [Try.ntmps50]) (by kernel_rfl) rfl Try.ntmps50 (res := [.cell 2 24, .tmp 3]) rfl ?_
    intro W
    simp -implicitDefEqProofs (maxSteps := 10000000) only [vy_succ, vmB, slim, slimOp, gO, gSO, qSO, quietOp, cS, qSB, eK, calmOp, guardS, gK, qK, putK, plK, dOk, St.ev, St.get, St.mem, St.set, St.setm, St.put, lookA, look, newK, nextver, initT, seqE, blockQ, bodyQ, resK, retV, AV.rdv, agg_uV, ↓binK, ↓intK, unK, ↓loadK, ↓withKey_eq, ↓idxAddrK, ↓indexK, ↓partK, ↓fieldK, ↓fieldAddrK, ↓convK, ↓callK, wrG, updK, ↓lenK, ↓mmK, ↓appK, ↓copyK, ↓sliceK, ↓toArrK, nilK, evs, plains, seqParts, capsOf, capsD, AV.dv, AV.cont, ↓buildV_eq, fillL, placesOf, ↓storeK, wrL, RV.av, DV.av, List.set, Nat.reduceEqDiff, Nat.reduceAdd, Nat.reduceSub, Nat.reduceMul, Nat.reduceLT, Nat.reduceLeDiff, Nat.reduceMod, Nat.reduceDiv, Int.reduceLT, Int.reduceLE, Int.reduceToNat, ↓reduceIte, reduceCtorEq, Value.oneCell', Int.reduceAdd, Int.reduceSub, Int.reduceMod, Int.reduceMul, Int.reduceNeg, Int.reduceBEq, Int.reduceBNe, Int.reduceTDiv, Int.reduceTMod, Int.reduceEq, tyB, Try.underlying13, Try.underlying25, Try.underlying26, Try.underlying39, Try.underlying40, Try.underlying72, Try.underlying73, isW, Bool.or_true, Bool.true_or, uV_c0]
  · by_cases h1 : w = 1
    · subst h1
      have e : isW 1 = true := rfl
      refine Spec.of_vx hΓ follows_mixed Try.func50 rfl (by kernel_rfl) (T := []) (by simp [Try.ntmps50]) (by kernel_rfl) rfl Try.ntmps50 (res := [.cell 2 24, .tmp 3]) rfl ?_
      intro W
      simp -implicitDefEqProofs (maxSteps := 10000000) only [vy_succ, vmB, slim, slimOp, gO, gSO, qSO, quietOp, cS, qSB, eK, calmOp, guardS, gK, qK, putK, plK, dOk, St.ev, St.get, St.mem, St.set, St.setm, St.put, lookA, look, newK, nextver, initT, seqE, blockQ, bodyQ, resK, retV, AV.rdv, agg_uV, ↓binK, ↓intK, unK, ↓loadK, ↓withKey_eq, ↓idxAddrK, ↓indexK, ↓partK, ↓fieldK, ↓fieldAddrK, ↓convK, ↓callK, wrG, updK, ↓lenK, ↓mmK, ↓appK, ↓copyK, ↓sliceK, ↓toArrK, nilK, evs, plains, seqParts, capsOf, capsD, AV.dv, AV.cont, ↓buildV_eq, fillL, placesOf, ↓storeK, wrL, RV.av, DV.av, List.set, Nat.reduceEqDiff, Nat.reduceAdd, Nat.reduceSub, Nat.reduceMul, Nat.reduceLT, Nat.reduceLeDiff, Nat.reduceMod, Nat.reduceDiv, Int.reduceLT, Int.reduceLE, Int.reduceToNat, ↓reduceIte, reduceCtorEq, Value.oneCell', Int.reduceAdd, Int.reduceSub, Int.reduceMod, Int.reduceMul, Int.reduceNeg, Int.reduceBEq, Int.reduceBNe, Int.reduceTDiv, Int.reduceTMod, Int.reduceEq, tyB, Try.underlying13, Try.underlying25, Try.underlying26, Try.underlying39, Try.underlying40, Try.underlying72, Try.underlying73, e, uV_c1]
    · have e0 : (w == 0) = false := by simp [h0]
      have e1 : (w == 1) = false := by simp [h1]
      have e2 : ((0 : Int) == w) = false := by simp [Ne.symm h0]
      have e3 : ((1 : Int) == w) = false := by simp [Ne.symm h1]
      refine Spec.of_vx hΓ follows_mixed Try.func50 rfl (by kernel_rfl) (T := []) (by simp [Try.ntmps50]) (by kernel_rfl) rfl Try.ntmps50 (res := [.cell 2 24, .tmp 3]) rfl ?_
      intro W
      simp -implicitDefEqProofs (maxSteps := 10000000) only [vy_succ, vmB, slim, slimOp, gO, gSO, qSO, quietOp, cS, qSB, eK, calmOp, guardS, gK, qK, putK, plK, dOk, St.ev, St.get, St.mem, St.set, St.setm, St.put, lookA, look, newK, nextver, initT, seqE, blockQ, bodyQ, resK, retV, AV.rdv, agg_uV, ↓binK, ↓intK, unK, ↓loadK, ↓withKey_eq, ↓idxAddrK, ↓indexK, ↓partK, ↓fieldK, ↓fieldAddrK, ↓convK, ↓callK, wrG, updK, ↓lenK, ↓mmK, ↓appK, ↓copyK, ↓sliceK, ↓toArrK, nilK, evs, plains, seqParts, capsOf, capsD, AV.dv, AV.cont, ↓buildV_eq, fillL, placesOf, ↓storeK, wrL, RV.av, DV.av, List.set, Nat.reduceEqDiff, Nat.reduceAdd, Nat.reduceSub, Nat.reduceMul, Nat.reduceLT, Nat.reduceLeDiff, Nat.reduceMod, Nat.reduceDiv, Int.reduceLT, Int.reduceLE, Int.reduceToNat, ↓reduceIte, reduceCtorEq, Value.oneCell', Int.reduceAdd, Int.reduceSub, Int.reduceMod, Int.reduceMul, Int.reduceNeg, Int.reduceBEq, Int.reduceBNe, Int.reduceTDiv, Int.reduceTMod, Int.reduceEq, tyB, Try.underlying13, Try.underlying25, Try.underlying26, Try.underlying39, Try.underlying40, Try.underlying72, Try.underlying73, isW, e0, e1, e2, e3, Bool.or_self, Bool.false_or, uV_0]

noncomputable def cOk : Nat → Bool := Classical.choose (⟨fun c => decide (0 < c ∧ 4 * c < full), rfl⟩ : ∃ f : Nat → Bool, f = fun c => decide (0 < c ∧ 4 * c < full))
theorem cOk_eq : cOk = fun c => decide (0 < c ∧ 4 * c < full) := Classical.choose_spec (⟨fun c => decide (0 < c ∧ 4 * c < full), rfl⟩ : ∃ f : Nat → Bool, f = fun c => decide (0 < c ∧ 4 * c < full))
theorem cOk_out {c : Nat} (h : cOk c = true) : 0 < c ∧ 4 * c < full := by rw [cOk_eq] at h; simpa using h
theorem cOk_c (w : Int) : cOk (cOf w) = true := by rw [cOk_eq]; simp [cOf_pos, cOf_small]

noncomputable def reduceG : List DV → Option RV
  | [.pl vl, .pl vh, .pl vc] => match toN vl, toN vh, toN vc with
    | some l, some h, some c => if cOk c = true then some (.one (.pl (uV ((l + h * full) % (full - c))))) else none
    | _, _, _ => none
  | _ => none

def redTree : OT := .alt 0 (.alt 1 (.alt 2 (.alt 3 (.done) (.stop)) (.stop)) (.alt 2 (.alt 1 (.alt 3 (.done) (.stop)) (.stop)) (.stop))) (.alt 1 (.alt 0 (.alt 2 (.alt 3 (.done) (.stop)) (.stop)) (.stop)) (.stop))

theorem toN_one : toN (.agg #[.int .u64 1, .int .u64 0, .int .u64 0, .int .u64 0]) = some 1 := by
  rw [show Value.agg #[.int .u64 1, .int .u64 0, .int .u64 0, .int .u64 0] = uV 1 from uV_lit 1 (by omega)]
  exact toN_lt (by rw [full_eq]; omega)

noncomputable def rdS (c : Nat) (x : Nat × Nat) : St := ⟨[(6, .ptr 6 0 0), (5, .ptr 5 0 0), (4, .ptr 4 0 0), (3, .ptr 3 0 0)],
  [(6, ⟨0, 24, [.int .u64 0, .int .u64 0, .int .u64 0, .int .u64 0]⟩), (5, uC c), (4, uC x.2), (3, uC x.1)]⟩

set_option maxHeartbeats 4000000 in
theorem red_walk (l h c : Nat) (hl : l < full) (hh : h < full) (hc : c < full) (ho : cOk c = true) : Spec Try.prog 51 [.pl (uV l), .pl (uV h), .pl (uV c)] (.one (.pl (uV ((l + h * full) % (full - c))))) := by
  have hΓ : Env.ok [(83, addG), (82, mulG)] Try.prog := ok_cons add_ok (ok_cons mul_ok (ok_nil _))
  obtain ⟨hc0, hc4⟩ := cOk_out ho
  have tc : toN (uV c) = some c := toN_lt hc
  generalize hR : (l + h * full) % (full - c) = R
  refine Spec.of_vx hΓ follows_mixed Try.func51 rfl (by kernel_rfl) (T := [(6, redTree)]) (by simp [Try.ntmps51]) (by kernel_rfl) rfl Try.ntmps51 (res := [.cell 6 24]) rfl ?_
  intro W
  simp -implicitDefEqProofs (maxSteps := 10000000) only [vy_succ, vmB, slim, slimOp, gO, gSO, qSO, quietOp, cS, qSB, eK, calmOp, guardS, gK, qK, putK, plK, dOk, St.ev, St.get, St.mem, St.set, St.setm, St.put, lookA, look, newK, nextver, initT, seqE, blockQ, bodyQ, resK, retV, AV.rdv, agg_uV, ↓binK, ↓intK, unK, ↓loadK, ↓withKey_eq, ↓idxAddrK, ↓indexK, ↓partK, ↓fieldK, ↓fieldAddrK, ↓convK, ↓callK, wrG, updK, ↓lenK, ↓mmK, ↓appK, ↓copyK, ↓sliceK, ↓toArrK, nilK, evs, plains, seqParts, capsOf, capsD, AV.dv, AV.cont, ↓buildV_eq, fillL, placesOf, ↓storeK, wrL, RV.av, DV.av, List.set, Nat.reduceEqDiff, Nat.reduceAdd, Nat.reduceSub, Nat.reduceMul, Nat.reduceLT, Nat.reduceLeDiff, Nat.reduceMod, Nat.reduceDiv, Int.reduceLT, Int.reduceLE, Int.reduceToNat, ↓reduceIte, reduceCtorEq, Value.oneCell', Int.reduceAdd, Int.reduceSub, Int.reduceMod, Int.reduceMul, Int.reduceNeg, Int.reduceBEq, Int.reduceBNe, Int.reduceTDiv, Int.reduceTMod, Int.reduceEq, tyB, Try.underlying13, Try.underlying25, Try.underlying26, Try.underlying39, Try.underlying40, Try.underlying72, Try.underlying73, redTree]
  refine VT_loop hΓ follows_mixed (rdS c) (fun x => x.1 < full ∧ x.2 < full ∧ (x.1 + x.2 * full) % (full - c) = R) (fun x => x.1 + x.2 * full) (l, h) (Sub.of (by simp -implicitDefEqProofs only [subT, rdS, look, lookA, newK, St.get, St.mem, List.map_cons, List.map_nil, List.all_cons, List.all_nil, List.length_cons, List.length_nil, List.getElem?_cons_zero, List.getElem?_cons_succ, Nat.reduceEqDiff, Nat.reduceAdd, Option.some.injEq, ↓reduceIte, true_and, and_true, reduceCtorEq, beq_self_eq_true, Bool.and_true, ne_eq, not_false_eq_true, not_true_eq_false, Nat.add_zero, Nat.zero_add, Nat.reduceSub, Nat.reduceMul, Int.cast_ofNat_Int, Int.reduceAdd, Int.reduceSub, Int.reduceMul]) (by simp -implicitDefEqProofs only [subM, rdS, uC, look, lookA, newK, St.get, St.mem, List.map_cons, List.map_nil, List.all_cons, List.all_nil, List.length_cons, List.length_nil, List.getElem?_cons_zero, List.getElem?_cons_succ, Nat.reduceEqDiff, Nat.reduceAdd, Option.some.injEq, ↓reduceIte, true_and, and_true, reduceCtorEq, beq_self_eq_true, Bool.and_true, ne_eq, not_false_eq_true, not_true_eq_false, Nat.add_zero, Nat.zero_add, Nat.reduceSub, Nat.reduceMul, Int.cast_ofNat_Int, Int.reduceAdd, Int.reduceSub, Int.reduceMul]) rfl) ⟨hl, hh, hR⟩ ?_
  rintro ⟨L, H⟩ ⟨hL, hH, hinv⟩
  simp only at hL hH hinv
  have tL : toN (uV L) = some L := toN_lt hL
  have tH : toN (uV H) = some H := toN_lt hH
  by_cases h0 : H = 0
  · subst h0
    have e0 := eqU_self 0
    rw [Nat.zero_mul, Nat.add_zero] at hinv
    by_cases hov : full ≤ L + c
    · have d1 : decide (full ≤ L + c) = true := decide_eq_true hov
      have d2 : uV (L + c) = uV R := by
        apply uV_inj
        rw [← hinv, Nat.mod_eq_sub_mod (show full - c ≤ L by omega), Nat.mod_eq_of_lt (show L - (full - c) < full - c by omega), Nat.mod_eq_sub_mod hov]
        congr 1
        omega
      simp -implicitDefEqProofs (maxSteps := 10000000) only [vy_succ, vmB, slim, slimOp, gO, gSO, qSO, quietOp, cS, qSB, eK, calmOp, guardS, gK, qK, putK, plK, dOk, St.ev, St.get, St.mem, St.set, St.setm, St.put, lookA, look, newK, nextver, initT, seqE, blockQ, bodyQ, resK, retV, AV.rdv, agg_uV, ↓binK, ↓intK, unK, ↓loadK, ↓withKey_eq, ↓idxAddrK, ↓indexK, ↓partK, ↓fieldK, ↓fieldAddrK, ↓convK, ↓callK, wrG, updK, ↓lenK, ↓mmK, ↓appK, ↓copyK, ↓sliceK, ↓toArrK, nilK, evs, plains, seqParts, capsOf, capsD, AV.dv, AV.cont, ↓buildV_eq, fillL, placesOf, ↓storeK, wrL, RV.av, DV.av, List.set, Nat.reduceEqDiff, Nat.reduceAdd, Nat.reduceSub, Nat.reduceMul, Nat.reduceLT, Nat.reduceLeDiff, Nat.reduceMod, Nat.reduceDiv, Int.reduceLT, Int.reduceLE, Int.reduceToNat, ↓reduceIte, reduceCtorEq, Value.oneCell', Int.reduceAdd, Int.reduceSub, Int.reduceMod, Int.reduceMul, Int.reduceNeg, Int.reduceBEq, Int.reduceBNe, Int.reduceTDiv, Int.reduceTMod, Int.reduceEq, tyB, Try.underlying13, Try.underlying25, Try.underlying26, Try.underlying39, Try.underlying40, Try.underlying72, Try.underlying73, rdS, uC, addG, tL, tc, ↓binK_neU0, e0, d1, d2]
    · have d1 : decide (full ≤ L + c) = false := decide_eq_false hov
      rw [Nat.mod_eq_of_lt (show L < full - c by omega)] at hinv
      subst hinv
      simp -implicitDefEqProofs (maxSteps := 10000000) only [vy_succ, vmB, slim, slimOp, gO, gSO, qSO, quietOp, cS, qSB, eK, calmOp, guardS, gK, qK, putK, plK, dOk, St.ev, St.get, St.mem, St.set, St.setm, St.put, lookA, look, newK, nextver, initT, seqE, blockQ, bodyQ, resK, retV, AV.rdv, agg_uV, ↓binK, ↓intK, unK, ↓loadK, ↓withKey_eq, ↓idxAddrK, ↓indexK, ↓partK, ↓fieldK, ↓fieldAddrK, ↓convK, ↓callK, wrG, updK, ↓lenK, ↓mmK, ↓appK, ↓copyK, ↓sliceK, ↓toArrK, nilK, evs, plains, seqParts, capsOf, capsD, AV.dv, AV.cont, ↓buildV_eq, fillL, placesOf, ↓storeK, wrL, RV.av, DV.av, List.set, Nat.reduceEqDiff, Nat.reduceAdd, Nat.reduceSub, Nat.reduceMul, Nat.reduceLT, Nat.reduceLeDiff, Nat.reduceMod, Nat.reduceDiv, Int.reduceLT, Int.reduceLE, Int.reduceToNat, ↓reduceIte, reduceCtorEq, Value.oneCell', Int.reduceAdd, Int.reduceSub, Int.reduceMod, Int.reduceMul, Int.reduceNeg, Int.reduceBEq, Int.reduceBNe, Int.reduceTDiv, Int.reduceTMod, Int.reduceEq, tyB, Try.underlying13, Try.underlying25, Try.underlying26, Try.underlying39, Try.underlying40, Try.underlying72, Try.underlying73, rdS, uC, addG, tL, tc, ↓binK_neU0, e0, d1]
  · have e0 : eqU H 0 = false := by rw [eqU_lt hH full_pos]; exact decide_eq_false h0
    have hHc : H * c / full < full := Nat.div_lt_of_lt_mul (mul_lt_full hH hc)
    have hsp := Nat.mod_add_div (H * c) full
    have hm := Nat.mod_lt (H * c) full_pos
    have hlt : L + H * c < L + H * full := by
      have := Nat.mul_lt_mul_of_pos_left hc (Nat.pos_of_ne_zero h0)
      omega
    have hnew := Nat.mod_add_div (L + H * c) full
    have hnm := Nat.mod_lt (L + H * c) full_pos
    have hHn : (L + H * c) / full < full := by
      apply Nat.div_lt_of_lt_mul
      have h1 : H * c ≤ (full - 1) * c := Nat.mul_le_mul_right _ (by omega)
      have h2 : (full - 1) * c + c = full * c := by
        rw [← Nat.succ_mul]; congr 1; omega
      have h3 : full * (c + 1) ≤ full * full := Nat.mul_le_mul_left _ (by omega)
      rw [Nat.mul_add] at h3
      omega
    have hcong : (L + H * c) % (full - c) = R := by
      rw [← hinv]
      have : L + H * full = L + H * c + (full - c) * H := by
        rw [Nat.mul_comm (full - c) H, Nat.mul_sub]
        have : H * c ≤ H * full := Nat.mul_le_mul_left _ (by omega)
        omega
      rw [this, Nat.add_mul_mod_self_left]
    have u1 : uV (L + H * c % full) = uV ((L + H * c) % full) := by
      apply uV_inj
      rw [Nat.add_mod_mod, Nat.mod_mod]
    have hfin : (L + H * c) % full + (L + H * c) / full * full = L + H * c := by rw [Nat.mul_comm ((L + H * c) / full) full]; exact hnew
    by_cases hov : full ≤ L + H * c % full
    · have d1 : decide (full ≤ L + H * c % full) = true := decide_eq_true hov
      have u2 : uV (H * c / full % full + 1) = uV ((L + H * c) / full) := by
        congr 1
        rw [Nat.mod_eq_of_lt hHc]
        have : L + H * c = full * (H * c / full + 1) + (L + H * c % full - full) := by rw [Nat.mul_add]; omega
        rw [this, Nat.mul_add_div full_pos, Nat.div_eq_of_lt (show L + H * c % full - full < full by omega), Nat.add_zero]
      simp -implicitDefEqProofs (maxSteps := 10000000) only [vy_succ, vmB, slim, slimOp, gO, gSO, qSO, quietOp, cS, qSB, eK, calmOp, guardS, gK, qK, putK, plK, dOk, St.ev, St.get, St.mem, St.set, St.setm, St.put, lookA, look, newK, nextver, initT, seqE, blockQ, bodyQ, resK, retV, AV.rdv, agg_uV, ↓binK, ↓intK, unK, ↓loadK, ↓withKey_eq, ↓idxAddrK, ↓indexK, ↓partK, ↓fieldK, ↓fieldAddrK, ↓convK, ↓callK, wrG, updK, ↓lenK, ↓mmK, ↓appK, ↓copyK, ↓sliceK, ↓toArrK, nilK, evs, plains, seqParts, capsOf, capsD, AV.dv, AV.cont, ↓buildV_eq, fillL, placesOf, ↓storeK, wrL, RV.av, DV.av, List.set, Nat.reduceEqDiff, Nat.reduceAdd, Nat.reduceSub, Nat.reduceMul, Nat.reduceLT, Nat.reduceLeDiff, Nat.reduceMod, Nat.reduceDiv, Int.reduceLT, Int.reduceLE, Int.reduceToNat, ↓reduceIte, reduceCtorEq, Value.oneCell', Int.reduceAdd, Int.reduceSub, Int.reduceMod, Int.reduceMul, Int.reduceNeg, Int.reduceBEq, Int.reduceBNe, Int.reduceTDiv, Int.reduceTMod, Int.reduceEq, tyB, Try.underlying13, Try.underlying25, Try.underlying26, Try.underlying39, Try.underlying40, Try.underlying72, Try.underlying73, rdS, uC, addG, mulG, tL, tH, tc, ↓binK_neU0, e0, d1, u1, u2, toN_one]
      repeat' apply And.intro
      all_goals exact ⟨((L + H * c) % full, (L + H * c) / full), ⟨hnm, hHn, by rw [hfin, hcong]⟩, (by show (L + H * c) % full + (L + H * c) / full * full < L + H * full; omega), Sub.of (by simp -implicitDefEqProofs only [subT, rdS, look, lookA, newK, St.get, St.mem, List.map_cons, List.map_nil, List.all_cons, List.all_nil, List.length_cons, List.length_nil, List.getElem?_cons_zero, List.getElem?_cons_succ, Nat.reduceEqDiff, Nat.reduceAdd, Option.some.injEq, ↓reduceIte, true_and, and_true, reduceCtorEq, beq_self_eq_true, Bool.and_true, ne_eq, not_false_eq_true, not_true_eq_false, Nat.add_zero, Nat.zero_add, Nat.reduceSub, Nat.reduceMul, Int.cast_ofNat_Int, Int.reduceAdd, Int.reduceSub, Int.reduceMul]) (by simp -implicitDefEqProofs only [subM, rdS, uC, look, lookA, newK, St.get, St.mem, List.map_cons, List.map_nil, List.all_cons, List.all_nil, List.length_cons, List.length_nil, List.getElem?_cons_zero, List.getElem?_cons_succ, Nat.reduceEqDiff, Nat.reduceAdd, Option.some.injEq, ↓reduceIte, true_and, and_true, reduceCtorEq, beq_self_eq_true, Bool.and_true, ne_eq, not_false_eq_true, not_true_eq_false, Nat.add_zero, Nat.zero_add, Nat.reduceSub, Nat.reduceMul, Int.cast_ofNat_Int, Int.reduceAdd, Int.reduceSub, Int.reduceMul]) rfl⟩
    · have d1 : decide (full ≤ L + H * c % full) = false := decide_eq_false hov
      have u2 : uV (H * c / full) = uV ((L + H * c) / full) := by
        congr 1
        have : L + H * c = full * (H * c / full) + (L + H * c % full) := by omega
        rw [this, Nat.mul_add_div full_pos, Nat.div_eq_of_lt (show L + H * c % full < full by omega), Nat.add_zero]
      simp -implicitDefEqProofs (maxSteps := 10000000) only [vy_succ, vmB, slim, slimOp, gO, gSO, qSO, quietOp, cS, qSB, eK, calmOp, guardS, gK, qK, putK, plK, dOk, St.ev, St.get, St.mem, St.set, St.setm, St.put, lookA, look, newK, nextver, initT, seqE, blockQ, bodyQ, resK, retV, AV.rdv, agg_uV, ↓binK, ↓intK, unK, ↓loadK, ↓withKey_eq, ↓idxAddrK, ↓indexK, ↓partK, ↓fieldK, ↓fieldAddrK, ↓convK, ↓callK, wrG, updK, ↓lenK, ↓mmK, ↓appK, ↓copyK, ↓sliceK, ↓toArrK, nilK, evs, plains, seqParts, capsOf, capsD, AV.dv, AV.cont, ↓buildV_eq, fillL, placesOf, ↓storeK, wrL, RV.av, DV.av, List.set, Nat.reduceEqDiff, Nat.reduceAdd, Nat.reduceSub, Nat.reduceMul, Nat.reduceLT, Nat.reduceLeDiff, Nat.reduceMod, Nat.reduceDiv, Int.reduceLT, Int.reduceLE, Int.reduceToNat, ↓reduceIte, reduceCtorEq, Value.oneCell', Int.reduceAdd, Int.reduceSub, Int.reduceMod, Int.reduceMul, Int.reduceNeg, Int.reduceBEq, Int.reduceBNe, Int.reduceTDiv, Int.reduceTMod, Int.reduceEq, tyB, Try.underlying13, Try.underlying25, Try.underlying26, Try.underlying39, Try.underlying40, Try.underlying72, Try.underlying73, rdS, uC, addG, mulG, tL, tH, tc, ↓binK_neU0, e0, d1, u1, u2, toN_one]
      repeat' apply And.intro
      all_goals exact ⟨((L + H * c) % full, (L + H * c) / full), ⟨hnm, hHn, by rw [hfin, hcong]⟩, (by show (L + H * c) % full + (L + H * c) / full * full < L + H * full; omega), Sub.of (by simp -implicitDefEqProofs only [subT, rdS, look, lookA, newK, St.get, St.mem, List.map_cons, List.map_nil, List.all_cons, List.all_nil, List.length_cons, List.length_nil, List.getElem?_cons_zero, List.getElem?_cons_succ, Nat.reduceEqDiff, Nat.reduceAdd, Option.some.injEq, ↓reduceIte, true_and, and_true, reduceCtorEq, beq_self_eq_true, Bool.and_true, ne_eq, not_false_eq_true, not_true_eq_false, Nat.add_zero, Nat.zero_add, Nat.reduceSub, Nat.reduceMul, Int.cast_ofNat_Int, Int.reduceAdd, Int.reduceSub, Int.reduceMul]) (by simp -implicitDefEqProofs only [subM, rdS, uC, look, lookA, newK, St.get, St.mem, List.map_cons, List.map_nil, List.all_cons, List.all_nil, List.length_cons, List.length_nil, List.getElem?_cons_zero, List.getElem?_cons_succ, Nat.reduceEqDiff, Nat.reduceAdd, Option.some.injEq, ↓reduceIte, true_and, and_true, reduceCtorEq, beq_self_eq_true, Bool.and_true, ne_eq, not_false_eq_true, not_true_eq_false, Nat.add_zero, Nat.zero_add, Nat.reduceSub, Nat.reduceMul, Int.cast_ofNat_Int, Int.reduceAdd, Int.reduceSub, Int.reduceMul]) rfl⟩

theorem reduce_ok : ∀ ds r, reduceG ds = some r → Spec Try.prog 51 ds r := by
  intro ds r h
  unfold reduceG at h
  split at h
  case h_2 => cases h
  rename_i vl vh vc
  split at h
  case h_2 => cases h
  rename_i l h' c hl hh hc
  split at h
  case isFalse => cases h
  rename_i ho
  cases h
  obtain ⟨rfl, hl'⟩ := toN_eq hl
  obtain ⟨rfl, hh'⟩ := toN_eq hh
  obtain ⟨rfl, hc'⟩ := toN_eq hc
  exact red_walk l h' c hl' hh' hc' ho
end Go.Vm

/- Contracts of the field's functions: modulus, Prime, Reduce, Add, Sub, mul, Mul. No condition. -/
set_option maxRecDepth 100000
set_option linter.unusedSimpArgs false
set_option linter.unusedVariables false
namespace Go.Vm
open Go Go.RowKit Go.Proofs

noncomputable def pN (w : Int) : Nat := Classical.choose (⟨full - cOf w, rfl⟩ : ∃ x : Nat, x = full - cOf w)
theorem pN_eq (w : Int) : pN w = full - cOf w := Classical.choose_spec (⟨full - cOf w, rfl⟩ : ∃ x : Nat, x = full - cOf w)
theorem pN_lt (w : Int) : pN w < full := by rw [pN_eq]; have := cOf_pos w; have := cOf_small w; omega
theorem pN_big (w : Int) : full < 2 * pN w := by rw [pN_eq]; have := cOf_small w; omega
theorem pN_pos (w : Int) : 0 < pN w := by have := pN_big w; omega
theorem mod_pN (x : Nat) (w : Int) : x % pN w < full := Nat.lt_trans (Nat.mod_lt _ (pN_pos w)) (pN_lt w)
theorem toN_c (w : Int) : toN (uV (cOf w)) = some (cOf w) := toN_lt (by have := cOf_small w; omega)
theorem toN_mod (x : Nat) (w : Int) : toN (uV (x % pN w)) = some (x % pN w) := toN_lt (mod_pN x w)
theorem fold_p (x : Nat) (w : Int) : x % (full - cOf w) = x % pN w := by rw [pN_eq]

noncomputable def modulusG : List DV → Option RV
  | [.pl (.int .i64 w)] => if isW w = true then some (.one (.pl (uV (pN w)))) else none
  | _ => none
theorem modulus_ok : ∀ ds r, modulusG ds = some r → Spec Try.prog 53 ds r := by
  intro ds r h
  unfold modulusG at h
  split at h
  case h_2 => cases h
  rename_i w
  split at h
  case isFalse => cases h
  rename_i hw
  cases h
  have hΓ : Env.ok [(50, belowG), (52, subG)] Try.prog := ok_cons below_ok (ok_cons sub_ok (ok_nil _))
  have tc := toN_c w
  have e : uV (full - cOf w) = uV (pN w) := by rw [pN_eq]
  refine Spec.of_vx hΓ follows_mixed Try.func53 rfl (by kernel_rfl) (T := []) (by simp [Try.ntmps53]) (by kernel_rfl) rfl Try.ntmps53 (res := [.cell 2 24]) rfl ?_
  intro W
  simp -implicitDefEqProofs (maxSteps := 10000000) only [vy_succ, vmB, slim, slimOp, gO, gSO, qSO, quietOp, cS, qSB, eK, calmOp, guardS, gK, qK, putK, plK, dOk, St.ev, St.get, St.mem, St.set, St.setm, St.put, lookA, look, newK, nextver, initT, seqE, blockQ, bodyQ, resK, retV, AV.rdv, agg_uV, ↓binK, ↓intK, unK, ↓loadK, ↓withKey_eq, ↓idxAddrK, ↓indexK, ↓partK, ↓fieldK, ↓fieldAddrK, ↓convK, ↓callK, wrG, updK, ↓lenK, ↓mmK, ↓appK, ↓copyK, ↓sliceK, ↓toArrK, nilK, evs, plains, seqParts, capsOf, capsD, AV.dv, AV.cont, ↓buildV_eq, fillL, placesOf, ↓storeK, wrL, RV.av, DV.av, List.set, Nat.reduceEqDiff, Nat.reduceAdd, Nat.reduceSub, Nat.reduceMul, Nat.reduceLT, Nat.reduceLeDiff, Nat.reduceMod, Nat.reduceDiv, Int.reduceLT, Int.reduceLE, Int.reduceToNat, ↓reduceIte, reduceCtorEq, Value.oneCell', Int.reduceAdd, Int.reduceSub, Int.reduceMod, Int.reduceMul, Int.reduceNeg, Int.reduceBEq, Int.reduceBNe, Int.reduceTDiv, Int.reduceTMod, Int.reduceEq, tyB, Try.underlying13, Try.underlying25, Try.underlying26, Try.underlying39, Try.underlying40, Try.underlying72, Try.underlying73, belowG, subG, hw, tc, toN_zero, e]

noncomputable def primeG : List DV → Option RV
  | [.pl (.int .i64 w)] => some (if isW w = true then .tup [.pl (uV (pN w)), .pl (.int .i64 0)] else .tup [.pl (uV 0), .pl (.int .i64 1)])
  | _ => none
theorem prime_ok : ∀ ds r, primeG ds = some r → Spec Try.prog 65 ds r := by
  intro ds r h
  unfold primeG at h
  split at h
  case h_2 => cases h
  rename_i w
  cases h
  have hΓ : Env.ok [(50, belowG), (53, modulusG)] Try.prog := ok_cons below_ok (ok_cons modulus_ok (ok_nil _))
  refine Spec.of_vx hΓ follows_mixed Try.func65 rfl (by kernel_rfl) (T := []) (by simp [Try.ntmps65]) (by kernel_rfl) rfl Try.ntmps65 (res := [.cell 2 24, .tmp 3]) rfl ?_
  intro W
  cases hw : isW w
  · simp -implicitDefEqProofs (maxSteps := 10000000) only [vy_succ, vmB, slim, slimOp, gO, gSO, qSO, quietOp, cS, qSB, eK, calmOp, guardS, gK, qK, putK, plK, dOk, St.ev, St.get, St.mem, St.set, St.setm, St.put, lookA, look, newK, nextver, initT, seqE, blockQ, bodyQ, resK, retV, AV.rdv, agg_uV, ↓binK, ↓intK, unK, ↓loadK, ↓withKey_eq, ↓idxAddrK, ↓indexK, ↓partK, ↓fieldK, ↓fieldAddrK, ↓convK, ↓callK, wrG, updK, ↓lenK, ↓mmK, ↓appK, ↓copyK, ↓sliceK, ↓toArrK, nilK, evs, plains, seqParts, capsOf, capsD, AV.dv, AV.cont, ↓buildV_eq, fillL, placesOf, ↓storeK, wrL, RV.av, DV.av, List.set, Nat.reduceEqDiff, Nat.reduceAdd, Nat.reduceSub, Nat.reduceMul, Nat.reduceLT, Nat.reduceLeDiff, Nat.reduceMod, Nat.reduceDiv, Int.reduceLT, Int.reduceLE, Int.reduceToNat, ↓reduceIte, reduceCtorEq, Value.oneCell', Int.reduceAdd, Int.reduceSub, Int.reduceMod, Int.reduceMul, Int.reduceNeg, Int.reduceBEq, Int.reduceBNe, Int.reduceTDiv, Int.reduceTMod, Int.reduceEq, tyB, Try.underlying13, Try.underlying25, Try.underlying26, Try.underlying39, Try.underlying40, Try.underlying72, Try.underlying73, belowG, modulusG, hw, uV_0]
  · simp -implicitDefEqProofs (maxSteps := 10000000) only [vy_succ, vmB, slim, slimOp, gO, gSO, qSO, quietOp, cS, qSB, eK, calmOp, guardS, gK, qK, putK, plK, dOk, St.ev, St.get, St.mem, St.set, St.setm, St.put, lookA, look, newK, nextver, initT, seqE, blockQ, bodyQ, resK, retV, AV.rdv, agg_uV, ↓binK, ↓intK, unK, ↓loadK, ↓withKey_eq, ↓idxAddrK, ↓indexK, ↓partK, ↓fieldK, ↓fieldAddrK, ↓convK, ↓callK, wrG, updK, ↓lenK, ↓mmK, ↓appK, ↓copyK, ↓sliceK, ↓toArrK, nilK, evs, plains, seqParts, capsOf, capsD, AV.dv, AV.cont, ↓buildV_eq, fillL, placesOf, ↓storeK, wrL, RV.av, DV.av, List.set, Nat.reduceEqDiff, Nat.reduceAdd, Nat.reduceSub, Nat.reduceMul, Nat.reduceLT, Nat.reduceLeDiff, Nat.reduceMod, Nat.reduceDiv, Int.reduceLT, Int.reduceLE, Int.reduceToNat, ↓reduceIte, reduceCtorEq, Value.oneCell', Int.reduceAdd, Int.reduceSub, Int.reduceMod, Int.reduceMul, Int.reduceNeg, Int.reduceBEq, Int.reduceBNe, Int.reduceTDiv, Int.reduceTMod, Int.reduceEq, tyB, Try.underlying13, Try.underlying25, Try.underlying26, Try.underlying39, Try.underlying40, Try.underlying72, Try.underlying73, belowG, modulusG, hw]

noncomputable def freduceG : List DV → Option RV
  | [.pl vl, .pl vh, .pl (.int .i64 w)] => match toN vl, toN vh with
    | some l, some h => some (if isW w = true then .tup [.pl (uV ((l + h * full) % pN w)), .pl (.int .i64 0)] else .tup [.pl (uV 0), .pl (.int .i64 1)])
    | _, _ => none
  | _ => none
theorem freduce_ok : ∀ ds r, freduceG ds = some r → Spec Try.prog 78 ds r := by
  intro ds r h
  unfold freduceG at h
  split at h
  case h_2 => cases h
  rename_i vl vh w
  split at h
  case h_2 => cases h
  rename_i l h' hl hh
  cases h
  obtain ⟨rfl, hl'⟩ := toN_eq hl
  obtain ⟨rfl, hh'⟩ := toN_eq hh
  have hΓ : Env.ok [(50, belowG), (51, reduceG)] Try.prog := ok_cons below_ok (ok_cons reduce_ok (ok_nil _))
  have tc := toN_c w
  have oc := cOk_c w
  refine Spec.of_vx hΓ follows_mixed Try.func78 rfl (by kernel_rfl) (T := []) (by simp [Try.ntmps78]) (by kernel_rfl) rfl Try.ntmps78 (res := [.cell 6 24, .tmp 7]) rfl ?_
  intro W
  cases hw : isW w
  · simp -implicitDefEqProofs (maxSteps := 10000000) only [vy_succ, vmB, slim, slimOp, gO, gSO, qSO, quietOp, cS, qSB, eK, calmOp, guardS, gK, qK, putK, plK, dOk, St.ev, St.get, St.mem, St.set, St.setm, St.put, lookA, look, newK, nextver, initT, seqE, blockQ, bodyQ, resK, retV, AV.rdv, agg_uV, ↓binK, ↓intK, unK, ↓loadK, ↓withKey_eq, ↓idxAddrK, ↓indexK, ↓partK, ↓fieldK, ↓fieldAddrK, ↓convK, ↓callK, wrG, updK, ↓lenK, ↓mmK, ↓appK, ↓copyK, ↓sliceK, ↓toArrK, nilK, evs, plains, seqParts, capsOf, capsD, AV.dv, AV.cont, ↓buildV_eq, fillL, placesOf, ↓storeK, wrL, RV.av, DV.av, List.set, Nat.reduceEqDiff, Nat.reduceAdd, Nat.reduceSub, Nat.reduceMul, Nat.reduceLT, Nat.reduceLeDiff, Nat.reduceMod, Nat.reduceDiv, Int.reduceLT, Int.reduceLE, Int.reduceToNat, ↓reduceIte, reduceCtorEq, Value.oneCell', Int.reduceAdd, Int.reduceSub, Int.reduceMod, Int.reduceMul, Int.reduceNeg, Int.reduceBEq, Int.reduceBNe, Int.reduceTDiv, Int.reduceTMod, Int.reduceEq, tyB, Try.underlying13, Try.underlying25, Try.underlying26, Try.underlying39, Try.underlying40, Try.underlying72, Try.underlying73, belowG, reduceG, hw, uV_0]
  · simp -implicitDefEqProofs (maxSteps := 10000000) only [vy_succ, vmB, slim, slimOp, gO, gSO, qSO, quietOp, cS, qSB, eK, calmOp, guardS, gK, qK, putK, plK, dOk, St.ev, St.get, St.mem, St.set, St.setm, St.put, lookA, look, newK, nextver, initT, seqE, blockQ, bodyQ, resK, retV, AV.rdv, agg_uV, ↓binK, ↓intK, unK, ↓loadK, ↓withKey_eq, ↓idxAddrK, ↓indexK, ↓partK, ↓fieldK, ↓fieldAddrK, ↓convK, ↓callK, wrG, updK, ↓lenK, ↓mmK, ↓appK, ↓copyK, ↓sliceK, ↓toArrK, nilK, evs, plains, seqParts, capsOf, capsD, AV.dv, AV.cont, ↓buildV_eq, fillL, placesOf, ↓storeK, wrL, RV.av, DV.av, List.set, Nat.reduceEqDiff, Nat.reduceAdd, Nat.reduceSub, Nat.reduceMul, Nat.reduceLT, Nat.reduceLeDiff, Nat.reduceMod, Nat.reduceDiv, Int.reduceLT, Int.reduceLE, Int.reduceToNat, ↓reduceIte, reduceCtorEq, Value.oneCell', Int.reduceAdd, Int.reduceSub, Int.reduceMod, Int.reduceMul, Int.reduceNeg, Int.reduceBEq, Int.reduceBNe, Int.reduceTDiv, Int.reduceTMod, Int.reduceEq, tyB, Try.underlying13, Try.underlying25, Try.underlying26, Try.underlying39, Try.underlying40, Try.underlying72, Try.underlying73, belowG, reduceG, hw, hl, hh, tc, oc, fold_p]

noncomputable def faddG : List DV → Option RV
  | [.pl va, .pl vb, .pl (.int .i64 w)] => match toN va, toN vb with
    | some a, some b => some (if isW w = true then .tup [.pl (uV ((a + b) % pN w)), .pl (.int .i64 0)] else .tup [.pl (uV 0), .pl (.int .i64 1)])
    | _, _ => none
  | _ => none
theorem fadd_ok : ∀ ds r, faddG ds = some r → Spec Try.prog 93 ds r := by
  intro ds r h
  unfold faddG at h
  split at h
  case h_2 => cases h
  rename_i va vb w
  split at h
  case h_2 => cases h
  rename_i a b ha hb
  cases h
  obtain ⟨rfl, ha'⟩ := toN_eq ha
  obtain ⟨rfl, hb'⟩ := toN_eq hb
  have hΓ : Env.ok [(50, belowG), (83, addG), (51, reduceG)] Try.prog := ok_cons below_ok (ok_cons add_ok (ok_cons reduce_ok (ok_nil _)))
  have tc := toN_c w
  have oc := cOk_c w
  refine Spec.of_vx hΓ follows_mixed Try.func93 rfl (by kernel_rfl) (T := []) (by simp [Try.ntmps93]) (by kernel_rfl) rfl Try.ntmps93 (res := [.cell 6 24, .tmp 7]) rfl ?_
  intro W
  cases hw : isW w
  · simp -implicitDefEqProofs (maxSteps := 10000000) only [vy_succ, vmB, slim, slimOp, gO, gSO, qSO, quietOp, cS, qSB, eK, calmOp, guardS, gK, qK, putK, plK, dOk, St.ev, St.get, St.mem, St.set, St.setm, St.put, lookA, look, newK, nextver, initT, seqE, blockQ, bodyQ, resK, retV, AV.rdv, agg_uV, ↓binK, ↓intK, unK, ↓loadK, ↓withKey_eq, ↓idxAddrK, ↓indexK, ↓partK, ↓fieldK, ↓fieldAddrK, ↓convK, ↓callK, wrG, updK, ↓lenK, ↓mmK, ↓appK, ↓copyK, ↓sliceK, ↓toArrK, nilK, evs, plains, seqParts, capsOf, capsD, AV.dv, AV.cont, ↓buildV_eq, fillL, placesOf, ↓storeK, wrL, RV.av, DV.av, List.set, Nat.reduceEqDiff, Nat.reduceAdd, Nat.reduceSub, Nat.reduceMul, Nat.reduceLT, Nat.reduceLeDiff, Nat.reduceMod, Nat.reduceDiv, Int.reduceLT, Int.reduceLE, Int.reduceToNat, ↓reduceIte, reduceCtorEq, Value.oneCell', Int.reduceAdd, Int.reduceSub, Int.reduceMod, Int.reduceMul, Int.reduceNeg, Int.reduceBEq, Int.reduceBNe, Int.reduceTDiv, Int.reduceTMod, Int.reduceEq, tyB, Try.underlying13, Try.underlying25, Try.underlying26, Try.underlying39, Try.underlying40, Try.underlying72, Try.underlying73, belowG, reduceG, addG, hw, uV_0]
  · by_cases ho : full ≤ a + b
    · have d : decide (full ≤ a + b) = true := decide_eq_true ho
      have e : ((a + b) % full + 1 * full) = a + b := by rw [Nat.mod_eq_sub_mod ho, Nat.mod_eq_of_lt (by omega)]; omega
      simp -implicitDefEqProofs (maxSteps := 10000000) only [vy_succ, vmB, slim, slimOp, gO, gSO, qSO, quietOp, cS, qSB, eK, calmOp, guardS, gK, qK, putK, plK, dOk, St.ev, St.get, St.mem, St.set, St.setm, St.put, lookA, look, newK, nextver, initT, seqE, blockQ, bodyQ, resK, retV, AV.rdv, agg_uV, ↓binK, ↓intK, unK, ↓loadK, ↓withKey_eq, ↓idxAddrK, ↓indexK, ↓partK, ↓fieldK, ↓fieldAddrK, ↓convK, ↓callK, wrG, updK, ↓lenK, ↓mmK, ↓appK, ↓copyK, ↓sliceK, ↓toArrK, nilK, evs, plains, seqParts, capsOf, capsD, AV.dv, AV.cont, ↓buildV_eq, fillL, placesOf, ↓storeK, wrL, RV.av, DV.av, List.set, Nat.reduceEqDiff, Nat.reduceAdd, Nat.reduceSub, Nat.reduceMul, Nat.reduceLT, Nat.reduceLeDiff, Nat.reduceMod, Nat.reduceDiv, Int.reduceLT, Int.reduceLE, Int.reduceToNat, ↓reduceIte, reduceCtorEq, Value.oneCell', Int.reduceAdd, Int.reduceSub, Int.reduceMod, Int.reduceMul, Int.reduceNeg, Int.reduceBEq, Int.reduceBNe, Int.reduceTDiv, Int.reduceTMod, Int.reduceEq, tyB, Try.underlying13, Try.underlying25, Try.underlying26, Try.underlying39, Try.underlying40, Try.underlying72, Try.underlying73, belowG, reduceG, addG, hw, ha, hb, tc, oc, fold_p, d, e, toN_one, toN_zero]
    · have d : decide (full ≤ a + b) = false := decide_eq_false ho
      have e : ((a + b) % full + 0 * full) = a + b := by rw [Nat.mod_eq_of_lt (by omega)]; omega
      simp -implicitDefEqProofs (maxSteps := 10000000) only [vy_succ, vmB, slim, slimOp, gO, gSO, qSO, quietOp, cS, qSB, eK, calmOp, guardS, gK, qK, putK, plK, dOk, St.ev, St.get, St.mem, St.set, St.setm, St.put, lookA, look, newK, nextver, initT, seqE, blockQ, bodyQ, resK, retV, AV.rdv, agg_uV, ↓binK, ↓intK, unK, ↓loadK, ↓withKey_eq, ↓idxAddrK, ↓indexK, ↓partK, ↓fieldK, ↓fieldAddrK, ↓convK, ↓callK, wrG, updK, ↓lenK, ↓mmK, ↓appK, ↓copyK, ↓sliceK, ↓toArrK, nilK, evs, plains, seqParts, capsOf, capsD, AV.dv, AV.cont, ↓buildV_eq, fillL, placesOf, ↓storeK, wrL, RV.av, DV.av, List.set, Nat.reduceEqDiff, Nat.reduceAdd, Nat.reduceSub, Nat.reduceMul, Nat.reduceLT, Nat.reduceLeDiff, Nat.reduceMod, Nat.reduceDiv, Int.reduceLT, Int.reduceLE, Int.reduceToNat, ↓reduceIte, reduceCtorEq, Value.oneCell', Int.reduceAdd, Int.reduceSub, Int.reduceMod, Int.reduceMul, Int.reduceNeg, Int.reduceBEq, Int.reduceBNe, Int.reduceTDiv, Int.reduceTMod, Int.reduceEq, tyB, Try.underlying13, Try.underlying25, Try.underlying26, Try.underlying39, Try.underlying40, Try.underlying72, Try.underlying73, belowG, reduceG, addG, hw, ha, hb, tc, oc, fold_p, d, e, toN_one, toN_zero]

noncomputable def fsubG : List DV → Option RV
  | [.pl va, .pl vb, .pl (.int .i64 w)] => match toN va, toN vb with
    | some a, some b => some (if isW w = true then .tup [.pl (uV ((a % pN w + (pN w - b % pN w)) % pN w)), .pl (.int .i64 0)] else .tup [.pl (uV 0), .pl (.int .i64 1)])
    | _, _ => none
  | _ => none
theorem fsub_ok : ∀ ds r, fsubG ds = some r → Spec Try.prog 77 ds r := by
  intro ds r h
  unfold fsubG at h
  split at h
  case h_2 => cases h
  rename_i va vb w
  split at h
  case h_2 => cases h
  rename_i a b ha hb
  cases h
  obtain ⟨rfl, ha'⟩ := toN_eq ha
  obtain ⟨rfl, hb'⟩ := toN_eq hb
  have hΓ : Env.ok [(50, belowG), (52, subG), (51, reduceG)] Try.prog := ok_cons below_ok (ok_cons sub_ok (ok_cons reduce_ok (ok_nil _)))
  have tc := toN_c w
  have oc := cOk_c w
  have tA := toN_mod a w
  have tB := toN_mod b w
  have z : ∀ x : Nat, (x + 0 * full) = x := fun x => by omega
  have hA : a % pN w < pN w := Nat.mod_lt _ (pN_pos w)
  have hB : b % pN w < pN w := Nat.mod_lt _ (pN_pos w)
  have hp := pN_lt w
  have hpe := pN_eq w
  have hcs := cOf_small w
  refine Spec.of_vx hΓ follows_mixed Try.func77 rfl (by kernel_rfl) (T := []) (by simp [Try.ntmps77]) (by kernel_rfl) rfl Try.ntmps77 (res := [.cell 6 24, .tmp 7]) rfl ?_
  intro W
  cases hw : isW w
  · simp -implicitDefEqProofs (maxSteps := 10000000) only [vy_succ, vmB, slim, slimOp, gO, gSO, qSO, quietOp, cS, qSB, eK, calmOp, guardS, gK, qK, putK, plK, dOk, St.ev, St.get, St.mem, St.set, St.setm, St.put, lookA, look, newK, nextver, initT, seqE, blockQ, bodyQ, resK, retV, AV.rdv, agg_uV, ↓binK, ↓intK, unK, ↓loadK, ↓withKey_eq, ↓idxAddrK, ↓indexK, ↓partK, ↓fieldK, ↓fieldAddrK, ↓convK, ↓callK, wrG, updK, ↓lenK, ↓mmK, ↓appK, ↓copyK, ↓sliceK, ↓toArrK, nilK, evs, plains, seqParts, capsOf, capsD, AV.dv, AV.cont, ↓buildV_eq, fillL, placesOf, ↓storeK, wrL, RV.av, DV.av, List.set, Nat.reduceEqDiff, Nat.reduceAdd, Nat.reduceSub, Nat.reduceMul, Nat.reduceLT, Nat.reduceLeDiff, Nat.reduceMod, Nat.reduceDiv, Int.reduceLT, Int.reduceLE, Int.reduceToNat, ↓reduceIte, reduceCtorEq, Value.oneCell', Int.reduceAdd, Int.reduceSub, Int.reduceMod, Int.reduceMul, Int.reduceNeg, Int.reduceBEq, Int.reduceBNe, Int.reduceTDiv, Int.reduceTMod, Int.reduceEq, tyB, Try.underlying13, Try.underlying25, Try.underlying26, Try.underlying39, Try.underlying40, Try.underlying72, Try.underlying73, belowG, reduceG, subG, hw, uV_0]
  · by_cases ho : a % pN w < b % pN w
    · have d : decide (a % pN w < b % pN w) = true := decide_eq_true ho
      have e : uV ((a % pN w + full - b % pN w) % full + full - cOf w) = uV ((a % pN w + (pN w - b % pN w)) % pN w) := by
        apply uV_inj
        rw [Nat.mod_eq_of_lt (show a % pN w + full - b % pN w < full by omega), Nat.mod_eq_of_lt (show a % pN w + (pN w - b % pN w) < pN w by omega)]
        rw [show a % pN w + full - b % pN w + full - cOf w = (a % pN w + (pN w - b % pN w)) + full by omega, Nat.add_mod_right]
      simp -implicitDefEqProofs (maxSteps := 10000000) only [vy_succ, vmB, slim, slimOp, gO, gSO, qSO, quietOp, cS, qSB, eK, calmOp, guardS, gK, qK, putK, plK, dOk, St.ev, St.get, St.mem, St.set, St.setm, St.put, lookA, look, newK, nextver, initT, seqE, blockQ, bodyQ, resK, retV, AV.rdv, agg_uV, ↓binK, ↓intK, unK, ↓loadK, ↓withKey_eq, ↓idxAddrK, ↓indexK, ↓partK, ↓fieldK, ↓fieldAddrK, ↓convK, ↓callK, wrG, updK, ↓lenK, ↓mmK, ↓appK, ↓copyK, ↓sliceK, ↓toArrK, nilK, evs, plains, seqParts, capsOf, capsD, AV.dv, AV.cont, ↓buildV_eq, fillL, placesOf, ↓storeK, wrL, RV.av, DV.av, List.set, Nat.reduceEqDiff, Nat.reduceAdd, Nat.reduceSub, Nat.reduceMul, Nat.reduceLT, Nat.reduceLeDiff, Nat.reduceMod, Nat.reduceDiv, Int.reduceLT, Int.reduceLE, Int.reduceToNat, ↓reduceIte, reduceCtorEq, Value.oneCell', Int.reduceAdd, Int.reduceSub, Int.reduceMod, Int.reduceMul, Int.reduceNeg, Int.reduceBEq, Int.reduceBNe, Int.reduceTDiv, Int.reduceTMod, Int.reduceEq, tyB, Try.underlying13, Try.underlying25, Try.underlying26, Try.underlying39, Try.underlying40, Try.underlying72, Try.underlying73, belowG, reduceG, subG, hw, ha, hb, tc, oc, fold_p, z, tA, tB, d, e, toN_zero]
    · have d : decide (a % pN w < b % pN w) = false := decide_eq_false ho
      have e : uV (a % pN w + full - b % pN w) = uV ((a % pN w + (pN w - b % pN w)) % pN w) := by
        apply uV_inj
        rw [Nat.mod_eq_sub_mod (show pN w ≤ a % pN w + (pN w - b % pN w) by omega), Nat.mod_eq_of_lt (show a % pN w + (pN w - b % pN w) - pN w < pN w by omega)]
        rw [show a % pN w + full - b % pN w = (a % pN w + (pN w - b % pN w) - pN w) + full by omega, Nat.add_mod_right]
      simp -implicitDefEqProofs (maxSteps := 10000000) only [vy_succ, vmB, slim, slimOp, gO, gSO, qSO, quietOp, cS, qSB, eK, calmOp, guardS, gK, qK, putK, plK, dOk, St.ev, St.get, St.mem, St.set, St.setm, St.put, lookA, look, newK, nextver, initT, seqE, blockQ, bodyQ, resK, retV, AV.rdv, agg_uV, ↓binK, ↓intK, unK, ↓loadK, ↓withKey_eq, ↓idxAddrK, ↓indexK, ↓partK, ↓fieldK, ↓fieldAddrK, ↓convK, ↓callK, wrG, updK, ↓lenK, ↓mmK, ↓appK, ↓copyK, ↓sliceK, ↓toArrK, nilK, evs, plains, seqParts, capsOf, capsD, AV.dv, AV.cont, ↓buildV_eq, fillL, placesOf, ↓storeK, wrL, RV.av, DV.av, List.set, Nat.reduceEqDiff, Nat.reduceAdd, Nat.reduceSub, Nat.reduceMul, Nat.reduceLT, Nat.reduceLeDiff, Nat.reduceMod, Nat.reduceDiv, Int.reduceLT, Int.reduceLE, Int.reduceToNat, ↓reduceIte, reduceCtorEq, Value.oneCell', Int.reduceAdd, Int.reduceSub, Int.reduceMod, Int.reduceMul, Int.reduceNeg, Int.reduceBEq, Int.reduceBNe, Int.reduceTDiv, Int.reduceTMod, Int.reduceEq, tyB, Try.underlying13, Try.underlying25, Try.underlying26, Try.underlying39, Try.underlying40, Try.underlying72, Try.underlying73, belowG, reduceG, subG, hw, ha, hb, tc, oc, fold_p, z, tA, tB, d, e, toN_zero]

noncomputable def mulcG : List DV → Option RV
  | [.pl va, .pl vb, .pl vc] => match toN va, toN vb, toN vc with
    | some a, some b, some c => if cOk c = true then some (.one (.pl (uV (a * b % (full - c))))) else none
    | _, _, _ => none
  | _ => none
theorem mulc_ok : ∀ ds r, mulcG ds = some r → Spec Try.prog 80 ds r := by
  intro ds r h
  unfold mulcG at h
  split at h
  case h_2 => cases h
  rename_i va vb vc
  split at h
  case h_2 => cases h
  rename_i a b c ha hb hc
  split at h
  case isFalse => cases h
  rename_i oc
  cases h
  obtain ⟨rfl, ha'⟩ := toN_eq ha
  obtain ⟨rfl, hb'⟩ := toN_eq hb
  obtain ⟨rfl, hc'⟩ := toN_eq hc
  have hΓ : Env.ok [(82, mulG), (51, reduceG)] Try.prog := ok_cons mul_ok (ok_cons reduce_ok (ok_nil _))
  have e := split_full (a * b) (mul_lt_full ha' hb')
  refine Spec.of_vx hΓ follows_mixed Try.func80 rfl (by kernel_rfl) (T := []) (by simp [Try.ntmps80]) (by kernel_rfl) rfl Try.ntmps80 (res := [.cell 6 24]) rfl ?_
  intro W
  simp -implicitDefEqProofs (maxSteps := 10000000) only [vy_succ, vmB, slim, slimOp, gO, gSO, qSO, quietOp, cS, qSB, eK, calmOp, guardS, gK, qK, putK, plK, dOk, St.ev, St.get, St.mem, St.set, St.setm, St.put, lookA, look, newK, nextver, initT, seqE, blockQ, bodyQ, resK, retV, AV.rdv, agg_uV, ↓binK, ↓intK, unK, ↓loadK, ↓withKey_eq, ↓idxAddrK, ↓indexK, ↓partK, ↓fieldK, ↓fieldAddrK, ↓convK, ↓callK, wrG, updK, ↓lenK, ↓mmK, ↓appK, ↓copyK, ↓sliceK, ↓toArrK, nilK, evs, plains, seqParts, capsOf, capsD, AV.dv, AV.cont, ↓buildV_eq, fillL, placesOf, ↓storeK, wrL, RV.av, DV.av, List.set, Nat.reduceEqDiff, Nat.reduceAdd, Nat.reduceSub, Nat.reduceMul, Nat.reduceLT, Nat.reduceLeDiff, Nat.reduceMod, Nat.reduceDiv, Int.reduceLT, Int.reduceLE, Int.reduceToNat, ↓reduceIte, reduceCtorEq, Value.oneCell', Int.reduceAdd, Int.reduceSub, Int.reduceMod, Int.reduceMul, Int.reduceNeg, Int.reduceBEq, Int.reduceBNe, Int.reduceTDiv, Int.reduceTMod, Int.reduceEq, tyB, Try.underlying13, Try.underlying25, Try.underlying26, Try.underlying39, Try.underlying40, Try.underlying72, Try.underlying73, reduceG, mulG, ha, hb, hc, oc, e]

noncomputable def fmulG : List DV → Option RV
  | [.pl va, .pl vb, .pl (.int .i64 w)] => match toN va, toN vb with
    | some a, some b => some (if isW w = true then .tup [.pl (uV (a * b % pN w)), .pl (.int .i64 0)] else .tup [.pl (uV 0), .pl (.int .i64 1)])
    | _, _ => none
  | _ => none
theorem fmul_ok : ∀ ds r, fmulG ds = some r → Spec Try.prog 76 ds r := by
  intro ds r h
  unfold fmulG at h
  split at h
  case h_2 => cases h
  rename_i va vb w
  split at h
  case h_2 => cases h
  rename_i a b ha hb
  cases h
  obtain ⟨rfl, ha'⟩ := toN_eq ha
  obtain ⟨rfl, hb'⟩ := toN_eq hb
  have hΓ : Env.ok [(50, belowG), (80, mulcG)] Try.prog := ok_cons below_ok (ok_cons mulc_ok (ok_nil _))
  have tc := toN_c w
  have oc := cOk_c w
  refine Spec.of_vx hΓ follows_mixed Try.func76 rfl (by kernel_rfl) (T := []) (by simp [Try.ntmps76]) (by kernel_rfl) rfl Try.ntmps76 (res := [.cell 6 24, .tmp 7]) rfl ?_
  intro W
  cases hw : isW w
  · simp -implicitDefEqProofs (maxSteps := 10000000) only [vy_succ, vmB, slim, slimOp, gO, gSO, qSO, quietOp, cS, qSB, eK, calmOp, guardS, gK, qK, putK, plK, dOk, St.ev, St.get, St.mem, St.set, St.setm, St.put, lookA, look, newK, nextver, initT, seqE, blockQ, bodyQ, resK, retV, AV.rdv, agg_uV, ↓binK, ↓intK, unK, ↓loadK, ↓withKey_eq, ↓idxAddrK, ↓indexK, ↓partK, ↓fieldK, ↓fieldAddrK, ↓convK, ↓callK, wrG, updK, ↓lenK, ↓mmK, ↓appK, ↓copyK, ↓sliceK, ↓toArrK, nilK, evs, plains, seqParts, capsOf, capsD, AV.dv, AV.cont, ↓buildV_eq, fillL, placesOf, ↓storeK, wrL, RV.av, DV.av, List.set, Nat.reduceEqDiff, Nat.reduceAdd, Nat.reduceSub, Nat.reduceMul, Nat.reduceLT, Nat.reduceLeDiff, Nat.reduceMod, Nat.reduceDiv, Int.reduceLT, Int.reduceLE, Int.reduceToNat, ↓reduceIte, reduceCtorEq, Value.oneCell', Int.reduceAdd, Int.reduceSub, Int.reduceMod, Int.reduceMul, Int.reduceNeg, Int.reduceBEq, Int.reduceBNe, Int.reduceTDiv, Int.reduceTMod, Int.reduceEq, tyB, Try.underlying13, Try.underlying25, Try.underlying26, Try.underlying39, Try.underlying40, Try.underlying72, Try.underlying73, belowG, mulcG, hw, uV_0]
  · simp -implicitDefEqProofs (maxSteps := 10000000) only [vy_succ, vmB, slim, slimOp, gO, gSO, qSO, quietOp, cS, qSB, eK, calmOp, guardS, gK, qK, putK, plK, dOk, St.ev, St.get, St.mem, St.set, St.setm, St.put, lookA, look, newK, nextver, initT, seqE, blockQ, bodyQ, resK, retV, AV.rdv, agg_uV, ↓binK, ↓intK, unK, ↓loadK, ↓withKey_eq, ↓idxAddrK, ↓indexK, ↓partK, ↓fieldK, ↓fieldAddrK, ↓convK, ↓callK, wrG, updK, ↓lenK, ↓mmK, ↓appK, ↓copyK, ↓sliceK, ↓toArrK, nilK, evs, plains, seqParts, capsOf, capsD, AV.dv, AV.cont, ↓buildV_eq, fillL, placesOf, ↓storeK, wrL, RV.av, DV.av, List.set, Nat.reduceEqDiff, Nat.reduceAdd, Nat.reduceSub, Nat.reduceMul, Nat.reduceLT, Nat.reduceLeDiff, Nat.reduceMod, Nat.reduceDiv, Int.reduceLT, Int.reduceLE, Int.reduceToNat, ↓reduceIte, reduceCtorEq, Value.oneCell', Int.reduceAdd, Int.reduceSub, Int.reduceMod, Int.reduceMul, Int.reduceNeg, Int.reduceBEq, Int.reduceBNe, Int.reduceTDiv, Int.reduceTMod, Int.reduceEq, tyB, Try.underlying13, Try.underlying25, Try.underlying26, Try.underlying39, Try.underlying40, Try.underlying72, Try.underlying73, belowG, mulcG, hw, ha, hb, tc, oc, fold_p]
end Go.Vm

/- Contract: the function that multiplies within power. No condition. -/
set_option maxRecDepth 100000
set_option linter.unusedSimpArgs false
set_option linter.unusedVariables false
namespace Go.Vm
open Go Go.RowKit Go.Proofs

theorem gops_then {P : Program} {Γ : Env} (hΓ : Γ.ok P) {n : Nat} {ops : Array Oper} {w0 : World} {K : St → Prop} {Q : Exit → Act → World → Prop} {rest : List Nat} (hQ : ∀ ρ st a w, K st → Rel n w0 ρ st.get st.mem a w → wpOps P ops Q rest a w) :
    ∀ (l : List Oper) (k : Nat) (st : St) (ρ : Nat → Option Nat) (a : Act) (w : World), (∀ j o, l[j]? = some o → ops[k + j]? = some o ∧ o.guard = none) → gL P Γ n (ops.toList.map (·.dst)) l K st → Rel n w0 ρ st.get st.mem a w → wpOps P ops Q (List.range' k l.length ++ rest) a w
  | [], _, st, ρ, a, w, _, h, hr => hQ ρ st a w h hr
  | o :: l, k, st, ρ, a, w, hl, h, hr => by
    obtain ⟨h0, hg⟩ := hl 0 o rfl
    have h0' : ops[k]? = some o := by simpa using h0
    have hl' : ∀ j o, l[j]? = some o → ops[k + 1 + j]? = some o ∧ o.guard = none := fun j o ho => by have := hl (j + 1) o (by simpa using ho); simpa [Nat.add_assoc, Nat.add_comm 1 j] using this
    rw [List.length_cons, List.range'_succ, List.cons_append, wpOps_cons]
    unfold wpOp
    simp only [h0']
    unfold gL at h
    rw [hg] at h
    have : Region.wanted o (yielded ops a.tmps) = true := by simp [Region.wanted, hg]
    rw [if_pos this]
    exact .inl (upon_of_does (gK_sound hΓ h hr) fun v w' ⟨ρ', st', hK, hr'⟩ => gops_then hΓ hQ l (k + 1) st' ρ' _ _ hl' hK hr')

theorem store_last {P : Program} {Γ : Env} (hΓ : Γ.ok P) {n : Nat} {id0 id1 : Nat} {ops0 ops1 : Array Oper} {o : Oper} {k : Nat} (hs : ops1.size = k + 1) (ho : ops1[k]? = some o) (hog : o.guard = none) (hod : o.dst = none)
    (hgs : ((ops1.toList.take k).all fun x => x.guard.isNone) = true) {K2 : St → Prop} {st0 : St} {w0 w : World} {ρ : Nat → Option Nat} {a : Act} {Q : Exit → Act → World → Prop}
    (h0 : gL P Γ n (ops0.toList.map (·.dst)) ops0.toList (fun st => gL P Γ n (ops1.toList.map (·.dst)) (ops1.toList.take k) K2 st) st0) (hr : Rel n w0 ρ st0.get st0.mem a w)
    (hfin : ∀ ρ st a w, K2 st → Rel n w0 ρ st.get st.mem a w → ∃ w', (execOp a.eval o).run P w = .ok .skip w' ∧ Q .normal a w') : ((Code.region id0 ops0 false).seq (Code.region id1 ops1 false)).wp P Q a w := by
  refine wp_seq (region_seq hΓ (K := fun st => gL P Γ n (ops1.toList.map (·.dst)) (ops1.toList.take k) K2 st) (fun ρ' st' a' w' hK hr' => ?_) h0 hr)
  show (Code.region id1 ops1 false).wp P Q a' w'
  refine wp_region ?_
  have hl : (ops1.toList.take k).length = k := by simp; omega
  have hrange : List.range ops1.size = List.range' 0 (ops1.toList.take k).length ++ [k] := by
    rw [hl, hs, List.range_succ, List.range_eq_range']
  rw [hrange]
  refine gops_then hΓ (K := K2) (fun ρ'' st'' a'' w'' hK2 hr'' => ?_) _ 0 st' ρ' a' w' (fun j x hx => ?_) hK hr'
  · rw [wpOps_cons]
    unfold wpOp
    simp only [ho]
    have : Region.wanted o (yielded ops1 a''.tmps) = true := by simp [Region.wanted, hog]
    rw [if_pos this]
    obtain ⟨w3, hrun, hq⟩ := hfin ρ'' st'' a'' w'' hK2 hr''
    refine .inl ?_
    unfold Oper.wp
    rw [hrun]
    show wpOps P ops1 Q [] (a''.put o.dst undef) w3
    rw [hod]
    exact hq
  · have hx' := hx
    rw [List.getElem?_take] at hx
    split at hx
    · refine ⟨by simpa using hx, ?_⟩
      have := List.all_eq_true.1 hgs x (List.mem_of_getElem? hx')
      simpa using this
    · cases hx

noncomputable def uL (x : Nat) : List Value := [.int .u64 (w0 x : Nat), .int .u64 (w1 x : Nat), .int .u64 (w2 x : Nat), .int .u64 (w3 x : Nat)]
noncomputable def toL (l : List Value) : Option Nat := toN (.agg l.toArray)
theorem toL_eq {l : List Value} {x : Nat} (h : toL l = some x) : l = uL x ∧ x < full := by
  obtain ⟨h1, h2⟩ := toN_eq h
  refine ⟨?_, h2⟩
  have : Value.agg l.toArray = Value.agg (uL x).toArray := h1
  simp only [Value.agg.injEq] at this
  simpa using congrArg Array.toList this
theorem toL_uL {x : Nat} (h : x < full) : toL (uL x) = some x := toN_lt h

noncomputable def byG : List DV → Option RV
  | [.pl vx, .blk oc, .blk cc] => match toN vx, toL oc, toL cc with
    | some x, some o, some c => if cOk c = true then some (.upd 1 (uL (o * x % (full - c)))) else none
    | _, _, _ => none
  | _ => none

set_option maxHeartbeats 4000000 in
theorem by_walk (x o c : Nat) (hx : x < full) (ho : o < full) (hc : c < full) (ok : cOk c = true) : SpecW Try.prog 85 [.pl (uV x), .blk (uL o), .blk (uL c)] 1 (uL (o * x % (full - c))) := by
  have hΓ : Env.ok [(80, mulcG)] Try.prog := ok_cons mulc_ok (ok_nil _)
  intro w vs hv b cs e fz hidx hcs hfz
  match vs, hv with
  | [v0, v1, v2], hv =>
  obtain ⟨rfl, h1, h2, _⟩ := hv
  have hv1 : v1 = .pointer (some ⟨b, 0, none⟩) := by simpa using hidx
  obtain ⟨b', c', e', fz', rest, hb', hc', hr', _⟩ := id h1
  have hbb : b' = b := by rw [hv1] at hb'; simp at hb'; exact hb'.symm
  subst hbb
  rw [hcs] at hc'; cases hc'
  have hrun : (callFunc 85 [uV x, v1, v2].toArray).run Try.prog w = .ok (.enter 85 [uV x, v1, v2].toArray) w := by
    simp [callFunc, Try.func85, Try.f85]
  rw [hrun]
  show Calls _ _ _ _ _
  refine calls_of_wp Try.func85 rfl ?_
  obtain ⟨b2, c2, e2, fz2, rest2, hb2, hc2, hr2, _⟩ := h2
  have hr0 : Rel 8 w (fun _ => none) (St.get ⟨[(0, .pl (uV x)), (1, .pblk b' (uL o)), (2, .pblk b2 (uL c))], []⟩) (St.mem ⟨[(0, .pl (uV x)), (1, .pblk b' (uL o)), (2, .pblk b2 (uL c))], []⟩) { tmps := [uV x, v1, v2].toArray ++ Array.replicate (8 - [uV x, v1, v2].toArray.size) undef, defers := [] } w := by
    refine ⟨rfl, by simp, Below.refl _ _, ⟨Nat.le_refl _, fun k blk hk => (by cases hk), fun _ _ => rfl, fun _ _ _ h => (by cases h)⟩, fun j => ?_⟩
    simp only [St.get, lookA]
    split
    · rename_i e0; subst e0; exact (rfl : _ = _)
    · split
      · rename_i e0; subst e0; exact ⟨hv1, cs, e, fz, rest, hcs, hr', fun k e => (by cases e)⟩
      · split
        · rename_i e0; subst e0; exact ⟨hb2, c2, e2, fz2, rest2, hc2, hr2, fun k e => (by cases e)⟩
        · trivial
  rw [Try.ntmps85]
  have tx : toN (uV x) = some x := toN_lt hx
  have to' : toN (uV o) = some o := toN_lt ho
  have tc : toN (uV c) = some c := toN_lt hc
  refine store_last hΓ (n := 8) (k := 4) rfl rfl rfl rfl rfl (K2 := fun st => St.get st 7 = AV.pl (uV (o * x % (full - c))) ∧ St.get st 1 = AV.pblk b' (uL o)) ?_ hr0 ?_
  · simp only [← gR_eq, ← gx_eq]
    simp -implicitDefEqProofs (maxSteps := 10000000) only [vy_succ, vmB, slim, slimOp, gO, gSO, qSO, quietOp, cS, qSB, eK, calmOp, guardS, gK, qK, putK, plK, dOk, St.ev, St.get, St.mem, St.set, St.setm, St.put, lookA, look, newK, nextver, initT, seqE, blockQ, bodyQ, resK, retV, AV.rdv, agg_uV, ↓binK, ↓intK, unK, ↓loadK, ↓withKey_eq, ↓idxAddrK, ↓indexK, ↓partK, ↓fieldK, ↓fieldAddrK, ↓convK, ↓callK, wrG, updK, ↓lenK, ↓mmK, ↓appK, ↓copyK, ↓sliceK, ↓toArrK, nilK, evs, plains, seqParts, capsOf, capsD, AV.dv, AV.cont, ↓buildV_eq, fillL, placesOf, ↓storeK, wrL, RV.av, DV.av, List.set, Nat.reduceEqDiff, Nat.reduceAdd, Nat.reduceSub, Nat.reduceMul, Nat.reduceLT, Nat.reduceLeDiff, Nat.reduceMod, Nat.reduceDiv, Int.reduceLT, Int.reduceLE, Int.reduceToNat, ↓reduceIte, reduceCtorEq, Value.oneCell', Int.reduceAdd, Int.reduceSub, Int.reduceMod, Int.reduceMul, Int.reduceNeg, Int.reduceBEq, Int.reduceBNe, Int.reduceTDiv, Int.reduceTMod, Int.reduceEq, tyB, Try.underlying13, Try.underlying25, Try.underlying26, Try.underlying39, Try.underlying40, Try.underlying72, Try.underlying73, mulcG, uL, tx, to', tc, ok]
  · rintro ρ' st' a' w' ⟨hk7, hk1⟩ hr
    have g7 := hr.eval (.tmp 7)
    have g1 := hr.eval (.tmp 1)
    rw [show evT st'.get (.tmp 7) = St.get st' 7 from rfl, hk7] at g7
    rw [show evT st'.get (.tmp 1) = St.get st' 1 from rfl, hk1] at g1
    obtain ⟨g1, cs1, e1, fz1, rest1, hh1, hhr1, _⟩ := g1
    have g7' : a'.eval (.tmp 7) = uV (o * x % (full - c)) := g7
    have hblt : b' < w.heap.size := (Array.getElem?_eq_some_iff.1 hcs).1
    have hsame : w'.heap[b']? = w.heap[b']? := hr.below.block b' hblt
    rw [hsame, hcs] at hh1
    cases hh1
    rw [hcs] at hsame
    have hsz : 4 ≤ cs.size := by have := congrArg List.length hr'; simp [uL] at this; omega
    obtain ⟨w3, c3, hrun3, hset, hc3⟩ := run_storeCells (P := Try.prog) 0 (uL (o * x % (full - c))) 0 cs w' hsame hfz (by simpa [uL] using hsz) (fun v hv => by simp only [uL, List.mem_cons, List.not_mem_nil, or_false] at hv; rcases hv with rfl | rfl | rfl | rfl <;> rfl)
    refine ⟨w3, ?_, ?_⟩
    · have hst : (Instr.storeAt 24 (a'.eval (.tmp 1)) (a'.eval (.tmp 7))).run Try.prog w' = .ok () w3 := by
        simp only [Instr.storeAt, g1, Instr.sureAddr, g7', storeVar, Sem.run_bind, Sem.run_pure, Result.andThen_ok, run_sizeOf s_24]
        rw [if_neg (by simp [uV, Value.cells])]
        exact hrun3
      simp [execOp, hst]
    · refine ⟨hr.defers, .tuple #[], ?_, _, rfl, rfl, ?_⟩
      · rw [results_eq]
        simp [Try.f85]
      · refine ⟨hset.os.trans hr.below.os, hset.tape.trans hr.below.tape, hset.output.trans hr.below.output, by rw [hset.size]; exact hr.below.size, fun k hk hkb => (hset.other k hkb).trans (hr.below.block k hk), ?_⟩
        intro c4 e4 fz4 cells4 rest4 h4 h5 h6
        rw [hcs] at h4
        cases h4
        refine ⟨c3, hset.here, ?_⟩
        rw [hc3, h5, Nat.add_zero]
        have h6' : cells4.length = 4 := by rw [h6]; rfl
        match cells4, h6' with
        | [x0, x1, x2, x3], _ => rfl

theorem by_ok : ∀ ds r, byG ds = some r → SpecR Try.prog 85 ds r := by
  intro ds r h
  unfold byG at h
  split at h
  case h_2 => cases h
  rename_i vx oc cc
  split at h
  case h_2 => cases h
  rename_i x o c hx ho hc
  split at h
  case isFalse => cases h
  rename_i ok
  cases h
  obtain ⟨rfl, hx'⟩ := toN_eq hx
  obtain ⟨rfl, ho'⟩ := toL_eq ho
  obtain ⟨rfl, hc'⟩ := toL_eq hc
  exact by_walk x o c hx' ho' hc' ok
end Go.Vm

/- alive of the field's laws; the law FieldFolds, as the machine walks it. No condition. -/
set_option maxRecDepth 100000
set_option linter.unusedSimpArgs false
set_option linter.unusedVariables false
namespace Go.Vm
open Go Go.RowKit Go.Proofs

theorem and1_i64 (w : Int) : bits .and .i64 w 1 = 0 ∨ bits .and .i64 w 1 = 1 := by
  have h : bits .and .i64 w 1 = IntKind.i64.wrap ((BitVec.ofInt 64 w &&& BitVec.ofInt 64 1).toNat : Int) := rfl
  rw [h, BitVec.toNat_and]
  have e : (BitVec.ofInt 64 1).toNat = 1 := rfl
  rw [e, Nat.and_one_is_mod]
  rcases Nat.mod_two_eq_zero_or_one (BitVec.ofInt 64 w).toNat with h | h <;> rw [h]
  · left; rfl
  · right; rfl

theorem uV_2 : Value.agg #[.int .u64 2, .int .u64 0, .int .u64 0, .int .u64 0] = uV 2 := uV_lit 2 (by omega)
theorem uV_4 : Value.agg #[.int .u64 4, .int .u64 0, .int .u64 0, .int .u64 0] = uV 4 := uV_lit 4 (by omega)
theorem pN_huge (w : Int) : 18446744073709551616 < pN w := by have := pN_big w; rw [full_eq] at this; omega


end Go.Vm

/- Contracts: power, Pow; the law FieldPowers, as the machine walks it. No condition. -/
set_option maxRecDepth 100000
set_option linter.unusedSimpArgs false
set_option linter.unusedVariables false
namespace Go.Vm
open Go Go.RowKit Go.Proofs

/-- a power, modulo something -/
noncomputable def pwN (a n p : Nat) : Nat := Classical.choose (⟨a ^ n % p, rfl⟩ : ∃ x : Nat, x = a ^ n % p)
theorem pwN_eq (a n p : Nat) : pwN a n p = a ^ n % p := Classical.choose_spec (⟨a ^ n % p, rfl⟩ : ∃ x : Nat, x = a ^ n % p)
theorem pwN_lt (a n : Nat) {p : Nat} (h : 0 < p) : pwN a n p < p := by rw [pwN_eq]; exact Nat.mod_lt _ h
theorem pwN_0 (a : Nat) {p : Nat} (h : 1 < p) : pwN a 0 p = 1 := by rw [pwN_eq, Nat.pow_zero, Nat.mod_eq_of_lt h]
theorem pwN_1 (a p : Nat) : pwN a 1 p = a % p := by rw [pwN_eq, Nat.pow_one]
theorem pwN_add (a n m p : Nat) : pwN a n p * pwN a m p % p = pwN a (n + m) p := by rw [pwN_eq, pwN_eq, pwN_eq, ← Nat.mul_mod, Nat.pow_add]
theorem pwN_one (a n p : Nat) : pwN a n p * a % p = pwN a (n + 1) p := by rw [pwN_eq, pwN_eq, Nat.mod_mul_mod, Nat.pow_succ]
noncomputable def shN (n t : Nat) : Nat := Classical.choose (⟨n / 2 ^ t, rfl⟩ : ∃ x : Nat, x = n / 2 ^ t)
theorem shN_eq (n t : Nat) : shN n t = n / 2 ^ t := Classical.choose_spec (⟨n / 2 ^ t, rfl⟩ : ∃ x : Nat, x = n / 2 ^ t)
theorem shN_0 (n : Nat) : shN n 0 = n := by rw [shN_eq, Nat.pow_zero, Nat.div_one]
theorem shN_top (n : Nat) : shN n (blen n) = 0 := by rw [shN_eq]; exact Nat.div_eq_of_lt (lt_blen n)
theorem shN_step (n j : Nat) : shN n j = shN n (j + 1) + shN n (j + 1) + (n.testBit j).toNat := by
  rw [shN_eq, shN_eq, Nat.testBit_eq_decide_div_mod_eq, Nat.pow_succ, ← Nat.div_div_eq_div_mul]
  generalize n / 2 ^ j = y
  rcases Nat.mod_two_eq_zero_or_one y with h | h <;> simp [h] <;> omega

noncomputable def powerG : List DV → Option RV
  | [.pl va, .pl vn, .pl vc] => match toN va, toN vn, toN vc with
    | some a, some n, some c => if cOk c = true then some (.one (.pl (uV (pwN a n (full - c))))) else none
    | _, _, _ => none
  | _ => none

noncomputable def poS (a n c t : Nat) : St := ⟨[(9, .pl (.int .i64 ((t : Int) - 1))), (8, .clo 85 [(7, 0), (5, 0)]), (7, .ptr 7 0 0), (3, .ptr 3 0 0), (4, .ptr 4 0 0), (6, .ptr 6 0 0)],
  [(7, uC (pwN a (shN n t) (full - c))), (3, uC a), (4, uC n), (5, uC c), (6, ⟨0, 24, [.int .u64 0, .int .u64 0, .int .u64 0, .int .u64 0]⟩)]⟩

set_option maxHeartbeats 8000000 in
theorem power_walk (a n c : Nat) (ha : a < full) (hn : n < full) (hc : c < full) (ok : cOk c = true) : Spec Try.prog 54 [.pl (uV a), .pl (uV n), .pl (uV c)] (.one (.pl (uV (pwN a n (full - c))))) := by
  have hΓ : Env.ok [(85, byG), (57, lenG), (59, bitH)] Try.prog := ok_consW by_ok (ok_cons len_ok (ok_cons bitH_ok (ok_nil _)))
  obtain ⟨hc0, hc4⟩ := cOk_out ok
  have hp : 0 < full - c := by omega
  have hp1 : 1 < full - c := by have := full_big; omega
  have ta : toN (uV a) = some a := toN_lt ha
  have tn : toN (uV n) = some n := toN_lt hn
  have lc : toL [.int .u64 (w0 c : Nat), .int .u64 (w1 c : Nat), .int .u64 (w2 c : Nat), .int .u64 (w3 c : Nat)] = some c := toL_uL hc
  have hL := blen_le_256 hn
  have hw1 : IntKind.i64.wrap ((blen n : Int) - 1) = (blen n : Int) - 1 := i64_in (by omega) (by omega)
  have htop : uC (pwN a (shN n (blen n)) (full - c)) = ⟨0, 24, [.int .u64 1, .int .u64 0, .int .u64 0, .int .u64 0]⟩ := by
    rw [shN_top, pwN_0 a hp1]
    have h1 : (uV 1).cells.toList = [.int .u64 1, .int .u64 0, .int .u64 0, .int .u64 0] := by
      rw [← show Value.agg #[.int .u64 1, .int .u64 0, .int .u64 0, .int .u64 0] = uV 1 from uV_lit 1 (by omega)]; rfl
    have h2 : uC 1 = ⟨0, 24, (uV 1).cells.toList⟩ := rfl
    rw [h2, h1]
  refine Spec.of_vx hΓ follows_mixed Try.func54 rfl (by kernel_rfl) (T := []) (by simp [Try.ntmps54]) (by kernel_rfl) rfl Try.ntmps54 (res := [.cell 6 24]) rfl ?_
  intro W
  simp -implicitDefEqProofs (maxSteps := 10000000) only [vy_succ, vmB, slim, slimOp, gO, gSO, qSO, quietOp, cS, qSB, eK, calmOp, guardS, gK, qK, putK, plK, dOk, St.ev, St.get, St.mem, St.set, St.setm, St.put, lookA, look, newK, nextver, initT, seqE, blockQ, bodyQ, resK, retV, AV.rdv, agg_uV, ↓binK, ↓intK, unK, ↓loadK, ↓withKey_eq, ↓idxAddrK, ↓indexK, ↓partK, ↓fieldK, ↓fieldAddrK, ↓convK, ↓callK, wrG, updK, ↓lenK, ↓mmK, ↓appK, ↓copyK, ↓sliceK, ↓toArrK, nilK, evs, plains, seqParts, capsOf, capsD, AV.dv, AV.cont, ↓buildV_eq, fillL, placesOf, ↓storeK, wrL, RV.av, DV.av, List.set, Nat.reduceEqDiff, Nat.reduceAdd, Nat.reduceSub, Nat.reduceMul, Nat.reduceLT, Nat.reduceLeDiff, Nat.reduceMod, Nat.reduceDiv, Int.reduceLT, Int.reduceLE, Int.reduceToNat, ↓reduceIte, reduceCtorEq, Value.oneCell', Int.reduceAdd, Int.reduceSub, Int.reduceMod, Int.reduceMul, Int.reduceNeg, Int.reduceBEq, Int.reduceBNe, Int.reduceTDiv, Int.reduceTMod, Int.reduceEq, tyB, Try.underlying13, Try.underlying25, Try.underlying26, Try.underlying39, Try.underlying40, Try.underlying72, Try.underlying73, lenG, tn, hw1]
  refine VT_loop hΓ follows_mixed (poS a n c) (fun t => t ≤ blen n) (fun t => t) (blen n) (Sub.of (by simp -implicitDefEqProofs only [subT, poS, look, lookA, newK, St.get, St.mem, List.map_cons, List.map_nil, List.all_cons, List.all_nil, List.length_cons, List.length_nil, List.getElem?_cons_zero, List.getElem?_cons_succ, Nat.reduceEqDiff, Nat.reduceAdd, Option.some.injEq, ↓reduceIte, true_and, and_true, reduceCtorEq, beq_self_eq_true, Bool.and_true, ne_eq, not_false_eq_true, not_true_eq_false, Nat.add_zero, Nat.zero_add, Nat.reduceSub, Nat.reduceMul, Int.cast_ofNat_Int, Int.reduceAdd, Int.reduceSub, Int.reduceMul]) (by simp -implicitDefEqProofs only [subM, poS, htop, look, lookA, newK, St.get, St.mem, List.map_cons, List.map_nil, List.all_cons, List.all_nil, List.length_cons, List.length_nil, List.getElem?_cons_zero, List.getElem?_cons_succ, Nat.reduceEqDiff, Nat.reduceAdd, Option.some.injEq, ↓reduceIte, true_and, and_true, reduceCtorEq, beq_self_eq_true, Bool.and_true, ne_eq, not_false_eq_true, not_true_eq_false, Nat.add_zero, Nat.zero_add, Nat.reduceSub, Nat.reduceMul, Int.cast_ofNat_Int, Int.reduceAdd, Int.reduceSub, Int.reduceMul]; simp -implicitDefEqProofs only [uC, vy_succ, vmB, slim, slimOp, gO, gSO, qSO, quietOp, cS, qSB, eK, calmOp, guardS, gK, qK, putK, plK, dOk, St.ev, St.get, St.mem, St.set, St.setm, St.put, lookA, look, newK, nextver, initT, seqE, blockQ, bodyQ, resK, retV, AV.rdv, agg_uV, ↓binK, ↓intK, unK, ↓loadK, ↓withKey_eq, ↓idxAddrK, ↓indexK, ↓partK, ↓fieldK, ↓fieldAddrK, ↓convK, ↓callK, wrG, updK, ↓lenK, ↓mmK, ↓appK, ↓copyK, ↓sliceK, ↓toArrK, nilK, evs, plains, seqParts, capsOf, capsD, AV.dv, AV.cont, ↓buildV_eq, fillL, placesOf, ↓storeK, wrL, RV.av, DV.av, List.set, Nat.reduceEqDiff, Nat.reduceAdd, Nat.reduceSub, Nat.reduceMul, Nat.reduceLT, Nat.reduceLeDiff, Nat.reduceMod, Nat.reduceDiv, Int.reduceLT, Int.reduceLE, Int.reduceToNat, ↓reduceIte, reduceCtorEq, Value.oneCell', Int.reduceAdd, Int.reduceSub, Int.reduceMod, Int.reduceMul, Int.reduceNeg, Int.reduceBEq, Int.reduceBNe, Int.reduceTDiv, Int.reduceTMod, Int.reduceEq]) rfl) (Nat.le_refl _) ?_
  intro t ht
  rcases t with _ | j
  · have h0 := shN_0 n
    simp -implicitDefEqProofs (maxSteps := 10000000) only [vy_succ, vmB, slim, slimOp, gO, gSO, qSO, quietOp, cS, qSB, eK, calmOp, guardS, gK, qK, putK, plK, dOk, St.ev, St.get, St.mem, St.set, St.setm, St.put, lookA, look, newK, nextver, initT, seqE, blockQ, bodyQ, resK, retV, AV.rdv, agg_uV, ↓binK, ↓intK, unK, ↓loadK, ↓withKey_eq, ↓idxAddrK, ↓indexK, ↓partK, ↓fieldK, ↓fieldAddrK, ↓convK, ↓callK, wrG, updK, ↓lenK, ↓mmK, ↓appK, ↓copyK, ↓sliceK, ↓toArrK, nilK, evs, plains, seqParts, capsOf, capsD, AV.dv, AV.cont, ↓buildV_eq, fillL, placesOf, ↓storeK, wrL, RV.av, DV.av, List.set, Nat.reduceEqDiff, Nat.reduceAdd, Nat.reduceSub, Nat.reduceMul, Nat.reduceLT, Nat.reduceLeDiff, Nat.reduceMod, Nat.reduceDiv, Int.reduceLT, Int.reduceLE, Int.reduceToNat, ↓reduceIte, reduceCtorEq, Value.oneCell', Int.reduceAdd, Int.reduceSub, Int.reduceMod, Int.reduceMul, Int.reduceNeg, Int.reduceBEq, Int.reduceBNe, Int.reduceTDiv, Int.reduceTMod, Int.reduceEq, tyB, Try.underlying13, Try.underlying25, Try.underlying26, Try.underlying39, Try.underlying40, Try.underlying72, Try.underlying73, poS, uC, h0, Int.natCast_zero]
  · have hstep := shN_step n j
    have hbit := bitN_nat n j (by omega)
    have r0 : decide (0 ≤ (j : Int)) = true := decide_eq_true (by omega)
    have r2 : IntKind.i64.wrap ((j : Int) - 1) = (j : Int) - 1 := i64_in (by omega) (by omega)
    generalize hX : pwN a (shN n (j + 1)) (full - c) = x at *
    have hxl : x < full := by rw [← hX]; have := pwN_lt a (shN n (j + 1)) hp; omega
    have tx : toN (uV x) = some x := toN_lt hxl
    have lx : toL [.int .u64 (w0 x : Nat), .int .u64 (w1 x : Nat), .int .u64 (w2 x : Nat), .int .u64 (w3 x : Nat)] = some x := toL_uL hxl
    have hxx : x * x % (full - c) = pwN a (shN n (j + 1) + shN n (j + 1)) (full - c) := by rw [← hX, pwN_add]
    have hyl : x * x % (full - c) < full := by have := Nat.mod_lt (x * x) hp; omega
    generalize hY : x * x % (full - c) = y at *
    have ly : toL [.int .u64 (w0 y : Nat), .int .u64 (w1 y : Nat), .int .u64 (w2 y : Nat), .int .u64 (w3 y : Nat)] = some y := toL_uL hyl
    cases hb : n.testBit j with
    | false =>
      rw [hb] at hbit hstep
      have hfin : pwN a (shN n j) (full - c) = y := by rw [hstep, hxx, Bool.toNat_false, Nat.add_zero]
      simp -implicitDefEqProofs (maxSteps := 10000000) only [vy_succ, vmB, slim, slimOp, gO, gSO, qSO, quietOp, cS, qSB, eK, calmOp, guardS, gK, qK, putK, plK, dOk, St.ev, St.get, St.mem, St.set, St.setm, St.put, lookA, look, newK, nextver, initT, seqE, blockQ, bodyQ, resK, retV, AV.rdv, agg_uV, ↓binK, ↓intK, unK, ↓loadK, ↓withKey_eq, ↓idxAddrK, ↓indexK, ↓partK, ↓fieldK, ↓fieldAddrK, ↓convK, ↓callK, wrG, updK, ↓lenK, ↓mmK, ↓appK, ↓copyK, ↓sliceK, ↓toArrK, nilK, evs, plains, seqParts, capsOf, capsD, AV.dv, AV.cont, ↓buildV_eq, fillL, placesOf, ↓storeK, wrL, RV.av, DV.av, List.set, Nat.reduceEqDiff, Nat.reduceAdd, Nat.reduceSub, Nat.reduceMul, Nat.reduceLT, Nat.reduceLeDiff, Nat.reduceMod, Nat.reduceDiv, Int.reduceLT, Int.reduceLE, Int.reduceToNat, ↓reduceIte, reduceCtorEq, Value.oneCell', Int.reduceAdd, Int.reduceSub, Int.reduceMod, Int.reduceMul, Int.reduceNeg, Int.reduceBEq, Int.reduceBNe, Int.reduceTDiv, Int.reduceTMod, Int.reduceEq, tyB, Try.underlying13, Try.underlying25, Try.underlying26, Try.underlying39, Try.underlying40, Try.underlying72, Try.underlying73, poS, uC, uL, hX, cast_pred, byG, bitH, ta, tn, tx, lx, lc, ok, hY, hbit, r0, r2]
      exact ⟨j, by omega, Nat.lt_succ_self j, Sub.of (by simp -implicitDefEqProofs only [subT, poS, look, lookA, newK, St.get, St.mem, List.map_cons, List.map_nil, List.all_cons, List.all_nil, List.length_cons, List.length_nil, List.getElem?_cons_zero, List.getElem?_cons_succ, Nat.reduceEqDiff, Nat.reduceAdd, Option.some.injEq, ↓reduceIte, true_and, and_true, reduceCtorEq, beq_self_eq_true, Bool.and_true, ne_eq, not_false_eq_true, not_true_eq_false, Nat.add_zero, Nat.zero_add, Nat.reduceSub, Nat.reduceMul, Int.cast_ofNat_Int, Int.reduceAdd, Int.reduceSub, Int.reduceMul]) (by simp -implicitDefEqProofs only [subM, poS, uC, hfin, look, lookA, newK, St.get, St.mem, List.map_cons, List.map_nil, List.all_cons, List.all_nil, List.length_cons, List.length_nil, List.getElem?_cons_zero, List.getElem?_cons_succ, Nat.reduceEqDiff, Nat.reduceAdd, Option.some.injEq, ↓reduceIte, true_and, and_true, reduceCtorEq, beq_self_eq_true, Bool.and_true, ne_eq, not_false_eq_true, not_true_eq_false, Nat.add_zero, Nat.zero_add, Nat.reduceSub, Nat.reduceMul, Int.cast_ofNat_Int, Int.reduceAdd, Int.reduceSub, Int.reduceMul]) rfl⟩
    | true =>
      rw [hb] at hbit hstep
      have hfin : pwN a (shN n j) (full - c) = y * a % (full - c) := by rw [hstep, hxx, pwN_one, Bool.toNat_true]
      simp -implicitDefEqProofs (maxSteps := 10000000) only [vy_succ, vmB, slim, slimOp, gO, gSO, qSO, quietOp, cS, qSB, eK, calmOp, guardS, gK, qK, putK, plK, dOk, St.ev, St.get, St.mem, St.set, St.setm, St.put, lookA, look, newK, nextver, initT, seqE, blockQ, bodyQ, resK, retV, AV.rdv, agg_uV, ↓binK, ↓intK, unK, ↓loadK, ↓withKey_eq, ↓idxAddrK, ↓indexK, ↓partK, ↓fieldK, ↓fieldAddrK, ↓convK, ↓callK, wrG, updK, ↓lenK, ↓mmK, ↓appK, ↓copyK, ↓sliceK, ↓toArrK, nilK, evs, plains, seqParts, capsOf, capsD, AV.dv, AV.cont, ↓buildV_eq, fillL, placesOf, ↓storeK, wrL, RV.av, DV.av, List.set, Nat.reduceEqDiff, Nat.reduceAdd, Nat.reduceSub, Nat.reduceMul, Nat.reduceLT, Nat.reduceLeDiff, Nat.reduceMod, Nat.reduceDiv, Int.reduceLT, Int.reduceLE, Int.reduceToNat, ↓reduceIte, reduceCtorEq, Value.oneCell', Int.reduceAdd, Int.reduceSub, Int.reduceMod, Int.reduceMul, Int.reduceNeg, Int.reduceBEq, Int.reduceBNe, Int.reduceTDiv, Int.reduceTMod, Int.reduceEq, tyB, Try.underlying13, Try.underlying25, Try.underlying26, Try.underlying39, Try.underlying40, Try.underlying72, Try.underlying73, poS, uC, uL, hX, cast_pred, byG, bitH, ta, tn, tx, lx, ly, lc, ok, hY, hbit, r0, r2]
      exact ⟨j, by omega, Nat.lt_succ_self j, Sub.of (by simp -implicitDefEqProofs only [subT, poS, look, lookA, newK, St.get, St.mem, List.map_cons, List.map_nil, List.all_cons, List.all_nil, List.length_cons, List.length_nil, List.getElem?_cons_zero, List.getElem?_cons_succ, Nat.reduceEqDiff, Nat.reduceAdd, Option.some.injEq, ↓reduceIte, true_and, and_true, reduceCtorEq, beq_self_eq_true, Bool.and_true, ne_eq, not_false_eq_true, not_true_eq_false, Nat.add_zero, Nat.zero_add, Nat.reduceSub, Nat.reduceMul, Int.cast_ofNat_Int, Int.reduceAdd, Int.reduceSub, Int.reduceMul]) (by simp -implicitDefEqProofs only [subM, poS, uC, hfin, look, lookA, newK, St.get, St.mem, List.map_cons, List.map_nil, List.all_cons, List.all_nil, List.length_cons, List.length_nil, List.getElem?_cons_zero, List.getElem?_cons_succ, Nat.reduceEqDiff, Nat.reduceAdd, Option.some.injEq, ↓reduceIte, true_and, and_true, reduceCtorEq, beq_self_eq_true, Bool.and_true, ne_eq, not_false_eq_true, not_true_eq_false, Nat.add_zero, Nat.zero_add, Nat.reduceSub, Nat.reduceMul, Int.cast_ofNat_Int, Int.reduceAdd, Int.reduceSub, Int.reduceMul]) rfl⟩

theorem power_ok : ∀ ds r, powerG ds = some r → Spec Try.prog 54 ds r := by
  intro ds r h
  unfold powerG at h
  split at h
  case h_2 => cases h
  rename_i va vn vc
  split at h
  case h_2 => cases h
  rename_i a n c ha hn hc
  split at h
  case isFalse => cases h
  rename_i ok
  cases h
  obtain ⟨rfl, ha'⟩ := toN_eq ha
  obtain ⟨rfl, hn'⟩ := toN_eq hn
  obtain ⟨rfl, hc'⟩ := toN_eq hc
  exact power_walk a n c ha' hn' hc' ok

noncomputable def fpowG : List DV → Option RV
  | [.pl va, .pl vn, .pl (.int .i64 w)] => match toN va, toN vn with
    | some a, some n => some (if isW w = true then .tup [.pl (uV (pwN a n (pN w))), .pl (.int .i64 0)] else .tup [.pl (uV 0), .pl (.int .i64 1)])
    | _, _ => none
  | _ => none

end Go.Vm

/- Certificates for primes (Pocklington). No condition. -/
set_option maxRecDepth 100000
namespace Go.Vm

theorem pow_rest {r b m : Nat} (h : b ^ m % r = 1) (n : Nat) (hn : b ^ n % r = 1) : b ^ (n % m) % r = 1 := by
  have e : b ^ n = (b ^ m) ^ (n / m) * b ^ (n % m) := by rw [← Nat.pow_mul, ← Nat.pow_add, Nat.div_add_mod]
  have hr : 1 % r = 1 := by
    have := h
    rcases Nat.lt_or_ge 1 r with h1 | h1
    · exact Nat.mod_eq_of_lt h1
    · have h2 : r = 0 ∨ r = 1 := by omega
      rcases h2 with rfl | rfl
      · rfl
      · rw [Nat.mod_one] at this; cases this
  rw [e, Nat.mul_mod, Nat.pow_mod, h, Nat.one_pow, hr, Nat.one_mul, Nat.mod_mod] at hn
  exact hn
theorem pow_gcd {r b : Nat} (m n : Nat) : b ^ m % r = 1 → b ^ n % r = 1 → b ^ (Nat.gcd m n) % r = 1 := by
  induction m, n using Nat.gcd.induction with
  | H0 n => intro _ h; rw [Nat.gcd_zero_left]; exact h
  | H1 m n hm ih =>
    intro h1 h2
    rw [Nat.gcd_rec]
    exact ih (pow_rest h1 n h2) h1

theorem prime_factor : ∀ n, 1 < n → ∃ r, Prm r ∧ r ∣ n := by
  intro n
  induction n using Nat.strongRecOn with
  | ind n ih =>
    intro hn
    by_cases hp : Prm n
    · exact ⟨n, hp, Nat.dvd_refl n⟩
    · have : ∃ d, d ∣ n ∧ d ≠ 1 ∧ d ≠ n := by
        apply Classical.byContradiction
        intro hno
        refine hp ⟨hn, fun d hd => ?_⟩
        by_cases h1 : d = 1
        · exact .inl h1
        · by_cases h2 : d = n
          · exact .inr h2
          · exact absurd ⟨d, hd, h1, h2⟩ hno
      obtain ⟨d, hd, h1, h2⟩ := this
      have hle := Nat.le_of_dvd (by omega) hd
      have h0 : d ≠ 0 := by intro e; subst e; have := Nat.eq_zero_of_zero_dvd hd; omega
      obtain ⟨r, hr, hrd⟩ := ih d (by omega) (by omega)
      exact ⟨r, hr, Nat.dvd_trans hrd hd⟩
theorem small_factor {n : Nat} (hn : 1 < n) (hp : ¬ Prm n) : ∃ r, Prm r ∧ r ∣ n ∧ r * r ≤ n := by
  have : ∃ d, d ∣ n ∧ d ≠ 1 ∧ d ≠ n := by
    apply Classical.byContradiction
    intro hno
    refine hp ⟨hn, fun d hd => ?_⟩
    by_cases h1 : d = 1
    · exact .inl h1
    · by_cases h2 : d = n
      · exact .inr h2
      · exact absurd ⟨d, hd, h1, h2⟩ hno
  obtain ⟨d, ⟨e, he⟩, h1, h2⟩ := this
  have hd0 : d ≠ 0 := by intro h; subst h; omega
  have he0 : e ≠ 0 := by intro h; subst h; omega
  have he1 : e ≠ 1 := by intro h; subst h; omega
  rcases Nat.le_total d e with hle | hle
  · obtain ⟨r, hr, hrd⟩ := prime_factor d (by omega)
    have h3 := Nat.le_of_dvd (by omega) hrd
    refine ⟨r, hr, Nat.dvd_trans hrd ⟨e, he⟩, ?_⟩
    have := Nat.mul_le_mul h3 (Nat.le_trans h3 hle)
    omega
  · obtain ⟨r, hr, hrd⟩ := prime_factor e (by omega)
    have h3 := Nat.le_of_dvd (by omega) hrd
    refine ⟨r, hr, Nat.dvd_trans hrd ⟨d, by rw [he, Nat.mul_comm]⟩, ?_⟩
    have := Nat.mul_le_mul (Nat.le_trans h3 hle) h3
    omega
theorem pock {N F : Nat} (hN : 1 < N) (hbig : N < F * F) (hq : ∀ r, Prm r → r ∣ N → F ∣ r - 1) : Prm N := by
  apply Classical.byContradiction
  intro hp
  obtain ⟨r, hr, hrN, hrr⟩ := small_factor hN hp
  have h1 := hr.1
  have h2 := Nat.le_of_dvd (by omega) (hq r hr hrN)
  have := Nat.mul_le_mul (show F ≤ r by omega) (show F ≤ r by omega)
  omega

def mp (N : Nat) : Nat → Nat → Nat → Nat
  | 0, _, _ => 1
  | f + 1, a, n => cond (Nat.beq n 0) 1 (cond (Nat.beq (n % 2) 1) (a * mp N f (a * a % N) (n / 2) % N) (mp N f (a * a % N) (n / 2)))
theorem mp_eq (N : Nat) : ∀ (f a n : Nat), n < 2 ^ f → mp N f a n % N = a ^ n % N
  | 0, a, n, h => by
    have : n = 0 := by rw [Nat.pow_zero] at h; omega
    subst this; rfl
  | f + 1, a, n, h => by
    have ih := mp_eq N f (a * a % N) (n / 2) (by rw [Nat.pow_succ] at h; omega)
    have e : (a * a) ^ (n / 2) = a ^ (2 * (n / 2)) := by rw [← Nat.pow_two, ← Nat.pow_mul]
    rw [← Nat.pow_mod, e] at ih
    unfold mp
    cases h0 : Nat.beq n 0 with
    | true =>
      have : n = 0 := Nat.eq_of_beq_eq_true h0
      subst this; rfl
    | false =>
      simp only [cond_false]
      cases h1 : Nat.beq (n % 2) 1 with
      | true =>
        have h2 : n % 2 = 1 := Nat.eq_of_beq_eq_true h1
        have h3 : a ^ n = a * a ^ (2 * (n / 2)) := by rw [← Nat.pow_succ']; congr 1; omega
        simp only [cond_true]
        rw [Nat.mod_mod, Nat.mul_mod, ih, ← Nat.mul_mod, h3]
      | false =>
        have h2 : n % 2 ≠ 1 := Nat.ne_of_beq_eq_false h1
        simp only [cond_false]
        rw [ih]
        congr 2
        omega

theorem cert {N q a : Nat} (hN : 1 < N) (hb : N < 2 ^ 256) (hq : Prm q) (hd : (N - 1) % q = 0) (h1 : mp N 256 a (N - 1) = 1) (h2 : Nat.gcd (mp N 256 a ((N - 1) / q) % N + N - 1) N = 1) : ∀ r, Prm r → r ∣ N → q ∣ r - 1 := by
  intro r hr hrN
  have e1 := mp_eq N 256 a (N - 1) (by omega)
  have e2 := mp_eq N 256 a ((N - 1) / q) (by have := Nat.div_le_self (N - 1) q; omega)
  rw [h1, Nat.mod_eq_of_lt hN] at e1
  rw [e2] at h2
  have hr1 := hr.1
  have hqq : (N - 1) / q * q = N - 1 := Nat.div_mul_cancel (Nat.dvd_of_mod_eq_zero hd)
  generalize hbb : a ^ ((N - 1) / q) = b at *
  have hbq : b ^ q % r = 1 := by
    rw [← hbb, ← Nat.pow_mul, hqq, ← Nat.mod_mod_of_dvd _ hrN, ← e1, Nat.mod_eq_of_lt hr1]
  have hrb : ¬ r ∣ b := by
    intro h
    have hq1 := hq.1
    have h3 : b ^ q % r = 0 := Nat.mod_eq_zero_of_dvd (Nat.dvd_trans h ⟨b ^ (q - 1), by rw [← Nat.pow_succ']; congr 1; omega⟩)
    omega
  have hg := pow_gcd q (r - 1) hbq (fermat hr hrb)
  rcases hq.2 _ (Nat.gcd_dvd_left q (r - 1)) with h3 | h3
  · exfalso
    rw [h3, Nat.pow_one] at hg
    have h4 : r ∣ b % N + N - 1 := by
      apply Nat.dvd_of_mod_eq_zero
      obtain ⟨k, hk⟩ := hrN
      have h5 : b % N % r = 1 := by rw [Nat.mod_mod_of_dvd _ ⟨k, hk⟩]; exact hg
      have h6 := Nat.div_add_mod (b % N) r
      have h7 : b % N + N - 1 = r * (b % N / r + k) := by rw [Nat.mul_add]; omega
      rw [h7, Nat.mul_mod_right]
    have h8 := Nat.dvd_gcd h4 hrN
    rw [h2] at h8
    have := Nat.le_of_dvd (by omega) h8
    omega
  · rw [← h3]; exact Nat.gcd_dvd_right q (r - 1)

def chk (p : Nat) : Bool := Nat.blt 1 p && (List.range p).all fun d => Nat.blt d 2 || !(Nat.beq (p % d) 0)
theorem prm_chk {p : Nat} (h : chk p = true) : Prm p := by
  unfold chk at h
  rw [Bool.and_eq_true] at h
  have h1 : 1 < p := by simpa [Nat.blt_eq] using h.1
  refine ⟨h1, fun d hd => ?_⟩
  by_cases e1 : d = 1
  · exact .inl e1
  · right
    have hle := Nat.le_of_dvd (by omega) hd
    rcases Nat.lt_or_ge d p with hlt | hge
    · exfalso
      have h2 := List.all_eq_true.1 h.2 d (List.mem_range.2 hlt)
      have h0 : d ≠ 0 := by intro e; subst e; have := Nat.eq_zero_of_zero_dvd hd; omega
      have h3 := Nat.mod_eq_zero_of_dvd hd
      rw [h3, Bool.or_eq_true] at h2
      rcases h2 with h4 | h4
      · have : d < 2 := by simpa [Nat.blt_eq] using h4
        omega
      · cases h4
    · omega

theorem prm_7 : Prm 7 := prm_chk (by decide +kernel)
theorem prm_29 : Prm 29 := prm_chk (by decide +kernel)
theorem prm_53 : Prm 53 := prm_chk (by decide +kernel)
theorem prm_101 : Prm 101 := prm_chk (by decide +kernel)
theorem prm_239 : Prm 239 := prm_chk (by decide +kernel)
theorem prm_419 : Prm 419 := prm_chk (by decide +kernel)
theorem prm_1409 : Prm 1409 := prm_chk (by decide +kernel)
theorem prm_1871 : Prm 1871 := prm_chk (by decide +kernel)
theorem prm_2011 : Prm 2011 := prm_chk (by decide +kernel)
theorem prm_97 : Prm 97 := prm_chk (by decide +kernel)
theorem prm_2861 : Prm 2861 := prm_chk (by decide +kernel)
theorem prm_107590001 : Prm 107590001 := by
  have c0 := cert (N := 107590001) (q := 7) (a := 2) (by decide +kernel) (by decide +kernel) prm_7 (by decide +kernel) (by decide +kernel) (by decide +kernel)
  have c1 := cert (N := 107590001) (q := 29) (a := 2) (by decide +kernel) (by decide +kernel) prm_29 (by decide +kernel) (by decide +kernel) (by decide +kernel)
  have c2 := cert (N := 107590001) (q := 53) (a := 2) (by decide +kernel) (by decide +kernel) prm_53 (by decide +kernel) (by decide +kernel) (by decide +kernel)
  exact pock (by decide +kernel) (F := 7 * 29 * 53) (by decide +kernel) (fun r h1 h2 => Nat.Coprime.mul_dvd_of_dvd_of_dvd (by decide +kernel) (Nat.Coprime.mul_dvd_of_dvd_of_dvd (by decide +kernel) (c0 r h1 h2) (c1 r h1 h2)) (c2 r h1 h2))
theorem prm_20113 : Prm 20113 := by
  have c0 := cert (N := 20113) (q := 419) (a := 2) (by decide +kernel) (by decide +kernel) prm_419 (by decide +kernel) (by decide +kernel) (by decide +kernel)
  exact pock (by decide +kernel) (F := 419) (by decide +kernel) c0
theorem prm_1206781 : Prm 1206781 := by
  have c0 := cert (N := 1206781) (q := 20113) (a := 2) (by decide +kernel) (by decide +kernel) prm_20113 (by decide +kernel) (by decide +kernel) (by decide +kernel)
  exact pock (by decide +kernel) (F := 20113) (by decide +kernel) c0
theorem prm_7240687 : Prm 7240687 := by
  have c0 := cert (N := 7240687) (q := 1206781) (a := 2) (by decide +kernel) (by decide +kernel) prm_1206781 (by decide +kernel) (by decide +kernel) (by decide +kernel)
  exact pock (by decide +kernel) (F := 1206781) (by decide +kernel) c0
theorem prm_96557 : Prm 96557 := by
  have c0 := cert (N := 96557) (q := 101) (a := 2) (by decide +kernel) (by decide +kernel) prm_101 (by decide +kernel) (by decide +kernel) (by decide +kernel)
  have c1 := cert (N := 96557) (q := 239) (a := 2) (by decide +kernel) (by decide +kernel) prm_239 (by decide +kernel) (by decide +kernel) (by decide +kernel)
  exact pock (by decide +kernel) (F := 101 * 239) (by decide +kernel) (fun r h1 h2 => Nat.Coprime.mul_dvd_of_dvd_of_dvd (by decide +kernel) (c0 r h1 h2) (c1 r h1 h2))
theorem prm_255515944373312847190720520512484175977 : Prm 255515944373312847190720520512484175977 := by
  have c0 := cert (N := 255515944373312847190720520512484175977) (q := 107590001) (a := 2) (by decide +kernel) (by decide +kernel) prm_107590001 (by decide +kernel) (by decide +kernel) (by decide +kernel)
  have c1 := cert (N := 255515944373312847190720520512484175977) (q := 7240687) (a := 2) (by decide +kernel) (by decide +kernel) prm_7240687 (by decide +kernel) (by decide +kernel) (by decide +kernel)
  have c2 := cert (N := 255515944373312847190720520512484175977) (q := 96557) (a := 2) (by decide +kernel) (by decide +kernel) prm_96557 (by decide +kernel) (by decide +kernel) (by decide +kernel)
  exact pock (by decide +kernel) (F := 107590001 * 7240687 * 96557) (by decide +kernel) (fun r h1 h2 => Nat.Coprime.mul_dvd_of_dvd_of_dvd (by decide +kernel) (Nat.Coprime.mul_dvd_of_dvd_of_dvd (by decide +kernel) (c0 r h1 h2) (c1 r h1 h2)) (c2 r h1 h2))
theorem prm_205115282021455665897114700593932402728804164701536103180137503955397371 : Prm 205115282021455665897114700593932402728804164701536103180137503955397371 := by
  have c0 := cert (N := 205115282021455665897114700593932402728804164701536103180137503955397371) (q := 255515944373312847190720520512484175977) (a := 2) (by decide +kernel) (by decide +kernel) prm_255515944373312847190720520512484175977 (by decide +kernel) (by decide +kernel) (by decide +kernel)
  exact pock (by decide +kernel) (F := 255515944373312847190720520512484175977) (by decide +kernel) c0
theorem prm_115792089237316195423570985008687907853269984665640564039457584007908834671663 : Prm 115792089237316195423570985008687907853269984665640564039457584007908834671663 := by
  have c0 := cert (N := 115792089237316195423570985008687907853269984665640564039457584007908834671663) (q := 205115282021455665897114700593932402728804164701536103180137503955397371) (a := 2) (by decide +kernel) (by decide +kernel) prm_205115282021455665897114700593932402728804164701536103180137503955397371 (by decide +kernel) (by decide +kernel) (by decide +kernel)
  exact pock (by decide +kernel) (F := 205115282021455665897114700593932402728804164701536103180137503955397371) (by decide +kernel) c0
theorem prm_28181 : Prm 28181 := by
  have c0 := cert (N := 28181) (q := 1409) (a := 2) (by decide +kernel) (by decide +kernel) prm_1409 (by decide +kernel) (by decide +kernel) (by decide +kernel)
  exact pock (by decide +kernel) (F := 1409) (by decide +kernel) c0
theorem prm_545358713 : Prm 545358713 := by
  have c0 := cert (N := 545358713) (q := 28181) (a := 2) (by decide +kernel) (by decide +kernel) prm_28181 (by decide +kernel) (by decide +kernel) (by decide +kernel)
  exact pock (by decide +kernel) (F := 28181) (by decide +kernel) c0
theorem prm_1627771 : Prm 1627771 := by
  have c0 := cert (N := 1627771) (q := 1871) (a := 2) (by decide +kernel) (by decide +kernel) prm_1871 (by decide +kernel) (by decide +kernel) (by decide +kernel)
  exact pock (by decide +kernel) (F := 1871) (by decide +kernel) c0
theorem prm_297159362677 : Prm 297159362677 := by
  have c0 := cert (N := 297159362677) (q := 1627771) (a := 2) (by decide +kernel) (by decide +kernel) prm_1627771 (by decide +kernel) (by decide +kernel) (by decide +kernel)
  exact pock (by decide +kernel) (F := 1627771) (by decide +kernel) c0
theorem prm_29047611873442575647497758179 : Prm 29047611873442575647497758179 := by
  have c0 := cert (N := 29047611873442575647497758179) (q := 545358713) (a := 2) (by decide +kernel) (by decide +kernel) prm_545358713 (by decide +kernel) (by decide +kernel) (by decide +kernel)
  have c1 := cert (N := 29047611873442575647497758179) (q := 297159362677) (a := 2) (by decide +kernel) (by decide +kernel) prm_297159362677 (by decide +kernel) (by decide +kernel) (by decide +kernel)
  exact pock (by decide +kernel) (F := 545358713 * 297159362677) (by decide +kernel) (fun r h1 h2 => Nat.Coprime.mul_dvd_of_dvd_of_dvd (by decide +kernel) (c0 r h1 h2) (c1 r h1 h2))
theorem prm_341948486974166000522343609283189 : Prm 341948486974166000522343609283189 := by
  have c0 := cert (N := 341948486974166000522343609283189) (q := 29047611873442575647497758179) (a := 2) (by decide +kernel) (by decide +kernel) prm_29047611873442575647497758179 (by decide +kernel) (by decide +kernel) (by decide +kernel)
  exact pock (by decide +kernel) (F := 29047611873442575647497758179) (by decide +kernel) c0
theorem prm_4681609 : Prm 4681609 := by
  have c0 := cert (N := 4681609) (q := 97) (a := 2) (by decide +kernel) (by decide +kernel) prm_97 (by decide +kernel) (by decide +kernel) (by decide +kernel)
  have c1 := cert (N := 4681609) (q := 2011) (a := 2) (by decide +kernel) (by decide +kernel) prm_2011 (by decide +kernel) (by decide +kernel) (by decide +kernel)
  exact pock (by decide +kernel) (F := 97 * 2011) (by decide +kernel) (fun r h1 h2 => Nat.Coprime.mul_dvd_of_dvd_of_dvd (by decide +kernel) (c0 r h1 h2) (c1 r h1 h2))
theorem prm_85831 : Prm 85831 := by
  have c0 := cert (N := 85831) (q := 2861) (a := 2) (by decide +kernel) (by decide +kernel) prm_2861 (by decide +kernel) (by decide +kernel) (by decide +kernel)
  exact pock (by decide +kernel) (F := 2861) (by decide +kernel) c0
theorem prm_107361793816595537 : Prm 107361793816595537 := by
  have c0 := cert (N := 107361793816595537) (q := 4681609) (a := 2) (by decide +kernel) (by decide +kernel) prm_4681609 (by decide +kernel) (by decide +kernel) (by decide +kernel)
  have c1 := cert (N := 107361793816595537) (q := 85831) (a := 2) (by decide +kernel) (by decide +kernel) prm_85831 (by decide +kernel) (by decide +kernel) (by decide +kernel)
  exact pock (by decide +kernel) (F := 4681609 * 85831) (by decide +kernel) (fun r h1 h2 => Nat.Coprime.mul_dvd_of_dvd_of_dvd (by decide +kernel) (c0 r h1 h2) (c1 r h1 h2))
theorem prm_115792089237316195423570985008687907852837564279074904382605163141518161494337 : Prm 115792089237316195423570985008687907852837564279074904382605163141518161494337 := by
  have c0 := cert (N := 115792089237316195423570985008687907852837564279074904382605163141518161494337) (q := 341948486974166000522343609283189) (a := 2) (by decide +kernel) (by decide +kernel) prm_341948486974166000522343609283189 (by decide +kernel) (by decide +kernel) (by decide +kernel)
  have c1 := cert (N := 115792089237316195423570985008687907852837564279074904382605163141518161494337) (q := 107361793816595537) (a := 2) (by decide +kernel) (by decide +kernel) prm_107361793816595537 (by decide +kernel) (by decide +kernel) (by decide +kernel)
  exact pock (by decide +kernel) (F := 341948486974166000522343609283189 * 107361793816595537) (by decide +kernel) (fun r h1 h2 => Nat.Coprime.mul_dvd_of_dvd_of_dvd (by decide +kernel) (c0 r h1 h2) (c1 r h1 h2))
end Go.Vm

/- Contract: Inv; the law FieldTurns, as the machine walks it. No condition. -/
set_option maxRecDepth 100000
set_option linter.unusedSimpArgs false
set_option linter.unusedVariables false
namespace Go.Vm
open Go Go.RowKit Go.Proofs

theorem isW_two {w : Int} (h : isW w = true) : w = 0 ∨ w = 1 := by
  unfold isW at h
  simpa using h
theorem pN_prm {w : Int} (h : isW w = true) : Prm (pN w) := by
  rcases isW_two h with rfl | rfl
  · have e : pN 0 = 115792089237316195423570985008687907853269984665640564039457584007908834671663 := by rw [pN_eq, cOf_eq, full_eq]; simp
    rw [e]; exact prm_115792089237316195423570985008687907853269984665640564039457584007908834671663
  · have e : pN 1 = 115792089237316195423570985008687907852837564279074904382605163141518161494337 := by rw [pN_eq, cOf_eq, full_eq]; simp
    rw [e]; exact prm_115792089237316195423570985008687907852837564279074904382605163141518161494337

/-! ### Plain laws -/
theorem inv_mul {p a : Nat} (hp : Prm p) (ha : a % p ≠ 0) : a * pwN a (p - 2) p % p = 1 := by
  have h2 := hp.1
  have e : a * a ^ (p - 2) = a ^ (p - 1) := by rw [← Nat.pow_succ']; congr 1; omega
  rw [pwN_eq, Nat.mul_mod_mod, e]
  exact fermat hp (fun h => ha (Nat.mod_eq_zero_of_dvd h))
theorem inv_ne {p a : Nat} (hp : Prm p) (ha : a % p ≠ 0) : pwN a (p - 2) p % p ≠ 0 := by
  intro h
  have h1 := inv_mul hp ha
  rw [Nat.mul_mod, h, Nat.mul_zero, Nat.zero_mod] at h1
  omega
theorem inv_inv {p a : Nat} (hp : Prm p) (ha : a % p ≠ 0) : pwN (pwN a (p - 2) p) (p - 2) p = a % p := by
  have h1 := inv_mul hp ha
  have h2 := inv_mul hp (inv_ne hp ha)
  have h3 := pwN_lt (pwN a (p - 2) p) (p - 2) (p := p) (by have := hp.1; omega)
  generalize pwN a (p - 2) p = x at *
  generalize pwN x (p - 2) p = y at *
  have h4 : a * (x * y) % p = a % p := by rw [← Nat.mul_mod_mod, h2, Nat.mul_one]
  have h5 : a * (x * y) % p = y := by rw [← Nat.mul_assoc, ← Nat.mod_mul_mod, h1, Nat.one_mul, Nat.mod_eq_of_lt h3]
  rw [← h5, h4]

noncomputable def finvG : List DV → Option RV
  | [.pl va, .pl (.int .i64 w)] => match toN va with
    | some a => some (if isW w = true then (if a % pN w = 0 then .tup [.pl (uV 0), .pl (.int .i64 6)] else .tup [.pl (uV (pwN a (pN w - 2) (pN w))), .pl (.int .i64 0)]) else .tup [.pl (uV 0), .pl (.int .i64 1)])
    | none => none
  | _ => none
theorem eqU_p0 (x : Nat) (w : Int) : eqU (x % pN w) 0 = decide (x % pN w = 0) := eqU_lt (mod_pN x w) full_pos

set_option maxHeartbeats 4000000 in
theorem finv_ok : ∀ ds r, finvG ds = some r → Spec Try.prog 21 ds r := by
  intro ds r h
  unfold finvG at h
  split at h
  case h_2 => cases h
  rename_i va w
  split at h
  case h_2 => cases h
  rename_i a ha
  cases h
  obtain ⟨rfl, ha'⟩ := toN_eq ha
  have hΓ : Env.ok [(50, belowG), (51, reduceG), (53, modulusG), (52, subG), (54, powerG)] Try.prog := ok_cons below_ok (ok_cons reduce_ok (ok_cons modulus_ok (ok_cons sub_ok (ok_cons power_ok (ok_nil _)))))
  have tc := toN_c w
  have oc := cOk_c w
  have tp : toN (uV (pN w)) = some (pN w) := toN_lt (pN_lt w)
  have hbig := pN_huge w
  have hlt := pN_lt w
  have u2 : uV (pN w + full - 2) = uV (pN w - 2) := by
    apply uV_inj
    rw [show pN w + full - 2 = pN w - 2 + full by omega, Nat.add_mod_right]
  have t2 : toN (uV (pN w - 2)) = some (pN w - 2) := toN_lt (by omega)
  have t22 : toN (uV 2) = some 2 := toN_lt (by omega)
  have z : ∀ x : Nat, (x + 0 * full) = x := fun x => by omega
  refine Spec.of_vx hΓ follows_mixed Try.func21 rfl (by kernel_rfl) (T := []) (by simp [Try.ntmps21]) (by kernel_rfl) rfl Try.ntmps21 (res := [.cell 4 24, .tmp 5]) rfl ?_
  intro W
  cases hw : isW w
  · simp -implicitDefEqProofs (maxSteps := 10000000) only [vy_succ, vmB, slim, slimOp, gO, gSO, qSO, quietOp, cS, qSB, eK, calmOp, guardS, gK, qK, putK, plK, dOk, St.ev, St.get, St.mem, St.set, St.setm, St.put, lookA, look, newK, nextver, initT, seqE, blockQ, bodyQ, resK, retV, AV.rdv, agg_uV, ↓binK, ↓intK, unK, ↓loadK, ↓withKey_eq, ↓idxAddrK, ↓indexK, ↓partK, ↓fieldK, ↓fieldAddrK, ↓convK, ↓callK, wrG, updK, ↓lenK, ↓mmK, ↓appK, ↓copyK, ↓sliceK, ↓toArrK, nilK, evs, plains, seqParts, capsOf, capsD, AV.dv, AV.cont, ↓buildV_eq, fillL, placesOf, ↓storeK, wrL, RV.av, DV.av, List.set, Nat.reduceEqDiff, Nat.reduceAdd, Nat.reduceSub, Nat.reduceMul, Nat.reduceLT, Nat.reduceLeDiff, Nat.reduceMod, Nat.reduceDiv, Int.reduceLT, Int.reduceLE, Int.reduceToNat, ↓reduceIte, reduceCtorEq, Value.oneCell', Int.reduceAdd, Int.reduceSub, Int.reduceMod, Int.reduceMul, Int.reduceNeg, Int.reduceBEq, Int.reduceBNe, Int.reduceTDiv, Int.reduceTMod, Int.reduceEq, tyB, Try.underlying13, Try.underlying25, Try.underlying26, Try.underlying39, Try.underlying40, Try.underlying72, Try.underlying73, belowG, hw, uV_0]
  · by_cases h0 : a % pN w = 0
    · have e0 : eqU (a % pN w) 0 = true := by rw [eqU_p0]; exact decide_eq_true h0
      simp -implicitDefEqProofs (maxSteps := 10000000) only [vy_succ, vmB, slim, slimOp, gO, gSO, qSO, quietOp, cS, qSB, eK, calmOp, guardS, gK, qK, putK, plK, dOk, St.ev, St.get, St.mem, St.set, St.setm, St.put, lookA, look, newK, nextver, initT, seqE, blockQ, bodyQ, resK, retV, AV.rdv, agg_uV, ↓binK, ↓intK, unK, ↓loadK, ↓withKey_eq, ↓idxAddrK, ↓indexK, ↓partK, ↓fieldK, ↓fieldAddrK, ↓convK, ↓callK, wrG, updK, ↓lenK, ↓mmK, ↓appK, ↓copyK, ↓sliceK, ↓toArrK, nilK, evs, plains, seqParts, capsOf, capsD, AV.dv, AV.cont, ↓buildV_eq, fillL, placesOf, ↓storeK, wrL, RV.av, DV.av, List.set, Nat.reduceEqDiff, Nat.reduceAdd, Nat.reduceSub, Nat.reduceMul, Nat.reduceLT, Nat.reduceLeDiff, Nat.reduceMod, Nat.reduceDiv, Int.reduceLT, Int.reduceLE, Int.reduceToNat, ↓reduceIte, reduceCtorEq, Value.oneCell', Int.reduceAdd, Int.reduceSub, Int.reduceMod, Int.reduceMul, Int.reduceNeg, Int.reduceBEq, Int.reduceBNe, Int.reduceTDiv, Int.reduceTMod, Int.reduceEq, tyB, Try.underlying13, Try.underlying25, Try.underlying26, Try.underlying39, Try.underlying40, Try.underlying72, Try.underlying73, belowG, reduceG, hw, ha, tc, oc, toN_zero, z, fold_p, ↓binK_eqU0, e0, eq_true h0]
      rw [uV_0]
    · have e0 : eqU (a % pN w) 0 = false := by rw [eqU_p0]; exact decide_eq_false h0
      have ep := pN_eq w
      simp -implicitDefEqProofs (maxSteps := 10000000) only [vy_succ, vmB, slim, slimOp, gO, gSO, qSO, quietOp, cS, qSB, eK, calmOp, guardS, gK, qK, putK, plK, dOk, St.ev, St.get, St.mem, St.set, St.setm, St.put, lookA, look, newK, nextver, initT, seqE, blockQ, bodyQ, resK, retV, AV.rdv, agg_uV, ↓binK, ↓intK, unK, ↓loadK, ↓withKey_eq, ↓idxAddrK, ↓indexK, ↓partK, ↓fieldK, ↓fieldAddrK, ↓convK, ↓callK, wrG, updK, ↓lenK, ↓mmK, ↓appK, ↓copyK, ↓sliceK, ↓toArrK, nilK, evs, plains, seqParts, capsOf, capsD, AV.dv, AV.cont, ↓buildV_eq, fillL, placesOf, ↓storeK, wrL, RV.av, DV.av, List.set, Nat.reduceEqDiff, Nat.reduceAdd, Nat.reduceSub, Nat.reduceMul, Nat.reduceLT, Nat.reduceLeDiff, Nat.reduceMod, Nat.reduceDiv, Int.reduceLT, Int.reduceLE, Int.reduceToNat, ↓reduceIte, reduceCtorEq, Value.oneCell', Int.reduceAdd, Int.reduceSub, Int.reduceMod, Int.reduceMul, Int.reduceNeg, Int.reduceBEq, Int.reduceBNe, Int.reduceTDiv, Int.reduceTMod, Int.reduceEq, tyB, Try.underlying13, Try.underlying25, Try.underlying26, Try.underlying39, Try.underlying40, Try.underlying72, Try.underlying73, belowG, reduceG, modulusG, subG, powerG, hw, ha, tc, oc, tp, toN_zero, uV_2, t22, u2, t2, z, fold_p, ↓binK_eqU0, e0, eq_false h0]
      rw [ep]

end Go.Vm
