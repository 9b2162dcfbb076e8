/- For any two points, on the curve or not, what they make and what one is turned to is as the reference says, or it is refused: the given law answers true. No condition. -/
import Derived.Test.YtcbcmfmcpdimkaaPi
import Derived.Test.YtcbcmfmcpdimkaaWp
set_option maxRecDepth 100000
set_option linter.unusedSimpArgs false
set_option linter.unusedVariables false
namespace Go.Proofs.Ytcbcmfmcpdimkaa
open Go Go.ChangeShapes Go.WideShapes Go.ChangeAt Go.RowKit Go.Vm

theorem pointAddsOwn : ownKnob Try.prog.godebug = none := by kernel_rfl

set_option maxHeartbeats 4000000 in
theorem pointAddsLifted (os : Os) (started : os.Started) (H : Type) (enc : TypeId × Value → H) :
    ReturnsInHanded {} Try.checked os 5 .any (Rows.pointAddsSpec.pre6 enc Try.prog Try.f5 Rows.pointAddsRow.domain false) (Rows.pointAddsSpec.post enc Try.prog Try.f5 false true false false) := by
  refine returnsInHanded_of_change (C := Try.checked) pointAddsOwn started (by kernel_rfl) Try.func5
    (ChangeSpec.witness6 (enc := enc) (C := Try.checked) false ⟨#[], #[.agg #[.int .u64 0, .int .u64 0, .int .u64 0, .int .u64 0, .int .u64 0, .int .u64 0, .int .u64 0, .int .u64 0, .bool false], .agg #[.int .u64 0, .int .u64 0, .int .u64 0, .int .u64 0, .int .u64 0, .int .u64 0, .int .u64 0, .int .u64 0, .bool false], .agg #[.int .u64 0, .int .u64 0, .int .u64 0, .int .u64 0], .agg #[.int .u64 0, .int .u64 0, .int .u64 0, .int .u64 0], .bool false], []⟩ 8 (by kernel_rfl) (by kernel_rfl) (by kernel_rfl) (by kernel_rfl)) ?_
  intro W base args ds gs before hval0 hW hcnd _
  have hval : ∀ (j : Nat) t v, Try.f5.params[j]? = some t → args[j]? = some v → Value.okWide Try.prog W .any base t v := hval0
  have hW' := hW
  obtain ⟨p, q, hA0, hV, rfl, hfz, hnd⟩ := hW
  have hA : DataW.TrodAll enc Try.prog W 0 (fun _ => true) true Try.f5.params.toList args.toList ds p := hA0
  rw [Try.params5] at hA hval
  obtain ⟨v0, v1, v2, v3, v4, d0, d1, d2, d3, d4, p0, p1, p2, p3, p4, rfl, rfl, rfl, h0, h1, h2, h3, h4⟩ := trodAll_five hA
  obtain ⟨rfl, rfl⟩ := trodVars_none hV
  obtain ⟨x0, y0, b0, hb0, rfl, rfl, sh0⟩ := open_pt (hval 0 26 v0 rfl rfl) h0
  obtain ⟨x1, y1, b1, hb1, rfl, rfl, sh1⟩ := open_pt (hval 1 26 v1 rfl rfl) h1
  obtain ⟨l2, rfl, rfl, rfl, n2, m2⟩ := open_arr Try.underlying24 Try.underlying22 (by kernel_rfl) (by kernel_rfl) (hval 2 24 v2 rfl rfl) h2
  obtain ⟨l3, rfl, rfl, rfl, n3, m3⟩ := open_arr Try.underlying24 Try.underlying22 (by kernel_rfl) (by kernel_rfl) (hval 3 24 v3 rfl rfl) h3
  obtain ⟨b4, rfl, rfl, rfl⟩ := Go.RowKit.open_bool Try.underlying4 (hval 4 4 v4 rfl rfl) h4
  clear hA0 hval0
  simp only [List.append_nil] at hW'
  obtain ⟨a2, ha2, e2⟩ := uV_open n2 m2
  obtain ⟨a3, ha3, e3⟩ := uV_open n3 m3
  have hspec : Go.Vm.Spec Try.prog 5 [.pl (ptV x0 y0 b0), .pl (ptV x1 y1 b1), .pl (.agg (l2.map (Value.int .u64)).toArray), .pl (.agg (l3.map (Value.int .u64)).toArray), .pl (.bool b4)] (.one (.pl (.bool true))) := by
    rw [e2, e3]
    exact adds_law x0 y0 x1 y1 a2 a3 b0 b1 b4 hb0.1 hb0.2 hb1.1 hb1.2 ha2 ha3
  refine (Go.Vm.Spec.calls Try.func5 rfl (by kernel_rfl) hspec W [(ptV x0 y0 b0), (ptV x1 y1 b1), (.agg (l2.map (Value.int .u64)).toArray), (.agg (l3.map (Value.int .u64)).toArray), (.bool b4)] ⟨rfl, rfl, rfl, rfl, rfl, trivial⟩).mono fun e W' ⟨v, he, hv, hb⟩ => ?_
  subst he
  obtain rfl : v = .bool true := hv
  exact ⟨_, rfl, post_plain hW' (fun _ _ _ => trodAll_mk1 (shut_bool Try.underlying4 true)) (fun sp => trodAll_mk5 (sh0 _ _ _ _) (sh1 _ _ _ _) (shut_arr Try.underlying24 Try.underlying22 (by kernel_rfl) (by kernel_rfl) n2 m2) (shut_arr Try.underlying24 Try.underlying22 (by kernel_rfl) (by kernel_rfl) n3 m3) (Go.RowKit.shut_bool Try.underlying4 b4)) (fun _ => rfl) hb (ok_one (by kernel_rfl) rfl (okWide_bool_mk Try.underlying4 true))⟩

theorem pointAdds_holds : Rows.PointAddsSaid :=
  OpenClaim.holds_of_wide 5 Try.f5 rfl rfl rfl rfl rfl rfl rfl ⟨rfl, rfl, rfl, rfl, rfl⟩ rfl rfl rfl rfl rfl (by kernel_rfl) Try.func5 (by kernel_rfl)
    (of_decide_eq_true (by kernel_rfl)) (by unfold Func.isWrapper; first | (rw [if_pos (by decide +kernel)]; kernel_rfl) | (rw [if_neg (by decide +kernel)]; exact ⟨rfl, rfl⟩))
    (fun os started H enc _ => pointAddsLifted os started H enc)

end Go.Proofs.Ytcbcmfmcpdimkaa
