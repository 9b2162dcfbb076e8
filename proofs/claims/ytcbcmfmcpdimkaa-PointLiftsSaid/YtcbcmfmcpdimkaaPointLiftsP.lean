/- A point of the curve is lifted from its first number by whether its second one is odd; others are refused: the given law answers true. No condition. -/
import Derived.Test.YtcbcmfmcpdimkaaPh
import Derived.Test.YtcbcmfmcpdimkaaW
set_option maxRecDepth 100000
set_option linter.unusedSimpArgs false
set_option linter.unusedVariables false
namespace Go.Proofs.Ytcbcmfmcpdimkaa
open Go Go.ChangeShapes Go.WideShapes Go.ChangeAt Go.RowKit Go.Vm

theorem pointLiftsOwn : ownKnob Try.prog.godebug = none := by kernel_rfl

set_option maxHeartbeats 4000000 in
theorem pointLiftsLifted (os : Os) (started : os.Started) (H : Type) (enc : TypeId × Value → H) :
    ReturnsInHanded {} Try.checked os 8 .any (Rows.pointLiftsSpec.pre6 enc Try.prog Try.f8 Rows.pointLiftsRow.domain false) (Rows.pointLiftsSpec.post enc Try.prog Try.f8 false true false false) := by
  refine returnsInHanded_of_change (C := Try.checked) pointLiftsOwn started (by kernel_rfl) Try.func8
    (ChangeSpec.witness6 (enc := enc) (C := Try.checked) false ⟨#[], #[.agg #[.int .u64 0, .int .u64 0, .int .u64 0, .int .u64 0], .agg #[.int .u64 0, .int .u64 0, .int .u64 0, .int .u64 0]], []⟩ 8 (by kernel_rfl) (by kernel_rfl) (by kernel_rfl) (by kernel_rfl)) ?_
  intro W base args ds gs before hval0 hW hcnd _
  have hval : ∀ (j : Nat) t v, Try.f8.params[j]? = some t → args[j]? = some v → Value.okWide Try.prog W .any base t v := hval0
  have hW' := hW
  obtain ⟨p, q, hA0, hV, rfl, hfz, hnd⟩ := hW
  have hA : DataW.TrodAll enc Try.prog W 0 (fun _ => true) true Try.f8.params.toList args.toList ds p := hA0
  rw [Try.params8] at hA hval
  obtain ⟨v0, v1, d0, d1, p0, p1, rfl, rfl, rfl, h0, h1⟩ := trodAll_two hA
  obtain ⟨rfl, rfl⟩ := trodVars_none hV
  obtain ⟨l0, rfl, rfl, rfl, n0, m0⟩ := open_arr Try.underlying24 Try.underlying22 (by kernel_rfl) (by kernel_rfl) (hval 0 24 v0 rfl rfl) h0
  obtain ⟨l1, rfl, rfl, rfl, n1, m1⟩ := open_arr Try.underlying24 Try.underlying22 (by kernel_rfl) (by kernel_rfl) (hval 1 24 v1 rfl rfl) h1
  clear hA0 hval0
  simp only [List.append_nil] at hW'
  obtain ⟨a0, ha0, e0⟩ := uV_open n0 m0
  obtain ⟨a1, ha1, e1⟩ := uV_open n1 m1
  have hspec : Go.Vm.Spec Try.prog 8 [.pl (.agg (l0.map (Value.int .u64)).toArray), .pl (.agg (l1.map (Value.int .u64)).toArray)] (.one (.pl (.bool true))) := by
    rw [e0, e1]
    exact lifts_law a0 a1 ha0 ha1
  refine (Go.Vm.Spec.calls Try.func8 rfl (by kernel_rfl) hspec W [(.agg (l0.map (Value.int .u64)).toArray), (.agg (l1.map (Value.int .u64)).toArray)] ⟨rfl, rfl, trivial⟩).mono fun e W' ⟨v, he, hv, hb⟩ => ?_
  subst he
  obtain rfl : v = .bool true := hv
  exact ⟨_, rfl, post_plain hW' (fun _ _ _ => trodAll_mk1 (shut_bool Try.underlying4 true)) (fun sp => trodAll_mk2 (shut_arr Try.underlying24 Try.underlying22 (by kernel_rfl) (by kernel_rfl) n0 m0) (shut_arr Try.underlying24 Try.underlying22 (by kernel_rfl) (by kernel_rfl) n1 m1)) (fun _ => rfl) hb (ok_one (by kernel_rfl) rfl (okWide_bool_mk Try.underlying4 true))⟩

theorem pointLifts_holds : Rows.PointLiftsSaid :=
  OpenClaim.holds_of_wide 8 Try.f8 rfl rfl rfl rfl rfl rfl rfl ⟨rfl, rfl, rfl, rfl, rfl⟩ rfl rfl rfl rfl rfl (by kernel_rfl) Try.func8 (by kernel_rfl)
    (of_decide_eq_true (by kernel_rfl)) (by unfold Func.isWrapper; first | (rw [if_pos (by decide +kernel)]; kernel_rfl) | (rw [if_neg (by decide +kernel)]; exact ⟨rfl, rfl⟩))
    (fun os started H enc _ => pointLiftsLifted os started H enc)

end Go.Proofs.Ytcbcmfmcpdimkaa
