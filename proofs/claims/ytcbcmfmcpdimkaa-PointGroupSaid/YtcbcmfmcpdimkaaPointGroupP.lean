/- Points of the curve are added in any order and grouping, one and the turned one make the zero point, and as often as the order says is none: the given law answers true. No condition. -/
import Derived.Test.YtcbcmfmcpdimkaaPg
import Derived.Test.YtcbcmfmcpdimkaaW
set_option maxRecDepth 100000
set_option linter.unusedSimpArgs false
set_option linter.unusedVariables false
namespace Go.Proofs.Ytcbcmfmcpdimkaa
open Go Go.ChangeShapes Go.WideShapes Go.ChangeAt Go.RowKit Go.Vm

theorem pointGroupOwn : ownKnob Try.prog.godebug = none := by kernel_rfl

set_option maxHeartbeats 4000000 in
theorem pointGroupLifted (os : Os) (started : os.Started) (H : Type) (enc : TypeId × Value → H) :
    ReturnsInHanded {} Try.checked os 6 .any (Rows.pointGroupSpec.pre6 enc Try.prog Try.f6 Rows.pointGroupRow.domain false) (Rows.pointGroupSpec.post enc Try.prog Try.f6 false true false false) := by
  refine returnsInHanded_of_change (C := Try.checked) pointGroupOwn started (by kernel_rfl) Try.func6
    (ChangeSpec.witness6 (enc := enc) (C := Try.checked) false ⟨#[], #[.agg #[.int .u64 0, .int .u64 0, .int .u64 0, .int .u64 0], .agg #[.int .u64 0, .int .u64 0, .int .u64 0, .int .u64 0], .agg #[.int .u64 0, .int .u64 0, .int .u64 0, .int .u64 0]], []⟩ 8 (by kernel_rfl) (by kernel_rfl) (by kernel_rfl) (by kernel_rfl)) ?_
  intro W base args ds gs before hval0 hW hcnd _
  have hval : ∀ (j : Nat) t v, Try.f6.params[j]? = some t → args[j]? = some v → Value.okWide Try.prog W .any base t v := hval0
  have hW' := hW
  obtain ⟨p, q, hA0, hV, rfl, hfz, hnd⟩ := hW
  have hA : DataW.TrodAll enc Try.prog W 0 (fun _ => true) true Try.f6.params.toList args.toList ds p := hA0
  rw [Try.params6] at hA hval
  obtain ⟨v0, v1, v2, d0, d1, d2, p0, p1, p2, rfl, rfl, rfl, h0, h1, h2⟩ := trodAll_three hA
  obtain ⟨rfl, rfl⟩ := trodVars_none hV
  obtain ⟨l0, rfl, rfl, rfl, n0, m0⟩ := open_arr Try.underlying24 Try.underlying22 (by kernel_rfl) (by kernel_rfl) (hval 0 24 v0 rfl rfl) h0
  obtain ⟨l1, rfl, rfl, rfl, n1, m1⟩ := open_arr Try.underlying24 Try.underlying22 (by kernel_rfl) (by kernel_rfl) (hval 1 24 v1 rfl rfl) h1
  obtain ⟨l2, rfl, rfl, rfl, n2, m2⟩ := open_arr Try.underlying24 Try.underlying22 (by kernel_rfl) (by kernel_rfl) (hval 2 24 v2 rfl rfl) h2
  clear hA0 hval0
  simp only [List.append_nil] at hW'
  obtain ⟨a0, ha0, e0⟩ := uV_open n0 m0
  obtain ⟨a1, ha1, e1⟩ := uV_open n1 m1
  obtain ⟨a2, ha2, e2⟩ := uV_open n2 m2
  have hspec : Go.Vm.Spec Try.prog 6 [.pl (.agg (l0.map (Value.int .u64)).toArray), .pl (.agg (l1.map (Value.int .u64)).toArray), .pl (.agg (l2.map (Value.int .u64)).toArray)] (.one (.pl (.bool true))) := by
    rw [e0, e1, e2]
    exact group_law a0 a1 a2 ha0 ha1 ha2
  refine (Go.Vm.Spec.calls Try.func6 rfl (by kernel_rfl) hspec W [(.agg (l0.map (Value.int .u64)).toArray), (.agg (l1.map (Value.int .u64)).toArray), (.agg (l2.map (Value.int .u64)).toArray)] ⟨rfl, rfl, rfl, trivial⟩).mono fun e W' ⟨v, he, hv, hb⟩ => ?_
  subst he
  obtain rfl : v = .bool true := hv
  exact ⟨_, rfl, post_plain hW' (fun _ _ _ => trodAll_mk1 (shut_bool Try.underlying4 true)) (fun sp => trodAll_mk3 (shut_arr Try.underlying24 Try.underlying22 (by kernel_rfl) (by kernel_rfl) n0 m0) (shut_arr Try.underlying24 Try.underlying22 (by kernel_rfl) (by kernel_rfl) n1 m1) (shut_arr Try.underlying24 Try.underlying22 (by kernel_rfl) (by kernel_rfl) n2 m2)) (fun _ => rfl) hb (ok_one (by kernel_rfl) rfl (okWide_bool_mk Try.underlying4 true))⟩

theorem pointGroup_holds : Rows.PointGroupSaid :=
  OpenClaim.holds_of_wide 6 Try.f6 rfl rfl rfl rfl rfl rfl rfl ⟨rfl, rfl, rfl, rfl, rfl⟩ rfl rfl rfl rfl rfl (by kernel_rfl) Try.func6 (by kernel_rfl)
    (of_decide_eq_true (by kernel_rfl)) (by unfold Func.isWrapper; first | (rw [if_pos (by decide +kernel)]; kernel_rfl) | (rw [if_neg (by decide +kernel)]; exact ⟨rfl, rfl⟩))
    (fun os started H enc _ => pointGroupLifted os started H enc)

end Go.Proofs.Ytcbcmfmcpdimkaa
