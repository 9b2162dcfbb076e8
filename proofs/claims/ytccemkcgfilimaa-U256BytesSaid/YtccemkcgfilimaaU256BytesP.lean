/- For any number, text, place and word, the bytes and the bits of the number and the number of the bytes are as the reference says, or there is none: the given law answers true. No condition. -/
import Derived.Test.YtccemkcgfilimaaBytes
import Derived.Test.YtccemkcgfilimaaW
set_option maxRecDepth 100000
set_option linter.unusedSimpArgs false
set_option linter.unusedVariables false
namespace Go.Proofs.Ytccemkcgfilimaa
open Go Go.ChangeShapes Go.WideShapes Go.ChangeAt Go.RowKit Go.Vm

theorem u256BytesOwn : ownKnob Try.prog.godebug = none := by kernel_rfl

set_option maxHeartbeats 4000000 in
theorem u256BytesLifted (os : Os) (started : os.Started) (H : Type) (enc : TypeId × Value → H) :
    ReturnsInHanded {} Try.checked os 6 .any (Rows.u256BytesSpec.pre6 enc Try.prog Try.f6 Rows.u256BytesRow.domain false) (Rows.u256BytesSpec.post enc Try.prog Try.f6 false true false false) := by
  refine returnsInHanded_of_change (C := Try.checked) u256BytesOwn started (by kernel_rfl) Try.func6
    (ChangeSpec.witness6 (enc := enc) (C := Try.checked) false ⟨#[], #[.agg #[.int .u64 0, .int .u64 0, .int .u64 0, .int .u64 0], .string ⟨#[]⟩, .int .i64 0, .int .u64 0], []⟩ 8 (by kernel_rfl) (by kernel_rfl) (by kernel_rfl) (by kernel_rfl)) ?_
  intro W base args ds gs before hval0 hW hcnd _
  have hval : ∀ (j : Nat) t v, Try.f6.params[j]? = some t → args[j]? = some v → Value.okWide Try.prog W .any base t v := hval0
  have hW' := hW
  obtain ⟨p, q, hA0, hV, rfl, hfz, hnd⟩ := hW
  have hA : DataW.TrodAll enc Try.prog W 0 (fun _ => true) true Try.f6.params.toList args.toList ds p := hA0
  rw [Try.params6] at hA hval
  obtain ⟨v0, v1, v2, v3, d0, d1, d2, d3, p0, p1, p2, p3, rfl, rfl, rfl, h0, h1, h2, h3⟩ := trodAll_four hA
  obtain ⟨rfl, rfl⟩ := trodVars_none hV
  obtain ⟨l0, rfl, rfl, rfl, n0, m0⟩ := open_arr Try.underlying24 Try.underlying22 (by kernel_rfl) (by kernel_rfl) (hval 0 24 v0 rfl rfl) h0
  obtain ⟨s1, rfl, rfl, rfl, m1⟩ := Go.ChangeMaps.open_string Try.underlying9 (hval 1 9 v1 rfl rfl) h1
  obtain ⟨z2, rfl, rfl, rfl, m2⟩ := open_int Try.underlying3 (hval 2 3 v2 rfl rfl) h2
  obtain ⟨z3, rfl, rfl, rfl, m3⟩ := open_int Try.underlying22 (hval 3 22 v3 rfl rfl) h3
  clear hA0 hval0
  simp only [List.append_nil] at hW'
  obtain ⟨a0, ha0, e0⟩ := uV_open n0 m0
  have hspec : Go.Vm.Spec Try.prog 6 [.pl (.agg (l0.map (Value.int .u64)).toArray), .pl (.string s1), .pl (.int .i64 z2), .pl (.int .u64 z3)] (.one (.pl (.bool true))) := by
    rw [e0]
    have h2 := wf_i64 m2
    have h3 := wf_u64 m3
    exact bytesl_ok a0 s1 z2 z3 ha0 h2.1 h2.2 h3.1 h3.2
  refine (Go.Vm.Spec.calls Try.func6 rfl (by kernel_rfl) hspec W [(.agg (l0.map (Value.int .u64)).toArray), (.string s1), (.int .i64 z2), (.int .u64 z3)] ⟨rfl, rfl, rfl, rfl, trivial⟩).mono fun e W' ⟨v, he, hv, hb⟩ => ?_
  subst he
  obtain rfl : v = .bool true := hv
  exact ⟨_, rfl, post_plain hW' (fun _ _ _ => trodAll_mk1 (shut_bool Try.underlying4 true)) (fun sp => trodAll_mk4 (shut_arr Try.underlying24 Try.underlying22 (by kernel_rfl) (by kernel_rfl) n0 m0) (Go.ChangeMaps.shut_string Try.underlying9 m1) (shut_int Try.underlying3 m2) (shut_int Try.underlying22 m3)) (fun _ => rfl) hb (ok_one (by kernel_rfl) rfl (okWide_bool_mk Try.underlying4 true))⟩

theorem u256Bytes_holds : Rows.U256BytesSaid :=
  OpenClaim.holds_of_wide 6 Try.f6 rfl rfl rfl rfl rfl rfl rfl ⟨rfl, rfl, rfl, rfl, rfl⟩ rfl rfl rfl rfl rfl (by kernel_rfl) Try.func6 (by kernel_rfl)
    (of_decide_eq_true (by kernel_rfl)) (by unfold Func.isWrapper; first | (rw [if_pos (by decide +kernel)]; kernel_rfl) | (rw [if_neg (by decide +kernel)]; exact ⟨rfl, rfl⟩))
    (fun os started H enc _ => u256BytesLifted os started H enc)

end Go.Proofs.Ytccemkcgfilimaa
