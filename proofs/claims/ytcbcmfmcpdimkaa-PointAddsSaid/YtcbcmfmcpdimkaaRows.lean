/-
  No cell of these rows narrows 'for every input' (looked for: loops, veiled, ifaces, maps, wideKeys, modest, calm, conditions, laid).
  DERIVED. THE GIVEN ROWS OF THIS SEAT. 6 by the template 'for every input the law returns true; each argument reads behind the call as it read before'; 0 by the template 'total and deterministic' (their statements: YtcbcmfmcpdimkaaTotals.lean).
  GIVEN WITH THE SEED: the statements are not yours to turn. If you find one false, say at which input.
  Laid BY PROGRAM, IN A SANDBOX (cutbox-rows.mjs): the forced cells as the released guide's own fill.sh prints them over the translation f8f120103374d330… (all of the seat's roots in one cut). By AI agents, Wed Nov 11 2026. No macro, syntax, notation, axiom, sorry.
-/
import Derived.Test.YtcbcmfmcpdimkaaChecked
import GoSem.Claim
import GoSem.ClaimJoined
import GoSem.ClaimMapViews
import Derived.JoinedTies
import Derived.KernelRfl
namespace Go.Proofs.Ytcbcmfmcpdimkaa
/- THE CELL 'sum', in the pinned program and in every row, IS THE sha256 OF THE DUMP (.gsa) THAT YtcbcmfmcpdimkaaProg.lean LOADS. Nothing in Lean hashes anything: it is a label: what it is worth is what the hold of that sum in a sandbox is worth. -/
noncomputable def Try.pinned : Pinned := { name := "ytcbcmfmcpdimkaa", sum := "f8f120103374d33076de04da489b4300884adc8853699a4ff78c95a47e58a720", checked := Try.checked }
namespace Rows
def none {H : Type} : Left H := { results := [], args := [] }

/-- 'ecclesialaw06.PointTimes': WHATEVER THE INPUT: true; the input reads as it did. -/
def pointTimesSpec : ChangeSpec := { name := "pointTimes", fn := fun _ => fun
  | [d1, d2] => { results := [.lit (.bool true)], args := [d1, d2] }
  | _ => none }
def pointTimesRow : OpenClaim := { program := "ytcbcmfmcpdimkaa", sum := "f8f120103374d33076de04da489b4300884adc8853699a4ff78c95a47e58a720", func := "ecclesia/ecclesialaw06.PointTimes", spec := "pointTimes", inPlace := ["math/bits.Sub64", "math/bits.Add64"], unfollowed := true, recurses := true, apart := false }
def PointTimesSaid : Prop := pointTimesRow.holds Try.pinned (OpenSpec.ofChange pointTimesSpec)

/-- ITS FALSE NEIGHBOUR: 'it returns false'. Refute it at one input. -/
def pointTimesWrong : ChangeSpec := { name := "pointTimes", fn := fun _ => fun
  | [d1, d2] => { results := [.lit (.bool false)], args := [d1, d2] }
  | _ => none }
def PointTimesWrongFalsely : Prop := pointTimesRow.holds Try.pinned (OpenSpec.ofChange pointTimesWrong)

/-- 'ecclesialaw06.PointBoth': WHATEVER THE INPUT: true; the input reads as it did. -/
def pointBothSpec : ChangeSpec := { name := "pointBoth", fn := fun _ => fun
  | [d1, d2, d3] => { results := [.lit (.bool true)], args := [d1, d2, d3] }
  | _ => none }
def pointBothRow : OpenClaim := { program := "ytcbcmfmcpdimkaa", sum := "f8f120103374d33076de04da489b4300884adc8853699a4ff78c95a47e58a720", func := "ecclesia/ecclesialaw06.PointBoth", spec := "pointBoth", inPlace := ["math/bits.Sub64", "math/bits.Add64"], unfollowed := true, recurses := true, apart := false }
def PointBothSaid : Prop := pointBothRow.holds Try.pinned (OpenSpec.ofChange pointBothSpec)

/-- ITS FALSE NEIGHBOUR: 'it returns false'. Refute it at one input. -/
def pointBothWrong : ChangeSpec := { name := "pointBoth", fn := fun _ => fun
  | [d1, d2, d3] => { results := [.lit (.bool false)], args := [d1, d2, d3] }
  | _ => none }
def PointBothWrongFalsely : Prop := pointBothRow.holds Try.pinned (OpenSpec.ofChange pointBothWrong)

/-- 'ecclesialaw06.PointAdds': WHATEVER THE INPUT: true; the input reads as it did. -/
def pointAddsSpec : ChangeSpec := { name := "pointAdds", fn := fun _ => fun
  | [d1, d2, d3, d4, d5] => { results := [.lit (.bool true)], args := [d1, d2, d3, d4, d5] }
  | _ => none }
def pointAddsRow : OpenClaim := { program := "ytcbcmfmcpdimkaa", sum := "f8f120103374d33076de04da489b4300884adc8853699a4ff78c95a47e58a720", func := "ecclesia/ecclesialaw06.PointAdds", spec := "pointAdds", inPlace := ["math/bits.Sub64", "math/bits.Add64"], unfollowed := true, recurses := true, apart := false }
def PointAddsSaid : Prop := pointAddsRow.holds Try.pinned (OpenSpec.ofChange pointAddsSpec)

/-- ITS FALSE NEIGHBOUR: 'it returns false'. Refute it at one input. -/
def pointAddsWrong : ChangeSpec := { name := "pointAdds", fn := fun _ => fun
  | [d1, d2, d3, d4, d5] => { results := [.lit (.bool false)], args := [d1, d2, d3, d4, d5] }
  | _ => none }
def PointAddsWrongFalsely : Prop := pointAddsRow.holds Try.pinned (OpenSpec.ofChange pointAddsWrong)

/-- 'ecclesialaw06.PointGroup': WHATEVER THE INPUT: true; the input reads as it did. -/
def pointGroupSpec : ChangeSpec := { name := "pointGroup", fn := fun _ => fun
  | [d1, d2, d3] => { results := [.lit (.bool true)], args := [d1, d2, d3] }
  | _ => none }
def pointGroupRow : OpenClaim := { program := "ytcbcmfmcpdimkaa", sum := "f8f120103374d33076de04da489b4300884adc8853699a4ff78c95a47e58a720", func := "ecclesia/ecclesialaw06.PointGroup", spec := "pointGroup", inPlace := ["math/bits.Sub64", "math/bits.Add64"], unfollowed := true, recurses := true, apart := false }
def PointGroupSaid : Prop := pointGroupRow.holds Try.pinned (OpenSpec.ofChange pointGroupSpec)

/-- ITS FALSE NEIGHBOUR: 'it returns false'. Refute it at one input. -/
def pointGroupWrong : ChangeSpec := { name := "pointGroup", fn := fun _ => fun
  | [d1, d2, d3] => { results := [.lit (.bool false)], args := [d1, d2, d3] }
  | _ => none }
def PointGroupWrongFalsely : Prop := pointGroupRow.holds Try.pinned (OpenSpec.ofChange pointGroupWrong)

/-- 'ecclesialaw06.PointTurned': WHATEVER THE INPUT: true; the input reads as it did. -/
def pointTurnedSpec : ChangeSpec := { name := "pointTurned", fn := fun _ => fun
  | [d1, d2] => { results := [.lit (.bool true)], args := [d1, d2] }
  | _ => none }
def pointTurnedRow : OpenClaim := { program := "ytcbcmfmcpdimkaa", sum := "f8f120103374d33076de04da489b4300884adc8853699a4ff78c95a47e58a720", func := "ecclesia/ecclesialaw06.PointTurned", spec := "pointTurned", inPlace := ["math/bits.Sub64", "math/bits.Add64"], unfollowed := true, recurses := true, apart := false }
def PointTurnedSaid : Prop := pointTurnedRow.holds Try.pinned (OpenSpec.ofChange pointTurnedSpec)

/-- ITS FALSE NEIGHBOUR: 'it returns false'. Refute it at one input. -/
def pointTurnedWrong : ChangeSpec := { name := "pointTurned", fn := fun _ => fun
  | [d1, d2] => { results := [.lit (.bool false)], args := [d1, d2] }
  | _ => none }
def PointTurnedWrongFalsely : Prop := pointTurnedRow.holds Try.pinned (OpenSpec.ofChange pointTurnedWrong)

/-- 'ecclesialaw06.PointLifts': WHATEVER THE INPUT: true; the input reads as it did. -/
def pointLiftsSpec : ChangeSpec := { name := "pointLifts", fn := fun _ => fun
  | [d1, d2] => { results := [.lit (.bool true)], args := [d1, d2] }
  | _ => none }
def pointLiftsRow : OpenClaim := { program := "ytcbcmfmcpdimkaa", sum := "f8f120103374d33076de04da489b4300884adc8853699a4ff78c95a47e58a720", func := "ecclesia/ecclesialaw06.PointLifts", spec := "pointLifts", inPlace := ["math/bits.Sub64", "math/bits.Add64"], unfollowed := true, recurses := true, apart := false }
def PointLiftsSaid : Prop := pointLiftsRow.holds Try.pinned (OpenSpec.ofChange pointLiftsSpec)

/-- ITS FALSE NEIGHBOUR: 'it returns false'. Refute it at one input. -/
def pointLiftsWrong : ChangeSpec := { name := "pointLifts", fn := fun _ => fun
  | [d1, d2] => { results := [.lit (.bool false)], args := [d1, d2] }
  | _ => none }
def PointLiftsWrongFalsely : Prop := pointLiftsRow.holds Try.pinned (OpenSpec.ofChange pointLiftsWrong)

/- THE SECOND FORM. 'bulk': how many values and letters a reading holds, each counted each time it is reached (what is shared counts as often as it is met; a slice's spare places count too). A statement '..UptoSaid' is the law's where the arguments, and the package variables that the reading takes, are together of bulk at most 1048576: NARROWER than '..Said'. Prove '..Said' where nothing that the law and all that it calls make is longer than what came in: it says more and counts as full. Else prove '..UptoSaid'. A law counts once. -/
mutual
def uptoBulk {H : Type} : DataW H → Nat
  | .lit (.string bytes) => bytes.length + 1
  | .lit _ => 1
  | .nil => 1
  | .ptr d => uptoBulk d + 1
  | .slice elems spare => uptoBulkAll elems + uptoBulkAll spare + 1
  | .agg parts => uptoBulkAll parts + 1
  | .iface _ d => uptoBulk d + 1
  | .map entries => uptoBulkEntries entries + 1
  | .held _ => 1
def uptoBulkAll {H : Type} : List (DataW H) → Nat
  | [] => 0
  | d :: r => uptoBulk d + uptoBulkAll r
def uptoBulkEntries {H : Type} : List (Lit × DataW H) → Nat
  | [] => 0
  | x :: r => uptoBulkEntry x + uptoBulkEntries r
def uptoBulkEntry {H : Type} : Lit × DataW H → Nat
  | (.string bytes, d) => bytes.length + uptoBulk d + 1
  | (_, d) => uptoBulk d + 1
 end
def uptoSmall : (H : Type) → List (DataW H) → Bool := fun _ ds => decide (uptoBulkAll ds ≤ 1048576)
def OpenSpec.upto (s : _root_.Go.ChangeSpec) : _root_.Go.OpenSpec := { _root_.Go.OpenSpec.ofChange s with cond := some uptoSmall }

/-- 'ecclesialaw06.PointTimes', WHERE WHAT IT READS IS OF BULK AT MOST 1048576: true; the input reads as it did. -/
def pointTimesUptoRow : OpenClaim := { program := "ytcbcmfmcpdimkaa", sum := "f8f120103374d33076de04da489b4300884adc8853699a4ff78c95a47e58a720", func := "ecclesia/ecclesialaw06.PointTimes", spec := "pointTimes", inPlace := ["math/bits.Sub64", "math/bits.Add64"], unfollowed := true, recurses := true, apart := false, narrowed := true }
def PointTimesUptoSaid : Prop := pointTimesUptoRow.holds Try.pinned (OpenSpec.upto pointTimesSpec)

/-- 'ecclesialaw06.PointBoth', WHERE WHAT IT READS IS OF BULK AT MOST 1048576: true; the input reads as it did. -/
def pointBothUptoRow : OpenClaim := { program := "ytcbcmfmcpdimkaa", sum := "f8f120103374d33076de04da489b4300884adc8853699a4ff78c95a47e58a720", func := "ecclesia/ecclesialaw06.PointBoth", spec := "pointBoth", inPlace := ["math/bits.Sub64", "math/bits.Add64"], unfollowed := true, recurses := true, apart := false, narrowed := true }
def PointBothUptoSaid : Prop := pointBothUptoRow.holds Try.pinned (OpenSpec.upto pointBothSpec)

/-- 'ecclesialaw06.PointAdds', WHERE WHAT IT READS IS OF BULK AT MOST 1048576: true; the input reads as it did. -/
def pointAddsUptoRow : OpenClaim := { program := "ytcbcmfmcpdimkaa", sum := "f8f120103374d33076de04da489b4300884adc8853699a4ff78c95a47e58a720", func := "ecclesia/ecclesialaw06.PointAdds", spec := "pointAdds", inPlace := ["math/bits.Sub64", "math/bits.Add64"], unfollowed := true, recurses := true, apart := false, narrowed := true }
def PointAddsUptoSaid : Prop := pointAddsUptoRow.holds Try.pinned (OpenSpec.upto pointAddsSpec)

/-- 'ecclesialaw06.PointGroup', WHERE WHAT IT READS IS OF BULK AT MOST 1048576: true; the input reads as it did. -/
def pointGroupUptoRow : OpenClaim := { program := "ytcbcmfmcpdimkaa", sum := "f8f120103374d33076de04da489b4300884adc8853699a4ff78c95a47e58a720", func := "ecclesia/ecclesialaw06.PointGroup", spec := "pointGroup", inPlace := ["math/bits.Sub64", "math/bits.Add64"], unfollowed := true, recurses := true, apart := false, narrowed := true }
def PointGroupUptoSaid : Prop := pointGroupUptoRow.holds Try.pinned (OpenSpec.upto pointGroupSpec)

/-- 'ecclesialaw06.PointTurned', WHERE WHAT IT READS IS OF BULK AT MOST 1048576: true; the input reads as it did. -/
def pointTurnedUptoRow : OpenClaim := { program := "ytcbcmfmcpdimkaa", sum := "f8f120103374d33076de04da489b4300884adc8853699a4ff78c95a47e58a720", func := "ecclesia/ecclesialaw06.PointTurned", spec := "pointTurned", inPlace := ["math/bits.Sub64", "math/bits.Add64"], unfollowed := true, recurses := true, apart := false, narrowed := true }
def PointTurnedUptoSaid : Prop := pointTurnedUptoRow.holds Try.pinned (OpenSpec.upto pointTurnedSpec)

/-- 'ecclesialaw06.PointLifts', WHERE WHAT IT READS IS OF BULK AT MOST 1048576: true; the input reads as it did. -/
def pointLiftsUptoRow : OpenClaim := { program := "ytcbcmfmcpdimkaa", sum := "f8f120103374d33076de04da489b4300884adc8853699a4ff78c95a47e58a720", func := "ecclesia/ecclesialaw06.PointLifts", spec := "pointLifts", inPlace := ["math/bits.Sub64", "math/bits.Add64"], unfollowed := true, recurses := true, apart := false, narrowed := true }
def PointLiftsUptoSaid : Prop := pointLiftsUptoRow.holds Try.pinned (OpenSpec.upto pointLiftsSpec)

end Rows
end Go.Proofs.Ytcbcmfmcpdimkaa
