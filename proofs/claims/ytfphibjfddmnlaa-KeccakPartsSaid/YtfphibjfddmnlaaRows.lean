/-
  No cell of these rows narrows 'for every input' (looked for: loops, veiled, ifaces, maps, wideKeys, modest, calm, conditions, laid).
  DERIVED. THE GIVEN ROWS OF THIS SEAT. 4 by the template 'for every input the law returns true; each argument reads behind the call as it read before'; 0 by the template 'total and deterministic' (their statements: YtfphibjfddmnlaaTotals.lean).
  GIVEN WITH THE SEED: the statements are not yours to turn. If you find one false, say at which input.
  Laid BY PROGRAM, IN A SANDBOX (cutbox-rows.mjs): the forced cells as the released guide's own fill.sh prints them over the translation 7a64590170eba0f6… (all of the seat's roots in one cut). By AI agents, Wed Nov 11 2026. No macro, syntax, notation, axiom, sorry.
-/
import Derived.Test.YtfphibjfddmnlaaChecked
import GoSem.Claim
import GoSem.ClaimJoined
import GoSem.ClaimMapViews
import Derived.JoinedTies
import Derived.KernelRfl
namespace Go.Proofs.Ytfphibjfddmnlaa
/- THE CELL 'sum', in the pinned program and in every row, IS THE sha256 OF THE DUMP (.gsa) THAT YtfphibjfddmnlaaProg.lean LOADS. Nothing in Lean hashes anything: it is a label: what it is worth is what the hold of that sum in a sandbox is worth. -/
noncomputable def Try.pinned : Pinned := { name := "ytfphibjfddmnlaa", sum := "7a64590170eba0f65ce34c103848a91eb8b87803bcaf19e9e494bcd2f8c41318", checked := Try.checked }
namespace Rows
def none {H : Type} : Left H := { results := [], args := [] }

/-- 'ecclesialaw03.KeccakSums': WHATEVER THE INPUT: true; the input reads as it did. -/
def keccakSumsSpec : ChangeSpec := { name := "keccakSums", fn := fun _ => fun
  | [d] => { results := [.lit (.bool true)], args := [d] }
  | _ => none }
def keccakSumsRow : OpenClaim := { program := "ytfphibjfddmnlaa", sum := "7a64590170eba0f65ce34c103848a91eb8b87803bcaf19e9e494bcd2f8c41318", func := "ecclesia/ecclesialaw03.KeccakSums", spec := "keccakSums", apart := false }
def KeccakSumsSaid : Prop := keccakSumsRow.holds Try.pinned (OpenSpec.ofChange keccakSumsSpec)

/-- ITS FALSE NEIGHBOUR: 'it returns false'. Refute it at one input. -/
def keccakSumsWrong : ChangeSpec := { name := "keccakSums", fn := fun _ => fun
  | [d] => { results := [.lit (.bool false)], args := [d] }
  | _ => none }
def KeccakSumsWrongFalsely : Prop := keccakSumsRow.holds Try.pinned (OpenSpec.ofChange keccakSumsWrong)

/-- 'ecclesialaw03.KeccakMixes': WHATEVER THE INPUT: true; the input reads as it did. -/
def keccakMixesSpec : ChangeSpec := { name := "keccakMixes", fn := fun _ => fun
  | [d] => { results := [.lit (.bool true)], args := [d] }
  | _ => none }
def keccakMixesRow : OpenClaim := { program := "ytfphibjfddmnlaa", sum := "7a64590170eba0f65ce34c103848a91eb8b87803bcaf19e9e494bcd2f8c41318", func := "ecclesia/ecclesialaw03.KeccakMixes", spec := "keccakMixes", apart := false }
def KeccakMixesSaid : Prop := keccakMixesRow.holds Try.pinned (OpenSpec.ofChange keccakMixesSpec)

/-- ITS FALSE NEIGHBOUR: 'it returns false'. Refute it at one input. -/
def keccakMixesWrong : ChangeSpec := { name := "keccakMixes", fn := fun _ => fun
  | [d] => { results := [.lit (.bool false)], args := [d] }
  | _ => none }
def KeccakMixesWrongFalsely : Prop := keccakMixesRow.holds Try.pinned (OpenSpec.ofChange keccakMixesWrong)

/-- 'ecclesialaw03.KeccakTurns': WHATEVER THE INPUT: true; the input reads as it did. -/
def keccakTurnsSpec : ChangeSpec := { name := "keccakTurns", fn := fun _ => fun
  | [d1, d2, d3] => { results := [.lit (.bool true)], args := [d1, d2, d3] }
  | _ => none }
def keccakTurnsRow : OpenClaim := { program := "ytfphibjfddmnlaa", sum := "7a64590170eba0f65ce34c103848a91eb8b87803bcaf19e9e494bcd2f8c41318", func := "ecclesia/ecclesialaw03.KeccakTurns", spec := "keccakTurns", apart := false }
def KeccakTurnsSaid : Prop := keccakTurnsRow.holds Try.pinned (OpenSpec.ofChange keccakTurnsSpec)

/-- ITS FALSE NEIGHBOUR: 'it returns false'. Refute it at one input. -/
def keccakTurnsWrong : ChangeSpec := { name := "keccakTurns", fn := fun _ => fun
  | [d1, d2, d3] => { results := [.lit (.bool false)], args := [d1, d2, d3] }
  | _ => none }
def KeccakTurnsWrongFalsely : Prop := keccakTurnsRow.holds Try.pinned (OpenSpec.ofChange keccakTurnsWrong)

/-- 'ecclesialaw03.KeccakParts': WHATEVER THE INPUT: true; the input reads as it did. -/
def keccakPartsSpec : ChangeSpec := { name := "keccakParts", fn := fun _ => fun
  | [d1, d2, d3] => { results := [.lit (.bool true)], args := [d1, d2, d3] }
  | _ => none }
def keccakPartsRow : OpenClaim := { program := "ytfphibjfddmnlaa", sum := "7a64590170eba0f65ce34c103848a91eb8b87803bcaf19e9e494bcd2f8c41318", func := "ecclesia/ecclesialaw03.KeccakParts", spec := "keccakParts", inPlace := ["internal/abi.NoEscape", "internal/bytealg.MakeNoZero"], apart := false }
def KeccakPartsSaid : Prop := keccakPartsRow.holds Try.pinned (OpenSpec.ofChange keccakPartsSpec)

/-- ITS FALSE NEIGHBOUR: 'it returns false'. Refute it at one input. -/
def keccakPartsWrong : ChangeSpec := { name := "keccakParts", fn := fun _ => fun
  | [d1, d2, d3] => { results := [.lit (.bool false)], args := [d1, d2, d3] }
  | _ => none }
def KeccakPartsWrongFalsely : Prop := keccakPartsRow.holds Try.pinned (OpenSpec.ofChange keccakPartsWrong)

/- THE SECOND FORM. 'bulk': how many values and letters a reading holds, each counted each time it is reached (what is shared counts as often as it is met; a slice's spare places count too). A statement '..UptoSaid' is the law's where the arguments, and the package variables that the reading takes, are together of bulk at most 1048576: NARROWER than '..Said'. Prove '..Said' where nothing that the law and all that it calls make is longer than what came in: it says more and counts as full. Else prove '..UptoSaid'. A law counts once. -/
mutual
def uptoBulk {H : Type} : DataW H → Nat
  | .lit (.string bytes) => bytes.length + 1
  | .lit _ => 1
  | .nil => 1
  | .ptr d => uptoBulk d + 1
  | .slice elems spare => uptoBulkAll elems + uptoBulkAll spare + 1
  | .agg parts => uptoBulkAll parts + 1
  | .iface _ d => uptoBulk d + 1
  | .map entries => uptoBulkEntries entries + 1
  | .held _ => 1
def uptoBulkAll {H : Type} : List (DataW H) → Nat
  | [] => 0
  | d :: r => uptoBulk d + uptoBulkAll r
def uptoBulkEntries {H : Type} : List (Lit × DataW H) → Nat
  | [] => 0
  | x :: r => uptoBulkEntry x + uptoBulkEntries r
def uptoBulkEntry {H : Type} : Lit × DataW H → Nat
  | (.string bytes, d) => bytes.length + uptoBulk d + 1
  | (_, d) => uptoBulk d + 1
 end
def uptoSmall : (H : Type) → List (DataW H) → Bool := fun _ ds => decide (uptoBulkAll ds ≤ 1048576)
def OpenSpec.upto (s : _root_.Go.ChangeSpec) : _root_.Go.OpenSpec := { _root_.Go.OpenSpec.ofChange s with cond := some uptoSmall }

/-- 'ecclesialaw03.KeccakSums', WHERE WHAT IT READS IS OF BULK AT MOST 1048576: true; the input reads as it did. -/
def keccakSumsUptoRow : OpenClaim := { program := "ytfphibjfddmnlaa", sum := "7a64590170eba0f65ce34c103848a91eb8b87803bcaf19e9e494bcd2f8c41318", func := "ecclesia/ecclesialaw03.KeccakSums", spec := "keccakSums", apart := false, narrowed := true }
def KeccakSumsUptoSaid : Prop := keccakSumsUptoRow.holds Try.pinned (OpenSpec.upto keccakSumsSpec)

/-- 'ecclesialaw03.KeccakMixes', WHERE WHAT IT READS IS OF BULK AT MOST 1048576: true; the input reads as it did. -/
def keccakMixesUptoRow : OpenClaim := { program := "ytfphibjfddmnlaa", sum := "7a64590170eba0f65ce34c103848a91eb8b87803bcaf19e9e494bcd2f8c41318", func := "ecclesia/ecclesialaw03.KeccakMixes", spec := "keccakMixes", apart := false, narrowed := true }
def KeccakMixesUptoSaid : Prop := keccakMixesUptoRow.holds Try.pinned (OpenSpec.upto keccakMixesSpec)

/-- 'ecclesialaw03.KeccakTurns', WHERE WHAT IT READS IS OF BULK AT MOST 1048576: true; the input reads as it did. -/
def keccakTurnsUptoRow : OpenClaim := { program := "ytfphibjfddmnlaa", sum := "7a64590170eba0f65ce34c103848a91eb8b87803bcaf19e9e494bcd2f8c41318", func := "ecclesia/ecclesialaw03.KeccakTurns", spec := "keccakTurns", apart := false, narrowed := true }
def KeccakTurnsUptoSaid : Prop := keccakTurnsUptoRow.holds Try.pinned (OpenSpec.upto keccakTurnsSpec)

/-- 'ecclesialaw03.KeccakParts', WHERE WHAT IT READS IS OF BULK AT MOST 1048576: true; the input reads as it did. -/
def keccakPartsUptoRow : OpenClaim := { program := "ytfphibjfddmnlaa", sum := "7a64590170eba0f65ce34c103848a91eb8b87803bcaf19e9e494bcd2f8c41318", func := "ecclesia/ecclesialaw03.KeccakParts", spec := "keccakParts", inPlace := ["internal/abi.NoEscape", "internal/bytealg.MakeNoZero"], apart := false, narrowed := true }
def KeccakPartsUptoSaid : Prop := keccakPartsUptoRow.holds Try.pinned (OpenSpec.upto keccakPartsSpec)

end Rows
end Go.Proofs.Ytfphibjfddmnlaa
