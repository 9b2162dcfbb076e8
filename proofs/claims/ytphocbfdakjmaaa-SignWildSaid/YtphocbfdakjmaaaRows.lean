/-
  No cell of these rows narrows 'for every input' (looked for: loops, veiled, ifaces, maps, wideKeys, modest, calm, conditions, laid).
  DERIVED. THE GIVEN ROWS OF THIS SEAT. 3 by the template 'for every input the law returns true; each argument reads behind the call as it read before'; 0 by the template 'total and deterministic' (their statements: YtphocbfdakjmaaaTotals.lean).
  GIVEN WITH THE SEED: the statements are not yours to turn. If you find one false, say at which input.
  Laid BY PROGRAM, IN A SANDBOX (cutbox-rows.mjs): the forced cells as the released guide's own fill.sh prints them over the translation f77397412f6bb220… (all of the seat's roots in one cut). By AI agents, Wed Nov 11 2026. No macro, syntax, notation, axiom, sorry.
-/
import Derived.Test.YtphocbfdakjmaaaChecked
import GoSem.Claim
import GoSem.ClaimJoined
import GoSem.ClaimMapViews
import Derived.JoinedTies
import Derived.KernelRfl
namespace Go.Proofs.Ytphocbfdakjmaaa
/- THE CELL 'sum', in the pinned program and in every row, IS THE sha256 OF THE DUMP (.gsa) THAT YtphocbfdakjmaaaProg.lean LOADS. Nothing in Lean hashes anything: it is a label: what it is worth is what the hold of that sum in a sandbox is worth. -/
noncomputable def Try.pinned : Pinned := { name := "ytphocbfdakjmaaa", sum := "f77397412f6bb2206956b3401f927984d416d53bd1e591b3bb96fc13b3c990de", checked := Try.checked }
namespace Rows
def none {H : Type} : Left H := { results := [], args := [] }

/-- 'ecclesialaw07.SignAddresses': WHATEVER THE INPUT: true; the input reads as it did. -/
def signAddressesSpec : ChangeSpec := { name := "signAddresses", fn := fun _ => fun
  | [d1, d2] => { results := [.lit (.bool true)], args := [d1, d2] }
  | _ => none }
def signAddressesRow : OpenClaim := { program := "ytphocbfdakjmaaa", sum := "f77397412f6bb2206956b3401f927984d416d53bd1e591b3bb96fc13b3c990de", func := "ecclesia/ecclesialaw07.SignAddresses", spec := "signAddresses", inPlace := ["math/bits.Sub64", "math/bits.Add64", "internal/abi.NoEscape", "internal/bytealg.MakeNoZero"], unfollowed := true, recurses := true, apart := false }
def SignAddressesSaid : Prop := signAddressesRow.holds Try.pinned (OpenSpec.ofChange signAddressesSpec)

/-- ITS FALSE NEIGHBOUR: 'it returns false'. Refute it at one input. -/
def signAddressesWrong : ChangeSpec := { name := "signAddresses", fn := fun _ => fun
  | [d1, d2] => { results := [.lit (.bool false)], args := [d1, d2] }
  | _ => none }
def SignAddressesWrongFalsely : Prop := signAddressesRow.holds Try.pinned (OpenSpec.ofChange signAddressesWrong)

/-- 'ecclesialaw07.SignBytes': WHATEVER THE INPUT: true; the input reads as it did. -/
def signBytesSpec : ChangeSpec := { name := "signBytes", fn := fun _ => fun
  | [d1, d2] => { results := [.lit (.bool true)], args := [d1, d2] }
  | _ => none }
def signBytesRow : OpenClaim := { program := "ytphocbfdakjmaaa", sum := "f77397412f6bb2206956b3401f927984d416d53bd1e591b3bb96fc13b3c990de", func := "ecclesia/ecclesialaw07.SignBytes", spec := "signBytes", inPlace := ["math/bits.Sub64", "math/bits.Add64", "internal/abi.NoEscape", "internal/bytealg.MakeNoZero"], unfollowed := true, recurses := true, apart := false }
def SignBytesSaid : Prop := signBytesRow.holds Try.pinned (OpenSpec.ofChange signBytesSpec)

/-- ITS FALSE NEIGHBOUR: 'it returns false'. Refute it at one input. -/
def signBytesWrong : ChangeSpec := { name := "signBytes", fn := fun _ => fun
  | [d1, d2] => { results := [.lit (.bool false)], args := [d1, d2] }
  | _ => none }
def SignBytesWrongFalsely : Prop := signBytesRow.holds Try.pinned (OpenSpec.ofChange signBytesWrong)

/-- 'ecclesialaw07.SignWild': WHATEVER THE INPUT: true; the input reads as it did. -/
def signWildSpec : ChangeSpec := { name := "signWild", fn := fun _ => fun
  | [d1, d2] => { results := [.lit (.bool true)], args := [d1, d2] }
  | _ => none }
def signWildRow : OpenClaim := { program := "ytphocbfdakjmaaa", sum := "f77397412f6bb2206956b3401f927984d416d53bd1e591b3bb96fc13b3c990de", func := "ecclesia/ecclesialaw07.SignWild", spec := "signWild", inPlace := ["math/bits.Sub64", "math/bits.Add64", "internal/abi.NoEscape", "internal/bytealg.MakeNoZero"], unfollowed := true, recurses := true, apart := false }
def SignWildSaid : Prop := signWildRow.holds Try.pinned (OpenSpec.ofChange signWildSpec)

/-- ITS FALSE NEIGHBOUR: 'it returns false'. Refute it at one input. -/
def signWildWrong : ChangeSpec := { name := "signWild", fn := fun _ => fun
  | [d1, d2] => { results := [.lit (.bool false)], args := [d1, d2] }
  | _ => none }
def SignWildWrongFalsely : Prop := signWildRow.holds Try.pinned (OpenSpec.ofChange signWildWrong)

/- THE SECOND FORM. 'bulk': how many values and letters a reading holds, each counted each time it is reached (what is shared counts as often as it is met; a slice's spare places count too). A statement '..UptoSaid' is the law's where the arguments, and the package variables that the reading takes, are together of bulk at most 1048576: NARROWER than '..Said'. Prove '..Said' where nothing that the law and all that it calls make is longer than what came in: it says more and counts as full. Else prove '..UptoSaid'. A law counts once. -/
mutual
def uptoBulk {H : Type} : DataW H → Nat
  | .lit (.string bytes) => bytes.length + 1
  | .lit _ => 1
  | .nil => 1
  | .ptr d => uptoBulk d + 1
  | .slice elems spare => uptoBulkAll elems + uptoBulkAll spare + 1
  | .agg parts => uptoBulkAll parts + 1
  | .iface _ d => uptoBulk d + 1
  | .map entries => uptoBulkEntries entries + 1
  | .held _ => 1
def uptoBulkAll {H : Type} : List (DataW H) → Nat
  | [] => 0
  | d :: r => uptoBulk d + uptoBulkAll r
def uptoBulkEntries {H : Type} : List (Lit × DataW H) → Nat
  | [] => 0
  | x :: r => uptoBulkEntry x + uptoBulkEntries r
def uptoBulkEntry {H : Type} : Lit × DataW H → Nat
  | (.string bytes, d) => bytes.length + uptoBulk d + 1
  | (_, d) => uptoBulk d + 1
 end
def uptoSmall : (H : Type) → List (DataW H) → Bool := fun _ ds => decide (uptoBulkAll ds ≤ 1048576)
def OpenSpec.upto (s : _root_.Go.ChangeSpec) : _root_.Go.OpenSpec := { _root_.Go.OpenSpec.ofChange s with cond := some uptoSmall }

/-- 'ecclesialaw07.SignAddresses', WHERE WHAT IT READS IS OF BULK AT MOST 1048576: true; the input reads as it did. -/
def signAddressesUptoRow : OpenClaim := { program := "ytphocbfdakjmaaa", sum := "f77397412f6bb2206956b3401f927984d416d53bd1e591b3bb96fc13b3c990de", func := "ecclesia/ecclesialaw07.SignAddresses", spec := "signAddresses", inPlace := ["math/bits.Sub64", "math/bits.Add64", "internal/abi.NoEscape", "internal/bytealg.MakeNoZero"], unfollowed := true, recurses := true, apart := false, narrowed := true }
def SignAddressesUptoSaid : Prop := signAddressesUptoRow.holds Try.pinned (OpenSpec.upto signAddressesSpec)

/-- 'ecclesialaw07.SignBytes', WHERE WHAT IT READS IS OF BULK AT MOST 1048576: true; the input reads as it did. -/
def signBytesUptoRow : OpenClaim := { program := "ytphocbfdakjmaaa", sum := "f77397412f6bb2206956b3401f927984d416d53bd1e591b3bb96fc13b3c990de", func := "ecclesia/ecclesialaw07.SignBytes", spec := "signBytes", inPlace := ["math/bits.Sub64", "math/bits.Add64", "internal/abi.NoEscape", "internal/bytealg.MakeNoZero"], unfollowed := true, recurses := true, apart := false, narrowed := true }
def SignBytesUptoSaid : Prop := signBytesUptoRow.holds Try.pinned (OpenSpec.upto signBytesSpec)

/-- 'ecclesialaw07.SignWild', WHERE WHAT IT READS IS OF BULK AT MOST 1048576: true; the input reads as it did. -/
def signWildUptoRow : OpenClaim := { program := "ytphocbfdakjmaaa", sum := "f77397412f6bb2206956b3401f927984d416d53bd1e591b3bb96fc13b3c990de", func := "ecclesia/ecclesialaw07.SignWild", spec := "signWild", inPlace := ["math/bits.Sub64", "math/bits.Add64", "internal/abi.NoEscape", "internal/bytealg.MakeNoZero"], unfollowed := true, recurses := true, apart := false, narrowed := true }
def SignWildUptoSaid : Prop := signWildUptoRow.holds Try.pinned (OpenSpec.upto signWildSpec)

end Rows
end Go.Proofs.Ytphocbfdakjmaaa
