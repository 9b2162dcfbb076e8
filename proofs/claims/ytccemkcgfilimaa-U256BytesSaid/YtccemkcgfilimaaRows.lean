/-
  No cell of these rows narrows 'for every input' (looked for: loops, veiled, ifaces, maps, wideKeys, modest, calm, conditions, laid).
  DERIVED. THE GIVEN ROWS OF THIS SEAT. 7 by the template 'for every input the law returns true; each argument reads behind the call as it read before'; 0 by the template 'total and deterministic' (their statements: YtccemkcgfilimaaTotals.lean).
  GIVEN WITH THE SEED: the statements are not yours to turn. If you find one false, say at which input.
  Laid BY PROGRAM, IN A SANDBOX (cutbox-rows.mjs): the forced cells as the released guide's own fill.sh prints them over the translation d5e6fbe29a1d31d2… (all of the seat's roots in one cut). By AI agents, Wed Nov 11 2026. No macro, syntax, notation, axiom, sorry.
-/
import Derived.Test.YtccemkcgfilimaaChecked
import GoSem.Claim
import GoSem.ClaimJoined
import GoSem.ClaimMapViews
import Derived.JoinedTies
import Derived.KernelRfl
namespace Go.Proofs.Ytccemkcgfilimaa
/- THE CELL 'sum', in the pinned program and in every row, IS THE sha256 OF THE DUMP (.gsa) THAT YtccemkcgfilimaaProg.lean LOADS. Nothing in Lean hashes anything: it is a label: what it is worth is what the hold of that sum in a sandbox is worth. -/
noncomputable def Try.pinned : Pinned := { name := "ytccemkcgfilimaa", sum := "d5e6fbe29a1d31d256bdc9eabb8226773e11c112a6fd62db30eca751c82e52d3", checked := Try.checked }
namespace Rows
def none {H : Type} : Left H := { results := [], args := [] }

/-- 'ecclesialaw01.U256Sums': WHATEVER THE INPUT: true; the input reads as it did. -/
def u256SumsSpec : ChangeSpec := { name := "u256Sums", fn := fun _ => fun
  | [d1, d2] => { results := [.lit (.bool true)], args := [d1, d2] }
  | _ => none }
def u256SumsRow : OpenClaim := { program := "ytccemkcgfilimaa", sum := "d5e6fbe29a1d31d256bdc9eabb8226773e11c112a6fd62db30eca751c82e52d3", func := "ecclesia/ecclesialaw01.U256Sums", spec := "u256Sums", inPlace := ["math/bits.Add64", "math/bits.Sub64"], apart := false }
def U256SumsSaid : Prop := u256SumsRow.holds Try.pinned (OpenSpec.ofChange u256SumsSpec)

/-- ITS FALSE NEIGHBOUR: 'it returns false'. Refute it at one input. -/
def u256SumsWrong : ChangeSpec := { name := "u256Sums", fn := fun _ => fun
  | [d1, d2] => { results := [.lit (.bool false)], args := [d1, d2] }
  | _ => none }
def U256SumsWrongFalsely : Prop := u256SumsRow.holds Try.pinned (OpenSpec.ofChange u256SumsWrong)

/-- 'ecclesialaw01.U256Bits': WHATEVER THE INPUT: true; the input reads as it did. -/
def u256BitsSpec : ChangeSpec := { name := "u256Bits", fn := fun _ => fun
  | [d] => { results := [.lit (.bool true)], args := [d] }
  | _ => none }
def u256BitsRow : OpenClaim := { program := "ytccemkcgfilimaa", sum := "d5e6fbe29a1d31d256bdc9eabb8226773e11c112a6fd62db30eca751c82e52d3", func := "ecclesia/ecclesialaw01.U256Bits", spec := "u256Bits", inPlace := ["math/bits.Add64"], apart := false }
def U256BitsSaid : Prop := u256BitsRow.holds Try.pinned (OpenSpec.ofChange u256BitsSpec)

/-- ITS FALSE NEIGHBOUR: 'it returns false'. Refute it at one input. -/
def u256BitsWrong : ChangeSpec := { name := "u256Bits", fn := fun _ => fun
  | [d] => { results := [.lit (.bool false)], args := [d] }
  | _ => none }
def U256BitsWrongFalsely : Prop := u256BitsRow.holds Try.pinned (OpenSpec.ofChange u256BitsWrong)

/-- 'ecclesialaw01.U256Products': WHATEVER THE INPUT: true; the input reads as it did. -/
def u256ProductsSpec : ChangeSpec := { name := "u256Products", fn := fun _ => fun
  | [d1, d2] => { results := [.lit (.bool true)], args := [d1, d2] }
  | _ => none }
def u256ProductsRow : OpenClaim := { program := "ytccemkcgfilimaa", sum := "d5e6fbe29a1d31d256bdc9eabb8226773e11c112a6fd62db30eca751c82e52d3", func := "ecclesia/ecclesialaw01.U256Products", spec := "u256Products", inPlace := ["math/bits.Add64"], apart := false }
def U256ProductsSaid : Prop := u256ProductsRow.holds Try.pinned (OpenSpec.ofChange u256ProductsSpec)

/-- ITS FALSE NEIGHBOUR: 'it returns false'. Refute it at one input. -/
def u256ProductsWrong : ChangeSpec := { name := "u256Products", fn := fun _ => fun
  | [d1, d2] => { results := [.lit (.bool false)], args := [d1, d2] }
  | _ => none }
def U256ProductsWrongFalsely : Prop := u256ProductsRow.holds Try.pinned (OpenSpec.ofChange u256ProductsWrong)

/-- 'ecclesialaw01.U256Bytes': WHATEVER THE INPUT: true; the input reads as it did. -/
def u256BytesSpec : ChangeSpec := { name := "u256Bytes", fn := fun _ => fun
  | [d1, d2, d3, d4] => { results := [.lit (.bool true)], args := [d1, d2, d3, d4] }
  | _ => none }
def u256BytesRow : OpenClaim := { program := "ytccemkcgfilimaa", sum := "d5e6fbe29a1d31d256bdc9eabb8226773e11c112a6fd62db30eca751c82e52d3", func := "ecclesia/ecclesialaw01.U256Bytes", spec := "u256Bytes", inPlace := ["math/bits.Add64"], apart := false }
def U256BytesSaid : Prop := u256BytesRow.holds Try.pinned (OpenSpec.ofChange u256BytesSpec)

/-- ITS FALSE NEIGHBOUR: 'it returns false'. Refute it at one input. -/
def u256BytesWrong : ChangeSpec := { name := "u256Bytes", fn := fun _ => fun
  | [d1, d2, d3, d4] => { results := [.lit (.bool false)], args := [d1, d2, d3, d4] }
  | _ => none }
def U256BytesWrongFalsely : Prop := u256BytesRow.holds Try.pinned (OpenSpec.ofChange u256BytesWrong)

/-- 'ecclesialaw01.U256Lefts': WHATEVER THE INPUT: true; the input reads as it did. -/
def u256LeftsSpec : ChangeSpec := { name := "u256Lefts", fn := fun _ => fun
  | [d1, d2, d3] => { results := [.lit (.bool true)], args := [d1, d2, d3] }
  | _ => none }
def u256LeftsRow : OpenClaim := { program := "ytccemkcgfilimaa", sum := "d5e6fbe29a1d31d256bdc9eabb8226773e11c112a6fd62db30eca751c82e52d3", func := "ecclesia/ecclesialaw01.U256Lefts", spec := "u256Lefts", inPlace := ["math/bits.Add64", "math/bits.Sub64"], apart := false }
def U256LeftsSaid : Prop := u256LeftsRow.holds Try.pinned (OpenSpec.ofChange u256LeftsSpec)

/-- ITS FALSE NEIGHBOUR: 'it returns false'. Refute it at one input. -/
def u256LeftsWrong : ChangeSpec := { name := "u256Lefts", fn := fun _ => fun
  | [d1, d2, d3] => { results := [.lit (.bool false)], args := [d1, d2, d3] }
  | _ => none }
def U256LeftsWrongFalsely : Prop := u256LeftsRow.holds Try.pinned (OpenSpec.ofChange u256LeftsWrong)

/-- 'ecclesialaw01.U256Rules': WHATEVER THE INPUT: true; the input reads as it did. -/
def u256RulesSpec : ChangeSpec := { name := "u256Rules", fn := fun _ => fun
  | [d1, d2, d3] => { results := [.lit (.bool true)], args := [d1, d2, d3] }
  | _ => none }
def u256RulesRow : OpenClaim := { program := "ytccemkcgfilimaa", sum := "d5e6fbe29a1d31d256bdc9eabb8226773e11c112a6fd62db30eca751c82e52d3", func := "ecclesia/ecclesialaw01.U256Rules", spec := "u256Rules", inPlace := ["math/bits.Add64", "math/bits.Sub64"], apart := false }
def U256RulesSaid : Prop := u256RulesRow.holds Try.pinned (OpenSpec.ofChange u256RulesSpec)

/-- ITS FALSE NEIGHBOUR: 'it returns false'. Refute it at one input. -/
def u256RulesWrong : ChangeSpec := { name := "u256Rules", fn := fun _ => fun
  | [d1, d2, d3] => { results := [.lit (.bool false)], args := [d1, d2, d3] }
  | _ => none }
def U256RulesWrongFalsely : Prop := u256RulesRow.holds Try.pinned (OpenSpec.ofChange u256RulesWrong)

/-- 'ecclesialaw01.U256Shares': WHATEVER THE INPUT: true; the input reads as it did. -/
def u256SharesSpec : ChangeSpec := { name := "u256Shares", fn := fun _ => fun
  | [d1, d2, d3, d4] => { results := [.lit (.bool true)], args := [d1, d2, d3, d4] }
  | _ => none }
def u256SharesRow : OpenClaim := { program := "ytccemkcgfilimaa", sum := "d5e6fbe29a1d31d256bdc9eabb8226773e11c112a6fd62db30eca751c82e52d3", func := "ecclesia/ecclesialaw01.U256Shares", spec := "u256Shares", inPlace := ["math/bits.Add64", "math/bits.Sub64"], apart := false }
def U256SharesSaid : Prop := u256SharesRow.holds Try.pinned (OpenSpec.ofChange u256SharesSpec)

/-- ITS FALSE NEIGHBOUR: 'it returns false'. Refute it at one input. -/
def u256SharesWrong : ChangeSpec := { name := "u256Shares", fn := fun _ => fun
  | [d1, d2, d3, d4] => { results := [.lit (.bool false)], args := [d1, d2, d3, d4] }
  | _ => none }
def U256SharesWrongFalsely : Prop := u256SharesRow.holds Try.pinned (OpenSpec.ofChange u256SharesWrong)

/- THE SECOND FORM. 'bulk': how many values and letters a reading holds, each counted each time it is reached (what is shared counts as often as it is met; a slice's spare places count too). A statement '..UptoSaid' is the law's where the arguments, and the package variables that the reading takes, are together of bulk at most 1048576: NARROWER than '..Said'. Prove '..Said' where nothing that the law and all that it calls make is longer than what came in: it says more and counts as full. Else prove '..UptoSaid'. A law counts once. -/
mutual
def uptoBulk {H : Type} : DataW H → Nat
  | .lit (.string bytes) => bytes.length + 1
  | .lit _ => 1
  | .nil => 1
  | .ptr d => uptoBulk d + 1
  | .slice elems spare => uptoBulkAll elems + uptoBulkAll spare + 1
  | .agg parts => uptoBulkAll parts + 1
  | .iface _ d => uptoBulk d + 1
  | .map entries => uptoBulkEntries entries + 1
  | .held _ => 1
def uptoBulkAll {H : Type} : List (DataW H) → Nat
  | [] => 0
  | d :: r => uptoBulk d + uptoBulkAll r
def uptoBulkEntries {H : Type} : List (Lit × DataW H) → Nat
  | [] => 0
  | x :: r => uptoBulkEntry x + uptoBulkEntries r
def uptoBulkEntry {H : Type} : Lit × DataW H → Nat
  | (.string bytes, d) => bytes.length + uptoBulk d + 1
  | (_, d) => uptoBulk d + 1
 end
def uptoSmall : (H : Type) → List (DataW H) → Bool := fun _ ds => decide (uptoBulkAll ds ≤ 1048576)
def OpenSpec.upto (s : _root_.Go.ChangeSpec) : _root_.Go.OpenSpec := { _root_.Go.OpenSpec.ofChange s with cond := some uptoSmall }

/-- 'ecclesialaw01.U256Sums', WHERE WHAT IT READS IS OF BULK AT MOST 1048576: true; the input reads as it did. -/
def u256SumsUptoRow : OpenClaim := { program := "ytccemkcgfilimaa", sum := "d5e6fbe29a1d31d256bdc9eabb8226773e11c112a6fd62db30eca751c82e52d3", func := "ecclesia/ecclesialaw01.U256Sums", spec := "u256Sums", inPlace := ["math/bits.Add64", "math/bits.Sub64"], apart := false, narrowed := true }
def U256SumsUptoSaid : Prop := u256SumsUptoRow.holds Try.pinned (OpenSpec.upto u256SumsSpec)

/-- 'ecclesialaw01.U256Bits', WHERE WHAT IT READS IS OF BULK AT MOST 1048576: true; the input reads as it did. -/
def u256BitsUptoRow : OpenClaim := { program := "ytccemkcgfilimaa", sum := "d5e6fbe29a1d31d256bdc9eabb8226773e11c112a6fd62db30eca751c82e52d3", func := "ecclesia/ecclesialaw01.U256Bits", spec := "u256Bits", inPlace := ["math/bits.Add64"], apart := false, narrowed := true }
def U256BitsUptoSaid : Prop := u256BitsUptoRow.holds Try.pinned (OpenSpec.upto u256BitsSpec)

/-- 'ecclesialaw01.U256Products', WHERE WHAT IT READS IS OF BULK AT MOST 1048576: true; the input reads as it did. -/
def u256ProductsUptoRow : OpenClaim := { program := "ytccemkcgfilimaa", sum := "d5e6fbe29a1d31d256bdc9eabb8226773e11c112a6fd62db30eca751c82e52d3", func := "ecclesia/ecclesialaw01.U256Products", spec := "u256Products", inPlace := ["math/bits.Add64"], apart := false, narrowed := true }
def U256ProductsUptoSaid : Prop := u256ProductsUptoRow.holds Try.pinned (OpenSpec.upto u256ProductsSpec)

/-- 'ecclesialaw01.U256Bytes', WHERE WHAT IT READS IS OF BULK AT MOST 1048576: true; the input reads as it did. -/
def u256BytesUptoRow : OpenClaim := { program := "ytccemkcgfilimaa", sum := "d5e6fbe29a1d31d256bdc9eabb8226773e11c112a6fd62db30eca751c82e52d3", func := "ecclesia/ecclesialaw01.U256Bytes", spec := "u256Bytes", inPlace := ["math/bits.Add64"], apart := false, narrowed := true }
def U256BytesUptoSaid : Prop := u256BytesUptoRow.holds Try.pinned (OpenSpec.upto u256BytesSpec)

/-- 'ecclesialaw01.U256Lefts', WHERE WHAT IT READS IS OF BULK AT MOST 1048576: true; the input reads as it did. -/
def u256LeftsUptoRow : OpenClaim := { program := "ytccemkcgfilimaa", sum := "d5e6fbe29a1d31d256bdc9eabb8226773e11c112a6fd62db30eca751c82e52d3", func := "ecclesia/ecclesialaw01.U256Lefts", spec := "u256Lefts", inPlace := ["math/bits.Add64", "math/bits.Sub64"], apart := false, narrowed := true }
def U256LeftsUptoSaid : Prop := u256LeftsUptoRow.holds Try.pinned (OpenSpec.upto u256LeftsSpec)

/-- 'ecclesialaw01.U256Rules', WHERE WHAT IT READS IS OF BULK AT MOST 1048576: true; the input reads as it did. -/
def u256RulesUptoRow : OpenClaim := { program := "ytccemkcgfilimaa", sum := "d5e6fbe29a1d31d256bdc9eabb8226773e11c112a6fd62db30eca751c82e52d3", func := "ecclesia/ecclesialaw01.U256Rules", spec := "u256Rules", inPlace := ["math/bits.Add64", "math/bits.Sub64"], apart := false, narrowed := true }
def U256RulesUptoSaid : Prop := u256RulesUptoRow.holds Try.pinned (OpenSpec.upto u256RulesSpec)

/-- 'ecclesialaw01.U256Shares', WHERE WHAT IT READS IS OF BULK AT MOST 1048576: true; the input reads as it did. -/
def u256SharesUptoRow : OpenClaim := { program := "ytccemkcgfilimaa", sum := "d5e6fbe29a1d31d256bdc9eabb8226773e11c112a6fd62db30eca751c82e52d3", func := "ecclesia/ecclesialaw01.U256Shares", spec := "u256Shares", inPlace := ["math/bits.Add64", "math/bits.Sub64"], apart := false, narrowed := true }
def U256SharesUptoSaid : Prop := u256SharesUptoRow.holds Try.pinned (OpenSpec.upto u256SharesSpec)

end Rows
end Go.Proofs.Ytccemkcgfilimaa
