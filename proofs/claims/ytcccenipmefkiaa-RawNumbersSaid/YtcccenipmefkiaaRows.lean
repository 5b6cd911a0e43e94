/-
  No cell of these rows narrows 'for every input' (looked for: loops, veiled, ifaces, maps, wideKeys, modest, calm, conditions, laid).
  DERIVED. THE GIVEN ROWS OF THIS SEAT. 6 by the template 'for every input the law returns true; each argument reads behind the call as it read before'; 0 by the template 'total and deterministic' (their statements: YtcccenipmefkiaaTotals.lean).
  GIVEN WITH THE SEED: the statements are not yours to turn. If you find one false, say at which input.
  Laid BY PROGRAM, IN A SANDBOX (cutbox-rows.mjs): the forced cells as the released guide's own fill.sh prints them over the translation bd84e3c78030f989… (all of the seat's roots in one cut). By AI agents, Wed Nov 11 2026. No macro, syntax, notation, axiom, sorry.
-/
import Derived.Test.YtcccenipmefkiaaChecked
import GoSem.Claim
import GoSem.ClaimJoined
import GoSem.ClaimMapViews
import Derived.JoinedTies
import Derived.KernelRfl
namespace Go.Proofs.Ytcccenipmefkiaa
/- THE CELL 'sum', in the pinned program and in every row, IS THE sha256 OF THE DUMP (.gsa) THAT YtcccenipmefkiaaProg.lean LOADS. Nothing in Lean hashes anything: it is a label: what it is worth is what the hold of that sum in a sandbox is worth. -/
noncomputable def Try.pinned : Pinned := { name := "ytcccenipmefkiaa", sum := "bd84e3c78030f989b8cd5b2c7436e9add273981ba1c5b5cb1a032442c34795e7", checked := Try.checked }
namespace Rows
def none {H : Type} : Left H := { results := [], args := [] }

/-- 'stoplinelaw03.RawSums': WHATEVER THE INPUT: true; the input reads as it did. -/
def rawSumsSpec : ChangeSpec := { name := "rawSums", fn := fun _ => fun
  | [d] => { results := [.lit (.bool true)], args := [d] }
  | _ => none }
def rawSumsRow : OpenClaim := { program := "ytcccenipmefkiaa", sum := "bd84e3c78030f989b8cd5b2c7436e9add273981ba1c5b5cb1a032442c34795e7", func := "stopline/stoplinelaw03.RawSums", spec := "rawSums", apart := false }
def RawSumsSaid : Prop := rawSumsRow.holds Try.pinned (OpenSpec.ofChange rawSumsSpec)

/-- ITS FALSE NEIGHBOUR: 'it returns false'. Refute it at one input. -/
def rawSumsWrong : ChangeSpec := { name := "rawSums", fn := fun _ => fun
  | [d] => { results := [.lit (.bool false)], args := [d] }
  | _ => none }
def RawSumsWrongFalsely : Prop := rawSumsRow.holds Try.pinned (OpenSpec.ofChange rawSumsWrong)

/-- 'stoplinelaw03.RawShort': WHATEVER THE INPUT: true; the input reads as it did. -/
def rawShortSpec : ChangeSpec := { name := "rawShort", fn := fun _ => fun
  | [d] => { results := [.lit (.bool true)], args := [d] }
  | _ => none }
def rawShortRow : OpenClaim := { program := "ytcccenipmefkiaa", sum := "bd84e3c78030f989b8cd5b2c7436e9add273981ba1c5b5cb1a032442c34795e7", func := "stopline/stoplinelaw03.RawShort", spec := "rawShort", apart := false }
def RawShortSaid : Prop := rawShortRow.holds Try.pinned (OpenSpec.ofChange rawShortSpec)

/-- ITS FALSE NEIGHBOUR: 'it returns false'. Refute it at one input. -/
def rawShortWrong : ChangeSpec := { name := "rawShort", fn := fun _ => fun
  | [d] => { results := [.lit (.bool false)], args := [d] }
  | _ => none }
def RawShortWrongFalsely : Prop := rawShortRow.holds Try.pinned (OpenSpec.ofChange rawShortWrong)

/-- 'stoplinelaw03.RawNumbers': WHATEVER THE INPUT: true; the input reads as it did. -/
def rawNumbersSpec : ChangeSpec := { name := "rawNumbers", fn := fun _ => fun
  | [d1, d2, d3] => { results := [.lit (.bool true)], args := [d1, d2, d3] }
  | _ => none }
def rawNumbersRow : OpenClaim := { program := "ytcccenipmefkiaa", sum := "bd84e3c78030f989b8cd5b2c7436e9add273981ba1c5b5cb1a032442c34795e7", func := "stopline/stoplinelaw03.RawNumbers", spec := "rawNumbers", apart := false }
def RawNumbersSaid : Prop := rawNumbersRow.holds Try.pinned (OpenSpec.ofChange rawNumbersSpec)

/-- ITS FALSE NEIGHBOUR: 'it returns false'. Refute it at one input. -/
def rawNumbersWrong : ChangeSpec := { name := "rawNumbers", fn := fun _ => fun
  | [d1, d2, d3] => { results := [.lit (.bool false)], args := [d1, d2, d3] }
  | _ => none }
def RawNumbersWrongFalsely : Prop := rawNumbersRow.holds Try.pinned (OpenSpec.ofChange rawNumbersWrong)

/-- 'stoplinelaw03.RawOnly': WHATEVER THE INPUT: true; the input reads as it did. -/
def rawOnlySpec : ChangeSpec := { name := "rawOnly", fn := fun _ => fun
  | [d] => { results := [.lit (.bool true)], args := [d] }
  | _ => none }
def rawOnlyRow : OpenClaim := { program := "ytcccenipmefkiaa", sum := "bd84e3c78030f989b8cd5b2c7436e9add273981ba1c5b5cb1a032442c34795e7", func := "stopline/stoplinelaw03.RawOnly", spec := "rawOnly", apart := false }
def RawOnlySaid : Prop := rawOnlyRow.holds Try.pinned (OpenSpec.ofChange rawOnlySpec)

/-- ITS FALSE NEIGHBOUR: 'it returns false'. Refute it at one input. -/
def rawOnlyWrong : ChangeSpec := { name := "rawOnly", fn := fun _ => fun
  | [d] => { results := [.lit (.bool false)], args := [d] }
  | _ => none }
def RawOnlyWrongFalsely : Prop := rawOnlyRow.holds Try.pinned (OpenSpec.ofChange rawOnlyWrong)

/-- 'stoplinelaw03.RawNames': WHATEVER THE INPUT: true; the input reads as it did. -/
def rawNamesSpec : ChangeSpec := { name := "rawNames", fn := fun _ => fun
  | [] => { results := [.lit (.bool true)], args := [] }
  | _ => none }
def rawNamesRow : OpenClaim := { program := "ytcccenipmefkiaa", sum := "bd84e3c78030f989b8cd5b2c7436e9add273981ba1c5b5cb1a032442c34795e7", func := "stopline/stoplinelaw03.RawNames", spec := "rawNames", apart := false }
def RawNamesSaid : Prop := rawNamesRow.holds Try.pinned (OpenSpec.ofChange rawNamesSpec)

/-- ITS FALSE NEIGHBOUR: 'it returns false'. Refute it at one input. -/
def rawNamesWrong : ChangeSpec := { name := "rawNames", fn := fun _ => fun
  | [] => { results := [.lit (.bool false)], args := [] }
  | _ => none }
def RawNamesWrongFalsely : Prop := rawNamesRow.holds Try.pinned (OpenSpec.ofChange rawNamesWrong)

/-- 'stoplinelaw03.RawBack': WHATEVER THE INPUT: true; the input reads as it did. -/
def rawBackSpec : ChangeSpec := { name := "rawBack", fn := fun _ => fun
  | [d1, d2, d3] => { results := [.lit (.bool true)], args := [d1, d2, d3] }
  | _ => none }
def rawBackRow : OpenClaim := { program := "ytcccenipmefkiaa", sum := "bd84e3c78030f989b8cd5b2c7436e9add273981ba1c5b5cb1a032442c34795e7", func := "stopline/stoplinelaw03.RawBack", spec := "rawBack", apart := false }
def RawBackSaid : Prop := rawBackRow.holds Try.pinned (OpenSpec.ofChange rawBackSpec)

/-- ITS FALSE NEIGHBOUR: 'it returns false'. Refute it at one input. -/
def rawBackWrong : ChangeSpec := { name := "rawBack", fn := fun _ => fun
  | [d1, d2, d3] => { results := [.lit (.bool false)], args := [d1, d2, d3] }
  | _ => none }
def RawBackWrongFalsely : Prop := rawBackRow.holds Try.pinned (OpenSpec.ofChange rawBackWrong)

/- THE SECOND FORM. 'bulk': how many values and letters a reading holds, each counted each time it is reached (what is shared counts as often as it is met; a slice's spare places count too). A statement '..UptoSaid' is the law's where the arguments, and the package variables that the reading takes, are together of bulk at most 1048576: NARROWER than '..Said'. Prove '..Said' where nothing that the law and all that it calls make is longer than what came in: it says more and counts as full. Else prove '..UptoSaid'. A law counts once. -/
mutual
def uptoBulk {H : Type} : DataW H → Nat
  | .lit (.string bytes) => bytes.length + 1
  | .lit _ => 1
  | .nil => 1
  | .ptr d => uptoBulk d + 1
  | .slice elems spare => uptoBulkAll elems + uptoBulkAll spare + 1
  | .agg parts => uptoBulkAll parts + 1
  | .iface _ d => uptoBulk d + 1
  | .map entries => uptoBulkEntries entries + 1
  | .held _ => 1
def uptoBulkAll {H : Type} : List (DataW H) → Nat
  | [] => 0
  | d :: r => uptoBulk d + uptoBulkAll r
def uptoBulkEntries {H : Type} : List (Lit × DataW H) → Nat
  | [] => 0
  | x :: r => uptoBulkEntry x + uptoBulkEntries r
def uptoBulkEntry {H : Type} : Lit × DataW H → Nat
  | (.string bytes, d) => bytes.length + uptoBulk d + 1
  | (_, d) => uptoBulk d + 1
 end
def uptoSmall : (H : Type) → List (DataW H) → Bool := fun _ ds => decide (uptoBulkAll ds ≤ 1048576)
def OpenSpec.upto (s : _root_.Go.ChangeSpec) : _root_.Go.OpenSpec := { _root_.Go.OpenSpec.ofChange s with cond := some uptoSmall }

/-- 'stoplinelaw03.RawSums', WHERE WHAT IT READS IS OF BULK AT MOST 1048576: true; the input reads as it did. -/
def rawSumsUptoRow : OpenClaim := { program := "ytcccenipmefkiaa", sum := "bd84e3c78030f989b8cd5b2c7436e9add273981ba1c5b5cb1a032442c34795e7", func := "stopline/stoplinelaw03.RawSums", spec := "rawSums", apart := false, narrowed := true }
def RawSumsUptoSaid : Prop := rawSumsUptoRow.holds Try.pinned (OpenSpec.upto rawSumsSpec)

/-- 'stoplinelaw03.RawShort', WHERE WHAT IT READS IS OF BULK AT MOST 1048576: true; the input reads as it did. -/
def rawShortUptoRow : OpenClaim := { program := "ytcccenipmefkiaa", sum := "bd84e3c78030f989b8cd5b2c7436e9add273981ba1c5b5cb1a032442c34795e7", func := "stopline/stoplinelaw03.RawShort", spec := "rawShort", apart := false, narrowed := true }
def RawShortUptoSaid : Prop := rawShortUptoRow.holds Try.pinned (OpenSpec.upto rawShortSpec)

/-- 'stoplinelaw03.RawNumbers', WHERE WHAT IT READS IS OF BULK AT MOST 1048576: true; the input reads as it did. -/
def rawNumbersUptoRow : OpenClaim := { program := "ytcccenipmefkiaa", sum := "bd84e3c78030f989b8cd5b2c7436e9add273981ba1c5b5cb1a032442c34795e7", func := "stopline/stoplinelaw03.RawNumbers", spec := "rawNumbers", apart := false, narrowed := true }
def RawNumbersUptoSaid : Prop := rawNumbersUptoRow.holds Try.pinned (OpenSpec.upto rawNumbersSpec)

/-- 'stoplinelaw03.RawOnly', WHERE WHAT IT READS IS OF BULK AT MOST 1048576: true; the input reads as it did. -/
def rawOnlyUptoRow : OpenClaim := { program := "ytcccenipmefkiaa", sum := "bd84e3c78030f989b8cd5b2c7436e9add273981ba1c5b5cb1a032442c34795e7", func := "stopline/stoplinelaw03.RawOnly", spec := "rawOnly", apart := false, narrowed := true }
def RawOnlyUptoSaid : Prop := rawOnlyUptoRow.holds Try.pinned (OpenSpec.upto rawOnlySpec)

/-- 'stoplinelaw03.RawNames', WHERE WHAT IT READS IS OF BULK AT MOST 1048576: true; the input reads as it did. -/
def rawNamesUptoRow : OpenClaim := { program := "ytcccenipmefkiaa", sum := "bd84e3c78030f989b8cd5b2c7436e9add273981ba1c5b5cb1a032442c34795e7", func := "stopline/stoplinelaw03.RawNames", spec := "rawNames", apart := false, narrowed := true }
def RawNamesUptoSaid : Prop := rawNamesUptoRow.holds Try.pinned (OpenSpec.upto rawNamesSpec)

/-- 'stoplinelaw03.RawBack', WHERE WHAT IT READS IS OF BULK AT MOST 1048576: true; the input reads as it did. -/
def rawBackUptoRow : OpenClaim := { program := "ytcccenipmefkiaa", sum := "bd84e3c78030f989b8cd5b2c7436e9add273981ba1c5b5cb1a032442c34795e7", func := "stopline/stoplinelaw03.RawBack", spec := "rawBack", apart := false, narrowed := true }
def RawBackUptoSaid : Prop := rawBackUptoRow.holds Try.pinned (OpenSpec.upto rawBackSpec)

end Rows
end Go.Proofs.Ytcccenipmefkiaa
