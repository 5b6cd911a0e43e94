/-
  No cell of these rows narrows 'for every input' (looked for: loops, veiled, ifaces, maps, wideKeys, modest, calm, conditions, laid).
  DERIVED. THE GIVEN ROWS OF THIS SEAT. 8 by the template 'for every input the law returns true; each argument reads behind the call as it read before'; 0 by the template 'total and deterministic' (their statements: YtlbnmnaamphclaaTotals.lean).
  GIVEN WITH THE SEED: the statements are not yours to turn. If you find one false, say at which input.
  Laid BY PROGRAM, IN A SANDBOX (cutbox-rows.mjs): the forced cells as the released guide's own fill.sh prints them over the translation 28a386b8171cae73… (all of the seat's roots in one cut). By AI agents, Wed Nov 11 2026. No macro, syntax, notation, axiom, sorry.
-/
import Derived.Test.YtlbnmnaamphclaaChecked
import GoSem.Claim
import GoSem.ClaimJoined
import GoSem.ClaimMapViews
import Derived.JoinedTies
import Derived.KernelRfl
namespace Go.Proofs.Ytlbnmnaamphclaa
/- THE CELL 'sum', in the pinned program and in every row, IS THE sha256 OF THE DUMP (.gsa) THAT YtlbnmnaamphclaaProg.lean LOADS. Nothing in Lean hashes anything: it is a label: what it is worth is what the hold of that sum in a sandbox is worth. -/
noncomputable def Try.pinned : Pinned := { name := "ytlbnmnaamphclaa", sum := "28a386b8171cae739e8eb4c0b06f8ca18ab5ac761c5f085798da458cbb6eee3d", checked := Try.checked }
namespace Rows
def none {H : Type} : Left H := { results := [], args := [] }

/-- 'stoplinelaw01.FixTurns': WHATEVER THE INPUT: true; the input reads as it did. -/
def fixTurnsSpec : ChangeSpec := { name := "fixTurns", fn := fun _ => fun
  | [d1, d2, d3, d4] => { results := [.lit (.bool true)], args := [d1, d2, d3, d4] }
  | _ => none }
def fixTurnsRow : OpenClaim := { program := "ytlbnmnaamphclaa", sum := "28a386b8171cae739e8eb4c0b06f8ca18ab5ac761c5f085798da458cbb6eee3d", func := "stopline/stoplinelaw01.FixTurns", spec := "fixTurns", inPlace := ["math/bits.Add64"], apart := false }
def FixTurnsSaid : Prop := fixTurnsRow.holds Try.pinned (OpenSpec.ofChange fixTurnsSpec)

/-- ITS FALSE NEIGHBOUR: 'it returns false'. Refute it at one input. -/
def fixTurnsWrong : ChangeSpec := { name := "fixTurns", fn := fun _ => fun
  | [d1, d2, d3, d4] => { results := [.lit (.bool false)], args := [d1, d2, d3, d4] }
  | _ => none }
def FixTurnsWrongFalsely : Prop := fixTurnsRow.holds Try.pinned (OpenSpec.ofChange fixTurnsWrong)

/-- 'stoplinelaw01.FixReckons': WHATEVER THE INPUT: true; the input reads as it did. -/
def fixReckonsSpec : ChangeSpec := { name := "fixReckons", fn := fun _ => fun
  | [d1, d2] => { results := [.lit (.bool true)], args := [d1, d2] }
  | _ => none }
def fixReckonsRow : OpenClaim := { program := "ytlbnmnaamphclaa", sum := "28a386b8171cae739e8eb4c0b06f8ca18ab5ac761c5f085798da458cbb6eee3d", func := "stopline/stoplinelaw01.FixReckons", spec := "fixReckons", inPlace := ["math/bits.Add64"], apart := false }
def FixReckonsSaid : Prop := fixReckonsRow.holds Try.pinned (OpenSpec.ofChange fixReckonsSpec)

/-- ITS FALSE NEIGHBOUR: 'it returns false'. Refute it at one input. -/
def fixReckonsWrong : ChangeSpec := { name := "fixReckons", fn := fun _ => fun
  | [d1, d2] => { results := [.lit (.bool false)], args := [d1, d2] }
  | _ => none }
def FixReckonsWrongFalsely : Prop := fixReckonsRow.holds Try.pinned (OpenSpec.ofChange fixReckonsWrong)

/-- 'stoplinelaw01.FixTwo': WHATEVER THE INPUT: true; the input reads as it did. -/
def fixTwoSpec : ChangeSpec := { name := "fixTwo", fn := fun _ => fun
  | [d1, d2] => { results := [.lit (.bool true)], args := [d1, d2] }
  | _ => none }
def fixTwoRow : OpenClaim := { program := "ytlbnmnaamphclaa", sum := "28a386b8171cae739e8eb4c0b06f8ca18ab5ac761c5f085798da458cbb6eee3d", func := "stopline/stoplinelaw01.FixTwo", spec := "fixTwo", inPlace := ["math/bits.Add64"], apart := false }
def FixTwoSaid : Prop := fixTwoRow.holds Try.pinned (OpenSpec.ofChange fixTwoSpec)

/-- ITS FALSE NEIGHBOUR: 'it returns false'. Refute it at one input. -/
def fixTwoWrong : ChangeSpec := { name := "fixTwo", fn := fun _ => fun
  | [d1, d2] => { results := [.lit (.bool false)], args := [d1, d2] }
  | _ => none }
def FixTwoWrongFalsely : Prop := fixTwoRow.holds Try.pinned (OpenSpec.ofChange fixTwoWrong)

/-- 'stoplinelaw01.FixNear': WHATEVER THE INPUT: true; the input reads as it did. -/
def fixNearSpec : ChangeSpec := { name := "fixNear", fn := fun _ => fun
  | [d1, d2] => { results := [.lit (.bool true)], args := [d1, d2] }
  | _ => none }
def fixNearRow : OpenClaim := { program := "ytlbnmnaamphclaa", sum := "28a386b8171cae739e8eb4c0b06f8ca18ab5ac761c5f085798da458cbb6eee3d", func := "stopline/stoplinelaw01.FixNear", spec := "fixNear", inPlace := ["math/bits.Add64"], apart := false }
def FixNearSaid : Prop := fixNearRow.holds Try.pinned (OpenSpec.ofChange fixNearSpec)

/-- ITS FALSE NEIGHBOUR: 'it returns false'. Refute it at one input. -/
def fixNearWrong : ChangeSpec := { name := "fixNear", fn := fun _ => fun
  | [d1, d2] => { results := [.lit (.bool false)], args := [d1, d2] }
  | _ => none }
def FixNearWrongFalsely : Prop := fixNearRow.holds Try.pinned (OpenSpec.ofChange fixNearWrong)

/-- 'stoplinelaw01.FixOrder': WHATEVER THE INPUT: true; the input reads as it did. -/
def fixOrderSpec : ChangeSpec := { name := "fixOrder", fn := fun _ => fun
  | [d1, d2, d3] => { results := [.lit (.bool true)], args := [d1, d2, d3] }
  | _ => none }
def fixOrderRow : OpenClaim := { program := "ytlbnmnaamphclaa", sum := "28a386b8171cae739e8eb4c0b06f8ca18ab5ac761c5f085798da458cbb6eee3d", func := "stopline/stoplinelaw01.FixOrder", spec := "fixOrder", inPlace := ["math/bits.Add64"], apart := false }
def FixOrderSaid : Prop := fixOrderRow.holds Try.pinned (OpenSpec.ofChange fixOrderSpec)

/-- ITS FALSE NEIGHBOUR: 'it returns false'. Refute it at one input. -/
def fixOrderWrong : ChangeSpec := { name := "fixOrder", fn := fun _ => fun
  | [d1, d2, d3] => { results := [.lit (.bool false)], args := [d1, d2, d3] }
  | _ => none }
def FixOrderWrongFalsely : Prop := fixOrderRow.holds Try.pinned (OpenSpec.ofChange fixOrderWrong)

/-- 'stoplinelaw01.FixBetween': WHATEVER THE INPUT: true; the input reads as it did. -/
def fixBetweenSpec : ChangeSpec := { name := "fixBetween", fn := fun _ => fun
  | [d1, d2, d3, d4] => { results := [.lit (.bool true)], args := [d1, d2, d3, d4] }
  | _ => none }
def fixBetweenRow : OpenClaim := { program := "ytlbnmnaamphclaa", sum := "28a386b8171cae739e8eb4c0b06f8ca18ab5ac761c5f085798da458cbb6eee3d", func := "stopline/stoplinelaw01.FixBetween", spec := "fixBetween", inPlace := ["math/bits.Add64"], apart := false }
def FixBetweenSaid : Prop := fixBetweenRow.holds Try.pinned (OpenSpec.ofChange fixBetweenSpec)

/-- ITS FALSE NEIGHBOUR: 'it returns false'. Refute it at one input. -/
def fixBetweenWrong : ChangeSpec := { name := "fixBetween", fn := fun _ => fun
  | [d1, d2, d3, d4] => { results := [.lit (.bool false)], args := [d1, d2, d3, d4] }
  | _ => none }
def FixBetweenWrongFalsely : Prop := fixBetweenRow.holds Try.pinned (OpenSpec.ofChange fixBetweenWrong)

/-- 'stoplinelaw01.FixNames': WHATEVER THE INPUT: true; the input reads as it did. -/
def fixNamesSpec : ChangeSpec := { name := "fixNames", fn := fun _ => fun
  | [] => { results := [.lit (.bool true)], args := [] }
  | _ => none }
def fixNamesRow : OpenClaim := { program := "ytlbnmnaamphclaa", sum := "28a386b8171cae739e8eb4c0b06f8ca18ab5ac761c5f085798da458cbb6eee3d", func := "stopline/stoplinelaw01.FixNames", spec := "fixNames", inPlace := ["math/bits.Add64"], apart := false }
def FixNamesSaid : Prop := fixNamesRow.holds Try.pinned (OpenSpec.ofChange fixNamesSpec)

/-- ITS FALSE NEIGHBOUR: 'it returns false'. Refute it at one input. -/
def fixNamesWrong : ChangeSpec := { name := "fixNames", fn := fun _ => fun
  | [] => { results := [.lit (.bool false)], args := [] }
  | _ => none }
def FixNamesWrongFalsely : Prop := fixNamesRow.holds Try.pinned (OpenSpec.ofChange fixNamesWrong)

/-- 'stoplinelaw01.FixBounds': WHATEVER THE INPUT: true; the input reads as it did. -/
def fixBoundsSpec : ChangeSpec := { name := "fixBounds", fn := fun _ => fun
  | [d1, d2, d3, d4] => { results := [.lit (.bool true)], args := [d1, d2, d3, d4] }
  | _ => none }
def fixBoundsRow : OpenClaim := { program := "ytlbnmnaamphclaa", sum := "28a386b8171cae739e8eb4c0b06f8ca18ab5ac761c5f085798da458cbb6eee3d", func := "stopline/stoplinelaw01.FixBounds", spec := "fixBounds", inPlace := ["math/bits.Add64"], apart := false }
def FixBoundsSaid : Prop := fixBoundsRow.holds Try.pinned (OpenSpec.ofChange fixBoundsSpec)

/-- ITS FALSE NEIGHBOUR: 'it returns false'. Refute it at one input. -/
def fixBoundsWrong : ChangeSpec := { name := "fixBounds", fn := fun _ => fun
  | [d1, d2, d3, d4] => { results := [.lit (.bool false)], args := [d1, d2, d3, d4] }
  | _ => none }
def FixBoundsWrongFalsely : Prop := fixBoundsRow.holds Try.pinned (OpenSpec.ofChange fixBoundsWrong)

/- THE SECOND FORM. 'bulk': how many values and letters a reading holds, each counted each time it is reached (what is shared counts as often as it is met; a slice's spare places count too). A statement '..UptoSaid' is the law's where the arguments, and the package variables that the reading takes, are together of bulk at most 1048576: NARROWER than '..Said'. Prove '..Said' where nothing that the law and all that it calls make is longer than what came in: it says more and counts as full. Else prove '..UptoSaid'. A law counts once. -/
mutual
def uptoBulk {H : Type} : DataW H → Nat
  | .lit (.string bytes) => bytes.length + 1
  | .lit _ => 1
  | .nil => 1
  | .ptr d => uptoBulk d + 1
  | .slice elems spare => uptoBulkAll elems + uptoBulkAll spare + 1
  | .agg parts => uptoBulkAll parts + 1
  | .iface _ d => uptoBulk d + 1
  | .map entries => uptoBulkEntries entries + 1
  | .held _ => 1
def uptoBulkAll {H : Type} : List (DataW H) → Nat
  | [] => 0
  | d :: r => uptoBulk d + uptoBulkAll r
def uptoBulkEntries {H : Type} : List (Lit × DataW H) → Nat
  | [] => 0
  | x :: r => uptoBulkEntry x + uptoBulkEntries r
def uptoBulkEntry {H : Type} : Lit × DataW H → Nat
  | (.string bytes, d) => bytes.length + uptoBulk d + 1
  | (_, d) => uptoBulk d + 1
 end
def uptoSmall : (H : Type) → List (DataW H) → Bool := fun _ ds => decide (uptoBulkAll ds ≤ 1048576)
def OpenSpec.upto (s : _root_.Go.ChangeSpec) : _root_.Go.OpenSpec := { _root_.Go.OpenSpec.ofChange s with cond := some uptoSmall }

/-- 'stoplinelaw01.FixTurns', WHERE WHAT IT READS IS OF BULK AT MOST 1048576: true; the input reads as it did. -/
def fixTurnsUptoRow : OpenClaim := { program := "ytlbnmnaamphclaa", sum := "28a386b8171cae739e8eb4c0b06f8ca18ab5ac761c5f085798da458cbb6eee3d", func := "stopline/stoplinelaw01.FixTurns", spec := "fixTurns", inPlace := ["math/bits.Add64"], apart := false, narrowed := true }
def FixTurnsUptoSaid : Prop := fixTurnsUptoRow.holds Try.pinned (OpenSpec.upto fixTurnsSpec)

/-- 'stoplinelaw01.FixReckons', WHERE WHAT IT READS IS OF BULK AT MOST 1048576: true; the input reads as it did. -/
def fixReckonsUptoRow : OpenClaim := { program := "ytlbnmnaamphclaa", sum := "28a386b8171cae739e8eb4c0b06f8ca18ab5ac761c5f085798da458cbb6eee3d", func := "stopline/stoplinelaw01.FixReckons", spec := "fixReckons", inPlace := ["math/bits.Add64"], apart := false, narrowed := true }
def FixReckonsUptoSaid : Prop := fixReckonsUptoRow.holds Try.pinned (OpenSpec.upto fixReckonsSpec)

/-- 'stoplinelaw01.FixTwo', WHERE WHAT IT READS IS OF BULK AT MOST 1048576: true; the input reads as it did. -/
def fixTwoUptoRow : OpenClaim := { program := "ytlbnmnaamphclaa", sum := "28a386b8171cae739e8eb4c0b06f8ca18ab5ac761c5f085798da458cbb6eee3d", func := "stopline/stoplinelaw01.FixTwo", spec := "fixTwo", inPlace := ["math/bits.Add64"], apart := false, narrowed := true }
def FixTwoUptoSaid : Prop := fixTwoUptoRow.holds Try.pinned (OpenSpec.upto fixTwoSpec)

/-- 'stoplinelaw01.FixNear', WHERE WHAT IT READS IS OF BULK AT MOST 1048576: true; the input reads as it did. -/
def fixNearUptoRow : OpenClaim := { program := "ytlbnmnaamphclaa", sum := "28a386b8171cae739e8eb4c0b06f8ca18ab5ac761c5f085798da458cbb6eee3d", func := "stopline/stoplinelaw01.FixNear", spec := "fixNear", inPlace := ["math/bits.Add64"], apart := false, narrowed := true }
def FixNearUptoSaid : Prop := fixNearUptoRow.holds Try.pinned (OpenSpec.upto fixNearSpec)

/-- 'stoplinelaw01.FixOrder', WHERE WHAT IT READS IS OF BULK AT MOST 1048576: true; the input reads as it did. -/
def fixOrderUptoRow : OpenClaim := { program := "ytlbnmnaamphclaa", sum := "28a386b8171cae739e8eb4c0b06f8ca18ab5ac761c5f085798da458cbb6eee3d", func := "stopline/stoplinelaw01.FixOrder", spec := "fixOrder", inPlace := ["math/bits.Add64"], apart := false, narrowed := true }
def FixOrderUptoSaid : Prop := fixOrderUptoRow.holds Try.pinned (OpenSpec.upto fixOrderSpec)

/-- 'stoplinelaw01.FixBetween', WHERE WHAT IT READS IS OF BULK AT MOST 1048576: true; the input reads as it did. -/
def fixBetweenUptoRow : OpenClaim := { program := "ytlbnmnaamphclaa", sum := "28a386b8171cae739e8eb4c0b06f8ca18ab5ac761c5f085798da458cbb6eee3d", func := "stopline/stoplinelaw01.FixBetween", spec := "fixBetween", inPlace := ["math/bits.Add64"], apart := false, narrowed := true }
def FixBetweenUptoSaid : Prop := fixBetweenUptoRow.holds Try.pinned (OpenSpec.upto fixBetweenSpec)

/-- 'stoplinelaw01.FixNames', WHERE WHAT IT READS IS OF BULK AT MOST 1048576: true; the input reads as it did. -/
def fixNamesUptoRow : OpenClaim := { program := "ytlbnmnaamphclaa", sum := "28a386b8171cae739e8eb4c0b06f8ca18ab5ac761c5f085798da458cbb6eee3d", func := "stopline/stoplinelaw01.FixNames", spec := "fixNames", inPlace := ["math/bits.Add64"], apart := false, narrowed := true }
def FixNamesUptoSaid : Prop := fixNamesUptoRow.holds Try.pinned (OpenSpec.upto fixNamesSpec)

/-- 'stoplinelaw01.FixBounds', WHERE WHAT IT READS IS OF BULK AT MOST 1048576: true; the input reads as it did. -/
def fixBoundsUptoRow : OpenClaim := { program := "ytlbnmnaamphclaa", sum := "28a386b8171cae739e8eb4c0b06f8ca18ab5ac761c5f085798da458cbb6eee3d", func := "stopline/stoplinelaw01.FixBounds", spec := "fixBounds", inPlace := ["math/bits.Add64"], apart := false, narrowed := true }
def FixBoundsUptoSaid : Prop := fixBoundsUptoRow.holds Try.pinned (OpenSpec.upto fixBoundsSpec)

end Rows
end Go.Proofs.Ytlbnmnaamphclaa
