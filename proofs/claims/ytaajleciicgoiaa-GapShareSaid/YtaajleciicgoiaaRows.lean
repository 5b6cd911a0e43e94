/-
  No cell of these rows narrows 'for every input' (looked for: loops, veiled, ifaces, maps, wideKeys, modest, calm, conditions, laid).
  DERIVED. THE GIVEN ROWS OF THIS SEAT. 6 by the template 'for every input the law returns true; each argument reads behind the call as it read before'; 0 by the template 'total and deterministic' (their statements: YtaajleciicgoiaaTotals.lean).
  GIVEN WITH THE SEED: the statements are not yours to turn. If you find one false, say at which input.
  Laid BY PROGRAM, IN A SANDBOX (cutbox-rows.mjs): the forced cells as the released guide's own fill.sh prints them over the translation 87506ca734ae3c80… (all of the seat's roots in one cut). By AI agents, Wed Nov 11 2026. No macro, syntax, notation, axiom, sorry.
-/
import Derived.Test.YtaajleciicgoiaaChecked
import GoSem.Claim
import GoSem.ClaimJoined
import GoSem.ClaimMapViews
import Derived.JoinedTies
import Derived.KernelRfl
namespace Go.Proofs.Ytaajleciicgoiaa
/- THE CELL 'sum', in the pinned program and in every row, IS THE sha256 OF THE DUMP (.gsa) THAT YtaajleciicgoiaaProg.lean LOADS. Nothing in Lean hashes anything: it is a label: what it is worth is what the hold of that sum in a sandbox is worth. -/
noncomputable def Try.pinned : Pinned := { name := "ytaajleciicgoiaa", sum := "87506ca734ae3c809de2d1ff79bdb7d89f100f5b4c4f2345750f59a141363427", checked := Try.checked }
namespace Rows
def none {H : Type} : Left H := { results := [], args := [] }

/-- 'stoplinelaw12.GapRuns': WHATEVER THE INPUT: true; the input reads as it did. -/
def gapRunsSpec : ChangeSpec := { name := "gapRuns", fn := fun _ => fun
  | [d] => { results := [.lit (.bool true)], args := [d] }
  | _ => none }
def gapRunsRow : OpenClaim := { program := "ytaajleciicgoiaa", sum := "87506ca734ae3c809de2d1ff79bdb7d89f100f5b4c4f2345750f59a141363427", func := "stopline/stoplinelaw12.GapRuns", spec := "gapRuns", apart := false }
def GapRunsSaid : Prop := gapRunsRow.holds Try.pinned (OpenSpec.ofChange gapRunsSpec)

/-- ITS FALSE NEIGHBOUR: 'it returns false'. Refute it at one input. -/
def gapRunsWrong : ChangeSpec := { name := "gapRuns", fn := fun _ => fun
  | [d] => { results := [.lit (.bool false)], args := [d] }
  | _ => none }
def GapRunsWrongFalsely : Prop := gapRunsRow.holds Try.pinned (OpenSpec.ofChange gapRunsWrong)

/-- 'stoplinelaw12.GapStays': WHATEVER THE INPUT: true; the input reads as it did. -/
def gapStaysSpec : ChangeSpec := { name := "gapStays", fn := fun _ => fun
  | [d1, d2, d3] => { results := [.lit (.bool true)], args := [d1, d2, d3] }
  | _ => none }
def gapStaysRow : OpenClaim := { program := "ytaajleciicgoiaa", sum := "87506ca734ae3c809de2d1ff79bdb7d89f100f5b4c4f2345750f59a141363427", func := "stopline/stoplinelaw12.GapStays", spec := "gapStays", apart := false }
def GapStaysSaid : Prop := gapStaysRow.holds Try.pinned (OpenSpec.ofChange gapStaysSpec)

/-- ITS FALSE NEIGHBOUR: 'it returns false'. Refute it at one input. -/
def gapStaysWrong : ChangeSpec := { name := "gapStays", fn := fun _ => fun
  | [d1, d2, d3] => { results := [.lit (.bool false)], args := [d1, d2, d3] }
  | _ => none }
def GapStaysWrongFalsely : Prop := gapStaysRow.holds Try.pinned (OpenSpec.ofChange gapStaysWrong)

/-- 'stoplinelaw12.GapPast': WHATEVER THE INPUT: true; the input reads as it did. -/
def gapPastSpec : ChangeSpec := { name := "gapPast", fn := fun _ => fun
  | [d1, d2, d3] => { results := [.lit (.bool true)], args := [d1, d2, d3] }
  | _ => none }
def gapPastRow : OpenClaim := { program := "ytaajleciicgoiaa", sum := "87506ca734ae3c809de2d1ff79bdb7d89f100f5b4c4f2345750f59a141363427", func := "stopline/stoplinelaw12.GapPast", spec := "gapPast", apart := false }
def GapPastSaid : Prop := gapPastRow.holds Try.pinned (OpenSpec.ofChange gapPastSpec)

/-- ITS FALSE NEIGHBOUR: 'it returns false'. Refute it at one input. -/
def gapPastWrong : ChangeSpec := { name := "gapPast", fn := fun _ => fun
  | [d1, d2, d3] => { results := [.lit (.bool false)], args := [d1, d2, d3] }
  | _ => none }
def GapPastWrongFalsely : Prop := gapPastRow.holds Try.pinned (OpenSpec.ofChange gapPastWrong)

/-- 'stoplinelaw12.GapShare': WHATEVER THE INPUT: true; the input reads as it did. -/
def gapShareSpec : ChangeSpec := { name := "gapShare", fn := fun _ => fun
  | [d1, d2] => { results := [.lit (.bool true)], args := [d1, d2] }
  | _ => none }
def gapShareRow : OpenClaim := { program := "ytaajleciicgoiaa", sum := "87506ca734ae3c809de2d1ff79bdb7d89f100f5b4c4f2345750f59a141363427", func := "stopline/stoplinelaw12.GapShare", spec := "gapShare", apart := false }
def GapShareSaid : Prop := gapShareRow.holds Try.pinned (OpenSpec.ofChange gapShareSpec)

/-- ITS FALSE NEIGHBOUR: 'it returns false'. Refute it at one input. -/
def gapShareWrong : ChangeSpec := { name := "gapShare", fn := fun _ => fun
  | [d1, d2] => { results := [.lit (.bool false)], args := [d1, d2] }
  | _ => none }
def GapShareWrongFalsely : Prop := gapShareRow.holds Try.pinned (OpenSpec.ofChange gapShareWrong)

/-- 'stoplinelaw12.GapNames': WHATEVER THE INPUT: true; the input reads as it did. -/
def gapNamesSpec : ChangeSpec := { name := "gapNames", fn := fun _ => fun
  | [] => { results := [.lit (.bool true)], args := [] }
  | _ => none }
def gapNamesRow : OpenClaim := { program := "ytaajleciicgoiaa", sum := "87506ca734ae3c809de2d1ff79bdb7d89f100f5b4c4f2345750f59a141363427", func := "stopline/stoplinelaw12.GapNames", spec := "gapNames", apart := false }
def GapNamesSaid : Prop := gapNamesRow.holds Try.pinned (OpenSpec.ofChange gapNamesSpec)

/-- ITS FALSE NEIGHBOUR: 'it returns false'. Refute it at one input. -/
def gapNamesWrong : ChangeSpec := { name := "gapNames", fn := fun _ => fun
  | [] => { results := [.lit (.bool false)], args := [] }
  | _ => none }
def GapNamesWrongFalsely : Prop := gapNamesRow.holds Try.pinned (OpenSpec.ofChange gapNamesWrong)

/-- 'stoplinelaw12.GapTicks': WHATEVER THE INPUT: true; the input reads as it did. -/
def gapTicksSpec : ChangeSpec := { name := "gapTicks", fn := fun _ => fun
  | [d1, d2, d3, d4] => { results := [.lit (.bool true)], args := [d1, d2, d3, d4] }
  | _ => none }
def gapTicksRow : OpenClaim := { program := "ytaajleciicgoiaa", sum := "87506ca734ae3c809de2d1ff79bdb7d89f100f5b4c4f2345750f59a141363427", func := "stopline/stoplinelaw12.GapTicks", spec := "gapTicks", apart := false }
def GapTicksSaid : Prop := gapTicksRow.holds Try.pinned (OpenSpec.ofChange gapTicksSpec)

/-- ITS FALSE NEIGHBOUR: 'it returns false'. Refute it at one input. -/
def gapTicksWrong : ChangeSpec := { name := "gapTicks", fn := fun _ => fun
  | [d1, d2, d3, d4] => { results := [.lit (.bool false)], args := [d1, d2, d3, d4] }
  | _ => none }
def GapTicksWrongFalsely : Prop := gapTicksRow.holds Try.pinned (OpenSpec.ofChange gapTicksWrong)

/- THE SECOND FORM. 'bulk': how many values and letters a reading holds, each counted each time it is reached (what is shared counts as often as it is met; a slice's spare places count too). A statement '..UptoSaid' is the law's where the arguments, and the package variables that the reading takes, are together of bulk at most 1048576: NARROWER than '..Said'. Prove '..Said' where nothing that the law and all that it calls make is longer than what came in: it says more and counts as full. Else prove '..UptoSaid'. A law counts once. -/
mutual
def uptoBulk {H : Type} : DataW H → Nat
  | .lit (.string bytes) => bytes.length + 1
  | .lit _ => 1
  | .nil => 1
  | .ptr d => uptoBulk d + 1
  | .slice elems spare => uptoBulkAll elems + uptoBulkAll spare + 1
  | .agg parts => uptoBulkAll parts + 1
  | .iface _ d => uptoBulk d + 1
  | .map entries => uptoBulkEntries entries + 1
  | .held _ => 1
def uptoBulkAll {H : Type} : List (DataW H) → Nat
  | [] => 0
  | d :: r => uptoBulk d + uptoBulkAll r
def uptoBulkEntries {H : Type} : List (Lit × DataW H) → Nat
  | [] => 0
  | x :: r => uptoBulkEntry x + uptoBulkEntries r
def uptoBulkEntry {H : Type} : Lit × DataW H → Nat
  | (.string bytes, d) => bytes.length + uptoBulk d + 1
  | (_, d) => uptoBulk d + 1
 end
def uptoSmall : (H : Type) → List (DataW H) → Bool := fun _ ds => decide (uptoBulkAll ds ≤ 1048576)
def OpenSpec.upto (s : _root_.Go.ChangeSpec) : _root_.Go.OpenSpec := { _root_.Go.OpenSpec.ofChange s with cond := some uptoSmall }

/-- 'stoplinelaw12.GapRuns', WHERE WHAT IT READS IS OF BULK AT MOST 1048576: true; the input reads as it did. -/
def gapRunsUptoRow : OpenClaim := { program := "ytaajleciicgoiaa", sum := "87506ca734ae3c809de2d1ff79bdb7d89f100f5b4c4f2345750f59a141363427", func := "stopline/stoplinelaw12.GapRuns", spec := "gapRuns", apart := false, narrowed := true }
def GapRunsUptoSaid : Prop := gapRunsUptoRow.holds Try.pinned (OpenSpec.upto gapRunsSpec)

/-- 'stoplinelaw12.GapStays', WHERE WHAT IT READS IS OF BULK AT MOST 1048576: true; the input reads as it did. -/
def gapStaysUptoRow : OpenClaim := { program := "ytaajleciicgoiaa", sum := "87506ca734ae3c809de2d1ff79bdb7d89f100f5b4c4f2345750f59a141363427", func := "stopline/stoplinelaw12.GapStays", spec := "gapStays", apart := false, narrowed := true }
def GapStaysUptoSaid : Prop := gapStaysUptoRow.holds Try.pinned (OpenSpec.upto gapStaysSpec)

/-- 'stoplinelaw12.GapPast', WHERE WHAT IT READS IS OF BULK AT MOST 1048576: true; the input reads as it did. -/
def gapPastUptoRow : OpenClaim := { program := "ytaajleciicgoiaa", sum := "87506ca734ae3c809de2d1ff79bdb7d89f100f5b4c4f2345750f59a141363427", func := "stopline/stoplinelaw12.GapPast", spec := "gapPast", apart := false, narrowed := true }
def GapPastUptoSaid : Prop := gapPastUptoRow.holds Try.pinned (OpenSpec.upto gapPastSpec)

/-- 'stoplinelaw12.GapShare', WHERE WHAT IT READS IS OF BULK AT MOST 1048576: true; the input reads as it did. -/
def gapShareUptoRow : OpenClaim := { program := "ytaajleciicgoiaa", sum := "87506ca734ae3c809de2d1ff79bdb7d89f100f5b4c4f2345750f59a141363427", func := "stopline/stoplinelaw12.GapShare", spec := "gapShare", apart := false, narrowed := true }
def GapShareUptoSaid : Prop := gapShareUptoRow.holds Try.pinned (OpenSpec.upto gapShareSpec)

/-- 'stoplinelaw12.GapNames', WHERE WHAT IT READS IS OF BULK AT MOST 1048576: true; the input reads as it did. -/
def gapNamesUptoRow : OpenClaim := { program := "ytaajleciicgoiaa", sum := "87506ca734ae3c809de2d1ff79bdb7d89f100f5b4c4f2345750f59a141363427", func := "stopline/stoplinelaw12.GapNames", spec := "gapNames", apart := false, narrowed := true }
def GapNamesUptoSaid : Prop := gapNamesUptoRow.holds Try.pinned (OpenSpec.upto gapNamesSpec)

/-- 'stoplinelaw12.GapTicks', WHERE WHAT IT READS IS OF BULK AT MOST 1048576: true; the input reads as it did. -/
def gapTicksUptoRow : OpenClaim := { program := "ytaajleciicgoiaa", sum := "87506ca734ae3c809de2d1ff79bdb7d89f100f5b4c4f2345750f59a141363427", func := "stopline/stoplinelaw12.GapTicks", spec := "gapTicks", apart := false, narrowed := true }
def GapTicksUptoSaid : Prop := gapTicksUptoRow.holds Try.pinned (OpenSpec.upto gapTicksSpec)

end Rows
end Go.Proofs.Ytaajleciicgoiaa
