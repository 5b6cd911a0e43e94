/-
  No cell of these rows narrows 'for every input' (looked for: loops, veiled, ifaces, maps, wideKeys, modest, calm, conditions, laid).
  DERIVED. THE GIVEN ROWS OF THIS SEAT. 4 by the template 'for every input the law returns true; each argument reads behind the call as it read before'; 0 by the template 'total and deterministic' (their statements: YtdhdbdaceklkhaaTotals.lean).
  GIVEN WITH THE SEED: the statements are not yours to turn. If you find one false, say at which input.
  Laid BY PROGRAM, IN A SANDBOX (cutbox-rows.mjs): the forced cells as the released guide's own fill.sh prints them over the translation 6630c77a53ec4c7f… (all of the seat's roots in one cut). By AI agents, Wed Nov 11 2026. No macro, syntax, notation, axiom, sorry.
-/
import Derived.Test.YtdhdbdaceklkhaaChecked
import GoSem.Claim
import GoSem.ClaimJoined
import GoSem.ClaimMapViews
import Derived.JoinedTies
import Derived.KernelRfl
namespace Go.Proofs.Ytdhdbdaceklkhaa
/- THE CELL 'sum', in the pinned program and in every row, IS THE sha256 OF THE DUMP (.gsa) THAT YtdhdbdaceklkhaaProg.lean LOADS. Nothing in Lean hashes anything: it is a label: what it is worth is what the hold of that sum in a sandbox is worth. -/
noncomputable def Try.pinned : Pinned := { name := "ytdhdbdaceklkhaa", sum := "6630c77a53ec4c7f5a7cf308309f7fbe29813475720e28aeb42a40b3a958dc7c", checked := Try.checked }
namespace Rows
def none {H : Type} : Left H := { results := [], args := [] }

/-- 'stoplinelaw21.WellLast': WHATEVER THE INPUT: true; the input reads as it did. -/
def wellLastSpec : ChangeSpec := { name := "wellLast", fn := fun _ => fun
  | [d1, d2, d3] => { results := [.lit (.bool true)], args := [d1, d2, d3] }
  | _ => none }
def wellLastRow : OpenClaim := { program := "ytdhdbdaceklkhaa", sum := "6630c77a53ec4c7f5a7cf308309f7fbe29813475720e28aeb42a40b3a958dc7c", func := "stopline/stoplinelaw21.WellLast", spec := "wellLast", apart := false }
def WellLastSaid : Prop := wellLastRow.holds Try.pinned (OpenSpec.ofChange wellLastSpec)

/-- ITS FALSE NEIGHBOUR: 'it returns false'. Refute it at one input. -/
def wellLastWrong : ChangeSpec := { name := "wellLast", fn := fun _ => fun
  | [d1, d2, d3] => { results := [.lit (.bool false)], args := [d1, d2, d3] }
  | _ => none }
def WellLastWrongFalsely : Prop := wellLastRow.holds Try.pinned (OpenSpec.ofChange wellLastWrong)

/-- 'stoplinelaw21.WellNames': WHATEVER THE INPUT: true; the input reads as it did. -/
def wellNamesSpec : ChangeSpec := { name := "wellNames", fn := fun _ => fun
  | [] => { results := [.lit (.bool true)], args := [] }
  | _ => none }
def wellNamesRow : OpenClaim := { program := "ytdhdbdaceklkhaa", sum := "6630c77a53ec4c7f5a7cf308309f7fbe29813475720e28aeb42a40b3a958dc7c", func := "stopline/stoplinelaw21.WellNames", spec := "wellNames", apart := false }
def WellNamesSaid : Prop := wellNamesRow.holds Try.pinned (OpenSpec.ofChange wellNamesSpec)

/-- ITS FALSE NEIGHBOUR: 'it returns false'. Refute it at one input. -/
def wellNamesWrong : ChangeSpec := { name := "wellNames", fn := fun _ => fun
  | [] => { results := [.lit (.bool false)], args := [] }
  | _ => none }
def WellNamesWrongFalsely : Prop := wellNamesRow.holds Try.pinned (OpenSpec.ofChange wellNamesWrong)

/-- 'stoplinelaw21.WellTicks': WHATEVER THE INPUT: true; the input reads as it did. -/
def wellTicksSpec : ChangeSpec := { name := "wellTicks", fn := fun _ => fun
  | [d1, d2, d3, d4] => { results := [.lit (.bool true)], args := [d1, d2, d3, d4] }
  | _ => none }
def wellTicksRow : OpenClaim := { program := "ytdhdbdaceklkhaa", sum := "6630c77a53ec4c7f5a7cf308309f7fbe29813475720e28aeb42a40b3a958dc7c", func := "stopline/stoplinelaw21.WellTicks", spec := "wellTicks", apart := false }
def WellTicksSaid : Prop := wellTicksRow.holds Try.pinned (OpenSpec.ofChange wellTicksSpec)

/-- ITS FALSE NEIGHBOUR: 'it returns false'. Refute it at one input. -/
def wellTicksWrong : ChangeSpec := { name := "wellTicks", fn := fun _ => fun
  | [d1, d2, d3, d4] => { results := [.lit (.bool false)], args := [d1, d2, d3, d4] }
  | _ => none }
def WellTicksWrongFalsely : Prop := wellTicksRow.holds Try.pinned (OpenSpec.ofChange wellTicksWrong)

/-- 'stoplinelaw21.WellMore': WHATEVER THE INPUT: true; the input reads as it did. -/
def wellMoreSpec : ChangeSpec := { name := "wellMore", fn := fun _ => fun
  | [d1, d2, d3, d4] => { results := [.lit (.bool true)], args := [d1, d2, d3, d4] }
  | _ => none }
def wellMoreRow : OpenClaim := { program := "ytdhdbdaceklkhaa", sum := "6630c77a53ec4c7f5a7cf308309f7fbe29813475720e28aeb42a40b3a958dc7c", func := "stopline/stoplinelaw21.WellMore", spec := "wellMore", apart := false }
def WellMoreSaid : Prop := wellMoreRow.holds Try.pinned (OpenSpec.ofChange wellMoreSpec)

/-- ITS FALSE NEIGHBOUR: 'it returns false'. Refute it at one input. -/
def wellMoreWrong : ChangeSpec := { name := "wellMore", fn := fun _ => fun
  | [d1, d2, d3, d4] => { results := [.lit (.bool false)], args := [d1, d2, d3, d4] }
  | _ => none }
def WellMoreWrongFalsely : Prop := wellMoreRow.holds Try.pinned (OpenSpec.ofChange wellMoreWrong)

/- THE SECOND FORM. 'bulk': how many values and letters a reading holds, each counted each time it is reached (what is shared counts as often as it is met; a slice's spare places count too). A statement '..UptoSaid' is the law's where the arguments, and the package variables that the reading takes, are together of bulk at most 1048576: NARROWER than '..Said'. Prove '..Said' where nothing that the law and all that it calls make is longer than what came in: it says more and counts as full. Else prove '..UptoSaid'. A law counts once. -/
mutual
def uptoBulk {H : Type} : DataW H → Nat
  | .lit (.string bytes) => bytes.length + 1
  | .lit _ => 1
  | .nil => 1
  | .ptr d => uptoBulk d + 1
  | .slice elems spare => uptoBulkAll elems + uptoBulkAll spare + 1
  | .agg parts => uptoBulkAll parts + 1
  | .iface _ d => uptoBulk d + 1
  | .map entries => uptoBulkEntries entries + 1
  | .held _ => 1
def uptoBulkAll {H : Type} : List (DataW H) → Nat
  | [] => 0
  | d :: r => uptoBulk d + uptoBulkAll r
def uptoBulkEntries {H : Type} : List (Lit × DataW H) → Nat
  | [] => 0
  | x :: r => uptoBulkEntry x + uptoBulkEntries r
def uptoBulkEntry {H : Type} : Lit × DataW H → Nat
  | (.string bytes, d) => bytes.length + uptoBulk d + 1
  | (_, d) => uptoBulk d + 1
 end
def uptoSmall : (H : Type) → List (DataW H) → Bool := fun _ ds => decide (uptoBulkAll ds ≤ 1048576)
def OpenSpec.upto (s : _root_.Go.ChangeSpec) : _root_.Go.OpenSpec := { _root_.Go.OpenSpec.ofChange s with cond := some uptoSmall }

/-- 'stoplinelaw21.WellLast', WHERE WHAT IT READS IS OF BULK AT MOST 1048576: true; the input reads as it did. -/
def wellLastUptoRow : OpenClaim := { program := "ytdhdbdaceklkhaa", sum := "6630c77a53ec4c7f5a7cf308309f7fbe29813475720e28aeb42a40b3a958dc7c", func := "stopline/stoplinelaw21.WellLast", spec := "wellLast", apart := false, narrowed := true }
def WellLastUptoSaid : Prop := wellLastUptoRow.holds Try.pinned (OpenSpec.upto wellLastSpec)

/-- 'stoplinelaw21.WellNames', WHERE WHAT IT READS IS OF BULK AT MOST 1048576: true; the input reads as it did. -/
def wellNamesUptoRow : OpenClaim := { program := "ytdhdbdaceklkhaa", sum := "6630c77a53ec4c7f5a7cf308309f7fbe29813475720e28aeb42a40b3a958dc7c", func := "stopline/stoplinelaw21.WellNames", spec := "wellNames", apart := false, narrowed := true }
def WellNamesUptoSaid : Prop := wellNamesUptoRow.holds Try.pinned (OpenSpec.upto wellNamesSpec)

/-- 'stoplinelaw21.WellTicks', WHERE WHAT IT READS IS OF BULK AT MOST 1048576: true; the input reads as it did. -/
def wellTicksUptoRow : OpenClaim := { program := "ytdhdbdaceklkhaa", sum := "6630c77a53ec4c7f5a7cf308309f7fbe29813475720e28aeb42a40b3a958dc7c", func := "stopline/stoplinelaw21.WellTicks", spec := "wellTicks", apart := false, narrowed := true }
def WellTicksUptoSaid : Prop := wellTicksUptoRow.holds Try.pinned (OpenSpec.upto wellTicksSpec)

/-- 'stoplinelaw21.WellMore', WHERE WHAT IT READS IS OF BULK AT MOST 1048576: true; the input reads as it did. -/
def wellMoreUptoRow : OpenClaim := { program := "ytdhdbdaceklkhaa", sum := "6630c77a53ec4c7f5a7cf308309f7fbe29813475720e28aeb42a40b3a958dc7c", func := "stopline/stoplinelaw21.WellMore", spec := "wellMore", apart := false, narrowed := true }
def WellMoreUptoSaid : Prop := wellMoreUptoRow.holds Try.pinned (OpenSpec.upto wellMoreSpec)

end Rows
end Go.Proofs.Ytdhdbdaceklkhaa
