/-
  No cell of these rows narrows 'for every input' (looked for: loops, veiled, ifaces, maps, wideKeys, modest, calm, conditions, laid).
  DERIVED. THE GIVEN ROWS OF THIS SEAT. 3 by the template 'for every input the law returns true; each argument reads behind the call as it read before'; 0 by the template 'total and deterministic' (their statements: YtcnnbofjgmohaaaTotals.lean).
  GIVEN WITH THE SEED: the statements are not yours to turn. If you find one false, say at which input.
  Laid BY PROGRAM, IN A SANDBOX (cutbox-rows.mjs): the forced cells as the released guide's own fill.sh prints them over the translation c379ec2980e8a106… (all of the seat's roots in one cut). By AI agents, Wed Nov 11 2026. No macro, syntax, notation, axiom, sorry.
-/
import Derived.Test.YtcnnbofjgmohaaaChecked
import GoSem.Claim
import GoSem.ClaimJoined
import GoSem.ClaimMapViews
import Derived.JoinedTies
import Derived.KernelRfl
namespace Go.Proofs.Ytcnnbofjgmohaaa
/- THE CELL 'sum', in the pinned program and in every row, IS THE sha256 OF THE DUMP (.gsa) THAT YtcnnbofjgmohaaaProg.lean LOADS. Nothing in Lean hashes anything: it is a label: what it is worth is what the hold of that sum in a sandbox is worth. -/
noncomputable def Try.pinned : Pinned := { name := "ytcnnbofjgmohaaa", sum := "c379ec2980e8a1065012c81dc8ee1fbfa8ea85a0340e1fa21c318197c2a8f9ca", checked := Try.checked }
namespace Rows
def none {H : Type} : Left H := { results := [], args := [] }

/-- 'stoplinelaw02.RingLast': WHATEVER THE INPUT: true; the input reads as it did. -/
def ringLastSpec : ChangeSpec := { name := "ringLast", fn := fun _ => fun
  | [d1, d2] => { results := [.lit (.bool true)], args := [d1, d2] }
  | _ => none }
def ringLastRow : OpenClaim := { program := "ytcnnbofjgmohaaa", sum := "c379ec2980e8a1065012c81dc8ee1fbfa8ea85a0340e1fa21c318197c2a8f9ca", func := "stopline/stoplinelaw02.RingLast", spec := "ringLast", apart := false }
def RingLastSaid : Prop := ringLastRow.holds Try.pinned (OpenSpec.ofChange ringLastSpec)

/-- ITS FALSE NEIGHBOUR: 'it returns false'. Refute it at one input. -/
def ringLastWrong : ChangeSpec := { name := "ringLast", fn := fun _ => fun
  | [d1, d2] => { results := [.lit (.bool false)], args := [d1, d2] }
  | _ => none }
def RingLastWrongFalsely : Prop := ringLastRow.holds Try.pinned (OpenSpec.ofChange ringLastWrong)

/-- 'stoplinelaw02.RingPushes': WHATEVER THE INPUT: true; the input reads as it did. -/
def ringPushesSpec : ChangeSpec := { name := "ringPushes", fn := fun _ => fun
  | [d1, d2, d3] => { results := [.lit (.bool true)], args := [d1, d2, d3] }
  | _ => none }
def ringPushesRow : OpenClaim := { program := "ytcnnbofjgmohaaa", sum := "c379ec2980e8a1065012c81dc8ee1fbfa8ea85a0340e1fa21c318197c2a8f9ca", func := "stopline/stoplinelaw02.RingPushes", spec := "ringPushes", inPlace := ["math/bits.Add64"], apart := false }
def RingPushesSaid : Prop := ringPushesRow.holds Try.pinned (OpenSpec.ofChange ringPushesSpec)

/-- ITS FALSE NEIGHBOUR: 'it returns false'. Refute it at one input. -/
def ringPushesWrong : ChangeSpec := { name := "ringPushes", fn := fun _ => fun
  | [d1, d2, d3] => { results := [.lit (.bool false)], args := [d1, d2, d3] }
  | _ => none }
def RingPushesWrongFalsely : Prop := ringPushesRow.holds Try.pinned (OpenSpec.ofChange ringPushesWrong)

/-- 'stoplinelaw02.RingSum': WHATEVER THE INPUT: true; the input reads as it did. -/
def ringSumSpec : ChangeSpec := { name := "ringSum", fn := fun _ => fun
  | [d] => { results := [.lit (.bool true)], args := [d] }
  | _ => none }
def ringSumRow : OpenClaim := { program := "ytcnnbofjgmohaaa", sum := "c379ec2980e8a1065012c81dc8ee1fbfa8ea85a0340e1fa21c318197c2a8f9ca", func := "stopline/stoplinelaw02.RingSum", spec := "ringSum", inPlace := ["math/bits.Add64"], apart := false }
def RingSumSaid : Prop := ringSumRow.holds Try.pinned (OpenSpec.ofChange ringSumSpec)

/-- ITS FALSE NEIGHBOUR: 'it returns false'. Refute it at one input. -/
def ringSumWrong : ChangeSpec := { name := "ringSum", fn := fun _ => fun
  | [d] => { results := [.lit (.bool false)], args := [d] }
  | _ => none }
def RingSumWrongFalsely : Prop := ringSumRow.holds Try.pinned (OpenSpec.ofChange ringSumWrong)

/- THE SECOND FORM. 'bulk': how many values and letters a reading holds, each counted each time it is reached (what is shared counts as often as it is met; a slice's spare places count too). A statement '..UptoSaid' is the law's where the arguments, and the package variables that the reading takes, are together of bulk at most 1048576: NARROWER than '..Said'. Prove '..Said' where nothing that the law and all that it calls make is longer than what came in: it says more and counts as full. Else prove '..UptoSaid'. A law counts once. -/
mutual
def uptoBulk {H : Type} : DataW H → Nat
  | .lit (.string bytes) => bytes.length + 1
  | .lit _ => 1
  | .nil => 1
  | .ptr d => uptoBulk d + 1
  | .slice elems spare => uptoBulkAll elems + uptoBulkAll spare + 1
  | .agg parts => uptoBulkAll parts + 1
  | .iface _ d => uptoBulk d + 1
  | .map entries => uptoBulkEntries entries + 1
  | .held _ => 1
def uptoBulkAll {H : Type} : List (DataW H) → Nat
  | [] => 0
  | d :: r => uptoBulk d + uptoBulkAll r
def uptoBulkEntries {H : Type} : List (Lit × DataW H) → Nat
  | [] => 0
  | x :: r => uptoBulkEntry x + uptoBulkEntries r
def uptoBulkEntry {H : Type} : Lit × DataW H → Nat
  | (.string bytes, d) => bytes.length + uptoBulk d + 1
  | (_, d) => uptoBulk d + 1
 end
def uptoSmall : (H : Type) → List (DataW H) → Bool := fun _ ds => decide (uptoBulkAll ds ≤ 1048576)
def OpenSpec.upto (s : _root_.Go.ChangeSpec) : _root_.Go.OpenSpec := { _root_.Go.OpenSpec.ofChange s with cond := some uptoSmall }

/-- 'stoplinelaw02.RingLast', WHERE WHAT IT READS IS OF BULK AT MOST 1048576: true; the input reads as it did. -/
def ringLastUptoRow : OpenClaim := { program := "ytcnnbofjgmohaaa", sum := "c379ec2980e8a1065012c81dc8ee1fbfa8ea85a0340e1fa21c318197c2a8f9ca", func := "stopline/stoplinelaw02.RingLast", spec := "ringLast", apart := false, narrowed := true }
def RingLastUptoSaid : Prop := ringLastUptoRow.holds Try.pinned (OpenSpec.upto ringLastSpec)

/-- 'stoplinelaw02.RingPushes', WHERE WHAT IT READS IS OF BULK AT MOST 1048576: true; the input reads as it did. -/
def ringPushesUptoRow : OpenClaim := { program := "ytcnnbofjgmohaaa", sum := "c379ec2980e8a1065012c81dc8ee1fbfa8ea85a0340e1fa21c318197c2a8f9ca", func := "stopline/stoplinelaw02.RingPushes", spec := "ringPushes", inPlace := ["math/bits.Add64"], apart := false, narrowed := true }
def RingPushesUptoSaid : Prop := ringPushesUptoRow.holds Try.pinned (OpenSpec.upto ringPushesSpec)

/-- 'stoplinelaw02.RingSum', WHERE WHAT IT READS IS OF BULK AT MOST 1048576: true; the input reads as it did. -/
def ringSumUptoRow : OpenClaim := { program := "ytcnnbofjgmohaaa", sum := "c379ec2980e8a1065012c81dc8ee1fbfa8ea85a0340e1fa21c318197c2a8f9ca", func := "stopline/stoplinelaw02.RingSum", spec := "ringSum", inPlace := ["math/bits.Add64"], apart := false, narrowed := true }
def RingSumUptoSaid : Prop := ringSumUptoRow.holds Try.pinned (OpenSpec.upto ringSumSpec)

end Rows
end Go.Proofs.Ytcnnbofjgmohaaa
