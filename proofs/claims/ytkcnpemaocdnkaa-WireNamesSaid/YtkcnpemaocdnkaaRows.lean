/-
  No cell of these rows narrows 'for every input' (looked for: loops, veiled, ifaces, maps, wideKeys, modest, calm, conditions, laid).
  DERIVED. THE GIVEN ROWS OF THIS SEAT. 5 by the template 'for every input the law returns true; each argument reads behind the call as it read before'; 0 by the template 'total and deterministic' (their statements: YtkcnpemaocdnkaaTotals.lean).
  GIVEN WITH THE SEED: the statements are not yours to turn. If you find one false, say at which input.
  Laid BY PROGRAM, IN A SANDBOX (cutbox-rows.mjs): the forced cells as the released guide's own fill.sh prints them over the translation 1332a55019bdf889… (all of the seat's roots in one cut). By AI agents, Wed Nov 11 2026. No macro, syntax, notation, axiom, sorry.
-/
import Derived.Test.YtkcnpemaocdnkaaChecked
import GoSem.Claim
import GoSem.ClaimJoined
import GoSem.ClaimMapViews
import Derived.JoinedTies
import Derived.KernelRfl
namespace Go.Proofs.Ytkcnpemaocdnkaa
/- THE CELL 'sum', in the pinned program and in every row, IS THE sha256 OF THE DUMP (.gsa) THAT YtkcnpemaocdnkaaProg.lean LOADS. Nothing in Lean hashes anything: it is a label: what it is worth is what the hold of that sum in a sandbox is worth. -/
noncomputable def Try.pinned : Pinned := { name := "ytkcnpemaocdnkaa", sum := "1332a55019bdf889761047158e4702ef0ab8ae1d302b0e83417009cfb007ef70", checked := Try.checked }
namespace Rows
def none {H : Type} : Left H := { results := [], args := [] }

/-- 'stoplinelaw30.WireOnce': WHATEVER THE INPUT: true; the input reads as it did. -/
def wireOnceSpec : ChangeSpec := { name := "wireOnce", fn := fun _ => fun
  | [d1, d2, d3, d4] => { results := [.lit (.bool true)], args := [d1, d2, d3, d4] }
  | _ => none }
def wireOnceRow : OpenClaim := { program := "ytkcnpemaocdnkaa", sum := "1332a55019bdf889761047158e4702ef0ab8ae1d302b0e83417009cfb007ef70", func := "stopline/stoplinelaw30.WireOnce", spec := "wireOnce", apart := false }
def WireOnceSaid : Prop := wireOnceRow.holds Try.pinned (OpenSpec.ofChange wireOnceSpec)

/-- ITS FALSE NEIGHBOUR: 'it returns false'. Refute it at one input. -/
def wireOnceWrong : ChangeSpec := { name := "wireOnce", fn := fun _ => fun
  | [d1, d2, d3, d4] => { results := [.lit (.bool false)], args := [d1, d2, d3, d4] }
  | _ => none }
def WireOnceWrongFalsely : Prop := wireOnceRow.holds Try.pinned (OpenSpec.ofChange wireOnceWrong)

/-- 'stoplinelaw30.WireNames': WHATEVER THE INPUT: true; the input reads as it did. -/
def wireNamesSpec : ChangeSpec := { name := "wireNames", fn := fun _ => fun
  | [] => { results := [.lit (.bool true)], args := [] }
  | _ => none }
def wireNamesRow : OpenClaim := { program := "ytkcnpemaocdnkaa", sum := "1332a55019bdf889761047158e4702ef0ab8ae1d302b0e83417009cfb007ef70", func := "stopline/stoplinelaw30.WireNames", spec := "wireNames", apart := false }
def WireNamesSaid : Prop := wireNamesRow.holds Try.pinned (OpenSpec.ofChange wireNamesSpec)

/-- ITS FALSE NEIGHBOUR: 'it returns false'. Refute it at one input. -/
def wireNamesWrong : ChangeSpec := { name := "wireNames", fn := fun _ => fun
  | [] => { results := [.lit (.bool false)], args := [] }
  | _ => none }
def WireNamesWrongFalsely : Prop := wireNamesRow.holds Try.pinned (OpenSpec.ofChange wireNamesWrong)

/-- 'stoplinelaw30.WireTicks': WHATEVER THE INPUT: true; the input reads as it did. -/
def wireTicksSpec : ChangeSpec := { name := "wireTicks", fn := fun _ => fun
  | [d1, d2, d3, d4, d5, d6, d7] => { results := [.lit (.bool true)], args := [d1, d2, d3, d4, d5, d6, d7] }
  | _ => none }
def wireTicksRow : OpenClaim := { program := "ytkcnpemaocdnkaa", sum := "1332a55019bdf889761047158e4702ef0ab8ae1d302b0e83417009cfb007ef70", func := "stopline/stoplinelaw30.WireTicks", spec := "wireTicks", apart := false }
def WireTicksSaid : Prop := wireTicksRow.holds Try.pinned (OpenSpec.ofChange wireTicksSpec)

/-- ITS FALSE NEIGHBOUR: 'it returns false'. Refute it at one input. -/
def wireTicksWrong : ChangeSpec := { name := "wireTicks", fn := fun _ => fun
  | [d1, d2, d3, d4, d5, d6, d7] => { results := [.lit (.bool false)], args := [d1, d2, d3, d4, d5, d6, d7] }
  | _ => none }
def WireTicksWrongFalsely : Prop := wireTicksRow.holds Try.pinned (OpenSpec.ofChange wireTicksWrong)

/-- 'stoplinelaw30.WireKeeps': WHATEVER THE INPUT: true; the input reads as it did. -/
def wireKeepsSpec : ChangeSpec := { name := "wireKeeps", fn := fun _ => fun
  | [d1, d2] => { results := [.lit (.bool true)], args := [d1, d2] }
  | _ => none }
def wireKeepsRow : OpenClaim := { program := "ytkcnpemaocdnkaa", sum := "1332a55019bdf889761047158e4702ef0ab8ae1d302b0e83417009cfb007ef70", func := "stopline/stoplinelaw30.WireKeeps", spec := "wireKeeps", apart := false }
def WireKeepsSaid : Prop := wireKeepsRow.holds Try.pinned (OpenSpec.ofChange wireKeepsSpec)

/-- ITS FALSE NEIGHBOUR: 'it returns false'. Refute it at one input. -/
def wireKeepsWrong : ChangeSpec := { name := "wireKeeps", fn := fun _ => fun
  | [d1, d2] => { results := [.lit (.bool false)], args := [d1, d2] }
  | _ => none }
def WireKeepsWrongFalsely : Prop := wireKeepsRow.holds Try.pinned (OpenSpec.ofChange wireKeepsWrong)

/-- 'stoplinelaw30.WireMuch': WHATEVER THE INPUT: true; the input reads as it did. -/
def wireMuchSpec : ChangeSpec := { name := "wireMuch", fn := fun _ => fun
  | [d1, d2, d3] => { results := [.lit (.bool true)], args := [d1, d2, d3] }
  | _ => none }
def wireMuchRow : OpenClaim := { program := "ytkcnpemaocdnkaa", sum := "1332a55019bdf889761047158e4702ef0ab8ae1d302b0e83417009cfb007ef70", func := "stopline/stoplinelaw30.WireMuch", spec := "wireMuch", apart := false }
def WireMuchSaid : Prop := wireMuchRow.holds Try.pinned (OpenSpec.ofChange wireMuchSpec)

/-- ITS FALSE NEIGHBOUR: 'it returns false'. Refute it at one input. -/
def wireMuchWrong : ChangeSpec := { name := "wireMuch", fn := fun _ => fun
  | [d1, d2, d3] => { results := [.lit (.bool false)], args := [d1, d2, d3] }
  | _ => none }
def WireMuchWrongFalsely : Prop := wireMuchRow.holds Try.pinned (OpenSpec.ofChange wireMuchWrong)

/- THE SECOND FORM. 'bulk': how many values and letters a reading holds, each counted each time it is reached (what is shared counts as often as it is met; a slice's spare places count too). A statement '..UptoSaid' is the law's where the arguments, and the package variables that the reading takes, are together of bulk at most 1048576: NARROWER than '..Said'. Prove '..Said' where nothing that the law and all that it calls make is longer than what came in: it says more and counts as full. Else prove '..UptoSaid'. A law counts once. -/
mutual
def uptoBulk {H : Type} : DataW H → Nat
  | .lit (.string bytes) => bytes.length + 1
  | .lit _ => 1
  | .nil => 1
  | .ptr d => uptoBulk d + 1
  | .slice elems spare => uptoBulkAll elems + uptoBulkAll spare + 1
  | .agg parts => uptoBulkAll parts + 1
  | .iface _ d => uptoBulk d + 1
  | .map entries => uptoBulkEntries entries + 1
  | .held _ => 1
def uptoBulkAll {H : Type} : List (DataW H) → Nat
  | [] => 0
  | d :: r => uptoBulk d + uptoBulkAll r
def uptoBulkEntries {H : Type} : List (Lit × DataW H) → Nat
  | [] => 0
  | x :: r => uptoBulkEntry x + uptoBulkEntries r
def uptoBulkEntry {H : Type} : Lit × DataW H → Nat
  | (.string bytes, d) => bytes.length + uptoBulk d + 1
  | (_, d) => uptoBulk d + 1
 end
def uptoSmall : (H : Type) → List (DataW H) → Bool := fun _ ds => decide (uptoBulkAll ds ≤ 1048576)
def OpenSpec.upto (s : _root_.Go.ChangeSpec) : _root_.Go.OpenSpec := { _root_.Go.OpenSpec.ofChange s with cond := some uptoSmall }

/-- 'stoplinelaw30.WireOnce', WHERE WHAT IT READS IS OF BULK AT MOST 1048576: true; the input reads as it did. -/
def wireOnceUptoRow : OpenClaim := { program := "ytkcnpemaocdnkaa", sum := "1332a55019bdf889761047158e4702ef0ab8ae1d302b0e83417009cfb007ef70", func := "stopline/stoplinelaw30.WireOnce", spec := "wireOnce", apart := false, narrowed := true }
def WireOnceUptoSaid : Prop := wireOnceUptoRow.holds Try.pinned (OpenSpec.upto wireOnceSpec)

/-- 'stoplinelaw30.WireNames', WHERE WHAT IT READS IS OF BULK AT MOST 1048576: true; the input reads as it did. -/
def wireNamesUptoRow : OpenClaim := { program := "ytkcnpemaocdnkaa", sum := "1332a55019bdf889761047158e4702ef0ab8ae1d302b0e83417009cfb007ef70", func := "stopline/stoplinelaw30.WireNames", spec := "wireNames", apart := false, narrowed := true }
def WireNamesUptoSaid : Prop := wireNamesUptoRow.holds Try.pinned (OpenSpec.upto wireNamesSpec)

/-- 'stoplinelaw30.WireTicks', WHERE WHAT IT READS IS OF BULK AT MOST 1048576: true; the input reads as it did. -/
def wireTicksUptoRow : OpenClaim := { program := "ytkcnpemaocdnkaa", sum := "1332a55019bdf889761047158e4702ef0ab8ae1d302b0e83417009cfb007ef70", func := "stopline/stoplinelaw30.WireTicks", spec := "wireTicks", apart := false, narrowed := true }
def WireTicksUptoSaid : Prop := wireTicksUptoRow.holds Try.pinned (OpenSpec.upto wireTicksSpec)

/-- 'stoplinelaw30.WireKeeps', WHERE WHAT IT READS IS OF BULK AT MOST 1048576: true; the input reads as it did. -/
def wireKeepsUptoRow : OpenClaim := { program := "ytkcnpemaocdnkaa", sum := "1332a55019bdf889761047158e4702ef0ab8ae1d302b0e83417009cfb007ef70", func := "stopline/stoplinelaw30.WireKeeps", spec := "wireKeeps", apart := false, narrowed := true }
def WireKeepsUptoSaid : Prop := wireKeepsUptoRow.holds Try.pinned (OpenSpec.upto wireKeepsSpec)

/-- 'stoplinelaw30.WireMuch', WHERE WHAT IT READS IS OF BULK AT MOST 1048576: true; the input reads as it did. -/
def wireMuchUptoRow : OpenClaim := { program := "ytkcnpemaocdnkaa", sum := "1332a55019bdf889761047158e4702ef0ab8ae1d302b0e83417009cfb007ef70", func := "stopline/stoplinelaw30.WireMuch", spec := "wireMuch", apart := false, narrowed := true }
def WireMuchUptoSaid : Prop := wireMuchUptoRow.holds Try.pinned (OpenSpec.upto wireMuchSpec)

end Rows
end Go.Proofs.Ytkcnpemaocdnkaa
