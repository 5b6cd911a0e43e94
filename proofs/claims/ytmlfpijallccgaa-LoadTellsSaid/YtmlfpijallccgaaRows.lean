/-
  No cell of these rows narrows 'for every input' (looked for: loops, veiled, ifaces, maps, wideKeys, modest, calm, conditions, laid).
  DERIVED. THE GIVEN ROWS OF THIS SEAT. 5 by the template 'for every input the law returns true; each argument reads behind the call as it read before'; 0 by the template 'total and deterministic' (their statements: YtmlfpijallccgaaTotals.lean).
  GIVEN WITH THE SEED: the statements are not yours to turn. If you find one false, say at which input.
  Laid BY PROGRAM, IN A SANDBOX (cutbox-rows.mjs): the forced cells as the released guide's own fill.sh prints them over the translation 6c175189cfef61c1… (all of the seat's roots in one cut). By AI agents, Wed Nov 11 2026. No macro, syntax, notation, axiom, sorry.
-/
import Derived.Test.YtmlfpijallccgaaChecked
import GoSem.Claim
import GoSem.ClaimJoined
import GoSem.ClaimMapViews
import Derived.JoinedTies
import Derived.KernelRfl
namespace Go.Proofs.Ytmlfpijallccgaa
/- THE CELL 'sum', in the pinned program and in every row, IS THE sha256 OF THE DUMP (.gsa) THAT YtmlfpijallccgaaProg.lean LOADS. Nothing in Lean hashes anything: it is a label: what it is worth is what the hold of that sum in a sandbox is worth. -/
noncomputable def Try.pinned : Pinned := { name := "ytmlfpijallccgaa", sum := "6c175189cfef61c13b1c9c19fd95d8c2a278adcc2e2930cb604b7384e3881649", checked := Try.checked }
namespace Rows
def none {H : Type} : Left H := { results := [], args := [] }

/-- 'stoplinelaw24.LoadGrows': WHATEVER THE INPUT: true; the input reads as it did. -/
def loadGrowsSpec : ChangeSpec := { name := "loadGrows", fn := fun _ => fun
  | [d1, d2, d3, d4, d5, d6, d7] => { results := [.lit (.bool true)], args := [d1, d2, d3, d4, d5, d6, d7] }
  | _ => none }
def loadGrowsRow : OpenClaim := { program := "ytmlfpijallccgaa", sum := "6c175189cfef61c13b1c9c19fd95d8c2a278adcc2e2930cb604b7384e3881649", func := "stopline/stoplinelaw24.LoadGrows", spec := "loadGrows", apart := false }
def LoadGrowsSaid : Prop := loadGrowsRow.holds Try.pinned (OpenSpec.ofChange loadGrowsSpec)

/-- ITS FALSE NEIGHBOUR: 'it returns false'. Refute it at one input. -/
def loadGrowsWrong : ChangeSpec := { name := "loadGrows", fn := fun _ => fun
  | [d1, d2, d3, d4, d5, d6, d7] => { results := [.lit (.bool false)], args := [d1, d2, d3, d4, d5, d6, d7] }
  | _ => none }
def LoadGrowsWrongFalsely : Prop := loadGrowsRow.holds Try.pinned (OpenSpec.ofChange loadGrowsWrong)

/-- 'stoplinelaw24.LoadTells': WHATEVER THE INPUT: true; the input reads as it did. -/
def loadTellsSpec : ChangeSpec := { name := "loadTells", fn := fun _ => fun
  | [d1, d2, d3, d4, d5] => { results := [.lit (.bool true)], args := [d1, d2, d3, d4, d5] }
  | _ => none }
def loadTellsRow : OpenClaim := { program := "ytmlfpijallccgaa", sum := "6c175189cfef61c13b1c9c19fd95d8c2a278adcc2e2930cb604b7384e3881649", func := "stopline/stoplinelaw24.LoadTells", spec := "loadTells", unfollowed := true, recurses := true, apart := false }
def LoadTellsSaid : Prop := loadTellsRow.holds Try.pinned (OpenSpec.ofChange loadTellsSpec)

/-- ITS FALSE NEIGHBOUR: 'it returns false'. Refute it at one input. -/
def loadTellsWrong : ChangeSpec := { name := "loadTells", fn := fun _ => fun
  | [d1, d2, d3, d4, d5] => { results := [.lit (.bool false)], args := [d1, d2, d3, d4, d5] }
  | _ => none }
def LoadTellsWrongFalsely : Prop := loadTellsRow.holds Try.pinned (OpenSpec.ofChange loadTellsWrong)

/-- 'stoplinelaw24.LoadSmooths': WHATEVER THE INPUT: true; the input reads as it did. -/
def loadSmoothsSpec : ChangeSpec := { name := "loadSmooths", fn := fun _ => fun
  | [d1, d2, d3] => { results := [.lit (.bool true)], args := [d1, d2, d3] }
  | _ => none }
def loadSmoothsRow : OpenClaim := { program := "ytmlfpijallccgaa", sum := "6c175189cfef61c13b1c9c19fd95d8c2a278adcc2e2930cb604b7384e3881649", func := "stopline/stoplinelaw24.LoadSmooths", spec := "loadSmooths", inPlace := ["math/bits.Add64"], apart := false }
def LoadSmoothsSaid : Prop := loadSmoothsRow.holds Try.pinned (OpenSpec.ofChange loadSmoothsSpec)

/-- ITS FALSE NEIGHBOUR: 'it returns false'. Refute it at one input. -/
def loadSmoothsWrong : ChangeSpec := { name := "loadSmooths", fn := fun _ => fun
  | [d1, d2, d3] => { results := [.lit (.bool false)], args := [d1, d2, d3] }
  | _ => none }
def LoadSmoothsWrongFalsely : Prop := loadSmoothsRow.holds Try.pinned (OpenSpec.ofChange loadSmoothsWrong)

/-- 'stoplinelaw24.LoadBetween': WHATEVER THE INPUT: true; the input reads as it did. -/
def loadBetweenSpec : ChangeSpec := { name := "loadBetween", fn := fun _ => fun
  | [d1, d2, d3] => { results := [.lit (.bool true)], args := [d1, d2, d3] }
  | _ => none }
def loadBetweenRow : OpenClaim := { program := "ytmlfpijallccgaa", sum := "6c175189cfef61c13b1c9c19fd95d8c2a278adcc2e2930cb604b7384e3881649", func := "stopline/stoplinelaw24.LoadBetween", spec := "loadBetween", inPlace := ["math/bits.Add64"], apart := false }
def LoadBetweenSaid : Prop := loadBetweenRow.holds Try.pinned (OpenSpec.ofChange loadBetweenSpec)

/-- ITS FALSE NEIGHBOUR: 'it returns false'. Refute it at one input. -/
def loadBetweenWrong : ChangeSpec := { name := "loadBetween", fn := fun _ => fun
  | [d1, d2, d3] => { results := [.lit (.bool false)], args := [d1, d2, d3] }
  | _ => none }
def LoadBetweenWrongFalsely : Prop := loadBetweenRow.holds Try.pinned (OpenSpec.ofChange loadBetweenWrong)

/-- 'stoplinelaw24.LoadNames': WHATEVER THE INPUT: true; the input reads as it did. -/
def loadNamesSpec : ChangeSpec := { name := "loadNames", fn := fun _ => fun
  | [] => { results := [.lit (.bool true)], args := [] }
  | _ => none }
def loadNamesRow : OpenClaim := { program := "ytmlfpijallccgaa", sum := "6c175189cfef61c13b1c9c19fd95d8c2a278adcc2e2930cb604b7384e3881649", func := "stopline/stoplinelaw24.LoadNames", spec := "loadNames", inPlace := ["math/bits.Add64"], unfollowed := true, recurses := true, apart := false }
def LoadNamesSaid : Prop := loadNamesRow.holds Try.pinned (OpenSpec.ofChange loadNamesSpec)

/-- ITS FALSE NEIGHBOUR: 'it returns false'. Refute it at one input. -/
def loadNamesWrong : ChangeSpec := { name := "loadNames", fn := fun _ => fun
  | [] => { results := [.lit (.bool false)], args := [] }
  | _ => none }
def LoadNamesWrongFalsely : Prop := loadNamesRow.holds Try.pinned (OpenSpec.ofChange loadNamesWrong)

/- THE SECOND FORM. 'bulk': how many values and letters a reading holds, each counted each time it is reached (what is shared counts as often as it is met; a slice's spare places count too). A statement '..UptoSaid' is the law's where the arguments, and the package variables that the reading takes, are together of bulk at most 1048576: NARROWER than '..Said'. Prove '..Said' where nothing that the law and all that it calls make is longer than what came in: it says more and counts as full. Else prove '..UptoSaid'. A law counts once. -/
mutual
def uptoBulk {H : Type} : DataW H → Nat
  | .lit (.string bytes) => bytes.length + 1
  | .lit _ => 1
  | .nil => 1
  | .ptr d => uptoBulk d + 1
  | .slice elems spare => uptoBulkAll elems + uptoBulkAll spare + 1
  | .agg parts => uptoBulkAll parts + 1
  | .iface _ d => uptoBulk d + 1
  | .map entries => uptoBulkEntries entries + 1
  | .held _ => 1
def uptoBulkAll {H : Type} : List (DataW H) → Nat
  | [] => 0
  | d :: r => uptoBulk d + uptoBulkAll r
def uptoBulkEntries {H : Type} : List (Lit × DataW H) → Nat
  | [] => 0
  | x :: r => uptoBulkEntry x + uptoBulkEntries r
def uptoBulkEntry {H : Type} : Lit × DataW H → Nat
  | (.string bytes, d) => bytes.length + uptoBulk d + 1
  | (_, d) => uptoBulk d + 1
 end
def uptoSmall : (H : Type) → List (DataW H) → Bool := fun _ ds => decide (uptoBulkAll ds ≤ 1048576)
def OpenSpec.upto (s : _root_.Go.ChangeSpec) : _root_.Go.OpenSpec := { _root_.Go.OpenSpec.ofChange s with cond := some uptoSmall }

/-- 'stoplinelaw24.LoadGrows', WHERE WHAT IT READS IS OF BULK AT MOST 1048576: true; the input reads as it did. -/
def loadGrowsUptoRow : OpenClaim := { program := "ytmlfpijallccgaa", sum := "6c175189cfef61c13b1c9c19fd95d8c2a278adcc2e2930cb604b7384e3881649", func := "stopline/stoplinelaw24.LoadGrows", spec := "loadGrows", apart := false, narrowed := true }
def LoadGrowsUptoSaid : Prop := loadGrowsUptoRow.holds Try.pinned (OpenSpec.upto loadGrowsSpec)

/-- 'stoplinelaw24.LoadTells', WHERE WHAT IT READS IS OF BULK AT MOST 1048576: true; the input reads as it did. -/
def loadTellsUptoRow : OpenClaim := { program := "ytmlfpijallccgaa", sum := "6c175189cfef61c13b1c9c19fd95d8c2a278adcc2e2930cb604b7384e3881649", func := "stopline/stoplinelaw24.LoadTells", spec := "loadTells", unfollowed := true, recurses := true, apart := false, narrowed := true }
def LoadTellsUptoSaid : Prop := loadTellsUptoRow.holds Try.pinned (OpenSpec.upto loadTellsSpec)

/-- 'stoplinelaw24.LoadSmooths', WHERE WHAT IT READS IS OF BULK AT MOST 1048576: true; the input reads as it did. -/
def loadSmoothsUptoRow : OpenClaim := { program := "ytmlfpijallccgaa", sum := "6c175189cfef61c13b1c9c19fd95d8c2a278adcc2e2930cb604b7384e3881649", func := "stopline/stoplinelaw24.LoadSmooths", spec := "loadSmooths", inPlace := ["math/bits.Add64"], apart := false, narrowed := true }
def LoadSmoothsUptoSaid : Prop := loadSmoothsUptoRow.holds Try.pinned (OpenSpec.upto loadSmoothsSpec)

/-- 'stoplinelaw24.LoadBetween', WHERE WHAT IT READS IS OF BULK AT MOST 1048576: true; the input reads as it did. -/
def loadBetweenUptoRow : OpenClaim := { program := "ytmlfpijallccgaa", sum := "6c175189cfef61c13b1c9c19fd95d8c2a278adcc2e2930cb604b7384e3881649", func := "stopline/stoplinelaw24.LoadBetween", spec := "loadBetween", inPlace := ["math/bits.Add64"], apart := false, narrowed := true }
def LoadBetweenUptoSaid : Prop := loadBetweenUptoRow.holds Try.pinned (OpenSpec.upto loadBetweenSpec)

/-- 'stoplinelaw24.LoadNames', WHERE WHAT IT READS IS OF BULK AT MOST 1048576: true; the input reads as it did. -/
def loadNamesUptoRow : OpenClaim := { program := "ytmlfpijallccgaa", sum := "6c175189cfef61c13b1c9c19fd95d8c2a278adcc2e2930cb604b7384e3881649", func := "stopline/stoplinelaw24.LoadNames", spec := "loadNames", inPlace := ["math/bits.Add64"], unfollowed := true, recurses := true, apart := false, narrowed := true }
def LoadNamesUptoSaid : Prop := loadNamesUptoRow.holds Try.pinned (OpenSpec.upto loadNamesSpec)

end Rows
end Go.Proofs.Ytmlfpijallccgaa
