/-
  No cell of these rows narrows 'for every input' (looked for: loops, veiled, ifaces, maps, wideKeys, modest, calm, conditions, laid).
  DERIVED. THE GIVEN ROWS OF THIS SEAT. 7 by the template 'for every input the law returns true; each argument reads behind the call as it read before'; 0 by the template 'total and deterministic' (their statements: YtcdflgfhkohldaaTotals.lean).
  GIVEN WITH THE SEED: the statements are not yours to turn. If you find one false, say at which input.
  Laid BY PROGRAM, IN A SANDBOX (cutbox-rows.mjs): the forced cells as the released guide's own fill.sh prints them over the translation e5765e0482012b8c… (all of the seat's roots in one cut). By AI agents, Wed Nov 11 2026. No macro, syntax, notation, axiom, sorry.
-/
import Derived.Test.YtcdflgfhkohldaaChecked
import GoSem.Claim
import GoSem.ClaimJoined
import GoSem.ClaimMapViews
import Derived.JoinedTies
import Derived.KernelRfl
namespace Go.Proofs.Ytcdflgfhkohldaa
/- THE CELL 'sum', in the pinned program and in every row, IS THE sha256 OF THE DUMP (.gsa) THAT YtcdflgfhkohldaaProg.lean LOADS. Nothing in Lean hashes anything: it is a label: what it is worth is what the hold of that sum in a sandbox is worth. -/
noncomputable def Try.pinned : Pinned := { name := "ytcdflgfhkohldaa", sum := "e5765e0482012b8cc87a247143307718da474dfd318cac8de9e8de61850cb071", checked := Try.checked }
namespace Rows
def none {H : Type} : Left H := { results := [], args := [] }

/-- 'stoplinelaw19.StoreBlocks': WHATEVER THE INPUT: true; the input reads as it did. -/
def storeBlocksSpec : ChangeSpec := { name := "storeBlocks", fn := fun _ => fun
  | [d1, d2] => { results := [.lit (.bool true)], args := [d1, d2] }
  | _ => none }
def storeBlocksRow : OpenClaim := { program := "ytcdflgfhkohldaa", sum := "e5765e0482012b8cc87a247143307718da474dfd318cac8de9e8de61850cb071", func := "stopline/stoplinelaw19.StoreBlocks", spec := "storeBlocks", inPlace := ["internal/bytealg.MakeNoZero"], apart := false }
def StoreBlocksSaid : Prop := storeBlocksRow.holds Try.pinned (OpenSpec.ofChange storeBlocksSpec)

/-- ITS FALSE NEIGHBOUR: 'it returns false'. Refute it at one input. -/
def storeBlocksWrong : ChangeSpec := { name := "storeBlocks", fn := fun _ => fun
  | [d1, d2] => { results := [.lit (.bool false)], args := [d1, d2] }
  | _ => none }
def StoreBlocksWrongFalsely : Prop := storeBlocksRow.holds Try.pinned (OpenSpec.ofChange storeBlocksWrong)

/-- 'stoplinelaw19.StoreKeeps': WHATEVER THE INPUT: true; the input reads as it did. -/
def storeKeepsSpec : ChangeSpec := { name := "storeKeeps", fn := fun _ => fun
  | [d1, d2, d3, d4, d5] => { results := [.lit (.bool true)], args := [d1, d2, d3, d4, d5] }
  | _ => none }
def storeKeepsRow : OpenClaim := { program := "ytcdflgfhkohldaa", sum := "e5765e0482012b8cc87a247143307718da474dfd318cac8de9e8de61850cb071", func := "stopline/stoplinelaw19.StoreKeeps", spec := "storeKeeps", inPlace := ["internal/bytealg.MakeNoZero"], apart := false }
def StoreKeepsSaid : Prop := storeKeepsRow.holds Try.pinned (OpenSpec.ofChange storeKeepsSpec)

/-- ITS FALSE NEIGHBOUR: 'it returns false'. Refute it at one input. -/
def storeKeepsWrong : ChangeSpec := { name := "storeKeeps", fn := fun _ => fun
  | [d1, d2, d3, d4, d5] => { results := [.lit (.bool false)], args := [d1, d2, d3, d4, d5] }
  | _ => none }
def StoreKeepsWrongFalsely : Prop := storeKeepsRow.holds Try.pinned (OpenSpec.ofChange storeKeepsWrong)

/-- 'stoplinelaw19.StoreDone': WHATEVER THE INPUT: true; the input reads as it did. -/
def storeDoneSpec : ChangeSpec := { name := "storeDone", fn := fun _ => fun
  | [d1, d2, d3] => { results := [.lit (.bool true)], args := [d1, d2, d3] }
  | _ => none }
def storeDoneRow : OpenClaim := { program := "ytcdflgfhkohldaa", sum := "e5765e0482012b8cc87a247143307718da474dfd318cac8de9e8de61850cb071", func := "stopline/stoplinelaw19.StoreDone", spec := "storeDone", inPlace := ["internal/bytealg.MakeNoZero"], unfollowed := true, recurses := true, apart := false }
def StoreDoneSaid : Prop := storeDoneRow.holds Try.pinned (OpenSpec.ofChange storeDoneSpec)

/-- ITS FALSE NEIGHBOUR: 'it returns false'. Refute it at one input. -/
def storeDoneWrong : ChangeSpec := { name := "storeDone", fn := fun _ => fun
  | [d1, d2, d3] => { results := [.lit (.bool false)], args := [d1, d2, d3] }
  | _ => none }
def StoreDoneWrongFalsely : Prop := storeDoneRow.holds Try.pinned (OpenSpec.ofChange storeDoneWrong)

/-- 'stoplinelaw19.StoreTorn': WHATEVER THE INPUT: true; the input reads as it did. -/
def storeTornSpec : ChangeSpec := { name := "storeTorn", fn := fun _ => fun
  | [d1, d2, d3, d4, d5] => { results := [.lit (.bool true)], args := [d1, d2, d3, d4, d5] }
  | _ => none }
def storeTornRow : OpenClaim := { program := "ytcdflgfhkohldaa", sum := "e5765e0482012b8cc87a247143307718da474dfd318cac8de9e8de61850cb071", func := "stopline/stoplinelaw19.StoreTorn", spec := "storeTorn", inPlace := ["internal/bytealg.MakeNoZero"], unfollowed := true, recurses := true, apart := false }
def StoreTornSaid : Prop := storeTornRow.holds Try.pinned (OpenSpec.ofChange storeTornSpec)

/-- ITS FALSE NEIGHBOUR: 'it returns false'. Refute it at one input. -/
def storeTornWrong : ChangeSpec := { name := "storeTorn", fn := fun _ => fun
  | [d1, d2, d3, d4, d5] => { results := [.lit (.bool false)], args := [d1, d2, d3, d4, d5] }
  | _ => none }
def StoreTornWrongFalsely : Prop := storeTornRow.holds Try.pinned (OpenSpec.ofChange storeTornWrong)

/-- 'stoplinelaw19.StoreTwice': WHATEVER THE INPUT: true; the input reads as it did. -/
def storeTwiceSpec : ChangeSpec := { name := "storeTwice", fn := fun _ => fun
  | [d1, d2, d3, d4, d5, d6, d7] => { results := [.lit (.bool true)], args := [d1, d2, d3, d4, d5, d6, d7] }
  | _ => none }
def storeTwiceRow : OpenClaim := { program := "ytcdflgfhkohldaa", sum := "e5765e0482012b8cc87a247143307718da474dfd318cac8de9e8de61850cb071", func := "stopline/stoplinelaw19.StoreTwice", spec := "storeTwice", inPlace := ["internal/bytealg.MakeNoZero"], unfollowed := true, recurses := true, apart := false }
def StoreTwiceSaid : Prop := storeTwiceRow.holds Try.pinned (OpenSpec.ofChange storeTwiceSpec)

/-- ITS FALSE NEIGHBOUR: 'it returns false'. Refute it at one input. -/
def storeTwiceWrong : ChangeSpec := { name := "storeTwice", fn := fun _ => fun
  | [d1, d2, d3, d4, d5, d6, d7] => { results := [.lit (.bool false)], args := [d1, d2, d3, d4, d5, d6, d7] }
  | _ => none }
def StoreTwiceWrongFalsely : Prop := storeTwiceRow.holds Try.pinned (OpenSpec.ofChange storeTwiceWrong)

/-- 'stoplinelaw19.StoreNames': WHATEVER THE INPUT: true; the input reads as it did. -/
def storeNamesSpec : ChangeSpec := { name := "storeNames", fn := fun _ => fun
  | [] => { results := [.lit (.bool true)], args := [] }
  | _ => none }
def storeNamesRow : OpenClaim := { program := "ytcdflgfhkohldaa", sum := "e5765e0482012b8cc87a247143307718da474dfd318cac8de9e8de61850cb071", func := "stopline/stoplinelaw19.StoreNames", spec := "storeNames", inPlace := ["internal/bytealg.MakeNoZero"], unfollowed := true, recurses := true, apart := false }
def StoreNamesSaid : Prop := storeNamesRow.holds Try.pinned (OpenSpec.ofChange storeNamesSpec)

/-- ITS FALSE NEIGHBOUR: 'it returns false'. Refute it at one input. -/
def storeNamesWrong : ChangeSpec := { name := "storeNames", fn := fun _ => fun
  | [] => { results := [.lit (.bool false)], args := [] }
  | _ => none }
def StoreNamesWrongFalsely : Prop := storeNamesRow.holds Try.pinned (OpenSpec.ofChange storeNamesWrong)

/-- 'stoplinelaw19.StoreSlots': WHATEVER THE INPUT: true; the input reads as it did. -/
def storeSlotsSpec : ChangeSpec := { name := "storeSlots", fn := fun _ => fun
  | [d1, d2, d3, d4, d5] => { results := [.lit (.bool true)], args := [d1, d2, d3, d4, d5] }
  | _ => none }
def storeSlotsRow : OpenClaim := { program := "ytcdflgfhkohldaa", sum := "e5765e0482012b8cc87a247143307718da474dfd318cac8de9e8de61850cb071", func := "stopline/stoplinelaw19.StoreSlots", spec := "storeSlots", inPlace := ["internal/bytealg.MakeNoZero"], unfollowed := true, recurses := true, apart := false }
def StoreSlotsSaid : Prop := storeSlotsRow.holds Try.pinned (OpenSpec.ofChange storeSlotsSpec)

/-- ITS FALSE NEIGHBOUR: 'it returns false'. Refute it at one input. -/
def storeSlotsWrong : ChangeSpec := { name := "storeSlots", fn := fun _ => fun
  | [d1, d2, d3, d4, d5] => { results := [.lit (.bool false)], args := [d1, d2, d3, d4, d5] }
  | _ => none }
def StoreSlotsWrongFalsely : Prop := storeSlotsRow.holds Try.pinned (OpenSpec.ofChange storeSlotsWrong)

/- THE SECOND FORM. 'bulk': how many values and letters a reading holds, each counted each time it is reached (what is shared counts as often as it is met; a slice's spare places count too). A statement '..UptoSaid' is the law's where the arguments, and the package variables that the reading takes, are together of bulk at most 1048576: NARROWER than '..Said'. Prove '..Said' where nothing that the law and all that it calls make is longer than what came in: it says more and counts as full. Else prove '..UptoSaid'. A law counts once. -/
mutual
def uptoBulk {H : Type} : DataW H → Nat
  | .lit (.string bytes) => bytes.length + 1
  | .lit _ => 1
  | .nil => 1
  | .ptr d => uptoBulk d + 1
  | .slice elems spare => uptoBulkAll elems + uptoBulkAll spare + 1
  | .agg parts => uptoBulkAll parts + 1
  | .iface _ d => uptoBulk d + 1
  | .map entries => uptoBulkEntries entries + 1
  | .held _ => 1
def uptoBulkAll {H : Type} : List (DataW H) → Nat
  | [] => 0
  | d :: r => uptoBulk d + uptoBulkAll r
def uptoBulkEntries {H : Type} : List (Lit × DataW H) → Nat
  | [] => 0
  | x :: r => uptoBulkEntry x + uptoBulkEntries r
def uptoBulkEntry {H : Type} : Lit × DataW H → Nat
  | (.string bytes, d) => bytes.length + uptoBulk d + 1
  | (_, d) => uptoBulk d + 1
 end
def uptoSmall : (H : Type) → List (DataW H) → Bool := fun _ ds => decide (uptoBulkAll ds ≤ 1048576)
def OpenSpec.upto (s : _root_.Go.ChangeSpec) : _root_.Go.OpenSpec := { _root_.Go.OpenSpec.ofChange s with cond := some uptoSmall }

/-- 'stoplinelaw19.StoreBlocks', WHERE WHAT IT READS IS OF BULK AT MOST 1048576: true; the input reads as it did. -/
def storeBlocksUptoRow : OpenClaim := { program := "ytcdflgfhkohldaa", sum := "e5765e0482012b8cc87a247143307718da474dfd318cac8de9e8de61850cb071", func := "stopline/stoplinelaw19.StoreBlocks", spec := "storeBlocks", inPlace := ["internal/bytealg.MakeNoZero"], apart := false, narrowed := true }
def StoreBlocksUptoSaid : Prop := storeBlocksUptoRow.holds Try.pinned (OpenSpec.upto storeBlocksSpec)

/-- 'stoplinelaw19.StoreKeeps', WHERE WHAT IT READS IS OF BULK AT MOST 1048576: true; the input reads as it did. -/
def storeKeepsUptoRow : OpenClaim := { program := "ytcdflgfhkohldaa", sum := "e5765e0482012b8cc87a247143307718da474dfd318cac8de9e8de61850cb071", func := "stopline/stoplinelaw19.StoreKeeps", spec := "storeKeeps", inPlace := ["internal/bytealg.MakeNoZero"], apart := false, narrowed := true }
def StoreKeepsUptoSaid : Prop := storeKeepsUptoRow.holds Try.pinned (OpenSpec.upto storeKeepsSpec)

/-- 'stoplinelaw19.StoreDone', WHERE WHAT IT READS IS OF BULK AT MOST 1048576: true; the input reads as it did. -/
def storeDoneUptoRow : OpenClaim := { program := "ytcdflgfhkohldaa", sum := "e5765e0482012b8cc87a247143307718da474dfd318cac8de9e8de61850cb071", func := "stopline/stoplinelaw19.StoreDone", spec := "storeDone", inPlace := ["internal/bytealg.MakeNoZero"], unfollowed := true, recurses := true, apart := false, narrowed := true }
def StoreDoneUptoSaid : Prop := storeDoneUptoRow.holds Try.pinned (OpenSpec.upto storeDoneSpec)

/-- 'stoplinelaw19.StoreTorn', WHERE WHAT IT READS IS OF BULK AT MOST 1048576: true; the input reads as it did. -/
def storeTornUptoRow : OpenClaim := { program := "ytcdflgfhkohldaa", sum := "e5765e0482012b8cc87a247143307718da474dfd318cac8de9e8de61850cb071", func := "stopline/stoplinelaw19.StoreTorn", spec := "storeTorn", inPlace := ["internal/bytealg.MakeNoZero"], unfollowed := true, recurses := true, apart := false, narrowed := true }
def StoreTornUptoSaid : Prop := storeTornUptoRow.holds Try.pinned (OpenSpec.upto storeTornSpec)

/-- 'stoplinelaw19.StoreTwice', WHERE WHAT IT READS IS OF BULK AT MOST 1048576: true; the input reads as it did. -/
def storeTwiceUptoRow : OpenClaim := { program := "ytcdflgfhkohldaa", sum := "e5765e0482012b8cc87a247143307718da474dfd318cac8de9e8de61850cb071", func := "stopline/stoplinelaw19.StoreTwice", spec := "storeTwice", inPlace := ["internal/bytealg.MakeNoZero"], unfollowed := true, recurses := true, apart := false, narrowed := true }
def StoreTwiceUptoSaid : Prop := storeTwiceUptoRow.holds Try.pinned (OpenSpec.upto storeTwiceSpec)

/-- 'stoplinelaw19.StoreNames', WHERE WHAT IT READS IS OF BULK AT MOST 1048576: true; the input reads as it did. -/
def storeNamesUptoRow : OpenClaim := { program := "ytcdflgfhkohldaa", sum := "e5765e0482012b8cc87a247143307718da474dfd318cac8de9e8de61850cb071", func := "stopline/stoplinelaw19.StoreNames", spec := "storeNames", inPlace := ["internal/bytealg.MakeNoZero"], unfollowed := true, recurses := true, apart := false, narrowed := true }
def StoreNamesUptoSaid : Prop := storeNamesUptoRow.holds Try.pinned (OpenSpec.upto storeNamesSpec)

/-- 'stoplinelaw19.StoreSlots', WHERE WHAT IT READS IS OF BULK AT MOST 1048576: true; the input reads as it did. -/
def storeSlotsUptoRow : OpenClaim := { program := "ytcdflgfhkohldaa", sum := "e5765e0482012b8cc87a247143307718da474dfd318cac8de9e8de61850cb071", func := "stopline/stoplinelaw19.StoreSlots", spec := "storeSlots", inPlace := ["internal/bytealg.MakeNoZero"], unfollowed := true, recurses := true, apart := false, narrowed := true }
def StoreSlotsUptoSaid : Prop := storeSlotsUptoRow.holds Try.pinned (OpenSpec.upto storeSlotsSpec)

end Rows
end Go.Proofs.Ytcdflgfhkohldaa
