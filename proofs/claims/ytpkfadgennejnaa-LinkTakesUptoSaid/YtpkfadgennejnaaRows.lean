/-
  No cell of these rows narrows 'for every input' (looked for: loops, veiled, ifaces, maps, wideKeys, modest, calm, conditions, laid).
  DERIVED. THE GIVEN ROWS OF THIS SEAT. 7 by the template 'for every input the law returns true; each argument reads behind the call as it read before'; 0 by the template 'total and deterministic' (their statements: YtpkfadgennejnaaTotals.lean).
  GIVEN WITH THE SEED: the statements are not yours to turn. If you find one false, say at which input.
  Laid BY PROGRAM, IN A SANDBOX (cutbox-rows.mjs): the forced cells as the released guide's own fill.sh prints them over the translation ac14b9b65512ba9e… (all of the seat's roots in one cut). By AI agents, Wed Nov 11 2026. No macro, syntax, notation, axiom, sorry.
-/
import Derived.Test.YtpkfadgennejnaaChecked
import GoSem.Claim
import GoSem.ClaimJoined
import GoSem.ClaimMapViews
import Derived.JoinedTies
import Derived.KernelRfl
namespace Go.Proofs.Ytpkfadgennejnaa
/- THE CELL 'sum', in the pinned program and in every row, IS THE sha256 OF THE DUMP (.gsa) THAT YtpkfadgennejnaaProg.lean LOADS. Nothing in Lean hashes anything: it is a label: what it is worth is what the hold of that sum in a sandbox is worth. -/
noncomputable def Try.pinned : Pinned := { name := "ytpkfadgennejnaa", sum := "ac14b9b65512ba9ec9e340657bb6f4b795f10627516b6f61c857d9c364b7c643", checked := Try.checked }
namespace Rows
def none {H : Type} : Left H := { results := [], args := [] }

/-- 'stoplinelaw20.LinkRises': WHATEVER THE INPUT: true; the input reads as it did. -/
def linkRisesSpec : ChangeSpec := { name := "linkRises", fn := fun _ => fun
  | [d1, d2] => { results := [.lit (.bool true)], args := [d1, d2] }
  | _ => none }
def linkRisesRow : OpenClaim := { program := "ytpkfadgennejnaa", sum := "ac14b9b65512ba9ec9e340657bb6f4b795f10627516b6f61c857d9c364b7c643", func := "stopline/stoplinelaw20.LinkRises", spec := "linkRises", apart := false }
def LinkRisesSaid : Prop := linkRisesRow.holds Try.pinned (OpenSpec.ofChange linkRisesSpec)

/-- ITS FALSE NEIGHBOUR: 'it returns false'. Refute it at one input. -/
def linkRisesWrong : ChangeSpec := { name := "linkRises", fn := fun _ => fun
  | [d1, d2] => { results := [.lit (.bool false)], args := [d1, d2] }
  | _ => none }
def LinkRisesWrongFalsely : Prop := linkRisesRow.holds Try.pinned (OpenSpec.ofChange linkRisesWrong)

/-- 'stoplinelaw20.LinkAll': WHATEVER THE INPUT: true; the input reads as it did. -/
def linkAllSpec : ChangeSpec := { name := "linkAll", fn := fun _ => fun
  | [d1, d2, d3] => { results := [.lit (.bool true)], args := [d1, d2, d3] }
  | _ => none }
def linkAllRow : OpenClaim := { program := "ytpkfadgennejnaa", sum := "ac14b9b65512ba9ec9e340657bb6f4b795f10627516b6f61c857d9c364b7c643", func := "stopline/stoplinelaw20.LinkAll", spec := "linkAll", apart := false }
def LinkAllSaid : Prop := linkAllRow.holds Try.pinned (OpenSpec.ofChange linkAllSpec)

/-- ITS FALSE NEIGHBOUR: 'it returns false'. Refute it at one input. -/
def linkAllWrong : ChangeSpec := { name := "linkAll", fn := fun _ => fun
  | [d1, d2, d3] => { results := [.lit (.bool false)], args := [d1, d2, d3] }
  | _ => none }
def LinkAllWrongFalsely : Prop := linkAllRow.holds Try.pinned (OpenSpec.ofChange linkAllWrong)

/-- 'stoplinelaw20.LinkFresh': WHATEVER THE INPUT: true; the input reads as it did. -/
def linkFreshSpec : ChangeSpec := { name := "linkFresh", fn := fun _ => fun
  | [d1, d2, d3, d4] => { results := [.lit (.bool true)], args := [d1, d2, d3, d4] }
  | _ => none }
def linkFreshRow : OpenClaim := { program := "ytpkfadgennejnaa", sum := "ac14b9b65512ba9ec9e340657bb6f4b795f10627516b6f61c857d9c364b7c643", func := "stopline/stoplinelaw20.LinkFresh", spec := "linkFresh", apart := false }
def LinkFreshSaid : Prop := linkFreshRow.holds Try.pinned (OpenSpec.ofChange linkFreshSpec)

/-- ITS FALSE NEIGHBOUR: 'it returns false'. Refute it at one input. -/
def linkFreshWrong : ChangeSpec := { name := "linkFresh", fn := fun _ => fun
  | [d1, d2, d3, d4] => { results := [.lit (.bool false)], args := [d1, d2, d3, d4] }
  | _ => none }
def LinkFreshWrongFalsely : Prop := linkFreshRow.holds Try.pinned (OpenSpec.ofChange linkFreshWrong)

/-- 'stoplinelaw20.LinkTakes': WHATEVER THE INPUT: true; the input reads as it did. -/
def linkTakesSpec : ChangeSpec := { name := "linkTakes", fn := fun _ => fun
  | [d1, d2, d3, d4] => { results := [.lit (.bool true)], args := [d1, d2, d3, d4] }
  | _ => none }
def linkTakesRow : OpenClaim := { program := "ytpkfadgennejnaa", sum := "ac14b9b65512ba9ec9e340657bb6f4b795f10627516b6f61c857d9c364b7c643", func := "stopline/stoplinelaw20.LinkTakes", spec := "linkTakes", apart := false }
def LinkTakesSaid : Prop := linkTakesRow.holds Try.pinned (OpenSpec.ofChange linkTakesSpec)

/-- ITS FALSE NEIGHBOUR: 'it returns false'. Refute it at one input. -/
def linkTakesWrong : ChangeSpec := { name := "linkTakes", fn := fun _ => fun
  | [d1, d2, d3, d4] => { results := [.lit (.bool false)], args := [d1, d2, d3, d4] }
  | _ => none }
def LinkTakesWrongFalsely : Prop := linkTakesRow.holds Try.pinned (OpenSpec.ofChange linkTakesWrong)

/-- 'stoplinelaw20.LinkBodies': WHATEVER THE INPUT: true; the input reads as it did. -/
def linkBodiesSpec : ChangeSpec := { name := "linkBodies", fn := fun _ => fun
  | [d1, d2, d3] => { results := [.lit (.bool true)], args := [d1, d2, d3] }
  | _ => none }
def linkBodiesRow : OpenClaim := { program := "ytpkfadgennejnaa", sum := "ac14b9b65512ba9ec9e340657bb6f4b795f10627516b6f61c857d9c364b7c643", func := "stopline/stoplinelaw20.LinkBodies", spec := "linkBodies", unfollowed := true, recurses := true, apart := false }
def LinkBodiesSaid : Prop := linkBodiesRow.holds Try.pinned (OpenSpec.ofChange linkBodiesSpec)

/-- ITS FALSE NEIGHBOUR: 'it returns false'. Refute it at one input. -/
def linkBodiesWrong : ChangeSpec := { name := "linkBodies", fn := fun _ => fun
  | [d1, d2, d3] => { results := [.lit (.bool false)], args := [d1, d2, d3] }
  | _ => none }
def LinkBodiesWrongFalsely : Prop := linkBodiesRow.holds Try.pinned (OpenSpec.ofChange linkBodiesWrong)

/-- 'stoplinelaw20.LinkBack': WHATEVER THE INPUT: true; the input reads as it did. -/
def linkBackSpec : ChangeSpec := { name := "linkBack", fn := fun _ => fun
  | [d1, d2, d3] => { results := [.lit (.bool true)], args := [d1, d2, d3] }
  | _ => none }
def linkBackRow : OpenClaim := { program := "ytpkfadgennejnaa", sum := "ac14b9b65512ba9ec9e340657bb6f4b795f10627516b6f61c857d9c364b7c643", func := "stopline/stoplinelaw20.LinkBack", spec := "linkBack", unfollowed := true, recurses := true, apart := false }
def LinkBackSaid : Prop := linkBackRow.holds Try.pinned (OpenSpec.ofChange linkBackSpec)

/-- ITS FALSE NEIGHBOUR: 'it returns false'. Refute it at one input. -/
def linkBackWrong : ChangeSpec := { name := "linkBack", fn := fun _ => fun
  | [d1, d2, d3] => { results := [.lit (.bool false)], args := [d1, d2, d3] }
  | _ => none }
def LinkBackWrongFalsely : Prop := linkBackRow.holds Try.pinned (OpenSpec.ofChange linkBackWrong)

/-- 'stoplinelaw20.LinkNames': WHATEVER THE INPUT: true; the input reads as it did. -/
def linkNamesSpec : ChangeSpec := { name := "linkNames", fn := fun _ => fun
  | [] => { results := [.lit (.bool true)], args := [] }
  | _ => none }
def linkNamesRow : OpenClaim := { program := "ytpkfadgennejnaa", sum := "ac14b9b65512ba9ec9e340657bb6f4b795f10627516b6f61c857d9c364b7c643", func := "stopline/stoplinelaw20.LinkNames", spec := "linkNames", unfollowed := true, recurses := true, apart := false }
def LinkNamesSaid : Prop := linkNamesRow.holds Try.pinned (OpenSpec.ofChange linkNamesSpec)

/-- ITS FALSE NEIGHBOUR: 'it returns false'. Refute it at one input. -/
def linkNamesWrong : ChangeSpec := { name := "linkNames", fn := fun _ => fun
  | [] => { results := [.lit (.bool false)], args := [] }
  | _ => none }
def LinkNamesWrongFalsely : Prop := linkNamesRow.holds Try.pinned (OpenSpec.ofChange linkNamesWrong)

/- THE SECOND FORM. 'bulk': how many values and letters a reading holds, each counted each time it is reached (what is shared counts as often as it is met; a slice's spare places count too). A statement '..UptoSaid' is the law's where the arguments, and the package variables that the reading takes, are together of bulk at most 1048576: NARROWER than '..Said'. Prove '..Said' where nothing that the law and all that it calls make is longer than what came in: it says more and counts as full. Else prove '..UptoSaid'. A law counts once. -/
mutual
def uptoBulk {H : Type} : DataW H → Nat
  | .lit (.string bytes) => bytes.length + 1
  | .lit _ => 1
  | .nil => 1
  | .ptr d => uptoBulk d + 1
  | .slice elems spare => uptoBulkAll elems + uptoBulkAll spare + 1
  | .agg parts => uptoBulkAll parts + 1
  | .iface _ d => uptoBulk d + 1
  | .map entries => uptoBulkEntries entries + 1
  | .held _ => 1
def uptoBulkAll {H : Type} : List (DataW H) → Nat
  | [] => 0
  | d :: r => uptoBulk d + uptoBulkAll r
def uptoBulkEntries {H : Type} : List (Lit × DataW H) → Nat
  | [] => 0
  | x :: r => uptoBulkEntry x + uptoBulkEntries r
def uptoBulkEntry {H : Type} : Lit × DataW H → Nat
  | (.string bytes, d) => bytes.length + uptoBulk d + 1
  | (_, d) => uptoBulk d + 1
 end
def uptoSmall : (H : Type) → List (DataW H) → Bool := fun _ ds => decide (uptoBulkAll ds ≤ 1048576)
def OpenSpec.upto (s : _root_.Go.ChangeSpec) : _root_.Go.OpenSpec := { _root_.Go.OpenSpec.ofChange s with cond := some uptoSmall }

/-- 'stoplinelaw20.LinkRises', WHERE WHAT IT READS IS OF BULK AT MOST 1048576: true; the input reads as it did. -/
def linkRisesUptoRow : OpenClaim := { program := "ytpkfadgennejnaa", sum := "ac14b9b65512ba9ec9e340657bb6f4b795f10627516b6f61c857d9c364b7c643", func := "stopline/stoplinelaw20.LinkRises", spec := "linkRises", apart := false, narrowed := true }
def LinkRisesUptoSaid : Prop := linkRisesUptoRow.holds Try.pinned (OpenSpec.upto linkRisesSpec)

/-- 'stoplinelaw20.LinkAll', WHERE WHAT IT READS IS OF BULK AT MOST 1048576: true; the input reads as it did. -/
def linkAllUptoRow : OpenClaim := { program := "ytpkfadgennejnaa", sum := "ac14b9b65512ba9ec9e340657bb6f4b795f10627516b6f61c857d9c364b7c643", func := "stopline/stoplinelaw20.LinkAll", spec := "linkAll", apart := false, narrowed := true }
def LinkAllUptoSaid : Prop := linkAllUptoRow.holds Try.pinned (OpenSpec.upto linkAllSpec)

/-- 'stoplinelaw20.LinkFresh', WHERE WHAT IT READS IS OF BULK AT MOST 1048576: true; the input reads as it did. -/
def linkFreshUptoRow : OpenClaim := { program := "ytpkfadgennejnaa", sum := "ac14b9b65512ba9ec9e340657bb6f4b795f10627516b6f61c857d9c364b7c643", func := "stopline/stoplinelaw20.LinkFresh", spec := "linkFresh", apart := false, narrowed := true }
def LinkFreshUptoSaid : Prop := linkFreshUptoRow.holds Try.pinned (OpenSpec.upto linkFreshSpec)

/-- 'stoplinelaw20.LinkTakes', WHERE WHAT IT READS IS OF BULK AT MOST 1048576: true; the input reads as it did. -/
def linkTakesUptoRow : OpenClaim := { program := "ytpkfadgennejnaa", sum := "ac14b9b65512ba9ec9e340657bb6f4b795f10627516b6f61c857d9c364b7c643", func := "stopline/stoplinelaw20.LinkTakes", spec := "linkTakes", apart := false, narrowed := true }
def LinkTakesUptoSaid : Prop := linkTakesUptoRow.holds Try.pinned (OpenSpec.upto linkTakesSpec)

/-- 'stoplinelaw20.LinkBodies', WHERE WHAT IT READS IS OF BULK AT MOST 1048576: true; the input reads as it did. -/
def linkBodiesUptoRow : OpenClaim := { program := "ytpkfadgennejnaa", sum := "ac14b9b65512ba9ec9e340657bb6f4b795f10627516b6f61c857d9c364b7c643", func := "stopline/stoplinelaw20.LinkBodies", spec := "linkBodies", unfollowed := true, recurses := true, apart := false, narrowed := true }
def LinkBodiesUptoSaid : Prop := linkBodiesUptoRow.holds Try.pinned (OpenSpec.upto linkBodiesSpec)

/-- 'stoplinelaw20.LinkBack', WHERE WHAT IT READS IS OF BULK AT MOST 1048576: true; the input reads as it did. -/
def linkBackUptoRow : OpenClaim := { program := "ytpkfadgennejnaa", sum := "ac14b9b65512ba9ec9e340657bb6f4b795f10627516b6f61c857d9c364b7c643", func := "stopline/stoplinelaw20.LinkBack", spec := "linkBack", unfollowed := true, recurses := true, apart := false, narrowed := true }
def LinkBackUptoSaid : Prop := linkBackUptoRow.holds Try.pinned (OpenSpec.upto linkBackSpec)

/-- 'stoplinelaw20.LinkNames', WHERE WHAT IT READS IS OF BULK AT MOST 1048576: true; the input reads as it did. -/
def linkNamesUptoRow : OpenClaim := { program := "ytpkfadgennejnaa", sum := "ac14b9b65512ba9ec9e340657bb6f4b795f10627516b6f61c857d9c364b7c643", func := "stopline/stoplinelaw20.LinkNames", spec := "linkNames", unfollowed := true, recurses := true, apart := false, narrowed := true }
def LinkNamesUptoSaid : Prop := linkNamesUptoRow.holds Try.pinned (OpenSpec.upto linkNamesSpec)

end Rows
end Go.Proofs.Ytpkfadgennejnaa
