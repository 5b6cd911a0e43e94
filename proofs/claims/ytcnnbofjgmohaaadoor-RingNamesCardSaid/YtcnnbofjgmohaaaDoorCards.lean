/-
  DERIVED. GIVEN WITH THE SEED: THE CARDS: each row of YtcnnbofjgmohaaaDoorRows.lean that lists a variable, with what it lists TIED to the program's text (the seventh form; the later family's looks); each row that meets fmt, with fmt's text TOLD by the authors' own Lean function (tested against real Go, not proved from fmt's source: count such statements apart). THE CARD IS WHAT COUNTS. Prove the row's statement (the work); the ties are given (YtcnnbofjgmohaaaDoorTie.lean); close each card by the builder's one call (the guide's Derived/Test/ToyasCard.lean, 'card_holds'). Laid BY PROGRAM, IN A SANDBOX (cutbox-door.mjs). By AI agents, Wed Nov 11 2026. No macro, syntax, notation, axiom, sorry.
-/
import Derived.Test.YtcnnbofjgmohaaaDoorRows
import GoSem.ClaimSeven
namespace Go.Proofs.YtcnnbofjgmohaaaDoor
namespace Rows

/-- THE TIED CARD OF 'stoplinelaw02.RingSets'. -/
def ringSetsCard : Claim7 := { stood := { row := ringSetsRow, standIns := [], harness := (true, "3d3ce972b6023da09bdd6e95d88bc27c31e9dd18bdc1a31cc950b1f9602b570f"), looks := false }, kinds := [], alts := [], laidByText := true, laidKinds := [.data], laidTests := true, laidLooks := .later }
def RingSetsCardSaid : Prop := Claim7.holds Tryd.pinned (.plain (OpenSpec.ofChange ringSetsSpec)) ringSetsCard

/-- THE TIED CARD OF 'stoplinelaw02.RingParts'. -/
def ringPartsCard : Claim7 := { stood := { row := ringPartsRow, standIns := [], harness := (true, "3d3ce972b6023da09bdd6e95d88bc27c31e9dd18bdc1a31cc950b1f9602b570f"), looks := false }, kinds := [], alts := [], laidByText := true, laidKinds := [.data], laidTests := true, laidLooks := .later }
def RingPartsCardSaid : Prop := Claim7.holds Tryd.pinned (.plain (OpenSpec.ofChange ringPartsSpec)) ringPartsCard

/-- THE TIED CARD OF 'stoplinelaw02.RingNames'. -/
def ringNamesCard : Claim7 := { stood := { row := ringNamesRow, standIns := [], harness := (true, "3d3ce972b6023da09bdd6e95d88bc27c31e9dd18bdc1a31cc950b1f9602b570f"), looks := false }, kinds := [], alts := [], laidByText := true, laidKinds := [.data], laidTests := true, laidLooks := .later }
def RingNamesCardSaid : Prop := Claim7.holds Tryd.pinned (.plain (OpenSpec.ofChange ringNamesSpec)) ringNamesCard

/-- THE SECOND FORM's CARD OF 'stoplinelaw02.RingSets'. -/
def ringSetsUptoCard : Claim7 := { stood := { row := ringSetsUptoRow, standIns := [], harness := (true, "3d3ce972b6023da09bdd6e95d88bc27c31e9dd18bdc1a31cc950b1f9602b570f"), looks := false }, kinds := [], alts := [], laidByText := true, laidKinds := [.data], laidTests := true, laidLooks := .later }
def RingSetsUptoCardSaid : Prop := Claim7.holds Tryd.pinned (.plain (OpenSpec.upto ringSetsSpec)) ringSetsUptoCard

/-- THE SECOND FORM's CARD OF 'stoplinelaw02.RingParts'. -/
def ringPartsUptoCard : Claim7 := { stood := { row := ringPartsUptoRow, standIns := [], harness := (true, "3d3ce972b6023da09bdd6e95d88bc27c31e9dd18bdc1a31cc950b1f9602b570f"), looks := false }, kinds := [], alts := [], laidByText := true, laidKinds := [.data], laidTests := true, laidLooks := .later }
def RingPartsUptoCardSaid : Prop := Claim7.holds Tryd.pinned (.plain (OpenSpec.upto ringPartsSpec)) ringPartsUptoCard

/-- THE SECOND FORM's CARD OF 'stoplinelaw02.RingNames'. -/
def ringNamesUptoCard : Claim7 := { stood := { row := ringNamesUptoRow, standIns := [], harness := (true, "3d3ce972b6023da09bdd6e95d88bc27c31e9dd18bdc1a31cc950b1f9602b570f"), looks := false }, kinds := [], alts := [], laidByText := true, laidKinds := [.data], laidTests := true, laidLooks := .later }
def RingNamesUptoCardSaid : Prop := Claim7.holds Tryd.pinned (.plain (OpenSpec.upto ringNamesSpec)) ringNamesUptoCard
end Rows
end Go.Proofs.YtcnnbofjgmohaaaDoor
