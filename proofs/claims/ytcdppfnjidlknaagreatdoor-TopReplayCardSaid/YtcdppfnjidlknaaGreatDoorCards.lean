/-
  DERIVED. GIVEN WITH THE SEED: THE CARDS: each row of YtcdppfnjidlknaaGreatDoorRows.lean that lists a variable, with what it lists TIED to the program's text (the seventh form; the later family's looks); each row that meets fmt, with fmt's text TOLD by the authors' own Lean function (tested against real Go, not proved from fmt's source: count such statements apart). THE CARD IS WHAT COUNTS. Prove the row's statement (the work); the ties are given (YtcdppfnjidlknaaGreatDoorTie.lean); close each card by the builder's one call (the guide's Derived/Test/ToyasCard.lean, 'card_holds'). Laid BY PROGRAM, IN A SANDBOX (cutbox-door.mjs). By AI agents, Wed Nov 11 2026. No macro, syntax, notation, axiom, sorry.
-/
import Derived.Test.YtcdppfnjidlknaaGreatDoorRows
import GoSem.ClaimSeven
namespace Go.Proofs.YtcdppfnjidlknaaGreatDoor
namespace Rows

/-- THE TIED CARD OF 'stoplinetop.TopSafe'. -/
def topSafeCard : Claim7 := { stood := { row := topSafeRow, standIns := [], harness := (true, "b3a3731fdcf22dd8478f5c004f5c36384d3de06c1975ca7a561c7ce5f086469e"), looks := false }, kinds := [], alts := [], laidByText := true, laidKinds := [.data, .data], laidTests := true, laidLooks := .later }
def TopSafeCardSaid : Prop := Claim7.holds Tryz.pinned (.plain (OpenSpec.ofChange topSafeSpec)) topSafeCard

/-- THE TIED CARD OF 'stoplinetop.TopLost'. -/
def topLostCard : Claim7 := { stood := { row := topLostRow, standIns := [], harness := (true, "b3a3731fdcf22dd8478f5c004f5c36384d3de06c1975ca7a561c7ce5f086469e"), looks := false }, kinds := [], alts := [], laidByText := true, laidKinds := [.data, .data], laidTests := true, laidLooks := .later }
def TopLostCardSaid : Prop := Claim7.holds Tryz.pinned (.plain (OpenSpec.ofChange topLostSpec)) topLostCard

/-- THE TIED CARD OF 'stoplinetop.TopHeard'. -/
def topHeardCard : Claim7 := { stood := { row := topHeardRow, standIns := [], harness := (true, "b3a3731fdcf22dd8478f5c004f5c36384d3de06c1975ca7a561c7ce5f086469e"), looks := false }, kinds := [], alts := [], laidByText := true, laidKinds := [.data, .data], laidTests := true, laidLooks := .later }
def TopHeardCardSaid : Prop := Claim7.holds Tryz.pinned (.plain (OpenSpec.ofChange topHeardSpec)) topHeardCard

/-- THE TIED CARD OF 'stoplinetop.TopWrong'. -/
def topWrongCard : Claim7 := { stood := { row := topWrongRow, standIns := [], harness := (true, "b3a3731fdcf22dd8478f5c004f5c36384d3de06c1975ca7a561c7ce5f086469e"), looks := false }, kinds := [], alts := [], laidByText := true, laidKinds := [.data, .data], laidTests := true, laidLooks := .later }
def TopWrongCardSaid : Prop := Claim7.holds Tryz.pinned (.plain (OpenSpec.ofChange topWrongSpec)) topWrongCard

/-- THE TIED CARD OF 'stoplinetop.TopUp'. -/
def topUpCard : Claim7 := { stood := { row := topUpRow, standIns := [], harness := (true, "b3a3731fdcf22dd8478f5c004f5c36384d3de06c1975ca7a561c7ce5f086469e"), looks := false }, kinds := [], alts := [], laidByText := true, laidKinds := [.data, .data], laidTests := true, laidLooks := .later }
def TopUpCardSaid : Prop := Claim7.holds Tryz.pinned (.plain (OpenSpec.ofChange topUpSpec)) topUpCard

/-- THE TIED CARD OF 'stoplinetop.TopOthers'. -/
def topOthersCard : Claim7 := { stood := { row := topOthersRow, standIns := [], harness := (true, "b3a3731fdcf22dd8478f5c004f5c36384d3de06c1975ca7a561c7ce5f086469e"), looks := false }, kinds := [], alts := [], laidByText := true, laidKinds := [.data, .data], laidTests := true, laidLooks := .later }
def TopOthersCardSaid : Prop := Claim7.holds Tryz.pinned (.plain (OpenSpec.ofChange topOthersSpec)) topOthersCard

/-- THE TIED CARD OF 'stoplinetop.TopReplay'. -/
def topReplayCard : Claim7 := { stood := { row := topReplayRow, standIns := [], harness := (true, "b3a3731fdcf22dd8478f5c004f5c36384d3de06c1975ca7a561c7ce5f086469e"), looks := false }, kinds := [], alts := [], laidByText := true, laidKinds := [.data, .data], laidTests := true, laidLooks := .later }
def TopReplayCardSaid : Prop := Claim7.holds Tryz.pinned (.plain (OpenSpec.ofChange topReplaySpec)) topReplayCard

/-- THE SECOND FORM's CARD OF 'stoplinetop.TopSafe'. -/
def topSafeUptoCard : Claim7 := { stood := { row := topSafeUptoRow, standIns := [], harness := (true, "b3a3731fdcf22dd8478f5c004f5c36384d3de06c1975ca7a561c7ce5f086469e"), looks := false }, kinds := [], alts := [], laidByText := true, laidKinds := [.data, .data], laidTests := true, laidLooks := .later }
def TopSafeUptoCardSaid : Prop := Claim7.holds Tryz.pinned (.plain (OpenSpec.upto topSafeSpec)) topSafeUptoCard

/-- THE SECOND FORM's CARD OF 'stoplinetop.TopLost'. -/
def topLostUptoCard : Claim7 := { stood := { row := topLostUptoRow, standIns := [], harness := (true, "b3a3731fdcf22dd8478f5c004f5c36384d3de06c1975ca7a561c7ce5f086469e"), looks := false }, kinds := [], alts := [], laidByText := true, laidKinds := [.data, .data], laidTests := true, laidLooks := .later }
def TopLostUptoCardSaid : Prop := Claim7.holds Tryz.pinned (.plain (OpenSpec.upto topLostSpec)) topLostUptoCard

/-- THE SECOND FORM's CARD OF 'stoplinetop.TopHeard'. -/
def topHeardUptoCard : Claim7 := { stood := { row := topHeardUptoRow, standIns := [], harness := (true, "b3a3731fdcf22dd8478f5c004f5c36384d3de06c1975ca7a561c7ce5f086469e"), looks := false }, kinds := [], alts := [], laidByText := true, laidKinds := [.data, .data], laidTests := true, laidLooks := .later }
def TopHeardUptoCardSaid : Prop := Claim7.holds Tryz.pinned (.plain (OpenSpec.upto topHeardSpec)) topHeardUptoCard

/-- THE SECOND FORM's CARD OF 'stoplinetop.TopWrong'. -/
def topWrongUptoCard : Claim7 := { stood := { row := topWrongUptoRow, standIns := [], harness := (true, "b3a3731fdcf22dd8478f5c004f5c36384d3de06c1975ca7a561c7ce5f086469e"), looks := false }, kinds := [], alts := [], laidByText := true, laidKinds := [.data, .data], laidTests := true, laidLooks := .later }
def TopWrongUptoCardSaid : Prop := Claim7.holds Tryz.pinned (.plain (OpenSpec.upto topWrongSpec)) topWrongUptoCard

/-- THE SECOND FORM's CARD OF 'stoplinetop.TopUp'. -/
def topUpUptoCard : Claim7 := { stood := { row := topUpUptoRow, standIns := [], harness := (true, "b3a3731fdcf22dd8478f5c004f5c36384d3de06c1975ca7a561c7ce5f086469e"), looks := false }, kinds := [], alts := [], laidByText := true, laidKinds := [.data, .data], laidTests := true, laidLooks := .later }
def TopUpUptoCardSaid : Prop := Claim7.holds Tryz.pinned (.plain (OpenSpec.upto topUpSpec)) topUpUptoCard

/-- THE SECOND FORM's CARD OF 'stoplinetop.TopOthers'. -/
def topOthersUptoCard : Claim7 := { stood := { row := topOthersUptoRow, standIns := [], harness := (true, "b3a3731fdcf22dd8478f5c004f5c36384d3de06c1975ca7a561c7ce5f086469e"), looks := false }, kinds := [], alts := [], laidByText := true, laidKinds := [.data, .data], laidTests := true, laidLooks := .later }
def TopOthersUptoCardSaid : Prop := Claim7.holds Tryz.pinned (.plain (OpenSpec.upto topOthersSpec)) topOthersUptoCard

/-- THE SECOND FORM's CARD OF 'stoplinetop.TopReplay'. -/
def topReplayUptoCard : Claim7 := { stood := { row := topReplayUptoRow, standIns := [], harness := (true, "b3a3731fdcf22dd8478f5c004f5c36384d3de06c1975ca7a561c7ce5f086469e"), looks := false }, kinds := [], alts := [], laidByText := true, laidKinds := [.data, .data], laidTests := true, laidLooks := .later }
def TopReplayUptoCardSaid : Prop := Claim7.holds Tryz.pinned (.plain (OpenSpec.upto topReplaySpec)) topReplayUptoCard
end Rows
end Go.Proofs.YtcdppfnjidlknaaGreatDoor
