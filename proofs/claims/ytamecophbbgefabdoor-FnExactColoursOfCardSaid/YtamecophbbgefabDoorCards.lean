/-
  DERIVED. GIVEN WITH THE SEED: THE CARDS: each row of YtamecophbbgefabDoorRows.lean that lists a variable, with what it lists TIED to the program's text (the seventh form; the later family's looks); each row that meets fmt, with fmt's text TOLD by the authors' own Lean function (tested against real Go, not proved from fmt's source: count such statements apart). THE CARD IS WHAT COUNTS. Prove the row's statement (the work); the ties are given (YtamecophbbgefabDoorTie.lean); close each card by the builder's one call (the guide's Derived/Test/ToyasCard.lean, 'card_holds'). Laid BY PROGRAM, IN A SANDBOX (cutbox-door.mjs). By AI agents, Wed Nov 11 2026. No macro, syntax, notation, axiom, sorry.
-/
import Derived.Test.YtamecophbbgefabDoorRows
import GoSem.ClaimSeven
namespace Go.Proofs.YtamecophbbgefabDoor
namespace Rows

/-- THE TIED CARD OF 'laws.FnExactFewestForThree'. -/
def fnExactFewestForThreeCard : Claim7 := { stood := { row := fnExactFewestForThreeRow, standIns := [], harness := (true, "01bfe47f748e4a7360e57edbe8691c0dc33e6a9df9df72dcf8bb5454d6bb8447"), looks := false }, kinds := [], alts := [], laidByText := true, laidKinds := [.data, .pinned], laidTests := true, laidLooks := .later }
def FnExactFewestForThreeCardSaid : Prop := Claim7.holds Tryd.pinned (.plain (OpenSpec.ofChange fnExactFewestForThreeSpec)) fnExactFewestForThreeCard

/-- THE TIED CARD OF 'laws.FnExactColoursOf'. -/
def fnExactColoursOfCard : Claim7 := { stood := { row := fnExactColoursOfRow, standIns := [], harness := (true, "01bfe47f748e4a7360e57edbe8691c0dc33e6a9df9df72dcf8bb5454d6bb8447"), looks := false }, kinds := [], alts := [], laidByText := true, laidKinds := [.data, .data], laidTests := true, laidLooks := .later }
def FnExactColoursOfCardSaid : Prop := Claim7.holds Tryd.pinned (.plain (OpenSpec.ofChange fnExactColoursOfSpec)) fnExactColoursOfCard

/-- THE SECOND FORM's CARD OF 'laws.FnExactFewestForThree'. -/
def fnExactFewestForThreeUptoCard : Claim7 := { stood := { row := fnExactFewestForThreeUptoRow, standIns := [], harness := (true, "01bfe47f748e4a7360e57edbe8691c0dc33e6a9df9df72dcf8bb5454d6bb8447"), looks := false }, kinds := [], alts := [], laidByText := true, laidKinds := [.data, .pinned], laidTests := true, laidLooks := .later }
def FnExactFewestForThreeUptoCardSaid : Prop := Claim7.holds Tryd.pinned (.plain (OpenSpec.upto fnExactFewestForThreeSpec)) fnExactFewestForThreeUptoCard

/-- THE SECOND FORM's CARD OF 'laws.FnExactColoursOf'. -/
def fnExactColoursOfUptoCard : Claim7 := { stood := { row := fnExactColoursOfUptoRow, standIns := [], harness := (true, "01bfe47f748e4a7360e57edbe8691c0dc33e6a9df9df72dcf8bb5454d6bb8447"), looks := false }, kinds := [], alts := [], laidByText := true, laidKinds := [.data, .data], laidTests := true, laidLooks := .later }
def FnExactColoursOfUptoCardSaid : Prop := Claim7.holds Tryd.pinned (.plain (OpenSpec.upto fnExactColoursOfSpec)) fnExactColoursOfUptoCard
end Rows
end Go.Proofs.YtamecophbbgefabDoor
