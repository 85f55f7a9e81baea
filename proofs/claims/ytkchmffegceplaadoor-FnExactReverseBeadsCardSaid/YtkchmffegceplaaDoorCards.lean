/-
  DERIVED. GIVEN WITH THE SEED: THE CARDS: each row of YtkchmffegceplaaDoorRows.lean that lists a variable, with what it lists TIED to the program's text (the seventh form; the later family's looks); each row that meets fmt, with fmt's text TOLD by the authors' own Lean function (tested against real Go, not proved from fmt's source: count such statements apart). THE CARD IS WHAT COUNTS. Prove the row's statement (the work); the ties are given (YtkchmffegceplaaDoorTie.lean); close each card by the builder's one call (the guide's Derived/Test/ToyasCard.lean, 'card_holds'). Laid BY PROGRAM, IN A SANDBOX (cutbox-door.mjs). By AI agents, Wed Nov 11 2026. No macro, syntax, notation, axiom, sorry.
-/
import Derived.Test.YtkchmffegceplaaDoorRows
import GoSem.ClaimSeven
namespace Go.Proofs.YtkchmffegceplaaDoor
namespace Rows

/-- THE TIED CARD OF 'laws.FnExactColoursOf'. -/
def fnExactColoursOfCard : Claim7 := { stood := { row := fnExactColoursOfRow, standIns := [], harness := (true, "97a7862c214747b44e2fc4b335c6ec0547ffdb4f414d3e95192e9bf88a0e40b1"), looks := false }, kinds := [], alts := [], laidByText := true, laidKinds := [.data, .data], laidTests := true, laidLooks := .later }
def FnExactColoursOfCardSaid : Prop := Claim7.holds Tryd.pinned (.plain (OpenSpec.ofChange fnExactColoursOfSpec)) fnExactColoursOfCard

/-- THE TIED CARD OF 'laws.FnExactIsNecklace'. -/
def fnExactIsNecklaceCard : Claim7 := { stood := { row := fnExactIsNecklaceRow, standIns := [], harness := (true, "97a7862c214747b44e2fc4b335c6ec0547ffdb4f414d3e95192e9bf88a0e40b1"), looks := false }, kinds := [], alts := [], laidByText := true, laidKinds := [.data, .pinned], laidTests := true, laidLooks := .later }
def FnExactIsNecklaceCardSaid : Prop := Claim7.holds Tryd.pinned (.plain (OpenSpec.ofChange fnExactIsNecklaceSpec)) fnExactIsNecklaceCard

/-- THE TIED CARD OF 'laws.FnExactReverseBeads'. -/
def fnExactReverseBeadsCard : Claim7 := { stood := { row := fnExactReverseBeadsRow, standIns := [], harness := (true, "97a7862c214747b44e2fc4b335c6ec0547ffdb4f414d3e95192e9bf88a0e40b1"), looks := false }, kinds := [], alts := [], laidByText := true, laidKinds := [.data, .pinned], laidTests := true, laidLooks := .later }
def FnExactReverseBeadsCardSaid : Prop := Claim7.holds Tryd.pinned (.plain (OpenSpec.ofChange fnExactReverseBeadsSpec)) fnExactReverseBeadsCard

/-- THE TIED CARD OF 'laws.FnKneserColours'. -/
def fnKneserColoursCard : Claim7 := { stood := { row := fnKneserColoursRow, standIns := [], harness := (true, "97a7862c214747b44e2fc4b335c6ec0547ffdb4f414d3e95192e9bf88a0e40b1"), looks := false }, kinds := [], alts := [], laidByText := true, laidKinds := [.data, .data], laidTests := true, laidLooks := .later }
def FnKneserColoursCardSaid : Prop := Claim7.holds Tryd.pinned (.plain (OpenSpec.ofChange fnKneserColoursSpec)) fnKneserColoursCard

/-- THE SECOND FORM's CARD OF 'laws.FnExactColoursOf'. -/
def fnExactColoursOfUptoCard : Claim7 := { stood := { row := fnExactColoursOfUptoRow, standIns := [], harness := (true, "97a7862c214747b44e2fc4b335c6ec0547ffdb4f414d3e95192e9bf88a0e40b1"), looks := false }, kinds := [], alts := [], laidByText := true, laidKinds := [.data, .data], laidTests := true, laidLooks := .later }
def FnExactColoursOfUptoCardSaid : Prop := Claim7.holds Tryd.pinned (.plain (OpenSpec.upto fnExactColoursOfSpec)) fnExactColoursOfUptoCard

/-- THE SECOND FORM's CARD OF 'laws.FnExactIsNecklace'. -/
def fnExactIsNecklaceUptoCard : Claim7 := { stood := { row := fnExactIsNecklaceUptoRow, standIns := [], harness := (true, "97a7862c214747b44e2fc4b335c6ec0547ffdb4f414d3e95192e9bf88a0e40b1"), looks := false }, kinds := [], alts := [], laidByText := true, laidKinds := [.data, .pinned], laidTests := true, laidLooks := .later }
def FnExactIsNecklaceUptoCardSaid : Prop := Claim7.holds Tryd.pinned (.plain (OpenSpec.upto fnExactIsNecklaceSpec)) fnExactIsNecklaceUptoCard

/-- THE SECOND FORM's CARD OF 'laws.FnExactReverseBeads'. -/
def fnExactReverseBeadsUptoCard : Claim7 := { stood := { row := fnExactReverseBeadsUptoRow, standIns := [], harness := (true, "97a7862c214747b44e2fc4b335c6ec0547ffdb4f414d3e95192e9bf88a0e40b1"), looks := false }, kinds := [], alts := [], laidByText := true, laidKinds := [.data, .pinned], laidTests := true, laidLooks := .later }
def FnExactReverseBeadsUptoCardSaid : Prop := Claim7.holds Tryd.pinned (.plain (OpenSpec.upto fnExactReverseBeadsSpec)) fnExactReverseBeadsUptoCard

/-- THE SECOND FORM's CARD OF 'laws.FnKneserColours'. -/
def fnKneserColoursUptoCard : Claim7 := { stood := { row := fnKneserColoursUptoRow, standIns := [], harness := (true, "97a7862c214747b44e2fc4b335c6ec0547ffdb4f414d3e95192e9bf88a0e40b1"), looks := false }, kinds := [], alts := [], laidByText := true, laidKinds := [.data, .data], laidTests := true, laidLooks := .later }
def FnKneserColoursUptoCardSaid : Prop := Claim7.holds Tryd.pinned (.plain (OpenSpec.upto fnKneserColoursSpec)) fnKneserColoursUptoCard
end Rows
end Go.Proofs.YtkchmffegceplaaDoor
