/-
  DERIVED. GIVEN WITH THE SEED: THE CARDS: each row of YtemgnbpcchlpiaaDoorRows.lean that lists a variable, with what it lists TIED to the program's text (the seventh form; the later family's looks); each row that meets fmt, with fmt's text TOLD by the authors' own Lean function (tested against real Go, not proved from fmt's source: count such statements apart). THE CARD IS WHAT COUNTS. Prove the row's statement (the work); the ties are given (YtemgnbpcchlpiaaDoorTie.lean); close each card by the builder's one call (the guide's Derived/Test/ToyasCard.lean, 'card_holds'). Laid BY PROGRAM, IN A SANDBOX (cutbox-door.mjs). By AI agents, Wed Nov 11 2026. No macro, syntax, notation, axiom, sorry.
-/
import Derived.Test.YtemgnbpcchlpiaaDoorRows
import GoSem.ClaimSeven
namespace Go.Proofs.YtemgnbpcchlpiaaDoor
namespace Rows

/-- THE TIED CARD OF 'laws.FnKneserColours'. -/
def fnKneserColoursCard : Claim7 := { stood := { row := fnKneserColoursRow, standIns := [], harness := (true, "883b9440c5c2d594facdba7322e55705b9fd1ee2948db930d375c71ac717f03d"), looks := false }, kinds := [], alts := [], laidByText := true, laidKinds := [.data, .data], laidTests := true, laidLooks := .later }
def FnKneserColoursCardSaid : Prop := Claim7.holds Tryd.pinned (.plain (OpenSpec.ofChange fnKneserColoursSpec)) fnKneserColoursCard

/-- THE SECOND FORM's CARD OF 'laws.FnKneserColours'. -/
def fnKneserColoursUptoCard : Claim7 := { stood := { row := fnKneserColoursUptoRow, standIns := [], harness := (true, "883b9440c5c2d594facdba7322e55705b9fd1ee2948db930d375c71ac717f03d"), looks := false }, kinds := [], alts := [], laidByText := true, laidKinds := [.data, .data], laidTests := true, laidLooks := .later }
def FnKneserColoursUptoCardSaid : Prop := Claim7.holds Tryd.pinned (.plain (OpenSpec.upto fnKneserColoursSpec)) fnKneserColoursUptoCard
end Rows
end Go.Proofs.YtemgnbpcchlpiaaDoor
