/-
  DERIVED. GIVEN WITH THE SEED: THE CARDS: each row of YtamecophbbgefaaDoorRows.lean that lists a variable, with what it lists TIED to the program's text (the seventh form; the later family's looks); each row that meets fmt, with fmt's text TOLD by the authors' own Lean function (tested against real Go, not proved from fmt's source: count such statements apart). THE CARD IS WHAT COUNTS. Prove the row's statement (the work); the ties are given (YtamecophbbgefaaDoorTie.lean); close each card by the builder's one call (the guide's Derived/Test/ToyasCard.lean, 'card_holds'). Laid BY PROGRAM, IN A SANDBOX (cutbox-door.mjs). By AI agents, Wed Nov 11 2026. No macro, syntax, notation, axiom, sorry.
-/
import Derived.Test.YtamecophbbgefaaDoorRows
import GoSem.ClaimSeven
namespace Go.Proofs.YtamecophbbgefaaDoor
namespace Rows

/-- THE TIED CARD OF 'laws.FnExactCountSplits'. -/
def fnExactCountSplitsCard : Claim7 := { stood := { row := fnExactCountSplitsRow, standIns := [], harness := (true, "72a6501e1100438b7f26f7da584c4eafe5e1c858c9dd9937940806263906acf4"), looks := false }, kinds := [], alts := [], laidByText := true, laidKinds := [.data, .pinned], laidTests := true, laidLooks := .later }
def FnExactCountSplitsCardSaid : Prop := Claim7.holds Tryd.pinned (.plain (OpenSpec.ofChange fnExactCountSplitsSpec)) fnExactCountSplitsCard

/-- THE SECOND FORM's CARD OF 'laws.FnExactCountSplits'. -/
def fnExactCountSplitsUptoCard : Claim7 := { stood := { row := fnExactCountSplitsUptoRow, standIns := [], harness := (true, "72a6501e1100438b7f26f7da584c4eafe5e1c858c9dd9937940806263906acf4"), looks := false }, kinds := [], alts := [], laidByText := true, laidKinds := [.data, .pinned], laidTests := true, laidLooks := .later }
def FnExactCountSplitsUptoCardSaid : Prop := Claim7.holds Tryd.pinned (.plain (OpenSpec.upto fnExactCountSplitsSpec)) fnExactCountSplitsUptoCard
end Rows
end Go.Proofs.YtamecophbbgefaaDoor
