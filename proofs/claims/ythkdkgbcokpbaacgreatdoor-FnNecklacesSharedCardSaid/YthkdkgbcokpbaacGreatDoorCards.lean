/-
  DERIVED. GIVEN WITH THE SEED: THE CARDS: each row of YthkdkgbcokpbaacGreatDoorRows.lean that lists a variable, with what it lists TIED to the program's text (the seventh form; the later family's looks); each row that meets fmt, with fmt's text TOLD by the authors' own Lean function (tested against real Go, not proved from fmt's source: count such statements apart). THE CARD IS WHAT COUNTS. Prove the row's statement (the work); the ties are given (YthkdkgbcokpbaacGreatDoorTie.lean); close each card by the builder's one call (the guide's Derived/Test/ToyasCard.lean, 'card_holds'). Laid BY PROGRAM, IN A SANDBOX (cutbox-door.mjs). By AI agents, Wed Nov 11 2026. No macro, syntax, notation, axiom, sorry.
-/
import Derived.Test.YthkdkgbcokpbaacGreatDoorRows
import GoSem.ClaimSeven
namespace Go.Proofs.YthkdkgbcokpbaacGreatDoor
namespace Rows

/-- THE TIED CARD OF 'laws.FnNecklacesShared'. -/
def fnNecklacesSharedCard : Claim7 := { stood := { row := fnNecklacesSharedRow, standIns := [], harness := (true, "6d62eb6ca9fe9505b42fe6a5896e123687449bca6c1df794f43a7c17087febbc"), looks := false }, kinds := [], alts := [], laidByText := true, laidKinds := [.data, .pinned], laidTests := true, laidLooks := .later }
def FnNecklacesSharedCardSaid : Prop := Claim7.holds Tryz.pinned (.plain (OpenSpec.ofChange fnNecklacesSharedSpec)) fnNecklacesSharedCard

/-- THE SECOND FORM's CARD OF 'laws.FnNecklacesShared'. -/
def fnNecklacesSharedUptoCard : Claim7 := { stood := { row := fnNecklacesSharedUptoRow, standIns := [], harness := (true, "6d62eb6ca9fe9505b42fe6a5896e123687449bca6c1df794f43a7c17087febbc"), looks := false }, kinds := [], alts := [], laidByText := true, laidKinds := [.data, .pinned], laidTests := true, laidLooks := .later }
def FnNecklacesSharedUptoCardSaid : Prop := Claim7.holds Tryz.pinned (.plain (OpenSpec.upto fnNecklacesSharedSpec)) fnNecklacesSharedUptoCard
end Rows
end Go.Proofs.YthkdkgbcokpbaacGreatDoor
