/-
  DERIVED. GIVEN WITH THE SEED: THE CARDS: each row of YtlhilhimpbfllabDoorRows.lean that lists a variable, with what it lists TIED to the program's text (the seventh form; the later family's looks); each row that meets fmt, with fmt's text TOLD by the authors' own Lean function (tested against real Go, not proved from fmt's source: count such statements apart). THE CARD IS WHAT COUNTS. Prove the row's statement (the work); the ties are given (YtlhilhimpbfllabDoorTie.lean); close each card by the builder's one call (the guide's Derived/Test/ToyasCard.lean, 'card_holds'). Laid BY PROGRAM, IN A SANDBOX (cutbox-door.mjs). By AI agents, Wed Nov 11 2026. No macro, syntax, notation, axiom, sorry.
-/
import Derived.Test.YtlhilhimpbfllabDoorRows
import GoSem.ClaimSeven
namespace Go.Proofs.YtlhilhimpbfllabDoor
namespace Rows

/-- THE TIED CARD OF 'laws.FnExactWindowCounts'. -/
def fnExactWindowCountsCard : Claim7 := { stood := { row := fnExactWindowCountsRow, standIns := [], harness := (true, "f642abbed24eec66a6a9e8726c06b3019e4fa5e455e0dc87347b3a2e5b252164"), looks := false }, kinds := [], alts := [], laidByText := true, laidKinds := [.data, .pinned], laidTests := true, laidLooks := .later }
def FnExactWindowCountsCardSaid : Prop := Claim7.holds Tryd.pinned (.plain (OpenSpec.ofChange fnExactWindowCountsSpec)) fnExactWindowCountsCard

/-- THE TIED CARD OF 'laws.FnExactKindsOfBeads'. -/
def fnExactKindsOfBeadsCard : Claim7 := { stood := { row := fnExactKindsOfBeadsRow, standIns := [], harness := (true, "f642abbed24eec66a6a9e8726c06b3019e4fa5e455e0dc87347b3a2e5b252164"), looks := false }, kinds := [], alts := [], laidByText := true, laidKinds := [.data, .pinned], laidTests := true, laidLooks := .later }
def FnExactKindsOfBeadsCardSaid : Prop := Claim7.holds Tryd.pinned (.plain (OpenSpec.ofChange fnExactKindsOfBeadsSpec)) fnExactKindsOfBeadsCard

/-- THE TIED CARD OF 'laws.FnExactHalfWindow'. -/
def fnExactHalfWindowCard : Claim7 := { stood := { row := fnExactHalfWindowRow, standIns := [], harness := (true, "f642abbed24eec66a6a9e8726c06b3019e4fa5e455e0dc87347b3a2e5b252164"), looks := false }, kinds := [], alts := [], laidByText := true, laidKinds := [.data, .pinned], laidTests := true, laidLooks := .later }
def FnExactHalfWindowCardSaid : Prop := Claim7.holds Tryd.pinned (.plain (OpenSpec.ofChange fnExactHalfWindowSpec)) fnExactHalfWindowCard

/-- THE TIED CARD OF 'laws.FnExactRenameBeads'. -/
def fnExactRenameBeadsCard : Claim7 := { stood := { row := fnExactRenameBeadsRow, standIns := [], harness := (true, "f642abbed24eec66a6a9e8726c06b3019e4fa5e455e0dc87347b3a2e5b252164"), looks := false }, kinds := [], alts := [], laidByText := true, laidKinds := [.data, .pinned], laidTests := true, laidLooks := .later }
def FnExactRenameBeadsCardSaid : Prop := Claim7.holds Tryd.pinned (.plain (OpenSpec.ofChange fnExactRenameBeadsSpec)) fnExactRenameBeadsCard

/-- THE SECOND FORM's CARD OF 'laws.FnExactWindowCounts'. -/
def fnExactWindowCountsUptoCard : Claim7 := { stood := { row := fnExactWindowCountsUptoRow, standIns := [], harness := (true, "f642abbed24eec66a6a9e8726c06b3019e4fa5e455e0dc87347b3a2e5b252164"), looks := false }, kinds := [], alts := [], laidByText := true, laidKinds := [.data, .pinned], laidTests := true, laidLooks := .later }
def FnExactWindowCountsUptoCardSaid : Prop := Claim7.holds Tryd.pinned (.plain (OpenSpec.upto fnExactWindowCountsSpec)) fnExactWindowCountsUptoCard

/-- THE SECOND FORM's CARD OF 'laws.FnExactKindsOfBeads'. -/
def fnExactKindsOfBeadsUptoCard : Claim7 := { stood := { row := fnExactKindsOfBeadsUptoRow, standIns := [], harness := (true, "f642abbed24eec66a6a9e8726c06b3019e4fa5e455e0dc87347b3a2e5b252164"), looks := false }, kinds := [], alts := [], laidByText := true, laidKinds := [.data, .pinned], laidTests := true, laidLooks := .later }
def FnExactKindsOfBeadsUptoCardSaid : Prop := Claim7.holds Tryd.pinned (.plain (OpenSpec.upto fnExactKindsOfBeadsSpec)) fnExactKindsOfBeadsUptoCard

/-- THE SECOND FORM's CARD OF 'laws.FnExactHalfWindow'. -/
def fnExactHalfWindowUptoCard : Claim7 := { stood := { row := fnExactHalfWindowUptoRow, standIns := [], harness := (true, "f642abbed24eec66a6a9e8726c06b3019e4fa5e455e0dc87347b3a2e5b252164"), looks := false }, kinds := [], alts := [], laidByText := true, laidKinds := [.data, .pinned], laidTests := true, laidLooks := .later }
def FnExactHalfWindowUptoCardSaid : Prop := Claim7.holds Tryd.pinned (.plain (OpenSpec.upto fnExactHalfWindowSpec)) fnExactHalfWindowUptoCard

/-- THE SECOND FORM's CARD OF 'laws.FnExactRenameBeads'. -/
def fnExactRenameBeadsUptoCard : Claim7 := { stood := { row := fnExactRenameBeadsUptoRow, standIns := [], harness := (true, "f642abbed24eec66a6a9e8726c06b3019e4fa5e455e0dc87347b3a2e5b252164"), looks := false }, kinds := [], alts := [], laidByText := true, laidKinds := [.data, .pinned], laidTests := true, laidLooks := .later }
def FnExactRenameBeadsUptoCardSaid : Prop := Claim7.holds Tryd.pinned (.plain (OpenSpec.upto fnExactRenameBeadsSpec)) fnExactRenameBeadsUptoCard
end Rows
end Go.Proofs.YtlhilhimpbfllabDoor
