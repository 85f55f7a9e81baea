/-
  DERIVED. GIVEN WITH THE SEED: THE CARDS: each row of YtmbkkhpjcblijaaDoorRows.lean that lists a variable, with what it lists TIED to the program's text (the seventh form; the later family's looks); each row that meets fmt, with fmt's text TOLD by the authors' own Lean function (tested against real Go, not proved from fmt's source: count such statements apart). THE CARD IS WHAT COUNTS. Prove the row's statement (the work); the ties are given (YtmbkkhpjcblijaaDoorTie.lean); close each card by the builder's one call (the guide's Derived/Test/ToyasCard.lean, 'card_holds'). Laid BY PROGRAM, IN A SANDBOX (cutbox-door.mjs). By AI agents, Wed Nov 11 2026. No macro, syntax, notation, axiom, sorry.
-/
import Derived.Test.YtmbkkhpjcblijaaDoorRows
import GoSem.ClaimSeven
namespace Go.Proofs.YtmbkkhpjcblijaaDoor
namespace Rows

/-- THE TIED CARD OF 'laws.FnExactFewestForThree'. -/
def fnExactFewestForThreeCard : Claim7 := { stood := { row := fnExactFewestForThreeRow, standIns := [], harness := (true, "f5e7b1855bf25237aef349248bace16702187c70aae3c7c65213c91062283a1a"), looks := false }, kinds := [], alts := [], laidByText := true, laidKinds := [.data, .pinned], laidTests := true, laidLooks := .later }
def FnExactFewestForThreeCardSaid : Prop := Claim7.holds Tryd.pinned (.plain (OpenSpec.ofChange fnExactFewestForThreeSpec)) fnExactFewestForThreeCard

/-- THE TIED CARD OF 'laws.FnExactFewestCuts'. -/
def fnExactFewestCutsCard : Claim7 := { stood := { row := fnExactFewestCutsRow, standIns := [], harness := (true, "f5e7b1855bf25237aef349248bace16702187c70aae3c7c65213c91062283a1a"), looks := false }, kinds := [], alts := [], laidByText := true, laidKinds := [.data, .pinned], laidTests := true, laidLooks := .later }
def FnExactFewestCutsCardSaid : Prop := Claim7.holds Tryd.pinned (.plain (OpenSpec.ofChange fnExactFewestCutsSpec)) fnExactFewestCutsCard

/-- THE TIED CARD OF 'laws.FnExactFirstSplit'. -/
def fnExactFirstSplitCard : Claim7 := { stood := { row := fnExactFirstSplitRow, standIns := [], harness := (true, "f5e7b1855bf25237aef349248bace16702187c70aae3c7c65213c91062283a1a"), looks := false }, kinds := [], alts := [], laidByText := true, laidKinds := [.data, .pinned], laidTests := true, laidLooks := .later }
def FnExactFirstSplitCardSaid : Prop := Claim7.holds Tryd.pinned (.plain (OpenSpec.ofChange fnExactFirstSplitSpec)) fnExactFirstSplitCard

/-- THE SECOND FORM's CARD OF 'laws.FnExactFewestForThree'. -/
def fnExactFewestForThreeUptoCard : Claim7 := { stood := { row := fnExactFewestForThreeUptoRow, standIns := [], harness := (true, "f5e7b1855bf25237aef349248bace16702187c70aae3c7c65213c91062283a1a"), looks := false }, kinds := [], alts := [], laidByText := true, laidKinds := [.data, .pinned], laidTests := true, laidLooks := .later }
def FnExactFewestForThreeUptoCardSaid : Prop := Claim7.holds Tryd.pinned (.plain (OpenSpec.upto fnExactFewestForThreeSpec)) fnExactFewestForThreeUptoCard

/-- THE SECOND FORM's CARD OF 'laws.FnExactFewestCuts'. -/
def fnExactFewestCutsUptoCard : Claim7 := { stood := { row := fnExactFewestCutsUptoRow, standIns := [], harness := (true, "f5e7b1855bf25237aef349248bace16702187c70aae3c7c65213c91062283a1a"), looks := false }, kinds := [], alts := [], laidByText := true, laidKinds := [.data, .pinned], laidTests := true, laidLooks := .later }
def FnExactFewestCutsUptoCardSaid : Prop := Claim7.holds Tryd.pinned (.plain (OpenSpec.upto fnExactFewestCutsSpec)) fnExactFewestCutsUptoCard

/-- THE SECOND FORM's CARD OF 'laws.FnExactFirstSplit'. -/
def fnExactFirstSplitUptoCard : Claim7 := { stood := { row := fnExactFirstSplitUptoRow, standIns := [], harness := (true, "f5e7b1855bf25237aef349248bace16702187c70aae3c7c65213c91062283a1a"), looks := false }, kinds := [], alts := [], laidByText := true, laidKinds := [.data, .pinned], laidTests := true, laidLooks := .later }
def FnExactFirstSplitUptoCardSaid : Prop := Claim7.holds Tryd.pinned (.plain (OpenSpec.upto fnExactFirstSplitSpec)) fnExactFirstSplitUptoCard
end Rows
end Go.Proofs.YtmbkkhpjcblijaaDoor
