/-
  DERIVED. GIVEN WITH THE SEED: THE CARDS: each row of YtjhfkfiobpddnaaDoorRows.lean that lists a variable, with what it lists TIED to the program's text (the seventh form; the later family's looks); each row that meets fmt, with fmt's text TOLD by the authors' own Lean function (tested against real Go, not proved from fmt's source: count such statements apart). THE CARD IS WHAT COUNTS. Prove the row's statement (the work); the ties are given (YtjhfkfiobpddnaaDoorTie.lean); close each card by the builder's one call (the guide's Derived/Test/ToyasCard.lean, 'card_holds'). Laid BY PROGRAM, IN A SANDBOX (cutbox-door.mjs). By AI agents, Wed Nov 11 2026. No macro, syntax, notation, axiom, sorry.
-/
import Derived.Test.YtjhfkfiobpddnaaDoorRows
import GoSem.ClaimSeven
namespace Go.Proofs.YtjhfkfiobpddnaaDoor
namespace Rows

/-- THE TIED CARD OF 'laws.FnExactCountsOfBeads'. -/
def fnExactCountsOfBeadsCard : Claim7 := { stood := { row := fnExactCountsOfBeadsRow, standIns := [], harness := (true, "2ae70fd859b564076eae681b5bc5911ed28a1267bfa690229ce23cd78d4b0b5c"), looks := false }, kinds := [], alts := [], laidByText := true, laidKinds := [.data, .pinned], laidTests := true, laidLooks := .later }
def FnExactCountsOfBeadsCardSaid : Prop := Claim7.holds Tryd.pinned (.plain (OpenSpec.ofChange fnExactCountsOfBeadsSpec)) fnExactCountsOfBeadsCard

/-- THE TIED CARD OF 'laws.FnExactWindowCounts'. -/
def fnExactWindowCountsCard : Claim7 := { stood := { row := fnExactWindowCountsRow, standIns := [], harness := (true, "2ae70fd859b564076eae681b5bc5911ed28a1267bfa690229ce23cd78d4b0b5c"), looks := false }, kinds := [], alts := [], laidByText := true, laidKinds := [.data, .pinned], laidTests := true, laidLooks := .later }
def FnExactWindowCountsCardSaid : Prop := Claim7.holds Tryd.pinned (.plain (OpenSpec.ofChange fnExactWindowCountsSpec)) fnExactWindowCountsCard

/-- THE TIED CARD OF 'laws.FnExactKindsOfBeads'. -/
def fnExactKindsOfBeadsCard : Claim7 := { stood := { row := fnExactKindsOfBeadsRow, standIns := [], harness := (true, "2ae70fd859b564076eae681b5bc5911ed28a1267bfa690229ce23cd78d4b0b5c"), looks := false }, kinds := [], alts := [], laidByText := true, laidKinds := [.data, .pinned], laidTests := true, laidLooks := .later }
def FnExactKindsOfBeadsCardSaid : Prop := Claim7.holds Tryd.pinned (.plain (OpenSpec.ofChange fnExactKindsOfBeadsSpec)) fnExactKindsOfBeadsCard

/-- THE TIED CARD OF 'laws.FnExactCutsOfSigns'. -/
def fnExactCutsOfSignsCard : Claim7 := { stood := { row := fnExactCutsOfSignsRow, standIns := [], harness := (true, "2ae70fd859b564076eae681b5bc5911ed28a1267bfa690229ce23cd78d4b0b5c"), looks := false }, kinds := [], alts := [], laidByText := true, laidKinds := [.data, .pinned], laidTests := true, laidLooks := .later }
def FnExactCutsOfSignsCardSaid : Prop := Claim7.holds Tryd.pinned (.plain (OpenSpec.ofChange fnExactCutsOfSignsSpec)) fnExactCutsOfSignsCard

/-- THE TIED CARD OF 'laws.FnExactHalfWindow'. -/
def fnExactHalfWindowCard : Claim7 := { stood := { row := fnExactHalfWindowRow, standIns := [], harness := (true, "2ae70fd859b564076eae681b5bc5911ed28a1267bfa690229ce23cd78d4b0b5c"), looks := false }, kinds := [], alts := [], laidByText := true, laidKinds := [.data, .pinned], laidTests := true, laidLooks := .later }
def FnExactHalfWindowCardSaid : Prop := Claim7.holds Tryd.pinned (.plain (OpenSpec.ofChange fnExactHalfWindowSpec)) fnExactHalfWindowCard

/-- THE TIED CARD OF 'laws.FnExactFewestForThree'. -/
def fnExactFewestForThreeCard : Claim7 := { stood := { row := fnExactFewestForThreeRow, standIns := [], harness := (true, "2ae70fd859b564076eae681b5bc5911ed28a1267bfa690229ce23cd78d4b0b5c"), looks := false }, kinds := [], alts := [], laidByText := true, laidKinds := [.data, .pinned], laidTests := true, laidLooks := .later }
def FnExactFewestForThreeCardSaid : Prop := Claim7.holds Tryd.pinned (.plain (OpenSpec.ofChange fnExactFewestForThreeSpec)) fnExactFewestForThreeCard

/-- THE TIED CARD OF 'laws.FnExactSignsOf'. -/
def fnExactSignsOfCard : Claim7 := { stood := { row := fnExactSignsOfRow, standIns := [], harness := (true, "2ae70fd859b564076eae681b5bc5911ed28a1267bfa690229ce23cd78d4b0b5c"), looks := false }, kinds := [], alts := [], laidByText := true, laidKinds := [.data, .pinned], laidTests := true, laidLooks := .later }
def FnExactSignsOfCardSaid : Prop := Claim7.holds Tryd.pinned (.plain (OpenSpec.ofChange fnExactSignsOfSpec)) fnExactSignsOfCard

/-- THE TIED CARD OF 'laws.FnExactSharesOf'. -/
def fnExactSharesOfCard : Claim7 := { stood := { row := fnExactSharesOfRow, standIns := [], harness := (true, "2ae70fd859b564076eae681b5bc5911ed28a1267bfa690229ce23cd78d4b0b5c"), looks := false }, kinds := [], alts := [], laidByText := true, laidKinds := [.data, .pinned], laidTests := true, laidLooks := .later }
def FnExactSharesOfCardSaid : Prop := Claim7.holds Tryd.pinned (.plain (OpenSpec.ofChange fnExactSharesOfSpec)) fnExactSharesOfCard

/-- THE TIED CARD OF 'laws.FnExactIsFairSplit'. -/
def fnExactIsFairSplitCard : Claim7 := { stood := { row := fnExactIsFairSplitRow, standIns := [], harness := (true, "2ae70fd859b564076eae681b5bc5911ed28a1267bfa690229ce23cd78d4b0b5c"), looks := false }, kinds := [], alts := [], laidByText := true, laidKinds := [.data, .pinned], laidTests := true, laidLooks := .later }
def FnExactIsFairSplitCardSaid : Prop := Claim7.holds Tryd.pinned (.plain (OpenSpec.ofChange fnExactIsFairSplitSpec)) fnExactIsFairSplitCard

/-- THE TIED CARD OF 'laws.FnExactCountSplits'. -/
def fnExactCountSplitsCard : Claim7 := { stood := { row := fnExactCountSplitsRow, standIns := [], harness := (true, "2ae70fd859b564076eae681b5bc5911ed28a1267bfa690229ce23cd78d4b0b5c"), looks := false }, kinds := [], alts := [], laidByText := true, laidKinds := [.data, .pinned], laidTests := true, laidLooks := .later }
def FnExactCountSplitsCardSaid : Prop := Claim7.holds Tryd.pinned (.plain (OpenSpec.ofChange fnExactCountSplitsSpec)) fnExactCountSplitsCard

/-- THE TIED CARD OF 'laws.FnExactFewestCuts'. -/
def fnExactFewestCutsCard : Claim7 := { stood := { row := fnExactFewestCutsRow, standIns := [], harness := (true, "2ae70fd859b564076eae681b5bc5911ed28a1267bfa690229ce23cd78d4b0b5c"), looks := false }, kinds := [], alts := [], laidByText := true, laidKinds := [.data, .pinned], laidTests := true, laidLooks := .later }
def FnExactFewestCutsCardSaid : Prop := Claim7.holds Tryd.pinned (.plain (OpenSpec.ofChange fnExactFewestCutsSpec)) fnExactFewestCutsCard

/-- THE TIED CARD OF 'laws.FnExactFirstSplit'. -/
def fnExactFirstSplitCard : Claim7 := { stood := { row := fnExactFirstSplitRow, standIns := [], harness := (true, "2ae70fd859b564076eae681b5bc5911ed28a1267bfa690229ce23cd78d4b0b5c"), looks := false }, kinds := [], alts := [], laidByText := true, laidKinds := [.data, .pinned], laidTests := true, laidLooks := .later }
def FnExactFirstSplitCardSaid : Prop := Claim7.holds Tryd.pinned (.plain (OpenSpec.ofChange fnExactFirstSplitSpec)) fnExactFirstSplitCard

/-- THE TIED CARD OF 'laws.FnExactRenameBeads'. -/
def fnExactRenameBeadsCard : Claim7 := { stood := { row := fnExactRenameBeadsRow, standIns := [], harness := (true, "2ae70fd859b564076eae681b5bc5911ed28a1267bfa690229ce23cd78d4b0b5c"), looks := false }, kinds := [], alts := [], laidByText := true, laidKinds := [.data, .pinned], laidTests := true, laidLooks := .later }
def FnExactRenameBeadsCardSaid : Prop := Claim7.holds Tryd.pinned (.plain (OpenSpec.ofChange fnExactRenameBeadsSpec)) fnExactRenameBeadsCard

/-- THE TIED CARD OF 'laws.FnSignsOfShares'. -/
def fnSignsOfSharesCard : Claim7 := { stood := { row := fnSignsOfSharesRow, standIns := [], harness := (true, "2ae70fd859b564076eae681b5bc5911ed28a1267bfa690229ce23cd78d4b0b5c"), looks := false }, kinds := [], alts := [], laidByText := true, laidKinds := [.data, .pinned], laidTests := true, laidLooks := .later }
def FnSignsOfSharesCardSaid : Prop := Claim7.holds Tryd.pinned (.plain (OpenSpec.ofChange fnSignsOfSharesSpec)) fnSignsOfSharesCard

/-- THE TIED CARD OF 'laws.FnHalfWindows'. -/
def fnHalfWindowsCard : Claim7 := { stood := { row := fnHalfWindowsRow, standIns := [], harness := (true, "2ae70fd859b564076eae681b5bc5911ed28a1267bfa690229ce23cd78d4b0b5c"), looks := false }, kinds := [], alts := [], laidByText := true, laidKinds := [.data, .pinned], laidTests := true, laidLooks := .later }
def FnHalfWindowsCardSaid : Prop := Claim7.holds Tryd.pinned (.plain (OpenSpec.ofChange fnHalfWindowsSpec)) fnHalfWindowsCard

/-- THE SECOND FORM's CARD OF 'laws.FnExactCountsOfBeads'. -/
def fnExactCountsOfBeadsUptoCard : Claim7 := { stood := { row := fnExactCountsOfBeadsUptoRow, standIns := [], harness := (true, "2ae70fd859b564076eae681b5bc5911ed28a1267bfa690229ce23cd78d4b0b5c"), looks := false }, kinds := [], alts := [], laidByText := true, laidKinds := [.data, .pinned], laidTests := true, laidLooks := .later }
def FnExactCountsOfBeadsUptoCardSaid : Prop := Claim7.holds Tryd.pinned (.plain (OpenSpec.upto fnExactCountsOfBeadsSpec)) fnExactCountsOfBeadsUptoCard

/-- THE SECOND FORM's CARD OF 'laws.FnExactWindowCounts'. -/
def fnExactWindowCountsUptoCard : Claim7 := { stood := { row := fnExactWindowCountsUptoRow, standIns := [], harness := (true, "2ae70fd859b564076eae681b5bc5911ed28a1267bfa690229ce23cd78d4b0b5c"), looks := false }, kinds := [], alts := [], laidByText := true, laidKinds := [.data, .pinned], laidTests := true, laidLooks := .later }
def FnExactWindowCountsUptoCardSaid : Prop := Claim7.holds Tryd.pinned (.plain (OpenSpec.upto fnExactWindowCountsSpec)) fnExactWindowCountsUptoCard

/-- THE SECOND FORM's CARD OF 'laws.FnExactKindsOfBeads'. -/
def fnExactKindsOfBeadsUptoCard : Claim7 := { stood := { row := fnExactKindsOfBeadsUptoRow, standIns := [], harness := (true, "2ae70fd859b564076eae681b5bc5911ed28a1267bfa690229ce23cd78d4b0b5c"), looks := false }, kinds := [], alts := [], laidByText := true, laidKinds := [.data, .pinned], laidTests := true, laidLooks := .later }
def FnExactKindsOfBeadsUptoCardSaid : Prop := Claim7.holds Tryd.pinned (.plain (OpenSpec.upto fnExactKindsOfBeadsSpec)) fnExactKindsOfBeadsUptoCard

/-- THE SECOND FORM's CARD OF 'laws.FnExactCutsOfSigns'. -/
def fnExactCutsOfSignsUptoCard : Claim7 := { stood := { row := fnExactCutsOfSignsUptoRow, standIns := [], harness := (true, "2ae70fd859b564076eae681b5bc5911ed28a1267bfa690229ce23cd78d4b0b5c"), looks := false }, kinds := [], alts := [], laidByText := true, laidKinds := [.data, .pinned], laidTests := true, laidLooks := .later }
def FnExactCutsOfSignsUptoCardSaid : Prop := Claim7.holds Tryd.pinned (.plain (OpenSpec.upto fnExactCutsOfSignsSpec)) fnExactCutsOfSignsUptoCard

/-- THE SECOND FORM's CARD OF 'laws.FnExactHalfWindow'. -/
def fnExactHalfWindowUptoCard : Claim7 := { stood := { row := fnExactHalfWindowUptoRow, standIns := [], harness := (true, "2ae70fd859b564076eae681b5bc5911ed28a1267bfa690229ce23cd78d4b0b5c"), looks := false }, kinds := [], alts := [], laidByText := true, laidKinds := [.data, .pinned], laidTests := true, laidLooks := .later }
def FnExactHalfWindowUptoCardSaid : Prop := Claim7.holds Tryd.pinned (.plain (OpenSpec.upto fnExactHalfWindowSpec)) fnExactHalfWindowUptoCard

/-- THE SECOND FORM's CARD OF 'laws.FnExactFewestForThree'. -/
def fnExactFewestForThreeUptoCard : Claim7 := { stood := { row := fnExactFewestForThreeUptoRow, standIns := [], harness := (true, "2ae70fd859b564076eae681b5bc5911ed28a1267bfa690229ce23cd78d4b0b5c"), looks := false }, kinds := [], alts := [], laidByText := true, laidKinds := [.data, .pinned], laidTests := true, laidLooks := .later }
def FnExactFewestForThreeUptoCardSaid : Prop := Claim7.holds Tryd.pinned (.plain (OpenSpec.upto fnExactFewestForThreeSpec)) fnExactFewestForThreeUptoCard

/-- THE SECOND FORM's CARD OF 'laws.FnExactSignsOf'. -/
def fnExactSignsOfUptoCard : Claim7 := { stood := { row := fnExactSignsOfUptoRow, standIns := [], harness := (true, "2ae70fd859b564076eae681b5bc5911ed28a1267bfa690229ce23cd78d4b0b5c"), looks := false }, kinds := [], alts := [], laidByText := true, laidKinds := [.data, .pinned], laidTests := true, laidLooks := .later }
def FnExactSignsOfUptoCardSaid : Prop := Claim7.holds Tryd.pinned (.plain (OpenSpec.upto fnExactSignsOfSpec)) fnExactSignsOfUptoCard

/-- THE SECOND FORM's CARD OF 'laws.FnExactSharesOf'. -/
def fnExactSharesOfUptoCard : Claim7 := { stood := { row := fnExactSharesOfUptoRow, standIns := [], harness := (true, "2ae70fd859b564076eae681b5bc5911ed28a1267bfa690229ce23cd78d4b0b5c"), looks := false }, kinds := [], alts := [], laidByText := true, laidKinds := [.data, .pinned], laidTests := true, laidLooks := .later }
def FnExactSharesOfUptoCardSaid : Prop := Claim7.holds Tryd.pinned (.plain (OpenSpec.upto fnExactSharesOfSpec)) fnExactSharesOfUptoCard

/-- THE SECOND FORM's CARD OF 'laws.FnExactIsFairSplit'. -/
def fnExactIsFairSplitUptoCard : Claim7 := { stood := { row := fnExactIsFairSplitUptoRow, standIns := [], harness := (true, "2ae70fd859b564076eae681b5bc5911ed28a1267bfa690229ce23cd78d4b0b5c"), looks := false }, kinds := [], alts := [], laidByText := true, laidKinds := [.data, .pinned], laidTests := true, laidLooks := .later }
def FnExactIsFairSplitUptoCardSaid : Prop := Claim7.holds Tryd.pinned (.plain (OpenSpec.upto fnExactIsFairSplitSpec)) fnExactIsFairSplitUptoCard

/-- THE SECOND FORM's CARD OF 'laws.FnExactCountSplits'. -/
def fnExactCountSplitsUptoCard : Claim7 := { stood := { row := fnExactCountSplitsUptoRow, standIns := [], harness := (true, "2ae70fd859b564076eae681b5bc5911ed28a1267bfa690229ce23cd78d4b0b5c"), looks := false }, kinds := [], alts := [], laidByText := true, laidKinds := [.data, .pinned], laidTests := true, laidLooks := .later }
def FnExactCountSplitsUptoCardSaid : Prop := Claim7.holds Tryd.pinned (.plain (OpenSpec.upto fnExactCountSplitsSpec)) fnExactCountSplitsUptoCard

/-- THE SECOND FORM's CARD OF 'laws.FnExactFewestCuts'. -/
def fnExactFewestCutsUptoCard : Claim7 := { stood := { row := fnExactFewestCutsUptoRow, standIns := [], harness := (true, "2ae70fd859b564076eae681b5bc5911ed28a1267bfa690229ce23cd78d4b0b5c"), looks := false }, kinds := [], alts := [], laidByText := true, laidKinds := [.data, .pinned], laidTests := true, laidLooks := .later }
def FnExactFewestCutsUptoCardSaid : Prop := Claim7.holds Tryd.pinned (.plain (OpenSpec.upto fnExactFewestCutsSpec)) fnExactFewestCutsUptoCard

/-- THE SECOND FORM's CARD OF 'laws.FnExactFirstSplit'. -/
def fnExactFirstSplitUptoCard : Claim7 := { stood := { row := fnExactFirstSplitUptoRow, standIns := [], harness := (true, "2ae70fd859b564076eae681b5bc5911ed28a1267bfa690229ce23cd78d4b0b5c"), looks := false }, kinds := [], alts := [], laidByText := true, laidKinds := [.data, .pinned], laidTests := true, laidLooks := .later }
def FnExactFirstSplitUptoCardSaid : Prop := Claim7.holds Tryd.pinned (.plain (OpenSpec.upto fnExactFirstSplitSpec)) fnExactFirstSplitUptoCard

/-- THE SECOND FORM's CARD OF 'laws.FnExactRenameBeads'. -/
def fnExactRenameBeadsUptoCard : Claim7 := { stood := { row := fnExactRenameBeadsUptoRow, standIns := [], harness := (true, "2ae70fd859b564076eae681b5bc5911ed28a1267bfa690229ce23cd78d4b0b5c"), looks := false }, kinds := [], alts := [], laidByText := true, laidKinds := [.data, .pinned], laidTests := true, laidLooks := .later }
def FnExactRenameBeadsUptoCardSaid : Prop := Claim7.holds Tryd.pinned (.plain (OpenSpec.upto fnExactRenameBeadsSpec)) fnExactRenameBeadsUptoCard

/-- THE SECOND FORM's CARD OF 'laws.FnSignsOfShares'. -/
def fnSignsOfSharesUptoCard : Claim7 := { stood := { row := fnSignsOfSharesUptoRow, standIns := [], harness := (true, "2ae70fd859b564076eae681b5bc5911ed28a1267bfa690229ce23cd78d4b0b5c"), looks := false }, kinds := [], alts := [], laidByText := true, laidKinds := [.data, .pinned], laidTests := true, laidLooks := .later }
def FnSignsOfSharesUptoCardSaid : Prop := Claim7.holds Tryd.pinned (.plain (OpenSpec.upto fnSignsOfSharesSpec)) fnSignsOfSharesUptoCard

/-- THE SECOND FORM's CARD OF 'laws.FnHalfWindows'. -/
def fnHalfWindowsUptoCard : Claim7 := { stood := { row := fnHalfWindowsUptoRow, standIns := [], harness := (true, "2ae70fd859b564076eae681b5bc5911ed28a1267bfa690229ce23cd78d4b0b5c"), looks := false }, kinds := [], alts := [], laidByText := true, laidKinds := [.data, .pinned], laidTests := true, laidLooks := .later }
def FnHalfWindowsUptoCardSaid : Prop := Claim7.holds Tryd.pinned (.plain (OpenSpec.upto fnHalfWindowsSpec)) fnHalfWindowsUptoCard
end Rows
end Go.Proofs.YtjhfkfiobpddnaaDoor
