/-
  DERIVED. GIVEN WITH THE SEED: THE CARDS: each row of YtlhilhimpbfllaaDoorRows.lean that lists a variable, with what it lists TIED to the program's text (the seventh form; the later family's looks); each row that meets fmt, with fmt's text TOLD by the authors' own Lean function (tested against real Go, not proved from fmt's source: count such statements apart). THE CARD IS WHAT COUNTS. Prove the row's statement (the work); the ties are given (YtlhilhimpbfllaaDoorTie.lean); close each card by the builder's one call (the guide's Derived/Test/ToyasCard.lean, 'card_holds'). Laid BY PROGRAM, IN A SANDBOX (cutbox-door.mjs). By AI agents, Wed Nov 11 2026. No macro, syntax, notation, axiom, sorry.
-/
import Derived.Test.YtlhilhimpbfllaaDoorRows
import GoSem.ClaimSeven
namespace Go.Proofs.YtlhilhimpbfllaaDoor
namespace Rows

/-- THE TIED CARD OF 'laws.FnExactSharesOf'. -/
def fnExactSharesOfCard : Claim7 := { stood := { row := fnExactSharesOfRow, standIns := [], harness := (true, "92611d68a2a39613f36410761e57a1d58e2ddc7e92afe6bd1b4f6acbf257c1ce"), looks := false }, kinds := [], alts := [], laidByText := true, laidKinds := [.data, .pinned], laidTests := true, laidLooks := .later }
def FnExactSharesOfCardSaid : Prop := Claim7.holds Tryd.pinned (.plain (OpenSpec.ofChange fnExactSharesOfSpec)) fnExactSharesOfCard

/-- THE TIED CARD OF 'laws.FnExactSignsOf'. -/
def fnExactSignsOfCard : Claim7 := { stood := { row := fnExactSignsOfRow, standIns := [], harness := (true, "92611d68a2a39613f36410761e57a1d58e2ddc7e92afe6bd1b4f6acbf257c1ce"), looks := false }, kinds := [], alts := [], laidByText := true, laidKinds := [.data, .pinned], laidTests := true, laidLooks := .later }
def FnExactSignsOfCardSaid : Prop := Claim7.holds Tryd.pinned (.plain (OpenSpec.ofChange fnExactSignsOfSpec)) fnExactSignsOfCard

/-- THE TIED CARD OF 'laws.FnExactIsFairSplit'. -/
def fnExactIsFairSplitCard : Claim7 := { stood := { row := fnExactIsFairSplitRow, standIns := [], harness := (true, "92611d68a2a39613f36410761e57a1d58e2ddc7e92afe6bd1b4f6acbf257c1ce"), looks := false }, kinds := [], alts := [], laidByText := true, laidKinds := [.data, .pinned], laidTests := true, laidLooks := .later }
def FnExactIsFairSplitCardSaid : Prop := Claim7.holds Tryd.pinned (.plain (OpenSpec.ofChange fnExactIsFairSplitSpec)) fnExactIsFairSplitCard

/-- THE TIED CARD OF 'laws.FnExactCutsOfSigns'. -/
def fnExactCutsOfSignsCard : Claim7 := { stood := { row := fnExactCutsOfSignsRow, standIns := [], harness := (true, "92611d68a2a39613f36410761e57a1d58e2ddc7e92afe6bd1b4f6acbf257c1ce"), looks := false }, kinds := [], alts := [], laidByText := true, laidKinds := [.data, .pinned], laidTests := true, laidLooks := .later }
def FnExactCutsOfSignsCardSaid : Prop := Claim7.holds Tryd.pinned (.plain (OpenSpec.ofChange fnExactCutsOfSignsSpec)) fnExactCutsOfSignsCard

/-- THE SECOND FORM's CARD OF 'laws.FnExactSharesOf'. -/
def fnExactSharesOfUptoCard : Claim7 := { stood := { row := fnExactSharesOfUptoRow, standIns := [], harness := (true, "92611d68a2a39613f36410761e57a1d58e2ddc7e92afe6bd1b4f6acbf257c1ce"), looks := false }, kinds := [], alts := [], laidByText := true, laidKinds := [.data, .pinned], laidTests := true, laidLooks := .later }
def FnExactSharesOfUptoCardSaid : Prop := Claim7.holds Tryd.pinned (.plain (OpenSpec.upto fnExactSharesOfSpec)) fnExactSharesOfUptoCard

/-- THE SECOND FORM's CARD OF 'laws.FnExactSignsOf'. -/
def fnExactSignsOfUptoCard : Claim7 := { stood := { row := fnExactSignsOfUptoRow, standIns := [], harness := (true, "92611d68a2a39613f36410761e57a1d58e2ddc7e92afe6bd1b4f6acbf257c1ce"), looks := false }, kinds := [], alts := [], laidByText := true, laidKinds := [.data, .pinned], laidTests := true, laidLooks := .later }
def FnExactSignsOfUptoCardSaid : Prop := Claim7.holds Tryd.pinned (.plain (OpenSpec.upto fnExactSignsOfSpec)) fnExactSignsOfUptoCard

/-- THE SECOND FORM's CARD OF 'laws.FnExactIsFairSplit'. -/
def fnExactIsFairSplitUptoCard : Claim7 := { stood := { row := fnExactIsFairSplitUptoRow, standIns := [], harness := (true, "92611d68a2a39613f36410761e57a1d58e2ddc7e92afe6bd1b4f6acbf257c1ce"), looks := false }, kinds := [], alts := [], laidByText := true, laidKinds := [.data, .pinned], laidTests := true, laidLooks := .later }
def FnExactIsFairSplitUptoCardSaid : Prop := Claim7.holds Tryd.pinned (.plain (OpenSpec.upto fnExactIsFairSplitSpec)) fnExactIsFairSplitUptoCard

/-- THE SECOND FORM's CARD OF 'laws.FnExactCutsOfSigns'. -/
def fnExactCutsOfSignsUptoCard : Claim7 := { stood := { row := fnExactCutsOfSignsUptoRow, standIns := [], harness := (true, "92611d68a2a39613f36410761e57a1d58e2ddc7e92afe6bd1b4f6acbf257c1ce"), looks := false }, kinds := [], alts := [], laidByText := true, laidKinds := [.data, .pinned], laidTests := true, laidLooks := .later }
def FnExactCutsOfSignsUptoCardSaid : Prop := Claim7.holds Tryd.pinned (.plain (OpenSpec.upto fnExactCutsOfSignsSpec)) fnExactCutsOfSignsUptoCard
end Rows
end Go.Proofs.YtlhilhimpbfllaaDoor
