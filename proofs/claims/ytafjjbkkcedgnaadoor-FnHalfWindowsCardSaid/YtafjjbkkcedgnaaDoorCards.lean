/-
  DERIVED. GIVEN WITH THE SEED: THE CARDS: each row of YtafjjbkkcedgnaaDoorRows.lean that lists a variable, with what it lists TIED to the program's text (the seventh form; the later family's looks); each row that meets fmt, with fmt's text TOLD by the authors' own Lean function (tested against real Go, not proved from fmt's source: count such statements apart). THE CARD IS WHAT COUNTS. Prove the row's statement (the work); the ties are given (YtafjjbkkcedgnaaDoorTie.lean); close each card by the builder's one call (the guide's Derived/Test/ToyasCard.lean, 'card_holds'). Laid BY PROGRAM, IN A SANDBOX (cutbox-door.mjs). By AI agents, Wed Nov 11 2026. No macro, syntax, notation, axiom, sorry.
-/
import Derived.Test.YtafjjbkkcedgnaaDoorRows
import GoSem.ClaimSeven
namespace Go.Proofs.YtafjjbkkcedgnaaDoor
namespace Rows

/-- THE TIED CARD OF 'laws.FnSignsOfShares'. -/
def fnSignsOfSharesCard : Claim7 := { stood := { row := fnSignsOfSharesRow, standIns := [], harness := (true, "7dd2293c7f9f6d1c48ddc19b941ce4ffcc4d8f825ad987c9c33d4a757714d6fb"), looks := false }, kinds := [], alts := [], laidByText := true, laidKinds := [.data, .pinned], laidTests := true, laidLooks := .later }
def FnSignsOfSharesCardSaid : Prop := Claim7.holds Tryd.pinned (.plain (OpenSpec.ofChange fnSignsOfSharesSpec)) fnSignsOfSharesCard

/-- THE TIED CARD OF 'laws.FnHalfWindows'. -/
def fnHalfWindowsCard : Claim7 := { stood := { row := fnHalfWindowsRow, standIns := [], harness := (true, "7dd2293c7f9f6d1c48ddc19b941ce4ffcc4d8f825ad987c9c33d4a757714d6fb"), looks := false }, kinds := [], alts := [], laidByText := true, laidKinds := [.data, .pinned], laidTests := true, laidLooks := .later }
def FnHalfWindowsCardSaid : Prop := Claim7.holds Tryd.pinned (.plain (OpenSpec.ofChange fnHalfWindowsSpec)) fnHalfWindowsCard

/-- THE SECOND FORM's CARD OF 'laws.FnSignsOfShares'. -/
def fnSignsOfSharesUptoCard : Claim7 := { stood := { row := fnSignsOfSharesUptoRow, standIns := [], harness := (true, "7dd2293c7f9f6d1c48ddc19b941ce4ffcc4d8f825ad987c9c33d4a757714d6fb"), looks := false }, kinds := [], alts := [], laidByText := true, laidKinds := [.data, .pinned], laidTests := true, laidLooks := .later }
def FnSignsOfSharesUptoCardSaid : Prop := Claim7.holds Tryd.pinned (.plain (OpenSpec.upto fnSignsOfSharesSpec)) fnSignsOfSharesUptoCard

/-- THE SECOND FORM's CARD OF 'laws.FnHalfWindows'. -/
def fnHalfWindowsUptoCard : Claim7 := { stood := { row := fnHalfWindowsUptoRow, standIns := [], harness := (true, "7dd2293c7f9f6d1c48ddc19b941ce4ffcc4d8f825ad987c9c33d4a757714d6fb"), looks := false }, kinds := [], alts := [], laidByText := true, laidKinds := [.data, .pinned], laidTests := true, laidLooks := .later }
def FnHalfWindowsUptoCardSaid : Prop := Claim7.holds Tryd.pinned (.plain (OpenSpec.upto fnHalfWindowsSpec)) fnHalfWindowsUptoCard
end Rows
end Go.Proofs.YtafjjbkkcedgnaaDoor
