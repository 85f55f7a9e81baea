/-
  NARROWER THAN 'FOR EVERY INPUT', by the rows' own cells (each row's printed sentence says how): FnExactWindowCounts: laid · FnExactKindsOfBeads: laid · FnExactHalfWindow: laid · FnExactRenameBeads: laid.
  DERIVED. THE GIVEN ROWS OF THIS SEAT. 4 by the template 'for every input the law returns true; each argument reads behind the call as it read before'; 0 by the template 'total and deterministic' (their statements: YtlhilhimpbfllabDoorTotals.lean).
  GIVEN WITH THE SEED: the statements are not yours to turn. If you find one false, say at which input.
  Laid BY PROGRAM, IN A SANDBOX (cutbox-rows.mjs): the forced cells as the released guide's own fill.sh prints them over the translation f001c7d1ccf609e0… (all of the seat's roots in one cut). By AI agents, Wed Nov 11 2026. No macro, syntax, notation, axiom, sorry.
-/
import Derived.Test.YtlhilhimpbfllabDoorChecked
import GoSem.PinnedTables
import GoSem.Claim
import GoSem.ClaimJoined
import GoSem.ClaimMapViews
import Derived.JoinedTies
import Derived.KernelRfl
namespace Go.Proofs.YtlhilhimpbfllabDoor
/- THE CELL 'sum', in the pinned program and in every row, IS THE sha256 OF THE DUMP (.gsa) THAT YtlhilhimpbfllabDoorProg.lean LOADS. Nothing in Lean hashes anything: it is a label: what it is worth is what the hold of that sum in a sandbox is worth. -/
noncomputable def Tryd.pinned : Pinned := { name := "ytlhilhimpbfllabdoor", sum := "f001c7d1ccf609e01e7adf20db3093dfa329497626b65f51e03d3d8e2293d026", checked := Tryd.checked }
namespace Rows
def none {H : Type} : Left H := { results := [], args := [] }

/- WHAT THE LISTED PACKAGE-LEVEL VARIABLES READ AS WHEN THE CALL BEGINS. Each datum BY PROGRAM (the guide's laid-datum.mjs) off the statement by which the dump's own 'gosem.cut.vars' lays the variable. In a bare row this is a premise. The card (YtlhilhimpbfllabDoorCards.lean) ties it to the program's text. -/
def laid_unicode_utf8_acceptRanges {H : Type} : DataW H := .agg [.agg [.lit (.int .u8 128), .lit (.int .u8 191)], .agg [.lit (.int .u8 160), .lit (.int .u8 191)], .agg [.lit (.int .u8 128), .lit (.int .u8 159)], .agg [.lit (.int .u8 144), .lit (.int .u8 191)], .agg [.lit (.int .u8 128), .lit (.int .u8 143)], .agg [.lit (.int .u8 0), .lit (.int .u8 0)], .agg [.lit (.int .u8 0), .lit (.int .u8 0)], .agg [.lit (.int .u8 0), .lit (.int .u8 0)], .agg [.lit (.int .u8 0), .lit (.int .u8 0)], .agg [.lit (.int .u8 0), .lit (.int .u8 0)], .agg [.lit (.int .u8 0), .lit (.int .u8 0)], .agg [.lit (.int .u8 0), .lit (.int .u8 0)], .agg [.lit (.int .u8 0), .lit (.int .u8 0)], .agg [.lit (.int .u8 0), .lit (.int .u8 0)], .agg [.lit (.int .u8 0), .lit (.int .u8 0)], .agg [.lit (.int .u8 0), .lit (.int .u8 0)]]
/-- One of Go's own tables, pinned by name: the form's constant. -/
def laid_unicode_utf8_first : DataW Unit := Go.Pinned.utf8First

/-- 'laws.FnExactWindowCounts': WHATEVER THE INPUT: true; the input reads as it did. -/
def fnExactWindowCountsSpec : ChangeSpec := { name := "fnExactWindowCounts", fn := fun _ => fun
  | [d1, d2, d3] => { results := [.lit (.bool true)], args := [d1, d2, d3] }
  | _ => none }
def fnExactWindowCountsRow : OpenClaim := { program := "ytlhilhimpbfllabdoor", sum := "f001c7d1ccf609e01e7adf20db3093dfa329497626b65f51e03d3d8e2293d026", func := "loop.example/g01160/laws.FnExactWindowCounts", spec := "fnExactWindowCounts", inPlace := ["internal/bytealg.IndexByteString", "internal/bytealg.IndexString"], named := ["unicode/utf8.first", "unicode/utf8.acceptRanges", "internal/bytealg.MaxLen"], apart := false, laid := [("unicode/utf8.acceptRanges", laid_unicode_utf8_acceptRanges), ("unicode/utf8.first", laid_unicode_utf8_first)] }
def FnExactWindowCountsSaid : Prop := fnExactWindowCountsRow.holds Tryd.pinned (OpenSpec.ofChange fnExactWindowCountsSpec)

/-- ITS FALSE NEIGHBOUR: 'it returns false'. Refute it at one input. -/
def fnExactWindowCountsWrong : ChangeSpec := { name := "fnExactWindowCounts", fn := fun _ => fun
  | [d1, d2, d3] => { results := [.lit (.bool false)], args := [d1, d2, d3] }
  | _ => none }
def FnExactWindowCountsWrongFalsely : Prop := fnExactWindowCountsRow.holds Tryd.pinned (OpenSpec.ofChange fnExactWindowCountsWrong)

/-- 'laws.FnExactKindsOfBeads': WHATEVER THE INPUT: true; the input reads as it did. -/
def fnExactKindsOfBeadsSpec : ChangeSpec := { name := "fnExactKindsOfBeads", fn := fun _ => fun
  | [d] => { results := [.lit (.bool true)], args := [d] }
  | _ => none }
def fnExactKindsOfBeadsRow : OpenClaim := { program := "ytlhilhimpbfllabdoor", sum := "f001c7d1ccf609e01e7adf20db3093dfa329497626b65f51e03d3d8e2293d026", func := "loop.example/g01160/laws.FnExactKindsOfBeads", spec := "fnExactKindsOfBeads", inPlace := ["internal/bytealg.IndexByteString", "internal/bytealg.IndexString"], unfollowed := true, recurses := true, named := ["unicode/utf8.first", "unicode/utf8.acceptRanges", "internal/bytealg.MaxLen"], apart := false, laid := [("unicode/utf8.acceptRanges", laid_unicode_utf8_acceptRanges), ("unicode/utf8.first", laid_unicode_utf8_first)] }
def FnExactKindsOfBeadsSaid : Prop := fnExactKindsOfBeadsRow.holds Tryd.pinned (OpenSpec.ofChange fnExactKindsOfBeadsSpec)

/-- ITS FALSE NEIGHBOUR: 'it returns false'. Refute it at one input. -/
def fnExactKindsOfBeadsWrong : ChangeSpec := { name := "fnExactKindsOfBeads", fn := fun _ => fun
  | [d] => { results := [.lit (.bool false)], args := [d] }
  | _ => none }
def FnExactKindsOfBeadsWrongFalsely : Prop := fnExactKindsOfBeadsRow.holds Tryd.pinned (OpenSpec.ofChange fnExactKindsOfBeadsWrong)

/-- 'laws.FnExactHalfWindow': WHATEVER THE INPUT: true; the input reads as it did. -/
def fnExactHalfWindowSpec : ChangeSpec := { name := "fnExactHalfWindow", fn := fun _ => fun
  | [d] => { results := [.lit (.bool true)], args := [d] }
  | _ => none }
def fnExactHalfWindowRow : OpenClaim := { program := "ytlhilhimpbfllabdoor", sum := "f001c7d1ccf609e01e7adf20db3093dfa329497626b65f51e03d3d8e2293d026", func := "loop.example/g01160/laws.FnExactHalfWindow", spec := "fnExactHalfWindow", inPlace := ["internal/bytealg.IndexByteString", "internal/bytealg.IndexString"], unfollowed := true, recurses := true, named := ["unicode/utf8.first", "unicode/utf8.acceptRanges", "internal/bytealg.MaxLen"], apart := false, laid := [("unicode/utf8.acceptRanges", laid_unicode_utf8_acceptRanges), ("unicode/utf8.first", laid_unicode_utf8_first)] }
def FnExactHalfWindowSaid : Prop := fnExactHalfWindowRow.holds Tryd.pinned (OpenSpec.ofChange fnExactHalfWindowSpec)

/-- ITS FALSE NEIGHBOUR: 'it returns false'. Refute it at one input. -/
def fnExactHalfWindowWrong : ChangeSpec := { name := "fnExactHalfWindow", fn := fun _ => fun
  | [d] => { results := [.lit (.bool false)], args := [d] }
  | _ => none }
def FnExactHalfWindowWrongFalsely : Prop := fnExactHalfWindowRow.holds Tryd.pinned (OpenSpec.ofChange fnExactHalfWindowWrong)

/-- 'laws.FnExactRenameBeads': WHATEVER THE INPUT: true; the input reads as it did. -/
def fnExactRenameBeadsSpec : ChangeSpec := { name := "fnExactRenameBeads", fn := fun _ => fun
  | [d1, d2] => { results := [.lit (.bool true)], args := [d1, d2] }
  | _ => none }
def fnExactRenameBeadsRow : OpenClaim := { program := "ytlhilhimpbfllabdoor", sum := "f001c7d1ccf609e01e7adf20db3093dfa329497626b65f51e03d3d8e2293d026", func := "loop.example/g01160/laws.FnExactRenameBeads", spec := "fnExactRenameBeads", inPlace := ["internal/bytealg.IndexByteString", "internal/bytealg.IndexString"], recurses := true, named := ["unicode/utf8.first", "unicode/utf8.acceptRanges", "internal/bytealg.MaxLen"], apart := false, laid := [("unicode/utf8.acceptRanges", laid_unicode_utf8_acceptRanges), ("unicode/utf8.first", laid_unicode_utf8_first)] }
def FnExactRenameBeadsSaid : Prop := fnExactRenameBeadsRow.holds Tryd.pinned (OpenSpec.ofChange fnExactRenameBeadsSpec)

/-- ITS FALSE NEIGHBOUR: 'it returns false'. Refute it at one input. -/
def fnExactRenameBeadsWrong : ChangeSpec := { name := "fnExactRenameBeads", fn := fun _ => fun
  | [d1, d2] => { results := [.lit (.bool false)], args := [d1, d2] }
  | _ => none }
def FnExactRenameBeadsWrongFalsely : Prop := fnExactRenameBeadsRow.holds Tryd.pinned (OpenSpec.ofChange fnExactRenameBeadsWrong)

/- THE SECOND FORM. 'bulk': how many values and letters a reading holds, each counted each time it is reached (what is shared counts as often as it is met; a slice's spare places count too). A statement '..UptoSaid' is the law's where the arguments, and the package variables that the reading takes, are together of bulk at most 1048576: NARROWER than '..Said'. Prove '..Said' where nothing that the law and all that it calls make is longer than what came in: it says more and counts as full. Else prove '..UptoSaid'. A law counts once. -/
mutual
def uptoBulk {H : Type} : DataW H → Nat
  | .lit (.string bytes) => bytes.length + 1
  | .lit _ => 1
  | .nil => 1
  | .ptr d => uptoBulk d + 1
  | .slice elems spare => uptoBulkAll elems + uptoBulkAll spare + 1
  | .agg parts => uptoBulkAll parts + 1
  | .iface _ d => uptoBulk d + 1
  | .map entries => uptoBulkEntries entries + 1
  | .held _ => 1
def uptoBulkAll {H : Type} : List (DataW H) → Nat
  | [] => 0
  | d :: r => uptoBulk d + uptoBulkAll r
def uptoBulkEntries {H : Type} : List (Lit × DataW H) → Nat
  | [] => 0
  | x :: r => uptoBulkEntry x + uptoBulkEntries r
def uptoBulkEntry {H : Type} : Lit × DataW H → Nat
  | (.string bytes, d) => bytes.length + uptoBulk d + 1
  | (_, d) => uptoBulk d + 1
 end
def uptoSmall : (H : Type) → List (DataW H) → Bool := fun _ ds => decide (uptoBulkAll ds ≤ 1048576)
def OpenSpec.upto (s : _root_.Go.ChangeSpec) : _root_.Go.OpenSpec := { _root_.Go.OpenSpec.ofChange s with cond := some uptoSmall }

/-- 'laws.FnExactWindowCounts', WHERE WHAT IT READS IS OF BULK AT MOST 1048576: true; the input reads as it did. -/
def fnExactWindowCountsUptoRow : OpenClaim := { program := "ytlhilhimpbfllabdoor", sum := "f001c7d1ccf609e01e7adf20db3093dfa329497626b65f51e03d3d8e2293d026", func := "loop.example/g01160/laws.FnExactWindowCounts", spec := "fnExactWindowCounts", inPlace := ["internal/bytealg.IndexByteString", "internal/bytealg.IndexString"], named := ["unicode/utf8.first", "unicode/utf8.acceptRanges", "internal/bytealg.MaxLen"], apart := false, laid := [("unicode/utf8.acceptRanges", laid_unicode_utf8_acceptRanges), ("unicode/utf8.first", laid_unicode_utf8_first)], narrowed := true }
def FnExactWindowCountsUptoSaid : Prop := fnExactWindowCountsUptoRow.holds Tryd.pinned (OpenSpec.upto fnExactWindowCountsSpec)

/-- 'laws.FnExactKindsOfBeads', WHERE WHAT IT READS IS OF BULK AT MOST 1048576: true; the input reads as it did. -/
def fnExactKindsOfBeadsUptoRow : OpenClaim := { program := "ytlhilhimpbfllabdoor", sum := "f001c7d1ccf609e01e7adf20db3093dfa329497626b65f51e03d3d8e2293d026", func := "loop.example/g01160/laws.FnExactKindsOfBeads", spec := "fnExactKindsOfBeads", inPlace := ["internal/bytealg.IndexByteString", "internal/bytealg.IndexString"], unfollowed := true, recurses := true, named := ["unicode/utf8.first", "unicode/utf8.acceptRanges", "internal/bytealg.MaxLen"], apart := false, laid := [("unicode/utf8.acceptRanges", laid_unicode_utf8_acceptRanges), ("unicode/utf8.first", laid_unicode_utf8_first)], narrowed := true }
def FnExactKindsOfBeadsUptoSaid : Prop := fnExactKindsOfBeadsUptoRow.holds Tryd.pinned (OpenSpec.upto fnExactKindsOfBeadsSpec)

/-- 'laws.FnExactHalfWindow', WHERE WHAT IT READS IS OF BULK AT MOST 1048576: true; the input reads as it did. -/
def fnExactHalfWindowUptoRow : OpenClaim := { program := "ytlhilhimpbfllabdoor", sum := "f001c7d1ccf609e01e7adf20db3093dfa329497626b65f51e03d3d8e2293d026", func := "loop.example/g01160/laws.FnExactHalfWindow", spec := "fnExactHalfWindow", inPlace := ["internal/bytealg.IndexByteString", "internal/bytealg.IndexString"], unfollowed := true, recurses := true, named := ["unicode/utf8.first", "unicode/utf8.acceptRanges", "internal/bytealg.MaxLen"], apart := false, laid := [("unicode/utf8.acceptRanges", laid_unicode_utf8_acceptRanges), ("unicode/utf8.first", laid_unicode_utf8_first)], narrowed := true }
def FnExactHalfWindowUptoSaid : Prop := fnExactHalfWindowUptoRow.holds Tryd.pinned (OpenSpec.upto fnExactHalfWindowSpec)

/-- 'laws.FnExactRenameBeads', WHERE WHAT IT READS IS OF BULK AT MOST 1048576: true; the input reads as it did. -/
def fnExactRenameBeadsUptoRow : OpenClaim := { program := "ytlhilhimpbfllabdoor", sum := "f001c7d1ccf609e01e7adf20db3093dfa329497626b65f51e03d3d8e2293d026", func := "loop.example/g01160/laws.FnExactRenameBeads", spec := "fnExactRenameBeads", inPlace := ["internal/bytealg.IndexByteString", "internal/bytealg.IndexString"], recurses := true, named := ["unicode/utf8.first", "unicode/utf8.acceptRanges", "internal/bytealg.MaxLen"], apart := false, laid := [("unicode/utf8.acceptRanges", laid_unicode_utf8_acceptRanges), ("unicode/utf8.first", laid_unicode_utf8_first)], narrowed := true }
def FnExactRenameBeadsUptoSaid : Prop := fnExactRenameBeadsUptoRow.holds Tryd.pinned (OpenSpec.upto fnExactRenameBeadsSpec)

end Rows
end Go.Proofs.YtlhilhimpbfllabDoor
