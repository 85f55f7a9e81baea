/-
  NARROWER THAN 'FOR EVERY INPUT', by the rows' own cells (each row's printed sentence says how): FnExactCountsOfBeads: laid · FnExactWindowCounts: laid · FnExactKindsOfBeads: laid · FnExactCutsOfSigns: laid · FnExactHalfWindow: laid · FnExactFewestForThree: laid · FnExactSignsOf: laid · FnExactSharesOf: laid · FnExactIsFairSplit: laid · FnExactCountSplits: laid · FnExactFewestCuts: laid · FnExactFirstSplit: laid · FnExactRenameBeads: laid · FnSignsOfShares: laid · FnHalfWindows: laid.
  DERIVED. THE GIVEN ROWS OF THIS SEAT. 15 by the template 'for every input the law returns true; each argument reads behind the call as it read before'; 0 by the template 'total and deterministic' (their statements: YtjhfkfiobpddnaaDoorTotals.lean).
  GIVEN WITH THE SEED: the statements are not yours to turn. If you find one false, say at which input.
  Laid BY PROGRAM, IN A SANDBOX (cutbox-rows.mjs): the forced cells as the released guide's own fill.sh prints them over the translation d890f4051dc812b2… (all of the seat's roots in one cut). By AI agents, Wed Nov 11 2026. No macro, syntax, notation, axiom, sorry.
-/
import Derived.Test.YtjhfkfiobpddnaaDoorChecked
import GoSem.PinnedTables
import GoSem.Claim
import GoSem.ClaimJoined
import GoSem.ClaimMapViews
import Derived.JoinedTies
import Derived.KernelRfl
namespace Go.Proofs.YtjhfkfiobpddnaaDoor
/- THE CELL 'sum', in the pinned program and in every row, IS THE sha256 OF THE DUMP (.gsa) THAT YtjhfkfiobpddnaaDoorProg.lean LOADS. Nothing in Lean hashes anything: it is a label: what it is worth is what the hold of that sum in a sandbox is worth. -/
noncomputable def Tryd.pinned : Pinned := { name := "ytjhfkfiobpddnaadoor", sum := "d890f4051dc812b22faf57ba829f32a12b12fa461d00dd695337dcd4e478fafd", checked := Tryd.checked }
namespace Rows
def none {H : Type} : Left H := { results := [], args := [] }

/- WHAT THE LISTED PACKAGE-LEVEL VARIABLES READ AS WHEN THE CALL BEGINS. Each datum BY PROGRAM (the guide's laid-datum.mjs) off the statement by which the dump's own 'gosem.cut.vars' lays the variable. In a bare row this is a premise. The card (YtjhfkfiobpddnaaDoorCards.lean) ties it to the program's text. -/
def laid_unicode_utf8_acceptRanges {H : Type} : DataW H := .agg [.agg [.lit (.int .u8 128), .lit (.int .u8 191)], .agg [.lit (.int .u8 160), .lit (.int .u8 191)], .agg [.lit (.int .u8 128), .lit (.int .u8 159)], .agg [.lit (.int .u8 144), .lit (.int .u8 191)], .agg [.lit (.int .u8 128), .lit (.int .u8 143)], .agg [.lit (.int .u8 0), .lit (.int .u8 0)], .agg [.lit (.int .u8 0), .lit (.int .u8 0)], .agg [.lit (.int .u8 0), .lit (.int .u8 0)], .agg [.lit (.int .u8 0), .lit (.int .u8 0)], .agg [.lit (.int .u8 0), .lit (.int .u8 0)], .agg [.lit (.int .u8 0), .lit (.int .u8 0)], .agg [.lit (.int .u8 0), .lit (.int .u8 0)], .agg [.lit (.int .u8 0), .lit (.int .u8 0)], .agg [.lit (.int .u8 0), .lit (.int .u8 0)], .agg [.lit (.int .u8 0), .lit (.int .u8 0)], .agg [.lit (.int .u8 0), .lit (.int .u8 0)]]
/-- One of Go's own tables, pinned by name: the form's constant. -/
def laid_unicode_utf8_first : DataW Unit := Go.Pinned.utf8First

/-- 'laws.FnExactCountsOfBeads': WHATEVER THE INPUT: true; the input reads as it did. -/
def fnExactCountsOfBeadsSpec : ChangeSpec := { name := "fnExactCountsOfBeads", fn := fun _ => fun
  | [d] => { results := [.lit (.bool true)], args := [d] }
  | _ => none }
def fnExactCountsOfBeadsRow : OpenClaim := { program := "ytjhfkfiobpddnaadoor", sum := "d890f4051dc812b22faf57ba829f32a12b12fa461d00dd695337dcd4e478fafd", func := "loop.example/g01160/laws.FnExactCountsOfBeads", spec := "fnExactCountsOfBeads", inPlace := ["internal/bytealg.IndexByteString", "internal/bytealg.IndexString"], named := ["unicode/utf8.first", "unicode/utf8.acceptRanges", "internal/bytealg.MaxLen"], apart := false, laid := [("unicode/utf8.acceptRanges", laid_unicode_utf8_acceptRanges), ("unicode/utf8.first", laid_unicode_utf8_first)] }
def FnExactCountsOfBeadsSaid : Prop := fnExactCountsOfBeadsRow.holds Tryd.pinned (OpenSpec.ofChange fnExactCountsOfBeadsSpec)

/-- ITS FALSE NEIGHBOUR: 'it returns false'. Refute it at one input. -/
def fnExactCountsOfBeadsWrong : ChangeSpec := { name := "fnExactCountsOfBeads", fn := fun _ => fun
  | [d] => { results := [.lit (.bool false)], args := [d] }
  | _ => none }
def FnExactCountsOfBeadsWrongFalsely : Prop := fnExactCountsOfBeadsRow.holds Tryd.pinned (OpenSpec.ofChange fnExactCountsOfBeadsWrong)

/-- 'laws.FnExactWindowCounts': WHATEVER THE INPUT: true; the input reads as it did. -/
def fnExactWindowCountsSpec : ChangeSpec := { name := "fnExactWindowCounts", fn := fun _ => fun
  | [d1, d2, d3] => { results := [.lit (.bool true)], args := [d1, d2, d3] }
  | _ => none }
def fnExactWindowCountsRow : OpenClaim := { program := "ytjhfkfiobpddnaadoor", sum := "d890f4051dc812b22faf57ba829f32a12b12fa461d00dd695337dcd4e478fafd", func := "loop.example/g01160/laws.FnExactWindowCounts", spec := "fnExactWindowCounts", inPlace := ["internal/bytealg.IndexByteString", "internal/bytealg.IndexString"], named := ["unicode/utf8.first", "unicode/utf8.acceptRanges", "internal/bytealg.MaxLen"], apart := false, laid := [("unicode/utf8.acceptRanges", laid_unicode_utf8_acceptRanges), ("unicode/utf8.first", laid_unicode_utf8_first)] }
def FnExactWindowCountsSaid : Prop := fnExactWindowCountsRow.holds Tryd.pinned (OpenSpec.ofChange fnExactWindowCountsSpec)

/-- ITS FALSE NEIGHBOUR: 'it returns false'. Refute it at one input. -/
def fnExactWindowCountsWrong : ChangeSpec := { name := "fnExactWindowCounts", fn := fun _ => fun
  | [d1, d2, d3] => { results := [.lit (.bool false)], args := [d1, d2, d3] }
  | _ => none }
def FnExactWindowCountsWrongFalsely : Prop := fnExactWindowCountsRow.holds Tryd.pinned (OpenSpec.ofChange fnExactWindowCountsWrong)

/-- 'laws.FnExactKindsOfBeads': WHATEVER THE INPUT: true; the input reads as it did. -/
def fnExactKindsOfBeadsSpec : ChangeSpec := { name := "fnExactKindsOfBeads", fn := fun _ => fun
  | [d] => { results := [.lit (.bool true)], args := [d] }
  | _ => none }
def fnExactKindsOfBeadsRow : OpenClaim := { program := "ytjhfkfiobpddnaadoor", sum := "d890f4051dc812b22faf57ba829f32a12b12fa461d00dd695337dcd4e478fafd", func := "loop.example/g01160/laws.FnExactKindsOfBeads", spec := "fnExactKindsOfBeads", inPlace := ["internal/bytealg.IndexByteString", "internal/bytealg.IndexString"], unfollowed := true, recurses := true, named := ["unicode/utf8.first", "unicode/utf8.acceptRanges", "internal/bytealg.MaxLen"], apart := false, laid := [("unicode/utf8.acceptRanges", laid_unicode_utf8_acceptRanges), ("unicode/utf8.first", laid_unicode_utf8_first)] }
def FnExactKindsOfBeadsSaid : Prop := fnExactKindsOfBeadsRow.holds Tryd.pinned (OpenSpec.ofChange fnExactKindsOfBeadsSpec)

/-- ITS FALSE NEIGHBOUR: 'it returns false'. Refute it at one input. -/
def fnExactKindsOfBeadsWrong : ChangeSpec := { name := "fnExactKindsOfBeads", fn := fun _ => fun
  | [d] => { results := [.lit (.bool false)], args := [d] }
  | _ => none }
def FnExactKindsOfBeadsWrongFalsely : Prop := fnExactKindsOfBeadsRow.holds Tryd.pinned (OpenSpec.ofChange fnExactKindsOfBeadsWrong)

/-- 'laws.FnExactCutsOfSigns': WHATEVER THE INPUT: true; the input reads as it did. -/
def fnExactCutsOfSignsSpec : ChangeSpec := { name := "fnExactCutsOfSigns", fn := fun _ => fun
  | [d1, d2] => { results := [.lit (.bool true)], args := [d1, d2] }
  | _ => none }
def fnExactCutsOfSignsRow : OpenClaim := { program := "ytjhfkfiobpddnaadoor", sum := "d890f4051dc812b22faf57ba829f32a12b12fa461d00dd695337dcd4e478fafd", func := "loop.example/g01160/laws.FnExactCutsOfSigns", spec := "fnExactCutsOfSigns", inPlace := ["internal/bytealg.IndexByteString", "internal/bytealg.IndexString"], unfollowed := true, recurses := true, named := ["unicode/utf8.first", "unicode/utf8.acceptRanges", "internal/bytealg.MaxLen"], apart := false, laid := [("unicode/utf8.acceptRanges", laid_unicode_utf8_acceptRanges), ("unicode/utf8.first", laid_unicode_utf8_first)] }
def FnExactCutsOfSignsSaid : Prop := fnExactCutsOfSignsRow.holds Tryd.pinned (OpenSpec.ofChange fnExactCutsOfSignsSpec)

/-- ITS FALSE NEIGHBOUR: 'it returns false'. Refute it at one input. -/
def fnExactCutsOfSignsWrong : ChangeSpec := { name := "fnExactCutsOfSigns", fn := fun _ => fun
  | [d1, d2] => { results := [.lit (.bool false)], args := [d1, d2] }
  | _ => none }
def FnExactCutsOfSignsWrongFalsely : Prop := fnExactCutsOfSignsRow.holds Tryd.pinned (OpenSpec.ofChange fnExactCutsOfSignsWrong)

/-- 'laws.FnExactHalfWindow': WHATEVER THE INPUT: true; the input reads as it did. -/
def fnExactHalfWindowSpec : ChangeSpec := { name := "fnExactHalfWindow", fn := fun _ => fun
  | [d] => { results := [.lit (.bool true)], args := [d] }
  | _ => none }
def fnExactHalfWindowRow : OpenClaim := { program := "ytjhfkfiobpddnaadoor", sum := "d890f4051dc812b22faf57ba829f32a12b12fa461d00dd695337dcd4e478fafd", func := "loop.example/g01160/laws.FnExactHalfWindow", spec := "fnExactHalfWindow", inPlace := ["internal/bytealg.IndexByteString", "internal/bytealg.IndexString"], unfollowed := true, recurses := true, named := ["unicode/utf8.first", "unicode/utf8.acceptRanges", "internal/bytealg.MaxLen"], apart := false, laid := [("unicode/utf8.acceptRanges", laid_unicode_utf8_acceptRanges), ("unicode/utf8.first", laid_unicode_utf8_first)] }
def FnExactHalfWindowSaid : Prop := fnExactHalfWindowRow.holds Tryd.pinned (OpenSpec.ofChange fnExactHalfWindowSpec)

/-- ITS FALSE NEIGHBOUR: 'it returns false'. Refute it at one input. -/
def fnExactHalfWindowWrong : ChangeSpec := { name := "fnExactHalfWindow", fn := fun _ => fun
  | [d] => { results := [.lit (.bool false)], args := [d] }
  | _ => none }
def FnExactHalfWindowWrongFalsely : Prop := fnExactHalfWindowRow.holds Tryd.pinned (OpenSpec.ofChange fnExactHalfWindowWrong)

/-- 'laws.FnExactFewestForThree': WHATEVER THE INPUT: true; the input reads as it did. -/
def fnExactFewestForThreeSpec : ChangeSpec := { name := "fnExactFewestForThree", fn := fun _ => fun
  | [d] => { results := [.lit (.bool true)], args := [d] }
  | _ => none }
def fnExactFewestForThreeRow : OpenClaim := { program := "ytjhfkfiobpddnaadoor", sum := "d890f4051dc812b22faf57ba829f32a12b12fa461d00dd695337dcd4e478fafd", func := "loop.example/g01160/laws.FnExactFewestForThree", spec := "fnExactFewestForThree", inPlace := ["internal/bytealg.IndexByteString", "internal/bytealg.IndexString"], unfollowed := true, recurses := true, named := ["unicode/utf8.first", "unicode/utf8.acceptRanges", "internal/bytealg.MaxLen"], apart := false, laid := [("unicode/utf8.acceptRanges", laid_unicode_utf8_acceptRanges), ("unicode/utf8.first", laid_unicode_utf8_first)] }
def FnExactFewestForThreeSaid : Prop := fnExactFewestForThreeRow.holds Tryd.pinned (OpenSpec.ofChange fnExactFewestForThreeSpec)

/-- ITS FALSE NEIGHBOUR: 'it returns false'. Refute it at one input. -/
def fnExactFewestForThreeWrong : ChangeSpec := { name := "fnExactFewestForThree", fn := fun _ => fun
  | [d] => { results := [.lit (.bool false)], args := [d] }
  | _ => none }
def FnExactFewestForThreeWrongFalsely : Prop := fnExactFewestForThreeRow.holds Tryd.pinned (OpenSpec.ofChange fnExactFewestForThreeWrong)

/-- 'laws.FnExactSignsOf': WHATEVER THE INPUT: true; the input reads as it did. -/
def fnExactSignsOfSpec : ChangeSpec := { name := "fnExactSignsOf", fn := fun _ => fun
  | [d1, d2] => { results := [.lit (.bool true)], args := [d1, d2] }
  | _ => none }
def fnExactSignsOfRow : OpenClaim := { program := "ytjhfkfiobpddnaadoor", sum := "d890f4051dc812b22faf57ba829f32a12b12fa461d00dd695337dcd4e478fafd", func := "loop.example/g01160/laws.FnExactSignsOf", spec := "fnExactSignsOf", inPlace := ["internal/bytealg.IndexByteString", "internal/bytealg.IndexString"], named := ["unicode/utf8.first", "unicode/utf8.acceptRanges", "internal/bytealg.MaxLen"], apart := false, laid := [("unicode/utf8.acceptRanges", laid_unicode_utf8_acceptRanges), ("unicode/utf8.first", laid_unicode_utf8_first)] }
def FnExactSignsOfSaid : Prop := fnExactSignsOfRow.holds Tryd.pinned (OpenSpec.ofChange fnExactSignsOfSpec)

/-- ITS FALSE NEIGHBOUR: 'it returns false'. Refute it at one input. -/
def fnExactSignsOfWrong : ChangeSpec := { name := "fnExactSignsOf", fn := fun _ => fun
  | [d1, d2] => { results := [.lit (.bool false)], args := [d1, d2] }
  | _ => none }
def FnExactSignsOfWrongFalsely : Prop := fnExactSignsOfRow.holds Tryd.pinned (OpenSpec.ofChange fnExactSignsOfWrong)

/-- 'laws.FnExactSharesOf': WHATEVER THE INPUT: true; the input reads as it did. -/
def fnExactSharesOfSpec : ChangeSpec := { name := "fnExactSharesOf", fn := fun _ => fun
  | [d1, d2] => { results := [.lit (.bool true)], args := [d1, d2] }
  | _ => none }
def fnExactSharesOfRow : OpenClaim := { program := "ytjhfkfiobpddnaadoor", sum := "d890f4051dc812b22faf57ba829f32a12b12fa461d00dd695337dcd4e478fafd", func := "loop.example/g01160/laws.FnExactSharesOf", spec := "fnExactSharesOf", inPlace := ["internal/bytealg.IndexByteString", "internal/bytealg.IndexString"], named := ["unicode/utf8.first", "unicode/utf8.acceptRanges", "internal/bytealg.MaxLen"], apart := false, laid := [("unicode/utf8.acceptRanges", laid_unicode_utf8_acceptRanges), ("unicode/utf8.first", laid_unicode_utf8_first)] }
def FnExactSharesOfSaid : Prop := fnExactSharesOfRow.holds Tryd.pinned (OpenSpec.ofChange fnExactSharesOfSpec)

/-- ITS FALSE NEIGHBOUR: 'it returns false'. Refute it at one input. -/
def fnExactSharesOfWrong : ChangeSpec := { name := "fnExactSharesOf", fn := fun _ => fun
  | [d1, d2] => { results := [.lit (.bool false)], args := [d1, d2] }
  | _ => none }
def FnExactSharesOfWrongFalsely : Prop := fnExactSharesOfRow.holds Tryd.pinned (OpenSpec.ofChange fnExactSharesOfWrong)

/-- 'laws.FnExactIsFairSplit': WHATEVER THE INPUT: true; the input reads as it did. -/
def fnExactIsFairSplitSpec : ChangeSpec := { name := "fnExactIsFairSplit", fn := fun _ => fun
  | [d1, d2] => { results := [.lit (.bool true)], args := [d1, d2] }
  | _ => none }
def fnExactIsFairSplitRow : OpenClaim := { program := "ytjhfkfiobpddnaadoor", sum := "d890f4051dc812b22faf57ba829f32a12b12fa461d00dd695337dcd4e478fafd", func := "loop.example/g01160/laws.FnExactIsFairSplit", spec := "fnExactIsFairSplit", inPlace := ["internal/bytealg.IndexByteString", "internal/bytealg.IndexString"], named := ["unicode/utf8.first", "unicode/utf8.acceptRanges", "internal/bytealg.MaxLen"], apart := false, laid := [("unicode/utf8.acceptRanges", laid_unicode_utf8_acceptRanges), ("unicode/utf8.first", laid_unicode_utf8_first)] }
def FnExactIsFairSplitSaid : Prop := fnExactIsFairSplitRow.holds Tryd.pinned (OpenSpec.ofChange fnExactIsFairSplitSpec)

/-- ITS FALSE NEIGHBOUR: 'it returns false'. Refute it at one input. -/
def fnExactIsFairSplitWrong : ChangeSpec := { name := "fnExactIsFairSplit", fn := fun _ => fun
  | [d1, d2] => { results := [.lit (.bool false)], args := [d1, d2] }
  | _ => none }
def FnExactIsFairSplitWrongFalsely : Prop := fnExactIsFairSplitRow.holds Tryd.pinned (OpenSpec.ofChange fnExactIsFairSplitWrong)

/-- 'laws.FnExactCountSplits': WHATEVER THE INPUT: true; the input reads as it did. -/
def fnExactCountSplitsSpec : ChangeSpec := { name := "fnExactCountSplits", fn := fun _ => fun
  | [d1, d2] => { results := [.lit (.bool true)], args := [d1, d2] }
  | _ => none }
def fnExactCountSplitsRow : OpenClaim := { program := "ytjhfkfiobpddnaadoor", sum := "d890f4051dc812b22faf57ba829f32a12b12fa461d00dd695337dcd4e478fafd", func := "loop.example/g01160/laws.FnExactCountSplits", spec := "fnExactCountSplits", inPlace := ["internal/bytealg.IndexByteString", "internal/bytealg.IndexString"], unfollowed := true, recurses := true, named := ["unicode/utf8.first", "unicode/utf8.acceptRanges", "internal/bytealg.MaxLen"], apart := false, laid := [("unicode/utf8.acceptRanges", laid_unicode_utf8_acceptRanges), ("unicode/utf8.first", laid_unicode_utf8_first)] }
def FnExactCountSplitsSaid : Prop := fnExactCountSplitsRow.holds Tryd.pinned (OpenSpec.ofChange fnExactCountSplitsSpec)

/-- ITS FALSE NEIGHBOUR: 'it returns false'. Refute it at one input. -/
def fnExactCountSplitsWrong : ChangeSpec := { name := "fnExactCountSplits", fn := fun _ => fun
  | [d1, d2] => { results := [.lit (.bool false)], args := [d1, d2] }
  | _ => none }
def FnExactCountSplitsWrongFalsely : Prop := fnExactCountSplitsRow.holds Tryd.pinned (OpenSpec.ofChange fnExactCountSplitsWrong)

/-- 'laws.FnExactFewestCuts': WHATEVER THE INPUT: true; the input reads as it did. -/
def fnExactFewestCutsSpec : ChangeSpec := { name := "fnExactFewestCuts", fn := fun _ => fun
  | [d] => { results := [.lit (.bool true)], args := [d] }
  | _ => none }
def fnExactFewestCutsRow : OpenClaim := { program := "ytjhfkfiobpddnaadoor", sum := "d890f4051dc812b22faf57ba829f32a12b12fa461d00dd695337dcd4e478fafd", func := "loop.example/g01160/laws.FnExactFewestCuts", spec := "fnExactFewestCuts", inPlace := ["internal/bytealg.IndexByteString", "internal/bytealg.IndexString"], unfollowed := true, recurses := true, named := ["unicode/utf8.first", "unicode/utf8.acceptRanges", "internal/bytealg.MaxLen"], apart := false, laid := [("unicode/utf8.acceptRanges", laid_unicode_utf8_acceptRanges), ("unicode/utf8.first", laid_unicode_utf8_first)] }
def FnExactFewestCutsSaid : Prop := fnExactFewestCutsRow.holds Tryd.pinned (OpenSpec.ofChange fnExactFewestCutsSpec)

/-- ITS FALSE NEIGHBOUR: 'it returns false'. Refute it at one input. -/
def fnExactFewestCutsWrong : ChangeSpec := { name := "fnExactFewestCuts", fn := fun _ => fun
  | [d] => { results := [.lit (.bool false)], args := [d] }
  | _ => none }
def FnExactFewestCutsWrongFalsely : Prop := fnExactFewestCutsRow.holds Tryd.pinned (OpenSpec.ofChange fnExactFewestCutsWrong)

/-- 'laws.FnExactFirstSplit': WHATEVER THE INPUT: true; the input reads as it did. -/
def fnExactFirstSplitSpec : ChangeSpec := { name := "fnExactFirstSplit", fn := fun _ => fun
  | [d] => { results := [.lit (.bool true)], args := [d] }
  | _ => none }
def fnExactFirstSplitRow : OpenClaim := { program := "ytjhfkfiobpddnaadoor", sum := "d890f4051dc812b22faf57ba829f32a12b12fa461d00dd695337dcd4e478fafd", func := "loop.example/g01160/laws.FnExactFirstSplit", spec := "fnExactFirstSplit", inPlace := ["internal/bytealg.IndexByteString", "internal/bytealg.IndexString"], unfollowed := true, recurses := true, named := ["unicode/utf8.first", "unicode/utf8.acceptRanges", "internal/bytealg.MaxLen"], apart := false, laid := [("unicode/utf8.acceptRanges", laid_unicode_utf8_acceptRanges), ("unicode/utf8.first", laid_unicode_utf8_first)] }
def FnExactFirstSplitSaid : Prop := fnExactFirstSplitRow.holds Tryd.pinned (OpenSpec.ofChange fnExactFirstSplitSpec)

/-- ITS FALSE NEIGHBOUR: 'it returns false'. Refute it at one input. -/
def fnExactFirstSplitWrong : ChangeSpec := { name := "fnExactFirstSplit", fn := fun _ => fun
  | [d] => { results := [.lit (.bool false)], args := [d] }
  | _ => none }
def FnExactFirstSplitWrongFalsely : Prop := fnExactFirstSplitRow.holds Tryd.pinned (OpenSpec.ofChange fnExactFirstSplitWrong)

/-- 'laws.FnExactRenameBeads': WHATEVER THE INPUT: true; the input reads as it did. -/
def fnExactRenameBeadsSpec : ChangeSpec := { name := "fnExactRenameBeads", fn := fun _ => fun
  | [d1, d2] => { results := [.lit (.bool true)], args := [d1, d2] }
  | _ => none }
def fnExactRenameBeadsRow : OpenClaim := { program := "ytjhfkfiobpddnaadoor", sum := "d890f4051dc812b22faf57ba829f32a12b12fa461d00dd695337dcd4e478fafd", func := "loop.example/g01160/laws.FnExactRenameBeads", spec := "fnExactRenameBeads", inPlace := ["internal/bytealg.IndexByteString", "internal/bytealg.IndexString"], recurses := true, named := ["unicode/utf8.first", "unicode/utf8.acceptRanges", "internal/bytealg.MaxLen"], apart := false, laid := [("unicode/utf8.acceptRanges", laid_unicode_utf8_acceptRanges), ("unicode/utf8.first", laid_unicode_utf8_first)] }
def FnExactRenameBeadsSaid : Prop := fnExactRenameBeadsRow.holds Tryd.pinned (OpenSpec.ofChange fnExactRenameBeadsSpec)

/-- ITS FALSE NEIGHBOUR: 'it returns false'. Refute it at one input. -/
def fnExactRenameBeadsWrong : ChangeSpec := { name := "fnExactRenameBeads", fn := fun _ => fun
  | [d1, d2] => { results := [.lit (.bool false)], args := [d1, d2] }
  | _ => none }
def FnExactRenameBeadsWrongFalsely : Prop := fnExactRenameBeadsRow.holds Tryd.pinned (OpenSpec.ofChange fnExactRenameBeadsWrong)

/-- 'laws.FnSignsOfShares': WHATEVER THE INPUT: true; the input reads as it did. -/
def fnSignsOfSharesSpec : ChangeSpec := { name := "fnSignsOfShares", fn := fun _ => fun
  | [d1, d2] => { results := [.lit (.bool true)], args := [d1, d2] }
  | _ => none }
def fnSignsOfSharesRow : OpenClaim := { program := "ytjhfkfiobpddnaadoor", sum := "d890f4051dc812b22faf57ba829f32a12b12fa461d00dd695337dcd4e478fafd", func := "loop.example/g01160/laws.FnSignsOfShares", spec := "fnSignsOfShares", inPlace := ["internal/bytealg.IndexByteString", "internal/bytealg.IndexString"], unfollowed := true, recurses := true, named := ["unicode/utf8.first", "unicode/utf8.acceptRanges", "internal/bytealg.MaxLen"], apart := false, laid := [("unicode/utf8.acceptRanges", laid_unicode_utf8_acceptRanges), ("unicode/utf8.first", laid_unicode_utf8_first)] }
def FnSignsOfSharesSaid : Prop := fnSignsOfSharesRow.holds Tryd.pinned (OpenSpec.ofChange fnSignsOfSharesSpec)

/-- ITS FALSE NEIGHBOUR: 'it returns false'. Refute it at one input. -/
def fnSignsOfSharesWrong : ChangeSpec := { name := "fnSignsOfShares", fn := fun _ => fun
  | [d1, d2] => { results := [.lit (.bool false)], args := [d1, d2] }
  | _ => none }
def FnSignsOfSharesWrongFalsely : Prop := fnSignsOfSharesRow.holds Tryd.pinned (OpenSpec.ofChange fnSignsOfSharesWrong)

/-- 'laws.FnHalfWindows': WHATEVER THE INPUT: true; the input reads as it did. -/
def fnHalfWindowsSpec : ChangeSpec := { name := "fnHalfWindows", fn := fun _ => fun
  | [d1, d2] => { results := [.lit (.bool true)], args := [d1, d2] }
  | _ => none }
def fnHalfWindowsRow : OpenClaim := { program := "ytjhfkfiobpddnaadoor", sum := "d890f4051dc812b22faf57ba829f32a12b12fa461d00dd695337dcd4e478fafd", func := "loop.example/g01160/laws.FnHalfWindows", spec := "fnHalfWindows", inPlace := ["internal/bytealg.IndexByteString", "internal/bytealg.IndexString"], unfollowed := true, recurses := true, named := ["unicode/utf8.first", "unicode/utf8.acceptRanges", "internal/bytealg.MaxLen"], apart := false, laid := [("unicode/utf8.acceptRanges", laid_unicode_utf8_acceptRanges), ("unicode/utf8.first", laid_unicode_utf8_first)] }
def FnHalfWindowsSaid : Prop := fnHalfWindowsRow.holds Tryd.pinned (OpenSpec.ofChange fnHalfWindowsSpec)

/-- ITS FALSE NEIGHBOUR: 'it returns false'. Refute it at one input. -/
def fnHalfWindowsWrong : ChangeSpec := { name := "fnHalfWindows", fn := fun _ => fun
  | [d1, d2] => { results := [.lit (.bool false)], args := [d1, d2] }
  | _ => none }
def FnHalfWindowsWrongFalsely : Prop := fnHalfWindowsRow.holds Tryd.pinned (OpenSpec.ofChange fnHalfWindowsWrong)

/- THE SECOND FORM. 'bulk': how many values and letters a reading holds, each counted each time it is reached (what is shared counts as often as it is met; a slice's spare places count too). A statement '..UptoSaid' is the law's where the arguments, and the package variables that the reading takes, are together of bulk at most 1048576: NARROWER than '..Said'. Prove '..Said' where nothing that the law and all that it calls make is longer than what came in: it says more and counts as full. Else prove '..UptoSaid'. A law counts once. -/
mutual
def uptoBulk {H : Type} : DataW H → Nat
  | .lit (.string bytes) => bytes.length + 1
  | .lit _ => 1
  | .nil => 1
  | .ptr d => uptoBulk d + 1
  | .slice elems spare => uptoBulkAll elems + uptoBulkAll spare + 1
  | .agg parts => uptoBulkAll parts + 1
  | .iface _ d => uptoBulk d + 1
  | .map entries => uptoBulkEntries entries + 1
  | .held _ => 1
def uptoBulkAll {H : Type} : List (DataW H) → Nat
  | [] => 0
  | d :: r => uptoBulk d + uptoBulkAll r
def uptoBulkEntries {H : Type} : List (Lit × DataW H) → Nat
  | [] => 0
  | x :: r => uptoBulkEntry x + uptoBulkEntries r
def uptoBulkEntry {H : Type} : Lit × DataW H → Nat
  | (.string bytes, d) => bytes.length + uptoBulk d + 1
  | (_, d) => uptoBulk d + 1
 end
def uptoSmall : (H : Type) → List (DataW H) → Bool := fun _ ds => decide (uptoBulkAll ds ≤ 1048576)
def OpenSpec.upto (s : _root_.Go.ChangeSpec) : _root_.Go.OpenSpec := { _root_.Go.OpenSpec.ofChange s with cond := some uptoSmall }

/-- 'laws.FnExactCountsOfBeads', WHERE WHAT IT READS IS OF BULK AT MOST 1048576: true; the input reads as it did. -/
def fnExactCountsOfBeadsUptoRow : OpenClaim := { program := "ytjhfkfiobpddnaadoor", sum := "d890f4051dc812b22faf57ba829f32a12b12fa461d00dd695337dcd4e478fafd", func := "loop.example/g01160/laws.FnExactCountsOfBeads", spec := "fnExactCountsOfBeads", inPlace := ["internal/bytealg.IndexByteString", "internal/bytealg.IndexString"], named := ["unicode/utf8.first", "unicode/utf8.acceptRanges", "internal/bytealg.MaxLen"], apart := false, laid := [("unicode/utf8.acceptRanges", laid_unicode_utf8_acceptRanges), ("unicode/utf8.first", laid_unicode_utf8_first)], narrowed := true }
def FnExactCountsOfBeadsUptoSaid : Prop := fnExactCountsOfBeadsUptoRow.holds Tryd.pinned (OpenSpec.upto fnExactCountsOfBeadsSpec)

/-- 'laws.FnExactWindowCounts', WHERE WHAT IT READS IS OF BULK AT MOST 1048576: true; the input reads as it did. -/
def fnExactWindowCountsUptoRow : OpenClaim := { program := "ytjhfkfiobpddnaadoor", sum := "d890f4051dc812b22faf57ba829f32a12b12fa461d00dd695337dcd4e478fafd", func := "loop.example/g01160/laws.FnExactWindowCounts", spec := "fnExactWindowCounts", inPlace := ["internal/bytealg.IndexByteString", "internal/bytealg.IndexString"], named := ["unicode/utf8.first", "unicode/utf8.acceptRanges", "internal/bytealg.MaxLen"], apart := false, laid := [("unicode/utf8.acceptRanges", laid_unicode_utf8_acceptRanges), ("unicode/utf8.first", laid_unicode_utf8_first)], narrowed := true }
def FnExactWindowCountsUptoSaid : Prop := fnExactWindowCountsUptoRow.holds Tryd.pinned (OpenSpec.upto fnExactWindowCountsSpec)

/-- 'laws.FnExactKindsOfBeads', WHERE WHAT IT READS IS OF BULK AT MOST 1048576: true; the input reads as it did. -/
def fnExactKindsOfBeadsUptoRow : OpenClaim := { program := "ytjhfkfiobpddnaadoor", sum := "d890f4051dc812b22faf57ba829f32a12b12fa461d00dd695337dcd4e478fafd", func := "loop.example/g01160/laws.FnExactKindsOfBeads", spec := "fnExactKindsOfBeads", inPlace := ["internal/bytealg.IndexByteString", "internal/bytealg.IndexString"], unfollowed := true, recurses := true, named := ["unicode/utf8.first", "unicode/utf8.acceptRanges", "internal/bytealg.MaxLen"], apart := false, laid := [("unicode/utf8.acceptRanges", laid_unicode_utf8_acceptRanges), ("unicode/utf8.first", laid_unicode_utf8_first)], narrowed := true }
def FnExactKindsOfBeadsUptoSaid : Prop := fnExactKindsOfBeadsUptoRow.holds Tryd.pinned (OpenSpec.upto fnExactKindsOfBeadsSpec)

/-- 'laws.FnExactCutsOfSigns', WHERE WHAT IT READS IS OF BULK AT MOST 1048576: true; the input reads as it did. -/
def fnExactCutsOfSignsUptoRow : OpenClaim := { program := "ytjhfkfiobpddnaadoor", sum := "d890f4051dc812b22faf57ba829f32a12b12fa461d00dd695337dcd4e478fafd", func := "loop.example/g01160/laws.FnExactCutsOfSigns", spec := "fnExactCutsOfSigns", inPlace := ["internal/bytealg.IndexByteString", "internal/bytealg.IndexString"], unfollowed := true, recurses := true, named := ["unicode/utf8.first", "unicode/utf8.acceptRanges", "internal/bytealg.MaxLen"], apart := false, laid := [("unicode/utf8.acceptRanges", laid_unicode_utf8_acceptRanges), ("unicode/utf8.first", laid_unicode_utf8_first)], narrowed := true }
def FnExactCutsOfSignsUptoSaid : Prop := fnExactCutsOfSignsUptoRow.holds Tryd.pinned (OpenSpec.upto fnExactCutsOfSignsSpec)

/-- 'laws.FnExactHalfWindow', WHERE WHAT IT READS IS OF BULK AT MOST 1048576: true; the input reads as it did. -/
def fnExactHalfWindowUptoRow : OpenClaim := { program := "ytjhfkfiobpddnaadoor", sum := "d890f4051dc812b22faf57ba829f32a12b12fa461d00dd695337dcd4e478fafd", func := "loop.example/g01160/laws.FnExactHalfWindow", spec := "fnExactHalfWindow", inPlace := ["internal/bytealg.IndexByteString", "internal/bytealg.IndexString"], unfollowed := true, recurses := true, named := ["unicode/utf8.first", "unicode/utf8.acceptRanges", "internal/bytealg.MaxLen"], apart := false, laid := [("unicode/utf8.acceptRanges", laid_unicode_utf8_acceptRanges), ("unicode/utf8.first", laid_unicode_utf8_first)], narrowed := true }
def FnExactHalfWindowUptoSaid : Prop := fnExactHalfWindowUptoRow.holds Tryd.pinned (OpenSpec.upto fnExactHalfWindowSpec)

/-- 'laws.FnExactFewestForThree', WHERE WHAT IT READS IS OF BULK AT MOST 1048576: true; the input reads as it did. -/
def fnExactFewestForThreeUptoRow : OpenClaim := { program := "ytjhfkfiobpddnaadoor", sum := "d890f4051dc812b22faf57ba829f32a12b12fa461d00dd695337dcd4e478fafd", func := "loop.example/g01160/laws.FnExactFewestForThree", spec := "fnExactFewestForThree", inPlace := ["internal/bytealg.IndexByteString", "internal/bytealg.IndexString"], unfollowed := true, recurses := true, named := ["unicode/utf8.first", "unicode/utf8.acceptRanges", "internal/bytealg.MaxLen"], apart := false, laid := [("unicode/utf8.acceptRanges", laid_unicode_utf8_acceptRanges), ("unicode/utf8.first", laid_unicode_utf8_first)], narrowed := true }
def FnExactFewestForThreeUptoSaid : Prop := fnExactFewestForThreeUptoRow.holds Tryd.pinned (OpenSpec.upto fnExactFewestForThreeSpec)

/-- 'laws.FnExactSignsOf', WHERE WHAT IT READS IS OF BULK AT MOST 1048576: true; the input reads as it did. -/
def fnExactSignsOfUptoRow : OpenClaim := { program := "ytjhfkfiobpddnaadoor", sum := "d890f4051dc812b22faf57ba829f32a12b12fa461d00dd695337dcd4e478fafd", func := "loop.example/g01160/laws.FnExactSignsOf", spec := "fnExactSignsOf", inPlace := ["internal/bytealg.IndexByteString", "internal/bytealg.IndexString"], named := ["unicode/utf8.first", "unicode/utf8.acceptRanges", "internal/bytealg.MaxLen"], apart := false, laid := [("unicode/utf8.acceptRanges", laid_unicode_utf8_acceptRanges), ("unicode/utf8.first", laid_unicode_utf8_first)], narrowed := true }
def FnExactSignsOfUptoSaid : Prop := fnExactSignsOfUptoRow.holds Tryd.pinned (OpenSpec.upto fnExactSignsOfSpec)

/-- 'laws.FnExactSharesOf', WHERE WHAT IT READS IS OF BULK AT MOST 1048576: true; the input reads as it did. -/
def fnExactSharesOfUptoRow : OpenClaim := { program := "ytjhfkfiobpddnaadoor", sum := "d890f4051dc812b22faf57ba829f32a12b12fa461d00dd695337dcd4e478fafd", func := "loop.example/g01160/laws.FnExactSharesOf", spec := "fnExactSharesOf", inPlace := ["internal/bytealg.IndexByteString", "internal/bytealg.IndexString"], named := ["unicode/utf8.first", "unicode/utf8.acceptRanges", "internal/bytealg.MaxLen"], apart := false, laid := [("unicode/utf8.acceptRanges", laid_unicode_utf8_acceptRanges), ("unicode/utf8.first", laid_unicode_utf8_first)], narrowed := true }
def FnExactSharesOfUptoSaid : Prop := fnExactSharesOfUptoRow.holds Tryd.pinned (OpenSpec.upto fnExactSharesOfSpec)

/-- 'laws.FnExactIsFairSplit', WHERE WHAT IT READS IS OF BULK AT MOST 1048576: true; the input reads as it did. -/
def fnExactIsFairSplitUptoRow : OpenClaim := { program := "ytjhfkfiobpddnaadoor", sum := "d890f4051dc812b22faf57ba829f32a12b12fa461d00dd695337dcd4e478fafd", func := "loop.example/g01160/laws.FnExactIsFairSplit", spec := "fnExactIsFairSplit", inPlace := ["internal/bytealg.IndexByteString", "internal/bytealg.IndexString"], named := ["unicode/utf8.first", "unicode/utf8.acceptRanges", "internal/bytealg.MaxLen"], apart := false, laid := [("unicode/utf8.acceptRanges", laid_unicode_utf8_acceptRanges), ("unicode/utf8.first", laid_unicode_utf8_first)], narrowed := true }
def FnExactIsFairSplitUptoSaid : Prop := fnExactIsFairSplitUptoRow.holds Tryd.pinned (OpenSpec.upto fnExactIsFairSplitSpec)

/-- 'laws.FnExactCountSplits', WHERE WHAT IT READS IS OF BULK AT MOST 1048576: true; the input reads as it did. -/
def fnExactCountSplitsUptoRow : OpenClaim := { program := "ytjhfkfiobpddnaadoor", sum := "d890f4051dc812b22faf57ba829f32a12b12fa461d00dd695337dcd4e478fafd", func := "loop.example/g01160/laws.FnExactCountSplits", spec := "fnExactCountSplits", inPlace := ["internal/bytealg.IndexByteString", "internal/bytealg.IndexString"], unfollowed := true, recurses := true, named := ["unicode/utf8.first", "unicode/utf8.acceptRanges", "internal/bytealg.MaxLen"], apart := false, laid := [("unicode/utf8.acceptRanges", laid_unicode_utf8_acceptRanges), ("unicode/utf8.first", laid_unicode_utf8_first)], narrowed := true }
def FnExactCountSplitsUptoSaid : Prop := fnExactCountSplitsUptoRow.holds Tryd.pinned (OpenSpec.upto fnExactCountSplitsSpec)

/-- 'laws.FnExactFewestCuts', WHERE WHAT IT READS IS OF BULK AT MOST 1048576: true; the input reads as it did. -/
def fnExactFewestCutsUptoRow : OpenClaim := { program := "ytjhfkfiobpddnaadoor", sum := "d890f4051dc812b22faf57ba829f32a12b12fa461d00dd695337dcd4e478fafd", func := "loop.example/g01160/laws.FnExactFewestCuts", spec := "fnExactFewestCuts", inPlace := ["internal/bytealg.IndexByteString", "internal/bytealg.IndexString"], unfollowed := true, recurses := true, named := ["unicode/utf8.first", "unicode/utf8.acceptRanges", "internal/bytealg.MaxLen"], apart := false, laid := [("unicode/utf8.acceptRanges", laid_unicode_utf8_acceptRanges), ("unicode/utf8.first", laid_unicode_utf8_first)], narrowed := true }
def FnExactFewestCutsUptoSaid : Prop := fnExactFewestCutsUptoRow.holds Tryd.pinned (OpenSpec.upto fnExactFewestCutsSpec)

/-- 'laws.FnExactFirstSplit', WHERE WHAT IT READS IS OF BULK AT MOST 1048576: true; the input reads as it did. -/
def fnExactFirstSplitUptoRow : OpenClaim := { program := "ytjhfkfiobpddnaadoor", sum := "d890f4051dc812b22faf57ba829f32a12b12fa461d00dd695337dcd4e478fafd", func := "loop.example/g01160/laws.FnExactFirstSplit", spec := "fnExactFirstSplit", inPlace := ["internal/bytealg.IndexByteString", "internal/bytealg.IndexString"], unfollowed := true, recurses := true, named := ["unicode/utf8.first", "unicode/utf8.acceptRanges", "internal/bytealg.MaxLen"], apart := false, laid := [("unicode/utf8.acceptRanges", laid_unicode_utf8_acceptRanges), ("unicode/utf8.first", laid_unicode_utf8_first)], narrowed := true }
def FnExactFirstSplitUptoSaid : Prop := fnExactFirstSplitUptoRow.holds Tryd.pinned (OpenSpec.upto fnExactFirstSplitSpec)

/-- 'laws.FnExactRenameBeads', WHERE WHAT IT READS IS OF BULK AT MOST 1048576: true; the input reads as it did. -/
def fnExactRenameBeadsUptoRow : OpenClaim := { program := "ytjhfkfiobpddnaadoor", sum := "d890f4051dc812b22faf57ba829f32a12b12fa461d00dd695337dcd4e478fafd", func := "loop.example/g01160/laws.FnExactRenameBeads", spec := "fnExactRenameBeads", inPlace := ["internal/bytealg.IndexByteString", "internal/bytealg.IndexString"], recurses := true, named := ["unicode/utf8.first", "unicode/utf8.acceptRanges", "internal/bytealg.MaxLen"], apart := false, laid := [("unicode/utf8.acceptRanges", laid_unicode_utf8_acceptRanges), ("unicode/utf8.first", laid_unicode_utf8_first)], narrowed := true }
def FnExactRenameBeadsUptoSaid : Prop := fnExactRenameBeadsUptoRow.holds Tryd.pinned (OpenSpec.upto fnExactRenameBeadsSpec)

/-- 'laws.FnSignsOfShares', WHERE WHAT IT READS IS OF BULK AT MOST 1048576: true; the input reads as it did. -/
def fnSignsOfSharesUptoRow : OpenClaim := { program := "ytjhfkfiobpddnaadoor", sum := "d890f4051dc812b22faf57ba829f32a12b12fa461d00dd695337dcd4e478fafd", func := "loop.example/g01160/laws.FnSignsOfShares", spec := "fnSignsOfShares", inPlace := ["internal/bytealg.IndexByteString", "internal/bytealg.IndexString"], unfollowed := true, recurses := true, named := ["unicode/utf8.first", "unicode/utf8.acceptRanges", "internal/bytealg.MaxLen"], apart := false, laid := [("unicode/utf8.acceptRanges", laid_unicode_utf8_acceptRanges), ("unicode/utf8.first", laid_unicode_utf8_first)], narrowed := true }
def FnSignsOfSharesUptoSaid : Prop := fnSignsOfSharesUptoRow.holds Tryd.pinned (OpenSpec.upto fnSignsOfSharesSpec)

/-- 'laws.FnHalfWindows', WHERE WHAT IT READS IS OF BULK AT MOST 1048576: true; the input reads as it did. -/
def fnHalfWindowsUptoRow : OpenClaim := { program := "ytjhfkfiobpddnaadoor", sum := "d890f4051dc812b22faf57ba829f32a12b12fa461d00dd695337dcd4e478fafd", func := "loop.example/g01160/laws.FnHalfWindows", spec := "fnHalfWindows", inPlace := ["internal/bytealg.IndexByteString", "internal/bytealg.IndexString"], unfollowed := true, recurses := true, named := ["unicode/utf8.first", "unicode/utf8.acceptRanges", "internal/bytealg.MaxLen"], apart := false, laid := [("unicode/utf8.acceptRanges", laid_unicode_utf8_acceptRanges), ("unicode/utf8.first", laid_unicode_utf8_first)], narrowed := true }
def FnHalfWindowsUptoSaid : Prop := fnHalfWindowsUptoRow.holds Tryd.pinned (OpenSpec.upto fnHalfWindowsSpec)

end Rows
end Go.Proofs.YtjhfkfiobpddnaaDoor
