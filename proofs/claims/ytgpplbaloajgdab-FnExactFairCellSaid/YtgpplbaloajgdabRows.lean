/-
  No cell of these rows narrows 'for every input' (looked for: loops, veiled, ifaces, maps, wideKeys, modest, calm, conditions, laid).
  DERIVED. THE GIVEN ROWS OF THIS SEAT. 4 by the template 'for every input the law returns true; each argument reads behind the call as it read before'; 0 by the template 'total and deterministic' (their statements: YtgpplbaloajgdabTotals.lean).
  GIVEN WITH THE SEED: the statements are not yours to turn. If you find one false, say at which input.
  Laid BY PROGRAM, IN A SANDBOX (cutbox-rows.mjs): the forced cells as the released guide's own fill.sh prints them over the translation aea238f1a78b9753… (all of the seat's roots in one cut). By AI agents, Wed Nov 11 2026. No macro, syntax, notation, axiom, sorry.
-/
import Derived.Test.YtgpplbaloajgdabChecked
import GoSem.Claim
import GoSem.ClaimJoined
import GoSem.ClaimMapViews
import Derived.JoinedTies
import Derived.KernelRfl
namespace Go.Proofs.Ytgpplbaloajgdab
/- THE CELL 'sum', in the pinned program and in every row, IS THE sha256 OF THE DUMP (.gsa) THAT YtgpplbaloajgdabProg.lean LOADS. Nothing in Lean hashes anything: it is a label: what it is worth is what the hold of that sum in a sandbox is worth. -/
noncomputable def Try.pinned : Pinned := { name := "ytgpplbaloajgdab", sum := "aea238f1a78b9753912848c50f1047800814306047a4b0ffcdad6bcc16210b91", checked := Try.checked }
namespace Rows
def none {H : Type} : Left H := { results := [], args := [] }

/-- 'laws.FnExactClosedRooms': WHATEVER THE INPUT: true; the input reads as it did. -/
def fnExactClosedRoomsSpec : ChangeSpec := { name := "fnExactClosedRooms", fn := fun _ => fun
  | [d1, d2] => { results := [.lit (.bool true)], args := [d1, d2] }
  | _ => none }
def fnExactClosedRoomsRow : OpenClaim := { program := "ytgpplbaloajgdab", sum := "aea238f1a78b9753912848c50f1047800814306047a4b0ffcdad6bcc16210b91", func := "loop.example/g01160/laws.FnExactClosedRooms", spec := "fnExactClosedRooms", unfollowed := true, recurses := true, apart := false }
def FnExactClosedRoomsSaid : Prop := fnExactClosedRoomsRow.holds Try.pinned (OpenSpec.ofChange fnExactClosedRoomsSpec)

/-- ITS FALSE NEIGHBOUR: 'it returns false'. Refute it at one input. -/
def fnExactClosedRoomsWrong : ChangeSpec := { name := "fnExactClosedRooms", fn := fun _ => fun
  | [d1, d2] => { results := [.lit (.bool false)], args := [d1, d2] }
  | _ => none }
def FnExactClosedRoomsWrongFalsely : Prop := fnExactClosedRoomsRow.holds Try.pinned (OpenSpec.ofChange fnExactClosedRoomsWrong)

/-- 'laws.FnExactFullOfMap': WHATEVER THE INPUT: true; the input reads as it did. -/
def fnExactFullOfMapSpec : ChangeSpec := { name := "fnExactFullOfMap", fn := fun _ => fun
  | [d1, d2] => { results := [.lit (.bool true)], args := [d1, d2] }
  | _ => none }
def fnExactFullOfMapRow : OpenClaim := { program := "ytgpplbaloajgdab", sum := "aea238f1a78b9753912848c50f1047800814306047a4b0ffcdad6bcc16210b91", func := "loop.example/g01160/laws.FnExactFullOfMap", spec := "fnExactFullOfMap", unfollowed := true, recurses := true, apart := false }
def FnExactFullOfMapSaid : Prop := fnExactFullOfMapRow.holds Try.pinned (OpenSpec.ofChange fnExactFullOfMapSpec)

/-- ITS FALSE NEIGHBOUR: 'it returns false'. Refute it at one input. -/
def fnExactFullOfMapWrong : ChangeSpec := { name := "fnExactFullOfMap", fn := fun _ => fun
  | [d1, d2] => { results := [.lit (.bool false)], args := [d1, d2] }
  | _ => none }
def FnExactFullOfMapWrongFalsely : Prop := fnExactFullOfMapRow.holds Try.pinned (OpenSpec.ofChange fnExactFullOfMapWrong)

/-- 'laws.FnExactFairCell': WHATEVER THE INPUT: true; the input reads as it did. -/
def fnExactFairCellSpec : ChangeSpec := { name := "fnExactFairCell", fn := fun _ => fun
  | [d1, d2] => { results := [.lit (.bool true)], args := [d1, d2] }
  | _ => none }
def fnExactFairCellRow : OpenClaim := { program := "ytgpplbaloajgdab", sum := "aea238f1a78b9753912848c50f1047800814306047a4b0ffcdad6bcc16210b91", func := "loop.example/g01160/laws.FnExactFairCell", spec := "fnExactFairCell", unfollowed := true, recurses := true, apart := false }
def FnExactFairCellSaid : Prop := fnExactFairCellRow.holds Try.pinned (OpenSpec.ofChange fnExactFairCellSpec)

/-- ITS FALSE NEIGHBOUR: 'it returns false'. Refute it at one input. -/
def fnExactFairCellWrong : ChangeSpec := { name := "fnExactFairCell", fn := fun _ => fun
  | [d1, d2] => { results := [.lit (.bool false)], args := [d1, d2] }
  | _ => none }
def FnExactFairCellWrongFalsely : Prop := fnExactFairCellRow.holds Try.pinned (OpenSpec.ofChange fnExactFairCellWrong)

/-- 'laws.FnExactFairCut': WHATEVER THE INPUT: true; the input reads as it did. -/
def fnExactFairCutSpec : ChangeSpec := { name := "fnExactFairCut", fn := fun _ => fun
  | [d1, d2] => { results := [.lit (.bool true)], args := [d1, d2] }
  | _ => none }
def fnExactFairCutRow : OpenClaim := { program := "ytgpplbaloajgdab", sum := "aea238f1a78b9753912848c50f1047800814306047a4b0ffcdad6bcc16210b91", func := "loop.example/g01160/laws.FnExactFairCut", spec := "fnExactFairCut", unfollowed := true, recurses := true, apart := false }
def FnExactFairCutSaid : Prop := fnExactFairCutRow.holds Try.pinned (OpenSpec.ofChange fnExactFairCutSpec)

/-- ITS FALSE NEIGHBOUR: 'it returns false'. Refute it at one input. -/
def fnExactFairCutWrong : ChangeSpec := { name := "fnExactFairCut", fn := fun _ => fun
  | [d1, d2] => { results := [.lit (.bool false)], args := [d1, d2] }
  | _ => none }
def FnExactFairCutWrongFalsely : Prop := fnExactFairCutRow.holds Try.pinned (OpenSpec.ofChange fnExactFairCutWrong)

/- THE SECOND FORM. 'bulk': how many values and letters a reading holds, each counted each time it is reached (what is shared counts as often as it is met; a slice's spare places count too). A statement '..UptoSaid' is the law's where the arguments, and the package variables that the reading takes, are together of bulk at most 1048576: NARROWER than '..Said'. Prove '..Said' where nothing that the law and all that it calls make is longer than what came in: it says more and counts as full. Else prove '..UptoSaid'. A law counts once. -/
mutual
def uptoBulk {H : Type} : DataW H → Nat
  | .lit (.string bytes) => bytes.length + 1
  | .lit _ => 1
  | .nil => 1
  | .ptr d => uptoBulk d + 1
  | .slice elems spare => uptoBulkAll elems + uptoBulkAll spare + 1
  | .agg parts => uptoBulkAll parts + 1
  | .iface _ d => uptoBulk d + 1
  | .map entries => uptoBulkEntries entries + 1
  | .held _ => 1
def uptoBulkAll {H : Type} : List (DataW H) → Nat
  | [] => 0
  | d :: r => uptoBulk d + uptoBulkAll r
def uptoBulkEntries {H : Type} : List (Lit × DataW H) → Nat
  | [] => 0
  | x :: r => uptoBulkEntry x + uptoBulkEntries r
def uptoBulkEntry {H : Type} : Lit × DataW H → Nat
  | (.string bytes, d) => bytes.length + uptoBulk d + 1
  | (_, d) => uptoBulk d + 1
 end
def uptoSmall : (H : Type) → List (DataW H) → Bool := fun _ ds => decide (uptoBulkAll ds ≤ 1048576)
def OpenSpec.upto (s : _root_.Go.ChangeSpec) : _root_.Go.OpenSpec := { _root_.Go.OpenSpec.ofChange s with cond := some uptoSmall }

/-- 'laws.FnExactClosedRooms', WHERE WHAT IT READS IS OF BULK AT MOST 1048576: true; the input reads as it did. -/
def fnExactClosedRoomsUptoRow : OpenClaim := { program := "ytgpplbaloajgdab", sum := "aea238f1a78b9753912848c50f1047800814306047a4b0ffcdad6bcc16210b91", func := "loop.example/g01160/laws.FnExactClosedRooms", spec := "fnExactClosedRooms", unfollowed := true, recurses := true, apart := false, narrowed := true }
def FnExactClosedRoomsUptoSaid : Prop := fnExactClosedRoomsUptoRow.holds Try.pinned (OpenSpec.upto fnExactClosedRoomsSpec)

/-- 'laws.FnExactFullOfMap', WHERE WHAT IT READS IS OF BULK AT MOST 1048576: true; the input reads as it did. -/
def fnExactFullOfMapUptoRow : OpenClaim := { program := "ytgpplbaloajgdab", sum := "aea238f1a78b9753912848c50f1047800814306047a4b0ffcdad6bcc16210b91", func := "loop.example/g01160/laws.FnExactFullOfMap", spec := "fnExactFullOfMap", unfollowed := true, recurses := true, apart := false, narrowed := true }
def FnExactFullOfMapUptoSaid : Prop := fnExactFullOfMapUptoRow.holds Try.pinned (OpenSpec.upto fnExactFullOfMapSpec)

/-- 'laws.FnExactFairCell', WHERE WHAT IT READS IS OF BULK AT MOST 1048576: true; the input reads as it did. -/
def fnExactFairCellUptoRow : OpenClaim := { program := "ytgpplbaloajgdab", sum := "aea238f1a78b9753912848c50f1047800814306047a4b0ffcdad6bcc16210b91", func := "loop.example/g01160/laws.FnExactFairCell", spec := "fnExactFairCell", unfollowed := true, recurses := true, apart := false, narrowed := true }
def FnExactFairCellUptoSaid : Prop := fnExactFairCellUptoRow.holds Try.pinned (OpenSpec.upto fnExactFairCellSpec)

/-- 'laws.FnExactFairCut', WHERE WHAT IT READS IS OF BULK AT MOST 1048576: true; the input reads as it did. -/
def fnExactFairCutUptoRow : OpenClaim := { program := "ytgpplbaloajgdab", sum := "aea238f1a78b9753912848c50f1047800814306047a4b0ffcdad6bcc16210b91", func := "loop.example/g01160/laws.FnExactFairCut", spec := "fnExactFairCut", unfollowed := true, recurses := true, apart := false, narrowed := true }
def FnExactFairCutUptoSaid : Prop := fnExactFairCutUptoRow.holds Try.pinned (OpenSpec.upto fnExactFairCutSpec)

end Rows
end Go.Proofs.Ytgpplbaloajgdab
