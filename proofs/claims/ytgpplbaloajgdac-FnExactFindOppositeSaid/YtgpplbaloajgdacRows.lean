/-
  No cell of these rows narrows 'for every input' (looked for: loops, veiled, ifaces, maps, wideKeys, modest, calm, conditions, laid).
  DERIVED. THE GIVEN ROWS OF THIS SEAT. 3 by the template 'for every input the law returns true; each argument reads behind the call as it read before'; 0 by the template 'total and deterministic' (their statements: YtgpplbaloajgdacTotals.lean).
  GIVEN WITH THE SEED: the statements are not yours to turn. If you find one false, say at which input.
  Laid BY PROGRAM, IN A SANDBOX (cutbox-rows.mjs): the forced cells as the released guide's own fill.sh prints them over the translation 7e95b570611fbb4b… (all of the seat's roots in one cut). By AI agents, Wed Nov 11 2026. No macro, syntax, notation, axiom, sorry.
-/
import Derived.Test.YtgpplbaloajgdacChecked
import GoSem.Claim
import GoSem.ClaimJoined
import GoSem.ClaimMapViews
import Derived.JoinedTies
import Derived.KernelRfl
namespace Go.Proofs.Ytgpplbaloajgdac
/- THE CELL 'sum', in the pinned program and in every row, IS THE sha256 OF THE DUMP (.gsa) THAT YtgpplbaloajgdacProg.lean LOADS. Nothing in Lean hashes anything: it is a label: what it is worth is what the hold of that sum in a sandbox is worth. -/
noncomputable def Try.pinned : Pinned := { name := "ytgpplbaloajgdac", sum := "7e95b570611fbb4b8216fa59970b5f642bc1152d712cb418b9c521805a616d4f", checked := Try.checked }
namespace Rows
def none {H : Type} : Left H := { results := [], args := [] }

/-- 'laws.FnExactSquareWalk': WHATEVER THE INPUT: true; the input reads as it did. -/
def fnExactSquareWalkSpec : ChangeSpec := { name := "fnExactSquareWalk", fn := fun _ => fun
  | [d1, d2, d3, d4] => { results := [.lit (.bool true)], args := [d1, d2, d3, d4] }
  | _ => none }
def fnExactSquareWalkRow : OpenClaim := { program := "ytgpplbaloajgdac", sum := "7e95b570611fbb4b8216fa59970b5f642bc1152d712cb418b9c521805a616d4f", func := "loop.example/g01160/laws.FnExactSquareWalk", spec := "fnExactSquareWalk", unfollowed := true, recurses := true, apart := false }
def FnExactSquareWalkSaid : Prop := fnExactSquareWalkRow.holds Try.pinned (OpenSpec.ofChange fnExactSquareWalkSpec)

/-- ITS FALSE NEIGHBOUR: 'it returns false'. Refute it at one input. -/
def fnExactSquareWalkWrong : ChangeSpec := { name := "fnExactSquareWalk", fn := fun _ => fun
  | [d1, d2, d3, d4] => { results := [.lit (.bool false)], args := [d1, d2, d3, d4] }
  | _ => none }
def FnExactSquareWalkWrongFalsely : Prop := fnExactSquareWalkRow.holds Try.pinned (OpenSpec.ofChange fnExactSquareWalkWrong)

/-- 'laws.FnExactFindOpposite': WHATEVER THE INPUT: true; the input reads as it did. -/
def fnExactFindOppositeSpec : ChangeSpec := { name := "fnExactFindOpposite", fn := fun _ => fun
  | [d1, d2] => { results := [.lit (.bool true)], args := [d1, d2] }
  | _ => none }
def fnExactFindOppositeRow : OpenClaim := { program := "ytgpplbaloajgdac", sum := "7e95b570611fbb4b8216fa59970b5f642bc1152d712cb418b9c521805a616d4f", func := "loop.example/g01160/laws.FnExactFindOpposite", spec := "fnExactFindOpposite", unfollowed := true, recurses := true, apart := false }
def FnExactFindOppositeSaid : Prop := fnExactFindOppositeRow.holds Try.pinned (OpenSpec.ofChange fnExactFindOppositeSpec)

/-- ITS FALSE NEIGHBOUR: 'it returns false'. Refute it at one input. -/
def fnExactFindOppositeWrong : ChangeSpec := { name := "fnExactFindOpposite", fn := fun _ => fun
  | [d1, d2] => { results := [.lit (.bool false)], args := [d1, d2] }
  | _ => none }
def FnExactFindOppositeWrongFalsely : Prop := fnExactFindOppositeRow.holds Try.pinned (OpenSpec.ofChange fnExactFindOppositeWrong)

/-- 'laws.FnExactHexWalk': WHATEVER THE INPUT: true; the input reads as it did. -/
def fnExactHexWalkSpec : ChangeSpec := { name := "fnExactHexWalk", fn := fun _ => fun
  | [d1, d2, d3] => { results := [.lit (.bool true)], args := [d1, d2, d3] }
  | _ => none }
def fnExactHexWalkRow : OpenClaim := { program := "ytgpplbaloajgdac", sum := "7e95b570611fbb4b8216fa59970b5f642bc1152d712cb418b9c521805a616d4f", func := "loop.example/g01160/laws.FnExactHexWalk", spec := "fnExactHexWalk", unfollowed := true, recurses := true, apart := false }
def FnExactHexWalkSaid : Prop := fnExactHexWalkRow.holds Try.pinned (OpenSpec.ofChange fnExactHexWalkSpec)

/-- ITS FALSE NEIGHBOUR: 'it returns false'. Refute it at one input. -/
def fnExactHexWalkWrong : ChangeSpec := { name := "fnExactHexWalk", fn := fun _ => fun
  | [d1, d2, d3] => { results := [.lit (.bool false)], args := [d1, d2, d3] }
  | _ => none }
def FnExactHexWalkWrongFalsely : Prop := fnExactHexWalkRow.holds Try.pinned (OpenSpec.ofChange fnExactHexWalkWrong)

/- THE SECOND FORM. 'bulk': how many values and letters a reading holds, each counted each time it is reached (what is shared counts as often as it is met; a slice's spare places count too). A statement '..UptoSaid' is the law's where the arguments, and the package variables that the reading takes, are together of bulk at most 1048576: NARROWER than '..Said'. Prove '..Said' where nothing that the law and all that it calls make is longer than what came in: it says more and counts as full. Else prove '..UptoSaid'. A law counts once. -/
mutual
def uptoBulk {H : Type} : DataW H → Nat
  | .lit (.string bytes) => bytes.length + 1
  | .lit _ => 1
  | .nil => 1
  | .ptr d => uptoBulk d + 1
  | .slice elems spare => uptoBulkAll elems + uptoBulkAll spare + 1
  | .agg parts => uptoBulkAll parts + 1
  | .iface _ d => uptoBulk d + 1
  | .map entries => uptoBulkEntries entries + 1
  | .held _ => 1
def uptoBulkAll {H : Type} : List (DataW H) → Nat
  | [] => 0
  | d :: r => uptoBulk d + uptoBulkAll r
def uptoBulkEntries {H : Type} : List (Lit × DataW H) → Nat
  | [] => 0
  | x :: r => uptoBulkEntry x + uptoBulkEntries r
def uptoBulkEntry {H : Type} : Lit × DataW H → Nat
  | (.string bytes, d) => bytes.length + uptoBulk d + 1
  | (_, d) => uptoBulk d + 1
 end
def uptoSmall : (H : Type) → List (DataW H) → Bool := fun _ ds => decide (uptoBulkAll ds ≤ 1048576)
def OpenSpec.upto (s : _root_.Go.ChangeSpec) : _root_.Go.OpenSpec := { _root_.Go.OpenSpec.ofChange s with cond := some uptoSmall }

/-- 'laws.FnExactSquareWalk', WHERE WHAT IT READS IS OF BULK AT MOST 1048576: true; the input reads as it did. -/
def fnExactSquareWalkUptoRow : OpenClaim := { program := "ytgpplbaloajgdac", sum := "7e95b570611fbb4b8216fa59970b5f642bc1152d712cb418b9c521805a616d4f", func := "loop.example/g01160/laws.FnExactSquareWalk", spec := "fnExactSquareWalk", unfollowed := true, recurses := true, apart := false, narrowed := true }
def FnExactSquareWalkUptoSaid : Prop := fnExactSquareWalkUptoRow.holds Try.pinned (OpenSpec.upto fnExactSquareWalkSpec)

/-- 'laws.FnExactFindOpposite', WHERE WHAT IT READS IS OF BULK AT MOST 1048576: true; the input reads as it did. -/
def fnExactFindOppositeUptoRow : OpenClaim := { program := "ytgpplbaloajgdac", sum := "7e95b570611fbb4b8216fa59970b5f642bc1152d712cb418b9c521805a616d4f", func := "loop.example/g01160/laws.FnExactFindOpposite", spec := "fnExactFindOpposite", unfollowed := true, recurses := true, apart := false, narrowed := true }
def FnExactFindOppositeUptoSaid : Prop := fnExactFindOppositeUptoRow.holds Try.pinned (OpenSpec.upto fnExactFindOppositeSpec)

/-- 'laws.FnExactHexWalk', WHERE WHAT IT READS IS OF BULK AT MOST 1048576: true; the input reads as it did. -/
def fnExactHexWalkUptoRow : OpenClaim := { program := "ytgpplbaloajgdac", sum := "7e95b570611fbb4b8216fa59970b5f642bc1152d712cb418b9c521805a616d4f", func := "loop.example/g01160/laws.FnExactHexWalk", spec := "fnExactHexWalk", unfollowed := true, recurses := true, apart := false, narrowed := true }
def FnExactHexWalkUptoSaid : Prop := fnExactHexWalkUptoRow.holds Try.pinned (OpenSpec.upto fnExactHexWalkSpec)

end Rows
end Go.Proofs.Ytgpplbaloajgdac
