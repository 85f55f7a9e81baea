/-
  No cell of these rows narrows 'for every input' (looked for: loops, veiled, ifaces, maps, wideKeys, modest, calm, conditions, laid).
  DERIVED. THE GIVEN ROWS OF THIS SEAT. 4 by the template 'for every input the law returns true; each argument reads behind the call as it read before'; 0 by the template 'total and deterministic' (their statements: YtgpplbaloajgdaaTotals.lean).
  GIVEN WITH THE SEED: the statements are not yours to turn. If you find one false, say at which input.
  Laid BY PROGRAM, IN A SANDBOX (cutbox-rows.mjs): the forced cells as the released guide's own fill.sh prints them over the translation 7a3979355b0a9995… (all of the seat's roots in one cut). By AI agents, Wed Nov 11 2026. No macro, syntax, notation, axiom, sorry.
-/
import Derived.Test.YtgpplbaloajgdaaChecked
import GoSem.Claim
import GoSem.ClaimJoined
import GoSem.ClaimMapViews
import Derived.JoinedTies
import Derived.KernelRfl
namespace Go.Proofs.Ytgpplbaloajgdaa
/- THE CELL 'sum', in the pinned program and in every row, IS THE sha256 OF THE DUMP (.gsa) THAT YtgpplbaloajgdaaProg.lean LOADS. Nothing in Lean hashes anything: it is a label: what it is worth is what the hold of that sum in a sandbox is worth. -/
noncomputable def Try.pinned : Pinned := { name := "ytgpplbaloajgdaa", sum := "7a3979355b0a999519d7a0f76720188ad8f2b2c62c0eeda7391cbb2f3e4a91b7", checked := Try.checked }
namespace Rows
def none {H : Type} : Left H := { results := [], args := [] }

/-- 'laws.FnExactFindFull': WHATEVER THE INPUT: true; the input reads as it did. -/
def fnExactFindFullSpec : ChangeSpec := { name := "fnExactFindFull", fn := fun _ => fun
  | [d1, d2] => { results := [.lit (.bool true)], args := [d1, d2] }
  | _ => none }
def fnExactFindFullRow : OpenClaim := { program := "ytgpplbaloajgdaa", sum := "7a3979355b0a999519d7a0f76720188ad8f2b2c62c0eeda7391cbb2f3e4a91b7", func := "loop.example/g01160/laws.FnExactFindFull", spec := "fnExactFindFull", unfollowed := true, recurses := true, apart := false }
def FnExactFindFullSaid : Prop := fnExactFindFullRow.holds Try.pinned (OpenSpec.ofChange fnExactFindFullSpec)

/-- ITS FALSE NEIGHBOUR: 'it returns false'. Refute it at one input. -/
def fnExactFindFullWrong : ChangeSpec := { name := "fnExactFindFull", fn := fun _ => fun
  | [d1, d2] => { results := [.lit (.bool false)], args := [d1, d2] }
  | _ => none }
def FnExactFindFullWrongFalsely : Prop := fnExactFindFullRow.holds Try.pinned (OpenSpec.ofChange fnExactFindFullWrong)

/-- 'laws.FnExactWalkFrom': WHATEVER THE INPUT: true; the input reads as it did. -/
def fnExactWalkFromSpec : ChangeSpec := { name := "fnExactWalkFrom", fn := fun _ => fun
  | [d1, d2, d3, d4] => { results := [.lit (.bool true)], args := [d1, d2, d3, d4] }
  | _ => none }
def fnExactWalkFromRow : OpenClaim := { program := "ytgpplbaloajgdaa", sum := "7a3979355b0a999519d7a0f76720188ad8f2b2c62c0eeda7391cbb2f3e4a91b7", func := "loop.example/g01160/laws.FnExactWalkFrom", spec := "fnExactWalkFrom", unfollowed := true, recurses := true, apart := false }
def FnExactWalkFromSaid : Prop := fnExactWalkFromRow.holds Try.pinned (OpenSpec.ofChange fnExactWalkFromSpec)

/-- ITS FALSE NEIGHBOUR: 'it returns false'. Refute it at one input. -/
def fnExactWalkFromWrong : ChangeSpec := { name := "fnExactWalkFrom", fn := fun _ => fun
  | [d1, d2, d3, d4] => { results := [.lit (.bool false)], args := [d1, d2, d3, d4] }
  | _ => none }
def FnExactWalkFromWrongFalsely : Prop := fnExactWalkFromRow.holds Try.pinned (OpenSpec.ofChange fnExactWalkFromWrong)

/-- 'laws.FnExactExitOf': WHATEVER THE INPUT: true; the input reads as it did. -/
def fnExactExitOfSpec : ChangeSpec := { name := "fnExactExitOf", fn := fun _ => fun
  | [d1, d2, d3, d4] => { results := [.lit (.bool true)], args := [d1, d2, d3, d4] }
  | _ => none }
def fnExactExitOfRow : OpenClaim := { program := "ytgpplbaloajgdaa", sum := "7a3979355b0a999519d7a0f76720188ad8f2b2c62c0eeda7391cbb2f3e4a91b7", func := "loop.example/g01160/laws.FnExactExitOf", spec := "fnExactExitOf", unfollowed := true, recurses := true, apart := false }
def FnExactExitOfSaid : Prop := fnExactExitOfRow.holds Try.pinned (OpenSpec.ofChange fnExactExitOfSpec)

/-- ITS FALSE NEIGHBOUR: 'it returns false'. Refute it at one input. -/
def fnExactExitOfWrong : ChangeSpec := { name := "fnExactExitOf", fn := fun _ => fun
  | [d1, d2, d3, d4] => { results := [.lit (.bool false)], args := [d1, d2, d3, d4] }
  | _ => none }
def FnExactExitOfWrongFalsely : Prop := fnExactExitOfRow.holds Try.pinned (OpenSpec.ofChange fnExactExitOfWrong)

/-- 'laws.FnExactPartnerOfFull': WHATEVER THE INPUT: true; the input reads as it did. -/
def fnExactPartnerOfFullSpec : ChangeSpec := { name := "fnExactPartnerOfFull", fn := fun _ => fun
  | [d1, d2, d3] => { results := [.lit (.bool true)], args := [d1, d2, d3] }
  | _ => none }
def fnExactPartnerOfFullRow : OpenClaim := { program := "ytgpplbaloajgdaa", sum := "7a3979355b0a999519d7a0f76720188ad8f2b2c62c0eeda7391cbb2f3e4a91b7", func := "loop.example/g01160/laws.FnExactPartnerOfFull", spec := "fnExactPartnerOfFull", unfollowed := true, recurses := true, apart := false }
def FnExactPartnerOfFullSaid : Prop := fnExactPartnerOfFullRow.holds Try.pinned (OpenSpec.ofChange fnExactPartnerOfFullSpec)

/-- ITS FALSE NEIGHBOUR: 'it returns false'. Refute it at one input. -/
def fnExactPartnerOfFullWrong : ChangeSpec := { name := "fnExactPartnerOfFull", fn := fun _ => fun
  | [d1, d2, d3] => { results := [.lit (.bool false)], args := [d1, d2, d3] }
  | _ => none }
def FnExactPartnerOfFullWrongFalsely : Prop := fnExactPartnerOfFullRow.holds Try.pinned (OpenSpec.ofChange fnExactPartnerOfFullWrong)

/- THE SECOND FORM. 'bulk': how many values and letters a reading holds, each counted each time it is reached (what is shared counts as often as it is met; a slice's spare places count too). A statement '..UptoSaid' is the law's where the arguments, and the package variables that the reading takes, are together of bulk at most 1048576: NARROWER than '..Said'. Prove '..Said' where nothing that the law and all that it calls make is longer than what came in: it says more and counts as full. Else prove '..UptoSaid'. A law counts once. -/
mutual
def uptoBulk {H : Type} : DataW H → Nat
  | .lit (.string bytes) => bytes.length + 1
  | .lit _ => 1
  | .nil => 1
  | .ptr d => uptoBulk d + 1
  | .slice elems spare => uptoBulkAll elems + uptoBulkAll spare + 1
  | .agg parts => uptoBulkAll parts + 1
  | .iface _ d => uptoBulk d + 1
  | .map entries => uptoBulkEntries entries + 1
  | .held _ => 1
def uptoBulkAll {H : Type} : List (DataW H) → Nat
  | [] => 0
  | d :: r => uptoBulk d + uptoBulkAll r
def uptoBulkEntries {H : Type} : List (Lit × DataW H) → Nat
  | [] => 0
  | x :: r => uptoBulkEntry x + uptoBulkEntries r
def uptoBulkEntry {H : Type} : Lit × DataW H → Nat
  | (.string bytes, d) => bytes.length + uptoBulk d + 1
  | (_, d) => uptoBulk d + 1
 end
def uptoSmall : (H : Type) → List (DataW H) → Bool := fun _ ds => decide (uptoBulkAll ds ≤ 1048576)
def OpenSpec.upto (s : _root_.Go.ChangeSpec) : _root_.Go.OpenSpec := { _root_.Go.OpenSpec.ofChange s with cond := some uptoSmall }

/-- 'laws.FnExactFindFull', WHERE WHAT IT READS IS OF BULK AT MOST 1048576: true; the input reads as it did. -/
def fnExactFindFullUptoRow : OpenClaim := { program := "ytgpplbaloajgdaa", sum := "7a3979355b0a999519d7a0f76720188ad8f2b2c62c0eeda7391cbb2f3e4a91b7", func := "loop.example/g01160/laws.FnExactFindFull", spec := "fnExactFindFull", unfollowed := true, recurses := true, apart := false, narrowed := true }
def FnExactFindFullUptoSaid : Prop := fnExactFindFullUptoRow.holds Try.pinned (OpenSpec.upto fnExactFindFullSpec)

/-- 'laws.FnExactWalkFrom', WHERE WHAT IT READS IS OF BULK AT MOST 1048576: true; the input reads as it did. -/
def fnExactWalkFromUptoRow : OpenClaim := { program := "ytgpplbaloajgdaa", sum := "7a3979355b0a999519d7a0f76720188ad8f2b2c62c0eeda7391cbb2f3e4a91b7", func := "loop.example/g01160/laws.FnExactWalkFrom", spec := "fnExactWalkFrom", unfollowed := true, recurses := true, apart := false, narrowed := true }
def FnExactWalkFromUptoSaid : Prop := fnExactWalkFromUptoRow.holds Try.pinned (OpenSpec.upto fnExactWalkFromSpec)

/-- 'laws.FnExactExitOf', WHERE WHAT IT READS IS OF BULK AT MOST 1048576: true; the input reads as it did. -/
def fnExactExitOfUptoRow : OpenClaim := { program := "ytgpplbaloajgdaa", sum := "7a3979355b0a999519d7a0f76720188ad8f2b2c62c0eeda7391cbb2f3e4a91b7", func := "loop.example/g01160/laws.FnExactExitOf", spec := "fnExactExitOf", unfollowed := true, recurses := true, apart := false, narrowed := true }
def FnExactExitOfUptoSaid : Prop := fnExactExitOfUptoRow.holds Try.pinned (OpenSpec.upto fnExactExitOfSpec)

/-- 'laws.FnExactPartnerOfFull', WHERE WHAT IT READS IS OF BULK AT MOST 1048576: true; the input reads as it did. -/
def fnExactPartnerOfFullUptoRow : OpenClaim := { program := "ytgpplbaloajgdaa", sum := "7a3979355b0a999519d7a0f76720188ad8f2b2c62c0eeda7391cbb2f3e4a91b7", func := "loop.example/g01160/laws.FnExactPartnerOfFull", spec := "fnExactPartnerOfFull", unfollowed := true, recurses := true, apart := false, narrowed := true }
def FnExactPartnerOfFullUptoSaid : Prop := fnExactPartnerOfFullUptoRow.holds Try.pinned (OpenSpec.upto fnExactPartnerOfFullSpec)

end Rows
end Go.Proofs.Ytgpplbaloajgdaa
