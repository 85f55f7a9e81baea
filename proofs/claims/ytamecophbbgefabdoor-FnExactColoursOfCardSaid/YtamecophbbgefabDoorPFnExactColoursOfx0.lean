-- Written by a program of this session (wip/tools/pp.sh) out of the translation; Lean checks it.
import Derived.Test.YtamecophbbgefabDoorProg
import Derived.Below
import Derived.Deep.Draws
import Derived.Deep.AppendLies
import Derived.Maps.AppendAt
import Derived.OwnWalk
import Derived.Laws.BytesArg
import Derived.Laws.MakeOwn
import Derived.Laws.OwnMore
import Derived.Deep.OwnRows
import Derived.Tactics
import Derived.Lib.ConvBytes
import Derived.Laws.Slices
import Derived.WalkKit
import Derived.KernelRfl
import Derived.RowKit3
import Derived.Deep.LoopGhost
import Derived.Deep.QuietTactic
import Derived.BigQuiet
import Derived.WideLaws
import Derived.Deep.DeepCutAuto
import Derived.Deep.CutBlock
import Derived.Deep.RegionHeld3
import Derived.Laws.Rows
import Derived.Lib.AppendStr
import Derived.ArgAppend
import Derived.Laws.IdiomCopy
import Derived.OrdersHeld
import Derived.Laws.BitsLemmas
import Derived.RowKit
import Derived.Test.YtamecophbbgefabDoorWWords
import Derived.Test.YtamecophbbgefabDoorWLast
import Derived.Test.YtamecophbbgefabDoorWTab
import Derived.Test.YtamecophbbgefabDoorWFour
import Derived.Test.YtamecophbbgefabDoorWQPut
import Derived.Test.YtamecophbbgefabDoorWApart
import Derived.Test.YtamecophbbgefabDoorWArr
import Derived.Test.YtamecophbbgefabDoorWZeros
import Derived.Test.YtamecophbbgefabDoorWFoot
import Derived.Test.YtamecophbbgefabDoorWKept
import Derived.Test.YtamecophbbgefabDoorWShare
import Derived.Test.YtamecophbbgefabDoorWN
import Derived.Test.YtamecophbbgefabDoorWFootNe
import Derived.Test.YtamecophbbgefabDoorWAt
import Derived.Test.YtamecophbbgefabDoorWEqStruct
import Derived.Test.YtamecophbbgefabDoorWRepsOne
import Derived.Test.YtamecophbbgefabDoorWInv
import Derived.Test.YtamecophbbgefabDoorWInvWords
import Derived.Test.YtamecophbbgefabDoorWGuard
import Derived.Test.YtamecophbbgefabDoorWNEv
import Derived.Test.YtamecophbbgefabDoorWMore
import Derived.Test.YtamecophbbgefabDoorOwn
import Derived.Test.YtamecophbbgefabDoorShelf
import Derived.Test.YtamecophbbgefabDoorTzL
namespace Go.Proofs.YtamecophbbgefabDoor.PFnExactColoursOf
open Go.RowKit Go.Proofs.YtamecophbbgefabDoorOwn Go.Proofs.YtamecophbbgefabDoorW.PrintWords Go.Proofs.YtamecophbbgefabDoorW.PrintLast Go.Proofs.YtamecophbbgefabDoorW.PrintMore
attribute [local go_sem] max2_int min2_int max_two min_two max_three min_three max_four min_four   -- for this text's walks alone
set_option linter.unusedVariables false
set_option linter.unusedSimpArgs false



def errW : Option Int → Value
  | none => .nilIface
  | some c => .iface 0 (.int .i64 c)
theorem errW_none : errW none = .nilIface := rfl
theorem errW_some (c : Int) : errW (some c) = .iface 0 (.int .i64 c) := rfl

theorem info3 : (Tryd.prog.info? 3).map (fun i => (i.zero, i.size, i.bytes)) = some (some (.int .i64 0), 1, 8) := by kernel_rfl
-- the values' own types

end Go.Proofs.YtamecophbbgefabDoor.PFnExactColoursOf
