-- Written by a program of this session (wip/tools/pp.sh) out of the translation; Lean checks it.
import Derived.Test.YtjhfkfiobpddnaaDoorProg
import Derived.Below
import Derived.Deep.Draws
import Derived.Deep.AppendLies
import Derived.Maps.AppendAt
import Derived.OwnWalk
import Derived.Laws.BytesArg
import Derived.Laws.MakeOwn
import Derived.Laws.OwnMore
import Derived.Deep.OwnRows
import Derived.Tactics
import Derived.Lib.ConvBytes
import Derived.Laws.Slices
import Derived.WalkKit
import Derived.KernelRfl
import Derived.RowKit3
import Derived.Deep.LoopGhost
import Derived.Deep.QuietTactic
import Derived.BigQuiet
import Derived.WideLaws
import Derived.Deep.DeepCutAuto
import Derived.Deep.CutBlock
import Derived.Deep.RegionHeld3
import Derived.Laws.Rows
import Derived.Lib.AppendStr
import Derived.ArgAppend
import Derived.Laws.IdiomCopy
import Derived.OrdersHeld
import Derived.Laws.BitsLemmas
import Derived.RowKit
import Derived.Test.YtjhfkfiobpddnaaDoorWWords
import Derived.Test.YtjhfkfiobpddnaaDoorWLast
import Derived.Test.YtjhfkfiobpddnaaDoorWTab
import Derived.Test.YtjhfkfiobpddnaaDoorWFour
import Derived.Test.YtjhfkfiobpddnaaDoorWQPut
import Derived.Test.YtjhfkfiobpddnaaDoorWApart
import Derived.Test.YtjhfkfiobpddnaaDoorWArr
import Derived.Test.YtjhfkfiobpddnaaDoorWZeros
import Derived.Test.YtjhfkfiobpddnaaDoorWFoot
import Derived.Test.YtjhfkfiobpddnaaDoorWKept
import Derived.Test.YtjhfkfiobpddnaaDoorWShare
import Derived.Test.YtjhfkfiobpddnaaDoorWN
import Derived.Test.YtjhfkfiobpddnaaDoorWFootNe
import Derived.Test.YtjhfkfiobpddnaaDoorWAt
import Derived.Test.YtjhfkfiobpddnaaDoorWEqStruct
import Derived.Test.YtjhfkfiobpddnaaDoorWRepsOne
import Derived.Test.YtjhfkfiobpddnaaDoorWInv
import Derived.Test.YtjhfkfiobpddnaaDoorWInvWords
import Derived.Test.YtjhfkfiobpddnaaDoorWGuard
import Derived.Test.YtjhfkfiobpddnaaDoorWNEv
import Derived.Test.YtjhfkfiobpddnaaDoorWMore
import Derived.Test.YtjhfkfiobpddnaaDoorOwn
import Derived.Test.YtjhfkfiobpddnaaDoorShelf
namespace Go.Proofs.YtjhfkfiobpddnaaDoor.PFnExactCountsOfBeads
open Go.RowKit Go.Proofs.YtjhfkfiobpddnaaDoorOwn Go.Proofs.YtjhfkfiobpddnaaDoorW.PrintWords Go.Proofs.YtjhfkfiobpddnaaDoorW.PrintLast Go.Proofs.YtjhfkfiobpddnaaDoorW.PrintMore
attribute [local go_sem] max2_int min2_int max_two min_two max_three min_three max_four min_four   -- for this text's walks alone
set_option linter.unusedVariables false
set_option linter.unusedSimpArgs false



def errW : Option Int → Value
  | none => .nilIface
  | some c => .iface 0 (.int .i64 c)
theorem errW_none : errW none = .nilIface := rfl
theorem errW_some (c : Int) : errW (some c) = .iface 0 (.int .i64 c) := rfl

theorem info3 : (Tryd.prog.info? 3).map (fun i => (i.zero, i.size, i.bytes)) = some (some (.int .i64 0), 1, 8) := by kernel_rfl
-- the values' own types

end Go.Proofs.YtjhfkfiobpddnaaDoor.PFnExactCountsOfBeads
