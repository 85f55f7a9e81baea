-- Written by a program of this session (wip/tools/pp.sh) out of the translation; Lean checks it.
import Derived.Test.YtkchmffegceplaaDoorProg
import Derived.Below
import Derived.Deep.Draws
import Derived.Deep.AppendLies
import Derived.Maps.AppendAt
import Derived.OwnWalk
import Derived.Laws.BytesArg
import Derived.Laws.MakeOwn
import Derived.Laws.OwnMore
import Derived.Deep.OwnRows
import Derived.Tactics
import Derived.Lib.ConvBytes
import Derived.Laws.Slices
import Derived.WalkKit
import Derived.KernelRfl
import Derived.RowKit3
import Derived.Deep.LoopGhost
import Derived.Deep.QuietTactic
import Derived.BigQuiet
import Derived.WideLaws
import Derived.Deep.DeepCutAuto
import Derived.Deep.CutBlock
import Derived.Deep.RegionHeld3
import Derived.Laws.Rows
import Derived.Lib.AppendStr
import Derived.ArgAppend
import Derived.Laws.IdiomCopy
import Derived.OrdersHeld
import Derived.Laws.BitsLemmas
import Derived.RowKit
import Derived.Test.YtkchmffegceplaaDoorWWords
import Derived.Test.YtkchmffegceplaaDoorWLast
import Derived.Test.YtkchmffegceplaaDoorWTab
import Derived.Test.YtkchmffegceplaaDoorWFour
import Derived.Test.YtkchmffegceplaaDoorWQPut
import Derived.Test.YtkchmffegceplaaDoorWApart
import Derived.Test.YtkchmffegceplaaDoorWArr
import Derived.Test.YtkchmffegceplaaDoorWZeros
import Derived.Test.YtkchmffegceplaaDoorWFoot
import Derived.Test.YtkchmffegceplaaDoorWKept
import Derived.Test.YtkchmffegceplaaDoorWShare
import Derived.Test.YtkchmffegceplaaDoorWN
import Derived.Test.YtkchmffegceplaaDoorWFootNe
import Derived.Test.YtkchmffegceplaaDoorWAt
import Derived.Test.YtkchmffegceplaaDoorWEqStruct
import Derived.Test.YtkchmffegceplaaDoorWRepsOne
import Derived.Test.YtkchmffegceplaaDoorWInv
import Derived.Test.YtkchmffegceplaaDoorWInvWords
import Derived.Test.YtkchmffegceplaaDoorWGuard
import Derived.Test.YtkchmffegceplaaDoorWNEv
import Derived.Test.YtkchmffegceplaaDoorWMore
import Derived.Test.YtkchmffegceplaaDoorOwn
import Derived.Test.YtkchmffegceplaaDoorShelf
namespace Go.Proofs.YtkchmffegceplaaDoor.PFnExactReverseBeads
open Go.RowKit Go.Proofs.YtkchmffegceplaaDoorOwn Go.Proofs.YtkchmffegceplaaDoorW.PrintWords Go.Proofs.YtkchmffegceplaaDoorW.PrintLast Go.Proofs.YtkchmffegceplaaDoorW.PrintMore
attribute [local go_sem] max2_int min2_int max_two min_two max_three min_three max_four min_four   -- for this text's walks alone
set_option linter.unusedVariables false
set_option linter.unusedSimpArgs false



def errW : Option Int → Value
  | none => .nilIface
  | some c => .iface 0 (.int .i64 c)
theorem errW_none : errW none = .nilIface := rfl
theorem errW_some (c : Int) : errW (some c) = .iface 0 (.int .i64 c) := rfl

-- the values' own types

end Go.Proofs.YtkchmffegceplaaDoor.PFnExactReverseBeads
