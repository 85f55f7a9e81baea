-- Written by a program of this session (wip/tools/pp.sh) out of the translation; Lean checks it.
import Derived.Test.YtlhilhimpbfllaaDoorProg
import Derived.Below
import Derived.Deep.Draws
import Derived.Deep.AppendLies
import Derived.Maps.AppendAt
import Derived.OwnWalk
import Derived.Laws.BytesArg
import Derived.Laws.MakeOwn
import Derived.Laws.OwnMore
import Derived.Deep.OwnRows
import Derived.Tactics
import Derived.Lib.ConvBytes
import Derived.Laws.Slices
import Derived.WalkKit
import Derived.KernelRfl
import Derived.RowKit3
import Derived.Deep.LoopGhost
import Derived.Deep.QuietTactic
import Derived.BigQuiet
import Derived.WideLaws
import Derived.Deep.DeepCutAuto
import Derived.Deep.CutBlock
import Derived.Deep.RegionHeld3
import Derived.Laws.Rows
import Derived.Lib.AppendStr
import Derived.ArgAppend
import Derived.Laws.IdiomCopy
import Derived.OrdersHeld
import Derived.Laws.BitsLemmas
import Derived.RowKit
import Derived.Test.YtlhilhimpbfllaaDoorWWords
import Derived.Test.YtlhilhimpbfllaaDoorWLast
import Derived.Test.YtlhilhimpbfllaaDoorWTab
import Derived.Test.YtlhilhimpbfllaaDoorWFour
import Derived.Test.YtlhilhimpbfllaaDoorWQPut
import Derived.Test.YtlhilhimpbfllaaDoorWApart
import Derived.Test.YtlhilhimpbfllaaDoorWArr
import Derived.Test.YtlhilhimpbfllaaDoorWZeros
import Derived.Test.YtlhilhimpbfllaaDoorWFoot
import Derived.Test.YtlhilhimpbfllaaDoorWKept
import Derived.Test.YtlhilhimpbfllaaDoorWShare
import Derived.Test.YtlhilhimpbfllaaDoorWN
import Derived.Test.YtlhilhimpbfllaaDoorWFootNe
import Derived.Test.YtlhilhimpbfllaaDoorWAt
import Derived.Test.YtlhilhimpbfllaaDoorWEqStruct
import Derived.Test.YtlhilhimpbfllaaDoorWRepsOne
import Derived.Test.YtlhilhimpbfllaaDoorWInv
import Derived.Test.YtlhilhimpbfllaaDoorWInvWords
import Derived.Test.YtlhilhimpbfllaaDoorWGuard
import Derived.Test.YtlhilhimpbfllaaDoorWNEv
import Derived.Test.YtlhilhimpbfllaaDoorWMore
import Derived.Test.YtlhilhimpbfllaaDoorOwn
import Derived.Test.YtlhilhimpbfllaaDoorShelf
namespace Go.Proofs.YtlhilhimpbfllaaDoor.PFnExactCutsOfSigns
open Go.RowKit Go.Proofs.YtlhilhimpbfllaaDoorOwn Go.Proofs.YtlhilhimpbfllaaDoorW.PrintWords Go.Proofs.YtlhilhimpbfllaaDoorW.PrintLast Go.Proofs.YtlhilhimpbfllaaDoorW.PrintMore
attribute [local go_sem] max2_int min2_int max_two min_two max_three min_three max_four min_four   -- for this text's walks alone
set_option linter.unusedVariables false
set_option linter.unusedSimpArgs false



def errW : Option Int → Value
  | none => .nilIface
  | some c => .iface 0 (.int .i64 c)
theorem errW_none : errW none = .nilIface := rfl
theorem errW_some (c : Int) : errW (some c) = .iface 0 (.int .i64 c) := rfl

theorem info3 : (Tryd.prog.info? 3).map (fun i => (i.zero, i.size, i.bytes)) = some (some (.int .i64 0), 1, 8) := by kernel_rfl
-- the values' own types

end Go.Proofs.YtlhilhimpbfllaaDoor.PFnExactCutsOfSigns
