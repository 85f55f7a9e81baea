-- Written by a program of this session (wip/tools/pp.sh) out of the translation; Lean checks it.
import Derived.Test.YtlncamfcidgmjaaDoorProg
import Derived.Below
import Derived.Deep.Draws
import Derived.Deep.AppendLies
import Derived.Maps.AppendAt
import Derived.OwnWalk
import Derived.Laws.BytesArg
import Derived.Laws.MakeOwn
import Derived.Laws.OwnMore
import Derived.Deep.OwnRows
import Derived.Tactics
import Derived.Lib.ConvBytes
import Derived.Laws.Slices
import Derived.WalkKit
import Derived.KernelRfl
import Derived.RowKit3
import Derived.Deep.LoopGhost
import Derived.Deep.QuietTactic
import Derived.BigQuiet
import Derived.WideLaws
import Derived.Deep.DeepCutAuto
import Derived.Deep.CutBlock
import Derived.Deep.RegionHeld3
import Derived.Laws.Rows
import Derived.Lib.AppendStr
import Derived.ArgAppend
import Derived.Laws.IdiomCopy
import Derived.OrdersHeld
import Derived.Laws.BitsLemmas
import Derived.RowKit
import Derived.Test.YtlncamfcidgmjaaDoorWWords
import Derived.Test.YtlncamfcidgmjaaDoorWLast
import Derived.Test.YtlncamfcidgmjaaDoorWTab
import Derived.Test.YtlncamfcidgmjaaDoorWFour
import Derived.Test.YtlncamfcidgmjaaDoorWQPut
import Derived.Test.YtlncamfcidgmjaaDoorWApart
import Derived.Test.YtlncamfcidgmjaaDoorWArr
import Derived.Test.YtlncamfcidgmjaaDoorWZeros
import Derived.Test.YtlncamfcidgmjaaDoorWFoot
import Derived.Test.YtlncamfcidgmjaaDoorWKept
import Derived.Test.YtlncamfcidgmjaaDoorWShare
import Derived.Test.YtlncamfcidgmjaaDoorWN
import Derived.Test.YtlncamfcidgmjaaDoorWFootNe
import Derived.Test.YtlncamfcidgmjaaDoorWAt
import Derived.Test.YtlncamfcidgmjaaDoorWEqStruct
import Derived.Test.YtlncamfcidgmjaaDoorWRepsOne
import Derived.Test.YtlncamfcidgmjaaDoorWInv
import Derived.Test.YtlncamfcidgmjaaDoorWInvWords
import Derived.Test.YtlncamfcidgmjaaDoorWGuard
import Derived.Test.YtlncamfcidgmjaaDoorWNEv
import Derived.Test.YtlncamfcidgmjaaDoorWMore
import Derived.Test.YtlncamfcidgmjaaDoorOwn
import Derived.Test.YtlncamfcidgmjaaDoorShelf
namespace Go.Proofs.YtlncamfcidgmjaaDoor.PFnExactIsDesk
open Go.RowKit Go.Proofs.YtlncamfcidgmjaaDoorOwn Go.Proofs.YtlncamfcidgmjaaDoorW.PrintWords Go.Proofs.YtlncamfcidgmjaaDoorW.PrintLast Go.Proofs.YtlncamfcidgmjaaDoorW.PrintMore
attribute [local go_sem] max2_int min2_int max_two min_two max_three min_three max_four min_four   -- for this text's walks alone
set_option linter.unusedVariables false
set_option linter.unusedSimpArgs false



def errW : Option Int → Value
  | none => .nilIface
  | some c => .iface 0 (.int .i64 c)
theorem errW_none : errW none = .nilIface := rfl
theorem errW_some (c : Int) : errW (some c) = .iface 0 (.int .i64 c) := rfl

theorem info3 : (Tryd.prog.info? 3).map (fun i => (i.zero, i.size, i.bytes)) = some (some (.int .i64 0), 1, 8) := by kernel_rfl
-- the values' own types

end Go.Proofs.YtlncamfcidgmjaaDoor.PFnExactIsDesk
