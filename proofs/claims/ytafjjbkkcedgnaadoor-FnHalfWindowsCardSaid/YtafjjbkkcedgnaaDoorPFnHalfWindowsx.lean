-- Written by a program of this session (wip/tools/pp.sh) out of the translation; Lean checks it.
import Derived.Test.YtafjjbkkcedgnaaDoorPFnHalfWindowsx0
import Derived.Test.YtafjjbkkcedgnaaDoorPFnHalfWindowsx1
import Derived.Test.YtafjjbkkcedgnaaDoorPFnHalfWindowsx2
import Derived.Test.YtafjjbkkcedgnaaDoorPFnHalfWindowsx3
import Derived.Test.YtafjjbkkcedgnaaDoorPFnHalfWindowsx4
import Derived.Test.YtafjjbkkcedgnaaDoorPFnHalfWindowsx5
import Derived.Test.YtafjjbkkcedgnaaDoorPFnHalfWindowsx6
import Derived.Test.YtafjjbkkcedgnaaDoorPFnHalfWindowsx7
import Derived.Test.YtafjjbkkcedgnaaDoorPFnHalfWindowsx8
namespace Go.Proofs.YtafjjbkkcedgnaaDoor.PFnHalfWindows
open Go.RowKit Go.Proofs.YtafjjbkkcedgnaaDoorOwn Go.Proofs.YtafjjbkkcedgnaaDoorW.PrintWords Go.Proofs.YtafjjbkkcedgnaaDoorW.PrintLast Go.Proofs.YtafjjbkkcedgnaaDoorW.PrintMore
attribute [local go_sem] max2_int min2_int max_two min_two max_three min_three max_four min_four   -- for this text's walks alone
set_option linter.unusedVariables false
set_option maxHeartbeats 8000000
set_option maxRecDepth 100000
set_option linter.unusedSimpArgs false

end Go.Proofs.YtafjjbkkcedgnaaDoor.PFnHalfWindows
