-- Written by a program of this session (wip/tools/pp.sh) out of the translation; Lean checks it.
import Derived.Test.YtafjjbkkcedgnaaDoorPFnSignsOfSharesx0
import Derived.Test.YtafjjbkkcedgnaaDoorPFnSignsOfSharesx1
import Derived.Test.YtafjjbkkcedgnaaDoorPFnSignsOfSharesx2
import Derived.Test.YtafjjbkkcedgnaaDoorPFnSignsOfSharesx3
import Derived.Test.YtafjjbkkcedgnaaDoorPFnSignsOfSharesx4
import Derived.Test.YtafjjbkkcedgnaaDoorPFnSignsOfSharesx5
import Derived.Test.YtafjjbkkcedgnaaDoorPFnSignsOfSharesx6
import Derived.Test.YtafjjbkkcedgnaaDoorPFnSignsOfSharesx7
import Derived.Test.YtafjjbkkcedgnaaDoorPFnSignsOfSharesx8
import Derived.Test.YtafjjbkkcedgnaaDoorPFnSignsOfSharesx9
namespace Go.Proofs.YtafjjbkkcedgnaaDoor.PFnSignsOfShares
open Go.RowKit Go.Proofs.YtafjjbkkcedgnaaDoorOwn Go.Proofs.YtafjjbkkcedgnaaDoorW.PrintWords Go.Proofs.YtafjjbkkcedgnaaDoorW.PrintLast Go.Proofs.YtafjjbkkcedgnaaDoorW.PrintMore
attribute [local go_sem] max2_int min2_int max_two min_two max_three min_three max_four min_four   -- for this text's walks alone
set_option linter.unusedVariables false
set_option maxHeartbeats 8000000
set_option maxRecDepth 100000
set_option linter.unusedSimpArgs false

end Go.Proofs.YtafjjbkkcedgnaaDoor.PFnSignsOfShares
