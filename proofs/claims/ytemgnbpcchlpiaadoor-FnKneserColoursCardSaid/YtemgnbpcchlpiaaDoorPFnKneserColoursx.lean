-- Written by a program of this session (wip/tools/pp.sh) out of the translation; Lean checks it.
import Derived.Test.YtemgnbpcchlpiaaDoorPFnKneserColoursx0
import Derived.Test.YtemgnbpcchlpiaaDoorPFnKneserColoursx1
import Derived.Test.YtemgnbpcchlpiaaDoorPFnKneserColoursx2
import Derived.Test.YtemgnbpcchlpiaaDoorPFnKneserColoursx3
import Derived.Test.YtemgnbpcchlpiaaDoorPFnKneserColoursx4
import Derived.Test.YtemgnbpcchlpiaaDoorPFnKneserColoursx5
import Derived.Test.YtemgnbpcchlpiaaDoorPFnKneserColoursx6
namespace Go.Proofs.YtemgnbpcchlpiaaDoor.PFnKneserColours
open Go.RowKit Go.Proofs.YtemgnbpcchlpiaaDoorOwn Go.Proofs.YtemgnbpcchlpiaaDoorW.PrintWords Go.Proofs.YtemgnbpcchlpiaaDoorW.PrintLast Go.Proofs.YtemgnbpcchlpiaaDoorW.PrintMore
attribute [local go_sem] max2_int min2_int max_two min_two max_three min_three max_four min_four   -- for this text's walks alone
set_option linter.unusedVariables false
set_option maxHeartbeats 8000000
set_option maxRecDepth 100000
set_option linter.unusedSimpArgs false

end Go.Proofs.YtemgnbpcchlpiaaDoor.PFnKneserColours
