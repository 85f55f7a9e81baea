-- Written by a program of this session (wip/tools/pp.sh) out of the translation; Lean checks it.
import Derived.Test.YtemgnbpcchlpiaaPFnColouringsAreLeastx0
import Derived.Test.YtemgnbpcchlpiaaPFnColouringsAreLeastx1
import Derived.Test.YtemgnbpcchlpiaaPFnColouringsAreLeastx2
import Derived.Test.YtemgnbpcchlpiaaPFnColouringsAreLeastx3
import Derived.Test.YtemgnbpcchlpiaaPFnColouringsAreLeastx4
import Derived.Test.YtemgnbpcchlpiaaPFnColouringsAreLeastx5
import Derived.Test.YtemgnbpcchlpiaaPFnColouringsAreLeastx6
namespace Go.Proofs.Ytemgnbpcchlpiaa.PFnColouringsAreLeast
open Go.RowKit Go.Proofs.YtemgnbpcchlpiaaOwn Go.Proofs.YtemgnbpcchlpiaaW.PrintWords Go.Proofs.YtemgnbpcchlpiaaW.PrintLast Go.Proofs.YtemgnbpcchlpiaaW.PrintMore
attribute [local go_sem] max2_int min2_int max_two min_two max_three min_three max_four min_four   -- for this text's walks alone
set_option linter.unusedVariables false
set_option maxHeartbeats 8000000
set_option maxRecDepth 100000
set_option linter.unusedSimpArgs false

end Go.Proofs.Ytemgnbpcchlpiaa.PFnColouringsAreLeast
