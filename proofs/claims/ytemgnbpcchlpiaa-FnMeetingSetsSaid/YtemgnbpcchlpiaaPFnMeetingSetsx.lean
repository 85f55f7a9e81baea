-- Written by a program of this session (wip/tools/pp.sh) out of the translation; Lean checks it.
import Derived.Test.YtemgnbpcchlpiaaPFnMeetingSetsx0
import Derived.Test.YtemgnbpcchlpiaaPFnMeetingSetsx1
import Derived.Test.YtemgnbpcchlpiaaPFnMeetingSetsx2
import Derived.Test.YtemgnbpcchlpiaaPFnMeetingSetsx3
import Derived.Test.YtemgnbpcchlpiaaPFnMeetingSetsx4
import Derived.Test.YtemgnbpcchlpiaaPFnMeetingSetsx5
namespace Go.Proofs.Ytemgnbpcchlpiaa.PFnMeetingSets
open Go.RowKit Go.Proofs.YtemgnbpcchlpiaaOwn Go.Proofs.YtemgnbpcchlpiaaW.PrintWords Go.Proofs.YtemgnbpcchlpiaaW.PrintLast Go.Proofs.YtemgnbpcchlpiaaW.PrintMore
attribute [local go_sem] max2_int min2_int max_two min_two max_three min_three max_four min_four   -- for this text's walks alone
set_option linter.unusedVariables false
set_option linter.unusedSimpArgs false

end Go.Proofs.Ytemgnbpcchlpiaa.PFnMeetingSets
