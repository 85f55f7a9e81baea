-- Written by a program of this session (wip/tools/pp.sh) out of the translation; Lean checks it.
import Derived.Test.YtgpplbaloajgdaaPFnExactPartnerOfFullx0
import Derived.Test.YtgpplbaloajgdaaPFnExactPartnerOfFullx1
import Derived.Test.YtgpplbaloajgdaaPFnExactPartnerOfFullx2
import Derived.Test.YtgpplbaloajgdaaPFnExactPartnerOfFullx3
import Derived.Test.YtgpplbaloajgdaaPFnExactPartnerOfFullx4
import Derived.Test.YtgpplbaloajgdaaPFnExactPartnerOfFullx5
import Derived.Test.YtgpplbaloajgdaaPFnExactPartnerOfFullx6
import Derived.Test.YtgpplbaloajgdaaPFnExactPartnerOfFullx7
import Derived.Test.YtgpplbaloajgdaaPFnExactPartnerOfFullx8
import Derived.Test.YtgpplbaloajgdaaPFnExactPartnerOfFullx9
import Derived.Test.YtgpplbaloajgdaaPFnExactPartnerOfFullx10
import Derived.Test.YtgpplbaloajgdaaPFnExactPartnerOfFullx11
import Derived.Test.YtgpplbaloajgdaaPFnExactPartnerOfFullx12
namespace Go.Proofs.Ytgpplbaloajgdaa.PFnExactPartnerOfFull
open Go.RowKit Go.Proofs.YtgpplbaloajgdaaOwn Go.Proofs.YtgpplbaloajgdaaW.PrintWords Go.Proofs.YtgpplbaloajgdaaW.PrintLast Go.Proofs.YtgpplbaloajgdaaW.PrintMore
attribute [local go_sem] max2_int min2_int max_two min_two max_three min_three max_four min_four   -- for this text's walks alone
set_option linter.unusedVariables false
set_option linter.unusedSimpArgs false

end Go.Proofs.Ytgpplbaloajgdaa.PFnExactPartnerOfFull
