-- Written by a program of this session (wip/tools/pp.sh) out of the translation; Lean checks it.
import Derived.Test.YtgpplbaloajgdaaPFnExactExitOfx0
import Derived.Test.YtgpplbaloajgdaaPFnExactExitOfx1
import Derived.Test.YtgpplbaloajgdaaPFnExactExitOfx2
import Derived.Test.YtgpplbaloajgdaaPFnExactExitOfx3
import Derived.Test.YtgpplbaloajgdaaPFnExactExitOfx4
import Derived.Test.YtgpplbaloajgdaaPFnExactExitOfx5
import Derived.Test.YtgpplbaloajgdaaPFnExactExitOfx6
import Derived.Test.YtgpplbaloajgdaaPFnExactExitOfx7
import Derived.Test.YtgpplbaloajgdaaPFnExactExitOfx8
import Derived.Test.YtgpplbaloajgdaaPFnExactExitOfx9
import Derived.Test.YtgpplbaloajgdaaPFnExactExitOfx10
import Derived.Test.YtgpplbaloajgdaaPFnExactExitOfx11
import Derived.Test.YtgpplbaloajgdaaPFnExactExitOfx12
import Derived.Test.YtgpplbaloajgdaaPFnExactExitOfx13
import Derived.Test.YtgpplbaloajgdaaPFnExactExitOfx14
import Derived.Test.YtgpplbaloajgdaaPFnExactExitOfx15
import Derived.Test.YtgpplbaloajgdaaPFnExactExitOfx16
namespace Go.Proofs.Ytgpplbaloajgdaa.PFnExactExitOf
open Go.RowKit Go.Proofs.YtgpplbaloajgdaaOwn Go.Proofs.YtgpplbaloajgdaaW.PrintWords Go.Proofs.YtgpplbaloajgdaaW.PrintLast Go.Proofs.YtgpplbaloajgdaaW.PrintMore
attribute [local go_sem] max2_int min2_int max_two min_two max_three min_three max_four min_four   -- for this text's walks alone
set_option linter.unusedVariables false
set_option linter.unusedSimpArgs false

end Go.Proofs.Ytgpplbaloajgdaa.PFnExactExitOf
