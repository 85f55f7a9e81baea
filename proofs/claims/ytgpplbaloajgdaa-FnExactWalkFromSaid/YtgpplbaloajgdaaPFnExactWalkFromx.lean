-- Written by a program of this session (wip/tools/pp.sh) out of the translation; Lean checks it.
import Derived.Test.YtgpplbaloajgdaaPFnExactWalkFromx0
import Derived.Test.YtgpplbaloajgdaaPFnExactWalkFromx1
import Derived.Test.YtgpplbaloajgdaaPFnExactWalkFromx2
import Derived.Test.YtgpplbaloajgdaaPFnExactWalkFromx3
import Derived.Test.YtgpplbaloajgdaaPFnExactWalkFromx4
import Derived.Test.YtgpplbaloajgdaaPFnExactWalkFromx5
import Derived.Test.YtgpplbaloajgdaaPFnExactWalkFromx6
import Derived.Test.YtgpplbaloajgdaaPFnExactWalkFromx7
import Derived.Test.YtgpplbaloajgdaaPFnExactWalkFromx8
import Derived.Test.YtgpplbaloajgdaaPFnExactWalkFromx9
import Derived.Test.YtgpplbaloajgdaaPFnExactWalkFromx10
import Derived.Test.YtgpplbaloajgdaaPFnExactWalkFromx11
import Derived.Test.YtgpplbaloajgdaaPFnExactWalkFromx12
import Derived.Test.YtgpplbaloajgdaaPFnExactWalkFromx13
import Derived.Test.YtgpplbaloajgdaaPFnExactWalkFromx14
import Derived.Test.YtgpplbaloajgdaaPFnExactWalkFromx15
import Derived.Test.YtgpplbaloajgdaaPFnExactWalkFromx16
namespace Go.Proofs.Ytgpplbaloajgdaa.PFnExactWalkFrom
open Go.RowKit Go.Proofs.YtgpplbaloajgdaaOwn Go.Proofs.YtgpplbaloajgdaaW.PrintWords Go.Proofs.YtgpplbaloajgdaaW.PrintLast Go.Proofs.YtgpplbaloajgdaaW.PrintMore
attribute [local go_sem] max2_int min2_int max_two min_two max_three min_three max_four min_four   -- for this text's walks alone
set_option linter.unusedVariables false
set_option linter.unusedSimpArgs false

end Go.Proofs.Ytgpplbaloajgdaa.PFnExactWalkFrom
