-- Written by a program of this session (wip/tools/pp.sh) out of the translation; Lean checks it.
import Derived.Test.YtgpplbaloajgdacPFnExactSquareWalkx0
import Derived.Test.YtgpplbaloajgdacPFnExactSquareWalkx1
import Derived.Test.YtgpplbaloajgdacPFnExactSquareWalkx2
import Derived.Test.YtgpplbaloajgdacPFnExactSquareWalkx3
import Derived.Test.YtgpplbaloajgdacPFnExactSquareWalkx4
import Derived.Test.YtgpplbaloajgdacPFnExactSquareWalkx5
import Derived.Test.YtgpplbaloajgdacPFnExactSquareWalkx6
import Derived.Test.YtgpplbaloajgdacPFnExactSquareWalkx7
import Derived.Test.YtgpplbaloajgdacPFnExactSquareWalkx8
import Derived.Test.YtgpplbaloajgdacPFnExactSquareWalkx9
import Derived.Test.YtgpplbaloajgdacPFnExactSquareWalkx10
import Derived.Test.YtgpplbaloajgdacPFnExactSquareWalkx11
import Derived.Test.YtgpplbaloajgdacPFnExactSquareWalkx12
import Derived.Test.YtgpplbaloajgdacPFnExactSquareWalkx13
namespace Go.Proofs.Ytgpplbaloajgdac.PFnExactSquareWalk
open Go.RowKit Go.Proofs.YtgpplbaloajgdacOwn Go.Proofs.YtgpplbaloajgdacW.PrintWords Go.Proofs.YtgpplbaloajgdacW.PrintLast Go.Proofs.YtgpplbaloajgdacW.PrintMore
attribute [local go_sem] max2_int min2_int max_two min_two max_three min_three max_four min_four   -- for this text's walks alone
set_option linter.unusedVariables false
set_option linter.unusedSimpArgs false

end Go.Proofs.Ytgpplbaloajgdac.PFnExactSquareWalk
