-- Written by a program of this session (wip/tools/pp.sh) out of the translation; Lean checks it.
import Derived.Test.YtgpplbaloajgdaaPFnExactFindFullx0
import Derived.Test.YtgpplbaloajgdaaPFnExactFindFullx1
import Derived.Test.YtgpplbaloajgdaaPFnExactFindFullx2
import Derived.Test.YtgpplbaloajgdaaPFnExactFindFullx3
import Derived.Test.YtgpplbaloajgdaaPFnExactFindFullx4
import Derived.Test.YtgpplbaloajgdaaPFnExactFindFullx5
import Derived.Test.YtgpplbaloajgdaaPFnExactFindFullx6
import Derived.Test.YtgpplbaloajgdaaPFnExactFindFullx7
import Derived.Test.YtgpplbaloajgdaaPFnExactFindFullx8
import Derived.Test.YtgpplbaloajgdaaPFnExactFindFullx9
import Derived.Test.YtgpplbaloajgdaaPFnExactFindFullx10
import Derived.Test.YtgpplbaloajgdaaPFnExactFindFullx11
import Derived.Test.YtgpplbaloajgdaaPFnExactFindFullx12
import Derived.Test.YtgpplbaloajgdaaPFnExactFindFullx13
import Derived.Test.YtgpplbaloajgdaaPFnExactFindFullx14
namespace Go.Proofs.Ytgpplbaloajgdaa.PFnExactFindFull
open Go.RowKit Go.Proofs.YtgpplbaloajgdaaOwn Go.Proofs.YtgpplbaloajgdaaW.PrintWords Go.Proofs.YtgpplbaloajgdaaW.PrintLast Go.Proofs.YtgpplbaloajgdaaW.PrintMore
attribute [local go_sem] max2_int min2_int max_two min_two max_three min_three max_four min_four   -- for this text's walks alone
set_option linter.unusedVariables false
set_option linter.unusedSimpArgs false

end Go.Proofs.Ytgpplbaloajgdaa.PFnExactFindFull
