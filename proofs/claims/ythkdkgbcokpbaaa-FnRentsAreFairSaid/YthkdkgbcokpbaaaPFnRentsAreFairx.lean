-- Written by a program of this session (wip/tools/pp.sh) out of the translation; Lean checks it.
import Derived.Test.YthkdkgbcokpbaaaPFnRentsAreFairx0
import Derived.Test.YthkdkgbcokpbaaaPFnRentsAreFairx1
import Derived.Test.YthkdkgbcokpbaaaPFnRentsAreFairx2
import Derived.Test.YthkdkgbcokpbaaaPFnRentsAreFairx3
import Derived.Test.YthkdkgbcokpbaaaPFnRentsAreFairx4
import Derived.Test.YthkdkgbcokpbaaaPFnRentsAreFairx5
import Derived.Test.YthkdkgbcokpbaaaPFnRentsAreFairx6
import Derived.Test.YthkdkgbcokpbaaaPFnRentsAreFairx7
import Derived.Test.YthkdkgbcokpbaaaPFnRentsAreFairx8
import Derived.Test.YthkdkgbcokpbaaaPFnRentsAreFairx9
import Derived.Test.YthkdkgbcokpbaaaPFnRentsAreFairx10
import Derived.Test.YthkdkgbcokpbaaaPFnRentsAreFairx11
import Derived.Test.YthkdkgbcokpbaaaPFnRentsAreFairx12
namespace Go.Proofs.Ythkdkgbcokpbaaa.PFnRentsAreFair
open Go.RowKit Go.Proofs.YthkdkgbcokpbaaaOwn Go.Proofs.YthkdkgbcokpbaaaW.PrintWords Go.Proofs.YthkdkgbcokpbaaaW.PrintLast Go.Proofs.YthkdkgbcokpbaaaW.PrintMore
attribute [local go_sem] max2_int min2_int max_two min_two max_three min_three max_four min_four   -- for this text's walks alone
set_option linter.unusedVariables false
set_option maxHeartbeats 8000000
set_option maxRecDepth 100000
set_option linter.unusedSimpArgs false

end Go.Proofs.Ythkdkgbcokpbaaa.PFnRentsAreFair
