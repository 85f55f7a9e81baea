-- Written by a program of this session (wip/tools/pp.sh) out of the translation; Lean checks it.
import Derived.Test.YthkdkgbcokpbaabPFnTrianglesAreCutx0
import Derived.Test.YthkdkgbcokpbaabPFnTrianglesAreCutx1
import Derived.Test.YthkdkgbcokpbaabPFnTrianglesAreCutx2
import Derived.Test.YthkdkgbcokpbaabPFnTrianglesAreCutx3
import Derived.Test.YthkdkgbcokpbaabPFnTrianglesAreCutx4
import Derived.Test.YthkdkgbcokpbaabPFnTrianglesAreCutx5
import Derived.Test.YthkdkgbcokpbaabPFnTrianglesAreCutx6
import Derived.Test.YthkdkgbcokpbaabPFnTrianglesAreCutx7
import Derived.Test.YthkdkgbcokpbaabPFnTrianglesAreCutx8
import Derived.Test.YthkdkgbcokpbaabPFnTrianglesAreCutx9
import Derived.Test.YthkdkgbcokpbaabPFnTrianglesAreCutx10
import Derived.Test.YthkdkgbcokpbaabPFnTrianglesAreCutx11
namespace Go.Proofs.Ythkdkgbcokpbaab.PFnTrianglesAreCut
open Go.RowKit Go.Proofs.YthkdkgbcokpbaabOwn Go.Proofs.YthkdkgbcokpbaabW.PrintWords Go.Proofs.YthkdkgbcokpbaabW.PrintLast Go.Proofs.YthkdkgbcokpbaabW.PrintMore
attribute [local go_sem] max2_int min2_int max_two min_two max_three min_three max_four min_four   -- for this text's walks alone
set_option linter.unusedVariables false
set_option maxHeartbeats 8000000
set_option maxRecDepth 100000
set_option linter.unusedSimpArgs false

end Go.Proofs.Ythkdkgbcokpbaab.PFnTrianglesAreCut
