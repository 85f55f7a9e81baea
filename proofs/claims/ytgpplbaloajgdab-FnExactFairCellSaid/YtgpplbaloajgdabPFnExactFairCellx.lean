-- Written by a program of this session (wip/tools/pp.sh) out of the translation; Lean checks it.
import Derived.Test.YtgpplbaloajgdabPFnExactFairCellx0
import Derived.Test.YtgpplbaloajgdabPFnExactFairCellx1
import Derived.Test.YtgpplbaloajgdabPFnExactFairCellx2
import Derived.Test.YtgpplbaloajgdabPFnExactFairCellx3
import Derived.Test.YtgpplbaloajgdabPFnExactFairCellx4
import Derived.Test.YtgpplbaloajgdabPFnExactFairCellx5
import Derived.Test.YtgpplbaloajgdabPFnExactFairCellx6
import Derived.Test.YtgpplbaloajgdabPFnExactFairCellx7
import Derived.Test.YtgpplbaloajgdabPFnExactFairCellx8
import Derived.Test.YtgpplbaloajgdabPFnExactFairCellx9
import Derived.Test.YtgpplbaloajgdabPFnExactFairCellx10
import Derived.Test.YtgpplbaloajgdabPFnExactFairCellx11
import Derived.Test.YtgpplbaloajgdabPFnExactFairCellx12
import Derived.Test.YtgpplbaloajgdabPFnExactFairCellx13
import Derived.Test.YtgpplbaloajgdabPFnExactFairCellx14
import Derived.Test.YtgpplbaloajgdabPFnExactFairCellx15
import Derived.Test.YtgpplbaloajgdabPFnExactFairCellx16
import Derived.Test.YtgpplbaloajgdabPFnExactFairCellx17
namespace Go.Proofs.Ytgpplbaloajgdab.PFnExactFairCell
open Go.RowKit Go.Proofs.YtgpplbaloajgdabOwn Go.Proofs.YtgpplbaloajgdabW.PrintWords Go.Proofs.YtgpplbaloajgdabW.PrintLast Go.Proofs.YtgpplbaloajgdabW.PrintMore
attribute [local go_sem] max2_int min2_int max_two min_two max_three min_three max_four min_four   -- for this text's walks alone
set_option linter.unusedVariables false
set_option maxHeartbeats 8000000
set_option maxRecDepth 100000
set_option linter.unusedSimpArgs false

end Go.Proofs.Ytgpplbaloajgdab.PFnExactFairCell
