-- Written by a program of this session (wip/tools/pp.sh) out of the translation; Lean checks it.
import Derived.Test.YtkchmffegceplaaPFnExactCellsWithx0
import Derived.Test.YtkchmffegceplaaPFnExactCellsWithx1
import Derived.Test.YtkchmffegceplaaPFnExactCellsWithx2
import Derived.Test.YtkchmffegceplaaPFnExactCellsWithx3
import Derived.Test.YtkchmffegceplaaPFnExactCellsWithx4
import Derived.Test.YtkchmffegceplaaPFnExactCellsWithx5
namespace Go.Proofs.Ytkchmffegceplaa.PFnExactCellsWith
open Go.RowKit Go.Proofs.YtkchmffegceplaaOwn Go.Proofs.YtkchmffegceplaaW.PrintWords Go.Proofs.YtkchmffegceplaaW.PrintLast Go.Proofs.YtkchmffegceplaaW.PrintMore
attribute [local go_sem] max2_int min2_int max_two min_two max_three min_three max_four min_four   -- for this text's walks alone
set_option linter.unusedVariables false
set_option linter.unusedSimpArgs false

end Go.Proofs.Ytkchmffegceplaa.PFnExactCellsWith
