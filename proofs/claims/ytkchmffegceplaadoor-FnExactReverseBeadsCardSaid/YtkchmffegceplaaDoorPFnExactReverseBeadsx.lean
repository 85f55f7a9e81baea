-- Written by a program of this session (wip/tools/pp.sh) out of the translation; Lean checks it.
import Derived.Test.YtkchmffegceplaaDoorPFnExactReverseBeadsx0
import Derived.Test.YtkchmffegceplaaDoorPFnExactReverseBeadsx1
namespace Go.Proofs.YtkchmffegceplaaDoor.PFnExactReverseBeads
open Go.RowKit Go.Proofs.YtkchmffegceplaaDoorOwn Go.Proofs.YtkchmffegceplaaDoorW.PrintWords Go.Proofs.YtkchmffegceplaaDoorW.PrintLast Go.Proofs.YtkchmffegceplaaDoorW.PrintMore
attribute [local go_sem] max2_int min2_int max_two min_two max_three min_three max_four min_four   -- for this text's walks alone
set_option linter.unusedVariables false
set_option linter.unusedSimpArgs false

end Go.Proofs.YtkchmffegceplaaDoor.PFnExactReverseBeads
