-- Written by a program of this session (wip/tools/pp.sh) out of the translation; Lean checks it.
import Derived.Test.YtmbkkhpjcblijaaDoorPFnExactFewestForThreex0
import Derived.Test.YtmbkkhpjcblijaaDoorPFnExactFewestForThreex1
import Derived.Test.YtmbkkhpjcblijaaDoorPFnExactFewestForThreex2
namespace Go.Proofs.YtmbkkhpjcblijaaDoor.PFnExactFewestForThree
open Go.RowKit Go.Proofs.YtmbkkhpjcblijaaDoorOwn Go.Proofs.YtmbkkhpjcblijaaDoorW.PrintWords Go.Proofs.YtmbkkhpjcblijaaDoorW.PrintLast Go.Proofs.YtmbkkhpjcblijaaDoorW.PrintMore
attribute [local go_sem] max2_int min2_int max_two min_two max_three min_three max_four min_four   -- for this text's walks alone
set_option linter.unusedVariables false
set_option linter.unusedSimpArgs false

end Go.Proofs.YtmbkkhpjcblijaaDoor.PFnExactFewestForThree
