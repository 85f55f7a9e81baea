-- Written by a program of this session (wip/tools/pp.sh) out of the translation; Lean checks it.
import Derived.Test.YtmbkkhpjcblijaaDoorPFnExactFewestCutsx0
import Derived.Test.YtmbkkhpjcblijaaDoorPFnExactFewestCutsx1
import Derived.Test.YtmbkkhpjcblijaaDoorPFnExactFewestCutsx2
import Derived.Test.YtmbkkhpjcblijaaDoorPFnExactFewestCutsx3
import Derived.Test.YtmbkkhpjcblijaaDoorPFnExactFewestCutsx4
namespace Go.Proofs.YtmbkkhpjcblijaaDoor.PFnExactFewestCuts
open Go.RowKit Go.Proofs.YtmbkkhpjcblijaaDoorOwn Go.Proofs.YtmbkkhpjcblijaaDoorW.PrintWords Go.Proofs.YtmbkkhpjcblijaaDoorW.PrintLast Go.Proofs.YtmbkkhpjcblijaaDoorW.PrintMore
attribute [local go_sem] max2_int min2_int max_two min_two max_three min_three max_four min_four   -- for this text's walks alone
set_option linter.unusedVariables false
set_option linter.unusedSimpArgs false

end Go.Proofs.YtmbkkhpjcblijaaDoor.PFnExactFewestCuts
