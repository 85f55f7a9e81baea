-- Written by a program of this session (wip/tools/pp.sh) out of the translation; Lean checks it.
import Derived.Test.YtjhfkfiobpddnaaDoorPFnExactCountsOfBeadsx0
import Derived.Test.YtjhfkfiobpddnaaDoorPFnExactCountsOfBeadsx1
import Derived.Test.YtjhfkfiobpddnaaDoorPFnExactCountsOfBeadsx2
namespace Go.Proofs.YtjhfkfiobpddnaaDoor.PFnExactCountsOfBeads
open Go.RowKit Go.Proofs.YtjhfkfiobpddnaaDoorOwn Go.Proofs.YtjhfkfiobpddnaaDoorW.PrintWords Go.Proofs.YtjhfkfiobpddnaaDoorW.PrintLast Go.Proofs.YtjhfkfiobpddnaaDoorW.PrintMore
attribute [local go_sem] max2_int min2_int max_two min_two max_three min_three max_four min_four   -- for this text's walks alone
set_option linter.unusedVariables false
set_option linter.unusedSimpArgs false

end Go.Proofs.YtjhfkfiobpddnaaDoor.PFnExactCountsOfBeads
