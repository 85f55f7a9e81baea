-- Written by a program of this session (wip/tools/pp.sh) out of the translation; Lean checks it.
import Derived.Test.YtlhilhimpbfllaaDoorPFnExactIsFairSplitx0
import Derived.Test.YtlhilhimpbfllaaDoorPFnExactIsFairSplitx1
import Derived.Test.YtlhilhimpbfllaaDoorPFnExactIsFairSplitx2
import Derived.Test.YtlhilhimpbfllaaDoorPFnExactIsFairSplitx3
import Derived.Test.YtlhilhimpbfllaaDoorPFnExactIsFairSplitx4
namespace Go.Proofs.YtlhilhimpbfllaaDoor.PFnExactIsFairSplit
open Go.RowKit Go.Proofs.YtlhilhimpbfllaaDoorOwn Go.Proofs.YtlhilhimpbfllaaDoorW.PrintWords Go.Proofs.YtlhilhimpbfllaaDoorW.PrintLast Go.Proofs.YtlhilhimpbfllaaDoorW.PrintMore
attribute [local go_sem] max2_int min2_int max_two min_two max_three min_three max_four min_four   -- for this text's walks alone
set_option linter.unusedVariables false
set_option linter.unusedSimpArgs false

end Go.Proofs.YtlhilhimpbfllaaDoor.PFnExactIsFairSplit
