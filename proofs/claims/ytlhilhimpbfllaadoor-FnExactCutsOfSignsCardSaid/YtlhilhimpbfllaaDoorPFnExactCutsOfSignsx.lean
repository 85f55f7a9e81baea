-- Written by a program of this session (wip/tools/pp.sh) out of the translation; Lean checks it.
import Derived.Test.YtlhilhimpbfllaaDoorPFnExactCutsOfSignsx0
import Derived.Test.YtlhilhimpbfllaaDoorPFnExactCutsOfSignsx1
import Derived.Test.YtlhilhimpbfllaaDoorPFnExactCutsOfSignsx2
import Derived.Test.YtlhilhimpbfllaaDoorPFnExactCutsOfSignsx3
import Derived.Test.YtlhilhimpbfllaaDoorPFnExactCutsOfSignsx4
namespace Go.Proofs.YtlhilhimpbfllaaDoor.PFnExactCutsOfSigns
open Go.RowKit Go.Proofs.YtlhilhimpbfllaaDoorOwn Go.Proofs.YtlhilhimpbfllaaDoorW.PrintWords Go.Proofs.YtlhilhimpbfllaaDoorW.PrintLast Go.Proofs.YtlhilhimpbfllaaDoorW.PrintMore
attribute [local go_sem] max2_int min2_int max_two min_two max_three min_three max_four min_four   -- for this text's walks alone
set_option linter.unusedVariables false
set_option linter.unusedSimpArgs false

end Go.Proofs.YtlhilhimpbfllaaDoor.PFnExactCutsOfSigns
