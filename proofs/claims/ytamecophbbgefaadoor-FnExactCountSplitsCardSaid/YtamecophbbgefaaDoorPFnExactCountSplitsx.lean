-- Written by a program of this session (wip/tools/pp.sh) out of the translation; Lean checks it.
import Derived.Test.YtamecophbbgefaaDoorPFnExactCountSplitsx0
import Derived.Test.YtamecophbbgefaaDoorPFnExactCountSplitsx1
import Derived.Test.YtamecophbbgefaaDoorPFnExactCountSplitsx2
import Derived.Test.YtamecophbbgefaaDoorPFnExactCountSplitsx3
import Derived.Test.YtamecophbbgefaaDoorPFnExactCountSplitsx4
namespace Go.Proofs.YtamecophbbgefaaDoor.PFnExactCountSplits
open Go.RowKit Go.Proofs.YtamecophbbgefaaDoorOwn Go.Proofs.YtamecophbbgefaaDoorW.PrintWords Go.Proofs.YtamecophbbgefaaDoorW.PrintLast Go.Proofs.YtamecophbbgefaaDoorW.PrintMore
attribute [local go_sem] max2_int min2_int max_two min_two max_three min_three max_four min_four   -- for this text's walks alone
set_option linter.unusedVariables false
set_option linter.unusedSimpArgs false

end Go.Proofs.YtamecophbbgefaaDoor.PFnExactCountSplits
