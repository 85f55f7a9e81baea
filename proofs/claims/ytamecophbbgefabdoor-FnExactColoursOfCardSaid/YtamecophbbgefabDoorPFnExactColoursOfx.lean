-- Written by a program of this session (wip/tools/pp.sh) out of the translation; Lean checks it.
import Derived.Test.YtamecophbbgefabDoorPFnExactColoursOfx0
import Derived.Test.YtamecophbbgefabDoorPFnExactColoursOfx1
import Derived.Test.YtamecophbbgefabDoorPFnExactColoursOfx2
namespace Go.Proofs.YtamecophbbgefabDoor.PFnExactColoursOf
open Go.RowKit Go.Proofs.YtamecophbbgefabDoorOwn Go.Proofs.YtamecophbbgefabDoorW.PrintWords Go.Proofs.YtamecophbbgefabDoorW.PrintLast Go.Proofs.YtamecophbbgefabDoorW.PrintMore
attribute [local go_sem] max2_int min2_int max_two min_two max_three min_three max_four min_four   -- for this text's walks alone
set_option linter.unusedVariables false
set_option linter.unusedSimpArgs false

end Go.Proofs.YtamecophbbgefabDoor.PFnExactColoursOf
