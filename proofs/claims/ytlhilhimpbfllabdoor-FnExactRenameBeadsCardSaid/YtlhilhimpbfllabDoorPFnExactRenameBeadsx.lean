-- Written by a program of this session (wip/tools/pp.sh) out of the translation; Lean checks it.
import Derived.Test.YtlhilhimpbfllabDoorPFnExactRenameBeadsx0
import Derived.Test.YtlhilhimpbfllabDoorPFnExactRenameBeadsx1
import Derived.Test.YtlhilhimpbfllabDoorPFnExactRenameBeadsx2
import Derived.Test.YtlhilhimpbfllabDoorPFnExactRenameBeadsx3
namespace Go.Proofs.YtlhilhimpbfllabDoor.PFnExactRenameBeads
open Go.RowKit Go.Proofs.YtlhilhimpbfllabDoorOwn Go.Proofs.YtlhilhimpbfllabDoorW.PrintWords Go.Proofs.YtlhilhimpbfllabDoorW.PrintLast Go.Proofs.YtlhilhimpbfllabDoorW.PrintMore
attribute [local go_sem] max2_int min2_int max_two min_two max_three min_three max_four min_four   -- for this text's walks alone
set_option linter.unusedVariables false
set_option linter.unusedSimpArgs false

end Go.Proofs.YtlhilhimpbfllabDoor.PFnExactRenameBeads
