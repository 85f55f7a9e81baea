-- Written by a program of this session (wip/tools/pp.sh) out of the translation; Lean checks it.
import Derived.Test.YtamecophbbgefaaPFnExactColourStableWithx0
import Derived.Test.YtamecophbbgefaaPFnExactColourStableWithx1
import Derived.Test.YtamecophbbgefaaPFnExactColourStableWithx2
import Derived.Test.YtamecophbbgefaaPFnExactColourStableWithx3
import Derived.Test.YtamecophbbgefaaPFnExactColourStableWithx4
namespace Go.Proofs.Ytamecophbbgefaa.PFnExactColourStableWith
open Go.RowKit Go.Proofs.YtamecophbbgefaaOwn Go.Proofs.YtamecophbbgefaaW.PrintWords Go.Proofs.YtamecophbbgefaaW.PrintLast Go.Proofs.YtamecophbbgefaaW.PrintMore
attribute [local go_sem] max2_int min2_int max_two min_two max_three min_three max_four min_four   -- for this text's walks alone
set_option linter.unusedVariables false
set_option linter.unusedSimpArgs false

end Go.Proofs.Ytamecophbbgefaa.PFnExactColourStableWith
