-- Written by a program of this session (wip/tools/pp.sh) out of the translation; Lean checks it.
import Derived.Test.YtgpplbaloajgdabPFnExactClosedRoomsx0
import Derived.Test.YtgpplbaloajgdabPFnExactClosedRoomsx1
import Derived.Test.YtgpplbaloajgdabPFnExactClosedRoomsx2
import Derived.Test.YtgpplbaloajgdabPFnExactClosedRoomsx3
import Derived.Test.YtgpplbaloajgdabPFnExactClosedRoomsx4
import Derived.Test.YtgpplbaloajgdabPFnExactClosedRoomsx5
import Derived.Test.YtgpplbaloajgdabPFnExactClosedRoomsx6
import Derived.Test.YtgpplbaloajgdabPFnExactClosedRoomsx7
import Derived.Test.YtgpplbaloajgdabPFnExactClosedRoomsx8
import Derived.Test.YtgpplbaloajgdabPFnExactClosedRoomsx9
import Derived.Test.YtgpplbaloajgdabPFnExactClosedRoomsx10
import Derived.Test.YtgpplbaloajgdabPFnExactClosedRoomsx11
import Derived.Test.YtgpplbaloajgdabPFnExactClosedRoomsx12
import Derived.Test.YtgpplbaloajgdabPFnExactClosedRoomsx13
import Derived.Test.YtgpplbaloajgdabPFnExactClosedRoomsx14
namespace Go.Proofs.Ytgpplbaloajgdab.PFnExactClosedRooms
open Go.RowKit Go.Proofs.YtgpplbaloajgdabOwn Go.Proofs.YtgpplbaloajgdabW.PrintWords Go.Proofs.YtgpplbaloajgdabW.PrintLast Go.Proofs.YtgpplbaloajgdabW.PrintMore
attribute [local go_sem] max2_int min2_int max_two min_two max_three min_three max_four min_four   -- for this text's walks alone
set_option linter.unusedVariables false
set_option linter.unusedSimpArgs false

end Go.Proofs.Ytgpplbaloajgdab.PFnExactClosedRooms
