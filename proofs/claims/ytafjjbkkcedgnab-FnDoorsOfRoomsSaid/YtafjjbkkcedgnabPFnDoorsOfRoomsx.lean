-- Written by a program of this session (wip/tools/pp.sh) out of the translation; Lean checks it.
import Derived.Test.YtafjjbkkcedgnabPFnDoorsOfRoomsx0
import Derived.Test.YtafjjbkkcedgnabPFnDoorsOfRoomsx1
import Derived.Test.YtafjjbkkcedgnabPFnDoorsOfRoomsx2
import Derived.Test.YtafjjbkkcedgnabPFnDoorsOfRoomsx3
import Derived.Test.YtafjjbkkcedgnabPFnDoorsOfRoomsx4
import Derived.Test.YtafjjbkkcedgnabPFnDoorsOfRoomsx5
import Derived.Test.YtafjjbkkcedgnabPFnDoorsOfRoomsx6
import Derived.Test.YtafjjbkkcedgnabPFnDoorsOfRoomsx7
import Derived.Test.YtafjjbkkcedgnabPFnDoorsOfRoomsx8
import Derived.Test.YtafjjbkkcedgnabPFnDoorsOfRoomsx9
import Derived.Test.YtafjjbkkcedgnabPFnDoorsOfRoomsx10
import Derived.Test.YtafjjbkkcedgnabPFnDoorsOfRoomsx11
import Derived.Test.YtafjjbkkcedgnabPFnDoorsOfRoomsx12
import Derived.Test.YtafjjbkkcedgnabPFnDoorsOfRoomsx13
import Derived.Test.YtafjjbkkcedgnabPFnDoorsOfRoomsx14
import Derived.Test.YtafjjbkkcedgnabPFnDoorsOfRoomsx15
import Derived.Test.YtafjjbkkcedgnabPFnDoorsOfRoomsx16
namespace Go.Proofs.Ytafjjbkkcedgnab.PFnDoorsOfRooms
open Go.RowKit Go.Proofs.YtafjjbkkcedgnabOwn Go.Proofs.YtafjjbkkcedgnabW.PrintWords Go.Proofs.YtafjjbkkcedgnabW.PrintLast Go.Proofs.YtafjjbkkcedgnabW.PrintMore
attribute [local go_sem] max2_int min2_int max_two min_two max_three min_three max_four min_four   -- for this text's walks alone
set_option linter.unusedVariables false
set_option maxHeartbeats 8000000
set_option maxRecDepth 100000
set_option linter.unusedSimpArgs false

end Go.Proofs.Ytafjjbkkcedgnab.PFnDoorsOfRooms
