-- Of the printed words, what this claim uses (wip/tools/prune.py).
import Derived.Test.YtgpplbaloajgdaaWInv
import Derived.Test.YtgpplbaloajgdaaWFootNe
namespace Go.Proofs.YtgpplbaloajgdaaW.PrintWords
open Go.RowKit
end Go.Proofs.YtgpplbaloajgdaaW.PrintWords
namespace Go.Proofs.YtgpplbaloajgdaaW.PrintLast
section
variable {ops : Array Oper} {a : Act} {o og : Oper} {g : Nat} {t : Tmp} {u : Bool}
end
end Go.Proofs.YtgpplbaloajgdaaW.PrintLast
