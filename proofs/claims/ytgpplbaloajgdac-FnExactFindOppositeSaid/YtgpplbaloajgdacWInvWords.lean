-- Of the printed words, what this claim uses (wip/tools/prune.py).
import Derived.Test.YtgpplbaloajgdacWInv
import Derived.Test.YtgpplbaloajgdacWFootNe
namespace Go.Proofs.YtgpplbaloajgdacW.PrintWords
open Go.RowKit
end Go.Proofs.YtgpplbaloajgdacW.PrintWords
namespace Go.Proofs.YtgpplbaloajgdacW.PrintLast
section
variable {ops : Array Oper} {a : Act} {o og : Oper} {g : Nat} {t : Tmp} {u : Bool}
end
end Go.Proofs.YtgpplbaloajgdacW.PrintLast
