-- Of the printed words, what this claim uses (wip/tools/prune.py).
import Derived.Test.YtgpplbaloajgdabWInv
import Derived.Test.YtgpplbaloajgdabWFootNe
namespace Go.Proofs.YtgpplbaloajgdabW.PrintWords
open Go.RowKit
end Go.Proofs.YtgpplbaloajgdabW.PrintWords
namespace Go.Proofs.YtgpplbaloajgdabW.PrintLast
section
variable {ops : Array Oper} {a : Act} {o og : Oper} {g : Nat} {t : Tmp} {u : Bool}
end
end Go.Proofs.YtgpplbaloajgdabW.PrintLast
