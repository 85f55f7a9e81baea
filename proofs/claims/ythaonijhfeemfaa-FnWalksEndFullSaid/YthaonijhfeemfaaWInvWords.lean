-- Of the printed words, what this claim uses (wip/tools/prune.py).
import Derived.Test.YthaonijhfeemfaaWInv
import Derived.Test.YthaonijhfeemfaaWFootNe
namespace Go.Proofs.YthaonijhfeemfaaW.bU
open Go.RowKit
end Go.Proofs.YthaonijhfeemfaaW.bU
namespace Go.Proofs.YthaonijhfeemfaaW.fB
section
variable {ops : Array Oper} {a : Act} {o og : Oper} {g : Nat} {t : Tmp} {u : Bool}
end
end Go.Proofs.YthaonijhfeemfaaW.fB
