-- Of the printed words, what this claim uses (wip/tools/prune.py).
import Derived.Test.YtafjjbkkcedgnaaDoorWInv
import Derived.Test.YtafjjbkkcedgnaaDoorWFootNe
namespace Go.Proofs.YtafjjbkkcedgnaaDoorW.PrintWords
open Go.RowKit
end Go.Proofs.YtafjjbkkcedgnaaDoorW.PrintWords
namespace Go.Proofs.YtafjjbkkcedgnaaDoorW.PrintLast
section
variable {ops : Array Oper} {a : Act} {o og : Oper} {g : Nat} {t : Tmp} {u : Bool}
end
end Go.Proofs.YtafjjbkkcedgnaaDoorW.PrintLast
