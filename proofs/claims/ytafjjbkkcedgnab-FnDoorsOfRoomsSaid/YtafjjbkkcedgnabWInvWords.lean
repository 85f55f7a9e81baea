-- Of the printed words, what this claim uses (wip/tools/prune.py).
import Derived.Test.YtafjjbkkcedgnabWInv
import Derived.Test.YtafjjbkkcedgnabWFootNe
namespace Go.Proofs.YtafjjbkkcedgnabW.PrintWords
open Go.RowKit
end Go.Proofs.YtafjjbkkcedgnabW.PrintWords
namespace Go.Proofs.YtafjjbkkcedgnabW.PrintLast
section
variable {ops : Array Oper} {a : Act} {o og : Oper} {g : Nat} {t : Tmp} {u : Bool}
end
end Go.Proofs.YtafjjbkkcedgnabW.PrintLast
