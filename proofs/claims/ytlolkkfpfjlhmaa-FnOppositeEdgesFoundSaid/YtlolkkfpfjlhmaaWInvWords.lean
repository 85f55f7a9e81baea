-- Of the printed words, what this claim uses (wip/tools/prune.py).
import Derived.Test.YtlolkkfpfjlhmaaWInv
import Derived.Test.YtlolkkfpfjlhmaaWFootNe
namespace Go.Proofs.YtlolkkfpfjlhmaaW.PrintWords
open Go.RowKit
end Go.Proofs.YtlolkkfpfjlhmaaW.PrintWords
namespace Go.Proofs.YtlolkkfpfjlhmaaW.PrintLast
section
variable {ops : Array Oper} {a : Act} {o og : Oper} {g : Nat} {t : Tmp} {u : Bool}
end
end Go.Proofs.YtlolkkfpfjlhmaaW.PrintLast
