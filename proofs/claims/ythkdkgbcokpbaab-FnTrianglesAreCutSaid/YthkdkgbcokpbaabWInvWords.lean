-- Of the printed words, what this claim uses (wip/tools/prune.py).
import Derived.Test.YthkdkgbcokpbaabWInv
import Derived.Test.YthkdkgbcokpbaabWFootNe
namespace Go.Proofs.YthkdkgbcokpbaabW.PrintWords
open Go.RowKit
end Go.Proofs.YthkdkgbcokpbaabW.PrintWords
namespace Go.Proofs.YthkdkgbcokpbaabW.PrintLast
section
variable {ops : Array Oper} {a : Act} {o og : Oper} {g : Nat} {t : Tmp} {u : Bool}
end
end Go.Proofs.YthkdkgbcokpbaabW.PrintLast
