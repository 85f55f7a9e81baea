-- Of the printed words, what this claim uses (wip/tools/prune.py).
import Derived.Test.YthkdkgbcokpbaaaWInv
import Derived.Test.YthkdkgbcokpbaaaWFootNe
namespace Go.Proofs.YthkdkgbcokpbaaaW.PrintWords
open Go.RowKit
end Go.Proofs.YthkdkgbcokpbaaaW.PrintWords
namespace Go.Proofs.YthkdkgbcokpbaaaW.PrintLast
section
variable {ops : Array Oper} {a : Act} {o og : Oper} {g : Nat} {t : Tmp} {u : Bool}
end
end Go.Proofs.YthkdkgbcokpbaaaW.PrintLast
