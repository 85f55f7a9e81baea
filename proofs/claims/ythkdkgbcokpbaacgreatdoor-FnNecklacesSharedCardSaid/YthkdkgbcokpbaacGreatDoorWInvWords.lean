-- Of the printed words, what this claim uses (wip/tools/prune.py).
import Derived.Test.YthkdkgbcokpbaacGreatDoorWInv
import Derived.Test.YthkdkgbcokpbaacGreatDoorWFootNe
namespace Go.Proofs.YthkdkgbcokpbaacGreatDoorW.PrintWords
open Go.RowKit
end Go.Proofs.YthkdkgbcokpbaacGreatDoorW.PrintWords
namespace Go.Proofs.YthkdkgbcokpbaacGreatDoorW.PrintLast
section
variable {ops : Array Oper} {a : Act} {o og : Oper} {g : Nat} {t : Tmp} {u : Bool}
end
end Go.Proofs.YthkdkgbcokpbaacGreatDoorW.PrintLast
