-- Of the printed words, what this claim uses (wip/tools/prune.py).
import Derived.Test.YtcecimigkndakabWInv
import Derived.Test.YtcecimigkndakabWFootNe
namespace Go.Proofs.YtcecimigkndakabW.PrintWords
open Go.RowKit
end Go.Proofs.YtcecimigkndakabW.PrintWords
namespace Go.Proofs.YtcecimigkndakabW.PrintLast
section
variable {ops : Array Oper} {a : Act} {o og : Oper} {g : Nat} {t : Tmp} {u : Bool}
end
end Go.Proofs.YtcecimigkndakabW.PrintLast
