-- Of the printed words, what this claim uses (wip/tools/prune.py).
import Derived.Test.YthaonijhfeemfaaWWords
import Derived.Laws.StructEq
namespace Go.Proofs.YthaonijhfeemfaaW.bU
open Go.RowKit
section
variable {P : Program} {d : Nat} {xs ys : Array Value} {f : Field} {fs : List Field} {a b : Value} {r s : Bool} {w : World}
end
end Go.Proofs.YthaonijhfeemfaaW.bU
