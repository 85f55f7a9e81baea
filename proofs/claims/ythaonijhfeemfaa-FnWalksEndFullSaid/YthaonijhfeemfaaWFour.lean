-- Of the printed words, what this claim uses (wip/tools/prune.py).
import Derived.Test.YthaonijhfeemfaaWTab
namespace Go.Proofs.YthaonijhfeemfaaW.fB
section
variable {P : Program} {ops : Array Oper} {Q : Exit → Act → World → Prop} {md : Region.Mode} {S : World → Prop} {ds : List Nat} {T : Bool × List (List Nat × List Nat)}
end
end Go.Proofs.YthaonijhfeemfaaW.fB
