-- Of the printed words, what this claim uses (wip/tools/prune.py).
import Derived.Test.YthaonijhfeemfaaWFootNe
namespace Go.Proofs.YthaonijhfeemfaaW.bU
open Go.RowKit
section
variable {w w' u : World} {m B g : Nat} {o : Obj} {row : Option Nat} {S : Nat → Prop} {a : Addr} {v : Value}
theorem ahY (hq : w.drewN m = w') (h : Kept u w S) : Kept u w' S := by subst hq; exact Kept.drewN h m
end
namespace Kd
section
variable {α : Type} {d : Kd α} {e base n m : Nat} {ok : Nat → Prop} {w w' : World} {v : Value} {A : Option Addr} {xs : List α}
end
end Kd
end Go.Proofs.YthaonijhfeemfaaW.bU
