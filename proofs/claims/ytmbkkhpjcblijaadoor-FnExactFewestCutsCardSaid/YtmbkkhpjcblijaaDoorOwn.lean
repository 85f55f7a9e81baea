/- Lemmas of this session beside the print's words: a variable in memory read as a row of one element. -/
import Derived.Test.YtmbkkhpjcblijaaDoorWMore
import Derived.Test.YtmbkkhpjcblijaaDoorWWords
import Derived.Test.YtmbkkhpjcblijaaDoorWLast
namespace Go.Proofs.YtmbkkhpjcblijaaDoorOwn
open Go.RowKit Go.Proofs.YtmbkkhpjcblijaaDoorW.PrintWords Go.Proofs.YtmbkkhpjcblijaaDoorW.PrintLast
namespace Kd
theorem C_box {α : Type} (d : Kd α) {w : World} {g : Nat} {t : TypeId} {cs : Array Value} {x : α} (h : w.heap[g]? = some (.cells cs t (0, 0))) (hk : d.K w x cs.toList) :
    d.C w (some ⟨g, 0, none⟩) [x].length [x] := by
  refine ⟨rfl, by simp, fun _ => ⟨_, rfl, fun j p hj => ?_⟩⟩
  have hj0 : j = 0 := by
    have := (List.getElem?_eq_some_iff.1 hj).1
    simpa using this
  subst hj0
  have hp : x = p := by simpa using hj
  subst hp
  refine ⟨cs.toList, d.K_len hk, hk, fun i u hu => ?_⟩
  have e : (Addr.add ⟨g, 0, none⟩ (0 * d.sz + i)) = ⟨g, i, none⟩ := by
    rw [add_at]; simp
  rw [e, blk_cell h i]
  simpa using hu
end Kd
end Go.Proofs.YtmbkkhpjcblijaaDoorOwn
