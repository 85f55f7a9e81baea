/- IsNecklace of the program returns what the reference's returns, for all texts; there are no conditions. -/
import Derived.Test.YtkchmffegceplaaDoorQFnExactIsNecklaceBeads
namespace Go.Proofs.YtkchmffegceplaaDoor.Pure
open Go.RowKit Go.Proofs.YtkchmffegceplaaDoor.PFnExactIsNecklace Go.Proofs.YtkchmffegceplaaDoorW.PrintWords Go.Proofs.YtkchmffegceplaaDoorW.PrintLast Go.Proofs.YtkchmffegceplaaDoorW.PrintMore Go.Proofs.YtkchmffegceplaaDoor.QFnExactIsNecklace
theorem FnExactIsNecklace : laws_FnExactIsNecklace.Pure := by
  intro a0 _
  apply Ev.rounds
  unfold laws_FnExactIsNecklace.f
  by_cases h : (a0.size : Int) > 1048576
  · exact ev_pos h (Ev.now _)
  · refine ev_neg h (Ev.bind (Ev.bind (nlGood_ev a0) (Ev.now _)) (ev_bind0 (isNecklace_ev a0) (ev_neg (by simp) (Ev.now _))))
end Go.Proofs.YtkchmffegceplaaDoor.Pure
