/- FirstDesk of the program equals the reference's, in new memory each time; there are no conditions. -/
import Derived.Test.YtkchmffegceplaaPFnExactFirstDeskx1
namespace Go.Proofs.Ytkchmffegceplaa.Pure
open Go.RowKit Go.Proofs.Ytkchmffegceplaa.PFnExactFirstDesk Go.Proofs.YtkchmffegceplaaW.PrintWords Go.Proofs.YtkchmffegceplaaW.PrintLast

theorem FnExactFirstDesk : laws_FnExactFirstDesk.Pure := by
  refine ⟨20, ?_⟩
  decide +kernel

end Go.Proofs.Ytkchmffegceplaa.Pure
