/- What a region holds may grow on the way: a region walked with more that is kept is walked with less. -/
import Derived.Test.YtlolkkfpfjlhmaaOwn
namespace Go.Proofs.YtlolkkfpfjlhmaaOwn
open Go.RowKit Go.Proofs.YtlolkkfpfjlhmaaW.PrintWords Go.Proofs.YtlolkkfpfjlhmaaW.PrintLast
set_option linter.unusedVariables false
theorem weak_ {P : Program} {md : Region.Mode} {ops : Array Oper} {Q : Exit → Act → World → Prop} {S : World → Prop} (S' : World → Prop) (hSS : ∀ w, S' w → S w) :
    ∀ {fuel : Nat} {l : Array Bool} {a : Act} {w : World}, S' w → (S' w → wpAnyLast P md ops Q S' [] fuel l a w) → wpAnyLast P md ops Q S [] fuel l a w
  | 0, l, a, w, hw, h => h hw
  | fuel + 1, l, a, w, hw, h => ⟨(h hw).1, fun i hi => wpOp_mono (fun a' w' h3 => ⟨fun _ _ => hSS _ (h3.1 (by simp) hw), weak_ S' hSS (h3.1 (by simp) hw) (fun _ => h3.2)⟩) ((h hw).2 i hi)⟩
end Go.Proofs.YtlolkkfpfjlhmaaOwn
