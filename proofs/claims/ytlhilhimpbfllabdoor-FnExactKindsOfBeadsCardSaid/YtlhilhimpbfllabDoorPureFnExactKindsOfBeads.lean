/- KindsOfBeads of the program returns what the reference's returns, for all texts; there are no conditions. -/
import Derived.Test.YtlhilhimpbfllabDoorQFnExactKindsOfBeadsKindsB
namespace Go.Proofs.YtlhilhimpbfllabDoor.Pure
open Go.RowKit Go.Proofs.YtlhilhimpbfllabDoor.PFnExactKindsOfBeads Go.Proofs.YtlhilhimpbfllabDoorW.PrintWords Go.Proofs.YtlhilhimpbfllabDoorW.PrintLast Go.Proofs.YtlhilhimpbfllabDoorW.PrintMore Go.Proofs.YtlhilhimpbfllabDoor.QFnExactKindsOfBeads
set_option maxRecDepth 100000
theorem FnExactKindsOfBeads : laws_FnExactKindsOfBeads.Pure := by
  intro a0 _
  apply Ev.rounds
  by_cases h : (a0.size : Int) > 1048576
  · exact ev_pos h (Ev.now _)
  have key : ∀ (l : Int) (b : Bool), Ev (fun k => spec_KindsOfBeads.f k a0) (l, b) → Ev (fun k => impl_KindsOfBeads.f k a0) (l, b) → Ev (fun k => laws_FnExactKindsOfBeads.f k a0) true := by
    intro l b hs hi
    refine ev_neg h (Ev.bind hs (Ev.bind hi (ev_pos rfl (ev_neg ?_ (Ev.now _)))))
    rw [bne_self_eq_false]; decide
  cases hn : neckl a0 with
  | false =>
    have e := nlGood_ev a0
    have e2 := isNecklace_ev a0
    rw [hn] at e e2
    exact key 0 false (Ev.bind e (ev_neg (by decide) (Ev.now _))) (ev_bind0 e2 (ev_neg (by decide) (Ev.now _)))
  | true =>
    have e := nlGood_ev a0
    have e2 := isNecklace_ev a0
    rw [hn] at e e2
    have hb := neckl_beads hn
    have hs := neckl_size hn
    exact key (kn (cntL a0.data.toList)) true (Ev.bind e (ev_pos rfl (Ev.bind (nlKinds_ev a0 hb (by omega)) (Ev.now _)))) (ev_bind0 e2 (ev_pos rfl (Ev.bind (kinds_ev a0 hb (by omega)) (Ev.now _))))
end Go.Proofs.YtlhilhimpbfllabDoor.Pure
