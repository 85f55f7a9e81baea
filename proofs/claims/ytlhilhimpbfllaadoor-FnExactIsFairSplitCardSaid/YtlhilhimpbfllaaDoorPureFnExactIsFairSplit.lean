/- IsFairSplit of the program returns what the reference's returns, for all texts and lists; there are no conditions. -/
import Derived.Test.YtlhilhimpbfllaaDoorQFnExactIsFairSplitFair
namespace Go.Proofs.YtlhilhimpbfllaaDoor.Pure
open Go.RowKit Go.Proofs.YtlhilhimpbfllaaDoor.PFnExactIsFairSplit Go.Proofs.YtlhilhimpbfllaaDoorW.PrintWords Go.Proofs.YtlhilhimpbfllaaDoorW.PrintLast Go.Proofs.YtlhilhimpbfllaaDoorW.PrintMore Go.Proofs.YtlhilhimpbfllaaDoor.QFnExactIsFairSplit
set_option maxRecDepth 100000
theorem FnExactIsFairSplit : laws_FnExactIsFairSplit.Pure := by
  intro a0 l1 _ _ _ _
  apply Ev.rounds
  by_cases h : (a0.size : Int) > 1048576
  · exact ev_pos h (Ev.now _)
  by_cases h2 : (l1.length : Int) > 1048576
  · exact ev_neg h (ev_pos h2 (Ev.now _))
  have hl : l1.length ≤ 1048576 := by omega
  have key : ∀ (p : Bool × Bool), Ev (fun k => spec_IsFairSplit.f k a0 l1) p → Ev (fun k => impl_IsFairSplit.f k a0 l1) p → Ev (fun k => laws_FnExactIsFairSplit.f k a0 l1) true := by
    intro p hs hi
    have hc := toIntS_ev l1 hl
    refine ev_neg h (ev_neg h2 (Ev.bind hc (Ev.bind hs (Ev.bind hc (Ev.bind hi (ev_neg (by simp) ?_))))))
    rw [bne_self_eq_false]
    exact Ev.step (fun f => laws_FnExactIsFairSplit.j0.eq_2 ..) (ev_neg (by decide) (Ev.bind hc (Ev.bind (eqIntS_self l1 (by omega)) (ev_pos rfl (Ev.now _)))))
  have e1 := nlCuts_ev a0 l1 hl
  have e2 := areCuts_ev a0 l1 hl
  cases hn : cutsOf a0 l1 with
  | false =>
    rw [hn] at e1 e2
    exact key _ (Ev.bind e1 (ev_neg (by decide) (Ev.now _))) (Ev.bind e2 (ev_neg (by decide) (Ev.now _)))
  | true =>
    rw [hn] at e1 e2
    have hk : neckl a0 = true := (Bool.and_eq_true_iff.1 hn).1
    have hb := neckl_beads hk
    have hs := neckl_size hk
    exact key _ (Ev.bind e1 (ev_pos rfl (Ev.bind (nlFair_ev a0 hb hs l1 hl) (Ev.now _)))) (Ev.bind e2 (ev_pos rfl (Ev.bind (isFair_ev a0 hb hs l1 hl) (Ev.now _))))
end Go.Proofs.YtlhilhimpbfllaaDoor.Pure
