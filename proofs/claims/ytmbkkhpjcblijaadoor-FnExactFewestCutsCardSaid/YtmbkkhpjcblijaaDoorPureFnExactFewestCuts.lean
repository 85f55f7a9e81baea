/- FewestCuts of the program returns what the reference's returns, for all arguments; there are no conditions. -/
import Derived.Test.YtmbkkhpjcblijaaDoorQFnExactFewestCutsLeast
namespace Go.Proofs.YtmbkkhpjcblijaaDoor.Pure
open Go.RowKit Go.Proofs.YtmbkkhpjcblijaaDoor.PFnExactFewestCuts Go.Proofs.YtmbkkhpjcblijaaDoorW.PrintWords Go.Proofs.YtmbkkhpjcblijaaDoorW.PrintLast Go.Proofs.YtmbkkhpjcblijaaDoorW.PrintMore Go.Proofs.YtmbkkhpjcblijaaDoor.QFnExactFewestCuts
set_option maxRecDepth 100000
theorem FnExactFewestCuts : laws_FnExactFewestCuts.Pure := by
  intro a0 _
  apply Ev.rounds
  by_cases h : (a0.size : Int) > 1048576
  · exact ev_pos h (Ev.now _)
  have key : ∀ (l : Int) (b : Bool), Ev (fun k => spec_FewestCuts.f k a0) (l, b) → Ev (fun k => impl_FewestCuts.f k a0) (l, b) → Ev (fun k => laws_FnExactFewestCuts.f k a0) true := by
    intro l b hs hi
    refine ev_neg h (Ev.bind hs (Ev.bind hi (ev_pos rfl (ev_neg ?_ (Ev.now _)))))
    rw [bne_self_eq_false]; decide
  have e := nlGood_ev a0
  have e2 := isNecklace_ev a0
  cases hn : neckl a0 with
  | false =>
    rw [hn] at e e2
    exact key 0 false (Ev.bind e (ev_neg (by decide) (Ev.now _))) (ev_bind0 e2 (ev_neg (by decide) (Ev.now _)))
  | true =>
    rw [hn] at e e2
    have hb := neckl_beads hn
    have hs := neckl_size hn
    have hev := nlEven_ev a0 hb hs
    have hls := leastSplit_ev a0 hb hs
    cases he : evens a0.data.toList with
    | false =>
      rw [he] at hev
      rw [fl_none a0 he] at hls
      exact key 0 false (Ev.bind e (ev_pos rfl (Ev.bind hev (ev_neg (by decide) (Ev.now _))))) (ev_bind0 e2 (ev_pos rfl (Ev.bind hls (Ev.now _))))
    | true =>
      rw [he] at hev
      obtain ⟨r, hr⟩ := fl_some a0 hb hs he
      have hfs := first_loop a0 hb hs r 5 0 rfl hr
      rw [hr] at hls
      exact key (r.length : Int) true (Ev.bind e (ev_pos rfl (Ev.bind hev (ev_pos rfl (Ev.bind hfs (Ev.now _)))))) (ev_bind0 e2 (ev_pos rfl (Ev.bind hls (Ev.now _))))
end Go.Proofs.YtmbkkhpjcblijaaDoor.Pure
