/- CountsOfBeads of the program returns what the reference's returns, for all texts; there are no conditions. -/
import Derived.Test.YtjhfkfiobpddnaaDoorQFnExactCountsOfBeadsCountsS
import Derived.Test.YtjhfkfiobpddnaaDoorQFnExactCountsOfBeadsCountsI
import Derived.Test.YtjhfkfiobpddnaaDoorQFnExactCountsOfBeadsMarkS
namespace Go.Proofs.YtjhfkfiobpddnaaDoor.Pure
open Go.RowKit Go.Proofs.YtjhfkfiobpddnaaDoor.PFnExactCountsOfBeads Go.Proofs.YtjhfkfiobpddnaaDoorW.PrintWords Go.Proofs.YtjhfkfiobpddnaaDoorW.PrintLast Go.Proofs.YtjhfkfiobpddnaaDoorW.PrintMore Go.Proofs.YtjhfkfiobpddnaaDoor.QFnExactCountsOfBeads
set_option maxRecDepth 100000
theorem FnExactCountsOfBeads : laws_FnExactCountsOfBeads.Pure := by
  intro a0 _
  apply Ev.rounds
  by_cases h : (a0.size : Int) > 1048576
  · exact ev_pos h (Ev.now _)
  have key : ∀ (l : List Int) (b : Bool), l.length ≤ 4 → Ev (fun k => spec_CountsOfBeads.f k a0) (l, b) → Ev (fun k => impl_CountsOfBeads.f k a0) (l, b) → Ev (fun k => laws_FnExactCountsOfBeads.f k a0) true := by
    intro l b hl hs hi
    have he := eqIntS_self l (by omega)
    obtain ⟨l', hm, hh⟩ := mark_held l (by omega)
    refine ev_neg h (Ev.bind hs (Ev.bind hi (Ev.bind he (ev_pos rfl ?_))))
    rw [bne_self_eq_false]
    refine Ev.step (fun f => laws_FnExactCountsOfBeads.j0.eq_2 ..) (ev_neg (by decide) (Ev.bind hm (Ev.bind hh (ev_neg (by omega) (ev_pos rfl ?_)))))
    refine Ev.bind hi (Ev.bind he (ev_pos rfl ?_))
    rw [bne_self_eq_false]
    exact Ev.step (fun f => laws_FnExactCountsOfBeads.j1.eq_2 ..) (ev_neg (by decide) (Ev.bind hh (ev_neg (by omega) (ev_pos rfl (Ev.now _)))))
  cases hn : neckl a0 with
  | false =>
    have e := nlGood_ev a0
    have e2 := isNecklace_ev a0
    rw [hn] at e e2
    exact key [] false (by simp) (Ev.bind e (ev_neg (by decide) (Ev.now _))) (ev_bind0 e2 (ev_neg (by decide) (Ev.now _)))
  | true =>
    have e := nlGood_ev a0
    have e2 := isNecklace_ev a0
    rw [hn] at e e2
    have hb := neckl_beads hn
    have hs := neckl_size hn
    exact key (cntL a0.data.toList) true (by rw [cntL_len]; omega) (Ev.bind e (ev_pos rfl (Ev.bind (nlCounts_ev a0 hb (by omega)) (Ev.now _)))) (ev_bind0 e2 (ev_pos rfl (Ev.bind (counts_ev a0 hb (by omega)) (Ev.now _))))
end Go.Proofs.YtjhfkfiobpddnaaDoor.Pure
