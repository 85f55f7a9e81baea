/- CountSplits of the program returns what the reference's returns, for all arguments; there are no conditions. -/
import Derived.Test.YtamecophbbgefaaDoorQFnExactCountSplitsSplits
namespace Go.Proofs.YtamecophbbgefaaDoor.Pure
open Go.RowKit Go.Proofs.YtamecophbbgefaaDoor.PFnExactCountSplits Go.Proofs.YtamecophbbgefaaDoorW.PrintWords Go.Proofs.YtamecophbbgefaaDoorW.PrintLast Go.Proofs.YtamecophbbgefaaDoorW.PrintMore Go.Proofs.YtamecophbbgefaaDoor.QFnExactCountSplits
set_option maxRecDepth 100000
theorem FnExactCountSplits : laws_FnExactCountSplits.Pure := by
  intro a0 a1 _ _
  apply Ev.rounds
  by_cases h : (a0.size : Int) > 1048576
  · exact ev_pos h (Ev.now _)
  have key : ∀ (l : Int) (b : Bool), Ev (fun k => spec_CountSplits.f k a0 a1) (l, b) → Ev (fun k => impl_CountSplits.f k a0 a1) (l, b) → Ev (fun k => laws_FnExactCountSplits.f k a0 a1) true := by
    intro l b hs hi
    refine ev_neg h (Ev.bind hs (Ev.bind hi (ev_pos rfl (ev_neg ?_ (Ev.now _)))))
    rw [bne_self_eq_false]; decide
  have e := nlGood_ev a0
  have e2 := isNecklace_ev a0
  cases hn : neckl a0 with
  | false =>
    rw [hn] at e e2
    exact key 0 false (Ev.bind e (ev_neg (by decide) (Ev.now _))) (ev_bind0 e2 (ev_neg (by decide) (Ev.now _)))
  | true =>
    rw [hn] at e e2
    have hb := neckl_beads hn
    have hs := neckl_size hn
    by_cases c : 0 ≤ a1 ∧ a1 ≤ 4
    · obtain ⟨m, em⟩ := Int.eq_ofNat_of_zero_le c.1
      subst em
      have h1 := splits_ev a0 hb hs m (by omega) [] 1 (.inl ⟨rfl, rfl⟩) (by omega) (by simp; omega)
      have h2 := fairCuts_ev a0 hb hs m (by omega)
      have e3 : (ch a0.size m 1).map (fun r => ([] : List Int) ++ r) = ch a0.size m 1 := by simp
      rw [e3] at h1
      exact key (((ch a0.size m 1).filter (fairOf a0)).length : Int) true
        (Ev.bind e (ev_pos rfl (ev_bind0 (in_spec2 _ _ _) (ev_pos (decide_eq_true c) (Ev.bind h1 (Ev.now _))))))
        (ev_bind0 e2 (ev_pos rfl (ev_bind0 (in_impl2 _ _ _) (ev_pos (decide_eq_true c) (Ev.bind h2 (Ev.now _))))))
    · exact key 0 false (Ev.bind e (ev_pos rfl (ev_bind0 (in_spec2 _ _ _) (ev_neg (by rw [decide_eq_false c]; decide) (Ev.now _)))))
        (ev_bind0 e2 (ev_pos rfl (ev_bind0 (in_impl2 _ _ _) (ev_neg (by rw [decide_eq_false c]; decide) (Ev.now _)))))
end Go.Proofs.YtamecophbbgefaaDoor.Pure
