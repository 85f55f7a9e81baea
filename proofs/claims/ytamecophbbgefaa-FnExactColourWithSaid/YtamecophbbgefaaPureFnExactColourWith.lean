/- ColourWith of the program returns what the reference's returns, for all arguments; there are no conditions. -/
import Derived.Test.YtamecophbbgefaaQFnExactColourWithSets
import Derived.Test.YtamecophbbgefaaQFnExactColourWithMarkS
import Derived.Test.YtamecophbbgefaaQFnExactColourWithEqS
namespace Go.Proofs.Ytamecophbbgefaa.Pure
open Go.RowKit Go.Proofs.YtamecophbbgefaaOwn Go.Proofs.Ytamecophbbgefaa.PFnExactColourWith Go.Proofs.YtamecophbbgefaaW.PrintWords Go.Proofs.YtamecophbbgefaaW.PrintLast Go.Proofs.YtamecophbbgefaaW.PrintMore Go.Proofs.Ytamecophbbgefaa.QFnExactColourWith
set_option maxRecDepth 100000
theorem FnExactColourWith : laws_FnExactColourWith.Pure := by
  intro a0 a1 a2 _ _ _
  apply Ev.rounds
  have key : ∀ (l : List Int) (b : Bool), l.length ≤ 1000 → Ev (fun k => spec_ColourWith.f k a0 a1 a2) (l, b) → Ev (fun k => impl_ColourWith.f k a0 a1 a2) (l, b) → Ev (fun k => laws_FnExactColourWith.f k a0 a1 a2) true := by
    intro l b hl hs hi
    have he := eqIntS_self l (by omega)
    obtain ⟨l', hm, hh⟩ := mark_held l (by omega)
    refine Ev.bind hs (Ev.bind hi (Ev.bind he (ev_pos rfl ?_)))
    rw [bne_self_eq_false]
    refine Ev.step (fun f => laws_FnExactColourWith.j0.eq_2 ..) (ev_neg (by decide) (Ev.bind hm (Ev.bind hh (ev_neg (by omega) (ev_pos rfl ?_)))))
    refine Ev.bind hi (Ev.bind he (ev_pos rfl ?_))
    rw [bne_self_eq_false]
    exact Ev.step (fun f => laws_FnExactColourWith.j1.eq_2 ..) (ev_neg (by decide) (Ev.bind hh (ev_neg (by omega) (ev_pos rfl (Ev.now _)))))
  have badS : Ev (fun k => spec_ColourWith.j0 k a0 a1 a2 true) ([], false) := Ev.step (fun f => spec_ColourWith.j0.eq_2 ..) (ev_pos rfl (Ev.now _))
  have badI : Ev (fun k => impl_ColourWith.j0 k a0 a1 a2 true) ([], false) := Ev.step (fun f => impl_ColourWith.j0.eq_2 ..) (ev_pos rfl (Ev.now _))
  cases hg : items a0 a1 with
  | false => exact key [] false (by simp) (ev_bind0 (given_eq a0 a1) (ev_neg (by rw [hg]; decide) badS)) (ev_bind0 (items_eq a0 a1) (ev_neg (by rw [hg]; decide) badI))
  | true =>
    by_cases h6 : a0 > 6
    · exact key [] false (by simp) (ev_bind0 (given_eq a0 a1) (ev_pos hg (ev_pos h6 badS))) (ev_bind0 (items_eq a0 a1) (ev_pos hg (ev_pos h6 badI)))
    · by_cases hc : 1 ≤ a2 ∧ a2 ≤ 8
      · have hn : 1 ≤ a0 := by
          unfold items at hg
          exact (of_decide_eq_true (Bool.and_eq_true_iff.1 hg).1).1
        obtain ⟨n, en⟩ := Int.eq_ofNat_of_zero_le (show 0 ≤ a0 by omega)
        obtain ⟨m, em⟩ := Int.eq_ofNat_of_zero_le (show 0 ≤ a2 by omega)
        subst en em
        have hl := setL_len a1 (show n < 9 by omega)
        have h1 := knSets_ev n a1 (by omega)
        have h2 := setsOf_ev n a1 (by omega)
        have h3 := kn_start (setL n a1) m (by omega) (by omega)
        have h4 := coloured_eq (setL n a1) m (by omega) (by omega)
        have ht := told_len (setL n a1) (m : Int)
        refine key (told (colG (setL n a1) (m : Int) (setL n a1).length [] 0)).1 (told (colG (setL n a1) (m : Int) (setL n a1).length [] 0)).2 (by omega)
          (ev_bind0 (given_eq _ _) (ev_pos hg (ev_neg h6 (ev_bind0 (in_spec _ _ _) ?_)))) (ev_bind0 (items_eq _ _) (ev_pos hg (ev_neg h6 (ev_bind0 (in_impl _ _ _) ?_))))
        · rw [decide_eq_true hc]
          exact Ev.step (fun f => spec_ColourWith.j0.eq_2 ..) (ev_neg (by decide) (Ev.bind h1 (Ev.bind h3 (Ev.now _))))
        · rw [decide_eq_true hc]
          exact Ev.step (fun f => impl_ColourWith.j0.eq_2 ..) (ev_neg (by decide) (Ev.bind h2 (ev_bind0 h4 (Ev.now _))))
      · refine key [] false (by simp) (ev_bind0 (given_eq a0 a1) (ev_pos hg (ev_neg h6 (ev_bind0 (in_spec _ _ _) ?_)))) (ev_bind0 (items_eq a0 a1) (ev_pos hg (ev_neg h6 (ev_bind0 (in_impl _ _ _) ?_))))
        · rw [decide_eq_false hc]; exact badS
        · rw [decide_eq_false hc]; exact badI
end Go.Proofs.Ytamecophbbgefaa.Pure
