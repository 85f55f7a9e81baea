/- WindowCounts of the program returns what the reference's returns, for all arguments; there are no conditions. -/
import Derived.Test.YtlhilhimpbfllabDoorQFnExactWindowCountsWindow
import Derived.Test.YtlhilhimpbfllabDoorQFnExactWindowCountsMarkS
namespace Go.Proofs.YtlhilhimpbfllabDoor.Pure
open Go.RowKit Go.Proofs.YtlhilhimpbfllabDoor.PFnExactWindowCounts Go.Proofs.YtlhilhimpbfllabDoorW.PrintWords Go.Proofs.YtlhilhimpbfllabDoorW.PrintLast Go.Proofs.YtlhilhimpbfllabDoorW.PrintMore Go.Proofs.YtlhilhimpbfllabDoor.QFnExactWindowCounts
set_option maxRecDepth 100000
theorem in_spec (a b c : Int) : spec_l1In.f a b c = some (decide (b ≤ a ∧ a ≤ c)) := by
  unfold spec_l1In.f
  by_cases h : a ≥ b
  · rw [if_pos h]; simp [h]
  · rw [if_neg h]; simp [h]
theorem in_impl (a b c : Int) : impl_in.f a b c = some (decide (b ≤ a ∧ a ≤ c)) := by
  unfold impl_in.f
  by_cases h : b ≤ a
  · rw [if_pos h]; simp [h]
  · rw [if_neg h]; simp [h]
theorem FnExactWindowCounts : laws_FnExactWindowCounts.Pure := by
  intro a0 a1 a2 _ _ _
  apply Ev.rounds
  by_cases h : (a0.size : Int) > 1048576
  · exact ev_pos h (Ev.now _)
  have key : ∀ (l : List Int) (b : Bool), l.length ≤ 4 → Ev (fun k => spec_WindowCounts.f k a0 a1 a2) (l, b) → Ev (fun k => impl_WindowCounts.f k a0 a1 a2) (l, b) → Ev (fun k => laws_FnExactWindowCounts.f k a0 a1 a2) true := by
    intro l b hl hs hi
    have he := eqIntS_self l (by omega)
    obtain ⟨l', hm, hh⟩ := mark_held l (by omega)
    refine ev_neg h (Ev.bind hs (Ev.bind hi (Ev.bind he (ev_pos rfl ?_))))
    rw [bne_self_eq_false]
    refine Ev.step (fun f => laws_FnExactWindowCounts.j0.eq_2 ..) (ev_neg (by decide) (Ev.bind hm (Ev.bind hh (ev_neg (by omega) (ev_pos rfl ?_)))))
    refine Ev.bind hi (Ev.bind he (ev_pos rfl ?_))
    rw [bne_self_eq_false]
    exact Ev.step (fun f => laws_FnExactWindowCounts.j1.eq_2 ..) (ev_neg (by decide) (Ev.bind hh (ev_neg (by omega) (ev_pos rfl (Ev.now _)))))
  have bad : Ev (fun k => impl_WindowCounts.j0 k a0 a1 a2 true) ([], false) := Ev.step (fun f => impl_WindowCounts.j0.eq_2 ..) (ev_pos rfl (Ev.now _))
  have e := nlGood_ev a0
  have e2 := isNecklace_ev a0
  cases hn : neckl a0 with
  | false =>
    rw [hn] at e e2
    exact key [] false (by simp) (Ev.bind e (ev_neg (by decide) (Ev.now _))) (ev_bind0 e2 (ev_neg (by decide) bad))
  | true =>
    rw [hn] at e e2
    have hb := neckl_beads hn
    have hs := neckl_size hn
    have hw : wrap64 ((a0.size : Int) - 1) = (a0.size : Int) - 1 := wr (by omega) (by omega)
    have s1 : ∀ x lo hi : Int, spec_l1In.f x lo hi = some (decide (lo ≤ x ∧ x ≤ hi)) := in_spec
    have i1 : ∀ x lo hi : Int, impl_in.f x lo hi = some (decide (lo ≤ x ∧ x ≤ hi)) := in_impl
    by_cases c1 : 0 ≤ a1 ∧ a1 ≤ (a0.size : Int) - 1
    · by_cases c2 : 0 ≤ a2 ∧ a2 ≤ (a0.size : Int)
      · obtain ⟨a, ea⟩ := Int.eq_ofNat_of_zero_le c1.1
        obtain ⟨n, en⟩ := Int.eq_ofNat_of_zero_le c2.1
        subst ea en
        obtain ⟨t, ht1, ht2⟩ := window_ev a0 (by omega) a n (by omega) (by omega)
        refine key (cntL (winL a0 a n)) true (by rw [cntL_len]; omega) (Ev.bind e (ev_pos rfl (ev_bind0 (s1 _ _ _) (ev_pos ?_ (ev_bind0 (s1 _ _ _) (ev_pos ?_ (Ev.bind (nlWindow_ev a0 hb (by omega) (by omega) a n (by omega) (by omega)) (Ev.now _)))))))) (ev_bind0 e2 (ev_pos rfl (ev_bind0 (i1 _ _ _) (ev_pos ?_ (ev_bind0 (i1 _ _ _) ?_)))))
        · rw [hw]; exact decide_eq_true c1
        · exact decide_eq_true c2
        · rw [hw]; exact decide_eq_true c1
        · rw [decide_eq_true c2]
          exact Ev.step (fun f => impl_WindowCounts.j0.eq_2 ..) (ev_neg (by decide) (ev_bind0 ht1 (Ev.bind (win_counts a0 hb (by omega) a n (by omega) (by omega) t ht2) (Ev.now _))))
      · refine key [] false (by simp) (Ev.bind e (ev_pos rfl (ev_bind0 (s1 _ _ _) (ev_pos ?_ (ev_bind0 (s1 _ _ _) (ev_neg ?_ (Ev.now _))))))) (ev_bind0 e2 (ev_pos rfl (ev_bind0 (i1 _ _ _) (ev_pos ?_ (ev_bind0 (i1 _ _ _) ?_)))))
        · rw [hw]; exact decide_eq_true c1
        · rw [decide_eq_false c2]; decide
        · rw [hw]; exact decide_eq_true c1
        · rw [decide_eq_false c2]; exact bad
    · refine key [] false (by simp) (Ev.bind e (ev_pos rfl (ev_bind0 (s1 _ _ _) (ev_neg ?_ (Ev.now _))))) (ev_bind0 e2 (ev_pos rfl (ev_bind0 (i1 _ _ _) (ev_neg ?_ bad))))
      · rw [hw, decide_eq_false c1]; decide
      · rw [hw, decide_eq_false c1]; decide
end Go.Proofs.YtlhilhimpbfllabDoor.Pure
