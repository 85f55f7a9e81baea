/- Labels of triangles: the program's test and the reference's. -/
import Derived.Test.YtgpplbaloajgdaaQFnExactPartnerOfFullBase
namespace Go.Proofs.Ytgpplbaloajgdaa.QFnExactPartnerOfFull
open Go.RowKit Go.Proofs.Ytgpplbaloajgdaa.PFnExactPartnerOfFull Go.Proofs.YtgpplbaloajgdaaW.PrintWords Go.Proofs.YtgpplbaloajgdaaW.PrintLast Go.Proofs.YtgpplbaloajgdaaW.PrintMore
set_option linter.unusedVariables false
set_option linter.unusedSimpArgs false
set_option maxRecDepth 100000
theorem in_spec (a b c : Int) : spec_l1In.f a b c = some (decide (b ≤ a ∧ a ≤ c)) := by
  unfold spec_l1In.f
  by_cases h : a ≥ b
  · rw [if_pos h]; simp [show b ≤ a from h]
  · rw [if_neg h]; simp [show ¬ b ≤ a from h]
theorem in_impl (a b c : Int) : impl_in.f a b c = some (decide (b ≤ a ∧ a ≤ c)) := by
  unfold impl_in.f
  by_cases h : b ≤ a
  · rw [if_pos h]; simp [h]
  · rw [if_neg h]; simp [h]
theorem side_spec (a : Int) : spec_meSide.f a = some (decide (1 ≤ a ∧ a ≤ 8)) := by
  unfold spec_meSide.f
  rw [in_spec]; rfl
theorem side_impl (a : Int) : impl_isSide.f a = some (decide (1 ≤ a ∧ a ≤ 8)) := by
  unfold impl_isSide.f
  rw [in_impl]; rfl
theorem rd_at {l : List Int} {i : Nat} (h : i < l.length) : rd l (i : Int) = l[i] := by rw [rd_nat, List.getD_eq_getElem?_getD, List.getElem?_eq_getElem h]; rfl
/-- All numbers are from 0 to 2. -/
def okB (l : List Int) : Bool := l.all (fun x => decide (0 ≤ x ∧ x ≤ 2))
theorem all_loop (l : List Int) (hl : l.length ≤ 1048576) : ∀ d i : Nat, i + d = l.length → Ev (fun k => spec_l1All.l0 k 0 2 l (l.length : Int) (i : Int)) (okB (l.drop i))
  | 0, i, h => Ev.step (fun f => spec_l1All.l0.eq_2 ..) (ev_neg (by omega) (ev_eq (Ev.now _) (by rw [List.drop_eq_nil_of_le (by omega)]; rfl)))
  | d + 1, i, h => by
    have hlt : i < l.length := by omega
    refine Ev.step (fun f => spec_l1All.l0.eq_2 ..) (ev_pos (by omega) (ev_pos (by omega) (ev_pos (by omega) (ev_bind0 (in_spec _ _ _) ?_))))
    unfold okB
    rw [List.drop_eq_getElem_cons hlt, List.all_cons, rd_at hlt, wr (show -9223372036854775808 ≤ (i : Int) + 1 by omega) (by omega)]
    by_cases hc : 0 ≤ l[i] ∧ l[i] ≤ 2
    · rw [decide_eq_true hc, Bool.true_and]
      exact ev_pos rfl (all_loop l hl d (i + 1) (by omega))
    · rw [decide_eq_false hc, Bool.false_and]
      exact ev_neg (by decide) (Ev.now _)
theorem bad_one (x : Int) : impl_areLabels_1.f x = some (!decide (0 ≤ x ∧ x ≤ 2)) := by
  unfold impl_areLabels_1.f
  rw [in_impl]; rfl
theorem bad_loop (l : List Int) (hl : l.length ≤ 1048576) : ∀ d i : Nat, i + d = l.length → ∃ r : Int, Ev (fun k => slices_IndexFunc_int_int__impl_areLabels_1.l0 k l (l.length : Int) (i : Int)) r ∧ decide (r ≥ 0) = !okB (l.drop i)
  | 0, i, h => ⟨-1, Ev.step (fun f => slices_IndexFunc_int_int__impl_areLabels_1.l0.eq_2 ..) (ev_neg (by omega) (Ev.now _)), by rw [List.drop_eq_nil_of_le (by omega)]; rfl⟩
  | d + 1, i, h => by
    have hlt : i < l.length := by omega
    by_cases hc : 0 ≤ l[i] ∧ l[i] ≤ 2
    · obtain ⟨r, h1, h2⟩ := bad_loop l hl d (i + 1) (by omega)
      refine ⟨r, Ev.step (fun f => slices_IndexFunc_int_int__impl_areLabels_1.l0.eq_2 ..) (ev_pos (by omega) (ev_pos (by omega) (ev_pos (by omega) (ev_bind0 (bad_one _) (ev_neg (by rw [rd_at hlt, decide_eq_true hc]; decide) ?_))))), ?_⟩
      · rw [wr (by omega) (by omega)]; exact h1
      · rw [h2]
        unfold okB
        rw [List.drop_eq_getElem_cons hlt, List.all_cons, decide_eq_true hc, Bool.true_and]
    · refine ⟨i, Ev.step (fun f => slices_IndexFunc_int_int__impl_areLabels_1.l0.eq_2 ..) (ev_pos (by omega) (ev_pos (by omega) (ev_pos (by omega) (ev_bind0 (bad_one _) (ev_pos (by rw [rd_at hlt, decide_eq_false hc]; rfl) (Ev.now _)))))), ?_⟩
      unfold okB
      rw [List.drop_eq_getElem_cons hlt, List.all_cons, decide_eq_false hc, Bool.false_and, decide_eq_true (by omega)]
      rfl
theorem bad_ev (l : List Int) (hl : l.length ≤ 1048576) : Ev (fun k => slices_ContainsFunc_int_int__impl_areLabels_1.f k l) (!okB l) := by
  obtain ⟨r, h1, h2⟩ := bad_loop l hl l.length 0 (by omega)
  rw [List.drop_zero] at h2
  exact Ev.bind h1 (ev_eq (Ev.now _) h2)
def cnt (a : Int) : Int := wrap64 (Int.tdiv (wrap64 ((wrap64 (a + 1)) * (wrap64 (a + 2)))) 2)
/-- Are these labels for a side? -/
def labB (a : Int) (l : List Int) : Bool := decide (1 ≤ a ∧ a ≤ 8) && (decide ((l.length : Int) = cnt a) && okB l)
theorem labels_spec (a : Int) (l : List Int) (hl : l.length ≤ 1048576) : Ev (fun k => spec_meLabels.f k a l) (labB a l) := by
  refine ev_bind0 (side_spec a) ?_
  unfold labB
  by_cases h : 1 ≤ a ∧ a ≤ 8
  · rw [decide_eq_true h]
    refine ev_pos rfl (ev_bind0 (show spec_meCount.f a = some (cnt a) from rfl) ?_)
    by_cases h2 : (l.length : Int) = cnt a
    · have ha := all_loop l hl l.length 0 (by omega)
      rw [List.drop_zero] at ha
      rw [decide_eq_true h2]
      exact ev_pos h2 (Ev.bind ha (Ev.now _))
    · rw [decide_eq_false h2]
      exact ev_neg h2 (Ev.now _)
  · rw [decide_eq_false h]
    exact ev_neg (by decide) (Ev.now _)
theorem labels_impl (a : Int) (l : List Int) (hl : l.length ≤ 1048576) : Ev (fun k => impl_areLabels.f k a l) (labB a l) := by
  refine ev_bind0 (side_impl a) ?_
  unfold labB
  by_cases h : 1 ≤ a ∧ a ≤ 8
  · rw [decide_eq_true h]
    refine ev_pos rfl (ev_bind0 (show impl_many.f a = some (cnt a) from rfl) ?_)
    by_cases h2 : (l.length : Int) = cnt a
    · rw [decide_eq_true h2]
      exact ev_pos h2 (Ev.bind (bad_ev l hl) (ev_eq (Ev.now _) (by cases okB l <;> rfl)))
    · rw [decide_eq_false h2]
      exact ev_neg h2 (Ev.now _)
  · rw [decide_eq_false h]
    exact ev_neg (by decide) (Ev.now _)
end Go.Proofs.Ytgpplbaloajgdaa.QFnExactPartnerOfFull
