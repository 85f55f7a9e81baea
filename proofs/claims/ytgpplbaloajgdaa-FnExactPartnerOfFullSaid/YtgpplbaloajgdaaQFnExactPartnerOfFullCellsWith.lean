/- Which cells have two points: the program's loop and the reference's tell the same. -/
import Derived.Test.YtgpplbaloajgdaaQFnExactPartnerOfFullMesh
namespace Go.Proofs.Ytgpplbaloajgdaa.QFnExactPartnerOfFull
open Go.RowKit Go.Proofs.Ytgpplbaloajgdaa.PFnExactPartnerOfFull Go.Proofs.YtgpplbaloajgdaaW.PrintWords Go.Proofs.YtgpplbaloajgdaaW.PrintLast Go.Proofs.YtgpplbaloajgdaaW.PrintMore
set_option linter.unusedVariables false
set_option linter.unusedSimpArgs false
set_option linter.unusedSectionVars false
set_option maxRecDepth 100000
theorem rd_mem {l : List Int} {i : Nat} (h : i < l.length) : rd l (i : Int) = l[i] := by
  show l.getD (i : Int).toNat 0 = _
  rw [Int.toNat_natCast, List.getD_eq_getElem?_getD, List.getElem?_eq_getElem h]; rfl
/-- slices.Contains, slices.Index. -/
theorem index_l0 (l : List Int) (x : Int) (hl : l.length < 1000000000) : ∀ (d i : Nat), i + d = l.length →
    ∃ r : Int, Ev (fun k => slices_Index_int_int.l0 k l x (l.length : Int) i) r ∧ (0 ≤ r ↔ x ∈ l.drop i) := by
  intro d
  induction d with
  | zero =>
    intro i hi
    refine ⟨-1, Ev.step (fun f => slices_Index_int_int.l0.eq_2 ..) (ev_neg (by omega) (Ev.now _)), ?_⟩
    rw [List.drop_eq_nil_of_le (by omega)]
    simp
  | succ d ih =>
    intro i hi
    obtain ⟨r, e, hr⟩ := ih (i + 1) (by omega)
    have hlt : i < l.length := by omega
    rw [List.drop_eq_getElem_cons hlt]
    by_cases hx : x = l[i]
    · exact ⟨i, Ev.step (fun f => slices_Index_int_int.l0.eq_2 ..) (ev_pos (by omega) (ev_pos (by omega) (ev_pos (by omega) (ev_pos (by rw [rd_mem hlt]; exact hx) (Ev.now _))))), ⟨fun _ => by rw [List.mem_cons]; exact .inl hx, fun _ => by omega⟩⟩
    · refine ⟨r, Ev.step (fun f => slices_Index_int_int.l0.eq_2 ..) (ev_pos (by omega) (ev_pos (by omega) (ev_pos (by omega) (ev_neg (by rw [rd_mem hlt]; exact hx) ?_)))), by rw [List.mem_cons, hr]; exact ⟨.inr, fun z => z.resolve_left hx⟩⟩
      rw [wn i (by omega)]
      exact e
theorem contains_ev (l : List Int) (x : Int) (hl : l.length < 1000000000) : Ev (fun k => slices_Contains_int_int.f k l x) (decide (x ∈ l)) := by
  obtain ⟨r, e, hr⟩ := index_l0 l x hl l.length 0 (by omega)
  refine Ev.bind (g := fun k => slices_Index_int_int.f k l x) e ?_
  refine ev_eq (Ev.now _) ?_
  rw [List.drop_zero] at hr
  exact decide_eq_decide.2 hr
theorem has_l0 (l : List Int) (x : Int) (hl : l.length < 1000000000) : ∀ (d i : Nat), i + d = l.length →
    Ev (fun k => spec_l1Has.l0 k x l (l.length : Int) i) (decide (x ∈ l.drop i)) := by
  intro d
  induction d with
  | zero =>
    intro i hi
    refine Ev.step (fun f => spec_l1Has.l0.eq_2 ..) (ev_neg (by omega) (ev_eq (Ev.now _) ?_))
    rw [List.drop_eq_nil_of_le (by omega)]
    simp
  | succ d ih =>
    intro i hi
    have hlt : i < l.length := by omega
    rw [List.drop_eq_getElem_cons hlt]
    by_cases hx : l[i] = x
    · exact Ev.step (fun f => spec_l1Has.l0.eq_2 ..) (ev_pos (by omega) (ev_pos (by omega) (ev_pos (by omega) (ev_pos (by rw [rd_mem hlt]; exact hx) (ev_eq (Ev.now _) (decide_eq_true (by rw [List.mem_cons]; exact .inl hx.symm)).symm)))))
    · refine Ev.step (fun f => spec_l1Has.l0.eq_2 ..) (ev_pos (by omega) (ev_pos (by omega) (ev_pos (by omega) (ev_neg (by rw [rd_mem hlt]; exact hx) ?_))))
      rw [wn i (by omega)]
      exact ev_eq (ih (i + 1) (by omega)) (decide_eq_decide.2 (by rw [List.mem_cons]; exact ⟨.inr, fun z => z.resolve_left (fun h => hx h.symm)⟩))
theorem has_ev (l : List Int) (x : Int) (hl : l.length < 1000000000) : Ev (fun k => spec_l1Has.f k l x) (decide (x ∈ l)) := has_l0 l x hl l.length 0 (by omega)
/-- The numbers of the cells with two points. -/
def withFn (cells : List (List Int)) (x y : Int) : Nat → Nat → List Int
  | 0, _ => []
  | d + 1, i => (if x ∈ cells.getD i [] ∧ y ∈ cells.getD i [] then [(i : Int)] else []) ++ withFn cells x y d (i + 1)
theorem withFn_len (cells : List (List Int)) (x y : Int) : ∀ d i, (withFn cells x y d i).length ≤ d
  | 0, _ => Nat.le_refl _
  | d + 1, i => by
    have := withFn_len cells x y d (i + 1)
    rw [withFn, List.length_append]
    split <;> simp <;> omega
section
variable (cells : List (List Int)) (x y : Int) (hl : cells.length < 1000000) (he : ∀ c ∈ cells, c.length = 3)
include hl he
theorem each_ (i : Nat) (h : i < cells.length) : (rd_L1 cells (i : Int)).length < 1000000000 := by
  show (cells.getD (i : Int).toNat []).length < _
  rw [Int.toNat_natCast, List.getD_eq_getElem?_getD, List.getElem?_eq_getElem h]
  have := he _ (List.getElem_mem (l := cells) (n := i) h)
  simp only [Option.getD_some]
  omega
theorem with_l0 (r : List Int) : ∀ (d i : Nat) (out : List Int), i + d = cells.length → out.length ≤ i → r = out ++ withFn cells x y d i →
    Ev (fun k => impl_with.l0 k x y out cells (cells.length : Int) i) r := by
  intro d
  induction d with
  | zero =>
    intro i out hi hb e
    rw [withFn, List.append_nil] at e
    exact Ev.step (fun f => impl_with.l0.eq_2 ..) (ev_neg (by omega) (ev_eq (Ev.now _) e.symm))
  | succ d ih =>
    intro i out hi hb e
    have hz := each_ cells hl he i (by omega)
    refine Ev.step (fun f => impl_with.l0.eq_2 ..) (ev_pos (by omega) (ev_pos (by omega) (ev_pos (by omega) ?_)))
    rw [withFn] at e
    refine Ev.bind (contains_ev _ x hz) ?_
    rw [wn i (by omega)]
    by_cases hx : x ∈ cells.getD i []
    · refine ev_pos (decide_eq_true hx) ?_
      refine Ev.bind (contains_ev _ y hz) ?_
      by_cases hy : y ∈ cells.getD i []
      · rw [if_pos ⟨hx, hy⟩, ← List.append_assoc] at e
        exact ev_pos (decide_eq_true hy) (ev_pos (by omega) (ih (i + 1) _ (by omega) (by rw [List.length_append]; simp; omega) e))
      · rw [if_neg (fun z => hy z.2), List.nil_append] at e
        exact ev_neg (fun z => hy (of_decide_eq_true z)) (ih (i + 1) _ (by omega) (by omega) e)
    · rw [if_neg (fun z => hx z.1), List.nil_append] at e
      exact ev_neg (fun z => hx (of_decide_eq_true z)) (ih (i + 1) _ (by omega) (by omega) e)
theorem meWith_l0 (r : List Int) : ∀ (d i : Nat) (out : List Int), i + d = cells.length → out.length ≤ i → r = out ++ withFn cells x y d i →
    Ev (fun k => spec_meWith.l0 k x y out cells (cells.length : Int) i) r := by
  intro d
  induction d with
  | zero =>
    intro i out hi hb e
    rw [withFn, List.append_nil] at e
    exact Ev.step (fun f => spec_meWith.l0.eq_2 ..) (ev_neg (by omega) (ev_eq (Ev.now _) e.symm))
  | succ d ih =>
    intro i out hi hb e
    have hz := each_ cells hl he i (by omega)
    refine Ev.step (fun f => spec_meWith.l0.eq_2 ..) (ev_pos (by omega) (ev_pos (by omega) (ev_pos (by omega) ?_)))
    rw [withFn] at e
    refine Ev.bind (has_ev _ x hz) ?_
    rw [wn i (by omega)]
    by_cases hx : x ∈ cells.getD i []
    · refine ev_pos (decide_eq_true hx) ?_
      refine Ev.bind (has_ev _ y hz) ?_
      by_cases hy : y ∈ cells.getD i []
      · rw [if_pos ⟨hx, hy⟩, ← List.append_assoc] at e
        exact ev_pos (decide_eq_true hy) (ev_pos (by omega) (ih (i + 1) _ (by omega) (by rw [List.length_append]; simp; omega) e))
      · rw [if_neg (fun z => hy z.2), List.nil_append] at e
        exact ev_neg (fun z => hy (of_decide_eq_true z)) (ih (i + 1) _ (by omega) (by omega) e)
    · rw [if_neg (fun z => hx z.1), List.nil_append] at e
      exact ev_neg (fun z => hx (of_decide_eq_true z)) (ih (i + 1) _ (by omega) (by omega) e)
theorem with_ev : Ev (fun k => impl_with.f k cells x y) (withFn cells x y cells.length 0) := with_l0 cells x y hl he _ cells.length 0 [] (by omega) (Nat.le_refl _) rfl
theorem meWith_ev : Ev (fun k => spec_meWith.f k cells x y) (withFn cells x y cells.length 0) := meWith_l0 cells x y hl he _ cells.length 0 [] (by omega) (Nat.le_refl _) rfl
end
end Go.Proofs.Ytgpplbaloajgdaa.QFnExactPartnerOfFull
