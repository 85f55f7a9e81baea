/- CellsWith of the program returns what the reference's returns, for all numbers; there are no conditions. -/
import Derived.Test.YtkchmffegceplaaQFnExactCellsWithCellsWith
import Derived.Test.YtkchmffegceplaaQFnExactCellsWithEqInt
namespace Go.Proofs.Ytkchmffegceplaa.Pure
open Go.RowKit Go.Proofs.Ytkchmffegceplaa.PFnExactCellsWith Go.Proofs.YtkchmffegceplaaW.PrintWords Go.Proofs.YtkchmffegceplaaW.PrintLast Go.Proofs.YtkchmffegceplaaW.PrintMore Go.Proofs.Ytkchmffegceplaa.QFnExactCellsWith
set_option linter.unusedVariables false
set_option linter.unusedSimpArgs false
set_option maxRecDepth 100000
/-- Two equal answers, told twice, in memory of their own. -/
theorem cw_law (a0 a1 a2 : Int) (l : List Int) (b : Bool) (hl : l.length < 1000000) (hs : Ev (fun k => spec_CellsWith.f k a0 a1 a2) (l, b)) (hi : Ev (fun k => impl_CellsWith.f k a0 a1 a2) (l, b)) :
    ∃ k, laws_FnExactCellsWith.f k a0 a1 a2 = some true := by
  have he := eqIntS_self l (by omega)
  obtain ⟨l', hm, hh⟩ := mark_held l (by omega)
  apply Ev.rounds
  refine Ev.bind hs (Ev.bind hi (Ev.bind he (ev_pos rfl ?_)))
  rw [bne_self_eq_false]
  refine Ev.step (fun f => laws_FnExactCellsWith.j0.eq_2 ..) (ev_neg (by decide) (Ev.bind hm (Ev.bind hh (ev_neg (by omega) (ev_pos rfl ?_)))))
  refine Ev.bind hi (Ev.bind he (ev_pos rfl ?_))
  rw [bne_self_eq_false]
  exact Ev.step (fun f => laws_FnExactCellsWith.j1.eq_2 ..) (ev_neg (by decide) (Ev.bind hh (ev_neg (by omega) (ev_pos rfl (Ev.now _)))))
theorem side_spec (a : Int) : spec_meSide.f a = some (decide (1 ≤ a ∧ a ≤ 8)) := by
  unfold spec_meSide.f spec_l1In.f
  by_cases h : a ≥ 1
  · rw [if_pos h]; simp [show (1 : Int) ≤ a from h]
  · rw [if_neg h]; simp [show ¬ (1 : Int) ≤ a from h]
theorem side_impl (a : Int) : impl_isSide.f a = some (decide (1 ≤ a ∧ a ≤ 8)) := by
  unfold impl_isSide.f impl_in.f
  by_cases h : 1 ≤ a
  · rw [if_pos h]; simp [h]
  · rw [if_neg h]; simp [h]
theorem in_spec (a b c : Int) : spec_l1In.f a b c = some (decide (b ≤ a ∧ a ≤ c)) := by
  unfold spec_l1In.f
  by_cases h : a ≥ b
  · rw [if_pos h]; simp [show b ≤ a from h]
  · rw [if_neg h]; simp [show ¬ b ≤ a from h]
theorem in_impl (a b c : Int) : impl_in.f a b c = some (decide (b ≤ a ∧ a ≤ c)) := by
  unfold impl_in.f
  by_cases h : b ≤ a
  · rw [if_pos h]; simp [h]
  · rw [if_neg h]; simp [h]
theorem many_impl {n : Nat} (h : Side n) : impl_many.f (n : Int) = some (many n : Int) := by
  have : n = 1 ∨ n = 2 ∨ n = 3 ∨ n = 4 ∨ n = 5 ∨ n = 6 ∨ n = 7 ∨ n = 8 := by have := h.lo; have := h.hi; omega
  rcases this with rfl | rfl | rfl | rfl | rfl | rfl | rfl | rfl <;> decide +kernel
theorem point_spec {n : Nat} (h : Side n) (i : Int) : spec_mePoint.f (n : Int) i = some (decide (0 ≤ i ∧ i < many n)) := by
  have hb := many_le h.hi
  unfold spec_mePoint.f
  rw [side_spec, count_ev h rfl]
  have e : decide ((1 : Int) ≤ n ∧ (n : Int) ≤ 8) = true := by have := h.lo; have := h.hi; simp; omega
  simp only [e, Option.bind_some, if_true, in_spec]
  rw [wr (by omega) (by omega)]
  exact congrArg some (decide_eq_decide.2 (by omega))
/-- isPoint, at two numbers. -/
theorem isPoint_ev {n : Nat} (h : Side n) (i j : Int) : Ev (fun k => impl_isPoint.f k (n : Int) [i, j]) (decide ((0 ≤ i ∧ i < many n) ∧ (0 ≤ j ∧ j < many n))) := by
  have hb := many_le h.hi
  have e : decide ((1 : Int) ≤ n ∧ (n : Int) ≤ 8) = true := by have := h.lo; have := h.hi; simp; omega
  have one : ∀ x : Int, impl_isPoint_1.f x [(n : Int)] = some (!decide (0 ≤ x ∧ x < many n)) := by
    intro x
    unfold impl_isPoint_1.f
    rw [if_pos (by simp), rd_one, many_impl h, Option.bind_some, in_impl, wr (by omega) (by omega), Option.bind_some]
    exact congrArg some (congrArg _ (decide_eq_decide.2 (by omega)))
  refine ev_bind0 (side_impl _) ?_
  rw [e]
  refine ev_pos rfl ?_
  by_cases hi : 0 ≤ i ∧ i < many n
  · by_cases hj : 0 ≤ j ∧ j < many n
    · have z : Ev (fun k => slices_IndexFunc_int_int__impl_isPoint_1.f k [i, j] [(n : Int)]) (-1) := by
        refine Ev.step (fun f => slices_IndexFunc_int_int__impl_isPoint_1.l0.eq_2 ..) (ev_pos (by simp) (ev_pos (by decide) (ev_pos (by simp) (ev_bind0 (one _) (ev_neg (by simpa [rd] using hi) ?_)))))
        rw [w01]
        refine Ev.step (fun f => slices_IndexFunc_int_int__impl_isPoint_1.l0.eq_2 ..) (ev_pos (by simp) (ev_pos (by decide) (ev_pos (by simp) (ev_bind0 (one _) (ev_neg (by simpa [rd] using hj) ?_)))))
        rw [w12]
        exact Ev.step (fun f => slices_IndexFunc_int_int__impl_isPoint_1.l0.eq_2 ..) (ev_neg (by simp) (Ev.now _))
      refine Ev.bind (Ev.bind z (Ev.now _)) (ev_eq (Ev.now _) ?_)
      rw [decide_eq_true (⟨hi, hj⟩ : (0 ≤ i ∧ i < (many n : Int)) ∧ (0 ≤ j ∧ j < (many n : Int)))]
      decide
    · have z : Ev (fun k => slices_IndexFunc_int_int__impl_isPoint_1.f k [i, j] [(n : Int)]) 1 := by
        refine Ev.step (fun f => slices_IndexFunc_int_int__impl_isPoint_1.l0.eq_2 ..) (ev_pos (by simp) (ev_pos (by decide) (ev_pos (by simp) (ev_bind0 (one _) (ev_neg (by simpa [rd] using hi) ?_)))))
        rw [w01]
        exact Ev.step (fun f => slices_IndexFunc_int_int__impl_isPoint_1.l0.eq_2 ..) (ev_pos (by simp) (ev_pos (by decide) (ev_pos (by simp) (ev_bind0 (one _) (ev_pos (by rw [show rd [i, j] 1 = j from rfl, decide_eq_false hj]; rfl) (Ev.now _))))))
      refine Ev.bind (Ev.bind z (Ev.now _)) (ev_eq (Ev.now _) ?_)
      rw [decide_eq_false (fun z : (0 ≤ i ∧ i < (many n : Int)) ∧ (0 ≤ j ∧ j < (many n : Int)) => hj z.2)]
      decide
  · have z : Ev (fun k => slices_IndexFunc_int_int__impl_isPoint_1.f k [i, j] [(n : Int)]) 0 :=
      Ev.step (fun f => slices_IndexFunc_int_int__impl_isPoint_1.l0.eq_2 ..) (ev_pos (by simp) (ev_pos (by decide) (ev_pos (by simp) (ev_bind0 (one _) (ev_pos (by rw [show rd [i, j] 0 = i from rfl, decide_eq_false hi]; rfl) (Ev.now _))))))
    refine Ev.bind (Ev.bind z (Ev.now _)) (ev_eq (Ev.now _) ?_)
    rw [decide_eq_false (fun z : (0 ≤ i ∧ i < (many n : Int)) ∧ (0 ≤ j ∧ j < (many n : Int)) => hi z.1)]
    decide
theorem FnExactCellsWith : laws_FnExactCellsWith.Pure := by
  intro a0 a1 a2 _ _ _
  by_cases hn : 1 ≤ a0 ∧ a0 ≤ 8
  · obtain ⟨n, rfl⟩ := Int.eq_ofNat_of_zero_le (show 0 ≤ a0 by omega)
    have h : Side n := ⟨by omega, by omega⟩
    have hb := many_le h.hi
    by_cases hi : 0 ≤ a1 ∧ a1 < many n
    · by_cases hj : 0 ≤ a2 ∧ a2 < many n
      · obtain ⟨i, rfl⟩ := Int.eq_ofNat_of_zero_le hi.1
        obtain ⟨j, rfl⟩ := Int.eq_ofNat_of_zero_le hj.1
        have di := decide_eq_true hi
        have dj := decide_eq_true hj
        have dij : decide ((0 ≤ (i : Int) ∧ (i : Int) < many n) ∧ (0 ≤ (j : Int) ∧ (j : Int) < many n)) = true := decide_eq_true ⟨hi, hj⟩
        have hlen := pts_lenI h rfl
        cases hN : NB n i j with
        | true =>
          have hw := withFn_len (cellsFn n) (i : Int) (j : Int) (cellsFn n).length 0
          have hcl := h.cells_len
          refine cw_law n i j (withFn (cellsFn n) i j (cellsFn n).length 0) true (by omega) ?_ ?_
          · refine ev_bind0 (point_spec h _) ?_
            rw [di]
            refine ev_pos rfl (ev_bind0 (point_spec h _) ?_)
            rw [dj]
            refine ev_pos rfl (Ev.bind (h.meNear (by omega) (by omega)) ?_)
            rw [hN]
            exact Ev.step (fun f => spec_CellsWith.j0.eq_2 ..) (ev_neg (by decide) (Ev.bind h.meCells (Ev.bind (meWith_ev _ _ _ (by omega) (cells_each n)) (Ev.now _))))
          · refine Ev.bind (isPoint_ev h _ _) ?_
            rw [dij]
            refine ev_pos rfl (Ev.bind h.points ?_)
            rw [hlen]
            refine ev_pos hi.1 (ev_pos hi.2 (ev_pos hj.1 (ev_pos hj.2 (Ev.bind (h.near (by omega) (by omega)) ?_))))
            rw [hN]
            exact ev_pos rfl (Ev.bind h.cells (Ev.bind (with_ev _ _ _ (by omega) (cells_each n)) (Ev.now _)))
        | false =>
          refine cw_law n i j [] false (by simp) ?_ ?_
          · refine ev_bind0 (point_spec h _) ?_
            rw [di]
            refine ev_pos rfl (ev_bind0 (point_spec h _) ?_)
            rw [dj]
            refine ev_pos rfl (Ev.bind (h.meNear (by omega) (by omega)) ?_)
            rw [hN]
            exact Ev.step (fun f => spec_CellsWith.j0.eq_2 ..) (ev_pos rfl (Ev.now _))
          · refine Ev.bind (isPoint_ev h _ _) ?_
            rw [dij]
            refine ev_pos rfl (Ev.bind h.points ?_)
            rw [hlen]
            refine ev_pos hi.1 (ev_pos hi.2 (ev_pos hj.1 (ev_pos hj.2 (Ev.bind (h.near (by omega) (by omega)) ?_))))
            rw [hN]
            exact ev_neg (by decide) (Ev.now _)
      · refine cw_law n a1 a2 [] false (by simp) ?_ ?_
        · refine ev_bind0 (point_spec h _) ?_
          rw [decide_eq_true hi]
          refine ev_pos rfl (ev_bind0 (point_spec h _) ?_)
          rw [decide_eq_false hj]
          exact ev_neg (by decide) (Ev.step (fun f => spec_CellsWith.j0.eq_2 ..) (ev_pos rfl (Ev.now _)))
        · refine Ev.bind (isPoint_ev h _ _) ?_
          rw [decide_eq_false (fun z : (0 ≤ a1 ∧ a1 < (many n : Int)) ∧ (0 ≤ a2 ∧ a2 < (many n : Int)) => hj z.2)]
          exact ev_neg (by decide) (Ev.now _)
    · refine cw_law n a1 a2 [] false (by simp) ?_ ?_
      · refine ev_bind0 (point_spec h _) ?_
        rw [decide_eq_false hi]
        exact ev_neg (by decide) (Ev.step (fun f => spec_CellsWith.j0.eq_2 ..) (ev_pos rfl (Ev.now _)))
      · refine Ev.bind (isPoint_ev h _ _) ?_
        rw [decide_eq_false (fun z : (0 ≤ a1 ∧ a1 < (many n : Int)) ∧ (0 ≤ a2 ∧ a2 < (many n : Int)) => hi z.1)]
        exact ev_neg (by decide) (Ev.now _)
  · refine cw_law a0 a1 a2 [] false (by simp) ?_ ?_
    · refine ev_bind0 (a := false) (show spec_mePoint.f a0 a1 = some false by unfold spec_mePoint.f; rw [side_spec, decide_eq_false hn]; rfl) ?_
      exact ev_neg (by decide) (Ev.step (fun f => spec_CellsWith.j0.eq_2 ..) (ev_pos rfl (Ev.now _)))
    · have z : Ev (fun k => impl_isPoint.f k a0 [a1, a2]) false := by
        refine ev_bind0 (side_impl _) ?_
        rw [decide_eq_false hn]
        exact ev_neg (by decide) (Ev.now _)
      exact Ev.bind z (ev_neg (by decide) (Ev.now _))
end Go.Proofs.Ytkchmffegceplaa.Pure
