/- FewestForThree of the program returns what the reference's returns, for all arguments; there are no conditions. -/
import Derived.Test.YtmbkkhpjcblijaaDoorQFnExactFewestForThreeCountsS
import Derived.Test.YtmbkkhpjcblijaaDoorQFnExactFewestForThreeCountsI
namespace Go.Proofs.YtmbkkhpjcblijaaDoor.Pure
open Go.RowKit Go.Proofs.YtmbkkhpjcblijaaDoor.PFnExactFewestForThree Go.Proofs.YtmbkkhpjcblijaaDoorW.PrintWords Go.Proofs.YtmbkkhpjcblijaaDoorW.PrintLast Go.Proofs.YtmbkkhpjcblijaaDoorW.PrintMore Go.Proofs.YtmbkkhpjcblijaaDoor.QFnExactFewestForThree Go.Proofs.YtmbkkhpjcblijaaDoorOwn
set_option maxRecDepth 100000
set_option linter.unusedVariables false
theorem any_drop {p : Int → Bool} {l : List Int} {i : Nat} (h : i < l.length) : (l.drop i).any p = (p (rd l i) || (l.drop (i + 1)).any p) := by
  have e : rd l (i : Int) = l[i] := by rw [rd_nat, List.getD_eq_getElem?_getD, List.getElem?_eq_getElem h]; rfl
  rw [List.drop_eq_getElem_cons h, List.any_cons, e]
theorem third_loop (cs : List Int) (hl : cs.length ≤ 1000) : ∀ d i : Nat, i + d = cs.length → ∃ r : Int, Ev (fun k => slices_IndexFunc_int_int__impl_FewestForThree_1.l0 k cs (cs.length : Int) (i : Int)) r ∧ decide (r ≥ 0) = (cs.drop i).any fun x => Int.tmod x 3 != 0
  | 0, i, h => by
    refine ⟨-1, Ev.step (fun f => slices_IndexFunc_int_int__impl_FewestForThree_1.l0.eq_2 ..) (ev_neg (by omega) (Ev.now _)), ?_⟩
    rw [List.drop_eq_nil_of_le (by omega)]
    rfl
  | d + 1, i, h => by
    rw [any_drop (show i < cs.length by omega)]
    cases hm : (Int.tmod (rd cs i) 3 != 0) with
    | true =>
      refine ⟨i, Ev.step (fun f => slices_IndexFunc_int_int__impl_FewestForThree_1.l0.eq_2 ..) (ev_pos (by omega) (ev_pos (by omega) (ev_pos (by omega) (ev_bind0 (a := true) (by unfold impl_FewestForThree_1.f; rw [hm]) (ev_pos rfl (Ev.now _)))))), ?_⟩
      rw [Bool.true_or]
      exact decide_eq_true (by omega)
    | false =>
      obtain ⟨r, h1, h2⟩ := third_loop cs hl d (i + 1) (by omega)
      refine ⟨r, Ev.step (fun f => slices_IndexFunc_int_int__impl_FewestForThree_1.l0.eq_2 ..) (ev_pos (by omega) (ev_pos (by omega) (ev_pos (by omega) (ev_bind0 (a := false) (by unfold impl_FewestForThree_1.f; rw [hm]) (ev_neg (by decide) ?_))))), ?_⟩
      · rw [wr (by omega) (by omega)]
        exact h1
      · rw [Bool.false_or]; exact h2
theorem good_cnt {s : ByteArray} (h : neckl s = true) (h9 : ¬ (s.size : Int) > 9) : goodThree s (cntL s.data.toList) = true := by
  unfold goodThree
  have h1 := neckl_size h
  have h2 := size_list s
  simp only [Bool.and_eq_true, decide_eq_true_eq, List.all_eq_true]
  refine ⟨⟨⟨by omega, fun b hb => ?_⟩, rfl⟩, fun x hx => ?_⟩
  · have := kind_cases (List.all_eq_true.1 (neckl_beads h) b hb)
    omega
  · obtain ⟨i, hi, e⟩ := List.getElem_of_mem hx
    have := cntL_le s.data.toList i
    rw [rd_nat, List.getD_eq_getElem?_getD, List.getElem?_eq_getElem hi, Option.getD_some, e] at this
    omega
theorem FnExactFewestForThree : laws_FnExactFewestForThree.Pure := by
  intro a0 _
  apply Ev.rounds
  by_cases h : (a0.size : Int) > 1048576
  · exact ev_pos h (Ev.now _)
  have key : ∀ (l : Int) (b : Bool), Ev (fun k => spec_FewestForThree.f k a0) (l, b) → Ev (fun k => impl_FewestForThree.f k a0) (l, b) → Ev (fun k => laws_FnExactFewestForThree.f k a0) true := by
    intro l b hs hi
    refine ev_neg h (Ev.bind hs (Ev.bind hi (ev_pos rfl (ev_neg ?_ (Ev.now _)))))
    rw [bne_self_eq_false]; decide
  have e := nlGood_ev a0
  have e2 := isNecklace_ev a0
  cases hn : neckl a0 with
  | false =>
    rw [hn] at e e2
    exact key 0 false (Ev.bind e (ev_neg (by decide) (Ev.now _))) (ev_bind0 e2 (ev_neg (by decide) (Ev.now _)))
  | true =>
    rw [hn] at e e2
    have hb := neckl_beads hn
    have hs := neckl_size hn
    by_cases h9 : (a0.size : Int) > 9
    · exact key 0 false (Ev.bind e (ev_pos rfl (ev_pos h9 (Ev.now _)))) (ev_bind0 e2 (ev_pos rfl (ev_pos h9 (Ev.now _))))
    · have hg := good_cnt hn h9
      obtain ⟨r, hr1, hr2⟩ := third_loop (cntL a0.data.toList) (by rw [cntL_len]; omega) 4 0 (by rw [cntL_len])
      rw [List.drop_zero] at hr2
      have hbad : Ev (fun k => slices_ContainsFunc_int_int__impl_FewestForThree_1.f k (cntL a0.data.toList)) (badThird (cntL a0.data.toList)) := Ev.bind hr1 (ev_eq (Ev.now _) hr2)
      cases hbt : badThird (cntL a0.data.toList) with
      | true =>
        rw [hbt] at hbad
        refine key 0 false (Ev.bind e (ev_pos rfl (ev_neg h9 (Ev.bind (nlCounts_ev a0 hb (by omega)) (ev_const ?_))))) (ev_bind0 e2 (ev_pos rfl (ev_neg h9 (Ev.bind (counts_ev a0 hb (by omega)) (Ev.bind hbad (ev_pos rfl (Ev.now _)))))))
        unfold spec_FewestForThree.g
        rw [if_pos hg, hbt, if_pos rfl]
      | false =>
        rw [hbt] at hbad
        refine key (nl a0.size (ksOf a0) 0 (thirds (cntL a0.data.toList))) true (Ev.bind e (ev_pos rfl (ev_neg h9 (Ev.bind (nlCounts_ev a0 hb (by omega)) (ev_const ?_))))) (ev_bind0 e2 (ev_pos rfl (ev_neg h9 (Ev.bind (counts_ev a0 hb (by omega)) (Ev.bind hbad (ev_neg (by decide) (ev_pos hg (Ev.now _))))))))
        unfold spec_FewestForThree.g
        rw [if_pos hg, hbt, if_neg (by decide)]
end Go.Proofs.YtmbkkhpjcblijaaDoor.Pure
