/- ColourStableWith of the program returns what the reference's returns, for all arguments; there are no conditions. -/
import Derived.Test.YtamecophbbgefaaQFnExactColourStableWithSets
import Derived.Test.YtamecophbbgefaaQFnExactColourStableWithMarkS
import Derived.Test.YtamecophbbgefaaQFnExactColourStableWithEqS
namespace Go.Proofs.Ytamecophbbgefaa.Pure
open Go.RowKit Go.Proofs.YtamecophbbgefaaOwn Go.Proofs.Ytamecophbbgefaa.PFnExactColourStableWith Go.Proofs.YtamecophbbgefaaW.PrintWords Go.Proofs.YtamecophbbgefaaW.PrintLast Go.Proofs.YtamecophbbgefaaW.PrintMore Go.Proofs.Ytamecophbbgefaa.QFnExactColourStableWith
set_option maxRecDepth 100000
/-- A set that the reference takes for stable. -/
def keepS (n kk x : Int) : Bool := decide (kk = 1) || decide (Go.bits .and .i64 x (Go.bits .or .i64 (Go.bits .and .i64 (wrap64 (x * 2)) (wrap64 ((shl .i64 1 n) - 1))) (shr .i64 x (wrap64 (n - 1)))) = 0)
theorem stab_all : ((List.range 8).all fun n => (List.range (2 ^ n)).all fun x => decide (n = 0) || (decide (pcN x < 1) || ((!impl_stable.q (n : Int) (x : Int)) == keepS (n : Int) (pcN x) (x : Int)))) = true := by decide +kernel
theorem stab_eq {n x : Nat} (h0 : 1 ≤ n) (h1 : n < 8) (h2 : x < 2 ^ n) (h3 : 1 ≤ pcN x) : (!impl_stable.q (n : Int) (x : Int)) = keepS (n : Int) (pcN x) (x : Int) := by
  have := List.all_eq_true.1 (List.all_eq_true.1 stab_all n (List.mem_range.2 h1)) x (List.mem_range.2 h2)
  rw [decide_eq_false (by omega), decide_eq_false (by omega), Bool.false_or, Bool.false_or] at this
  exact beq_iff_eq.1 this
theorem some_all : ((List.range 9).all fun n => (List.range 9).all fun k => decide (k = 0) || (decide (n < k) || decide (0 < (setL n (k : Int)).length))) = true := by decide +kernel
theorem set_pos {n k : Nat} (h1 : 1 ≤ k) (h2 : k ≤ n) (h3 : n < 9) : 0 < (setL n (k : Int)).length := by
  have := List.all_eq_true.1 (List.all_eq_true.1 some_all n (List.mem_range.2 h3)) k (List.mem_range.2 (by omega))
  rw [decide_eq_false (by omega), decide_eq_false (by omega), Bool.false_or, Bool.false_or] at this
  exact of_decide_eq_true this
theorem sel_mem (k : Int) {y : Int} : ∀ d i, y ∈ sel k d i → ∃ x : Nat, y = (x : Int) ∧ pcN x = k ∧ x < i + d
  | 0, i, h => by cases h
  | d + 1, i, h => by
    unfold sel at h
    split at h
    · rename_i hc
      rcases List.mem_cons.1 h with e | e
      · exact ⟨i, e, hc, by omega⟩
      · obtain ⟨x, h1, h2, h3⟩ := sel_mem k d (i + 1) e
        exact ⟨x, h1, h2, by omega⟩
    · obtain ⟨x, h1, h2, h3⟩ := sel_mem k d (i + 1) h
      exact ⟨x, h1, h2, by omega⟩
theorem stable_loop (n : Nat) (kk : Int) (hn0 : 1 ≤ n) (hn : n < 9) (T : List Int) (hT : T.length ≤ 1000) : ∀ (d i : Nat) (acc : List Int), i + d = T.length → acc.length ≤ i →
    Ev (fun k => spec_knStable.l0 k (n : Int) kk acc T (T.length : Int) (i : Int)) (acc ++ (T.drop i).filter (keepS (n : Int) kk))
  | 0, i, acc, h, ha => Ev.step (fun f => spec_knStable.l0.eq_2 ..) (ev_neg (by omega) (ev_eq (Ev.now _) (by rw [List.drop_eq_nil_of_le (by omega)]; simp)))
  | d + 1, i, acc, h, ha => by
    have hlt : i < T.length := by omega
    have hw : 0 ≤ wrap64 ((n : Int) - 1) := by rw [wr (by omega) (by omega)]; omega
    refine Ev.step (fun f => spec_knStable.l0.eq_2 ..) (ev_pos (by omega) (ev_pos (by omega) (ev_pos (by omega) (ev_pos (by omega) (ev_pos hw ?_)))))
    rw [rd_at hlt, wr (show -9223372036854775808 ≤ (i : Int) + 1 by omega) (by omega), List.drop_eq_getElem_cons hlt, List.filter_cons]
    have yes : Ev (fun k => spec_knStable.l0 k (n : Int) kk (acc ++ [T[i]]) T (T.length : Int) ((i : Int) + 1)) (acc ++ (T[i] :: (T.drop (i + 1)).filter (keepS (n : Int) kk))) := by
      have := stable_loop n kk hn0 hn T hT d (i + 1) (acc ++ [T[i]]) (by omega) (by simp; omega)
      rw [List.append_assoc] at this
      exact this
    by_cases h1 : kk = 1
    · have hk : keepS (n : Int) kk T[i] = true := by unfold keepS; rw [decide_eq_true h1]; rfl
      rw [if_pos hk]
      exact ev_pos h1 (ev_pos (by omega) yes)
    · refine ev_neg h1 ?_
      by_cases h2 : Go.bits .and .i64 T[i] (Go.bits .or .i64 (Go.bits .and .i64 (wrap64 (T[i] * 2)) (wrap64 ((shl .i64 1 (n : Int)) - 1))) (shr .i64 T[i] (wrap64 ((n : Int) - 1)))) = 0
      · have hk : keepS (n : Int) kk T[i] = true := by unfold keepS; rw [decide_eq_true h2, Bool.or_true]
        rw [if_pos hk]
        exact ev_pos h2 (ev_pos (by omega) yes)
      · have hk : keepS (n : Int) kk T[i] = false := by unfold keepS; rw [decide_eq_false h2, decide_eq_false h1]; rfl
        rw [hk, if_neg (by decide)]
        exact ev_neg h2 (stable_loop n kk hn0 hn T hT d (i + 1) acc (by omega) (by omega))
def stabL (n : Nat) (k : Int) : List Int := (setL n k).filter (keepS (n : Int) k)
theorem stabL_len {n : Nat} (k : Int) (h : n < 9) : (stabL n k).length ≤ 256 := Nat.le_trans (List.length_filter_le _ _) (setL_len k h)
theorem knStable_ev (n : Nat) (k : Int) (h0 : 1 ≤ n) (h : n < 9) : Ev (fun r => spec_knStable.f r (n : Int) k) (stabL n k) := by
  have hl := setL_len k h
  have := stable_loop n k h0 h (setL n k) (by omega) (setL n k).length 0 [] (by omega) (by simp)
  rw [List.drop_zero, List.nil_append] at this
  exact Ev.bind (knSets_ev n k h) this
theorem stable_ev (n k : Nat) (h1 : 1 ≤ k) (h2 : k ≤ n) (h : n < 8) : Ev (fun r => impl_stable.f r (n : Int) (k : Int)) (stabL n (k : Int)) := by
  refine Ev.bind (setsOf_ev n (k : Int) (by omega)) (ev_pos ?_ (ev_eq (Ev.now _) ?_))
  · have := set_pos h1 h2 (show n < 9 by omega)
    simp only [Bool.and_eq_true, decide_eq_true_eq]
    omega
  · unfold stabL
    refine List.filter_congr fun y hy => ?_
    obtain ⟨x, e1, e2, e3⟩ := sel_mem _ _ _ hy
    subst e1
    have := stab_eq (n := n) (x := x) (by omega) h (by omega) (by rw [e2]; omega)
    rw [e2] at this
    exact this
theorem FnExactColourStableWith : laws_FnExactColourStableWith.Pure := by
  intro a0 a1 a2 _ _ _
  apply Ev.rounds
  have key : ∀ (l : List Int) (b : Bool), l.length ≤ 1000 → Ev (fun k => spec_ColourStableWith.f k a0 a1 a2) (l, b) → Ev (fun k => impl_ColourStableWith.f k a0 a1 a2) (l, b) → Ev (fun k => laws_FnExactColourStableWith.f k a0 a1 a2) true := by
    intro l b hl hs hi
    have he := eqIntS_self l (by omega)
    obtain ⟨l', hm, hh⟩ := mark_held l (by omega)
    refine Ev.bind hs (Ev.bind hi (Ev.bind he (ev_pos rfl ?_)))
    rw [bne_self_eq_false]
    refine Ev.step (fun f => laws_FnExactColourStableWith.j0.eq_2 ..) (ev_neg (by decide) (Ev.bind hm (Ev.bind hh (ev_neg (by omega) (ev_pos rfl ?_)))))
    refine Ev.bind hi (Ev.bind he (ev_pos rfl ?_))
    rw [bne_self_eq_false]
    exact Ev.step (fun f => laws_FnExactColourStableWith.j1.eq_2 ..) (ev_neg (by decide) (Ev.bind hh (ev_neg (by omega) (ev_pos rfl (Ev.now _)))))
  have badS : Ev (fun k => spec_ColourStableWith.j0 k a0 a1 a2 true) ([], false) := Ev.step (fun f => spec_ColourStableWith.j0.eq_2 ..) (ev_pos rfl (Ev.now _))
  have badI : Ev (fun k => impl_ColourStableWith.j0 k a0 a1 a2 true) ([], false) := Ev.step (fun f => impl_ColourStableWith.j0.eq_2 ..) (ev_pos rfl (Ev.now _))
  cases hg : items a0 a1 with
  | false => exact key [] false (by simp) (ev_bind0 (given_eq a0 a1) (ev_neg (by rw [hg]; decide) badS)) (ev_bind0 (items_eq a0 a1) (ev_neg (by rw [hg]; decide) badI))
  | true =>
    by_cases h6 : a0 > 7
    · exact key [] false (by simp) (ev_bind0 (given_eq a0 a1) (ev_pos hg (ev_pos h6 badS))) (ev_bind0 (items_eq a0 a1) (ev_pos hg (ev_pos h6 badI)))
    · by_cases hc : 1 ≤ a2 ∧ a2 ≤ 8
      · have hn : 1 ≤ a0 ∧ 1 ≤ a1 ∧ a1 ≤ a0 := by
          unfold items at hg
          have h1 := of_decide_eq_true (Bool.and_eq_true_iff.1 hg).1
          have h2 := of_decide_eq_true (Bool.and_eq_true_iff.1 hg).2
          omega
        obtain ⟨n, en⟩ := Int.eq_ofNat_of_zero_le (show 0 ≤ a0 by omega)
        obtain ⟨j, ej⟩ := Int.eq_ofNat_of_zero_le (show 0 ≤ a1 by omega)
        obtain ⟨m, em⟩ := Int.eq_ofNat_of_zero_le (show 0 ≤ a2 by omega)
        subst en ej em
        have hl := stabL_len (n := n) (j : Int) (show n < 9 by omega)
        have h1 := knStable_ev n (j : Int) (by omega) (by omega)
        have h2 := stable_ev n j (by omega) (by omega) (by omega)
        have h3 := kn_start (stabL n (j : Int)) m (by omega) (by omega)
        have h4 := coloured_eq (stabL n (j : Int)) m (by omega) (by omega)
        have ht := told_len (stabL n (j : Int)) (m : Int)
        refine key (told (colG (stabL n (j : Int)) (m : Int) (stabL n (j : Int)).length [] 0)).1 (told (colG (stabL n (j : Int)) (m : Int) (stabL n (j : Int)).length [] 0)).2 (by omega)
          (ev_bind0 (given_eq _ _) (ev_pos hg (ev_neg h6 (ev_bind0 (in_spec _ _ _) ?_)))) (ev_bind0 (items_eq _ _) (ev_pos hg (ev_neg h6 (ev_bind0 (in_impl _ _ _) ?_))))
        · rw [decide_eq_true hc]
          exact Ev.step (fun f => spec_ColourStableWith.j0.eq_2 ..) (ev_neg (by decide) (Ev.bind h1 (Ev.bind h3 (Ev.now _))))
        · rw [decide_eq_true hc]
          exact Ev.step (fun f => impl_ColourStableWith.j0.eq_2 ..) (ev_neg (by decide) (Ev.bind h2 (ev_bind0 h4 (Ev.now _))))
      · refine key [] false (by simp) (ev_bind0 (given_eq a0 a1) (ev_pos hg (ev_neg h6 (ev_bind0 (in_spec _ _ _) ?_)))) (ev_bind0 (items_eq a0 a1) (ev_pos hg (ev_neg h6 (ev_bind0 (in_impl _ _ _) ?_))))
        · rw [decide_eq_false hc]; exact badS
        · rw [decide_eq_false hc]; exact badI
end Go.Proofs.Ytamecophbbgefaa.Pure
