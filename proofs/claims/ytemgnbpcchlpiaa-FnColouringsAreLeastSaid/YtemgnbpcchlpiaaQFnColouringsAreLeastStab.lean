/- Stable sets, and how their colourings come out. -/
import Derived.Test.YtemgnbpcchlpiaaQFnColouringsAreLeastFew
import Derived.Test.YtemgnbpcchlpiaaQFnColouringsAreLeastIsCol
import Derived.Test.YtemgnbpcchlpiaaQFnColouringsAreLeastColour
import Derived.Test.YtemgnbpcchlpiaaQFnColouringsAreLeastToldLen
namespace Go.Proofs.Ytemgnbpcchlpiaa.QFnColouringsAreLeast
open Go.RowKit Go.Proofs.YtemgnbpcchlpiaaOwn Go.Proofs.Ytemgnbpcchlpiaa.PFnColouringsAreLeast Go.Proofs.YtemgnbpcchlpiaaW.PrintWords Go.Proofs.YtemgnbpcchlpiaaW.PrintLast Go.Proofs.YtemgnbpcchlpiaaW.PrintMore
set_option linter.unusedVariables false
set_option linter.unusedSimpArgs false
set_option maxRecDepth 100000
/-- A set that the reference takes for stable. -/
def keepS (n kk x : Int) : Bool := decide (kk = 1) || decide (Go.bits .and .i64 x (Go.bits .or .i64 (Go.bits .and .i64 (wrap64 (x * 2)) (wrap64 ((shl .i64 1 n) - 1))) (shr .i64 x (wrap64 (n - 1)))) = 0)
theorem stab_all : ((List.range 9).all fun n => (List.range (2 ^ n)).all fun x => decide (n = 0) || (decide (pcN x < 1) || ((!impl_stable.q (n : Int) (x : Int)) == keepS (n : Int) (pcN x) (x : Int)))) = true := by decide +kernel
theorem stab_eq {n x : Nat} (h0 : 1 ≤ n) (h1 : n < 9) (h2 : x < 2 ^ n) (h3 : 1 ≤ pcN x) : (!impl_stable.q (n : Int) (x : Int)) = keepS (n : Int) (pcN x) (x : Int) := by
  have := List.all_eq_true.1 (List.all_eq_true.1 stab_all n (List.mem_range.2 h1)) x (List.mem_range.2 h2)
  rw [decide_eq_false (by omega), decide_eq_false (by omega), Bool.false_or, Bool.false_or] at this
  exact beq_iff_eq.1 this
theorem stable_loop (n : Nat) (kk : Int) (hn0 : 1 ≤ n) (hn : n < 9) (T : List Int) (hT : T.length ≤ 1000) : ∀ (d i : Nat) (acc : List Int), i + d = T.length → acc.length ≤ i →
    Ev (fun k => spec_knStable.l0 k (n : Int) kk acc T (T.length : Int) (i : Int)) (acc ++ (T.drop i).filter (keepS (n : Int) kk))
  | 0, i, acc, h, ha => Ev.step (fun f => spec_knStable.l0.eq_2 ..) (ev_neg (by omega) (ev_eq (Ev.now _) (by rw [List.drop_eq_nil_of_le (by omega)]; simp)))
  | d + 1, i, acc, h, ha => by
    have hlt : i < T.length := by omega
    have hw : 0 ≤ wrap64 ((n : Int) - 1) := by rw [wr (by omega) (by omega)]; omega
    refine Ev.step (fun f => spec_knStable.l0.eq_2 ..) (ev_pos (by omega) (ev_pos (by omega) (ev_pos (by omega) (ev_pos (by omega) (ev_pos hw ?_)))))
    rw [rdAt hlt, wr (show -9223372036854775808 ≤ (i : Int) + 1 by omega) (by omega), List.drop_eq_getElem_cons hlt, List.filter_cons]
    have yes : Ev (fun k => spec_knStable.l0 k (n : Int) kk (acc ++ [T[i]]) T (T.length : Int) ((i : Int) + 1)) (acc ++ (T[i] :: (T.drop (i + 1)).filter (keepS (n : Int) kk))) := by
      have := stable_loop n kk hn0 hn T hT d (i + 1) (acc ++ [T[i]]) (by omega) (by simp; omega)
      rw [List.append_assoc] at this
      exact this
    by_cases h1 : kk = 1
    · have hk : keepS (n : Int) kk T[i] = true := by unfold keepS; rw [decide_eq_true h1]; rfl
      rw [if_pos hk]
      exact ev_pos h1 (ev_pos (by omega) yes)
    · refine ev_neg h1 ?_
      by_cases h2 : Go.bits .and .i64 T[i] (Go.bits .or .i64 (Go.bits .and .i64 (wrap64 (T[i] * 2)) (wrap64 ((shl .i64 1 (n : Int)) - 1))) (shr .i64 T[i] (wrap64 ((n : Int) - 1)))) = 0
      · have hk : keepS (n : Int) kk T[i] = true := by unfold keepS; rw [decide_eq_true h2, Bool.or_true]
        rw [if_pos hk]
        exact ev_pos h2 (ev_pos (by omega) yes)
      · have hk : keepS (n : Int) kk T[i] = false := by unfold keepS; rw [decide_eq_false h2, decide_eq_false h1]; rfl
        rw [hk, if_neg (by decide)]
        exact ev_neg h2 (stable_loop n kk hn0 hn T hT d (i + 1) acc (by omega) (by omega))
def stabL (n : Nat) (k : Int) : List Int := (setL n k).filter (keepS (n : Int) k)
theorem stabL_len {n : Nat} (k : Int) (h : n < 9) : (stabL n k).length ≤ 256 := Nat.le_trans (List.length_filter_le _ _) (setL_len k h)
theorem stabL_small {n : Nat} {k : Int} (h : n < 9) : ∀ y ∈ stabL n k, ∃ x : Nat, y = (x : Int) ∧ x < 256 := fun y hy => setL_small h y (List.mem_filter.1 hy).1
theorem knStable_ev (n : Nat) (k : Int) (h0 : 1 ≤ n) (h : n < 9) : Ev (fun r => spec_knStable.f r (n : Int) k) (stabL n k) := by
  have hl := setL_len k h
  have := stable_loop n k h0 h (setL n k) (by omega) (setL n k).length 0 [] (by omega) (by simp)
  rw [List.drop_zero, List.nil_append] at this
  exact Ev.bind (knSets_ev n k h) this
theorem stable_ev (n k : Nat) (h1 : 1 ≤ k) (h2 : k ≤ n) (h : n < 9) : Ev (fun r => impl_stable.f r (n : Int) (k : Int)) (stabL n (k : Int)) := by
  refine Ev.bind (setsOf_ev n (k : Int) (by omega)) (ev_pos ?_ (ev_eq (Ev.now _) ?_))
  · have := setL_some (n := n) (k := (k : Int)) (by omega) (by omega) (by omega)
    simp only [Bool.and_eq_true, decide_eq_true_eq]
    omega
  · unfold stabL
    refine List.filter_congr fun y hy => ?_
    obtain ⟨x, e1, e2, e3⟩ := sel_mem _ _ _ hy
    subst e1
    have := stab_eq (n := n) (x := x) (by omega) h (by omega) (by rw [e2]; omega)
    rw [e2] at this
    exact this
/-- Do sets with equal colours all meet? -/
def apB : List Int → List Int → Bool
  | [], [] => true
  | s :: S, c :: L => ((S.zip L).all fun p => decide (s.toNat &&& p.1.toNat ≠ 0) || decide (c ≠ p.2)) && apB S L
  | _, _ => false
theorem apB_of : ∀ (S L : List Int), apB S L = true → L.length = S.length ∧ ∀ i j : Nat, i < j → j < S.length → (S.getD i 0).toNat &&& (S.getD j 0).toNat = 0 → L.getD i 0 ≠ L.getD j 0
  | [], [], _ => ⟨rfl, fun i j _ h => by cases h⟩
  | [], _ :: _, h => by cases h
  | _ :: _, [], h => by cases h
  | s :: S, c :: L, h => by
    rw [apB, Bool.and_eq_true] at h
    obtain ⟨hl, ih⟩ := apB_of S L h.2
    refine ⟨by simp [hl], fun i j hij hj h0 => ?_⟩
    obtain ⟨j', rfl⟩ : ∃ j', j = j' + 1 := ⟨j - 1, by omega⟩
    have hj' : j' < S.length := by simpa using hj
    cases i with
    | succ i =>
      exact ih i j' (by omega) hj' h0
    | zero =>
      have hm : (S[j'], L[j']'(by omega)) ∈ S.zip L := by
        have h1 : j' < (S.zip L).length := by rw [List.length_zip]; omega
        have := List.getElem_mem h1
        rwa [List.getElem_zip] at this
      have h2 := List.all_eq_true.1 h.1 _ hm
      rw [Bool.or_eq_true, decide_eq_true_eq, decide_eq_true_eq] at h2
      have e1 : (s :: S).getD (j' + 1) 0 = S[j'] := by
        rw [List.getD_cons_succ, List.getD_eq_getElem?_getD, List.getElem?_eq_getElem hj']; rfl
      have e2 : (c :: L).getD (j' + 1) 0 = L[j']'(by omega) := by
        rw [List.getD_cons_succ, List.getD_eq_getElem?_getD, List.getElem?_eq_getElem (show j' < L.length by omega)]; rfl
      rw [e1] at h0
      rw [e2]
      rcases h2 with h2 | h2
      · exact absurd h0 h2
      · exact h2
def chkA (S : List Int) (m F : Int) (t : List Int × Bool) : Bool := decide (t.2 = decide (m ≥ F)) && (!t.2 || (apB S t.1 && t.1.all fun x => decide (0 ≤ x)))
theorem chkA_all : ((List.range 7).all fun n => (List.range 7).all fun k => decide (k = 0) || decide (n < k) || (List.range 9).all fun m => decide (m = 0) || chkA (setL n (k : Int)) (m : Int) (few (n : Int) (k : Int)) (told (colG (setL n (k : Int)) (m : Int) (setL n (k : Int)).length [] 0))) = true := by decide +kernel
def chkB (S : List Int) (m F : Int) (t : List Int × Bool) : Bool := decide (t.2 = (decide (S.length = 0) || decide (m ≥ F))) && (if t.2 then apB S t.1 else decide (t.1 = []))
theorem chkB_all : ((List.range 8).all fun n => (List.range 8).all fun k => decide (k = 0) || decide (n < k) || (List.range 9).all fun m => decide (m = 0) || chkB (stabL n (k : Int)) (m : Int) (few (n : Int) (k : Int)) (told (colG (stabL n (k : Int)) (m : Int) (stabL n (k : Int)).length [] 0))) = true := by decide +kernel
theorem count_all : ((List.range 9).all fun n => (List.range 9).all fun k => decide (k = 0) || decide (n < k) || decide (spec_CountStable.f 14 (n : Int) (k : Int) = some (((stabL n (k : Int)).length : Int), true))) = true := by decide +kernel
/-- No two neighbours, on a ring of n, are in a stable set of more than one item. -/
theorem ring_all : ((List.range 9).all fun n => (List.range 9).all fun k => decide (k ≤ 1) || (stabL n (k : Int)).all fun y => (List.range n).all fun i => decide (Int.tmod (shr .i64 y (i : Int)) 2 ≠ 1) || decide (Int.tmod (shr .i64 y (((i + 1) % n : Nat) : Int)) 2 ≠ 1)) = true := by decide +kernel
end Go.Proofs.Ytemgnbpcchlpiaa.QFnColouringsAreLeast
