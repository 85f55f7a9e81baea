/- How many colours, and what the sets are. -/
import Derived.Test.YtemgnbpcchlpiaaDoorQFnKneserColoursSets
namespace Go.Proofs.YtemgnbpcchlpiaaDoor.QFnKneserColours
open Go.RowKit Go.Proofs.YtemgnbpcchlpiaaDoorOwn Go.Proofs.YtemgnbpcchlpiaaDoor.PFnKneserColours Go.Proofs.YtemgnbpcchlpiaaDoorW.PrintWords Go.Proofs.YtemgnbpcchlpiaaDoorW.PrintLast Go.Proofs.YtemgnbpcchlpiaaDoorW.PrintMore
set_option linter.unusedVariables false
set_option linter.unusedSimpArgs false
set_option linter.unusedSectionVars false
set_option maxRecDepth 100000
theorem rdAt {l : List Int} {i : Nat} (h : i < l.length) : rd l (i : Int) = l[i] := by rw [rd_nat, List.getD_eq_getElem?_getD, List.getElem?_eq_getElem h]; rfl
/-- The least number of colours. -/
def few (n k : Int) : Int := if 2 * k > n then 1 else n - 2 * k + 2
theorem few_spec {n k : Int} (h1 : 1 ≤ n) (h2 : n ≤ 8) (h3 : 1 ≤ k) (h4 : k ≤ n) : spec_knFewest.f n k = some (few n k) := by
  unfold spec_knFewest.f few spec_l1Most.f
  rw [wr (show -9223372036854775808 ≤ 2 * k by omega) (by omega), wr (show -9223372036854775808 ≤ n - 2 * k by omega) (by omega), wr (show -9223372036854775808 ≤ n - 2 * k + 2 by omega) (by omega)]
  by_cases h : 1 > n - 2 * k + 2
  · rw [if_pos h, if_pos (by omega)]; rfl
  · rw [if_neg h]
    by_cases h5 : 2 * k > n
    · rw [if_pos h5, show n - 2 * k + 2 = 1 by omega]; rfl
    · rw [if_neg h5]; rfl
theorem few_le {n k : Int} (h1 : 1 ≤ n) (h2 : n ≤ 8) (h3 : 1 ≤ k) (h4 : k ≤ n) : 1 ≤ few n k ∧ few n k ≤ 10 := by
  unfold few
  split <;> omega
def least (a b : Int) : Int := if a < b then a else b
theorem least_spec (a b : Int) : spec_l1Least.f a b = some (least a b) := by
  unfold spec_l1Least.f least
  split <;> rfl
theorem sel_mem (k : Int) {y : Int} : ∀ d i, y ∈ sel k d i → ∃ x : Nat, y = (x : Int) ∧ pcN x = k ∧ x < i + d
  | 0, i, h => by cases h
  | d + 1, i, h => by
    unfold sel at h
    split at h
    · rename_i hc
      rcases List.mem_cons.1 h with e | e
      · exact ⟨i, e, hc, by omega⟩
      · obtain ⟨x, h1, h2, h3⟩ := sel_mem k d (i + 1) e
        exact ⟨x, h1, h2, by omega⟩
    · obtain ⟨x, h1, h2, h3⟩ := sel_mem k d (i + 1) h
      exact ⟨x, h1, h2, by omega⟩
theorem pc_pos {x : Nat} (h : 1 ≤ pcN x) : 1 ≤ x := by
  rcases Nat.eq_zero_or_pos x with h0 | h0
  · subst h0
    exact absurd h (by decide)
  · exact h0
theorem items_in {n k : Int} (h : items n k = true) : (1 ≤ n ∧ n ≤ 8) ∧ 1 ≤ k ∧ k ≤ n := by
  unfold items at h
  exact ⟨of_decide_eq_true (Bool.and_eq_true_iff.1 h).1, of_decide_eq_true (Bool.and_eq_true_iff.1 h).2⟩
theorem setL_pos : ((List.range 9).all fun n => (List.range 9).all fun k => decide (n < k) || decide (0 < (setL n (k : Int)).length)) = true := by decide +kernel
theorem setL_some {n : Nat} {k : Int} (h2 : n ≤ 8) (h3 : 0 ≤ k) (h4 : k ≤ (n : Int)) : 0 < (setL n k).length := by
  obtain ⟨m, e⟩ := Int.eq_ofNat_of_zero_le h3
  subst e
  have := List.all_eq_true.1 (List.all_eq_true.1 setL_pos n (List.mem_range.2 (by omega))) m (List.mem_range.2 (by omega))
  rw [decide_eq_false (by omega), Bool.false_or] at this
  exact of_decide_eq_true this
theorem setL_small {n : Nat} {k : Int} (h : n < 9) : ∀ y ∈ setL n k, ∃ x : Nat, y = (x : Int) ∧ x < 256 := fun y hy => by
  have hp := pow_le h
  obtain ⟨x, e1, e2, e3⟩ := sel_mem _ _ _ hy
  exact ⟨x, e1, by omega⟩
end Go.Proofs.YtemgnbpcchlpiaaDoor.QFnKneserColours
