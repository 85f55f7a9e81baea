/- Labels that are taken make a house. -/
import Derived.Test.YtgpplbaloajgdaaQFnExactPartnerOfFullWalks
namespace Go.Proofs.Ytgpplbaloajgdaa.QFnExactPartnerOfFull
open Go.RowKit Go.Proofs.Ytgpplbaloajgdaa.PFnExactPartnerOfFull Go.Proofs.YtgpplbaloajgdaaW.PrintWords Go.Proofs.YtgpplbaloajgdaaW.PrintLast Go.Proofs.YtgpplbaloajgdaaW.PrintMore
set_option linter.unusedVariables false
set_option linter.unusedSimpArgs false
set_option maxRecDepth 100000
theorem cnt_tab : ((List.range 9).all fun n => n == 0 || decide (cnt (n : Int) = (many n : Int))) = true := by decide +kernel
/-- Labels that are taken. -/
theorem home_of {a : Int} {l : List Int} (h : labB a l = true) : ∃ n : Nat, a = (n : Int) ∧ Home n l := by
  unfold labB at h
  simp only [Bool.and_eq_true, decide_eq_true_eq] at h
  obtain ⟨⟨h1, h2⟩, h3, h4⟩ := h
  have e : a = ((a.toNat : Nat) : Int) := by omega
  have s : Side a.toNat := ⟨by omega, by omega⟩
  refine ⟨a.toNat, e, s, ?_⟩
  rw [e] at h3
  have c := of_decide_eq_true (s.tab cnt_tab)
  exact lbl_of (by omega) (by have := many_le s.hi; omega) h4
theorem last_rd (vs : List Int) (x : Int) (h : vs.length ≤ 64) : wrap64 (((vs ++ [x]).length : Int) - 1) = (vs.length : Int) ∧ rd (vs ++ [x]) (vs.length : Int) = x := by
  have e : ((vs ++ [x]).length : Int) = (vs.length : Int) + 1 := by simp
  refine ⟨by rw [e, wr (by omega) (by omega)]; omega, ?_⟩
  rw [rd_at (by simp)]; simp
end Go.Proofs.Ytgpplbaloajgdaa.QFnExactPartnerOfFull
