/- How long what is told of a search is. -/
import Derived.Test.YtemgnbpcchlpiaaQFnColouringsAreLeastColour
namespace Go.Proofs.Ytemgnbpcchlpiaa.QFnColouringsAreLeast
open Go.RowKit Go.Proofs.YtemgnbpcchlpiaaOwn Go.Proofs.Ytemgnbpcchlpiaa.PFnColouringsAreLeast Go.Proofs.YtemgnbpcchlpiaaW.PrintWords Go.Proofs.YtemgnbpcchlpiaaW.PrintLast Go.Proofs.YtemgnbpcchlpiaaW.PrintMore
set_option linter.unusedVariables false
set_option linter.unusedSimpArgs false
set_option maxRecDepth 100000
theorem tryC_some {g : Int → Option (List Int)} {r : List Int} : ∀ (m : Nat) (c : Int), tryC g m c = some r → ∃ c', g c' = some r
  | 0, c, h => by cases h
  | m + 1, c, h => by
    cases hg : g c with
    | some r' =>
      have h2 : tryC g (m + 1) c = some r' := by
        show (match g c with | some r => some r | none => tryC g m (c + 1)) = _
        rw [hg]
      exact ⟨c, by rw [hg, ← h2, h]⟩
    | none =>
      have h2 : tryC g (m + 1) c = tryC g m (c + 1) := by
        show (match g c with | some r => some r | none => tryC g m (c + 1)) = _
        rw [hg]
      exact tryC_some m (c + 1) (by rw [← h2, h])
theorem colG_len (sets : List Int) (count : Int) : ∀ (d : Nat) (list : List Int) (used : Int) (r : List Int), colG sets count d list used = some r → r.length = list.length + d
  | 0, list, used, r, h => by cases h; rfl
  | d + 1, list, used, r, h => by
    obtain ⟨c', hc⟩ := tryC_some _ _ h
    by_cases hcl : clashL sets list list.length c' list.length 0 false = true
    · rw [if_pos hcl] at hc; cases hc
    · rw [if_neg hcl] at hc
      have := colG_len sets count d _ _ r hc
      rw [this, List.length_append, List.length_singleton]
      omega
theorem told_len (sets : List Int) (count : Int) : (told (colG sets count sets.length [] 0)).1.length ≤ sets.length := by
  cases h : colG sets count sets.length [] 0 with
  | none => exact Nat.zero_le _
  | some r =>
    have := colG_len sets count _ _ _ r h
    show r.length ≤ _
    simp at this
    omega
end Go.Proofs.Ytemgnbpcchlpiaa.QFnColouringsAreLeast
