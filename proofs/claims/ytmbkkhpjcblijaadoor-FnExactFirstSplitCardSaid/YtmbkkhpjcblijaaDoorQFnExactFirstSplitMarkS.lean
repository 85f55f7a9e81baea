/- The laws' own helpers on lists of numbers: a list is equal to itself; what is marked is held. -/
import Derived.Test.YtmbkkhpjcblijaaDoorQFnExactFirstSplitEqS
namespace Go.Proofs.YtmbkkhpjcblijaaDoor.QFnExactFirstSplit
open Go.RowKit Go.Proofs.YtmbkkhpjcblijaaDoor.PFnExactFirstSplit Go.Proofs.YtmbkkhpjcblijaaDoorW.PrintWords Go.Proofs.YtmbkkhpjcblijaaDoorW.PrintLast Go.Proofs.YtmbkkhpjcblijaaDoorW.PrintMore
set_option linter.unusedVariables false
set_option linter.unusedSimpArgs false
theorem markIntS_l0 : ∀ (d : Nat) (l : List Int) (i : Nat), l.length < 4611686018427387904 → l.length = i + d →
    ∃ l', Ev (fun k => laws_markIntS.l0 k l ((i : Int) + 1) i) ((l.length : Int) + 1, l') ∧ l'.length = l.length ∧ (∀ j, j < i → l'[j]? = l[j]?) ∧ (∀ j, i ≤ j → j < l.length → l'[j]? = some ((j : Int) + 1)) := by
  intro d
  induction d with
  | zero =>
    intro l i hl h
    refine ⟨l, Ev.step (f := fun _ => some ((i : Int) + 1, l)) (fun k => by simp only [laws_markIntS.l0]; rw [if_neg (by omega)]) (ev_eq (Ev.now _) (by rw [h]; simp)), rfl, fun _ _ => rfl, fun j h1 h2 => by omega⟩
  | succ d ih =>
    intro l i hl h
    obtain ⟨l', e, h1, h2, h3⟩ := ih (l.set i ((i : Int) + 1)) (i + 1) (by simpa using hl) (by simp; omega)
    refine ⟨l', Ev.step (f := fun k => laws_markIntS.l0 k (l.set i ((i : Int) + 1)) (((i + 1 : Nat) : Int) + 1) ((i + 1 : Nat) : Int)) (fun k => ?_) (by simpa using e), by simpa using h1, fun j hj => ?_, fun j hj hj2 => ?_⟩
    · simp only [laws_markIntS.l0]
      rw [if_pos (by omega), if_pos (by omega), wr (by omega) (by omega), wr (by omega) (by omega)]
      simp
    · rw [h2 j (by omega), List.getElem?_set_ne (by omega)]
    · rcases Nat.lt_or_ge i j with hij | hij
      · exact h3 j hij (by simpa using hj2)
      · have : j = i := by omega
        subst this
        rw [h2 j (by omega), List.getElem?_set_self (by omega)]
theorem heldIntS_l0 : ∀ (d : Nat) (l : List Int) (i : Nat), l.length < 4611686018427387904 → l.length = i + d → (∀ j, i ≤ j → j < l.length → l[j]? = some ((j : Int) + 1)) →
    Ev (fun k => laws_heldIntS.l0 k l ((i : Int) + 1) i) ((l.length : Int) + 1) := by
  intro d
  induction d with
  | zero =>
    intro l i hl h hv
    exact Ev.step (f := fun _ => some ((i : Int) + 1)) (fun k => by simp only [laws_heldIntS.l0]; rw [if_neg (by omega)]) (ev_eq (Ev.now _) (by rw [h]; simp))
  | succ d ih =>
    intro l i hl h hv
    have e := ih l (i + 1) hl (by omega) (fun j h1 h2 => hv j (by omega) h2)
    refine Ev.step (f := fun k => laws_heldIntS.l0 k l (((i + 1 : Nat) : Int) + 1) ((i + 1 : Nat) : Int)) (fun k => ?_) e
    have hr : rd l (i : Int) = (i : Int) + 1 := by
      have a := rd_get (l := l) (i := (i : Int)) (by omega) (by omega)
      rw [Int.toNat_natCast, hv i (Nat.le_refl _) (by omega)] at a
      exact (Option.some.inj a).symm
    simp only [laws_heldIntS.l0]
    rw [if_pos (by omega), if_pos (by omega), if_pos hr, wr (by omega) (by omega), wr (by omega) (by omega)]
    simp
theorem mark_held (l : List Int) (hl : l.length < 4611686018427387904) : ∃ l', Ev (fun k => laws_markIntS.f k l 1) ((l.length : Int) + 1, l') ∧ Ev (fun k => laws_heldIntS.f k l' 1) ((l.length : Int) + 1) := by
  obtain ⟨l', e, h1, _, h3⟩ := markIntS_l0 l.length l 0 hl (by omega)
  refine ⟨l', Ev.congr (fun k => by unfold laws_markIntS.f; rfl) e, ?_⟩
  have z := heldIntS_l0 l'.length l' 0 (by omega) (by omega) (fun j _ hj => h3 j (by omega) (by omega))
  rw [h1] at z
  exact Ev.congr (fun k => by unfold laws_heldIntS.f; rfl) z
end Go.Proofs.YtmbkkhpjcblijaaDoor.QFnExactFirstSplit
