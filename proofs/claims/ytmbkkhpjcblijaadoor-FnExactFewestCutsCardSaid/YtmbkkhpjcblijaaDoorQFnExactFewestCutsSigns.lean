/- Necklaces: the signs of cuts: what both programs' loops tell. -/
import Derived.Test.YtmbkkhpjcblijaaDoorQFnExactFewestCutsCounts
namespace Go.Proofs.YtmbkkhpjcblijaaDoor.QFnExactFewestCuts
open Go.RowKit Go.Proofs.YtmbkkhpjcblijaaDoor.PFnExactFewestCuts Go.Proofs.YtmbkkhpjcblijaaDoorW.PrintWords Go.Proofs.YtmbkkhpjcblijaaDoorW.PrintLast Go.Proofs.YtmbkkhpjcblijaaDoorW.PrintMore
set_option linter.unusedVariables false
set_option linter.unusedSimpArgs false
set_option maxRecDepth 100000
/-- Is x among d numbers from the place i on? -/
def among (l : List Int) (x : Int) : Nat → Nat → Bool
  | 0, _ => false
  | d + 1, i => if rd l (i : Int) = x then true else among l x d (i + 1)
theorem has_loop (l : List Int) (hl : l.length ≤ 1048576) (x : Int) : ∀ d i : Nat, i + d = l.length → Ev (fun k => spec_l1Has.l0 k x l (l.length : Int) (i : Int)) (among l x d i)
  | 0, i, h => Ev.step (fun f => spec_l1Has.l0.eq_2 ..) (ev_neg (by omega) (Ev.now _))
  | d + 1, i, h => by
    refine Ev.step (fun f => spec_l1Has.l0.eq_2 ..) (ev_pos (by omega) (ev_pos (by omega) (ev_pos (by omega) ?_)))
    unfold among
    by_cases hc : rd l (i : Int) = x
    · rw [if_pos hc]; exact ev_pos hc (Ev.now _)
    · rw [if_neg hc, wr (by omega) (by omega)]; exact ev_neg hc (has_loop l hl x d (i + 1) (by omega))
theorem index_loop (l : List Int) (hl : l.length ≤ 1048576) (x : Int) : ∀ d i : Nat, i + d = l.length → ∃ r : Int, Ev (fun k => slices_Index_int_int.l0 k l x (l.length : Int) (i : Int)) r ∧ decide (r ≥ 0) = among l x d i
  | 0, i, h => ⟨-1, Ev.step (fun f => slices_Index_int_int.l0.eq_2 ..) (ev_neg (by omega) (Ev.now _)), rfl⟩
  | d + 1, i, h => by
    by_cases hc : rd l (i : Int) = x
    · refine ⟨i, Ev.step (fun f => slices_Index_int_int.l0.eq_2 ..) (ev_pos (by omega) (ev_pos (by omega) (ev_pos (by omega) (ev_pos hc.symm (Ev.now _))))), ?_⟩
      unfold among
      rw [if_pos hc]
      exact decide_eq_true (by omega)
    · obtain ⟨r, h1, h2⟩ := index_loop l hl x d (i + 1) (by omega)
      refine ⟨r, Ev.step (fun f => slices_Index_int_int.l0.eq_2 ..) (ev_pos (by omega) (ev_pos (by omega) (ev_pos (by omega) (ev_neg (fun z => hc z.symm) ?_)))), ?_⟩
      · rw [wr (by omega) (by omega)]; exact h1
      · unfold among
        rw [if_neg hc, h2]
theorem has_ev (l : List Int) (hl : l.length ≤ 1048576) (x : Int) : Ev (fun k => spec_l1Has.f k l x) (among l x l.length 0) := has_loop l hl x l.length 0 (by omega)
theorem contains_ev (l : List Int) (hl : l.length ≤ 1048576) (x : Int) : Ev (fun k => slices_Contains_int_int.f k l x) (among l x l.length 0) := by
  obtain ⟨r, h1, h2⟩ := index_loop l hl x l.length 0 (by omega)
  refine Ev.bind h1 (ev_eq (Ev.now _) h2)
/-- The signs of the beads from the place i on. -/
def signsFn (l : List Int) : Nat → Nat → Int → List Int
  | 0, _, _ => []
  | d + 1, i, sg => if among l (i : Int) l.length 0 = true then -sg :: signsFn l d (i + 1) (-sg) else sg :: signsFn l d (i + 1) sg
theorem signsFn_len (l : List Int) : ∀ d i sg, (signsFn l d i sg).length = d
  | 0, _, _ => rfl
  | d + 1, i, sg => by unfold signsFn; split <;> simp [signsFn_len l d]
theorem signsFn_unit (l : List Int) : ∀ d i sg, (sg = 1 ∨ sg = -1) → ∀ x ∈ signsFn l d i sg, x = 1 ∨ x = -1
  | 0, _, _, _, x, hx => by cases hx
  | d + 1, i, sg, h, x, hx => by
    unfold signsFn at hx
    split at hx
    · rcases List.mem_cons.1 hx with rfl | hx
      · omega
      · exact signsFn_unit l d (i + 1) (-sg) (by omega) x hx
    · rcases List.mem_cons.1 hx with rfl | hx
      · exact h
      · exact signsFn_unit l d (i + 1) sg h x hx
theorem nlSigns_loop (s : ByteArray) (hs : s.size ≤ 16) (l : List Int) (hl : l.length ≤ 1048576) : ∀ (d i : Nat) (sg : Int) (out : List Int), (sg = 1 ∨ sg = -1) → i + d = s.size → out.length = i →
    Ev (fun k => spec_nlSigns.l0 k s l out sg (i : Int)) (out ++ signsFn l d i sg)
  | 0, i, sg, out, hsg, h, ho => Ev.step (fun f => spec_nlSigns.l0.eq_2 ..) (ev_neg (by omega) (ev_eq (Ev.now _) (List.append_nil _).symm))
  | d + 1, i, sg, out, hsg, h, ho => by
    refine Ev.step (fun f => spec_nlSigns.l0.eq_2 ..) (ev_pos (by omega) (Ev.bind (has_ev l hl _) ?_))
    unfold signsFn
    by_cases hc : among l (i : Int) l.length 0 = true
    · rw [if_pos hc, wr (show -9223372036854775808 ≤ -sg by omega) (by omega), wr (show -9223372036854775808 ≤ (i : Int) + 1 by omega) (by omega)]
      refine ev_pos hc (ev_pos (by omega) ?_)
      have := nlSigns_loop s hs l hl d (i + 1) (-sg) (out ++ [-sg]) (by omega) (by omega) (by simp [ho])
      rw [List.append_assoc] at this
      exact this
    · rw [if_neg hc, wr (show -9223372036854775808 ≤ (i : Int) + 1 by omega) (by omega)]
      refine ev_neg hc (ev_pos (by omega) ?_)
      have := nlSigns_loop s hs l hl d (i + 1) sg (out ++ [sg]) hsg (by omega) (by simp [ho])
      rw [List.append_assoc] at this
      exact this
theorem signs_loop (n : Nat) (hs : n ≤ 16) (l : List Int) (hl : l.length ≤ 1048576) : ∀ (d i : Nat) (sg : Int) (out : List Int), (sg = 1 ∨ sg = -1) → i + d = n → out.length = i →
    Ev (fun k => impl_signs.l0 k l out sg (n : Int) (i : Int)) (out ++ signsFn l d i sg)
  | 0, i, sg, out, hsg, h, ho => Ev.step (fun f => impl_signs.l0.eq_2 ..) (ev_neg (by omega) (ev_eq (Ev.now _) (List.append_nil _).symm))
  | d + 1, i, sg, out, hsg, h, ho => by
    refine Ev.step (fun f => impl_signs.l0.eq_2 ..) (ev_pos (by omega) (Ev.bind (contains_ev l hl _) ?_))
    unfold signsFn
    by_cases hc : among l (i : Int) l.length 0 = true
    · rw [if_pos hc, wr (show -9223372036854775808 ≤ -sg by omega) (by omega), wr (show -9223372036854775808 ≤ (i : Int) + 1 by omega) (by omega)]
      refine ev_pos hc (ev_pos (by omega) ?_)
      have := signs_loop n hs l hl d (i + 1) (-sg) (out ++ [-sg]) (by omega) (by omega) (by simp [ho])
      rw [List.append_assoc] at this
      exact this
    · rw [if_neg hc, wr (show -9223372036854775808 ≤ (i : Int) + 1 by omega) (by omega)]
      refine ev_neg hc (ev_pos (by omega) ?_)
      have := signs_loop n hs l hl d (i + 1) sg (out ++ [sg]) hsg (by omega) (by simp [ho])
      rw [List.append_assoc] at this
      exact this
theorem nlSigns_ev (s : ByteArray) (hs : s.size ≤ 16) (l : List Int) (hl : l.length ≤ 1048576) : Ev (fun k => spec_nlSigns.f k s l) (signsFn l s.size 0 1) :=
  nlSigns_loop s hs l hl s.size 0 1 [] (.inl rfl) (by omega) rfl
theorem signs_ev (s : ByteArray) (hs : s.size ≤ 16) (l : List Int) (hl : l.length ≤ 1048576) : Ev (fun k => impl_signs.f k s l) (signsFn l s.size 0 1) :=
  signs_loop s.size hs l hl s.size 0 1 [] (.inl rfl) (by omega) rfl
end Go.Proofs.YtmbkkhpjcblijaaDoor.QFnExactFewestCuts
