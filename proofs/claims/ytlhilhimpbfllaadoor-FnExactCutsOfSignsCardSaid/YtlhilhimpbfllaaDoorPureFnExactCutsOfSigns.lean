/- CutsOfSigns of the program returns what the reference's returns, for all texts and lists; there are no conditions. -/
import Derived.Test.YtlhilhimpbfllaaDoorQFnExactCutsOfSignsBeads
import Derived.Test.YtlhilhimpbfllaaDoorQFnExactCutsOfSignsToInt
import Derived.Test.YtlhilhimpbfllaaDoorQFnExactCutsOfSignsMarkS
namespace Go.Proofs.YtlhilhimpbfllaaDoor.Pure
open Go.RowKit Go.Proofs.YtlhilhimpbfllaaDoor.PFnExactCutsOfSigns Go.Proofs.YtlhilhimpbfllaaDoorW.PrintWords Go.Proofs.YtlhilhimpbfllaaDoorW.PrintLast Go.Proofs.YtlhilhimpbfllaaDoorW.PrintMore Go.Proofs.YtlhilhimpbfllaaDoor.QFnExactCutsOfSigns
set_option linter.unusedVariables false
set_option maxRecDepth 100000
/-- Is one of d numbers from the place i on no sign? -/
def badAt (l : List Int) : Nat → Nat → Bool
  | 0, _ => false
  | d + 1, i => if rd l (i : Int) = 1 ∨ rd l (i : Int) = -1 then badAt l d (i + 1) else true
/-- The places from i on at which a number is not the one ahead of it. -/
def diffFn (l : List Int) : Nat → Nat → List Int
  | 0, _ => []
  | d + 1, i => if rd l (i : Int) = rd l ((i : Int) - 1) then diffFn l d (i + 1) else (i : Int) :: diffFn l d (i + 1)
theorem diffFn_len (l : List Int) : ∀ d i, (diffFn l d i).length ≤ d
  | 0, _ => Nat.le_refl _
  | d + 1, i => by
    have := diffFn_len l d (i + 1)
    unfold diffFn
    split
    · omega
    · simp; omega
theorem bad_one (x : Int) : impl_CutsOfSigns_1.f x = some (!decide (x = 1 ∨ x = -1)) := by
  unfold impl_CutsOfSigns_1.f
  by_cases h : x = 1
  · rw [if_pos h, decide_eq_true (.inl h)]; rfl
  · rw [if_neg h]
    by_cases h2 : x = -1
    · rw [h2]; rfl
    · rw [decide_eq_false (fun z => z.elim h h2)]; simp [h2]
theorem bad_loop (l : List Int) (hl : l.length ≤ 1048576) : ∀ d i : Nat, i + d = l.length → ∃ r : Int, Ev (fun k => slices_IndexFunc_int_int__impl_CutsOfSigns_1.l0 k l (l.length : Int) (i : Int)) r ∧ decide (r ≥ 0) = badAt l d i
  | 0, i, h => ⟨-1, Ev.step (fun f => slices_IndexFunc_int_int__impl_CutsOfSigns_1.l0.eq_2 ..) (ev_neg (by omega) (Ev.now _)), rfl⟩
  | d + 1, i, h => by
    by_cases hc : rd l (i : Int) = 1 ∨ rd l (i : Int) = -1
    · obtain ⟨r, h1, h2⟩ := bad_loop l hl d (i + 1) (by omega)
      refine ⟨r, Ev.step (fun f => slices_IndexFunc_int_int__impl_CutsOfSigns_1.l0.eq_2 ..) (ev_pos (by omega) (ev_pos (by omega) (ev_pos (by omega) (ev_bind0 (bad_one _) (ev_neg (by simp [hc]) ?_))))), ?_⟩
      · rw [wr (by omega) (by omega)]; exact h1
      · unfold badAt
        rw [if_pos hc, h2]
    · refine ⟨i, Ev.step (fun f => slices_IndexFunc_int_int__impl_CutsOfSigns_1.l0.eq_2 ..) (ev_pos (by omega) (ev_pos (by omega) (ev_pos (by omega) (ev_bind0 (bad_one _) (ev_pos (by rw [decide_eq_false hc]; rfl) (Ev.now _)))))), ?_⟩
      unfold badAt
      rw [if_neg hc]
      exact decide_eq_true (by omega)
theorem bad_ev (l : List Int) (hl : l.length ≤ 1048576) : Ev (fun k => slices_ContainsFunc_int_int__impl_CutsOfSigns_1.f k l) (badAt l l.length 0) := by
  obtain ⟨r, h1, h2⟩ := bad_loop l hl l.length 0 (by omega)
  exact Ev.bind h1 (ev_eq (Ev.now _) h2)
theorem implDiff (l : List Int) (hl : l.length ≤ 1048576) : ∀ (d i : Nat) (out : List Int), 1 ≤ i → i + d = l.length → out.length ≤ i → Ev (fun k => impl_CutsOfSigns.l0 k l out (i : Int)) (out ++ diffFn l d i, true)
  | 0, i, out, h1, h, ho => Ev.step (fun f => impl_CutsOfSigns.l0.eq_2 ..) (ev_neg (by omega) (ev_eq (Ev.now _) (by unfold diffFn; rw [List.append_nil])))
  | d + 1, i, out, h1, h, ho => by
    refine Ev.step (fun f => impl_CutsOfSigns.l0.eq_2 ..) (ev_pos (by omega) (ev_pos (by omega) ?_))
    rw [wr (show -9223372036854775808 ≤ (i : Int) - 1 by omega) (by omega), wr (show -9223372036854775808 ≤ (i : Int) + 1 by omega) (by omega)]
    refine ev_pos (by omega) (ev_pos (by omega) ?_)
    unfold diffFn
    by_cases hc : rd l (i : Int) = rd l ((i : Int) - 1)
    · rw [if_pos hc]
      exact ev_pos hc (implDiff l hl d (i + 1) out (by omega) (by omega) (by omega))
    · rw [if_neg hc]
      refine ev_neg hc (ev_pos (by omega) ?_)
      have := implDiff l hl d (i + 1) (out ++ [(i : Int)]) (by omega) (by omega) (by simp <;> omega)
      rw [List.append_assoc] at this
      exact this
theorem specDiff (l : List Int) (hl : l.length ≤ 1048576) : ∀ (d i : Nat) (out : List Int), 1 ≤ i → i + d = l.length → out.length ≤ i →
    Ev (fun k => spec_CutsOfSigns.l0 k l out l (l.length : Int) (i : Int)) (if badAt l d i = true then ([], false) else (out ++ diffFn l d i, true))
  | 0, i, out, h1, h, ho => Ev.step (fun f => spec_CutsOfSigns.l0.eq_2 ..) (ev_neg (by omega) (ev_eq (Ev.now _) (by unfold diffFn badAt; rw [List.append_nil, if_neg (by decide)])))
  | d + 1, i, out, h1, h, ho => by
    refine Ev.step (fun f => spec_CutsOfSigns.l0.eq_2 ..) (ev_pos (by omega) (ev_pos (by omega) (ev_pos (by omega) ?_)))
    by_cases hu : rd l (i : Int) = 1 ∨ rd l (i : Int) = -1
    · have go : Ev (fun k => spec_CutsOfSigns.j2 k l out (i : Int) (rd l (i : Int)) l (l.length : Int) (i : Int) false) (if badAt l (d + 1) i = true then ([], false) else (out ++ diffFn l (d + 1) i, true)) := by
        refine Ev.step (fun f => spec_CutsOfSigns.j2.eq_2 ..) (ev_neg (by decide) (ev_pos (by omega) ?_))
        rw [wr (show -9223372036854775808 ≤ (i : Int) - 1 by omega) (by omega), wr (show -9223372036854775808 ≤ (i : Int) + 1 by omega) (by omega)]
        refine ev_pos (by omega) (ev_pos (by omega) ?_)
        unfold diffFn badAt
        rw [if_pos hu]
        by_cases hc : rd l (i : Int) = rd l ((i : Int) - 1)
        · rw [if_pos hc]
          exact ev_pos hc (specDiff l hl d (i + 1) out (by omega) (by omega) (by omega))
        · rw [if_neg hc]
          refine ev_neg hc (ev_pos (by omega) ?_)
          have := specDiff l hl d (i + 1) (out ++ [(i : Int)]) (by omega) (by omega) (by simp <;> omega)
          rw [List.append_assoc] at this
          exact this
      by_cases h1' : rd l (i : Int) = 1
      · exact ev_pos h1' (ev_neg (by omega) go)
      · exact ev_neg h1' (ev_pos (hu.resolve_left h1') (ev_neg (by omega) go))
    · refine ev_neg (fun z => hu (.inl z)) (ev_neg (fun z => hu (.inr z)) ?_)
      unfold badAt
      rw [if_neg hu, if_pos rfl]
      exact Ev.step (fun f => spec_CutsOfSigns.j2.eq_2 ..) (ev_pos rfl (Ev.now _))
/-- What both tell. -/
def cutsL : List Int → List Int × Bool
  | [] => ([], true)
  | x :: r => if x = 1 then (if badAt (x :: r) r.length 1 = true then ([], false) else (diffFn (x :: r) r.length 1, true)) else ([], false)
theorem cutsL_len (l : List Int) : (cutsL l).1.length ≤ l.length := by
  cases l with
  | nil => exact Nat.le_refl _
  | cons x r =>
    have := diffFn_len (x :: r) r.length 1
    show (if x = 1 then (if badAt (x :: r) r.length 1 = true then ([], false) else (diffFn (x :: r) r.length 1, true)) else ([], false)).1.length ≤ r.length + 1
    split
    · split
      · exact Nat.zero_le _
      · show (diffFn (x :: r) r.length 1).length ≤ r.length + 1
        omega
    · exact Nat.zero_le _
def cutsRes (s : ByteArray) (l : List Int) : List Int × Bool := if neckl s = true ∧ l.length = s.size then cutsL l else ([], false)
theorem cutsRes_len (s : ByteArray) (l : List Int) : (cutsRes s l).1.length ≤ l.length := by
  unfold cutsRes
  split
  · exact cutsL_len l
  · exact Nat.zero_le _
theorem spec_cuts (s : ByteArray) (l : List Int) (hl : l.length ≤ 1048576) : Ev (fun k => spec_CutsOfSigns.f k s l) (cutsRes s l) := by
  have e := nlGood_ev s
  unfold cutsRes
  cases hn : neckl s with
  | false => rw [hn] at e; rw [if_neg (fun z => by cases z.1)]; exact Ev.bind e (ev_neg (by decide) (Ev.step (fun f => spec_CutsOfSigns.j0.eq_2 ..) (ev_pos rfl (Ev.now _))))
  | true =>
    rw [hn] at e
    refine Ev.bind e (ev_pos rfl ?_)
    by_cases hz : l.length = s.size
    · rw [if_pos ⟨rfl, hz⟩]
      have hb : ((l.length : Int) != (s.size : Int)) = false := by rw [hz]; exact bne_self_eq_false _
      rw [hb]
      refine Ev.step (fun f => spec_CutsOfSigns.j0.eq_2 ..) (ev_neg (by decide) ?_)
      match l, hl, hz with
      | [], _, _ => exact Ev.step (fun f => spec_CutsOfSigns.l0.eq_2 ..) (ev_neg (by simp) (Ev.now _))
      | x :: r, hl, hz =>
        have r0 : rd (x :: r) 0 = x := rfl
        have w1 : wrap64 (0 + 1) = ((1 : Nat) : Int) := wr (by omega) (by omega)
        have eL : cutsL (x :: r) = if x = 1 then (if badAt (x :: r) r.length 1 = true then ([], false) else (diffFn (x :: r) r.length 1, true)) else ([], false) := rfl
        rw [eL]
        refine Ev.step (fun f => spec_CutsOfSigns.l0.eq_2 ..) (ev_pos (by simp <;> omega) (ev_pos (by decide) (ev_pos (by simp <;> omega) ?_)))
        rw [r0]
        by_cases hx : x = 1
        · rw [if_pos hx]
          refine ev_pos hx (ev_pos rfl ?_)
          rw [show (x != 1) = false by rw [hx]; rfl]
          refine Ev.step (fun f => spec_CutsOfSigns.j2.eq_2 ..) (ev_neg (by decide) (ev_neg (by decide) ?_))
          rw [w1]
          exact specDiff (x :: r) hl r.length 1 [] (Nat.le_refl _) (by simp <;> omega) (by simp)
        · rw [if_neg hx]
          have hne : (x != 1) = true := by simpa using hx
          refine ev_neg hx ?_
          by_cases hm : x = -1
          · refine ev_pos hm (ev_pos rfl ?_)
            rw [hne]
            exact Ev.step (fun f => spec_CutsOfSigns.j2.eq_2 ..) (ev_pos rfl (Ev.now _))
          · exact ev_neg hm (Ev.step (fun f => spec_CutsOfSigns.j2.eq_2 ..) (ev_pos rfl (Ev.now _)))
    · rw [if_neg (fun z => hz z.2)]
      have hb : ((l.length : Int) != (s.size : Int)) = true := by simpa using (fun z : (l.length : Int) = (s.size : Int) => hz (by omega))
      rw [hb]
      exact Ev.step (fun f => spec_CutsOfSigns.j0.eq_2 ..) (ev_pos rfl (Ev.now _))
theorem impl_cuts (s : ByteArray) (l : List Int) (hl : l.length ≤ 1048576) : Ev (fun k => impl_CutsOfSigns.f k s l) (cutsRes s l) := by
  have e := isNecklace_ev s
  have hbad := bad_ev l hl
  have bad : Ev (fun k => impl_CutsOfSigns.j0 k l true) ([], false) := Ev.step (fun f => impl_CutsOfSigns.j0.eq_2 ..) (ev_pos rfl (Ev.now _))
  unfold cutsRes
  refine Ev.bind hbad (ev_bind0 e ?_)
  cases hn : neckl s with
  | false => rw [if_neg (fun z => by cases z.1)]; exact ev_neg (by decide) bad
  | true =>
    refine ev_pos rfl ?_
    by_cases hz : l.length = s.size
    · rw [if_pos ⟨rfl, hz⟩]
      refine ev_pos (by omega) ?_
      match l, hl, hz, bad with
      | [], _, _, _ => exact ev_neg (by simp [badAt]) (ev_neg (by simp) (Ev.step (fun f => impl_CutsOfSigns.j0.eq_2 ..) (ev_neg (by decide) (Ev.step (fun f => impl_CutsOfSigns.l0.eq_2 ..) (ev_neg (by simp) (Ev.now _))))))
      | x :: r, hl, hz, bad =>
        have r0 : rd (x :: r) 0 = x := rfl
        have hb0 : badAt (x :: r) (x :: r).length 0 = if x = 1 ∨ x = -1 then badAt (x :: r) r.length 1 else true := rfl
        have eL : cutsL (x :: r) = if x = 1 then (if badAt (x :: r) r.length 1 = true then ([], false) else (diffFn (x :: r) r.length 1, true)) else ([], false) := rfl
        rw [hb0, eL]
        by_cases hx : x = 1
        · rw [if_pos hx, if_pos (Or.inl hx)]
          by_cases hq : badAt (x :: r) r.length 1 = true
          · rw [if_pos hq]
            exact ev_pos hq bad
          · rw [if_neg hq]
            refine ev_neg hq (ev_pos (by simp <;> omega) (ev_pos (by simp <;> omega) ?_))
            rw [r0, show (x != 1) = false by rw [hx]; rfl]
            exact Ev.step (fun f => impl_CutsOfSigns.j0.eq_2 ..) (ev_neg (by decide) (implDiff (x :: r) hl r.length 1 [] (Nat.le_refl _) (by simp <;> omega) (by simp)))
        · rw [if_neg hx]
          have hne : (x != 1) = true := by simpa using hx
          by_cases hm : (if x = 1 ∨ x = -1 then badAt (x :: r) r.length 1 else true) = true
          · exact ev_pos hm bad
          · refine ev_neg hm (ev_pos (by simp <;> omega) (ev_pos (by simp <;> omega) ?_))
            rw [r0, hne]
            exact bad
    · rw [if_neg (fun z => hz z.2)]
      exact ev_neg (by omega) bad
theorem FnExactCutsOfSigns : laws_FnExactCutsOfSigns.Pure := by
  intro a0 l1 _ _ _ _
  apply Ev.rounds
  by_cases h : (a0.size : Int) > 1048576
  · exact ev_pos h (Ev.now _)
  by_cases h2 : (l1.length : Int) > 1048576
  · exact ev_neg h (ev_pos h2 (Ev.now _))
  have hl : l1.length ≤ 1048576 := by omega
  have key : ∀ (l : List Int) (b : Bool), l.length ≤ 1048576 → Ev (fun k => spec_CutsOfSigns.f k a0 l1) (l, b) → Ev (fun k => impl_CutsOfSigns.f k a0 l1) (l, b) → Ev (fun k => laws_FnExactCutsOfSigns.f k a0 l1) true := by
    intro l b hl1 hs hi
    have hc := toIntS_ev l1 hl
    have he := eqIntS_self l (by omega)
    have he1 := eqIntS_self l1 (by omega)
    obtain ⟨l', hm, hh⟩ := mark_held l (by omega)
    obtain ⟨l1', hm1, hh1⟩ := mark_held l1 (by omega)
    refine ev_neg h (ev_neg h2 (Ev.bind hc (Ev.bind hs (Ev.bind hc (Ev.bind hi (Ev.bind he (ev_pos rfl ?_)))))))
    rw [bne_self_eq_false]
    refine Ev.step (fun f => laws_FnExactCutsOfSigns.j0.eq_2 ..) (ev_neg (by decide) (Ev.bind hc (Ev.bind he1 (ev_pos rfl (Ev.bind hm1 (ev_neg (by omega) (Ev.bind he (ev_pos rfl ?_))))))))
    rw [bne_self_eq_false]
    refine Ev.step (fun f => laws_FnExactCutsOfSigns.j1.eq_2 ..) (ev_neg (by decide) (Ev.bind hm (Ev.bind hh (ev_neg (by omega) (ev_pos rfl ?_)))))
    refine Ev.bind hc (Ev.bind hi (Ev.bind he (ev_pos rfl ?_)))
    rw [bne_self_eq_false]
    exact Ev.step (fun f => laws_FnExactCutsOfSigns.j2.eq_2 ..) (ev_neg (by decide) (Ev.bind hh (ev_neg (by omega) (ev_pos rfl (Ev.now _)))))
  have hq := cutsRes_len a0 l1
  have hs := spec_cuts a0 l1 hl
  have hi := impl_cuts a0 l1 hl
  generalize cutsRes a0 l1 = p at hq hs hi
  obtain ⟨p1, p2⟩ := p
  exact key p1 p2 (Nat.le_trans hq hl) hs hi
end Go.Proofs.YtlhilhimpbfllaaDoor.Pure
