/- HalfWindow of the program returns what the reference's returns, for all texts; there are no conditions. -/
import Derived.Test.YtlhilhimpbfllabDoorQFnExactHalfWindowWindow
import Derived.Test.YtlhilhimpbfllabDoorQFnExactHalfWindowKindsB
namespace Go.Proofs.YtlhilhimpbfllabDoor.Pure
open Go.RowKit Go.Proofs.YtlhilhimpbfllabDoor.PFnExactHalfWindow Go.Proofs.YtlhilhimpbfllabDoorW.PrintWords Go.Proofs.YtlhilhimpbfllabDoorW.PrintLast Go.Proofs.YtlhilhimpbfllabDoorW.PrintMore Go.Proofs.YtlhilhimpbfllabDoor.QFnExactHalfWindow
set_option linter.unusedVariables false
set_option maxRecDepth 100000
/-- Is one of d numbers from the place i on odd? -/
def oddAt (l : List Int) : Nat → Nat → Bool
  | 0, _ => false
  | d + 1, i => if (rd l (i : Int)) % 2 = 1 then true else oddAt l d (i + 1)
theorem tmod2 {x : Int} (h : 0 ≤ x) : Int.tmod x 2 = x % 2 := Int.tmod_eq_emod_of_nonneg h
theorem even_loop (l : List Int) (hl : l.length ≤ 1000) (h0 : ∀ i : Nat, 0 ≤ rd l (i : Int)) : ∀ d i : Nat, i + d = l.length → Ev (fun k => spec_nlEven.l0 k l (l.length : Int) (i : Int)) (!oddAt l d i)
  | 0, i, h => Ev.step (fun f => spec_nlEven.l0.eq_2 ..) (ev_neg (by omega) (Ev.now _))
  | d + 1, i, h => by
    have h1 := h0 i
    refine Ev.step (fun f => spec_nlEven.l0.eq_2 ..) (ev_pos (by omega) (ev_pos (by omega) (ev_pos (by omega) ?_)))
    rw [tmod2 h1, wr (show -9223372036854775808 ≤ (i : Int) + 1 by omega) (by omega)]
    unfold oddAt
    by_cases hc : (rd l (i : Int)) % 2 = 1
    · rw [if_pos hc]; exact ev_pos hc (Ev.now _)
    · rw [if_neg hc]; exact ev_neg hc (even_loop l hl h0 d (i + 1) (by omega))
theorem odd_loop (l : List Int) (hl : l.length ≤ 1000) (h0 : ∀ i : Nat, 0 ≤ rd l (i : Int)) : ∀ d i : Nat, i + d = l.length → ∃ r : Int, Ev (fun k => slices_IndexFunc_int_int__impl_HalfWindow_1.l0 k l (l.length : Int) (i : Int)) r ∧ decide (r ≥ 0) = oddAt l d i
  | 0, i, h => ⟨-1, Ev.step (fun f => slices_IndexFunc_int_int__impl_HalfWindow_1.l0.eq_2 ..) (ev_neg (by omega) (Ev.now _)), rfl⟩
  | d + 1, i, h => by
    have h1 := h0 i
    have e1 : impl_HalfWindow_1.f (rd l (i : Int)) = some ((rd l (i : Int)) % 2 != 0) := by unfold impl_HalfWindow_1.f; rw [tmod2 h1]
    by_cases hc : (rd l (i : Int)) % 2 = 1
    · refine ⟨i, Ev.step (fun f => slices_IndexFunc_int_int__impl_HalfWindow_1.l0.eq_2 ..) (ev_pos (by omega) (ev_pos (by omega) (ev_pos (by omega) (ev_bind0 e1 (ev_pos (by rw [hc]; rfl) (Ev.now _)))))), ?_⟩
      unfold oddAt
      rw [if_pos hc]
      exact decide_eq_true (by omega)
    · obtain ⟨r, h2, h3⟩ := odd_loop l hl h0 d (i + 1) (by omega)
      refine ⟨r, Ev.step (fun f => slices_IndexFunc_int_int__impl_HalfWindow_1.l0.eq_2 ..) (ev_pos (by omega) (ev_pos (by omega) (ev_pos (by omega) (ev_bind0 e1 (ev_neg (by rw [show (rd l (i : Int)) % 2 = 0 by omega]; decide) ?_))))), ?_⟩
      · rw [wr (by omega) (by omega)]; exact h2
      · unfold oddAt
        rw [if_neg hc, h3]
/-- Are twice d of the numbers of the first list, from the place i on, those of the other? -/
def allF (ps qs : List Int) : Nat → Nat → Bool
  | 0, _ => true
  | d + 1, i => decide (2 * rd ps (i : Int) = rd qs (i : Int)) && allF ps qs d (i + 1)
theorem l1_loop (s : ByteArray) (ps qs : List Int) (a : Int) (R : Int × Bool) (hp : ps.length = 4) (hq : qs.length = 4) (hb : ∀ i : Nat, 0 ≤ rd ps (i : Int) ∧ rd ps (i : Int) ≤ 1000)
    (cont : Ev (fun k => spec_HalfWindow.l0 k s qs (wrap64 (a + 1))) R) : ∀ (d i : Nat) (h : Bool), i + d = 4 → Ev (fun k => spec_HalfWindow.l1 k s qs a h ps (ps.length : Int) (i : Int)) (if (h && allF ps qs d i) = true then (a, true) else R)
  | 0, i, h, e => by
    refine Ev.step (fun f => spec_HalfWindow.l1.eq_2 ..) (ev_neg (by omega) ?_)
    cases h with
    | true => exact ev_pos rfl (Ev.now _)
    | false => exact ev_neg (by decide) cont
  | d + 1, i, h, e => by
    have h1 := hb i
    refine Ev.step (fun f => spec_HalfWindow.l1.eq_2 ..) (ev_pos (by omega) (ev_pos (by omega) (ev_pos (by omega) ?_)))
    rw [wr (show -9223372036854775808 ≤ (i : Int) + 1 by omega) (by omega), wr (show -9223372036854775808 ≤ 2 * rd ps (i : Int) by omega) (by omega)]
    cases h with
    | true =>
      refine ev_pos rfl (ev_pos (by omega) ?_)
      have := l1_loop s ps qs a R hp hq hb cont d (i + 1) (2 * rd ps (i : Int) == rd qs (i : Int)) (by omega)
      rw [Bool.true_and]
      exact this
    | false =>
      refine ev_neg (by decide) ?_
      have := l1_loop s ps qs a R hp hq hb cont d (i + 1) false (by omega)
      rw [Bool.false_and] at this ⊢
      exact this
/-- The first of d windows, from the place a on, that has half of all. -/
def firstW (s : ByteArray) : Nat → Nat → Int × Bool
  | 0, _ => (0, false)
  | d + 1, a => if allF (cntL (winL s a (s.size / 2))) (cntL s.data.toList) 4 0 = true then ((a : Int), true) else firstW s d (a + 1)
theorem half_w (s : ByteArray) (hs : s.size ≤ 1000) : wrap64 ((s.size : Int) / 2) = ((s.size / 2 : Nat) : Int) := by rw [wr (by omega) (by omega)]; omega
theorem win_le (s : ByteArray) (hs : s.size ≤ 1000) (a n : Nat) (hn : n ≤ s.size) (i : Nat) : 0 ≤ rd (cntL (winL s a n)) (i : Int) ∧ rd (cntL (winL s a n)) (i : Int) ≤ 1000 := by
  have h1 := cntL_le (winL s a n) i
  have h2 : (winL s a n).length ≤ n := by unfold winL; rw [List.length_take]; omega
  omega
theorem spec_loop (s : ByteArray) (hb : beads s = true) (hs : s.size ≤ 100) : ∀ d a : Nat, a + d = s.size → Ev (fun k => spec_HalfWindow.l0 k s (cntL s.data.toList) (a : Int)) (firstW s d a)
  | 0, a, h => Ev.step (fun f => spec_HalfWindow.l0.eq_2 ..) (ev_neg (by omega) (Ev.now _))
  | d + 1, a, h => by
    refine Ev.step (fun f => spec_HalfWindow.l0.eq_2 ..) (ev_pos (by omega) ?_)
    rw [half_w s (by omega)]
    refine Ev.bind (nlWindow_ev s hb (by omega) (by omega) a (s.size / 2) (by omega) (by omega)) ?_
    have ih := spec_loop s hb hs d (a + 1) (by omega)
    have := l1_loop s (cntL (winL s a (s.size / 2))) (cntL s.data.toList) (a : Int) (firstW s d (a + 1)) (cntL_len _) (cntL_len _) (win_le s (by omega) a _ (by omega)) (by rw [wr (by omega) (by omega)]; exact ih) 4 0 true rfl
    rw [Bool.true_and] at this
    exact this
theorem impl_loop (s : ByteArray) (hb : beads s = true) (hs : s.size ≤ 100) : ∀ d a : Nat, a + d = s.size → Ev (fun k => impl_HalfWindow.l0 k s (s.size : Int) (a : Int)) (firstW s d a)
  | 0, a, h => Ev.step (fun f => impl_HalfWindow.l0.eq_2 ..) (ev_neg (by omega) (Ev.now _))
  | d + 1, a, h => by
    obtain ⟨t, ht1, ht2⟩ := window_ev s (by omega) a (s.size / 2) (by omega) (by omega)
    have hc := win_counts s hb hs a (s.size / 2) (by omega) (by omega) t ht2
    have hw := win_le s (by omega) a (s.size / 2) (by omega)
    have ih := impl_loop s hb hs d (a + 1) (by omega)
    refine Ev.step (fun f => impl_HalfWindow.l0.eq_2 ..) (ev_pos (by omega) (Ev.bind (counts_ev s hb (by omega)) ?_))
    rw [half_w s (by omega)]
    refine ev_bind0 ht1 (Ev.bind hc ?_)
    have w0 := hw 0
    have w1 := hw 1
    have w2 := hw 2
    have w3 := hw 3
    unfold firstW
    have l1 := cntL_len (winL s a (s.size / 2))
    have l2 := cntL_len s.data.toList
    generalize cntL (winL s a (s.size / 2)) = ps at *
    generalize cntL s.data.toList = qs at *
    have eA : allF ps qs 4 0 = (decide (2 * rd ps 0 = rd qs 0) && (decide (2 * rd ps 1 = rd qs 1) && (decide (2 * rd ps 2 = rd qs 2) && (decide (2 * rd ps 3 = rd qs 3) && true)))) := rfl
    have n0 : ((0 : Nat) : Int) = 0 := rfl
    have n1 : ((1 : Nat) : Int) = 1 := rfl
    have n2 : ((2 : Nat) : Int) = 2 := rfl
    have n3 : ((3 : Nat) : Int) = 3 := rfl
    rw [n0] at w0
    rw [n1] at w1
    rw [n2] at w2
    rw [n3] at w3
    rw [eA, wr (show -9223372036854775808 ≤ 2 * rd ps 0 by omega) (by omega), wr (show -9223372036854775808 ≤ 2 * rd ps 1 by omega) (by omega), wr (show -9223372036854775808 ≤ 2 * rd ps 2 by omega) (by omega), wr (show -9223372036854775808 ≤ 2 * rd ps 3 by omega) (by omega), wr (show -9223372036854775808 ≤ (a : Int) + 1 by omega) (by omega)]
    refine ev_pos (by omega) (ev_pos (by omega) ?_)
    by_cases c0 : 2 * rd ps 0 = rd qs 0
    · refine ev_pos c0 (ev_pos (by omega) (ev_pos (by omega) ?_))
      by_cases c1 : 2 * rd ps 1 = rd qs 1
      · refine ev_pos c1 (ev_pos (by omega) (ev_pos (by omega) ?_))
        by_cases c2 : 2 * rd ps 2 = rd qs 2
        · refine ev_pos c2 (ev_pos (by omega) (ev_pos (by omega) ?_))
          by_cases c3 : 2 * rd ps 3 = rd qs 3
          · rw [if_pos (by simp [c0, c1, c2, c3])]
            exact ev_pos c3 (Ev.now _)
          · rw [if_neg (by simp [c3])]
            exact ev_neg c3 ih
        · rw [if_neg (by simp [c2])]
          exact ev_neg c2 ih
      · rw [if_neg (by simp [c1])]
        exact ev_neg c1 ih
    · rw [if_neg (by simp [c0])]
      exact ev_neg c0 ih
theorem FnExactHalfWindow : laws_FnExactHalfWindow.Pure := by
  intro a0 _
  apply Ev.rounds
  by_cases h : (a0.size : Int) > 1048576
  · exact ev_pos h (Ev.now _)
  have key : ∀ (l : Int) (b : Bool), Ev (fun k => spec_HalfWindow.f k a0) (l, b) → Ev (fun k => impl_HalfWindow.f k a0) (l, b) → Ev (fun k => laws_FnExactHalfWindow.f k a0) true := by
    intro l b hs hi
    refine ev_neg h (Ev.bind hs (Ev.bind hi (ev_pos rfl (ev_neg ?_ (Ev.now _)))))
    rw [bne_self_eq_false]; decide
  have badS : Ev (fun k => spec_HalfWindow.j0 k a0 true) (0, false) := Ev.step (fun f => spec_HalfWindow.j0.eq_2 ..) (ev_pos rfl (Ev.now _))
  have badI : Ev (fun k => impl_HalfWindow.j0 k a0 true) (0, false) := Ev.step (fun f => impl_HalfWindow.j0.eq_2 ..) (ev_pos rfl (Ev.now _))
  have e := nlGood_ev a0
  have e2 := isNecklace_ev a0
  cases hn : neckl a0 with
  | false =>
    rw [hn] at e e2
    exact key 0 false (Ev.bind e (ev_neg (by decide) badS)) (ev_bind0 e2 (ev_neg (by decide) badI))
  | true =>
    rw [hn] at e e2
    have hb := neckl_beads hn
    have hs := neckl_size hn
    by_cases hz : a0.toList = ([] : List UInt8)
    · exact key 0 false (Ev.bind e (ev_pos rfl (ev_pos hz badS))) (ev_bind0 e2 (ev_pos rfl (ev_pos hz badI)))
    · have h0 : ∀ i : Nat, 0 ≤ rd (cntL a0.data.toList) (i : Int) := fun i => (cntL_le a0.data.toList i).1
      have hev : Ev (fun k => spec_nlEven.f k a0) (!oddAt (cntL a0.data.toList) 4 0) := Ev.bind (nlCounts_ev a0 hb (by omega)) (even_loop (cntL a0.data.toList) (by rw [cntL_len]; omega) h0 4 0 (by rw [cntL_len]))
      obtain ⟨r, hr1, hr2⟩ := odd_loop (cntL a0.data.toList) (by rw [cntL_len]; omega) h0 4 0 (by rw [cntL_len])
      have hod : Ev (fun k => slices_ContainsFunc_int_int__impl_HalfWindow_1.f k (cntL a0.data.toList)) (oddAt (cntL a0.data.toList) 4 0) := Ev.bind hr1 (ev_eq (Ev.now _) hr2)
      have hks := nlKinds_ev a0 hb (by omega)
      have hki := kinds_ev a0 hb (by omega)
      have hcn := counts_ev a0 hb (by omega)
      cases ho : oddAt (cntL a0.data.toList) 4 0 with
      | true =>
        rw [ho] at hev hod
        refine key 0 false (Ev.bind e (ev_pos rfl (ev_neg hz (Ev.bind hev (ev_neg (by decide) badS))))) (ev_bind0 e2 (ev_pos rfl (ev_neg hz (Ev.bind hki ?_))))
        by_cases hk : kn (cntL a0.data.toList) > 2
        · exact ev_pos hk badI
        · exact ev_neg hk (Ev.bind hcn (Ev.bind hod badI))
      | false =>
        rw [ho] at hev hod
        by_cases hk : kn (cntL a0.data.toList) > 2
        · refine key 0 false (Ev.bind e (ev_pos rfl (ev_neg hz (Ev.bind hev (ev_pos rfl (Ev.bind hks ?_)))))) (ev_bind0 e2 (ev_pos rfl (ev_neg hz (Ev.bind hki (ev_pos hk badI)))))
          rw [decide_eq_true hk]; exact badS
        · have r1 := spec_loop a0 hb (by omega) a0.size 0 (by omega)
          have r2 := impl_loop a0 hb (by omega) a0.size 0 (by omega)
          refine key (firstW a0 a0.size 0).1 (firstW a0 a0.size 0).2 (Ev.bind e (ev_pos rfl (ev_neg hz (Ev.bind hev (ev_pos rfl (Ev.bind hks ?_)))))) (ev_bind0 e2 (ev_pos rfl (ev_neg hz (Ev.bind hki (ev_neg hk (Ev.bind hcn (Ev.bind hod ?_)))))))
          · rw [decide_eq_false hk]
            exact Ev.step (fun f => spec_HalfWindow.j0.eq_2 ..) (ev_neg (by decide) (Ev.bind (nlCounts_ev a0 hb (by omega)) r1))
          · exact Ev.step (fun f => impl_HalfWindow.j0.eq_2 ..) (ev_neg (by decide) r2)
end Go.Proofs.YtlhilhimpbfllabDoor.Pure
