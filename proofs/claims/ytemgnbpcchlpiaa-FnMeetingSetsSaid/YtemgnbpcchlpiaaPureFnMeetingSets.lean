/- Sets that all meet are as many as told, and no colour of a colouring has more: for every input; there are no conditions. -/
import Derived.Test.YtemgnbpcchlpiaaQFnMeetingSetsColoured
import Derived.Test.YtemgnbpcchlpiaaQFnMeetingSetsEkr
namespace Go.Proofs.Ytemgnbpcchlpiaa.Pure
open Go.RowKit Go.Proofs.YtemgnbpcchlpiaaOwn Go.Proofs.Ytemgnbpcchlpiaa.PFnMeetingSets Go.Proofs.YtemgnbpcchlpiaaW.PrintWords Go.Proofs.YtemgnbpcchlpiaaW.PrintLast Go.Proofs.YtemgnbpcchlpiaaW.PrintMore Go.Proofs.Ytemgnbpcchlpiaa.QFnMeetingSets
set_option linter.unusedVariables false
set_option linter.unusedSectionVars false
set_option maxRecDepth 100000
/-- Sets that all meet. -/
def meet (n : Nat) (k : Int) : List Int := (setL n k).filter fun x => decide (2 * k > (n : Int)) || decide (x % 2 = 1)
theorem meet_ok : ((List.range 9).all fun n => (List.range 9).all fun k => decide (k = 0) || decide (n < k) || ((meet n (k : Int)).all fun a => (meet n (k : Int)).all fun b => decide (a.toNat &&& b.toNat ≠ 0)) && decide ((meet n (k : Int)).length = if 2 * k > n then chs n k else chs (n - 1) (k - 1)) && decide ((setL n (k : Int)).length = chs n k)) = true := by decide +kernel
theorem choose_ok : ((List.range 9).all fun n => (List.range 9).all fun k => decide (n < k) || decide (impl_choose.f 12 (n : Int) (k : Int) = some ((chs n k : Nat) : Int))) = true := by decide +kernel
theorem choose_ev {n k : Nat} (hn : n ≤ 8) (hk : k ≤ n) : Ev (fun f => impl_choose.f f (n : Int) (k : Int)) ((chs n k : Nat) : Int) := by
  have := List.all_eq_true.1 (List.all_eq_true.1 choose_ok n (List.mem_range.2 (by omega))) k (List.mem_range.2 (by omega))
  rw [decide_eq_false (by omega), Bool.false_or] at this
  exact ev_mono (g := fun f => impl_choose.f f (n : Int) (k : Int)) (K := 12) (fun f => impl_choose.mono _ _ _) (of_decide_eq_true this)
theorem q_eq {n k x : Int} (hk : -100 ≤ k) (hk2 : k ≤ 100) (hx : ∃ y : Nat, x = (y : Int) ∧ y < 256) : impl_MeetingSets.q n k x = !(decide (2 * k > n) || decide (x % 2 = 1)) := by
  obtain ⟨y, e, hy⟩ := hx
  have hb : Go.bits .and .i64 x 1 = ((y &&& 1 : Nat) : Int) := by rw [e]; exact and_i64 y 1 hy (by omega)
  have h1 : y &&& 1 = y % 2 := Nat.and_one_is_mod y
  have e0 : rd [k] 0 = k := rd_one k
  have e1 : rd [n] 0 = n := rd_one n
  unfold impl_MeetingSets.q impl_MeetingSets_1.f
  rw [if_pos (by simp), if_pos (by simp), e0, e1, wr (show -9223372036854775808 ≤ 2 * k by omega) (by omega), hb, h1]
  by_cases hc : 2 * k ≤ n
  · rw [if_pos hc, decide_eq_false (by omega), Bool.false_or, Option.getD_some]
    rcases Nat.mod_two_eq_zero_or_one y with h2 | h2
    · rw [h2, decide_eq_false (by omega)]; rfl
    · rw [h2, decide_eq_true (by omega)]; rfl
  · rw [if_neg hc, decide_eq_true (by omega), Bool.true_or]; rfl
theorem meetI_ev {n : Nat} {k : Int} (hg : items (n : Int) k = true) : Ev (fun f => impl_MeetingSets.f f (n : Int) k) (meet n k, true) := by
  obtain ⟨⟨n1, n2⟩, k1, k2⟩ := items_in hg
  have hn : n < 9 := by omega
  refine ev_bind0 (items_eq _ _) (ev_pos hg (Ev.bind (setsOf_ev n k hn) (ev_pos (setL_some (by omega) (by omega) k2) (ev_eq (Ev.now _) ?_))))
  unfold meet
  rw [List.filter_congr fun x hx => by rw [q_eq (by omega) (by omega) (setL_small hn x hx), Bool.not_not]]
theorem kn_loop (n : Nat) (k : Int) (hk : -100 ≤ k) (hk2 : k ≤ 100) (T : List Int) (hT : T.length ≤ 1000) (hm : ∀ y ∈ T, ∃ x : Nat, y = (x : Int) ∧ x < 256) : ∀ (d i : Nat) (acc : List Int), i + d = T.length → acc.length ≤ i →
    Ev (fun f => spec_knMeeting.l0 f (n : Int) k acc T (T.length : Int) (i : Int)) (acc ++ (T.drop i).filter fun x => decide (2 * k > (n : Int)) || decide (x % 2 = 1))
  | 0, i, acc, h, ha => Ev.step (fun f => spec_knMeeting.l0.eq_2 ..) (ev_neg (by omega) (ev_eq (Ev.now _) (by rw [List.drop_eq_nil_of_le (by omega)]; simp)))
  | d + 1, i, acc, h, ha => by
    have hlt : i < T.length := by omega
    obtain ⟨x, ex, hx⟩ := hm _ (List.getElem_mem hlt)
    refine Ev.step (fun f => spec_knMeeting.l0.eq_2 ..) (ev_pos (by omega) (ev_pos (by omega) (ev_pos (by omega) ?_)))
    rw [rd_at hlt, List.drop_eq_getElem_cons hlt, List.filter_cons, wr (show -9223372036854775808 ≤ (i : Int) + 1 by omega) (by omega), wr (show -9223372036854775808 ≤ 2 * k by omega) (by omega)]
    have yes := kn_loop n k hk hk2 T hT hm d (i + 1) (acc ++ [T[i]]) (by omega) (by simp; omega)
    have no := kn_loop n k hk hk2 T hT hm d (i + 1) acc (by omega) (by omega)
    rw [List.append_assoc, List.singleton_append] at yes
    have ht : Int.tmod T[i] 2 = T[i] % 2 := by rw [ex]; exact Int.tmod_eq_emod_of_nonneg (by omega)
    by_cases h1 : 2 * k > (n : Int)
    · rw [decide_eq_true h1, Bool.true_or, if_pos rfl]
      rw [decide_eq_true h1] at yes
      exact ev_pos h1 (ev_pos (by omega) yes)
    · rw [decide_eq_false h1, Bool.false_or]
      rw [decide_eq_false h1] at yes no
      refine ev_neg h1 ?_
      rw [ht]
      by_cases h2 : T[i] % 2 = 1
      · rw [decide_eq_true h2, if_pos rfl]
        exact ev_pos h2 (ev_pos (by omega) yes)
      · rw [decide_eq_false h2, if_neg (by decide)]
        exact ev_neg h2 no
theorem knMeet_ev {n : Nat} {k : Int} (hg : items (n : Int) k = true) : Ev (fun f => spec_knMeeting.f f (n : Int) k) (meet n k) := by
  obtain ⟨⟨n1, n2⟩, k1, k2⟩ := items_in hg
  have hn : n < 9 := by omega
  have hl := setL_len k hn
  have := kn_loop n k (by omega) (by omega) (setL n k) (by omega) (setL_small hn) (setL n k).length 0 [] (by omega) (by simp)
  rw [List.drop_zero, List.nil_append] at this
  exact Ev.bind (knSets_ev n k hn) this
/-- How many sets all meet at most. -/
def mostM (n k : Nat) : Nat := if 2 * k > n then chs n k else chs (n - 1) (k - 1)
theorem meet_facts {n k : Nat} (hn : n ≤ 8) (hk : 1 ≤ k) (hkn : k ≤ n) : (∀ a ∈ meet n (k : Int), ∀ b ∈ meet n (k : Int), a.toNat &&& b.toNat ≠ 0) ∧ (meet n (k : Int)).length = mostM n k ∧ (setL n (k : Int)).length = chs n k := by
  have := List.all_eq_true.1 (List.all_eq_true.1 meet_ok n (List.mem_range.2 (by omega))) k (List.mem_range.2 (by omega))
  rw [decide_eq_false (by omega), decide_eq_false (by omega), Bool.false_or, Bool.false_or, Bool.and_eq_true, Bool.and_eq_true] at this
  exact ⟨fun a ha b hb => of_decide_eq_true (List.all_eq_true.1 (List.all_eq_true.1 this.1.1 a ha) b hb), of_decide_eq_true this.1.2, of_decide_eq_true this.2⟩
theorem most_ev {n k : Nat} (hn : n ≤ 8) (hk : 1 ≤ k) (hkn : k ≤ n) (hg : items (n : Int) (k : Int) = true) : Ev (fun f => impl_MostMeeting.f f (n : Int) (k : Int)) (((mostM n k : Nat) : Int), true) := by
  refine ev_bind0 (items_eq _ _) (ev_pos hg ?_)
  rw [wr (show -9223372036854775808 ≤ 2 * (k : Int) by omega) (by omega), wr (show -9223372036854775808 ≤ (n : Int) - 1 by omega) (by omega), wr (show -9223372036854775808 ≤ (k : Int) - 1 by omega) (by omega)]
  unfold mostM
  by_cases h : 2 * k > n
  · rw [if_pos h]
    exact ev_pos (by omega) (Ev.bind (choose_ev hn hkn) (Ev.now _))
  · rw [if_neg h, show (n : Int) - 1 = ((n - 1 : Nat) : Int) by omega, show (k : Int) - 1 = ((k - 1 : Nat) : Int) by omega]
    exact ev_neg (by omega) (Ev.bind (choose_ev (by omega) (by omega)) (Ev.now _))
theorem same_loop (a : List Int) (ha : a.length ≤ 10000) : ∀ d i : Nat, i + d = a.length → Ev (fun f => laws_uSame.l0 f a a (a.length : Int) (i : Int)) true
  | 0, i, h => Ev.step (fun f => laws_uSame.l0.eq_2 ..) (ev_neg (by omega) (Ev.now _))
  | d + 1, i, h => by
    refine Ev.step (fun f => laws_uSame.l0.eq_2 ..) (ev_pos (by omega) (ev_pos (by omega) (ev_pos (by omega) (ev_pos (by omega) (ev_pos rfl ?_)))))
    rw [wr (show -9223372036854775808 ≤ (i : Int) + 1 by omega) (by omega)]
    exact same_loop a ha d (i + 1) (by omega)
theorem same_ev (a : List Int) (ha : a.length ≤ 10000) : Ev (fun f => laws_uSame.f f a a) true := ev_pos rfl (same_loop a ha a.length 0 (by omega))
theorem apart_ev {a b : Nat} (ha : a < 256) (hb : b < 256) : impl_AreApart.f (a : Int) (b : Int) = some (decide (a &&& b = 0), true) := by
  unfold impl_AreApart.f
  rw [in_impl, Option.bind_some, decide_eq_true (by omega), if_pos rfl, in_impl, Option.bind_some, decide_eq_true (by omega), if_pos rfl, and_i64 a b ha hb]
  by_cases h : a &&& b = 0
  · rw [h]; rfl
  · rw [decide_eq_false h, beq_eq_false_iff_ne.mpr (show (((a &&& b : Nat) : Int)) ≠ 0 by omega)]
theorem count_loop (L : List Int) (g x : Int) (hL : L.length ≤ 1000) (i0 : Int) (R : Bool) (cont : Ev (fun f => laws_FnMeetingSets.l2 f L g L (L.length : Int) (wrap64 (i0 + 1))) R) : ∀ (d i c : Nat), i + d = L.length → c ≤ i → ((c : Int) + ((L.drop i).countP fun y => decide (x = y) : Nat) ≤ g) →
    Ev (fun f => laws_FnMeetingSets.l3 f L g x (c : Int) L (L.length : Int) i0 L (L.length : Int) (i : Int)) R
  | 0, i, c, h, hc, hg => by
    rw [List.drop_eq_nil_of_le (by omega), List.countP_nil] at hg
    exact Ev.step (fun f => laws_FnMeetingSets.l3.eq_2 ..) (ev_neg (by omega) (ev_neg (by omega) cont))
  | d + 1, i, c, h, hc, hg => by
    have hlt : i < L.length := by omega
    rw [List.drop_eq_getElem_cons hlt, List.countP_cons] at hg
    refine Ev.step (fun f => laws_FnMeetingSets.l3.eq_2 ..) (ev_pos (by omega) (ev_pos (by omega) (ev_pos (by omega) ?_)))
    rw [rd_at hlt, wr (show -9223372036854775808 ≤ (i : Int) + 1 by omega) (by omega), wr (show -9223372036854775808 ≤ (c : Int) + 1 by omega) (by omega)]
    by_cases hx : x = L[i]
    · rw [decide_eq_true hx, if_pos rfl] at hg
      exact ev_pos hx (count_loop L g x hL i0 R cont d (i + 1) (c + 1) (by omega) (by omega) (by omega))
    · rw [decide_eq_false hx, if_neg (by decide)] at hg
      exact ev_neg hx (count_loop L g x hL i0 R cont d (i + 1) c (by omega) (by omega) (by omega))
theorem colour_loop (L : List Int) (g : Int) (hL : L.length ≤ 1000) (hg : ∀ x : Int, ((L.countP fun y => decide (x = y) : Nat) : Int) ≤ g) : ∀ (d i : Nat), i + d = L.length → Ev (fun f => laws_FnMeetingSets.l2 f L g L (L.length : Int) (i : Int)) true
  | 0, i, h => Ev.step (fun f => laws_FnMeetingSets.l2.eq_2 ..) (ev_neg (by omega) (Ev.now _))
  | d + 1, i, h => by
    refine Ev.step (fun f => laws_FnMeetingSets.l2.eq_2 ..) (ev_pos (by omega) (ev_pos (by omega) (ev_pos (by omega) ?_)))
    refine count_loop L g _ hL (i : Int) true ?_ L.length 0 0 (by omega) (by omega) (by rw [List.drop_zero]; have := hg (rd L (i : Int)); omega)
    rw [wr (show -9223372036854775808 ≤ (i : Int) + 1 by omega) (by omega)]
    exact colour_loop L g hL hg d (i + 1) (by omega)
theorem end_ev {l : List Int} (h : U8 l) : Ev (fun k => (spec_DrawIsColouring.f k l).bind fun bt276 => ((impl_IsColouring.f k bt276.1 bt276.2.1 bt276.2.2).bind fun bt281 => ((impl_MostMeeting.f k bt276.1 bt276.2.1).bind fun bt283 => (if bt281.2 = true then (if bt281.1 = true then (laws_FnMeetingSets.j3 k bt276.2.2 bt283.1 (!bt283.2)) else (laws_FnMeetingSets.j3 k bt276.2.2 bt283.1 true)) else (laws_FnMeetingSets.j3 k bt276.2.2 bt283.1 true))))) true := by
  obtain ⟨⟨n, k, L, a, s⟩, hr, hl⟩ := coloured_ev h
  have hd : Ev (fun f => spec_DrawIsColouring.f f l) (n, k, L) := Ev.bind hr (Ev.now _)
  refine Ev.bind hd ?_
  dsimp only at hl ⊢
  have skip : ∀ g : Int, Ev (fun f => laws_FnMeetingSets.j3 f L g true) true := fun g => Ev.step (fun f => laws_FnMeetingSets.j3.eq_2 ..) (ev_pos rfl (Ev.now _))
  cases hg : items n k with
  | false =>
    have hm : Ev (fun f => impl_MostMeeting.f f n k) (0, false) := ev_bind0 (items_eq n k) (ev_neg (by rw [hg]; decide) (Ev.now _))
    exact Ev.bind (isCol_bad hg L) (Ev.bind hm (ev_neg (by decide) (skip _)))
  | true =>
    obtain ⟨⟨n1, n2⟩, k1, k2⟩ := items_in hg
    obtain ⟨n', en⟩ := Int.eq_ofNat_of_zero_le (show 0 ≤ n by omega)
    obtain ⟨k', ek⟩ := Int.eq_ofNat_of_zero_le (show 0 ≤ k by omega)
    subst en ek
    have hm := most_ev (n := n') (k := k') (by omega) (by omega) (by omega) hg
    obtain ⟨b, hb, hb2⟩ := isCol_ev hg L (by omega)
    refine Ev.bind hb (Ev.bind hm (ev_pos rfl ?_))
    cases b with
    | false => exact ev_neg (by decide) (skip _)
    | true =>
      obtain ⟨hlen, hap⟩ := hb2 rfl
      refine ev_pos rfl (Ev.step (fun f => laws_FnMeetingSets.j3.eq_2 ..) (ev_neg Bool.false_ne_true ?_))
      refine colour_loop L ((mostM n' k' : Nat) : Int) (by omega) (fun x => ?_) L.length 0 (by omega)
      have hf := meet_facts (n := n') (k := k') (by omega) (by omega) (by omega)
      have hle : L.countP (fun y => decide (x = y)) ≤ mostM n' k' := by
        unfold mostM
        by_cases h2 : 2 * k' > n'
        · rw [if_pos h2, ← hf.2.2, ← hlen]
          exact List.countP_le_length
        · rw [if_neg h2]
          exact ekr (by omega) (by omega) (by omega) L hlen (fun i j h1 h3 h4 => hap i j (by omega) h1 (by omega) h4) x
      exact Int.ofNat_le.2 hle
theorem pairs_in {l1 M : List Int} (hM : M.length ≤ 1000) (hs : ∀ y ∈ M, ∃ x : Nat, y = (x : Int) ∧ x < 256) (hm : ∀ a ∈ M, ∀ b ∈ M, a.toNat &&& b.toNat ≠ 0) (i : Nat) (hi : i < M.length) (R : Bool) (cont : Ev (fun f => laws_FnMeetingSets.l0 f l1 M M (M.length : Int) ((i : Int) + 1)) R) :
    ∀ d j : Nat, j + d = i → Ev (fun f => laws_FnMeetingSets.l1 f l1 M (rd M (i : Int)) M (M.length : Int) (i : Int) (M.take i) ((M.take i).length : Int) (j : Int)) R
  | 0, j, h => by
    have hl : (M.take i).length = i := by rw [List.length_take]; omega
    rw [hl]
    refine Ev.step (fun f => laws_FnMeetingSets.l1.eq_2 ..) (ev_neg (by omega) ?_)
    rw [wr (show -9223372036854775808 ≤ (i : Int) + 1 by omega) (by omega)]
    exact cont
  | d + 1, j, h => by
    have ih := pairs_in hM hs hm i hi R cont d (j + 1) (by omega)
    have hl : (M.take i).length = i := by rw [List.length_take]; omega
    rw [hl] at ih ⊢
    have hj : j < (M.take i).length := by omega
    have e2 : rd (M.take i) (j : Int) = M[j] := by rw [rd_at hj, List.getElem_take]
    obtain ⟨x, ex, hx⟩ := hs _ (List.getElem_mem hi)
    obtain ⟨y, ey, hy⟩ := hs _ (List.getElem_mem (show j < M.length by omega))
    have hn := hm _ (List.getElem_mem hi) _ (List.getElem_mem (show j < M.length by omega))
    rw [ex, ey, Int.toNat_natCast, Int.toNat_natCast] at hn
    have ha : impl_AreApart.f (rd M (i : Int)) (rd (M.take i) (j : Int)) = some (false, true) := by
      rw [e2, rd_at hi, ex, ey, apart_ev hx hy, decide_eq_false hn]
    refine Ev.step (fun f => laws_FnMeetingSets.l1.eq_2 ..) (ev_pos (by omega) (ev_pos (by omega) (ev_pos (by rw [hl]; omega) (ev_bind0 ha (ev_pos rfl (ev_neg (by decide) ?_))))))
    rw [wr (show -9223372036854775808 ≤ (j : Int) + 1 by omega) (by omega)]
    exact ih
theorem pairs_out {l1 M : List Int} (h : U8 l1) (hM : M.length ≤ 1000) (hs : ∀ y ∈ M, ∃ x : Nat, y = (x : Int) ∧ x < 256) (hm : ∀ a ∈ M, ∀ b ∈ M, a.toNat &&& b.toNat ≠ 0) : ∀ d i : Nat, i + d = M.length → Ev (fun f => laws_FnMeetingSets.l0 f l1 M M (M.length : Int) (i : Int)) true
  | 0, i, hi => Ev.step (fun f => laws_FnMeetingSets.l0.eq_2 ..) (ev_neg (by omega) (end_ev h))
  | d + 1, i, hi => by
    refine Ev.step (fun f => laws_FnMeetingSets.l0.eq_2 ..) (ev_pos (by omega) (ev_pos (by omega) (ev_pos (by omega) (ev_pos (by omega) (ev_bind0 rfl ?_)))))
    rw [Int.toNat_natCast]
    exact pairs_in hM hs hm i (by omega) true (pairs_out h hM hs hm d (i + 1) (by omega)) i 0 (by omega)
theorem FnMeetingSets : laws_FnMeetingSets.Pure := by
  intro l0 l1 _ _ u0 _ _ u1
  apply Ev.rounds
  obtain ⟨b, hb⟩ : ∃ b, laws_big.f l0 l1 = some b := by
    unfold laws_big.f
    split <;> exact ⟨_, rfl⟩
  refine ev_bind0 hb ?_
  cases b with
  | true => exact ev_pos rfl (Ev.now _)
  | false =>
    refine ev_neg (by decide) ?_
    obtain ⟨n, k, a, s, e0, _, _⟩ := sets_ev u0 0 7 (Int.le_refl 0) (by decide)
    have hd : spec_DrawMeetingSets.f l0 = some (n, k) := by
      unfold spec_DrawMeetingSets.f spec_DrawSetsOf.f
      rw [e0]; rfl
    refine ev_bind0 hd ?_
    cases hg : items n k with
    | false =>
      have h1 : Ev (fun f => impl_MeetingSets.f f n k) ([], false) := ev_bind0 (items_eq n k) (ev_neg (by rw [hg]; decide) (Ev.now _))
      have h2 : Ev (fun f => spec_MeetingSets.f f n k) ([], false) := ev_bind0 (given_eq n k) (ev_neg (by rw [hg]; decide) (Ev.now _))
      have h3 : Ev (fun f => impl_MostMeeting.f f n k) (0, false) := ev_bind0 (items_eq n k) (ev_neg (by rw [hg]; decide) (Ev.now _))
      have h4 : Ev (fun f => spec_MostMeeting.f f n k) (0, false) := ev_bind0 (given_eq n k) (ev_neg (by rw [hg]; decide) (Ev.now _))
      refine Ev.bind h1 (Ev.bind h2 (Ev.bind h3 (Ev.bind h4 (ev_neg (by decide) (Ev.bind (same_ev [] (by simp)) (ev_pos rfl (ev_neg (by decide) (ev_pos rfl ?_))))))))
      exact Ev.step (fun f => laws_FnMeetingSets.j0.eq_2 ..) (ev_neg (by decide) (ev_neg (by decide) (Ev.now _)))
    | true =>
      obtain ⟨⟨n1, n2⟩, k1, k2⟩ := items_in hg
      obtain ⟨n', en⟩ := Int.eq_ofNat_of_zero_le (show 0 ≤ n by omega)
      obtain ⟨k', ek⟩ := Int.eq_ofNat_of_zero_le (show 0 ≤ k by omega)
      subst en ek
      have hf := meet_facts (n := n') (k := k') (by omega) (by omega) (by omega)
      have hlen : (meet n' (k' : Int)).length ≤ 256 := Nat.le_trans (List.length_filter_le _ _) (setL_len _ (by omega))
      have h1 := meetI_ev hg
      have h2 : Ev (fun f => spec_MeetingSets.f f (n' : Int) (k' : Int)) (meet n' (k' : Int), true) := ev_bind0 (given_eq _ _) (ev_pos hg (Ev.bind (knMeet_ev hg) (Ev.now _)))
      have h3 := most_ev (n := n') (k := k') (by omega) (by omega) (by omega) hg
      have h4 : Ev (fun f => spec_MostMeeting.f f (n' : Int) (k' : Int)) (((mostM n' k' : Nat) : Int), true) := ev_bind0 (given_eq _ _) (ev_pos hg (Ev.bind (knMeet_ev hg) (ev_eq (Ev.now _) (by rw [hf.2.1]))))
      refine Ev.bind h1 (Ev.bind h2 (Ev.bind h3 (Ev.bind h4 (ev_neg Bool.false_ne_true (Ev.bind (same_ev (meet n' (k' : Int)) (by omega)) (ev_pos rfl (ev_neg Bool.false_ne_true (ev_pos rfl ?_))))))))
      refine Ev.step (fun f => laws_FnMeetingSets.j0.eq_2 ..) (ev_neg Bool.false_ne_true (ev_pos rfl (ev_pos (by dsimp only; rw [hf.2.1]) ?_)))
      exact pairs_out (M := meet n' (k' : Int)) u1 (by omega) (fun y hy => setL_small (by omega) y (List.mem_filter.1 hy).1) hf.1 (meet n' (k' : Int)).length 0 (by omega)
end Go.Proofs.Ytemgnbpcchlpiaa.Pure
