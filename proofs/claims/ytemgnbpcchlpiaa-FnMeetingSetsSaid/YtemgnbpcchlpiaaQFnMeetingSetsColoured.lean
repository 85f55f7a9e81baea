/- Colours as they are drawn; what the program tells of them. -/
import Derived.Test.YtemgnbpcchlpiaaQFnMeetingSetsColS
import Derived.Test.YtemgnbpcchlpiaaQFnMeetingSetsDraw
namespace Go.Proofs.Ytemgnbpcchlpiaa.QFnMeetingSets
open Go.RowKit Go.Proofs.YtemgnbpcchlpiaaOwn Go.Proofs.Ytemgnbpcchlpiaa.PFnMeetingSets Go.Proofs.YtemgnbpcchlpiaaW.PrintWords Go.Proofs.YtemgnbpcchlpiaaW.PrintLast Go.Proofs.YtemgnbpcchlpiaaW.PrintMore
set_option linter.unusedVariables false
set_option linter.unusedSimpArgs false
set_option maxRecDepth 100000
theorem own_ev (l : List Int) (h : l.length ≤ 10000) : spec_l1Own.f l = some l := by
  unfold spec_l1Own.f
  rw [Option.bind_some, if_pos (by simp; omega), List.nil_append]
theorem coloured_loop {l : List Int} (h : U8 l) (n k : Int) : ∀ (d i : Nat) (L : List Int) (a s : Int), i + d = L.length → L.length ≤ 1000 → 0 ≤ a → a + 2 * (d : Int) ≤ 4611686018427387000 → ∃ r : Int × Int × List Int × Int × Int, Ev (fun f => spec_l1Cur_coloured.l0 f n k L (L.length : Int) (i : Int) l a s) r ∧ r.2.2.1.length = L.length
  | 0, i, L, a, s, hi, hL, h0, h1 => ⟨(n, k, L, a, s), Ev.step (fun f => spec_l1Cur_coloured.l0.eq_2 ..) (ev_neg (by omega) (Ev.now _)), rfl⟩
  | d + 1, i, L, a, s, hi, hL, h0, h1 => by
    obtain ⟨v, a1, s1, e1, _, _, b1, c1⟩ := pick_ev h s 3 h0 (by omega)
    obtain ⟨r, hr, hl⟩ := coloured_loop h n k d (i + 1) (L.set i v) a1 s1 (by rw [List.length_set]; omega) (by rw [List.length_set]; omega) (by omega) (by omega)
    rw [List.length_set] at hr hl
    refine ⟨r, Ev.step (fun f => spec_l1Cur_coloured.l0.eq_2 ..) (ev_pos (by omega) (ev_bind0 e1 (ev_pos (by omega) (ev_pos (by omega) ?_)))), hl⟩
    rw [wr (show -9223372036854775808 ≤ (i : Int) + 1 by omega) (by omega), Int.toNat_natCast]
    exact hr
theorem coloured_ev {l : List Int} (h : U8 l) : ∃ r : Int × Int × List Int × Int × Int, Ev (fun f => spec_l1Cur_coloured.f f l 0 0) r ∧ r.2.2.1.length ≤ 300 := by
  obtain ⟨n, k, a, s, e0, b0, c0⟩ := sets_ev h 0 6 (Int.le_refl 0) (by decide)
  cases hg : items n k with
  | false => exact ⟨(n, k, [0], a, s), ev_bind0 e0 (ev_bind0 (given_eq n k) (ev_neg (by rw [hg]; decide) (Ev.now _))), by simp⟩
  | true =>
    obtain ⟨⟨n1, n2⟩, k1, k2⟩ := items_in hg
    obtain ⟨n', en⟩ := Int.eq_ofNat_of_zero_le (show 0 ≤ n by omega)
    subst en
    have hc := colS_ev (n := n') (k := k) (by omega) (by omega) k1 k2
    have hlen : ((setL n' k).map (col (few (n' : Int) k))).length ≤ 256 := by rw [List.length_map]; exact setL_len k (by omega)
    have hpos : 0 < ((setL n' k).map (col (few (n' : Int) k))).length := by rw [List.length_map]; exact setL_some (by omega) (by omega) k2
    generalize (setL n' k).map (col (few (n' : Int) k)) = L at hc hlen hpos
    obtain ⟨v, a1, s1, e1, v0, _, b1, c1⟩ := pick_ev h s 6 (show 0 ≤ a by omega) (by omega)
    suffices hs : ∃ r : Int × Int × List Int × Int × Int, Ev (fun f => if v = 0 then ((spec_l1Cur_pick.f l a1 s1 (L.length : Int)).bind fun bt219 => ((spec_l1Cur_pick.f l bt219.2.1 bt219.2.2 4).bind fun bt222 => (if 0 ≤ bt219.1 then (if bt219.1 < (L.length : Int) then (some ((n' : Int), k, (L.set (bt219.1 : Int).toNat (wrap64 (bt222.1 - 1))), bt222.2.1, bt222.2.2)) else (none)) else (none)))) else (if v = 1 then (if L.length < 17592186044416 then (some ((n' : Int), k, (L ++ [0]), a1, s1)) else (none)) else (if v = 2 then (spec_l1Cur_coloured.l0 f (n' : Int) k L (L.length : Int) 0 l a1 s1) else (some ((n' : Int), k, L, a1, s1))))) r ∧ r.2.2.1.length ≤ 300 by
      obtain ⟨r, hr, hl⟩ := hs
      exact ⟨r, ev_bind0 e0 (ev_bind0 (given_eq _ _) (ev_pos hg (Ev.bind hc (ev_bind0 (own_ev L (by omega)) (ev_bind0 e1 hr))))), hl⟩
    by_cases h0 : v = 0
    · obtain ⟨v2, a2, s2, e2, w0, w1, b2, c2⟩ := pick_ev h s1 (L.length : Int) (show 0 ≤ a1 by omega) (by omega)
      obtain ⟨v3, a3, s3, e3, _, _, b3, c3⟩ := pick_ev h s2 4 (show 0 ≤ a2 by omega) (by omega)
      refine ⟨_, ev_pos h0 (ev_bind0 e2 (ev_bind0 e3 (ev_pos w0 (ev_pos (show v2 < (L.length : Int) by omega) (Ev.now _))))), ?_⟩
      dsimp only
      rw [List.length_set]
      omega
    · by_cases h1 : v = 1
      · refine ⟨_, ev_neg h0 (ev_pos h1 (ev_pos (by omega) (Ev.now _))), ?_⟩
        dsimp only
        rw [List.length_append, List.length_singleton]
        omega
      · by_cases h2 : v = 2
        · obtain ⟨r, hr, hl⟩ := coloured_loop h (n' : Int) k L.length 0 L a1 s1 (by omega) (by omega) (by omega) (by omega)
          exact ⟨r, ev_neg h0 (ev_neg h1 (ev_pos h2 hr)), by omega⟩
        · exact ⟨_, ev_neg h0 (ev_neg h1 (ev_neg h2 (Ev.now _))), by dsimp only; omega⟩
theorem and_i64 (a b : Nat) (ha : a < 256) (hb : b < 256) : Go.bits .and .i64 (a : Int) (b : Int) = ((a &&& b : Nat) : Int) := by
  have hx : a &&& b ≤ a := Nat.and_le_left
  have h1 : (BitVec.ofInt 64 (a : Int)).toNat = a := by
    rw [BitVec.ofInt_natCast, BitVec.toNat_ofNat]; exact Nat.mod_eq_of_lt (by omega)
  have h2 : (BitVec.ofInt 64 (b : Int)).toNat = b := by
    rw [BitVec.ofInt_natCast, BitVec.toNat_ofNat]; exact Nat.mod_eq_of_lt (by omega)
  show IntKind.i64.wrap ((BitVec.ofInt 64 (a : Int) &&& BitVec.ofInt 64 (b : Int)).toNat : Int) = _
  rw [BitVec.toNat_and, h1, h2, i64_w]
  exact wr (x := ((a &&& b : Nat) : Int)) (by omega) (by omega)
/-- Is there no clash from here on? -/
def apartFrom (S L : List Int) (i : Nat) : Prop := ∀ i' j : Nat, i ≤ i' → i' < j → j < S.length → (S.getD i' 0).toNat &&& (S.getD j 0).toNat = 0 → L.getD i' 0 ≠ L.getD j 0
section
variable (S L : List Int) (hl : L.length = S.length) (hs : S.length ≤ 1000) (hm : ∀ y ∈ S, ∃ x : Nat, y = (x : Int) ∧ x < 256)
include hl hs hm
theorem fa_in (i : Nat) (hi : i < S.length) (u0 : List Int) (hu : u0 = [] → apartFrom S L (i + 1)) (cont : Ev (fun k => impl_firstApart.l0 k S L S (S.length : Int) ((i : Int) + 1)) u0) :
    ∀ d j : Nat, j + d = S.length → i < j → ∃ u, Ev (fun k => impl_firstApart.l1 k S L (i : Int) (rd S (i : Int)) (j : Int) S (S.length : Int) (i : Int)) u ∧ (u = [] → apartFrom S L (i + 1) ∧ ∀ j' : Nat, j ≤ j' → j' < S.length → (S.getD i 0).toNat &&& (S.getD j' 0).toNat = 0 → L.getD i 0 ≠ L.getD j' 0)
  | 0, j, h, hij => by
    refine ⟨u0, Ev.step (fun f => impl_firstApart.l1.eq_2 ..) (ev_neg (by omega) ?_), fun e => ⟨hu e, fun j' h1 h2 => by omega⟩⟩
    rw [wr (show -9223372036854775808 ≤ (i : Int) + 1 by omega) (by omega)]
    exact cont
  | d + 1, j, h, hij => by
    obtain ⟨u, hu1, hu2⟩ := fa_in i hi u0 hu cont d (j + 1) (by omega) (by omega)
    have hj : j < S.length := by omega
    obtain ⟨x, ex, hx⟩ := hm _ (List.getElem_mem hi)
    obtain ⟨y, ey, hy⟩ := hm _ (List.getElem_mem hj)
    have e1 : rd S (i : Int) = (x : Int) := by rw [rd_at hi, ex]
    have e2 : rd S (j : Int) = (y : Int) := by rw [rd_at hj, ey]
    have g1 : S.getD i 0 = (x : Int) := e1
    have g2 : S.getD j 0 = (y : Int) := e2
    have hb : Go.bits .and .i64 (rd S (i : Int)) (rd S (j : Int)) = ((x &&& y : Nat) : Int) := by rw [e1, e2]; exact and_i64 x y hx hy
    have next : Ev (fun k => impl_firstApart.l1 k S L (i : Int) (rd S (i : Int)) (wrap64 ((j : Int) + 1)) S (S.length : Int) (i : Int)) u := by
      rw [wr (show -9223372036854775808 ≤ (j : Int) + 1 by omega) (by omega)]
      exact hu1
    by_cases hc : Go.bits .and .i64 (rd S (i : Int)) (rd S (j : Int)) = 0
    · by_cases hd : rd L (i : Int) = rd L (j : Int)
      · exact ⟨_, Ev.step (fun f => impl_firstApart.l1.eq_2 ..) (ev_pos (by omega) (ev_pos (by omega) (ev_pos hc (ev_pos (by omega) (ev_pos (by omega) (ev_pos (by omega) (ev_pos hd (Ev.now _)))))))), fun e => by cases e⟩
      · refine ⟨u, Ev.step (fun f => impl_firstApart.l1.eq_2 ..) (ev_pos (by omega) (ev_pos (by omega) (ev_pos hc (ev_pos (by omega) (ev_pos (by omega) (ev_pos (by omega) (ev_neg hd next))))))), fun e => ⟨(hu2 e).1, fun j' h1 h2 h3 => ?_⟩⟩
        rcases Nat.eq_or_lt_of_le h1 with h4 | h4
        · subst h4
          exact hd
        · exact (hu2 e).2 j' h4 h2 h3
    · refine ⟨u, Ev.step (fun f => impl_firstApart.l1.eq_2 ..) (ev_pos (by omega) (ev_pos (by omega) (ev_neg hc next))), fun e => ⟨(hu2 e).1, fun j' h1 h2 h3 => ?_⟩⟩
      rcases Nat.eq_or_lt_of_le h1 with h4 | h4
      · subst h4
        rw [g1, g2, Int.toNat_natCast, Int.toNat_natCast] at h3
        rw [hb, h3] at hc
        exact absurd rfl hc
      · exact (hu2 e).2 j' h4 h2 h3
theorem fa_out : ∀ d i : Nat, i + d = S.length → ∃ u, Ev (fun k => impl_firstApart.l0 k S L S (S.length : Int) (i : Int)) u ∧ (u = [] → apartFrom S L i)
  | 0, i, h => ⟨[], Ev.step (fun f => impl_firstApart.l0.eq_2 ..) (ev_neg (by omega) (Ev.now _)), fun _ i' j h1 h2 h3 => by omega⟩
  | d + 1, i, h => by
    obtain ⟨u0, hu0, hu⟩ := fa_out d (i + 1) (by omega)
    obtain ⟨u, hu1, hu2⟩ := fa_in S L hl hs hm i (by omega) u0 hu hu0 d (i + 1) (by omega) (by omega)
    refine ⟨u, Ev.step (fun f => impl_firstApart.l0.eq_2 ..) (ev_pos (by omega) (ev_pos (by omega) (ev_pos (by omega) ?_))), fun e i' j h1 h2 h3 h4 => ?_⟩
    · rw [wr (show -9223372036854775808 ≤ (i : Int) + 1 by omega) (by omega)]
      exact hu1
    · rcases Nat.eq_or_lt_of_le h1 with h5 | h5
      · subst h5
        exact (hu2 e).2 j h2 h3 h4
      · exact (hu2 e).1 i' j h5 h2 h3 h4
end
theorem idx_loop (L : List Int) (hL : L.length ≤ 1000) : ∀ d i : Nat, i + d = L.length → ∃ r, Ev (fun k => slices_IndexFunc_int_int__impl_IsColouring_1.l0 k L (L.length : Int) (i : Int)) r
  | 0, i, h => ⟨-1, Ev.step (fun f => slices_IndexFunc_int_int__impl_IsColouring_1.l0.eq_2 ..) (ev_neg (by omega) (Ev.now _))⟩
  | d + 1, i, h => by
    obtain ⟨r, hr⟩ := idx_loop L hL d (i + 1) (by omega)
    by_cases hc : rd L (i : Int) < 0
    · exact ⟨_, Ev.step (fun f => slices_IndexFunc_int_int__impl_IsColouring_1.l0.eq_2 ..) (ev_pos (by omega) (ev_pos (by omega) (ev_pos (by omega) (ev_bind0 (show impl_IsColouring_1.f (rd L (i : Int)) = some (decide (rd L (i : Int) < 0)) from rfl) (ev_pos (decide_eq_true hc) (Ev.now _))))))⟩
    · refine ⟨r, Ev.step (fun f => slices_IndexFunc_int_int__impl_IsColouring_1.l0.eq_2 ..) (ev_pos (by omega) (ev_pos (by omega) (ev_pos (by omega) (ev_bind0 (show impl_IsColouring_1.f (rd L (i : Int)) = some (decide (rd L (i : Int) < 0)) from rfl) (ev_neg (by rw [decide_eq_false hc]; decide) ?_)))))⟩
      rw [wr (show -9223372036854775808 ≤ (i : Int) + 1 by omega) (by omega)]
      exact hr
theorem setL_small {n : Nat} {k : Int} (h : n < 9) : ∀ y ∈ setL n k, ∃ x : Nat, y = (x : Int) ∧ x < 256 := fun y hy => by
  have hp := pow_le h
  obtain ⟨x, e1, e2, e3⟩ := sel_mem _ _ _ hy
  exact ⟨x, e1, by omega⟩
theorem isCol_ev {n : Nat} {k : Int} (hg : items (n : Int) k = true) (L : List Int) (hL : L.length ≤ 1000) : ∃ b, Ev (fun f => impl_IsColouring.f f (n : Int) k L) (b, true) ∧ (b = true → L.length = (setL n k).length ∧ apartFrom (setL n k) L 0) := by
  obtain ⟨⟨n1, n2⟩, k1, k2⟩ := items_in hg
  have hn : n < 9 := by omega
  have h2 := setsOf_ev n k hn
  have h3 := setL_len k hn
  by_cases hl : (L.length : Int) = ((setL n k).length : Int)
  · obtain ⟨r, hr⟩ := idx_loop L hL L.length 0 (by omega)
    have hc : Ev (fun f => slices_ContainsFunc_int_int__impl_IsColouring_1.f f L) (decide (r ≥ 0)) := Ev.bind (g := fun f => slices_IndexFunc_int_int__impl_IsColouring_1.f f L) hr (Ev.now _)
    obtain ⟨u, hu1, hu2⟩ := fa_out (setL n k) L (by omega) (by omega) (setL_small hn) (setL n k).length 0 (by omega)
    by_cases hr0 : r ≥ 0
    · rw [decide_eq_true hr0] at hc
      exact ⟨false, ev_bind0 (items_eq _ _) (ev_pos hg (Ev.bind h2 (ev_pos hl (Ev.bind hc (ev_pos rfl (Ev.now _)))))), fun e => by cases e⟩
    · rw [decide_eq_false hr0] at hc
      exact ⟨decide (u = []), ev_bind0 (items_eq _ _) (ev_pos hg (Ev.bind h2 (ev_pos hl (Ev.bind hc (ev_neg (by decide) (Ev.bind (g := fun f => impl_firstApart.f f (setL n k) L) hu1 (Ev.now _))))))), fun e => ⟨by omega, hu2 (of_decide_eq_true e)⟩⟩
  · exact ⟨false, ev_bind0 (items_eq _ _) (ev_pos hg (Ev.bind h2 (ev_neg hl (Ev.now _)))), fun e => by cases e⟩
theorem isCol_bad {n k : Int} (hg : items n k = false) (L : List Int) : Ev (fun f => impl_IsColouring.f f n k L) (false, false) := ev_bind0 (items_eq _ _) (ev_neg (by rw [hg]; decide) (Ev.now _))
end Go.Proofs.Ytemgnbpcchlpiaa.QFnMeetingSets
