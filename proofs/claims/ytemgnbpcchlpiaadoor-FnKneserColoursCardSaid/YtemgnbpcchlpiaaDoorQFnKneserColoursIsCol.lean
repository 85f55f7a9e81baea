/- What the program tells of a colouring. -/
import Derived.Test.YtemgnbpcchlpiaaDoorQFnKneserColoursFew
namespace Go.Proofs.YtemgnbpcchlpiaaDoor.QFnKneserColours
open Go.RowKit Go.Proofs.YtemgnbpcchlpiaaDoorOwn Go.Proofs.YtemgnbpcchlpiaaDoor.PFnKneserColours Go.Proofs.YtemgnbpcchlpiaaDoorW.PrintWords Go.Proofs.YtemgnbpcchlpiaaDoorW.PrintLast Go.Proofs.YtemgnbpcchlpiaaDoorW.PrintMore
set_option linter.unusedVariables false
set_option linter.unusedSimpArgs false
set_option linter.unusedSectionVars false
set_option maxRecDepth 100000
theorem and_i64 (a b : Nat) (ha : a < 256) (hb : b < 256) : Go.bits .and .i64 (a : Int) (b : Int) = ((a &&& b : Nat) : Int) := by
  have hx : a &&& b ≤ a := Nat.and_le_left
  have h1 : (BitVec.ofInt 64 (a : Int)).toNat = a := by
    rw [BitVec.ofInt_natCast, BitVec.toNat_ofNat]; exact Nat.mod_eq_of_lt (by omega)
  have h2 : (BitVec.ofInt 64 (b : Int)).toNat = b := by
    rw [BitVec.ofInt_natCast, BitVec.toNat_ofNat]; exact Nat.mod_eq_of_lt (by omega)
  show IntKind.i64.wrap ((BitVec.ofInt 64 (a : Int) &&& BitVec.ofInt 64 (b : Int)).toNat : Int) = _
  rw [BitVec.toNat_and, h1, h2, i64_w]
  exact wr (x := ((a &&& b : Nat) : Int)) (by omega) (by omega)
/-- Is there no clash from here on? -/
def apartFrom (S L : List Int) (i : Nat) : Prop := ∀ i' j : Nat, i ≤ i' → i' < j → j < S.length → (S.getD i' 0).toNat &&& (S.getD j 0).toNat = 0 → L.getD i' 0 ≠ L.getD j 0
section
variable (S L : List Int) (hl : L.length = S.length) (hs : S.length ≤ 1000) (hm : ∀ y ∈ S, ∃ x : Nat, y = (x : Int) ∧ x < 256)
include hl hs hm
theorem fa_in (i : Nat) (hi : i < S.length) (u0 : List Int) (hu : u0 = [] ↔ apartFrom S L (i + 1)) (cont : Ev (fun k => impl_firstApart.l0 k S L S (S.length : Int) ((i : Int) + 1)) u0) :
    ∀ d j : Nat, j + d = S.length → i < j → ∃ u, Ev (fun k => impl_firstApart.l1 k S L (i : Int) (rd S (i : Int)) (j : Int) S (S.length : Int) (i : Int)) u ∧ (u = [] ↔ apartFrom S L (i + 1) ∧ ∀ j' : Nat, j ≤ j' → j' < S.length → (S.getD i 0).toNat &&& (S.getD j' 0).toNat = 0 → L.getD i 0 ≠ L.getD j' 0)
  | 0, j, h, hij => by
    refine ⟨u0, Ev.step (fun f => impl_firstApart.l1.eq_2 ..) (ev_neg (by omega) ?_), ⟨fun e => ⟨hu.1 e, fun j' h1 h2 => by omega⟩, fun e => hu.2 e.1⟩⟩
    rw [wr (show -9223372036854775808 ≤ (i : Int) + 1 by omega) (by omega)]
    exact cont
  | d + 1, j, h, hij => by
    obtain ⟨u, hu1, hu2⟩ := fa_in i hi u0 hu cont d (j + 1) (by omega) (by omega)
    have hj : j < S.length := by omega
    obtain ⟨x, ex, hx⟩ := hm _ (List.getElem_mem hi)
    obtain ⟨y, ey, hy⟩ := hm _ (List.getElem_mem hj)
    have e1 : rd S (i : Int) = (x : Int) := by rw [rdAt hi, ex]
    have e2 : rd S (j : Int) = (y : Int) := by rw [rdAt hj, ey]
    have g1 : S.getD i 0 = (x : Int) := e1
    have g2 : S.getD j 0 = (y : Int) := e2
    have hb : Go.bits .and .i64 (rd S (i : Int)) (rd S (j : Int)) = ((x &&& y : Nat) : Int) := by rw [e1, e2]; exact and_i64 x y hx hy
    have next : Ev (fun k => impl_firstApart.l1 k S L (i : Int) (rd S (i : Int)) (wrap64 ((j : Int) + 1)) S (S.length : Int) (i : Int)) u := by
      rw [wr (show -9223372036854775808 ≤ (j : Int) + 1 by omega) (by omega)]
      exact hu1
    by_cases hc : Go.bits .and .i64 (rd S (i : Int)) (rd S (j : Int)) = 0
    · by_cases hd : rd L (i : Int) = rd L (j : Int)
      · refine ⟨_, Ev.step (fun f => impl_firstApart.l1.eq_2 ..) (ev_pos (by omega) (ev_pos (by omega) (ev_pos hc (ev_pos (by omega) (ev_pos (by omega) (ev_pos (by omega) (ev_pos hd (Ev.now _)))))))), ⟨fun e => (by cases e), fun e => ?_⟩⟩
        refine absurd hd (e.2 j (Nat.le_refl _) hj ?_)
        rw [g1, g2, Int.toNat_natCast, Int.toNat_natCast]
        omega
      · refine ⟨u, Ev.step (fun f => impl_firstApart.l1.eq_2 ..) (ev_pos (by omega) (ev_pos (by omega) (ev_pos hc (ev_pos (by omega) (ev_pos (by omega) (ev_pos (by omega) (ev_neg hd next))))))), ⟨fun e => ⟨(hu2.1 e).1, fun j' h1 h2 h3 => ?_⟩, fun e => hu2.2 ⟨e.1, fun j' h1 => e.2 j' (by omega)⟩⟩⟩
        rcases Nat.eq_or_lt_of_le h1 with h4 | h4
        · subst h4
          exact hd
        · exact (hu2.1 e).2 j' h4 h2 h3
    · refine ⟨u, Ev.step (fun f => impl_firstApart.l1.eq_2 ..) (ev_pos (by omega) (ev_pos (by omega) (ev_neg hc next))), ⟨fun e => ⟨(hu2.1 e).1, fun j' h1 h2 h3 => ?_⟩, fun e => hu2.2 ⟨e.1, fun j' h1 => e.2 j' (by omega)⟩⟩⟩
      rcases Nat.eq_or_lt_of_le h1 with h4 | h4
      · subst h4
        rw [g1, g2, Int.toNat_natCast, Int.toNat_natCast] at h3
        rw [hb, h3] at hc
        exact absurd rfl hc
      · exact (hu2.1 e).2 j' h4 h2 h3
theorem fa_out : ∀ d i : Nat, i + d = S.length → ∃ u, Ev (fun k => impl_firstApart.l0 k S L S (S.length : Int) (i : Int)) u ∧ (u = [] ↔ apartFrom S L i)
  | 0, i, h => ⟨[], Ev.step (fun f => impl_firstApart.l0.eq_2 ..) (ev_neg (by omega) (Ev.now _)), ⟨fun _ i' j h1 h2 h3 => by omega, fun _ => rfl⟩⟩
  | d + 1, i, h => by
    obtain ⟨u0, hu0, hu⟩ := fa_out d (i + 1) (by omega)
    obtain ⟨u, hu1, hu2⟩ := fa_in S L hl hs hm i (by omega) u0 hu hu0 d (i + 1) (by omega) (by omega)
    refine ⟨u, Ev.step (fun f => impl_firstApart.l0.eq_2 ..) (ev_pos (by omega) (ev_pos (by omega) (ev_pos (by omega) ?_))), ⟨fun e i' j h1 h2 h3 h4 => ?_, fun e => hu2.2 ⟨fun i' j h1 h2 h3 h4 => e i' j (by omega) h2 h3 h4, fun j' h1 h2 h3 => e i j' (Nat.le_refl _) (by omega) h2 h3⟩⟩⟩
    · rw [wr (show -9223372036854775808 ≤ (i : Int) + 1 by omega) (by omega)]
      exact hu1
    · rcases Nat.eq_or_lt_of_le h1 with h5 | h5
      · subst h5
        exact (hu2.1 e).2 j h2 h3 h4
      · exact (hu2.1 e).1 i' j h5 h2 h3 h4
end
theorem idx_loop (L : List Int) (hL : L.length ≤ 1000) : ∀ d i : Nat, i + d = L.length → ∃ r, Ev (fun k => slices_IndexFunc_int_int__impl_IsColouring_1.l0 k L (L.length : Int) (i : Int)) r ∧ (r ≥ 0 ↔ ∃ x ∈ L.drop i, x < 0)
  | 0, i, h => ⟨-1, Ev.step (fun f => slices_IndexFunc_int_int__impl_IsColouring_1.l0.eq_2 ..) (ev_neg (by omega) (Ev.now _)), ⟨fun h => absurd h (by decide), fun ⟨x, hx, _⟩ => by rw [List.drop_eq_nil_of_le (by omega)] at hx; cases hx⟩⟩
  | d + 1, i, h => by
    obtain ⟨r, hr, hr2⟩ := idx_loop L hL d (i + 1) (by omega)
    have hlt : i < L.length := by omega
    rw [List.drop_eq_getElem_cons hlt]
    by_cases hc : rd L (i : Int) < 0
    · exact ⟨_, Ev.step (fun f => slices_IndexFunc_int_int__impl_IsColouring_1.l0.eq_2 ..) (ev_pos (by omega) (ev_pos (by omega) (ev_pos (by omega) (ev_bind0 (show impl_IsColouring_1.f (rd L (i : Int)) = some (decide (rd L (i : Int) < 0)) from rfl) (ev_pos (decide_eq_true hc) (Ev.now _)))))), ⟨fun _ => ⟨_, List.mem_cons_self .., by rw [rdAt hlt] at hc; exact hc⟩, fun _ => by omega⟩⟩
    · refine ⟨r, Ev.step (fun f => slices_IndexFunc_int_int__impl_IsColouring_1.l0.eq_2 ..) (ev_pos (by omega) (ev_pos (by omega) (ev_pos (by omega) (ev_bind0 (show impl_IsColouring_1.f (rd L (i : Int)) = some (decide (rd L (i : Int) < 0)) from rfl) (ev_neg (by rw [decide_eq_false hc]; decide) ?_))))), ?_⟩
      · rw [wr (show -9223372036854775808 ≤ (i : Int) + 1 by omega) (by omega)]
        exact hr
      · rw [hr2]
        rw [rdAt hlt] at hc
        exact ⟨fun ⟨x, h1, h2⟩ => ⟨x, List.mem_cons_of_mem _ h1, h2⟩, fun ⟨x, h1, h2⟩ => by
          rcases List.mem_cons.1 h1 with h3 | h3
          · rw [h3] at h2; exact absurd h2 hc
          · exact ⟨x, h3, h2⟩⟩
theorem isCol_ev {n : Nat} {k : Int} (hg : items (n : Int) k = true) (L : List Int) (hL : L.length ≤ 1000) : ∃ b, Ev (fun f => impl_IsColouring.f f (n : Int) k L) (b, true) ∧ (b = true ↔ L.length = (setL n k).length ∧ apartFrom (setL n k) L 0 ∧ ∀ x ∈ L, 0 ≤ x) := by
  obtain ⟨⟨n1, n2⟩, k1, k2⟩ := items_in hg
  have hn : n < 9 := by omega
  have h2 := setsOf_ev n k hn
  have h3 := setL_len k hn
  by_cases hl : (L.length : Int) = ((setL n k).length : Int)
  · obtain ⟨r, hr, hr2⟩ := idx_loop L hL L.length 0 (by omega)
    rw [List.drop_zero] at hr2
    have hc : Ev (fun f => slices_ContainsFunc_int_int__impl_IsColouring_1.f f L) (decide (r ≥ 0)) := Ev.bind (g := fun f => slices_IndexFunc_int_int__impl_IsColouring_1.f f L) hr (Ev.now _)
    obtain ⟨u, hu1, hu2⟩ := fa_out (setL n k) L (by omega) (by omega) (setL_small hn) (setL n k).length 0 (by omega)
    by_cases hr0 : r ≥ 0
    · rw [decide_eq_true hr0] at hc
      refine ⟨false, ev_bind0 (items_eq _ _) (ev_pos hg (Ev.bind h2 (ev_pos hl (Ev.bind hc (ev_pos rfl (Ev.now _)))))), ⟨fun e => (by cases e), fun e => ?_⟩⟩
      obtain ⟨x, hx, hx0⟩ := hr2.1 hr0
      have := e.2.2 x hx
      omega
    · rw [decide_eq_false hr0] at hc
      exact ⟨decide (u = []), ev_bind0 (items_eq _ _) (ev_pos hg (Ev.bind h2 (ev_pos hl (Ev.bind hc (ev_neg (by decide) (Ev.bind (g := fun f => impl_firstApart.f f (setL n k) L) hu1 (Ev.now _))))))), ⟨fun e => ⟨by omega, hu2.1 (of_decide_eq_true e), fun x hx => Int.not_lt.1 fun h0 => hr0 (hr2.2 ⟨x, hx, h0⟩)⟩, fun e => decide_eq_true (hu2.2 e.2.1)⟩⟩
  · exact ⟨false, ev_bind0 (items_eq _ _) (ev_pos hg (Ev.bind h2 (ev_neg hl (Ev.now _)))), ⟨fun e => (by cases e), fun e => absurd (congrArg (fun n : Nat => (n : Int)) e.1) hl⟩⟩
theorem isCol_bad {n k : Int} (hg : items n k = false) (L : List Int) : Ev (fun f => impl_IsColouring.f f n k L) (false, false) := ev_bind0 (items_eq _ _) (ev_neg (by rw [hg]; decide) (Ev.now _))
end Go.Proofs.YtemgnbpcchlpiaaDoor.QFnKneserColours
