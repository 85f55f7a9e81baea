/- The first two sets that are apart and have equal colours: the reference tells what the program tells. -/
import Derived.Test.YtemgnbpcchlpiaaDoorQFnKneserColoursIsCol
namespace Go.Proofs.YtemgnbpcchlpiaaDoor.QFnKneserColours
open Go.RowKit Go.Proofs.YtemgnbpcchlpiaaDoorOwn Go.Proofs.YtemgnbpcchlpiaaDoor.PFnKneserColours Go.Proofs.YtemgnbpcchlpiaaDoorW.PrintWords Go.Proofs.YtemgnbpcchlpiaaDoorW.PrintLast Go.Proofs.YtemgnbpcchlpiaaDoorW.PrintMore
set_option linter.unusedVariables false
set_option linter.unusedSimpArgs false
set_option maxRecDepth 100000
/-- What is told of two sets: none, or two that are apart. -/
def twoL (u : List Int) : Prop := u = [] ∨ ∃ x y : Nat, u = [(x : Int), (y : Int)] ∧ x < 256 ∧ y < 256 ∧ x &&& y = 0
section
variable (S L : List Int) (hl : L.length = S.length) (hs : S.length ≤ 1000) (hm : ∀ y ∈ S, ∃ x : Nat, y = (x : Int) ∧ x < 256)
include hl hs hm
theorem cl_in (i : Nat) (hi : i < S.length) (u0 : List Int) (hu : twoL u0) (c1 : Ev (fun k => impl_firstApart.l0 k S L S (S.length : Int) ((i : Int) + 1)) u0) (c2 : Ev (fun k => spec_knClash.l0 k S L S (S.length : Int) ((i : Int) + 1)) (u0, !decide (u0 = []))) :
    ∀ d j : Nat, j + d = S.length → i < j → ∃ u, twoL u ∧ Ev (fun k => impl_firstApart.l1 k S L (i : Int) (rd S (i : Int)) (j : Int) S (S.length : Int) (i : Int)) u ∧ Ev (fun k => spec_knClash.l1 k S L (i : Int) (rd S (i : Int)) (j : Int) S (S.length : Int) (i : Int)) (u, !decide (u = []))
  | 0, j, h, hij => by
    refine ⟨u0, hu, Ev.step (fun f => impl_firstApart.l1.eq_2 ..) (ev_neg (by omega) ?_), Ev.step (fun f => spec_knClash.l1.eq_2 ..) (ev_neg (by omega) ?_)⟩
    · rw [wr (show -9223372036854775808 ≤ (i : Int) + 1 by omega) (by omega)]
      exact c1
    · rw [wr (show -9223372036854775808 ≤ (i : Int) + 1 by omega) (by omega)]
      exact c2
  | d + 1, j, h, hij => by
    obtain ⟨u, hu1, hu2, hu3⟩ := cl_in i hi u0 hu c1 c2 d (j + 1) (by omega) (by omega)
    have hj : j < S.length := by omega
    obtain ⟨x, ex, hx⟩ := hm _ (List.getElem_mem hi)
    obtain ⟨y, ey, hy⟩ := hm _ (List.getElem_mem hj)
    have e1 : rd S (i : Int) = (x : Int) := by rw [rdAt hi, ex]
    have e2 : rd S (j : Int) = (y : Int) := by rw [rdAt hj, ey]
    have hb : Go.bits .and .i64 (rd S (i : Int)) (rd S (j : Int)) = ((x &&& y : Nat) : Int) := by rw [e1, e2]; exact and_i64 x y hx hy
    have n1 : Ev (fun k => impl_firstApart.l1 k S L (i : Int) (rd S (i : Int)) (wrap64 ((j : Int) + 1)) S (S.length : Int) (i : Int)) u := by
      rw [wr (show -9223372036854775808 ≤ (j : Int) + 1 by omega) (by omega)]
      exact hu2
    have n2 : Ev (fun k => spec_knClash.l1 k S L (i : Int) (rd S (i : Int)) (wrap64 ((j : Int) + 1)) S (S.length : Int) (i : Int)) (u, !decide (u = [])) := by
      rw [wr (show -9223372036854775808 ≤ (j : Int) + 1 by omega) (by omega)]
      exact hu3
    by_cases hc : Go.bits .and .i64 (rd S (i : Int)) (rd S (j : Int)) = 0
    · by_cases hd : rd L (i : Int) = rd L (j : Int)
      · refine ⟨[rd S (i : Int), rd S (j : Int)], .inr ⟨x, y, by rw [e1, e2], hx, hy, by omega⟩, Ev.step (fun f => impl_firstApart.l1.eq_2 ..) (ev_pos (by omega) (ev_pos (by omega) (ev_pos hc (ev_pos (by omega) (ev_pos (by omega) (ev_pos (by omega) (ev_pos hd (Ev.now _)))))))), Ev.step (fun f => spec_knClash.l1.eq_2 ..) (ev_pos (by omega) (ev_pos (by omega) (ev_pos hc (ev_pos (by omega) (ev_pos (by omega) (ev_pos (by omega) (ev_pos hd (Ev.now _))))))))⟩
      · exact ⟨u, hu1, Ev.step (fun f => impl_firstApart.l1.eq_2 ..) (ev_pos (by omega) (ev_pos (by omega) (ev_pos hc (ev_pos (by omega) (ev_pos (by omega) (ev_pos (by omega) (ev_neg hd n1))))))), Ev.step (fun f => spec_knClash.l1.eq_2 ..) (ev_pos (by omega) (ev_pos (by omega) (ev_pos hc (ev_pos (by omega) (ev_pos (by omega) (ev_pos (by omega) (ev_neg hd n2)))))))⟩
    · exact ⟨u, hu1, Ev.step (fun f => impl_firstApart.l1.eq_2 ..) (ev_pos (by omega) (ev_pos (by omega) (ev_neg hc n1))), Ev.step (fun f => spec_knClash.l1.eq_2 ..) (ev_pos (by omega) (ev_pos (by omega) (ev_neg hc n2)))⟩
theorem cl_out : ∀ d i : Nat, i + d = S.length → ∃ u, twoL u ∧ Ev (fun k => impl_firstApart.l0 k S L S (S.length : Int) (i : Int)) u ∧ Ev (fun k => spec_knClash.l0 k S L S (S.length : Int) (i : Int)) (u, !decide (u = []))
  | 0, i, h => ⟨[], .inl rfl, Ev.step (fun f => impl_firstApart.l0.eq_2 ..) (ev_neg (by omega) (Ev.now _)), Ev.step (fun f => spec_knClash.l0.eq_2 ..) (ev_neg (by omega) (Ev.now _))⟩
  | d + 1, i, h => by
    obtain ⟨u0, hu0, a1, a2⟩ := cl_out d (i + 1) (by omega)
    obtain ⟨u, hu1, hu2, hu3⟩ := cl_in S L hl hs hm i (by omega) u0 hu0 a1 a2 d (i + 1) (by omega) (by omega)
    refine ⟨u, hu1, Ev.step (fun f => impl_firstApart.l0.eq_2 ..) (ev_pos (by omega) (ev_pos (by omega) (ev_pos (by omega) ?_))), Ev.step (fun f => spec_knClash.l0.eq_2 ..) (ev_pos (by omega) (ev_pos (by omega) (ev_pos (by omega) ?_)))⟩
    · rw [wr (show -9223372036854775808 ≤ (i : Int) + 1 by omega) (by omega)]
      exact hu2
    · rw [wr (show -9223372036854775808 ≤ (i : Int) + 1 by omega) (by omega)]
      exact hu3
/-- The program and the reference tell the same two sets, and the program tells none just if there are none. -/
theorem clash_ev : ∃ u, twoL u ∧ Ev (fun k => impl_firstApart.f k S L) u ∧ Ev (fun k => spec_knClash.f k S L) (u, !decide (u = [])) ∧ (u = [] ↔ apartFrom S L 0) := by
  obtain ⟨u, h1, h2, h3⟩ := cl_out S L hl hs hm S.length 0 (by omega)
  obtain ⟨v, h4, h5⟩ := fa_out S L hl hs hm S.length 0 (by omega)
  obtain rfl := ev_one h2 h4
  exact ⟨u, h1, h2, h3, h5⟩
end
theorem neg_loop {b2 : List Int × Bool} (S L : List Int) (hL : L.length ≤ 1000) (b : Bool) (hc : Ev (fun k => spec_knClash.f k S L) b2) (hb : b2.2 = !b) : ∀ d i : Nat, i + d = L.length → Ev (fun k => spec_IsColouring.l0 k L S L (L.length : Int) (i : Int)) ((L.drop i).all (fun x => decide (0 ≤ x)) && b, true)
  | 0, i, h => Ev.step (fun f => spec_IsColouring.l0.eq_2 ..) (ev_neg (by omega) (Ev.bind hc (ev_eq (Ev.now _) (by rw [List.drop_eq_nil_of_le (by omega), hb, Bool.not_not]; rfl))))
  | d + 1, i, h => by
    have hlt : i < L.length := by omega
    have ih := neg_loop S L hL b hc hb d (i + 1) (by omega)
    refine Ev.step (fun f => spec_IsColouring.l0.eq_2 ..) (ev_pos (by omega) (ev_pos (by omega) (ev_pos (by omega) ?_)))
    rw [rdAt hlt, List.drop_eq_getElem_cons hlt, List.all_cons, wr (show -9223372036854775808 ≤ (i : Int) + 1 by omega) (by omega)]
    by_cases hx : L[i] < 0
    · rw [decide_eq_false (show ¬ 0 ≤ L[i] by omega), Bool.false_and, Bool.false_and]
      exact ev_pos hx (Ev.now _)
    · rw [decide_eq_true (show 0 ≤ L[i] by omega), Bool.true_and]
      exact ev_neg hx ih
end Go.Proofs.YtemgnbpcchlpiaaDoor.QFnKneserColours
