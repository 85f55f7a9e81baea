/- The reference's search for a colouring, and the program's. -/
import Derived.Test.YtemgnbpcchlpiaaQFnColouringsAreLeastBase
namespace Go.Proofs.Ytemgnbpcchlpiaa.QFnColouringsAreLeast
open Go.RowKit Go.Proofs.YtemgnbpcchlpiaaOwn Go.Proofs.Ytemgnbpcchlpiaa.PFnColouringsAreLeast Go.Proofs.YtemgnbpcchlpiaaW.PrintWords Go.Proofs.YtemgnbpcchlpiaaW.PrintLast Go.Proofs.YtemgnbpcchlpiaaW.PrintMore
set_option linter.unusedVariables false
set_option linter.unusedSimpArgs false
set_option maxRecDepth 100000
theorem rd_at {l : List Int} {i : Nat} (h : i < l.length) : rd l (i : Int) = l[i] := by rw [rd_nat, List.getD_eq_getElem?_getD, List.getElem?_eq_getElem h]; rfl
theorem own_ev (l : List Int) (h : l.length ≤ 10000) : spec_l1Own.f l = some l := by
  unfold spec_l1Own.f
  rw [Option.bind_some, if_pos (by simp; omega), List.nil_append]
theorem has_loop (l : List Int) (x : Int) (hl : l.length ≤ 1048576) : ∀ d i : Nat, i + d = l.length → Ev (fun k => spec_l1Has.l0 k x l (l.length : Int) (i : Int)) ((l.drop i).any (fun y => decide (y = x)))
  | 0, i, h => Ev.step (fun f => spec_l1Has.l0.eq_2 ..) (ev_neg (by omega) (ev_eq (Ev.now _) (by rw [List.drop_eq_nil_of_le (by omega)]; rfl)))
  | d + 1, i, h => by
    have hlt : i < l.length := by omega
    refine Ev.step (fun f => spec_l1Has.l0.eq_2 ..) (ev_pos (by omega) (ev_pos (by omega) (ev_pos (by omega) ?_)))
    rw [List.drop_eq_getElem_cons hlt, List.any_cons, rd_at hlt, wr (show -9223372036854775808 ≤ (i : Int) + 1 by omega) (by omega)]
    by_cases hc : l[i] = x
    · rw [decide_eq_true hc, Bool.true_or]
      exact ev_pos hc (Ev.now _)
    · rw [decide_eq_false hc, Bool.false_or]
      exact ev_neg hc (has_loop l x hl d (i + 1) (by omega))
theorem has_ev (l : List Int) (x : Int) (hl : l.length ≤ 1048576) : Ev (fun k => spec_l1Has.f k l x) (decide (x ∈ l)) := by
  have := has_loop l x hl l.length 0 (by omega)
  rw [List.drop_zero] at this
  refine ev_eq this ?_
  rw [Bool.eq_iff_iff]
  simp
/-- What is told of a search. -/
def told : Option (List Int) → List Int × Bool
  | some r => (r, true)
  | none => ([], false)
theorem fits_loop (sets list : List Int) (count : Int) (c : Nat) (hlen : list.length < sets.length) (hl : sets.length ≤ 1000) (R : List Int × Bool) :
    ∀ (d i : Nat) (b : Bool), i + d = list.length → Ev (fun k => spec_knColour.l1 k sets list count (list.length : Int) (c : Int) (!clashL sets list list.length (c : Int) d i b) list (list.length : Int) (list.length : Int)) R →
      Ev (fun k => spec_knColour.l1 k sets list count (list.length : Int) (c : Int) (!b) list (list.length : Int) (i : Int)) R
  | 0, i, b, h, cont => by
    have e : i = list.length := by omega
    rw [e]
    exact cont
  | d + 1, i, b, h, cont => by
    refine Ev.step (fun f => spec_knColour.l1.eq_2 ..) (ev_pos (by omega) (ev_pos (by omega) (ev_pos (by omega) ?_)))
    rw [wr (show -9223372036854775808 ≤ (i : Int) + 1 by omega) (by omega)]
    have ih := fun b' => fits_loop sets list count c hlen hl R d (i + 1) b' (by omega)
    unfold clashL at cont
    cases b with
    | true =>
      rw [Bool.true_or] at cont
      exact ev_neg (by decide) (ih true cont)
    | false =>
      rw [Bool.false_or] at cont
      refine ev_pos rfl ?_
      by_cases hx : rd list (i : Int) = (c : Int)
      · rw [decide_eq_true hx, Bool.true_and] at cont
        have e : (Go.bits .and .i64 (rd sets (i : Int)) (rd sets (list.length : Int)) != 0) = !decide (Go.bits .and .i64 (rd sets (i : Int)) (rd sets (list.length : Int)) = 0) := by
          by_cases h0 : Go.bits .and .i64 (rd sets (i : Int)) (rd sets (list.length : Int)) = 0 <;> simp [h0]
        refine ev_pos hx.symm (ev_pos (by omega) (ev_pos (by omega) (ev_pos (by omega) ?_)))
        rw [e]
        exact ih _ cont
      · rw [decide_eq_false hx, Bool.false_and] at cont
        exact ev_neg (fun e => hx e.symm) (ih false cont)
theorem clash_mem (sets list : List Int) (at_ : Nat) (c : Int) : ∀ (d i : Nat), i + d = list.length → clashL sets list at_ c d i false = true → c ∈ list
  | 0, i, h, hc => by cases hc
  | d + 1, i, h, hc => by
    unfold clashL at hc
    by_cases hx : rd list (i : Int) = c
    · rw [rd_at (by omega)] at hx
      rw [← hx]
      exact List.getElem_mem _
    · rw [decide_eq_false hx, Bool.false_and, Bool.or_false] at hc
      exact clash_mem sets list at_ c d (i + 1) (by omega) hc
/-- The colours of a list are those below u. -/
def Below' (list : List Int) (u : Nat) : Prop := ∀ c : Int, c ∈ list ↔ 0 ≤ c ∧ c < (u : Int)
theorem below_snoc {list : List Int} {u c : Nat} (h : Below' list u) (hc : c ≤ u) : ∃ u' : Nat, max (u : Int) ((c : Int) + 1) = (u' : Int) ∧ Below' (list ++ [(c : Int)]) u' ∧ u' ≤ u + 1 := by
  rcases Nat.lt_or_ge c u with h1 | h1
  · refine ⟨u, by omega, fun x => ?_, by omega⟩
    rw [List.mem_append, List.mem_singleton, h x]
    omega
  · refine ⟨u + 1, by omega, fun x => ?_, by omega⟩
    rw [List.mem_append, List.mem_singleton, h x]
    omega
def gC (sets : List Int) (count : Int) (d : Nat) (list : List Int) (used : Int) : Int → Option (List Int) := fun c => if clashL sets list list.length c list.length 0 false = true then none else colG sets count d (list ++ [c]) (max used (c + 1))
theorem kn_ev (sets : List Int) (count : Nat) (hl : sets.length ≤ 1000) (hc : count ≤ 100) : ∀ (d : Nat) (list : List Int) (u : Nat), list.length + d = sets.length → Below' list u → u ≤ list.length → Ev (fun k => spec_knColour.f k sets list (count : Int)) (told (colG sets (count : Int) d list (u : Int)))
  | 0, list, u, hd, hB, hu => Ev.step (fun f => spec_knColour.f.eq_2 ..) (ev_pos (by omega) (Ev.now _))
  | d + 1, list, u, hd, hB, hu => by
    have loop : ∀ (m' c : Nat), c + m' = (min (count : Int) ((u : Int) + 1)).toNat → c ≤ u → Ev (fun k => spec_knColour.l0 k sets list (count : Int) (list.length : Int) (c : Int)) (told (tryC (gC sets (count : Int) d list (u : Int)) m' (c : Int))) := by
      intro m'
      induction m' with
      | zero =>
        intro c h1 h2
        exact Ev.step (fun f => spec_knColour.l0.eq_2 ..) (ev_neg (by omega) (Ev.now _))
      | succ m' ih =>
        intro c h1 h2
        have hnext : c + 1 ≤ u → Ev (fun k => spec_knColour.l0 k sets list (count : Int) (list.length : Int) ((c : Int) + 1)) (told (tryC (gC sets (count : Int) d list (u : Int)) m' ((c : Int) + 1))) := fun h3 => by
          have := ih (c + 1) (by omega) h3
          rw [show ((c + 1 : Nat) : Int) = (c : Int) + 1 by omega] at this
          exact this
        have hmem : (c : Int) ∈ list → c + 1 ≤ u := fun h3 => by have := (hB (c : Int)).1 h3; omega
        refine Ev.step (fun f => spec_knColour.l0.eq_2 ..) (ev_pos (by omega) ?_)
        refine fits_loop sets list (count : Int) c (by omega) hl _ list.length 0 false (by omega) ?_
        refine Ev.step (fun f => spec_knColour.l1.eq_2 ..) (ev_neg (by omega) ?_)
        rw [wr (show -9223372036854775808 ≤ (c : Int) + 1 by omega) (by omega)]
        have et : tryC (gC sets (count : Int) d list (u : Int)) (m' + 1) (c : Int) = match gC sets (count : Int) d list (u : Int) (c : Int) with
          | some r => some r
          | none => tryC (gC sets (count : Int) d list (u : Int)) m' ((c : Int) + 1) := rfl
        rw [et]
        cases hcl : clashL sets list list.length (c : Int) list.length 0 false with
        | true =>
          have e : gC sets (count : Int) d list (u : Int) (c : Int) = none := by unfold gC; rw [hcl]; rfl
          rw [e]
          exact ev_neg (by decide) (hnext (hmem (clash_mem sets list list.length (c : Int) list.length 0 (by omega) hcl)))
        | false =>
          obtain ⟨u', hu1, hu2, hu3⟩ := below_snoc hB h2
          have e : gC sets (count : Int) d list (u : Int) (c : Int) = colG sets (count : Int) d (list ++ [(c : Int)]) (u' : Int) := by unfold gC; rw [hcl, hu1]; rfl
          rw [e]
          have rec_ := kn_ev sets count hl hc d (list ++ [(c : Int)]) u' (by simp; omega) hu2 (by simp; omega)
          refine ev_pos rfl (ev_bind0 (own_ev list (by omega)) (ev_pos (by omega) (Ev.bind rec_ ?_)))
          cases hG : colG sets (count : Int) d (list ++ [(c : Int)]) (u' : Int) with
          | some r => exact ev_pos rfl (Ev.now _)
          | none =>
            refine ev_neg (by decide) (Ev.bind (has_ev list (c : Int) (by omega)) ?_)
            by_cases hm : (c : Int) ∈ list
            · exact ev_pos (decide_eq_true hm) (hnext (hmem hm))
            · have hcu : ¬ c < u := fun h5 => hm ((hB (c : Int)).2 ⟨by omega, by omega⟩)
              have hm0 : m' = 0 := by omega
              subst hm0
              exact ev_neg (by rw [decide_eq_false hm]; decide) (Ev.now _)
    refine Ev.step (fun f => spec_knColour.f.eq_2 ..) (ev_neg (by omega) ?_)
    exact loop _ 0 (by omega) (by omega)
theorem kn_start (sets : List Int) (count : Nat) (hl : sets.length ≤ 1000) (hc : count ≤ 100) : Ev (fun k => spec_knColour.f k sets [] (count : Int)) (told (colG sets (count : Int) sets.length [] 0)) :=
  kn_ev sets count hl hc sets.length [] 0 (by simp) (fun c => by simp <;> omega) (by simp)
theorem coloured_eq (sets : List Int) (count : Nat) (hl : sets.length ≤ 1000) (hc : count ≤ 100) : impl_coloured.f sets (count : Int) = some (told (colG sets (count : Int) sets.length [] 0)) := by
  unfold impl_coloured.f
  rw [if_pos (by simp; omega)]
  cases colG sets (count : Int) sets.length [] 0 <;> rfl
end Go.Proofs.Ytemgnbpcchlpiaa.QFnColouringsAreLeast
