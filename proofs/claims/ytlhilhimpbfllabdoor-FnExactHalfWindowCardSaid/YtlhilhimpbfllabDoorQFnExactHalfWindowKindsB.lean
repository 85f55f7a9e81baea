/- Necklaces: how many kinds. -/
import Derived.Test.YtlhilhimpbfllabDoorQFnExactHalfWindowCountsS
import Derived.Test.YtlhilhimpbfllabDoorQFnExactHalfWindowCountsI
namespace Go.Proofs.YtlhilhimpbfllabDoor.QFnExactHalfWindow
open Go.RowKit Go.Proofs.YtlhilhimpbfllabDoor.PFnExactHalfWindow Go.Proofs.YtlhilhimpbfllabDoorW.PrintWords Go.Proofs.YtlhilhimpbfllabDoorW.PrintLast Go.Proofs.YtlhilhimpbfllabDoorW.PrintMore
set_option linter.unusedVariables false
set_option linter.unusedSimpArgs false
set_option maxRecDepth 100000
/-- How many of some numbers are above 0. -/
def kn (l : List Int) : Int := ((l.countP fun x => decide (0 < x) : Nat) : Int)
theorem kn_le (l : List Int) : 0 ≤ kn l ∧ kn l ≤ l.length := by
  unfold kn
  have := List.countP_le_length (p := fun x : Int => decide (0 < x)) (l := l)
  omega
theorem kn_snoc (l : List Int) (x : Int) : kn (l ++ [x]) = kn l + (if x > 0 then 1 else 0) := by
  unfold kn
  rw [List.countP_append, List.countP_singleton]
  by_cases h : 0 < x <;> simp [h]
theorem take_snocI {l : List Int} {i : Nat} (h : i < l.length) : l.take i ++ [rd l (i : Int)] = l.take (i + 1) := by
  rw [List.take_add_one, rd_nat, List.getD_eq_getElem?_getD, List.getElem?_eq_getElem h]; rfl
theorem nlKinds_loop (l : List Int) (hs : l.length ≤ 1000) : ∀ d i : Nat, i + d = l.length → Ev (fun k => spec_nlKinds.l0 k (kn (l.take i)) l (l.length : Int) (i : Int)) (kn l)
  | 0, i, h => by
    refine Ev.step (fun f => spec_nlKinds.l0.eq_2 ..) (ev_neg (by omega) (ev_eq (Ev.now _) ?_))
    rw [List.take_of_length_le (by omega)]
  | d + 1, i, h => by
    have hn := kn_snoc (l.take i) (rd l (i : Int))
    rw [take_snocI (by omega)] at hn
    have hk := kn_le (l.take i)
    have hlt : (l.take i).length ≤ 1000 := by rw [List.length_take]; omega
    refine Ev.step (fun f => spec_nlKinds.l0.eq_2 ..) (ev_pos (by omega) (ev_pos (by omega) (ev_pos (by omega) ?_)))
    rw [wr (show -9223372036854775808 ≤ (i : Int) + 1 by omega) (by omega)]
    have ih := nlKinds_loop l hs d (i + 1) (by omega)
    by_cases hc : rd l (i : Int) > 0
    · rw [if_pos hc] at hn
      refine ev_pos hc ?_
      rw [wr (by omega) (by omega), ← hn]
      exact ih
    · rw [if_neg hc] at hn
      refine ev_neg hc ?_
      rw [hn, Int.add_zero] at ih
      exact ih
theorem nlKinds_ev (s : ByteArray) (hb : beads s = true) (hs : s.size ≤ 1000) : Ev (fun k => spec_nlKinds.f k s) (kn (cntL s.data.toList)) := by
  refine Ev.bind (nlCounts_ev s hb hs) ?_
  exact nlKinds_loop (cntL s.data.toList) (by rw [cntL_len]; omega) 4 0 (by rw [cntL_len])
theorem kn_filter (l : List Int) : ((l.filter fun x => !decide (0 < x)).length : Int) = (l.length : Int) - kn l := by
  unfold kn
  induction l with
  | nil => rfl
  | cons x l ih =>
    rw [List.countP_cons, List.filter_cons]
    by_cases h : 0 < x <;> simp [h] <;> omega
theorem kinds_ev (s : ByteArray) (hb : beads s = true) (hs : s.size ≤ 1000) : Ev (fun k => impl_kinds.f k s) (kn (cntL s.data.toList)) := by
  refine Ev.bind (counts_ev s hb hs) (ev_pos (by rw [cntL_len]; omega) (ev_eq (Ev.now _) ?_))
  have hk := kn_le (cntL s.data.toList)
  rw [kn_filter, cntL_len] at *
  rw [wr (by omega) (by omega)]
  omega
end Go.Proofs.YtlhilhimpbfllabDoor.QFnExactHalfWindow
