/- The reference's colours of sets. -/
import Derived.Test.YtemgnbpcchlpiaaDoorQFnKneserColoursFew
namespace Go.Proofs.YtemgnbpcchlpiaaDoor.QFnKneserColours
open Go.RowKit Go.Proofs.YtemgnbpcchlpiaaDoorOwn Go.Proofs.YtemgnbpcchlpiaaDoor.PFnKneserColours Go.Proofs.YtemgnbpcchlpiaaDoorW.PrintWords Go.Proofs.YtemgnbpcchlpiaaDoorW.PrintLast Go.Proofs.YtemgnbpcchlpiaaDoorW.PrintMore
set_option linter.unusedVariables false
set_option linter.unusedSimpArgs false
set_option linter.unusedSectionVars false
set_option maxRecDepth 100000
def cz (x : Nat) : Nat := ((List.range 8).find? fun i => decide (x / 2 ^ i % 2 = 1)).getD 8
theorem cz_all : ((List.range 256).all fun x => decide (x = 0) || (((List.range (cz x)).all fun i => decide (Int.tmod (shr .i64 (x : Int) (i : Int)) 2 = 0)) && (!decide (Int.tmod (shr .i64 (x : Int) ((cz x : Nat) : Int)) 2 = 0) && decide (cz x < 8)))) = true := by decide +kernel
theorem cz_spec {x : Nat} (h0 : 1 ≤ x) (h : x < 256) : (∀ i, i < cz x → Int.tmod (shr .i64 (x : Int) (i : Int)) 2 = 0) ∧ ¬ Int.tmod (shr .i64 (x : Int) ((cz x : Nat) : Int)) 2 = 0 ∧ cz x < 8 := by
  have := List.all_eq_true.1 cz_all x (List.mem_range.2 h)
  rw [decide_eq_false (by omega), Bool.false_or] at this
  obtain ⟨h1, h2⟩ := Bool.and_eq_true_iff.1 this
  obtain ⟨h3, h4⟩ := Bool.and_eq_true_iff.1 h2
  exact ⟨fun i hi => of_decide_eq_true (List.all_eq_true.1 h1 i (List.mem_range.2 hi)), of_decide_eq_false (by simpa using h3), of_decide_eq_true h4⟩
/-- The colour of a set. -/
def col (F y : Int) : Int := least ((cz y.toNat : Nat) : Int) (F - 1)
section
variable (n k : Int) (h1 : 1 ≤ n) (h2 : n ≤ 8) (h3 : 1 ≤ k) (h4 : k ≤ n) (T : List Int) (hT : T.length ≤ 1000) (hm : ∀ y ∈ T, ∃ x : Nat, y = (x : Int) ∧ 1 ≤ x ∧ x < 256)
include h1 h2 h3 h4 hT hm
theorem tz_loop (x : Nat) (hx1 : 1 ≤ x) (hx2 : x < 256) (acc : List Int) (i : Int) (R : List Int × Bool) (ha : acc.length < 17592186044416) (cont : Ev (fun r => spec_ColoursOf.l0 r n k (acc ++ [least ((cz x : Nat) : Int) (few n k - 1)]) T (T.length : Int) (wrap64 (i + 1))) R) :
    ∀ (d j : Nat), j + d = cz x → Ev (fun r => spec_ColoursOf.l1 r n k acc (x : Int) (j : Int) T (T.length : Int) i) R
  | 0, j, h => by
    obtain ⟨_, hz, _⟩ := cz_spec hx1 hx2
    have hf := few_le h1 h2 h3 h4
    have e : j = cz x := by omega
    rw [e]
    refine Ev.step (fun f => spec_ColoursOf.l1.eq_2 ..) (ev_pos (by omega) (ev_neg hz (ev_bind0 (few_spec h1 h2 h3 h4) ?_)))
    rw [wr (show -9223372036854775808 ≤ few n k - 1 by omega) (by omega)]
    exact ev_bind0 (least_spec _ _) (ev_pos ha cont)
  | d + 1, j, h => by
    obtain ⟨hz, _, h8⟩ := cz_spec hx1 hx2
    refine Ev.step (fun f => spec_ColoursOf.l1.eq_2 ..) (ev_pos (by omega) (ev_pos (hz j (by omega)) ?_))
    rw [wr (show -9223372036854775808 ≤ (j : Int) + 1 by omega) (by omega)]
    exact tz_loop x hx1 hx2 acc i R ha cont d (j + 1) (by omega)
theorem spec_loop : ∀ (d i : Nat) (acc : List Int), i + d = T.length → acc.length ≤ i → Ev (fun r => spec_ColoursOf.l0 r n k acc T (T.length : Int) (i : Int)) (acc ++ (T.drop i).map (col (few n k)), true)
  | 0, i, acc, h, ha => Ev.step (fun f => spec_ColoursOf.l0.eq_2 ..) (ev_neg (by omega) (ev_eq (Ev.now _) (by rw [List.drop_eq_nil_of_le (by omega)]; simp)))
  | d + 1, i, acc, h, ha => by
    have hlt : i < T.length := by omega
    obtain ⟨x, ex, hx1, hx2⟩ := hm _ (List.getElem_mem hlt)
    refine Ev.step (fun f => spec_ColoursOf.l0.eq_2 ..) (ev_pos (by omega) (ev_pos (by omega) (ev_pos (by omega) ?_)))
    rw [rdAt hlt, List.drop_eq_getElem_cons hlt, List.map_cons, ex]
    have := spec_loop d (i + 1) (acc ++ [least ((cz x : Nat) : Int) (few n k - 1)]) (by omega) (by simp; omega)
    rw [List.append_assoc] at this
    refine tz_loop n k h1 h2 h3 h4 T hT hm x hx1 hx2 acc (i : Int) _ (by omega) ?_ (cz x) 0 (by omega)
    rw [wr (by omega) (by omega)]
    exact this
end
theorem colS_ev {n : Nat} {k : Int} (h1 : 1 ≤ n) (h2 : n ≤ 8) (h3 : 1 ≤ k) (h4 : k ≤ (n : Int)) : Ev (fun r => spec_ColoursOf.f r (n : Int) k) ((setL n k).map (col (few (n : Int) k)), true) := by
  have hg : items (n : Int) k = true := by unfold items; rw [decide_eq_true (show 1 ≤ (n : Int) ∧ (n : Int) ≤ 8 by omega), decide_eq_true (show 1 ≤ k ∧ k ≤ (n : Int) from ⟨h3, h4⟩)]; rfl
  have hl := setL_len k (show n < 9 by omega)
  have hm : ∀ y ∈ setL n k, ∃ x : Nat, y = (x : Int) ∧ 1 ≤ x ∧ x < 256 := fun y hy => by
    have hp := pow_le (show n < 9 by omega)
    obtain ⟨x, e1, e2, e3⟩ := sel_mem _ _ _ hy
    exact ⟨x, e1, pc_pos (by omega), by omega⟩
  have r1 := spec_loop (n : Int) k (by omega) (by omega) h3 h4 (setL n k) (by omega) hm (setL n k).length 0 [] (by omega) (by simp)
  rw [List.drop_zero, List.nil_append] at r1
  exact ev_bind0 (given_eq _ _) (ev_pos hg (Ev.bind (knSets_ev n k (by omega)) r1))
theorem colS_bad {n k : Int} (h : items n k = false) : Ev (fun r => spec_ColoursOf.f r n k) ([], false) := ev_bind0 (given_eq n k) (ev_neg (by rw [h]; decide) (Ev.now _))
end Go.Proofs.YtemgnbpcchlpiaaDoor.QFnKneserColours
