-- Written by a program of this session (wip/tools/pp.sh) out of the translation; Lean checks it.
import Derived.Test.YtemgnbpcchlpiaaPFnMeetingSetsx0
import Derived.Test.YtemgnbpcchlpiaaPFnMeetingSetsx1
namespace Go.Proofs.Ytemgnbpcchlpiaa.PFnMeetingSets
open Go.RowKit Go.Proofs.YtemgnbpcchlpiaaOwn Go.Proofs.YtemgnbpcchlpiaaW.PrintWords Go.Proofs.YtemgnbpcchlpiaaW.PrintLast Go.Proofs.YtemgnbpcchlpiaaW.PrintMore
attribute [local go_sem] max2_int min2_int max_two min_two max_three min_three max_four min_four   -- for this text's walks alone
set_option linter.unusedVariables false
set_option linter.unusedSimpArgs false

/-! ### impl_firstApart: function 64 -/
mutual
def impl_firstApart.l0 : Nat → List Int → List Int → List Int → Int → Int → Option (List Int)
  | 0, _, _, _, _, _ => none
  | k + 1, x0, x1, x8, x9, x10 => if x10 < x9 then (if 0 ≤ x10 then (if x10 < (x8.length : Int) then (impl_firstApart.l1 k x0 x1 x10 (rd x8 x10) (wrap64 (x10 + 1)) x8 x9 x10) else (none)) else (none)) else (some ([] : List Int))
def impl_firstApart.l1 : Nat → List Int → List Int → Int → Int → Int → List Int → Int → Int → Option (List Int)
  | 0, _, _, _, _, _, _, _, _ => none
  | k + 1, x0, x1, x5, x6, x7, x8, x9, x10 => if x7 < (x0.length : Int) then (if 0 ≤ x7 then (if (Go.bits .and .i64 x6 (rd x0 x7)) = 0 then (if 0 ≤ x5 then (if x5 < (x1.length : Int) then (if x7 < (x1.length : Int) then (if (rd x1 x5) = (rd x1 x7) then (some (([x6, rd x0 x7] : List Int))) else (impl_firstApart.l1 k x0 x1 x5 x6 (wrap64 (x7 + 1)) x8 x9 x10)) else (none)) else (none)) else (none)) else (impl_firstApart.l1 k x0 x1 x5 x6 (wrap64 (x7 + 1)) x8 x9 x10)) else (none)) else (impl_firstApart.l0 k x0 x1 x8 x9 (wrap64 (x10 + 1)))
end
def impl_firstApart.f (k : Nat) (l0 : List Int) (l1 : List Int) : Option (List Int) := impl_firstApart.l0 k l0 l1 l0 (l0.length : Int) 0
theorem impl_firstApart.mono_l : ∀ k, (∀ y0 y1 y2 y3 y4, LeO (impl_firstApart.l0 k y0 y1 y2 y3 y4) (impl_firstApart.l0 (k + 1) y0 y1 y2 y3 y4)) ∧ (∀ y0 y1 y2 y3 y4 y5 y6 y7, LeO (impl_firstApart.l1 k y0 y1 y2 y3 y4 y5 y6 y7) (impl_firstApart.l1 (k + 1) y0 y1 y2 y3 y4 y5 y6 y7))
  | 0 => ⟨fun _ _ _ _ _ r h => by simp [impl_firstApart.l0] at h, fun _ _ _ _ _ _ _ _ r h => by simp [impl_firstApart.l1] at h⟩
  | k + 1 => by
    obtain ⟨ih0, ih1⟩ := impl_firstApart.mono_l k
    refine ⟨?_, ?_⟩
    · intro y0 y1 y2 y3 y4
      unfold impl_firstApart.l0
      repeat' first
      | (with_reducible exact ih0 _ _ _ _ _)
      | (with_reducible exact ih1 _ _ _ _ _ _ _ _)
      | (with_reducible exact LeO.refl _)
      | (with_reducible exact LeO.none _)
      | (with_reducible refine LeO.ite ?_ ?_)
      | (with_reducible refine LeO.bind ?_ (fun _ => ?_))
      | exact ih0 _ _ _ _ _
      | exact ih1 _ _ _ _ _ _ _ _
      | exact LeO.none _
      | refine LeO.ite ?_ ?_
      | refine LeO.bind ?_ (fun _ => ?_)
    · intro y0 y1 y2 y3 y4 y5 y6 y7
      unfold impl_firstApart.l1
      repeat' first
      | (with_reducible exact ih0 _ _ _ _ _)
      | (with_reducible exact ih1 _ _ _ _ _ _ _ _)
      | (with_reducible exact LeO.refl _)
      | (with_reducible exact LeO.none _)
      | (with_reducible refine LeO.ite ?_ ?_)
      | (with_reducible refine LeO.bind ?_ (fun _ => ?_))
      | exact ih0 _ _ _ _ _
      | exact ih1 _ _ _ _ _ _ _ _
      | exact LeO.none _
      | refine LeO.ite ?_ ?_
      | refine LeO.bind ?_ (fun _ => ?_)
theorem impl_firstApart.mono : ∀ a0 a1 k, LeO (impl_firstApart.f k a0 a1) (impl_firstApart.f (k + 1) a0 a1) := by
  intro a0 a1 k
  obtain ⟨ih0, ih1⟩ := impl_firstApart.mono_l k
  unfold impl_firstApart.f
  repeat' first
      | (with_reducible exact ih0 _ _ _ _ _)
      | (with_reducible exact ih1 _ _ _ _ _ _ _ _)
      | (with_reducible exact LeO.refl _)
      | (with_reducible exact LeO.none _)
      | (with_reducible refine LeO.ite ?_ ?_)
      | (with_reducible refine LeO.bind ?_ (fun _ => ?_))
      | exact ih0 _ _ _ _ _
      | exact ih1 _ _ _ _ _ _ _ _
      | exact LeO.none _
      | refine LeO.ite ?_ ?_
      | refine LeO.bind ?_ (fun _ => ?_)
set_option maxHeartbeats 8000000 in
set_option maxRecDepth 100000 in
theorem impl_firstApart.calls (k : Nat) (A0 : Option Addr) (c0 : Nat) (l0 : List Int) (A1 : Option Addr) (c1 : Nat) (l1 : List Int) (r : List Int) (w : World) (hr0 : Kd.C (Kd.int .i64) w A0 l0.length l0) (hc0 : l0.length ≤ c0) (hr1 : Kd.C (Kd.int .i64) w A1 l1.length l1) (hc1 : l1.length ≤ c1) (h : impl_firstApart.f k l0 l1 = some r) :
    Calls Try.prog 64 #[.slice A0 l0.length c0, .slice A1 l1.length c1] w fun e w' => ∃ v0_ : Value, e = .returned (v0_) ∧ Kd.R (Kd.int .i64) 3 w' w.heap.size (fun _ => True) v0_ r ∧ Below w.heap.size w w' := by
  have HR0 := Aside0.mk hr0
  have HC0 := Aside0.mk hc0
  clear hr0 hc0
  have HR1 := Aside0.mk hr1
  have HC1 := Aside0.mk hc1
  clear hr1 hc1
  have HB := Aside0.mk (Below.refl w.heap.size w)
  have H : (impl_firstApart.l0 k l0 l1 l0 (l0.length : Int) 0) = some r := h
  clear h
  have H' := Aside0.mk H
  clear H
  go_enter Try.func64, Try.ntmps64
  go_wp2
  repeat (go_quiet (fail); try go_wp2)
  go_loopg [10] k (fun kq v10 w' => ∃ (x10_1 : Int), v10 = .int .i64 x10_1 ∧ Aside0 (impl_firstApart.l0 kq l0 l1 l0 (l0.length : Int) x10_1 = some r) ∧ Aside0 (kq ≤ k) ∧ Aside0 (Below w.heap.size w w'))
  case atStart => exact ⟨(0), RF, H', ⟨Nat.le_refl _⟩, ⟨BB⟩⟩
  case round =>
    clear H'
    try clear c1
    try clear p2
    obtain ⟨x10_1, rfl, HA, HK1, HB⟩ := hrel
    cases gk with
    | zero => exact absurd HA.out (by simp [impl_firstApart.l0])
    | succ k1 =>
      have H := HA.out
      clear HA
      simp only [impl_firstApart.l0] at H
      by_cases c3 : x10_1 < (l0.length : Int)
      · rw [if_pos c3] at H
        have c3b0 : decide (x10_1 < (l0.length : Int)) = true := decide_eq_true c3
        clear c3
        by_cases c4 : 0 ≤ x10_1
        · rw [if_pos c4] at H
          have c4b0 : decide (0 ≤ x10_1) = true := decide_eq_true c4
          clear c4
          by_cases c5 : x10_1 < (l0.length : Int)
          · rw [if_pos c5] at H
            have c5b0 : decide (x10_1 < (l0.length : Int)) = true := decide_eq_true c5
            clear c5
            have H' := Aside0.mk H
            clear H
            have p241 : 0 ≤ (x10_1 : Int) := of_decide_eq_true AS
            have q241 : x10_1 < (l0.length : Int) := of_decide_eq_true AS
            obtain ⟨ad241, e241, hx241_0⟩ := Kd.at_int HR0.out x10_1 p241 q241
            cases e241
            try (replace hx241_0 := (HB.out.cell (World.block_lt_of_cell? w _ hx241_0)).trans hx241_0)
            replace p241 := eq_true p241
            replace q241 := eq_true q241
            go_wp2
            repeat (go_quiet (fail); try go_wp2)
            go_loopg [7] k1 (fun kq v7 w' => ∃ (x7_2 : Int), v7 = .int .i64 x7_2 ∧ Aside0 (impl_firstApart.l1 kq l0 l1 x10_1 (rd l0 x10_1) x7_2 l0 (l0.length : Int) x10_1 = some r) ∧ Aside0 (kq ≤ k1) ∧ Aside0 (Below w.heap.size w w'))
            case atStart => exact ⟨(wrap64 (x10_1 + 1)), RF, H', ⟨Nat.le_refl _⟩, ⟨BB⟩⟩
            case round =>
              clear H'
              try clear c1
              try clear p2
              try clear q2
              try clear hx2
              try clear c3
              try clear c3b0
              try clear c4
              try clear c4b0
              try clear c5
              try clear c5b0
              try clear hx241_0
              try clear p2
              try clear p241
              try clear q241
              obtain ⟨x7_2, rfl, HA, HK2, HB⟩ := hrel
              cases gk with
              | zero => exact absurd HA.out (by simp [impl_firstApart.l1])
              | succ k2 =>
                have H := HA.out
                clear HA
                simp only [impl_firstApart.l1] at H
                by_cases c6 : x7_2 < (l0.length : Int)
                · rw [if_pos c6] at H
                  have c6b0 : decide (x7_2 < (l0.length : Int)) = true := decide_eq_true c6
                  clear c6
                  by_cases c7 : 0 ≤ x7_2
                  · rw [if_pos c7] at H
                    have c7b0 : decide (0 ≤ x7_2) = true := decide_eq_true c7
                    clear c7
                    by_cases c8 : (Go.bits .and .i64 (rd l0 x10_1) (rd l0 x7_2)) = 0
                    · rw [if_pos c8] at H
                      have c8b0 : ((Go.bits .and .i64 (rd l0 x10_1) (rd l0 x7_2)) == 0) = true := beq_iff_eq.mpr c8
                      have c8b1 : ((Go.bits .and .i64 (rd l0 x10_1) (rd l0 x7_2)) != 0) = false := bne_eq_false_iff_eq.mpr c8
                      clear c8
                      by_cases c9 : 0 ≤ x10_1
                      · rw [if_pos c9] at H
                        have c9b0 : decide (0 ≤ x10_1) = true := decide_eq_true c9
                        clear c9
                        by_cases c10 : x10_1 < (l1.length : Int)
                        · rw [if_pos c10] at H
                          have c10b0 : decide (x10_1 < (l1.length : Int)) = true := decide_eq_true c10
                          clear c10
                          by_cases c11 : x7_2 < (l1.length : Int)
                          · rw [if_pos c11] at H
                            have c11b0 : decide (x7_2 < (l1.length : Int)) = true := decide_eq_true c11
                            clear c11
                            by_cases c12 : (rd l1 x10_1) = (rd l1 x7_2)
                            · rw [if_pos c12] at H
                              have c12b0 : ((rd l1 x10_1) == (rd l1 x7_2)) = true := beq_iff_eq.mpr c12
                              have c12b1 : ((rd l1 x10_1) != (rd l1 x7_2)) = false := bne_eq_false_iff_eq.mpr c12
                              clear c12
                              obtain ⟨y246, hy246⟩ : ∃ y_ : List Int, y_ = (([(rd l0 x10_1), rd l0 x7_2] : List Int)) := ⟨_, rfl⟩
                              replace H : (some y246) = some r := by first | (rw [hy246]; with_reducible exact H) | (have H2_ := (Option.bind_some _ _).symm.trans H; rw [hy246]; with_reducible exact H2_) | (have H2_ := (Option.bind_some _ _).symm.trans H; with_reducible exact H2_) | with_reducible exact H | (rw [hy246]; exact H) | exact H
                              have Ny246 := Aside0.mk hy246
                              clear hy246
                              obtain rfl := Option.some.inj H
                              have p242 : 0 ≤ (x7_2 : Int) := of_decide_eq_true AS
                              have q242 : x7_2 < (l0.length : Int) := of_decide_eq_true AS
                              obtain ⟨ad242, e242, hx242_0⟩ := Kd.at_int HR0.out x7_2 p242 q242
                              obtain rfl : ad241 = ad242 := (by injection e242)
                              try (replace hx242_0 := (HB.out.cell (World.block_lt_of_cell? w _ hx242_0)).trans hx242_0)
                              replace p242 := eq_true p242
                              replace q242 := eq_true q242
                              have p243 : 0 ≤ (x10_1 : Int) := of_decide_eq_true AS
                              have q243 : x10_1 < (l1.length : Int) := of_decide_eq_true AS
                              obtain ⟨ad243, e243, hx243_0⟩ := Kd.at_int HR1.out x10_1 p243 q243
                              cases e243
                              try (replace hx243_0 := (HB.out.cell (World.block_lt_of_cell? w _ hx243_0)).trans hx243_0)
                              replace p243 := eq_true p243
                              replace q243 := eq_true q243
                              have p244 : 0 ≤ (x7_2 : Int) := of_decide_eq_true AS
                              have q244 : x7_2 < (l1.length : Int) := of_decide_eq_true AS
                              obtain ⟨ad244, e244, hx244_0⟩ := Kd.at_int HR1.out x7_2 p244 q244
                              obtain rfl : ad243 = ad244 := (by injection e244)
                              try (replace hx244_0 := (HB.out.cell (World.block_lt_of_cell? w _ hx244_0)).trans hx244_0)
                              replace p244 := eq_true p244
                              replace q244 := eq_true q244
                              have p245 : 0 ≤ (x7_2 : Int) := of_decide_eq_true AS
                              have q245 : x7_2 < (l0.length : Int) := of_decide_eq_true AS
                              obtain ⟨ad245, e245, hx245_0⟩ := Kd.at_int HR0.out x7_2 p245 q245
                              obtain rfl : ad241 = ad245 := (by injection e245)
                              try (replace hx245_0 := (HB.out.cell (World.block_lt_of_cell? w _ hx245_0)).trans hx245_0)
                              replace p245 := eq_true p245
                              replace q245 := eq_true q245
                              go_wp2_with (first | ((with_reducible refine gate_dst (N := 46) rfl ?_); refine Kd.R_lit (Kd.int .i64) _ 3 ?hg (N := 46) ?hd (xs := ([(rd l0 x10_1), rd l0 x7_2] : List Int)) (inner := [.int .i64 (rd l0 x10_1), .int .i64 (rd l0 x7_2)]) (ok := fun _ => True) (okp := fun _ => True) ?hr ?hp (fun _ hk => hk) trivial (Below.refl _ _) (Nat.le_refl _) (by simp) ?_; (case hd => rfl); (case hg => rfl); (case hr => first | (go_simp; done) | (go_simp; rfl)); (case hp => exact (Reps.one (show Kd.M (Kd.int .i64) _ _ _ (rd l0 x10_1) [.int .i64 (rd l0 x10_1)] from rfl) (Reps.one (show Kd.M (Kd.int .i64) _ _ _ (rd l0 x7_2) [.int .i64 (rd l0 x7_2)] from rfl) (Reps.none _ _)))); intro v247 w13 ho14 hb hg_ hnew_; clear hg_ hnew_; (first | rw [← Ny246.out] at ho14 | (simp only [Int.reduceToNat] at ho14; rw [← Ny246.out] at ho14)); have n0_ := Aside0.mk (Kd.R_lower ho14 (below_size BB)); have n1_ := Aside0.mk (below_step BB hb); clear HB; have HO248 := n0_; have HB := n1_; clear n0_ n1_; clear hb ho14))
                              repeat (go_quiet (first | ((with_reducible refine gate_dst (N := 46) rfl ?_); refine Kd.R_lit (Kd.int .i64) _ 3 ?hg (N := 46) ?hd (xs := ([(rd l0 x10_1), rd l0 x7_2] : List Int)) (inner := [.int .i64 (rd l0 x10_1), .int .i64 (rd l0 x7_2)]) (ok := fun _ => True) (okp := fun _ => True) ?hr ?hp (fun _ hk => hk) trivial (Below.refl _ _) (Nat.le_refl _) (by simp) ?_; (case hd => rfl); (case hg => rfl); (case hr => first | (go_simp; done) | (go_simp; rfl)); (case hp => exact (Reps.one (show Kd.M (Kd.int .i64) _ _ _ (rd l0 x10_1) [.int .i64 (rd l0 x10_1)] from rfl) (Reps.one (show Kd.M (Kd.int .i64) _ _ _ (rd l0 x7_2) [.int .i64 (rd l0 x7_2)] from rfl) (Reps.none _ _)))); intro v247 w13 ho14 hb hg_ hnew_; clear hg_ hnew_; (first | rw [← Ny246.out] at ho14 | (simp only [Int.reduceToNat] at ho14; rw [← Ny246.out] at ho14)); have n0_ := Aside0.mk (Kd.R_lower ho14 (below_size BB)); have n1_ := Aside0.mk (below_step BB hb); clear HB; have HO248 := n0_; have HB := n1_; clear n0_ n1_; clear hb ho14)); try go_wp2_with (first | ((with_reducible refine gate_dst (N := 46) rfl ?_); refine Kd.R_lit (Kd.int .i64) _ 3 ?hg (N := 46) ?hd (xs := ([(rd l0 x10_1), rd l0 x7_2] : List Int)) (inner := [.int .i64 (rd l0 x10_1), .int .i64 (rd l0 x7_2)]) (ok := fun _ => True) (okp := fun _ => True) ?hr ?hp (fun _ hk => hk) trivial (Below.refl _ _) (Nat.le_refl _) (by simp) ?_; (case hd => rfl); (case hg => rfl); (case hr => first | (go_simp; done) | (go_simp; rfl)); (case hp => exact (Reps.one (show Kd.M (Kd.int .i64) _ _ _ (rd l0 x10_1) [.int .i64 (rd l0 x10_1)] from rfl) (Reps.one (show Kd.M (Kd.int .i64) _ _ _ (rd l0 x7_2) [.int .i64 (rd l0 x7_2)] from rfl) (Reps.none _ _)))); intro v247 w13 ho14 hb hg_ hnew_; clear hg_ hnew_; (first | rw [← Ny246.out] at ho14 | (simp only [Int.reduceToNat] at ho14; rw [← Ny246.out] at ho14)); have n0_ := Aside0.mk (Kd.R_lower ho14 (below_size BB)); have n1_ := Aside0.mk (below_step BB hb); clear HB; have HO248 := n0_; have HB := n1_; clear n0_ n1_; clear hb ho14)))
                              go_ret
                              exact ⟨_, by first | rfl | (simp [errW_none, errW_some] <;> rfl) | (simp [*, errW_none, errW_some] <;> rfl), KR HO248, BB⟩
                            · rw [if_neg c12] at H
                              have c12b0 : ((rd l1 x10_1) == (rd l1 x7_2)) = false := beq_eq_false_iff_ne.mpr c12
                              have c12b1 : ((rd l1 x10_1) != (rd l1 x7_2)) = true := bne_iff_ne.mpr c12
                              have H' := Aside0.mk H
                              clear H
                              have p242 : 0 ≤ (x7_2 : Int) := of_decide_eq_true AS
                              have q242 : x7_2 < (l0.length : Int) := of_decide_eq_true AS
                              obtain ⟨ad242, e242, hx242_0⟩ := Kd.at_int HR0.out x7_2 p242 q242
                              obtain rfl : ad241 = ad242 := (by injection e242)
                              try (replace hx242_0 := (HB.out.cell (World.block_lt_of_cell? w _ hx242_0)).trans hx242_0)
                              replace p242 := eq_true p242
                              replace q242 := eq_true q242
                              have p243 : 0 ≤ (x10_1 : Int) := of_decide_eq_true AS
                              have q243 : x10_1 < (l1.length : Int) := of_decide_eq_true AS
                              obtain ⟨ad243, e243, hx243_0⟩ := Kd.at_int HR1.out x10_1 p243 q243
                              cases e243
                              try (replace hx243_0 := (HB.out.cell (World.block_lt_of_cell? w _ hx243_0)).trans hx243_0)
                              replace p243 := eq_true p243
                              replace q243 := eq_true q243
                              have p244 : 0 ≤ (x7_2 : Int) := of_decide_eq_true AS
                              have q244 : x7_2 < (l1.length : Int) := of_decide_eq_true AS
                              obtain ⟨ad244, e244, hx244_0⟩ := Kd.at_int HR1.out x7_2 p244 q244
                              obtain rfl : ad243 = ad244 := (by injection e244)
                              try (replace hx244_0 := (HB.out.cell (World.block_lt_of_cell? w _ hx244_0)).trans hx244_0)
                              replace p244 := eq_true p244
                              replace q244 := eq_true q244
                              go_wp2
                              repeat (go_quiet (fail); try go_wp2)
                              go_roundg k2
                              case measure => have := HK1.out; have := HK2.out; omega
                              case rel => exact ⟨(wrap64 (x7_2 + 1)), RF, H', ⟨by have := HK1.out; have := HK2.out; omega⟩, ⟨BB⟩⟩
                          · rw [if_neg c11] at H
                            exact absurd H (by simp)
                        · rw [if_neg c10] at H
                          exact absurd H (by simp)
                      · rw [if_neg c9] at H
                        exact absurd H (by simp)
                    · rw [if_neg c8] at H
                      have c8b0 : ((Go.bits .and .i64 (rd l0 x10_1) (rd l0 x7_2)) == 0) = false := beq_eq_false_iff_ne.mpr c8
                      have c8b1 : ((Go.bits .and .i64 (rd l0 x10_1) (rd l0 x7_2)) != 0) = true := bne_iff_ne.mpr c8
                      have H' := Aside0.mk H
                      clear H
                      have p242 : 0 ≤ (x7_2 : Int) := of_decide_eq_true AS
                      have q242 : x7_2 < (l0.length : Int) := of_decide_eq_true AS
                      obtain ⟨ad242, e242, hx242_0⟩ := Kd.at_int HR0.out x7_2 p242 q242
                      obtain rfl : ad241 = ad242 := (by injection e242)
                      try (replace hx242_0 := (HB.out.cell (World.block_lt_of_cell? w _ hx242_0)).trans hx242_0)
                      replace p242 := eq_true p242
                      replace q242 := eq_true q242
                      go_wp2
                      repeat (go_quiet (fail); try go_wp2)
                      go_roundg k2
                      case measure => have := HK1.out; have := HK2.out; omega
                      case rel => exact ⟨(wrap64 (x7_2 + 1)), RF, H', ⟨by have := HK1.out; have := HK2.out; omega⟩, ⟨BB⟩⟩
                  · rw [if_neg c7] at H
                    exact absurd H (by simp)
                · rw [if_neg c6] at H
                  have c6b0 : decide (x7_2 < (l0.length : Int)) = false := decide_eq_false c6
                  clear c6
                  have H' := Aside0.mk H
                  clear H
                  go_wp2
                  repeat (go_quiet (fail); try go_wp2)
                  go_roundg k2
                  case measure => have := HK1.out; have := HK2.out; omega
                  case rel => exact ⟨(wrap64 (x10_1 + 1)), RF, H', ⟨by have := HK1.out; have := HK2.out; omega⟩, ⟨BB⟩⟩
          · rw [if_neg c5] at H
            exact absurd H (by simp)
        · rw [if_neg c4] at H
          exact absurd H (by simp)
      · rw [if_neg c3] at H
        have c3b0 : decide (x10_1 < (l0.length : Int)) = false := decide_eq_false c3
        clear c3
        obtain rfl := Option.some.inj H
        go_wp2
        repeat (go_quiet (fail); try go_wp2)
        go_ret
        exact ⟨_, by first | rfl | (simp [errW_none, errW_some] <;> rfl) | (simp [*, errW_none, errW_some] <;> rfl), by first | exact Kd.R_nil _ _ _ _ _ | exact Kd.N_nil _ _ _ _ _ | exact Kd.V_nil _ _ _ _ _ | exact Kd.Q_nil _ _ _ _ _ | exact Kd.S_nil _ _ _ _ _, BB⟩
set_option maxHeartbeats 8000000 in
set_option maxRecDepth 100000 in
theorem impl_firstApart.callsN (k : Nat) (A0 : Option Addr) (c0 : Nat) (l0 : List Int) (A1 : Option Addr) (c1 : Nat) (l1 : List Int) (r : List Int) (w : World) (hr0 : Kd.C (Kd.int .i64) w A0 l0.length l0) (hc0 : l0.length ≤ c0) (hr1 : Kd.C (Kd.int .i64) w A1 l1.length l1) (hc1 : l1.length ≤ c1) (h : impl_firstApart.f k l0 l1 = some r) :
    Calls Try.prog 64 #[.slice A0 l0.length c0, .slice A1 l1.length c1] w fun e w' => ∃ v0_ : Value, e = .returned (v0_) ∧ Kd.R (Kd.int .i64) 3 w' w.heap.size (fun _ => True) v0_ r ∧ Below w.heap.size w w' ∧ (r = [] → v0_ = .slice none 0 0) := by
  have HR0 := Aside0.mk hr0
  have HC0 := Aside0.mk hc0
  clear hr0 hc0
  have HR1 := Aside0.mk hr1
  have HC1 := Aside0.mk hc1
  clear hr1 hc1
  have HB := Aside0.mk (Below.refl w.heap.size w)
  have H : (impl_firstApart.l0 k l0 l1 l0 (l0.length : Int) 0) = some r := h
  clear h
  have H' := Aside0.mk H
  clear H
  go_enter Try.func64, Try.ntmps64
  go_wp2
  repeat (go_quiet (fail); try go_wp2)
  go_loopg [10] k (fun kq v10 w' => ∃ (x10_1 : Int), v10 = .int .i64 x10_1 ∧ Aside0 (impl_firstApart.l0 kq l0 l1 l0 (l0.length : Int) x10_1 = some r) ∧ Aside0 (kq ≤ k) ∧ Aside0 (Below w.heap.size w w'))
  case atStart => exact ⟨(0), RF, H', ⟨Nat.le_refl _⟩, ⟨BB⟩⟩
  case round =>
    clear H'
    try clear c1
    try clear p2
    obtain ⟨x10_1, rfl, HA, HK1, HB⟩ := hrel
    cases gk with
    | zero => exact absurd HA.out (by simp [impl_firstApart.l0])
    | succ k1 =>
      have H := HA.out
      clear HA
      simp only [impl_firstApart.l0] at H
      by_cases c3 : x10_1 < (l0.length : Int)
      · rw [if_pos c3] at H
        have c3b0 : decide (x10_1 < (l0.length : Int)) = true := decide_eq_true c3
        clear c3
        by_cases c4 : 0 ≤ x10_1
        · rw [if_pos c4] at H
          have c4b0 : decide (0 ≤ x10_1) = true := decide_eq_true c4
          clear c4
          by_cases c5 : x10_1 < (l0.length : Int)
          · rw [if_pos c5] at H
            have c5b0 : decide (x10_1 < (l0.length : Int)) = true := decide_eq_true c5
            clear c5
            have H' := Aside0.mk H
            clear H
            have p241 : 0 ≤ (x10_1 : Int) := of_decide_eq_true AS
            have q241 : x10_1 < (l0.length : Int) := of_decide_eq_true AS
            obtain ⟨ad241, e241, hx241_0⟩ := Kd.at_int HR0.out x10_1 p241 q241
            cases e241
            try (replace hx241_0 := (HB.out.cell (World.block_lt_of_cell? w _ hx241_0)).trans hx241_0)
            replace p241 := eq_true p241
            replace q241 := eq_true q241
            go_wp2
            repeat (go_quiet (fail); try go_wp2)
            go_loopg [7] k1 (fun kq v7 w' => ∃ (x7_2 : Int), v7 = .int .i64 x7_2 ∧ Aside0 (impl_firstApart.l1 kq l0 l1 x10_1 (rd l0 x10_1) x7_2 l0 (l0.length : Int) x10_1 = some r) ∧ Aside0 (kq ≤ k1) ∧ Aside0 (Below w.heap.size w w'))
            case atStart => exact ⟨(wrap64 (x10_1 + 1)), RF, H', ⟨Nat.le_refl _⟩, ⟨BB⟩⟩
            case round =>
              clear H'
              try clear c1
              try clear p2
              try clear q2
              try clear hx2
              try clear c3
              try clear c3b0
              try clear c4
              try clear c4b0
              try clear c5
              try clear c5b0
              try clear hx241_0
              try clear p2
              try clear p241
              try clear q241
              obtain ⟨x7_2, rfl, HA, HK2, HB⟩ := hrel
              cases gk with
              | zero => exact absurd HA.out (by simp [impl_firstApart.l1])
              | succ k2 =>
                have H := HA.out
                clear HA
                simp only [impl_firstApart.l1] at H
                by_cases c6 : x7_2 < (l0.length : Int)
                · rw [if_pos c6] at H
                  have c6b0 : decide (x7_2 < (l0.length : Int)) = true := decide_eq_true c6
                  clear c6
                  by_cases c7 : 0 ≤ x7_2
                  · rw [if_pos c7] at H
                    have c7b0 : decide (0 ≤ x7_2) = true := decide_eq_true c7
                    clear c7
                    by_cases c8 : (Go.bits .and .i64 (rd l0 x10_1) (rd l0 x7_2)) = 0
                    · rw [if_pos c8] at H
                      have c8b0 : ((Go.bits .and .i64 (rd l0 x10_1) (rd l0 x7_2)) == 0) = true := beq_iff_eq.mpr c8
                      have c8b1 : ((Go.bits .and .i64 (rd l0 x10_1) (rd l0 x7_2)) != 0) = false := bne_eq_false_iff_eq.mpr c8
                      clear c8
                      by_cases c9 : 0 ≤ x10_1
                      · rw [if_pos c9] at H
                        have c9b0 : decide (0 ≤ x10_1) = true := decide_eq_true c9
                        clear c9
                        by_cases c10 : x10_1 < (l1.length : Int)
                        · rw [if_pos c10] at H
                          have c10b0 : decide (x10_1 < (l1.length : Int)) = true := decide_eq_true c10
                          clear c10
                          by_cases c11 : x7_2 < (l1.length : Int)
                          · rw [if_pos c11] at H
                            have c11b0 : decide (x7_2 < (l1.length : Int)) = true := decide_eq_true c11
                            clear c11
                            by_cases c12 : (rd l1 x10_1) = (rd l1 x7_2)
                            · rw [if_pos c12] at H
                              have c12b0 : ((rd l1 x10_1) == (rd l1 x7_2)) = true := beq_iff_eq.mpr c12
                              have c12b1 : ((rd l1 x10_1) != (rd l1 x7_2)) = false := bne_eq_false_iff_eq.mpr c12
                              clear c12
                              obtain ⟨y246, hy246⟩ : ∃ y_ : List Int, y_ = (([(rd l0 x10_1), rd l0 x7_2] : List Int)) := ⟨_, rfl⟩
                              replace H : (some y246) = some r := by first | (rw [hy246]; with_reducible exact H) | (have H2_ := (Option.bind_some _ _).symm.trans H; rw [hy246]; with_reducible exact H2_) | (have H2_ := (Option.bind_some _ _).symm.trans H; with_reducible exact H2_) | with_reducible exact H | (rw [hy246]; exact H) | exact H
                              have Ny246 := Aside0.mk hy246
                              clear hy246
                              obtain rfl := Option.some.inj H
                              have p242 : 0 ≤ (x7_2 : Int) := of_decide_eq_true AS
                              have q242 : x7_2 < (l0.length : Int) := of_decide_eq_true AS
                              obtain ⟨ad242, e242, hx242_0⟩ := Kd.at_int HR0.out x7_2 p242 q242
                              obtain rfl : ad241 = ad242 := (by injection e242)
                              try (replace hx242_0 := (HB.out.cell (World.block_lt_of_cell? w _ hx242_0)).trans hx242_0)
                              replace p242 := eq_true p242
                              replace q242 := eq_true q242
                              have p243 : 0 ≤ (x10_1 : Int) := of_decide_eq_true AS
                              have q243 : x10_1 < (l1.length : Int) := of_decide_eq_true AS
                              obtain ⟨ad243, e243, hx243_0⟩ := Kd.at_int HR1.out x10_1 p243 q243
                              cases e243
                              try (replace hx243_0 := (HB.out.cell (World.block_lt_of_cell? w _ hx243_0)).trans hx243_0)
                              replace p243 := eq_true p243
                              replace q243 := eq_true q243
                              have p244 : 0 ≤ (x7_2 : Int) := of_decide_eq_true AS
                              have q244 : x7_2 < (l1.length : Int) := of_decide_eq_true AS
                              obtain ⟨ad244, e244, hx244_0⟩ := Kd.at_int HR1.out x7_2 p244 q244
                              obtain rfl : ad243 = ad244 := (by injection e244)
                              try (replace hx244_0 := (HB.out.cell (World.block_lt_of_cell? w _ hx244_0)).trans hx244_0)
                              replace p244 := eq_true p244
                              replace q244 := eq_true q244
                              have p245 : 0 ≤ (x7_2 : Int) := of_decide_eq_true AS
                              have q245 : x7_2 < (l0.length : Int) := of_decide_eq_true AS
                              obtain ⟨ad245, e245, hx245_0⟩ := Kd.at_int HR0.out x7_2 p245 q245
                              obtain rfl : ad241 = ad245 := (by injection e245)
                              try (replace hx245_0 := (HB.out.cell (World.block_lt_of_cell? w _ hx245_0)).trans hx245_0)
                              replace p245 := eq_true p245
                              replace q245 := eq_true q245
                              go_wp2_with (first | ((with_reducible refine gate_dst (N := 46) rfl ?_); refine Kd.R_lit (Kd.int .i64) _ 3 ?hg (N := 46) ?hd (xs := ([(rd l0 x10_1), rd l0 x7_2] : List Int)) (inner := [.int .i64 (rd l0 x10_1), .int .i64 (rd l0 x7_2)]) (ok := fun _ => True) (okp := fun _ => True) ?hr ?hp (fun _ hk => hk) trivial (Below.refl _ _) (Nat.le_refl _) (by simp) ?_; (case hd => rfl); (case hg => rfl); (case hr => first | (go_simp; done) | (go_simp; rfl)); (case hp => exact (Reps.one (show Kd.M (Kd.int .i64) _ _ _ (rd l0 x10_1) [.int .i64 (rd l0 x10_1)] from rfl) (Reps.one (show Kd.M (Kd.int .i64) _ _ _ (rd l0 x7_2) [.int .i64 (rd l0 x7_2)] from rfl) (Reps.none _ _)))); intro v247 w13 ho14 hb hg_ hnew_; clear hg_ hnew_; (first | rw [← Ny246.out] at ho14 | (simp only [Int.reduceToNat] at ho14; rw [← Ny246.out] at ho14)); have n0_ := Aside0.mk (Kd.R_lower ho14 (below_size BB)); have n1_ := Aside0.mk (below_step BB hb); clear HB; have HO248 := n0_; have HB := n1_; clear n0_ n1_; clear hb ho14))
                              repeat (go_quiet (first | ((with_reducible refine gate_dst (N := 46) rfl ?_); refine Kd.R_lit (Kd.int .i64) _ 3 ?hg (N := 46) ?hd (xs := ([(rd l0 x10_1), rd l0 x7_2] : List Int)) (inner := [.int .i64 (rd l0 x10_1), .int .i64 (rd l0 x7_2)]) (ok := fun _ => True) (okp := fun _ => True) ?hr ?hp (fun _ hk => hk) trivial (Below.refl _ _) (Nat.le_refl _) (by simp) ?_; (case hd => rfl); (case hg => rfl); (case hr => first | (go_simp; done) | (go_simp; rfl)); (case hp => exact (Reps.one (show Kd.M (Kd.int .i64) _ _ _ (rd l0 x10_1) [.int .i64 (rd l0 x10_1)] from rfl) (Reps.one (show Kd.M (Kd.int .i64) _ _ _ (rd l0 x7_2) [.int .i64 (rd l0 x7_2)] from rfl) (Reps.none _ _)))); intro v247 w13 ho14 hb hg_ hnew_; clear hg_ hnew_; (first | rw [← Ny246.out] at ho14 | (simp only [Int.reduceToNat] at ho14; rw [← Ny246.out] at ho14)); have n0_ := Aside0.mk (Kd.R_lower ho14 (below_size BB)); have n1_ := Aside0.mk (below_step BB hb); clear HB; have HO248 := n0_; have HB := n1_; clear n0_ n1_; clear hb ho14)); try go_wp2_with (first | ((with_reducible refine gate_dst (N := 46) rfl ?_); refine Kd.R_lit (Kd.int .i64) _ 3 ?hg (N := 46) ?hd (xs := ([(rd l0 x10_1), rd l0 x7_2] : List Int)) (inner := [.int .i64 (rd l0 x10_1), .int .i64 (rd l0 x7_2)]) (ok := fun _ => True) (okp := fun _ => True) ?hr ?hp (fun _ hk => hk) trivial (Below.refl _ _) (Nat.le_refl _) (by simp) ?_; (case hd => rfl); (case hg => rfl); (case hr => first | (go_simp; done) | (go_simp; rfl)); (case hp => exact (Reps.one (show Kd.M (Kd.int .i64) _ _ _ (rd l0 x10_1) [.int .i64 (rd l0 x10_1)] from rfl) (Reps.one (show Kd.M (Kd.int .i64) _ _ _ (rd l0 x7_2) [.int .i64 (rd l0 x7_2)] from rfl) (Reps.none _ _)))); intro v247 w13 ho14 hb hg_ hnew_; clear hg_ hnew_; (first | rw [← Ny246.out] at ho14 | (simp only [Int.reduceToNat] at ho14; rw [← Ny246.out] at ho14)); have n0_ := Aside0.mk (Kd.R_lower ho14 (below_size BB)); have n1_ := Aside0.mk (below_step BB hb); clear HB; have HO248 := n0_; have HB := n1_; clear n0_ n1_; clear hb ho14)))
                              go_ret
                              exact ⟨_, by first | rfl | (simp [errW_none, errW_some] <;> rfl) | (simp [*, errW_none, errW_some] <;> rfl), KR HO248, BB, fun e_ => by have n_ := Ny246.out; rw [e_] at n_; cases n_⟩
                            · rw [if_neg c12] at H
                              have c12b0 : ((rd l1 x10_1) == (rd l1 x7_2)) = false := beq_eq_false_iff_ne.mpr c12
                              have c12b1 : ((rd l1 x10_1) != (rd l1 x7_2)) = true := bne_iff_ne.mpr c12
                              have H' := Aside0.mk H
                              clear H
                              have p242 : 0 ≤ (x7_2 : Int) := of_decide_eq_true AS
                              have q242 : x7_2 < (l0.length : Int) := of_decide_eq_true AS
                              obtain ⟨ad242, e242, hx242_0⟩ := Kd.at_int HR0.out x7_2 p242 q242
                              obtain rfl : ad241 = ad242 := (by injection e242)
                              try (replace hx242_0 := (HB.out.cell (World.block_lt_of_cell? w _ hx242_0)).trans hx242_0)
                              replace p242 := eq_true p242
                              replace q242 := eq_true q242
                              have p243 : 0 ≤ (x10_1 : Int) := of_decide_eq_true AS
                              have q243 : x10_1 < (l1.length : Int) := of_decide_eq_true AS
                              obtain ⟨ad243, e243, hx243_0⟩ := Kd.at_int HR1.out x10_1 p243 q243
                              cases e243
                              try (replace hx243_0 := (HB.out.cell (World.block_lt_of_cell? w _ hx243_0)).trans hx243_0)
                              replace p243 := eq_true p243
                              replace q243 := eq_true q243
                              have p244 : 0 ≤ (x7_2 : Int) := of_decide_eq_true AS
                              have q244 : x7_2 < (l1.length : Int) := of_decide_eq_true AS
                              obtain ⟨ad244, e244, hx244_0⟩ := Kd.at_int HR1.out x7_2 p244 q244
                              obtain rfl : ad243 = ad244 := (by injection e244)
                              try (replace hx244_0 := (HB.out.cell (World.block_lt_of_cell? w _ hx244_0)).trans hx244_0)
                              replace p244 := eq_true p244
                              replace q244 := eq_true q244
                              go_wp2
                              repeat (go_quiet (fail); try go_wp2)
                              go_roundg k2
                              case measure => have := HK1.out; have := HK2.out; omega
                              case rel => exact ⟨(wrap64 (x7_2 + 1)), RF, H', ⟨by have := HK1.out; have := HK2.out; omega⟩, ⟨BB⟩⟩
                          · rw [if_neg c11] at H
                            exact absurd H (by simp)
                        · rw [if_neg c10] at H
                          exact absurd H (by simp)
                      · rw [if_neg c9] at H
                        exact absurd H (by simp)
                    · rw [if_neg c8] at H
                      have c8b0 : ((Go.bits .and .i64 (rd l0 x10_1) (rd l0 x7_2)) == 0) = false := beq_eq_false_iff_ne.mpr c8
                      have c8b1 : ((Go.bits .and .i64 (rd l0 x10_1) (rd l0 x7_2)) != 0) = true := bne_iff_ne.mpr c8
                      have H' := Aside0.mk H
                      clear H
                      have p242 : 0 ≤ (x7_2 : Int) := of_decide_eq_true AS
                      have q242 : x7_2 < (l0.length : Int) := of_decide_eq_true AS
                      obtain ⟨ad242, e242, hx242_0⟩ := Kd.at_int HR0.out x7_2 p242 q242
                      obtain rfl : ad241 = ad242 := (by injection e242)
                      try (replace hx242_0 := (HB.out.cell (World.block_lt_of_cell? w _ hx242_0)).trans hx242_0)
                      replace p242 := eq_true p242
                      replace q242 := eq_true q242
                      go_wp2
                      repeat (go_quiet (fail); try go_wp2)
                      go_roundg k2
                      case measure => have := HK1.out; have := HK2.out; omega
                      case rel => exact ⟨(wrap64 (x7_2 + 1)), RF, H', ⟨by have := HK1.out; have := HK2.out; omega⟩, ⟨BB⟩⟩
                  · rw [if_neg c7] at H
                    exact absurd H (by simp)
                · rw [if_neg c6] at H
                  have c6b0 : decide (x7_2 < (l0.length : Int)) = false := decide_eq_false c6
                  clear c6
                  have H' := Aside0.mk H
                  clear H
                  go_wp2
                  repeat (go_quiet (fail); try go_wp2)
                  go_roundg k2
                  case measure => have := HK1.out; have := HK2.out; omega
                  case rel => exact ⟨(wrap64 (x10_1 + 1)), RF, H', ⟨by have := HK1.out; have := HK2.out; omega⟩, ⟨BB⟩⟩
          · rw [if_neg c5] at H
            exact absurd H (by simp)
        · rw [if_neg c4] at H
          exact absurd H (by simp)
      · rw [if_neg c3] at H
        have c3b0 : decide (x10_1 < (l0.length : Int)) = false := decide_eq_false c3
        clear c3
        obtain rfl := Option.some.inj H
        go_wp2
        repeat (go_quiet (fail); try go_wp2)
        go_ret
        exact ⟨_, by first | rfl | (simp [errW_none, errW_some] <;> rfl) | (simp [*, errW_none, errW_some] <;> rfl), by first | exact Kd.R_nil _ _ _ _ _ | exact Kd.N_nil _ _ _ _ _ | exact Kd.V_nil _ _ _ _ _ | exact Kd.Q_nil _ _ _ _ _ | exact Kd.S_nil _ _ _ _ _, BB, by first | (intro _; rfl) | rfl⟩

/-! ### impl_IsColouring_1: function 63 -/
def impl_IsColouring_1.f (a0 : Int) : Option (Bool) := some (decide (a0 < 0))
set_option maxHeartbeats 8000000 in
set_option maxRecDepth 100000 in
theorem impl_IsColouring_1.calls (a0 : Int) (r : Bool) (w : World) (h : impl_IsColouring_1.f a0 = some r) :
    Calls Try.prog 63 #[.int .i64 a0] w fun e w' => e = .returned (.bool r) ∧ Drawn0 w w' := by
  have H : (some (decide (a0 < 0))) = some r := h
  clear h
  obtain rfl := Option.some.inj H
  go_enter Try.func63, Try.ntmps63
  go_wp2
  go_ret
  exact ⟨by first | rfl | (simp; done) | (simp [*]; done) | (simp [*, wrap64]; done), by repeat (first | exact Drawn0.refl _ | apply Drawn0.step)⟩

/-! ### slices_IndexFunc_int_int__impl_IsColouring_1: function 103 -/
def slices_IndexFunc_int_int__impl_IsColouring_1.l0 : Nat → List Int → Int → Int → Option (Int)
  | 0, _, _, _ => none
  | k + 1, x0, x7, x8 => if x8 < x7 then (if 0 ≤ x8 then (if x8 < (x0.length : Int) then ((impl_IsColouring_1.f (rd x0 x8)).bind fun t250 => (if t250 = true then (some x8) else (slices_IndexFunc_int_int__impl_IsColouring_1.l0 k x0 x7 (wrap64 (x8 + 1))))) else (none)) else (none)) else (some (-1))
def slices_IndexFunc_int_int__impl_IsColouring_1.f (k : Nat) (l0 : List Int)  : Option (Int) := slices_IndexFunc_int_int__impl_IsColouring_1.l0 k l0 (l0.length : Int) 0
theorem slices_IndexFunc_int_int__impl_IsColouring_1.mono_l : ∀ k, (∀ y0 y1 y2, LeO (slices_IndexFunc_int_int__impl_IsColouring_1.l0 k y0 y1 y2) (slices_IndexFunc_int_int__impl_IsColouring_1.l0 (k + 1) y0 y1 y2))
  | 0 => fun _ _ _ r h => by simp [slices_IndexFunc_int_int__impl_IsColouring_1.l0] at h
  | k + 1 => by
    have ih0 := slices_IndexFunc_int_int__impl_IsColouring_1.mono_l k
    · intro y0 y1 y2
      unfold slices_IndexFunc_int_int__impl_IsColouring_1.l0
      repeat' first
      | (with_reducible exact ih0 _ _ _)
      | (with_reducible exact LeO.refl _)
      | (with_reducible exact LeO.none _)
      | (with_reducible refine LeO.ite ?_ ?_)
      | (with_reducible refine LeO.bind ?_ (fun _ => ?_))
      | exact ih0 _ _ _
      | exact LeO.none _
      | refine LeO.ite ?_ ?_
      | refine LeO.bind ?_ (fun _ => ?_)
theorem slices_IndexFunc_int_int__impl_IsColouring_1.mono : ∀ a0 k, LeO (slices_IndexFunc_int_int__impl_IsColouring_1.f k a0) (slices_IndexFunc_int_int__impl_IsColouring_1.f (k + 1) a0) := by
  intro a0 k
  have ih0 := slices_IndexFunc_int_int__impl_IsColouring_1.mono_l k
  unfold slices_IndexFunc_int_int__impl_IsColouring_1.f
  repeat' first
      | (with_reducible exact ih0 _ _ _)
      | (with_reducible exact LeO.refl _)
      | (with_reducible exact LeO.none _)
      | (with_reducible refine LeO.ite ?_ ?_)
      | (with_reducible refine LeO.bind ?_ (fun _ => ?_))
      | exact ih0 _ _ _
      | exact LeO.none _
      | refine LeO.ite ?_ ?_
      | refine LeO.bind ?_ (fun _ => ?_)
set_option maxHeartbeats 8000000 in
set_option maxRecDepth 100000 in
theorem slices_IndexFunc_int_int__impl_IsColouring_1.calls (k : Nat) (A0 : Option Addr) (c0 : Nat) (l0 : List Int)  (r : Int) (w : World) (hr0 : Kd.C (Kd.int .i64) w A0 l0.length l0) (hc0 : l0.length ≤ c0) (h : slices_IndexFunc_int_int__impl_IsColouring_1.f k l0 = some r) :
    Calls Try.prog 103 #[.slice A0 l0.length c0, .func (.func 63) #[] #[]] w fun e w' => e = .returned (.int .i64 r) ∧ Drawn0 w w' := by
  have HR0 := Aside0.mk hr0
  have HC0 := Aside0.mk hc0
  clear hr0 hc0
  have H : (slices_IndexFunc_int_int__impl_IsColouring_1.l0 k l0 (l0.length : Int) 0) = some r := h
  clear h
  have H' := Aside0.mk H
  clear H
  go_enter Try.func103, Try.ntmps103
  go_wp2
  go_loopg [8] k (fun kq v8 w' => ∃ (x8_1 : Int), v8 = .int .i64 x8_1 ∧ Aside0 (slices_IndexFunc_int_int__impl_IsColouring_1.l0 kq l0 (l0.length : Int) x8_1 = some r) ∧ Aside0 (kq ≤ k) ∧ Drawn0 w w')
  case atStart => exact ⟨(0), RF, H', ⟨Nat.le_refl _⟩, by repeat (first | exact Drawn0.refl _ | apply Drawn0.step)⟩
  case round =>
    clear H'
    try clear c1
    try clear p2
    obtain ⟨x8_1, rfl, HA, HK1, ⟨m1, rfl⟩⟩ := hrel
    cases gk with
    | zero => exact absurd HA.out (by simp [slices_IndexFunc_int_int__impl_IsColouring_1.l0])
    | succ k1 =>
      have H := HA.out
      clear HA
      simp only [slices_IndexFunc_int_int__impl_IsColouring_1.l0] at H
      by_cases c3 : x8_1 < (l0.length : Int)
      · rw [if_pos c3] at H
        have c3b0 : decide (x8_1 < (l0.length : Int)) = true := decide_eq_true c3
        clear c3
        by_cases c4 : 0 ≤ x8_1
        · rw [if_pos c4] at H
          have c4b0 : decide (0 ≤ x8_1) = true := decide_eq_true c4
          clear c4
          by_cases c5 : x8_1 < (l0.length : Int)
          · rw [if_pos c5] at H
            have c5b0 : decide (x8_1 < (l0.length : Int)) = true := decide_eq_true c5
            clear c5
            replace H := Option.bind_eq_some_iff.mp H
            obtain ⟨t250, A60, H⟩ := H
            replace H : (if t250 = true then (some x8_1) else (slices_IndexFunc_int_int__impl_IsColouring_1.l0 k1 l0 (l0.length : Int) (wrap64 (x8_1 + 1)))) = some r := H
            have A6 := Aside0.mk A60
            clear A60
            by_cases c7 : t250 = true
            · subst c7
              have H1 : (some x8_1) = some r := by rw [if_pos rfl] at H; exact H
              clear H
              have H := H1
              clear H1
              obtain rfl := Option.some.inj H
              have p249 : 0 ≤ (x8_1 : Int) := of_decide_eq_true AS
              have q249 : x8_1 < (l0.length : Int) := of_decide_eq_true AS
              obtain ⟨ad249, e249, hx249_0⟩ := Kd.at_int HR0.out x8_1 p249 q249
              cases e249
              replace p249 := eq_true p249
              replace q249 := eq_true q249
              go_wp2_with (first | (go_at_call 63; (with_reducible refine (impl_IsColouring_1.calls (rd l0 x8_1) true _ A6.out).mono ?_); rintro e w' ⟨rfl, ⟨nd, rfl⟩⟩))
              go_ret
              exact ⟨by first | rfl | (simp; done) | (simp [*]; done) | (simp [*, wrap64]; done), by repeat (first | exact Drawn0.refl _ | apply Drawn0.step)⟩
            · replace c7 := Bool.eq_false_iff.mpr c7
              subst c7
              have H1 : (slices_IndexFunc_int_int__impl_IsColouring_1.l0 k1 l0 (l0.length : Int) (wrap64 (x8_1 + 1))) = some r := by rw [if_neg (show ¬ (false = true) by decide)] at H; exact H
              clear H
              have H := H1
              clear H1
              have H' := Aside0.mk H
              clear H
              have p249 : 0 ≤ (x8_1 : Int) := of_decide_eq_true AS
              have q249 : x8_1 < (l0.length : Int) := of_decide_eq_true AS
              obtain ⟨ad249, e249, hx249_0⟩ := Kd.at_int HR0.out x8_1 p249 q249
              cases e249
              replace p249 := eq_true p249
              replace q249 := eq_true q249
              go_wp2_with (first | (go_at_call 63; (with_reducible refine (impl_IsColouring_1.calls (rd l0 x8_1) false _ A6.out).mono ?_); rintro e w' ⟨rfl, ⟨nd, rfl⟩⟩))
              go_roundg k1
              case measure => have := HK1.out; omega
              case rel => exact ⟨(wrap64 (x8_1 + 1)), RF, H', ⟨by have := HK1.out; omega⟩, by repeat (first | exact Drawn0.refl _ | apply Drawn0.step)⟩
          · rw [if_neg c5] at H
            exact absurd H (by simp)
        · rw [if_neg c4] at H
          exact absurd H (by simp)
      · rw [if_neg c3] at H
        have c3b0 : decide (x8_1 < (l0.length : Int)) = false := decide_eq_false c3
        clear c3
        obtain rfl := Option.some.inj H
        go_wp2
        go_ret
        exact ⟨by first | rfl | (simp; done) | (simp [*]; done) | (simp [*, wrap64]; done), by repeat (first | exact Drawn0.refl _ | apply Drawn0.step)⟩

/-! ### slices_ContainsFunc_int_int__impl_IsColouring_1: function 62 -/
def slices_ContainsFunc_int_int__impl_IsColouring_1.f (k : Nat) (l0 : List Int)  : Option (Bool) := (slices_IndexFunc_int_int__impl_IsColouring_1.f k l0).bind fun t251 => (some (decide (t251 ≥ 0)))
theorem slices_ContainsFunc_int_int__impl_IsColouring_1.mono : ∀ a0 k, LeO (slices_ContainsFunc_int_int__impl_IsColouring_1.f k a0) (slices_ContainsFunc_int_int__impl_IsColouring_1.f (k + 1) a0) := by
  intro a0 k
  unfold slices_ContainsFunc_int_int__impl_IsColouring_1.f
  repeat' first
      | (with_reducible exact slices_IndexFunc_int_int__impl_IsColouring_1.mono _ _)
      | (with_reducible exact LeO.refl _)
      | (with_reducible exact LeO.none _)
      | (with_reducible refine LeO.ite ?_ ?_)
      | (with_reducible refine LeO.bind ?_ (fun _ => ?_))
      | exact slices_IndexFunc_int_int__impl_IsColouring_1.mono _ _
      | exact LeO.none _
      | refine LeO.ite ?_ ?_
      | refine LeO.bind ?_ (fun _ => ?_)
set_option maxHeartbeats 8000000 in
set_option maxRecDepth 100000 in
theorem slices_ContainsFunc_int_int__impl_IsColouring_1.calls (k : Nat) (A0 : Option Addr) (c0 : Nat) (l0 : List Int)  (r : Bool) (w : World) (hr0 : Kd.C (Kd.int .i64) w A0 l0.length l0) (hc0 : l0.length ≤ c0) (h : slices_ContainsFunc_int_int__impl_IsColouring_1.f k l0 = some r) :
    Calls Try.prog 62 #[.slice A0 l0.length c0, .func (.func 63) #[] #[]] w fun e w' => e = .returned (.bool r) ∧ Drawn0 w w' := by
  have HR0 := Aside0.mk hr0
  have HC0 := Aside0.mk hc0
  clear hr0 hc0
  have H : ((slices_IndexFunc_int_int__impl_IsColouring_1.f k l0).bind fun t251 => (some (decide (t251 ≥ 0)))) = some r := h
  clear h
  replace H := Option.bind_eq_some_iff.mp H
  obtain ⟨t251, A30, H⟩ := H
  replace H : (some (decide (t251 ≥ 0))) = some r := H
  have A3 := Aside0.mk A30
  clear A30
  obtain rfl := Option.some.inj H
  go_enter Try.func62, Try.ntmps62
  go_wp2_with (first | ((with_reducible refine gate_callee (f := 103) rfl ?_); refine goesL_ (some 7) rfl rfl Try.func103 (by kernel_rfl) rfl #[.slice A0 l0.length c0, .func (.func 63) #[] #[]] rfl TA ?_; (with_reducible refine (slices_IndexFunc_int_int__impl_IsColouring_1.calls k _ _ l0  t251 _ ?side1 ?side2 A3.out).mono ?_); (case side1 => repeat (first | exact HR0.out | (with_reducible refine Kd.C_drewN ?_ _) | (with_reducible refine Kd.C_drew ?_) | (with_reducible refine Kd.C_alloc ?_ _))); (case side2 => exact HC0.out); rintro e w' ⟨rfl, ⟨nd, rfl⟩⟩; refine ⟨_, rfl, ?_⟩))
  go_ret
  exact ⟨by first | rfl | (simp; done) | (simp [*]; done) | (simp [*, wrap64]; done), by repeat (first | exact Drawn0.refl _ | apply Drawn0.step)⟩

/-! ### impl_IsColouring: function 15 (given) -/
def impl_IsColouring.f (k : Nat) (a0 : Int) (a1 : Int) (l2 : List Int) : Option (Bool × Bool) := (impl_areItems.f a0 a1).bind fun ok => if ok = true then ((impl_setsOf.f k a0 a1).bind fun s => if (l2.length : Int) = (s.length : Int) then ((slices_ContainsFunc_int_int__impl_IsColouring_1.f k l2).bind fun c => if c = true then some (false, true) else ((impl_firstApart.f k s l2).bind fun u => some (decide (u = []), true))) else some (false, true)) else some (false, false)
theorem impl_IsColouring.mono : ∀ a0 a1 l2 k, LeO (impl_IsColouring.f k a0 a1 l2) (impl_IsColouring.f (k + 1) a0 a1 l2) := by
  intro a0 a1 l2 k
  unfold impl_IsColouring.f
  exact LeO.bind (LeO.refl _) (fun _ => LeO.ite (LeO.bind (impl_setsOf.mono _ _ _) (fun _ => LeO.ite (LeO.bind (slices_ContainsFunc_int_int__impl_IsColouring_1.mono _ _) (fun _ => LeO.ite (LeO.refl _) (LeO.bind (impl_firstApart.mono _ _ _) (fun _ => LeO.refl _)))) (LeO.refl _))) (LeO.refl _))
set_option maxHeartbeats 8000000 in
set_option maxRecDepth 100000 in
theorem impl_IsColouring.calls (k : Nat) (a0 : Int) (a1 : Int) (A2 : Option Addr) (c2 : Nat) (l2 : List Int) (r1 : Bool) (r2 : Bool) (w : World) (hr2 : Kd.C (Kd.int .i64) w A2 l2.length l2) (hc2 : l2.length ≤ c2) (h : impl_IsColouring.f k a0 a1 l2 = some (r1, r2)) :
    Calls Try.prog 15 #[.int .i64 a0, .int .i64 a1, .slice A2 l2.length c2] w fun e w' => e = .returned (.tuple #[.bool r1, .bool r2]) ∧ Below w.heap.size w w' := by
  have HR2 := Aside0.mk hr2
  have HC2 := Aside0.mk hc2
  clear hr2 hc2
  have HB := Aside0.mk (Below.refl w.heap.size w)
  unfold impl_IsColouring.f at h
  obtain ⟨b, hb0, h⟩ := Option.bind_eq_some_iff.mp h
  have HI := Aside0.mk hb0
  clear hb0
  cases b with
  | false =>
    have h2 := Option.some.inj ((if_neg (show ¬ (false = true) by decide)).symm.trans h)
    injection h2 with e1 e2
    subst e1
    subst e2
    clear h
    go_enter Try.func15, Try.ntmps15
    go_wp2_with (first | (go_at_call 53; refine (impl_areItems.calls a0 a1 false _ HI.out).mono ?_; rintro e w' ⟨rfl, ⟨nd, rfl⟩⟩))
    go_ret2
    exact ⟨rfl, BB⟩
  | true =>
    have h2 := (if_pos (show true = true from rfl)).symm.trans h
    obtain ⟨s, hs, h3⟩ := Option.bind_eq_some_iff.mp h2
    clear h h2
    have HT := Aside0.mk hs
    clear hs
    by_cases hl : (l2.length : Int) = (s.length : Int)
    · have h4 := (if_pos hl).symm.trans h3
      obtain ⟨c, hcc, h5⟩ := Option.bind_eq_some_iff.mp h4
      have HK := Aside0.mk hcc
      clear h3 h4 hcc
      have l0_ : ((l2.length : Int) == (s.length : Int)) = true := beq_iff_eq.mpr hl
      have l1_ : (l2.length == s.length) = true := beq_iff_eq.mpr (by omega)
      have l2_ : (l2.length = s.length) = True := eq_true (by omega)
      clear hl
      cases c with
      | true =>
        have h6 := Option.some.inj ((if_pos (show true = true from rfl)).symm.trans h5)
        injection h6 with e1 e2
        subst e1
        subst e2
        clear h5
        go_enter Try.func15, Try.ntmps15
        go_wp2_with (first
          | (go_at_call 53; refine (impl_areItems.calls a0 a1 true _ HI.out).mono ?_; rintro e w' ⟨rfl, ⟨nd, rfl⟩⟩)
          | (go_at_call 55; refine (impl_setsOf.calls k a0 a1 s _ HT.out).mono ?_; rintro e w1 ⟨v8, rfl, hS, hb⟩; have n0_ := Aside0.mk (Kd.R_lower hS (below_size BB)); have n1_ := Aside0.mk (below_step BB hb); clear HB; have HS := n0_; have HB := n1_; clear n0_ n1_ hS hb; obtain ⟨A8, c8, e8⟩ := Kd.R_slice HS.out; subst e8)
          | (go_at_call 62; refine (slices_ContainsFunc_int_int__impl_IsColouring_1.calls k _ _ l2 true _ (by repeat (first | exact (Kd.C_below HR2.out HB.out) | (with_reducible refine Kd.C_drewN ?_ _) | (with_reducible refine Kd.C_drew ?_))) HC2.out HK.out).mono ?_; rintro e w' ⟨rfl, ⟨nd2, rfl⟩⟩))
        go_ret2
        exact ⟨rfl, BB⟩
      | false =>
        have h6 := (if_neg (show ¬ (false = true) by decide)).symm.trans h5
        obtain ⟨u, hu, h7⟩ := Option.bind_eq_some_iff.mp h6
        have HU := Aside0.mk hu
        clear h5 h6 hu
        have h8 := Option.some.inj h7
        injection h8 with e1 e2
        subst e1
        subst e2
        clear h7
        have en1 : ∀ w, (binOp BinOp.eql 26 (.slice none 0 0) (.slice none 0 0)).run Try.prog w = .ok (.bool true) w := fun _ => by kernel_rfl
        have en2 : ∀ (a : Addr) (n c : Nat) (w : World), (binOp BinOp.eql 26 (.slice (some a) n c) (.slice none 0 0)).run Try.prog w = .ok (.bool false) w := fun _ _ _ _ => by kernel_rfl
        cases u with
        | nil =>
          go_enter Try.func15, Try.ntmps15
          go_wp2_with (first
            | (go_at_call 53; refine (impl_areItems.calls a0 a1 true _ HI.out).mono ?_; rintro e w' ⟨rfl, ⟨nd, rfl⟩⟩)
            | (go_at_call 55; refine (impl_setsOf.calls k a0 a1 s _ HT.out).mono ?_; rintro e w1 ⟨v8, rfl, hS, hb⟩; have n0_ := Aside0.mk (Kd.R_lower hS (below_size BB)); have n1_ := Aside0.mk (below_step BB hb); clear HB; have HS := n0_; have HB := n1_; clear n0_ n1_ hS hb; obtain ⟨A8, c8, e8⟩ := Kd.R_slice HS.out; subst e8)
            | (go_at_call 62; refine (slices_ContainsFunc_int_int__impl_IsColouring_1.calls k _ _ l2 false _ (by repeat (first | exact (Kd.C_below HR2.out HB.out) | (with_reducible refine Kd.C_drewN ?_ _) | (with_reducible refine Kd.C_drew ?_))) HC2.out HK.out).mono ?_; rintro e w' ⟨rfl, ⟨nd2, rfl⟩⟩)
            | (go_at_call 64; refine (impl_firstApart.callsN k _ _ s _ _ l2 [] _ (by repeat (first | exact (Kd.R_reads' HS.out).2.2 | (with_reducible refine Kd.C_drewN ?_ _) | (with_reducible refine Kd.C_drew ?_))) (Kd.R_reads' HS.out).2.1 (by repeat (first | exact (Kd.C_below HR2.out HB.out) | (with_reducible refine Kd.C_drewN ?_ _) | (with_reducible refine Kd.C_drew ?_))) HC2.out HU.out).mono ?_; rintro e w9 ⟨v31, rfl, hV, hb, hN⟩; obtain rfl := hN rfl; clear hV hN; have n1_ := Aside0.mk (below_step BB hb); clear HB; have HB := n1_; clear n1_ hb))
          go_ret2
          exact ⟨rfl, BB⟩
        | cons x u =>
          go_enter Try.func15, Try.ntmps15
          go_wp2_with (first
            | (go_at_call 53; refine (impl_areItems.calls a0 a1 true _ HI.out).mono ?_; rintro e w' ⟨rfl, ⟨nd, rfl⟩⟩)
            | (go_at_call 55; refine (impl_setsOf.calls k a0 a1 s _ HT.out).mono ?_; rintro e w1 ⟨v8, rfl, hS, hb⟩; have n0_ := Aside0.mk (Kd.R_lower hS (below_size BB)); have n1_ := Aside0.mk (below_step BB hb); clear HB; have HS := n0_; have HB := n1_; clear n0_ n1_ hS hb; obtain ⟨A8, c8, e8⟩ := Kd.R_slice HS.out; subst e8)
            | (go_at_call 62; refine (slices_ContainsFunc_int_int__impl_IsColouring_1.calls k _ _ l2 false _ (by repeat (first | exact (Kd.C_below HR2.out HB.out) | (with_reducible refine Kd.C_drewN ?_ _) | (with_reducible refine Kd.C_drew ?_))) HC2.out HK.out).mono ?_; rintro e w' ⟨rfl, ⟨nd2, rfl⟩⟩)
            | (go_at_call 64; refine (impl_firstApart.callsN k _ _ s _ _ l2 (x :: u) _ (by repeat (first | exact (Kd.R_reads' HS.out).2.2 | (with_reducible refine Kd.C_drewN ?_ _) | (with_reducible refine Kd.C_drew ?_))) (Kd.R_reads' HS.out).2.1 (by repeat (first | exact (Kd.C_below HR2.out HB.out) | (with_reducible refine Kd.C_drewN ?_ _) | (with_reducible refine Kd.C_drew ?_))) HC2.out HU.out).mono ?_; rintro e w9 ⟨v31, rfl, hV, hb, hN⟩; obtain ⟨blk, cap, cur, rfl, _⟩ := ownI hV (by simp); clear hV hN; have n1_ := Aside0.mk (below_step BB hb); clear HB; have HB := n1_; clear n1_ hb))
          go_ret2
          exact ⟨rfl, BB⟩
    · have h4 := (if_neg hl).symm.trans h3
      have h6 := Option.some.inj h4
      injection h6 with e1 e2
      subst e1
      subst e2
      clear h3 h4
      have l0_ : ((l2.length : Int) == (s.length : Int)) = false := beq_eq_false_iff_ne.mpr hl
      have l1_ : (l2.length == s.length) = false := beq_eq_false_iff_ne.mpr (by omega)
      have l2_ : (l2.length = s.length) = False := eq_false (by omega)
      clear hl
      go_enter Try.func15, Try.ntmps15
      go_wp2_with (first
        | (go_at_call 53; refine (impl_areItems.calls a0 a1 true _ HI.out).mono ?_; rintro e w' ⟨rfl, ⟨nd, rfl⟩⟩)
        | (go_at_call 55; refine (impl_setsOf.calls k a0 a1 s _ HT.out).mono ?_; rintro e w1 ⟨v8, rfl, hS, hb⟩; have n0_ := Aside0.mk (Kd.R_lower hS (below_size BB)); have n1_ := Aside0.mk (below_step BB hb); clear HB; have HS := n0_; have HB := n1_; clear n0_ n1_ hS hb; obtain ⟨A8, c8, e8⟩ := Kd.R_slice HS.out; subst e8))
      go_ret2
      exact ⟨rfl, BB⟩

end Go.Proofs.Ytemgnbpcchlpiaa.PFnMeetingSets
