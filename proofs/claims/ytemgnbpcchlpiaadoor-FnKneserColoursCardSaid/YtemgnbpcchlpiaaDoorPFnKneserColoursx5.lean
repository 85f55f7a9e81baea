-- Written by a program of this session (wip/tools/pp.sh) out of the translation; Lean checks it.
import Derived.Test.YtemgnbpcchlpiaaDoorPFnKneserColoursx0
import Derived.Test.YtemgnbpcchlpiaaDoorPFnKneserColoursx1
import Derived.Test.YtemgnbpcchlpiaaDoorPFnKneserColoursx2
import Derived.Test.YtemgnbpcchlpiaaDoorPFnKneserColoursx3
namespace Go.Proofs.YtemgnbpcchlpiaaDoor.PFnKneserColours
open Go.RowKit Go.Proofs.YtemgnbpcchlpiaaDoorOwn Go.Proofs.YtemgnbpcchlpiaaDoorW.PrintWords Go.Proofs.YtemgnbpcchlpiaaDoorW.PrintLast Go.Proofs.YtemgnbpcchlpiaaDoorW.PrintMore
attribute [local go_sem] max2_int min2_int max_two min_two max_three min_three max_four min_four   -- for this text's walks alone
set_option linter.unusedVariables false
set_option maxHeartbeats 8000000
set_option maxRecDepth 100000
set_option linter.unusedSimpArgs false

/-! ### spec_knClash: function 41 -/
mutual
def spec_knClash.l0 : Nat → List Int → List Int → List Int → Int → Int → Option (List Int × Bool)
 | 0, _, _, _, _, _ => none
 | k + 1, x0, x1, x9, x10, x11 => if x11 < x10 then (if 0 ≤ x11 then (if x11 < (x9.length : Int) then (spec_knClash.l1 k x0 x1 x11 (rd x9 x11) (wrap64 (x11 + 1)) x9 x10 x11) else (none)) else (none)) else (some (([] : List Int), false))
def spec_knClash.l1 : Nat → List Int → List Int → Int → Int → Int → List Int → Int → Int → Option (List Int × Bool)
 | 0, _, _, _, _, _, _, _, _ => none
 | k + 1, x0, x1, x6, x7, x8, x9, x10, x11 => if x8 < (x0.length : Int) then (if 0 ≤ x8 then (if (Go.bits .and .i64 x7 (rd x0 x8)) = 0 then (if 0 ≤ x6 then (if x6 < (x1.length : Int) then (if x8 < (x1.length : Int) then (if (rd x1 x6) = (rd x1 x8) then (some ((([x7, rd x0 x8] : List Int)), true)) else (spec_knClash.l1 k x0 x1 x6 x7 (wrap64 (x8 + 1)) x9 x10 x11)) else (none)) else (none)) else (none)) else (spec_knClash.l1 k x0 x1 x6 x7 (wrap64 (x8 + 1)) x9 x10 x11)) else (none)) else (spec_knClash.l0 k x0 x1 x9 x10 (wrap64 (x11 + 1)))
end
def spec_knClash.f (k : Nat) (l0 : List Int) (l1 : List Int) : Option (List Int × Bool) := spec_knClash.l0 k l0 l1 l0 (l0.length : Int) 0
theorem spec_knClash.mono_l : ∀ k, (∀ y0 y1 y2 y3 y4, LeO (spec_knClash.l0 k y0 y1 y2 y3 y4) (spec_knClash.l0 (k + 1) y0 y1 y2 y3 y4)) ∧ (∀ y0 y1 y2 y3 y4 y5 y6 y7, LeO (spec_knClash.l1 k y0 y1 y2 y3 y4 y5 y6 y7) (spec_knClash.l1 (k + 1) y0 y1 y2 y3 y4 y5 y6 y7))
 | 0 => ⟨fun _ _ _ _ _ r h => by simp [spec_knClash.l0] at h, fun _ _ _ _ _ _ _ _ r h => by simp [spec_knClash.l1] at h⟩
 | k + 1 => by
  obtain ⟨ih0, ih1⟩ := spec_knClash.mono_l k
  refine ⟨?_, ?_⟩
  ·intro y0 y1 y2 y3 y4
   unfold spec_knClash.l0
   repeat' first
   | with_reducible first | exact ih0 _ _ _ _ _ | exact ih1 _ _ _ _ _ _ _ _ | exact LeO.refl _ | exact LeO.none _ | refine LeO.ite ?_ ?_ | refine LeO.bind ?_ (fun _ => ?_)
   | exact LeO.none _ | refine LeO.ite ?_ ?_ | refine LeO.bind ?_ (fun _ => ?_)
  ·intro y0 y1 y2 y3 y4 y5 y6 y7
   unfold spec_knClash.l1
   repeat' first
   | with_reducible first | exact ih0 _ _ _ _ _ | exact ih1 _ _ _ _ _ _ _ _ | exact LeO.refl _ | exact LeO.none _ | refine LeO.ite ?_ ?_ | refine LeO.bind ?_ (fun _ => ?_)
   | exact LeO.none _ | refine LeO.ite ?_ ?_ | refine LeO.bind ?_ (fun _ => ?_)
theorem spec_knClash.mono : ∀ a0 a1 k, LeO (spec_knClash.f k a0 a1) (spec_knClash.f (k + 1) a0 a1) := by
 intro a0 a1 k
 obtain ⟨ih0, ih1⟩ := spec_knClash.mono_l k
 unfold spec_knClash.f
 repeat' first
   | with_reducible first | exact ih0 _ _ _ _ _ | exact ih1 _ _ _ _ _ _ _ _ | exact LeO.refl _ | exact LeO.none _ | refine LeO.ite ?_ ?_ | refine LeO.bind ?_ (fun _ => ?_)
   | exact LeO.none _ | refine LeO.ite ?_ ?_ | refine LeO.bind ?_ (fun _ => ?_)
theorem spec_knClash.calls (k : Nat) (A0 : Option Addr) (c0 : Nat) (l0 : List Int) (A1 : Option Addr) (c1 : Nat) (l1 : List Int) (r1 : List Int) (r2 : Bool) (w : World) (hr0 : Kd.C (Kd.int .i64) w A0 l0.length l0) (hc0 : l0.length ≤ c0) (hr1 : Kd.C (Kd.int .i64) w A1 l1.length l1) (hc1 : l1.length ≤ c1) (h : spec_knClash.f k l0 l1 = some (r1, r2)) :
  Calls Tryd.prog 41 #[.slice A0 l0.length c0, .slice A1 l1.length c1] w fun e w' => ∃ v0_ : Value, e = .returned (.tuple #[v0_, .bool r2]) ∧ Kd.R (Kd.int .i64) 3 w' w.heap.size (fun _ => True) v0_ r1 ∧ Below w.heap.size w w' := by
 have HR0 := Aside0.mk hr0
 have HC0 := Aside0.mk hc0
 clear hr0 hc0
 have HR1 := Aside0.mk hr1
 have HC1 := Aside0.mk hc1
 clear hr1 hc1
 have HB := Aside0.mk (Below.refl w.heap.size w)
 have H : (spec_knClash.l0 k l0 l1 l0 (l0.length : Int) 0) = some (r1, r2) := h
 clear h
 have H' := Aside0.mk H
 clear H
 go_enter Tryd.func41, Tryd.ntmps41
 go_wp2
 repeat (go_quiet (fail); try go_wp2)
 go_loopg [11] k (fun kq v11 w' => ∃ (x11_1 : Int), v11 = .int .i64 x11_1 ∧ Aside0 (spec_knClash.l0 kq l0 l1 l0 (l0.length : Int) x11_1 = some (r1, r2)) ∧ Aside0 (kq ≤ k) ∧ Aside0 (Below w.heap.size w w'))
 case atStart => exact ⟨(0), RF, H', ⟨Nat.le_refl _⟩, ⟨BB⟩⟩
 case round =>
  clear H'
  try clear c1
  try clear p2
  obtain ⟨x11_1, rfl, HA, HK1, HB⟩ := hrel
  cases gk with
  | zero => exact absurd HA.out (by simp [spec_knClash.l0])
  | succ k1 =>
   have H := HA.out
   clear HA
   simp only [spec_knClash.l0] at H
   by_cases c3 : x11_1 < (l0.length : Int)
   ·rw [if_pos c3] at H
    have c3b0 : decide (x11_1 < (l0.length : Int)) = true := decide_eq_true c3
    clear c3
    by_cases c4 : 0 ≤ x11_1
    ·rw [if_pos c4] at H
     have c4b0 : decide (0 ≤ x11_1) = true := decide_eq_true c4
     clear c4
     by_cases c5 : x11_1 < (l0.length : Int)
     ·rw [if_pos c5] at H
      have c5b0 : decide (x11_1 < (l0.length : Int)) = true := decide_eq_true c5
      clear c5
      have H' := Aside0.mk H
      clear H
      have p267 : 0 ≤ (x11_1 : Int) := of_decide_eq_true AS
      have q267 : x11_1 < (l0.length : Int) := of_decide_eq_true AS
      obtain ⟨ad267, e267, hx267_0⟩ := Kd.at_int HR0.out x11_1 p267 q267
      cases e267
      try (replace hx267_0 := (HB.out.cell (World.block_lt_of_cell? w _ hx267_0)).trans hx267_0)
      replace p267 := eq_true p267
      replace q267 := eq_true q267
      go_wp2
      repeat (go_quiet (fail); try go_wp2)
      go_loopg [8] k1 (fun kq v8 w' => ∃ (x8_2 : Int), v8 = .int .i64 x8_2 ∧ Aside0 (spec_knClash.l1 kq l0 l1 x11_1 (rd l0 x11_1) x8_2 l0 (l0.length : Int) x11_1 = some (r1, r2)) ∧ Aside0 (kq ≤ k1) ∧ Aside0 (Below w.heap.size w w'))
      case atStart => exact ⟨(wrap64 (x11_1 + 1)), RF, H', ⟨Nat.le_refl _⟩, ⟨BB⟩⟩
      case round =>
       clear H'
       try clear c1
       try clear p2
       try clear q2
       try clear hx2
       try clear c3
       try clear c3b0
       try clear c4
       try clear c4b0
       try clear c5
       try clear c5b0
       try clear hx267_0
       try clear p2
       try clear p267
       try clear q267
       obtain ⟨x8_2, rfl, HA, HK2, HB⟩ := hrel
       cases gk with
       | zero => exact absurd HA.out (by simp [spec_knClash.l1])
       | succ k2 =>
        have H := HA.out
        clear HA
        simp only [spec_knClash.l1] at H
        by_cases c6 : x8_2 < (l0.length : Int)
        ·rw [if_pos c6] at H
         have c6b0 : decide (x8_2 < (l0.length : Int)) = true := decide_eq_true c6
         clear c6
         by_cases c7 : 0 ≤ x8_2
         ·rw [if_pos c7] at H
          have c7b0 : decide (0 ≤ x8_2) = true := decide_eq_true c7
          clear c7
          by_cases c8 : (Go.bits .and .i64 (rd l0 x11_1) (rd l0 x8_2)) = 0
          ·rw [if_pos c8] at H
           have c8b0 : ((Go.bits .and .i64 (rd l0 x11_1) (rd l0 x8_2)) == 0) = true := beq_iff_eq.mpr c8
           have c8b1 : ((Go.bits .and .i64 (rd l0 x11_1) (rd l0 x8_2)) != 0) = false := bne_eq_false_iff_eq.mpr c8
           clear c8
           by_cases c9 : 0 ≤ x11_1
           ·rw [if_pos c9] at H
            have c9b0 : decide (0 ≤ x11_1) = true := decide_eq_true c9
            clear c9
            by_cases c10 : x11_1 < (l1.length : Int)
            ·rw [if_pos c10] at H
             have c10b0 : decide (x11_1 < (l1.length : Int)) = true := decide_eq_true c10
             clear c10
             by_cases c11 : x8_2 < (l1.length : Int)
             ·rw [if_pos c11] at H
              have c11b0 : decide (x8_2 < (l1.length : Int)) = true := decide_eq_true c11
              clear c11
              by_cases c12 : (rd l1 x11_1) = (rd l1 x8_2)
              ·rw [if_pos c12] at H
               have c12b0 : ((rd l1 x11_1) == (rd l1 x8_2)) = true := beq_iff_eq.mpr c12
               have c12b1 : ((rd l1 x11_1) != (rd l1 x8_2)) = false := bne_eq_false_iff_eq.mpr c12
               clear c12
               obtain ⟨y272, hy272⟩ : ∃ y_ : List Int, y_ = (([(rd l0 x11_1), rd l0 x8_2] : List Int)) := ⟨_, rfl⟩
               replace H : (some (y272, true)) = some (r1, r2) := HY H hy272
               have Ny272 := Aside0.mk hy272
               clear hy272
               simp only [Option.some.injEq, Prod.mk.injEq] at H
               obtain ⟨rfl, rfl⟩ := H
               have p268 : 0 ≤ (x8_2 : Int) := of_decide_eq_true AS
               have q268 : x8_2 < (l0.length : Int) := of_decide_eq_true AS
               obtain ⟨ad268, e268, hx268_0⟩ := Kd.at_int HR0.out x8_2 p268 q268
               obtain rfl : ad267 = ad268 := (by injection e268)
               try (replace hx268_0 := (HB.out.cell (World.block_lt_of_cell? w _ hx268_0)).trans hx268_0)
               replace p268 := eq_true p268
               replace q268 := eq_true q268
               have p269 : 0 ≤ (x11_1 : Int) := of_decide_eq_true AS
               have q269 : x11_1 < (l1.length : Int) := of_decide_eq_true AS
               obtain ⟨ad269, e269, hx269_0⟩ := Kd.at_int HR1.out x11_1 p269 q269
               cases e269
               try (replace hx269_0 := (HB.out.cell (World.block_lt_of_cell? w _ hx269_0)).trans hx269_0)
               replace p269 := eq_true p269
               replace q269 := eq_true q269
               have p270 : 0 ≤ (x8_2 : Int) := of_decide_eq_true AS
               have q270 : x8_2 < (l1.length : Int) := of_decide_eq_true AS
               obtain ⟨ad270, e270, hx270_0⟩ := Kd.at_int HR1.out x8_2 p270 q270
               obtain rfl : ad269 = ad270 := (by injection e270)
               try (replace hx270_0 := (HB.out.cell (World.block_lt_of_cell? w _ hx270_0)).trans hx270_0)
               replace p270 := eq_true p270
               replace q270 := eq_true q270
               have p271 : 0 ≤ (x8_2 : Int) := of_decide_eq_true AS
               have q271 : x8_2 < (l0.length : Int) := of_decide_eq_true AS
               obtain ⟨ad271, e271, hx271_0⟩ := Kd.at_int HR0.out x8_2 p271 q271
               obtain rfl : ad267 = ad271 := (by injection e271)
               try (replace hx271_0 := (HB.out.cell (World.block_lt_of_cell? w _ hx271_0)).trans hx271_0)
               replace p271 := eq_true p271
               replace q271 := eq_true q271
               go_wp2_with (first | ((with_reducible refine gate_dst (N := 47) rfl ?_); refine Kd.R_lit (Kd.int .i64) _ 3 ?hg (N := 47) ?hd (xs := ([(rd l0 x11_1), rd l0 x8_2] : List Int)) (inner := [.int .i64 (rd l0 x11_1), .int .i64 (rd l0 x8_2)]) (ok := fun _ => True) (okp := fun _ => True) ?hr ?hp (fun _ hk => hk) trivial (Below.refl _ _) (Nat.le_refl _) (by simp) ?_; (case hd => rfl); (case hg => rfl); (case hr => exact GS); (case hp => exact (Reps.one (show Kd.M (Kd.int .i64) _ _ _ (rd l0 x11_1) [.int .i64 (rd l0 x11_1)] from rfl) (Reps.one (show Kd.M (Kd.int .i64) _ _ _ (rd l0 x8_2) [.int .i64 (rd l0 x8_2)] from rfl) (Reps.none _ _)))); intro v273 w13 ho14 hb hg_ hnew_; clear hg_ hnew_; (first | rw [← Ny272.out] at ho14 | (simp only [Int.reduceToNat] at ho14; rw [← Ny272.out] at ho14)); have n0_ := Aside0.mk (Kd.R_lower ho14 (below_size BB)); have n1_ := Aside0.mk (below_step BB hb); clear HB; have HO274 := n0_; have HB := n1_; clear n0_ n1_; clear hb ho14))
               repeat (go_quiet (first | ((with_reducible refine gate_dst (N := 47) rfl ?_); refine Kd.R_lit (Kd.int .i64) _ 3 ?hg (N := 47) ?hd (xs := ([(rd l0 x11_1), rd l0 x8_2] : List Int)) (inner := [.int .i64 (rd l0 x11_1), .int .i64 (rd l0 x8_2)]) (ok := fun _ => True) (okp := fun _ => True) ?hr ?hp (fun _ hk => hk) trivial (Below.refl _ _) (Nat.le_refl _) (by simp) ?_; (case hd => rfl); (case hg => rfl); (case hr => exact GS); (case hp => exact (Reps.one (show Kd.M (Kd.int .i64) _ _ _ (rd l0 x11_1) [.int .i64 (rd l0 x11_1)] from rfl) (Reps.one (show Kd.M (Kd.int .i64) _ _ _ (rd l0 x8_2) [.int .i64 (rd l0 x8_2)] from rfl) (Reps.none _ _)))); intro v273 w13 ho14 hb hg_ hnew_; clear hg_ hnew_; (first | rw [← Ny272.out] at ho14 | (simp only [Int.reduceToNat] at ho14; rw [← Ny272.out] at ho14)); have n0_ := Aside0.mk (Kd.R_lower ho14 (below_size BB)); have n1_ := Aside0.mk (below_step BB hb); clear HB; have HO274 := n0_; have HB := n1_; clear n0_ n1_; clear hb ho14)); try go_wp2_with (first | ((with_reducible refine gate_dst (N := 47) rfl ?_); refine Kd.R_lit (Kd.int .i64) _ 3 ?hg (N := 47) ?hd (xs := ([(rd l0 x11_1), rd l0 x8_2] : List Int)) (inner := [.int .i64 (rd l0 x11_1), .int .i64 (rd l0 x8_2)]) (ok := fun _ => True) (okp := fun _ => True) ?hr ?hp (fun _ hk => hk) trivial (Below.refl _ _) (Nat.le_refl _) (by simp) ?_; (case hd => rfl); (case hg => rfl); (case hr => exact GS); (case hp => exact (Reps.one (show Kd.M (Kd.int .i64) _ _ _ (rd l0 x11_1) [.int .i64 (rd l0 x11_1)] from rfl) (Reps.one (show Kd.M (Kd.int .i64) _ _ _ (rd l0 x8_2) [.int .i64 (rd l0 x8_2)] from rfl) (Reps.none _ _)))); intro v273 w13 ho14 hb hg_ hnew_; clear hg_ hnew_; (first | rw [← Ny272.out] at ho14 | (simp only [Int.reduceToNat] at ho14; rw [← Ny272.out] at ho14)); have n0_ := Aside0.mk (Kd.R_lower ho14 (below_size BB)); have n1_ := Aside0.mk (below_step BB hb); clear HB; have HO274 := n0_; have HB := n1_; clear n0_ n1_; clear hb ho14)))
               go_ret2
               exact ⟨_, RE, KR HO274, BB⟩
              ·rw [if_neg c12] at H
               have c12b0 : ((rd l1 x11_1) == (rd l1 x8_2)) = false := beq_eq_false_iff_ne.mpr c12
               have c12b1 : ((rd l1 x11_1) != (rd l1 x8_2)) = true := bne_iff_ne.mpr c12
               have H' := Aside0.mk H
               clear H
               have p268 : 0 ≤ (x8_2 : Int) := of_decide_eq_true AS
               have q268 : x8_2 < (l0.length : Int) := of_decide_eq_true AS
               obtain ⟨ad268, e268, hx268_0⟩ := Kd.at_int HR0.out x8_2 p268 q268
               obtain rfl : ad267 = ad268 := (by injection e268)
               try (replace hx268_0 := (HB.out.cell (World.block_lt_of_cell? w _ hx268_0)).trans hx268_0)
               replace p268 := eq_true p268
               replace q268 := eq_true q268
               have p269 : 0 ≤ (x11_1 : Int) := of_decide_eq_true AS
               have q269 : x11_1 < (l1.length : Int) := of_decide_eq_true AS
               obtain ⟨ad269, e269, hx269_0⟩ := Kd.at_int HR1.out x11_1 p269 q269
               cases e269
               try (replace hx269_0 := (HB.out.cell (World.block_lt_of_cell? w _ hx269_0)).trans hx269_0)
               replace p269 := eq_true p269
               replace q269 := eq_true q269
               have p270 : 0 ≤ (x8_2 : Int) := of_decide_eq_true AS
               have q270 : x8_2 < (l1.length : Int) := of_decide_eq_true AS
               obtain ⟨ad270, e270, hx270_0⟩ := Kd.at_int HR1.out x8_2 p270 q270
               obtain rfl : ad269 = ad270 := (by injection e270)
               try (replace hx270_0 := (HB.out.cell (World.block_lt_of_cell? w _ hx270_0)).trans hx270_0)
               replace p270 := eq_true p270
               replace q270 := eq_true q270
               go_wp2
               repeat (go_quiet (fail); try go_wp2)
               go_roundg k2
               case measure => have := HK1.out; have := HK2.out; omega
               case rel => exact ⟨(wrap64 (x8_2 + 1)), RF, H', ⟨by have := HK1.out; have := HK2.out; omega⟩, ⟨BB⟩⟩
             ·rw [if_neg c11] at H
              cases H
            ·rw [if_neg c10] at H
             cases H
           ·rw [if_neg c9] at H
            cases H
          ·rw [if_neg c8] at H
           have c8b0 : ((Go.bits .and .i64 (rd l0 x11_1) (rd l0 x8_2)) == 0) = false := beq_eq_false_iff_ne.mpr c8
           have c8b1 : ((Go.bits .and .i64 (rd l0 x11_1) (rd l0 x8_2)) != 0) = true := bne_iff_ne.mpr c8
           have H' := Aside0.mk H
           clear H
           have p268 : 0 ≤ (x8_2 : Int) := of_decide_eq_true AS
           have q268 : x8_2 < (l0.length : Int) := of_decide_eq_true AS
           obtain ⟨ad268, e268, hx268_0⟩ := Kd.at_int HR0.out x8_2 p268 q268
           obtain rfl : ad267 = ad268 := (by injection e268)
           try (replace hx268_0 := (HB.out.cell (World.block_lt_of_cell? w _ hx268_0)).trans hx268_0)
           replace p268 := eq_true p268
           replace q268 := eq_true q268
           go_wp2
           repeat (go_quiet (fail); try go_wp2)
           go_roundg k2
           case measure => have := HK1.out; have := HK2.out; omega
           case rel => exact ⟨(wrap64 (x8_2 + 1)), RF, H', ⟨by have := HK1.out; have := HK2.out; omega⟩, ⟨BB⟩⟩
         ·rw [if_neg c7] at H
          cases H
        ·rw [if_neg c6] at H
         have c6b0 : decide (x8_2 < (l0.length : Int)) = false := decide_eq_false c6
         clear c6
         have H' := Aside0.mk H
         clear H
         go_wp2
         repeat (go_quiet (fail); try go_wp2)
         go_roundg k2
         case measure => have := HK1.out; have := HK2.out; omega
         case rel => exact ⟨(wrap64 (x11_1 + 1)), RF, H', ⟨by have := HK1.out; have := HK2.out; omega⟩, ⟨BB⟩⟩
     ·rw [if_neg c5] at H
      cases H
    ·rw [if_neg c4] at H
     cases H
   ·rw [if_neg c3] at H
    have c3b0 : decide (x11_1 < (l0.length : Int)) = false := decide_eq_false c3
    clear c3
    simp only [Option.some.injEq, Prod.mk.injEq] at H
    obtain ⟨rfl, rfl⟩ := H
    go_wp2
    repeat (go_quiet (fail); try go_wp2)
    go_ret2
    exact ⟨_, RE, by first | exact Kd.R_nil _ _ _ _ _ | exact Kd.N_nil _ _ _ _ _ | exact Kd.V_nil _ _ _ _ _ | exact Kd.Q_nil _ _ _ _ _ | exact Kd.S_nil _ _ _ _ _, BB⟩

/-! ### spec_FirstApart: function 21 -/
def spec_FirstApart.j0 : Nat → Int → Int → List Int → Bool → Option (List Int × Bool)
 | 0, _, _, _, _ => none
 | k + 1, x0, x1, x2, x19 => if x19 = true then (some (([] : List Int), false)) else ((spec_knSets.f k x0 x1).bind fun t277 => ((spec_knClash.f k t277 x2).bind fun bt280 => (some (bt280.1, bt280.2))))
def spec_FirstApart.f (k : Nat) (a0 : Int) (a1 : Int) (l2 : List Int) : Option (List Int × Bool) := (spec_knGiven.f a0 a1).bind fun t275 => (if t275 = true then ((spec_knChoose.f k a0 a1).bind fun t276 => (spec_FirstApart.j0 k a0 a1 l2 ((l2.length : Int) != t276))) else (spec_FirstApart.j0 k a0 a1 l2 true))
theorem spec_FirstApart.mono_l : ∀ k, (∀ y0 y1 y2 y3, LeO (spec_FirstApart.j0 k y0 y1 y2 y3) (spec_FirstApart.j0 (k + 1) y0 y1 y2 y3))
 | 0 => fun _ _ _ _ r h => by simp [spec_FirstApart.j0] at h
 | k + 1 => by
  have ih0 := spec_FirstApart.mono_l k
  ·intro y0 y1 y2 y3
   unfold spec_FirstApart.j0
   repeat' first
   | with_reducible first | exact ih0 _ _ _ _ | exact spec_knChoose.mono _ _ _ | exact spec_knClash.mono _ _ _ | exact spec_knSets.mono _ _ _ | exact LeO.refl _ | exact LeO.none _ | refine LeO.ite ?_ ?_ | refine LeO.bind ?_ (fun _ => ?_)
   | exact LeO.none _ | refine LeO.ite ?_ ?_ | refine LeO.bind ?_ (fun _ => ?_)
theorem spec_FirstApart.mono : ∀ a0 a1 a2 k, LeO (spec_FirstApart.f k a0 a1 a2) (spec_FirstApart.f (k + 1) a0 a1 a2) := by
 intro a0 a1 a2 k
 have ih0 := spec_FirstApart.mono_l k
 unfold spec_FirstApart.f
 repeat' first
   | with_reducible first | exact ih0 _ _ _ _ | exact spec_knChoose.mono _ _ _ | exact spec_knClash.mono _ _ _ | exact spec_knSets.mono _ _ _ | exact LeO.refl _ | exact LeO.none _ | refine LeO.ite ?_ ?_ | refine LeO.bind ?_ (fun _ => ?_)
   | exact LeO.none _ | refine LeO.ite ?_ ?_ | refine LeO.bind ?_ (fun _ => ?_)
theorem spec_FirstApart.calls (k : Nat) (a0 : Int) (a1 : Int) (A2 : Option Addr) (c2 : Nat) (l2 : List Int) (r1 : List Int) (r2 : Bool) (w : World) (hr2 : Kd.C (Kd.int .i64) w A2 l2.length l2) (hc2 : l2.length ≤ c2) (h : spec_FirstApart.f k a0 a1 l2 = some (r1, r2)) :
  Calls Tryd.prog 21 #[.int .i64 a0, .int .i64 a1, .slice A2 l2.length c2] w fun e w' => ∃ v0_ : Value, e = .returned (.tuple #[v0_, .bool r2]) ∧ Kd.R (Kd.int .i64) 3 w' w.heap.size (fun _ => True) v0_ r1 ∧ Below w.heap.size w w' := by
 have HR2 := Aside0.mk hr2
 have HC2 := Aside0.mk hc2
 clear hr2 hc2
 have HB := Aside0.mk (Below.refl w.heap.size w)
 have H : ((spec_knGiven.f a0 a1).bind fun t275 => (if t275 = true then ((spec_knChoose.f k a0 a1).bind fun t276 => (spec_FirstApart.j0 k a0 a1 l2 ((l2.length : Int) != t276))) else (spec_FirstApart.j0 k a0 a1 l2 true))) = some (r1, r2) := h
 clear h
 have HC4 := Aside0.mk H
 clear H
 go_enter Tryd.func21, Tryd.ntmps21
 go_upto_region 1 with (fail)
 go_cut [19] (fun v19 wc => ∃ (kq : Nat) (x19_3 : Bool), v19 = .bool x19_3 ∧ Aside0 (spec_FirstApart.j0 kq a0 a1 l2 x19_3 = some (r1, r2)) ∧ Aside0 (kq ≤ k) ∧ Aside0 (Below w.heap.size w wc))
 case first =>
  have H := HC4.out
  clear HC4
  obtain ⟨t275, A50, H⟩ := Option.bind_eq_some_iff.mp H
  have A5 := Aside0.mk A50
  clear A50
  by_cases c6 : t275 = true
  ·subst c6
   replace H := IP H
   obtain ⟨t276, A70, H⟩ := Option.bind_eq_some_iff.mp H
   have A7 := Aside0.mk A70
   clear A70
   have H' := Aside0.mk H
   clear H
   go_wp2_with (first | ((with_reducible refine gate_callee (f := 30) rfl ?_); refine goesL_ (some 10) rfl rfl Tryd.func30 (by kernel_rfl) rfl #[.int .i64 a0, .int .i64 a1] rfl TA ?_; (with_reducible refine (spec_knGiven.calls a0 a1 true _ A5.out).mono ?_); rintro e w' ⟨rfl, ⟨nd, rfl⟩⟩; refine ⟨_, rfl, ?_⟩) | (go_at_call 35; (with_reducible refine (spec_knChoose.calls k a0 a1 t276 _ A7.out).mono ?_); rintro e w' ⟨rfl, ⟨nd, rfl⟩⟩))
   go_meet
   case rel => exact ⟨_, (((l2.length : Int) != t276)), RF, H', ⟨by first | omega | exact Nat.le_refl _⟩, ⟨BB⟩⟩
  ·replace c6 := Bool.eq_false_iff.mpr c6
   subst c6
   replace H := IN H
   have H' := Aside0.mk H
   clear H
   go_wp2_with (first | ((with_reducible refine gate_callee (f := 30) rfl ?_); refine goesL_ (some 10) rfl rfl Tryd.func30 (by kernel_rfl) rfl #[.int .i64 a0, .int .i64 a1] rfl TA ?_; (with_reducible refine (spec_knGiven.calls a0 a1 false _ A5.out).mono ?_); rintro e w' ⟨rfl, ⟨nd, rfl⟩⟩; refine ⟨_, rfl, ?_⟩))
   go_meet
   case rel => exact ⟨_, (true), RF, H', ⟨by first | omega | exact Nat.le_refl _⟩, ⟨BB⟩⟩
 case rest =>
  clear HC4
  try clear c2
  try clear p2
  try clear c3
  try clear c6
  try clear p6
  obtain ⟨kq, x19_3, rfl, HA, HJ3, HB⟩ := hcut
  cases kq with
  | zero => exact absurd HA.out (by simp [spec_FirstApart.j0])
  | succ kj3 =>
   have H := HA.out
   clear HA
   simp only [spec_FirstApart.j0] at H
   by_cases c8 : x19_3 = true
   ·subst c8
    replace H := IP H
    simp only [Option.some.injEq, Prod.mk.injEq] at H
    obtain ⟨rfl, rfl⟩ := H
    go_wp2
    go_ret2
    exact ⟨_, RE, by first | exact Kd.R_nil _ _ _ _ _ | exact Kd.N_nil _ _ _ _ _ | exact Kd.V_nil _ _ _ _ _ | exact Kd.Q_nil _ _ _ _ _ | exact Kd.S_nil _ _ _ _ _, BB⟩
   ·replace c8 := Bool.eq_false_iff.mpr c8
    subst c8
    replace H := IN H
    obtain ⟨t277, A90, H⟩ := Option.bind_eq_some_iff.mp H
    have A9 := Aside0.mk A90
    clear A90
    obtain ⟨⟨t280, t281⟩, A100, H⟩ := Option.bind_eq_some_iff.mp H
    replace H : (some (t280, t281)) = some (r1, r2) := H
    have A10 := Aside0.mk A100
    clear A100
    simp only [Option.some.injEq, Prod.mk.injEq] at H
    obtain ⟨rfl, rfl⟩ := H
    go_wp2_with (first | ((with_reducible refine gate_callee (f := 31) rfl ?_); refine goesL_ (some 22) rfl rfl Tryd.func31 (by kernel_rfl) rfl #[.int .i64 a0, .int .i64 a1] rfl TA ?_; (with_reducible refine (spec_knSets.calls kj3 a0 a1 t277 _ A9.out).mono ?_); rintro e w11 ⟨v278, rfl, ho0, hb⟩; refine ⟨_, rfl, ?_⟩; have n0_ := Aside0.mk (Kd.R_lower ho0 (below_size BB)); have n1_ := Aside0.mk (below_step BB hb); clear HB; have HO279 := n0_; have HB := n1_; clear n0_ n1_; (try clear hb); (try clear hb2); (try clear hk); (try clear hi); (try clear ho0); obtain ⟨Ao12, co12, eo12⟩ := Kd.R_slice HO279.out; subst eo12) | ((with_reducible refine gate_callee (f := 41) rfl ?_); refine goesL_ (some 24) rfl rfl Tryd.func41 (by kernel_rfl) rfl #[.slice Ao12 t277.length co12, .slice A2 l2.length c2] rfl TA ?_; (with_reducible refine (spec_knClash.calls kj3 _ _ t277 _ _ l2 t280 t281 _ ?side1 ?side2 ?side3 ?side4 A10.out).mono ?_); (case side1 => exact CW (Kd.R_reads' HO279.out).2.2); (case side2 => exact (Kd.R_reads' HO279.out).2.1); (case side3 => exact CW (Kd.C_below HR2.out HB.out)); (case side4 => exact HC2.out); rintro e w13 ⟨v282, rfl, ho0, hb⟩; refine ⟨_, rfl, ?_⟩; have n0_ := Aside0.mk (Kd.R_elder' (KR HO279) (Kd.R_base ho0) hb); have n1_ := Aside0.mk (Kd.R_lower (Kd.R_new' ho0 (Kd.R_lt (KR HO279))) (below_size BB)); have n2_ := Aside0.mk (below_step BB hb); clear HO279; clear HB; have HO279 := n0_; have HO283 := n1_; have HB := n2_; clear n0_ n1_ n2_; (try clear hb); (try clear hb2); (try clear hk); (try clear hi); (try clear ho0)))
    go_ret2
    exact ⟨_, RE, by (with_reducible repeat (first | apply Kd.R_alloc | apply Kd.R_drewN | apply Kd.R_drew)); exact Kd.R_mono HO283.out (fun _ hk => trivial), BB⟩

/-! ### spec_IsColouring: function 22 -/
def spec_IsColouring.l0 : Nat → List Int → List Int → List Int → Int → Int → Option (Bool × Bool)
 | 0, _, _, _, _, _ => none
 | k + 1, x2, x8, x25, x26, x27 => if x27 < x26 then (if 0 ≤ x27 then (if x27 < (x25.length : Int) then (if (rd x25 x27) < 0 then (some (false, true)) else (spec_IsColouring.l0 k x2 x8 x25 x26 (wrap64 (x27 + 1)))) else (none)) else (none)) else ((spec_knClash.f k x8 x2).bind fun bt289 => (some (!bt289.2, true)))
def spec_IsColouring.f (k : Nat) (a0 : Int) (a1 : Int) (l2 : List Int) : Option (Bool × Bool) := (spec_knGiven.f a0 a1).bind fun t284 => (if t284 = true then ((spec_knSets.f k a0 a1).bind fun t285 => (if (l2.length : Int) = (t285.length : Int) then (spec_IsColouring.l0 k l2 t285 l2 (l2.length : Int) 0) else (some (false, true)))) else (some (false, false)))
theorem spec_IsColouring.mono_l : ∀ k, (∀ y0 y1 y2 y3 y4, LeO (spec_IsColouring.l0 k y0 y1 y2 y3 y4) (spec_IsColouring.l0 (k + 1) y0 y1 y2 y3 y4))
 | 0 => fun _ _ _ _ _ r h => by simp [spec_IsColouring.l0] at h
 | k + 1 => by
  have ih0 := spec_IsColouring.mono_l k
  ·intro y0 y1 y2 y3 y4
   unfold spec_IsColouring.l0
   repeat' first
   | with_reducible first | exact ih0 _ _ _ _ _ | exact spec_knClash.mono _ _ _ | exact spec_knSets.mono _ _ _ | exact LeO.refl _ | exact LeO.none _ | refine LeO.ite ?_ ?_ | refine LeO.bind ?_ (fun _ => ?_)
   | exact LeO.none _ | refine LeO.ite ?_ ?_ | refine LeO.bind ?_ (fun _ => ?_)
theorem spec_IsColouring.mono : ∀ a0 a1 a2 k, LeO (spec_IsColouring.f k a0 a1 a2) (spec_IsColouring.f (k + 1) a0 a1 a2) := by
 intro a0 a1 a2 k
 have ih0 := spec_IsColouring.mono_l k
 unfold spec_IsColouring.f
 repeat' first
   | with_reducible first | exact ih0 _ _ _ _ _ | exact spec_knClash.mono _ _ _ | exact spec_knSets.mono _ _ _ | exact LeO.refl _ | exact LeO.none _ | refine LeO.ite ?_ ?_ | refine LeO.bind ?_ (fun _ => ?_)
   | exact LeO.none _ | refine LeO.ite ?_ ?_ | refine LeO.bind ?_ (fun _ => ?_)
theorem spec_IsColouring.calls (k : Nat) (a0 : Int) (a1 : Int) (A2 : Option Addr) (c2 : Nat) (l2 : List Int) (r1 : Bool) (r2 : Bool) (w : World) (hr2 : Kd.C (Kd.int .i64) w A2 l2.length l2) (hc2 : l2.length ≤ c2) (h : spec_IsColouring.f k a0 a1 l2 = some (r1, r2)) :
  Calls Tryd.prog 22 #[.int .i64 a0, .int .i64 a1, .slice A2 l2.length c2] w fun e w' => e = .returned (.tuple #[.bool r1, .bool r2]) ∧ Below w.heap.size w w' := by
 have HR2 := Aside0.mk hr2
 have HC2 := Aside0.mk hc2
 clear hr2 hc2
 have HB := Aside0.mk (Below.refl w.heap.size w)
 have H : ((spec_knGiven.f a0 a1).bind fun t284 => (if t284 = true then ((spec_knSets.f k a0 a1).bind fun t285 => (if (l2.length : Int) = (t285.length : Int) then (spec_IsColouring.l0 k l2 t285 l2 (l2.length : Int) 0) else (some (false, true)))) else (some (false, false)))) = some (r1, r2) := h
 clear h
 obtain ⟨t284, A40, H⟩ := Option.bind_eq_some_iff.mp H
 have A4 := Aside0.mk A40
 clear A40
 by_cases c5 : t284 = true
 ·subst c5
  replace H := IP H
  obtain ⟨t285, A60, H⟩ := Option.bind_eq_some_iff.mp H
  have A6 := Aside0.mk A60
  clear A60
  by_cases c7 : (l2.length : Int) = (t285.length : Int)
  ·rw [if_pos c7] at H
   have c7b0 : ((l2.length : Int) == (t285.length : Int)) = true := beq_iff_eq.mpr c7
   have c7b1 : ((l2.length : Int) != (t285.length : Int)) = false := bne_eq_false_iff_eq.mpr c7
   have c7b2 : (l2.length == t285.length) = true := by first | simpa using c7 | (simp at c7 ⊢; omega)
   clear c7
   have H' := Aside0.mk H
   clear H
   go_enter Tryd.func22, Tryd.ntmps22
   go_wp2_with (first | ((with_reducible refine gate_callee (f := 30) rfl ?_); refine goesL_ (some 15) rfl rfl Tryd.func30 (by kernel_rfl) rfl #[.int .i64 a0, .int .i64 a1] rfl TA ?_; (with_reducible refine (spec_knGiven.calls a0 a1 true _ A4.out).mono ?_); rintro e w' ⟨rfl, ⟨nd, rfl⟩⟩; refine ⟨_, rfl, ?_⟩) | ((with_reducible refine gate_callee (f := 31) rfl ?_); refine goesL_ (some 19) rfl rfl Tryd.func31 (by kernel_rfl) rfl #[.int .i64 a0, .int .i64 a1] rfl TA ?_; (with_reducible refine (spec_knSets.calls k a0 a1 t285 _ A6.out).mono ?_); rintro e w8 ⟨v286, rfl, ho0, hb⟩; refine ⟨_, rfl, ?_⟩; have n0_ := Aside0.mk (Kd.R_lower ho0 (below_size BB)); have n1_ := Aside0.mk (below_step BB hb); clear HB; have HO287 := n0_; have HB := n1_; clear n0_ n1_; (try clear hb); (try clear hb2); (try clear hk); (try clear hi); (try clear ho0); obtain ⟨Ao9, co9, eo9⟩ := Kd.R_slice HO287.out; subst eo9))
   go_loopg [27] k (fun kq v27 w' => ∃ (x27_1 : Int), v27 = .int .i64 x27_1 ∧ Aside0 (spec_IsColouring.l0 kq l2 t285 l2 (l2.length : Int) x27_1 = some (r1, r2)) ∧ Aside0 (kq ≤ k) ∧ Aside0 (Kd.R (Kd.int .i64) 3 w' w.heap.size (fun _ => True) (.slice Ao9 t285.length co9) t285) ∧ Aside0 (Below w.heap.size w w'))
   case atStart => exact ⟨(0), RF, H', ⟨Nat.le_refl _⟩, ⟨KR HO287⟩, ⟨BB⟩⟩
   case round =>
    clear H'
    try clear c2
    try clear p2
    try clear c3
    try clear c5
    try clear p6
    try clear c7
    try clear c7b0
    try clear c7b1
    try clear c7b2
    obtain ⟨x27_1, rfl, HA, HK1, HO_8, HB⟩ := hrel
    cases gk with
    | zero => exact absurd HA.out (by simp [spec_IsColouring.l0])
    | succ k1 =>
     have H := HA.out
     clear HA
     simp only [spec_IsColouring.l0] at H
     by_cases c10 : x27_1 < (l2.length : Int)
     ·rw [if_pos c10] at H
      have c10b0 : decide (x27_1 < (l2.length : Int)) = true := decide_eq_true c10
      clear c10
      by_cases c11 : 0 ≤ x27_1
      ·rw [if_pos c11] at H
       have c11b0 : decide (0 ≤ x27_1) = true := decide_eq_true c11
       clear c11
       by_cases c12 : x27_1 < (l2.length : Int)
       ·rw [if_pos c12] at H
        have c12b0 : decide (x27_1 < (l2.length : Int)) = true := decide_eq_true c12
        clear c12
        by_cases c13 : (rd l2 x27_1) < 0
        ·rw [if_pos c13] at H
         have c13b0 : decide ((rd l2 x27_1) < 0) = true := decide_eq_true c13
         clear c13
         simp only [Option.some.injEq, Prod.mk.injEq] at H
         obtain ⟨rfl, rfl⟩ := H
         have p288 : 0 ≤ (x27_1 : Int) := of_decide_eq_true AS
         have q288 : x27_1 < (l2.length : Int) := of_decide_eq_true AS
         obtain ⟨ad288, e288, hx288_0⟩ := Kd.at_int HR2.out x27_1 p288 q288
         cases e288
         try (replace hx288_0 := (HB.out.cell (World.block_lt_of_cell? w _ hx288_0)).trans hx288_0)
         replace p288 := eq_true p288
         replace q288 := eq_true q288
         go_wp2
         go_ret2
         exact ⟨RE, BB⟩
        ·rw [if_neg c13] at H
         have c13b0 : decide ((rd l2 x27_1) < 0) = false := decide_eq_false c13
         clear c13
         have H' := Aside0.mk H
         clear H
         have p288 : 0 ≤ (x27_1 : Int) := of_decide_eq_true AS
         have q288 : x27_1 < (l2.length : Int) := of_decide_eq_true AS
         obtain ⟨ad288, e288, hx288_0⟩ := Kd.at_int HR2.out x27_1 p288 q288
         cases e288
         try (replace hx288_0 := (HB.out.cell (World.block_lt_of_cell? w _ hx288_0)).trans hx288_0)
         replace p288 := eq_true p288
         replace q288 := eq_true q288
         go_wp2
         go_roundg k1
         case measure => have := HK1.out; omega
         case rel => exact ⟨(wrap64 (x27_1 + 1)), RF, H', ⟨by have := HK1.out; omega⟩, ⟨KR HO_8⟩, ⟨BB⟩⟩
       ·rw [if_neg c12] at H
        cases H
      ·rw [if_neg c11] at H
       cases H
     ·rw [if_neg c10] at H
      have c10b0 : decide (x27_1 < (l2.length : Int)) = false := decide_eq_false c10
      clear c10
      obtain ⟨⟨t289, t290⟩, A140, H⟩ := Option.bind_eq_some_iff.mp H
      replace H : (some (!t290, true)) = some (r1, r2) := H
      have A14 := Aside0.mk A140
      clear A140
      simp only [Option.some.injEq, Prod.mk.injEq] at H
      obtain ⟨rfl, rfl⟩ := H
      go_wp2_with (first | ((with_reducible refine gate_callee (f := 41) rfl ?_); refine goesL_ (some 37) rfl rfl Tryd.func41 (by kernel_rfl) rfl #[.slice Ao9 t285.length co9, .slice A2 l2.length c2] rfl TA ?_; (with_reducible refine (spec_knClash.calls k1 _ _ t285 _ _ l2 t289 t290 _ ?side1 ?side2 ?side3 ?side4 A14.out).mono ?_); (case side1 => exact CW (Kd.R_reads' HO_8.out).2.2); (case side2 => exact (Kd.R_reads' HO_8.out).2.1); (case side3 => exact CW (Kd.C_below HR2.out HB.out)); (case side4 => exact HC2.out); rintro e w15 ⟨v291, rfl, ho0, hb⟩; refine ⟨_, rfl, ?_⟩; have n0_ := Aside0.mk (Kd.R_elder' (KR HO_8) (Kd.R_base ho0) hb); have n1_ := Aside0.mk (Kd.R_lower (Kd.R_new' ho0 (Kd.R_lt (KR HO_8))) (below_size BB)); have n2_ := Aside0.mk (below_step BB hb); clear HO_8; clear HB; have HO_8 := n0_; have HO292 := n1_; have HB := n2_; clear n0_ n1_ n2_; (try clear hb); (try clear hb2); (try clear hk); (try clear hi); (try clear ho0)))
      go_ret2
      exact ⟨RE, BB⟩
  ·rw [if_neg c7] at H
   have c7b0 : ((l2.length : Int) == (t285.length : Int)) = false := beq_eq_false_iff_ne.mpr c7
   have c7b1 : ((l2.length : Int) != (t285.length : Int)) = true := bne_iff_ne.mpr c7
   have c7b2 : (l2.length == t285.length) = false := by first | simpa using c7 | (simp at c7 ⊢; omega)
   simp only [Option.some.injEq, Prod.mk.injEq] at H
   obtain ⟨rfl, rfl⟩ := H
   go_enter Tryd.func22, Tryd.ntmps22
   go_wp2_with (first | ((with_reducible refine gate_callee (f := 30) rfl ?_); refine goesL_ (some 15) rfl rfl Tryd.func30 (by kernel_rfl) rfl #[.int .i64 a0, .int .i64 a1] rfl TA ?_; (with_reducible refine (spec_knGiven.calls a0 a1 true _ A4.out).mono ?_); rintro e w' ⟨rfl, ⟨nd, rfl⟩⟩; refine ⟨_, rfl, ?_⟩) | ((with_reducible refine gate_callee (f := 31) rfl ?_); refine goesL_ (some 19) rfl rfl Tryd.func31 (by kernel_rfl) rfl #[.int .i64 a0, .int .i64 a1] rfl TA ?_; (with_reducible refine (spec_knSets.calls k a0 a1 t285 _ A6.out).mono ?_); rintro e w16 ⟨v286, rfl, ho0, hb⟩; refine ⟨_, rfl, ?_⟩; have n0_ := Aside0.mk (Kd.R_lower ho0 (below_size BB)); have n1_ := Aside0.mk (below_step BB hb); clear HB; have HO287 := n0_; have HB := n1_; clear n0_ n1_; (try clear hb); (try clear hb2); (try clear hk); (try clear hi); (try clear ho0); obtain ⟨Ao17, co17, eo17⟩ := Kd.R_slice HO287.out; subst eo17))
   go_ret2
   exact ⟨RE, BB⟩
 ·replace c5 := Bool.eq_false_iff.mpr c5
  subst c5
  replace H := IN H
  simp only [Option.some.injEq, Prod.mk.injEq] at H
  obtain ⟨rfl, rfl⟩ := H
  go_enter Tryd.func22, Tryd.ntmps22
  go_wp2_with (first | ((with_reducible refine gate_callee (f := 30) rfl ?_); refine goesL_ (some 15) rfl rfl Tryd.func30 (by kernel_rfl) rfl #[.int .i64 a0, .int .i64 a1] rfl TA ?_; (with_reducible refine (spec_knGiven.calls a0 a1 false _ A4.out).mono ?_); rintro e w' ⟨rfl, ⟨nd, rfl⟩⟩; refine ⟨_, rfl, ?_⟩))
  go_ret2
  exact ⟨RE, BB⟩

/-! ### spec_l1Cur_one: function 42 -/
def spec_l1Cur_one.f (s0_0 : List Int) (s0_1 : Int) (s0_2 : Int) (a1 : Int) : Option (Bool × Int × Int) := (spec_l1Cur_pick.f s0_0 s0_1 s0_2 a1).bind fun bt293 => (some ((bt293.1 == 0), bt293.2.1, bt293.2.2))
theorem spec_l1Cur_one.calls (g : Nat) (s0_0 : List Int) (s0_1 : Int) (s0_2 : Int) (a1 : Int) (r1 : Bool) (r2 : Int) (r3 : Int) (w0 w : World) (hI : IsS51 w0 w g s0_0 s0_1 s0_2) (hB : Below w0.heap.size w0 w) (h : spec_l1Cur_one.f s0_0 s0_1 s0_2 a1 = some (r1, r2, r3)) :
  Calls Tryd.prog 42 #[.pointer (some ⟨g, 0, none⟩), .int .i64 a1] w fun e w' => e = .returned (.bool r1) ∧ IsS51 w0 w' g s0_0 r2 r3 ∧ Below w0.heap.size w0 w' ∧ KeepBut w w' g none := by
 have HI0 := Aside0.mk hI
 have HK := Aside0.mk (KeepBut.refl w g none)
 have HL := Aside0.mk hB.size
 clear hI
 have HW0 := Aside0.mk hB.size
 have HB := Aside0.mk hB
 clear hB
 have H : ((spec_l1Cur_pick.f s0_0 s0_1 s0_2 a1).bind fun bt293 => (some ((bt293.1 == 0), bt293.2.1, bt293.2.2))) = some (r1, r2, r3) := h
 clear h
 obtain ⟨⟨t293, t294, t295⟩, A30, H⟩ := Option.bind_eq_some_iff.mp H
 replace H : (some ((t293 == 0), t294, t295)) = some (r1, r2, r3) := H
 have A3 := Aside0.mk A30
 clear A30
 simp only [Option.some.injEq, Prod.mk.injEq] at H
 obtain ⟨rfl, rfl, rfl⟩ := H
 go_enter Tryd.func42, Tryd.ntmps42
 go_wp2_with (first | ((with_reducible refine gate_callee (f := 44) rfl ?_); refine goesL_ (some 7) rfl rfl Tryd.func44 (by kernel_rfl) rfl #[.pointer (some ⟨g, 0, none⟩), .int .i64 a1] rfl TA ?_; (with_reducible refine (spec_l1Cur_pick.calls g s0_0 s0_1 s0_2 a1 t293 t294 t295 w0 _ ?side1 ?side2 A3.out).mono ?_); (case side1 => repeat (first | (with_reducible first | exact HI0.out | apply IsS51.alloc | apply IsS51.drewN | apply IsS51.drew | apply IsS51.set_1 | apply IsS51.set_2) | exact HI0.out)); (case side2 => repeat (first | (with_reducible first | exact HB.out | apply below_alloc | apply pw_below_drewN | apply below_drew1 | refine below_set ?_ (IsS51.ge HI0.out)) | exact HB.out)); rintro e w4 ⟨rfl, hi, hb, hk⟩; refine ⟨_, rfl, ?_⟩; have n0_ := Aside0.mk (KeepBut.trans (by repeat (first | (with_reducible first | exact HK.out | apply KeepBut.set_ | apply keep_drewN | apply keep_drew | apply keep_alloc) | exact HK.out)) hk (.inl rfl)); have n1_ := Aside0.mk (hb); have n2_ := Aside0.mk (hi); clear HK; clear HB; clear HI0; have HK := n0_; have HB := n1_; have HI0 := n2_; clear n0_ n1_ n2_; (try clear hb); (try clear hb2); (try clear hk); (try clear hi)))
 go_ret
 exact ⟨RE, by repeat (first | (with_reducible first | exact HI0.out | apply IsS51.alloc | apply IsS51.drewN | apply IsS51.drew | apply IsS51.set_1 | apply IsS51.set_2) | exact HI0.out), by repeat (first | (with_reducible first | exact HB.out | apply below_alloc | apply pw_below_drewN | apply below_drew1 | refine below_set ?_ (IsS51.ge HI0.out)) | exact HB.out), by repeat (first | (with_reducible first | exact HK.out | apply KeepBut.set_ | apply keep_drewN | apply keep_drew | apply keep_alloc) | exact HK.out)⟩

/-! ### spec_DrawAreApart: function 23 -/
def spec_DrawAreApart.f (l0 : List Int) : Option (Int × Int) := (spec_l1Cur_one.f l0 0 0 6).bind fun bt297 => (if bt297.1 = true then ((spec_l1Cur_among.f l0 bt297.2.1 bt297.2.2 (([(-1), 0, 255, 256] : List Int))).bind fun bt303 => ((spec_l1Cur_pick.f l0 bt303.2.1 bt303.2.2 256).bind fun bt306 => (some (bt303.1, bt306.1)))) else ((spec_l1Cur_pick.f l0 bt297.2.1 bt297.2.2 256).bind fun bt309 => ((spec_l1Cur_pick.f l0 bt309.2.1 bt309.2.2 256).bind fun bt312 => ((spec_l1Cur_pick.f l0 bt312.2.1 bt312.2.2 256).bind fun bt315 => (some (bt309.1, Go.bits .and .i64 bt312.1 bt315.1))))))
theorem spec_DrawAreApart.calls (A0 : Option Addr) (c0 : Nat) (l0 : List Int) (r1 : Int) (r2 : Int) (w : World) (hr0 : Kd.C (Kd.int .u8) w A0 l0.length l0) (hc0 : l0.length ≤ c0) (h : spec_DrawAreApart.f l0 = some (r1, r2)) :
  Calls Tryd.prog 23 #[.slice A0 l0.length c0] w fun e w' => e = .returned (.tuple #[.int .i64 r1, .int .i64 r2]) ∧ Below w.heap.size w w' := by
 have hu51 := Tryd.underlying51
 have HR0 := Aside0.mk hr0
 have HC0 := Aside0.mk hc0
 clear hr0 hc0
 have HB := Aside0.mk (Below.refl w.heap.size w)
 have H : ((spec_l1Cur_one.f l0 0 0 6).bind fun bt297 => (if bt297.1 = true then ((spec_l1Cur_among.f l0 bt297.2.1 bt297.2.2 (([(-1), 0, 255, 256] : List Int))).bind fun bt303 => ((spec_l1Cur_pick.f l0 bt303.2.1 bt303.2.2 256).bind fun bt306 => (some (bt303.1, bt306.1)))) else ((spec_l1Cur_pick.f l0 bt297.2.1 bt297.2.2 256).bind fun bt309 => ((spec_l1Cur_pick.f l0 bt309.2.1 bt309.2.2 256).bind fun bt312 => ((spec_l1Cur_pick.f l0 bt312.2.1 bt312.2.2 256).bind fun bt315 => (some (bt309.1, Go.bits .and .i64 bt312.1 bt315.1))))))) = some (r1, r2) := h
 clear h
 obtain ⟨⟨t297, t298, t299⟩, A20, H⟩ := Option.bind_eq_some_iff.mp H
 replace H : (if t297 = true then ((spec_l1Cur_among.f l0 t298 t299 (([(-1), 0, 255, 256] : List Int))).bind fun bt303 => ((spec_l1Cur_pick.f l0 bt303.2.1 bt303.2.2 256).bind fun bt306 => (some (bt303.1, bt306.1)))) else ((spec_l1Cur_pick.f l0 t298 t299 256).bind fun bt309 => ((spec_l1Cur_pick.f l0 bt309.2.1 bt309.2.2 256).bind fun bt312 => ((spec_l1Cur_pick.f l0 bt312.2.1 bt312.2.2 256).bind fun bt315 => (some (bt309.1, Go.bits .and .i64 bt312.1 bt315.1)))))) = some (r1, r2) := H
 have A2 := Aside0.mk A20
 clear A20
 by_cases c3 : t297 = true
 ·subst c3
  replace H := IP H
  obtain ⟨y300, hy300⟩ : ∃ y_ : List Int, y_ = (([(-1), 0, 255, 256] : List Int)) := ⟨_, rfl⟩
  replace H : ((spec_l1Cur_among.f l0 t298 t299 y300).bind fun bt303 => ((spec_l1Cur_pick.f l0 bt303.2.1 bt303.2.2 256).bind fun bt306 => (some (bt303.1, bt306.1)))) = some (r1, r2) := HY H hy300
  have Ny300 := Aside0.mk hy300
  clear hy300
  obtain ⟨⟨t303, t304, t305⟩, A40, H⟩ := Option.bind_eq_some_iff.mp H
  replace H : ((spec_l1Cur_pick.f l0 t304 t305 256).bind fun bt306 => (some (t303, bt306.1))) = some (r1, r2) := H
  have A4 := Aside0.mk A40
  clear A40
  obtain ⟨⟨t306, t307, t308⟩, A50, H⟩ := Option.bind_eq_some_iff.mp H
  replace H : (some (t303, t306)) = some (r1, r2) := H
  have A5 := Aside0.mk A50
  clear A50
  simp only [Option.some.injEq, Prod.mk.injEq] at H
  obtain ⟨rfl, rfl⟩ := H
  go_enter Tryd.func23, Tryd.ntmps23
  go_wp2_with (first | ((with_reducible refine gate_dst (N := 7) rfl ?_); refine box_event ?hg (N := 7) ?hd (cs := #[.slice A0 l0.length c0, .int .i64 0, .int .u64 0]) (t := 51) ?hr ?_; (case hd => rfl); (case hg => rfl); (case hr => exact GS); intro gb296 hg w6 hbox hb; have n0_ := Aside0.mk (below_step BB hb); have n1_ := Aside0.mk ((by rw [hg]; exact (below_size BB) : w.heap.size ≤ gb296)); have n2_ := Aside0.mk ((by rw [hg]; exact (below_size BB) : w.heap.size ≤ gb296)); have n3_ := Aside0.mk ((show IsS51 w w6 gb296 l0 0 0 from ⟨A0, c0, hbox, (by rw [hg]; exact (below_size BB) : w.heap.size ≤ gb296), HR0.out⟩)); clear HB; have HB := n0_; have GW296 := n1_; have GE296 := n2_; have HI296 := n3_; clear n0_ n1_ n2_ n3_; clear hb hbox hg) | ((with_reducible refine gate_callee (f := 42) rfl ?_); refine goesL_ (some 9) rfl rfl Tryd.func42 (by kernel_rfl) rfl #[.pointer (some ⟨gb296, 0, none⟩), .int .i64 6] rfl TA ?_; (with_reducible refine (spec_l1Cur_one.calls gb296 l0 0 0 6 true t298 t299 w _ ?side1 ?side2 A2.out).mono ?_); (case side1 => repeat (first | (with_reducible first | exact HI296.out | apply IsS51.alloc | apply IsS51.drewN | apply IsS51.drew | apply IsS51.set_1 | apply IsS51.set_2) | exact HI296.out)); (case side2 => repeat (first | (with_reducible first | exact HB.out | apply below_alloc | apply pw_below_drewN | apply below_drew1 | refine below_set ?_ (IsS51.ge HI296.out)) | exact HB.out)); rintro e w7 ⟨rfl, hi, hb, hk⟩; refine ⟨_, rfl, ?_⟩; have n0_ := Aside0.mk (hb); have n1_ := Aside0.mk (hi); clear HB; clear HI296; have HB := n0_; have HI296 := n1_; clear n0_ n1_; (try clear hb); (try clear hb2); (try clear hk); (try clear hi)) | ((with_reducible refine gate_dst (N := 11) rfl ?_); refine Kd.R_lit (Kd.int .i64) _ 3 ?hg (N := 11) ?hd (xs := ([(-1), 0, 255, 256] : List Int)) (inner := [.int .i64 (-1), .int .i64 0, .int .i64 255, .int .i64 256]) (ok := fun _ => True) (okp := fun _ => True) ?hr ?hp (fun _ hk => hk) trivial (Below.refl _ _) (Nat.le_refl _) (by simp) ?_; (case hd => rfl); (case hg => rfl); (case hr => exact GS); (case hp => exact (Reps.one (show Kd.M (Kd.int .i64) _ _ _ (-1) [.int .i64 (-1)] from rfl) (Reps.one (show Kd.M (Kd.int .i64) _ _ _ 0 [.int .i64 0] from rfl) (Reps.one (show Kd.M (Kd.int .i64) _ _ _ 255 [.int .i64 255] from rfl) (Reps.one (show Kd.M (Kd.int .i64) _ _ _ 256 [.int .i64 256] from rfl) (Reps.none _ _)))))); intro v301 w8 ho9 hb hg_ hnew_; clear hg_ hnew_; (first | rw [← Ny300.out] at ho9 | (simp only [Int.reduceToNat] at ho9; rw [← Ny300.out] at ho9)); have n0_ := Aside0.mk (Kd.R_lower ho9 (below_size (by repeat (first | (with_reducible first | exact HB.out | apply below_alloc | apply pw_below_drewN | apply below_drew1 | refine below_set ?_ (IsS51.ge HI296.out)) | exact HB.out)))); have n1_ := Aside0.mk (IsS51.below (by repeat (first | (with_reducible first | exact HI296.out | apply IsS51.alloc | apply IsS51.drewN | apply IsS51.drew | apply IsS51.set_1 | apply IsS51.set_2) | exact HI296.out)) hb); have n2_ := Aside0.mk (below_step (by repeat (first | (with_reducible first | exact HB.out | apply below_alloc | apply pw_below_drewN | apply below_drew1 | refine below_set ?_ (IsS51.ge HI296.out)) | exact HB.out)) hb); clear HI296; clear HB; have HO302 := n0_; have HI296 := n1_; have HB := n2_; clear n0_ n1_ n2_; clear hb ho9; obtain ⟨Ao10, co10, eo10⟩ := Kd.R_slice HO302.out; subst eo10) | ((with_reducible refine gate_callee (f := 43) rfl ?_); refine goesL_ (some 12) rfl rfl Tryd.func43 (by kernel_rfl) rfl #[.pointer (some ⟨gb296, 0, none⟩), .slice Ao10 y300.length co10] rfl TA ?_; (with_reducible refine (spec_l1Cur_among.calls gb296 l0 t298 t299 _ _ y300 t303 t304 t305 w _ ?side1 ?side2 ?side3 ?side4 ?side5 A4.out).mono ?_); (case side1 => repeat (first | (with_reducible first | exact HI296.out | apply IsS51.alloc | apply IsS51.drewN | apply IsS51.drew | apply IsS51.set_1 | apply IsS51.set_2) | exact HI296.out)); (case side2 => repeat (first | (with_reducible first | exact HB.out | apply below_alloc | apply pw_below_drewN | apply below_drew1 | refine below_set ?_ (IsS51.ge HI296.out)) | exact HB.out)); (case side3 => exact CW (Kd.R_reads' HO302.out).2.2); (case side4 => exact (Kd.R_reads' HO302.out).2.1); (case side5 => exact far_slice (IsS51.own_ne HI296.out HO302.out (by decide))); rintro e w11 ⟨rfl, hi, hb, hk⟩; refine ⟨_, rfl, ?_⟩; have n0_ := Aside0.mk (Kd.R_mono (Kd.R_keep (IsS51.apart (show IsS51 w _ gb296 l0 t298 t299 from by repeat (first | (with_reducible first | exact HI296.out | apply IsS51.alloc | apply IsS51.drewN | apply IsS51.drew | apply IsS51.set_1 | apply IsS51.set_2) | exact HI296.out)) (KR HO302) (by decide)) hk (fun _ h => h.2)) (fun _ h => h.1)); have n1_ := Aside0.mk (hb); have n2_ := Aside0.mk (hi); clear HO302; clear HB; clear HI296; have HO302 := n0_; have HB := n1_; have HI296 := n2_; clear n0_ n1_ n2_; (try clear hb); (try clear hb2); (try clear hk); (try clear hi)) | ((with_reducible refine gate_callee (f := 44) rfl ?_); refine goesL_ (some 14) rfl rfl Tryd.func44 (by kernel_rfl) rfl #[.pointer (some ⟨gb296, 0, none⟩), .int .i64 256] rfl TA ?_; (with_reducible refine (spec_l1Cur_pick.calls gb296 l0 t304 t305 256 t306 t307 t308 w _ ?side1 ?side2 A5.out).mono ?_); (case side1 => repeat (first | (with_reducible first | exact HI296.out | apply IsS51.alloc | apply IsS51.drewN | apply IsS51.drew | apply IsS51.set_1 | apply IsS51.set_2) | exact HI296.out)); (case side2 => repeat (first | (with_reducible first | exact HB.out | apply below_alloc | apply pw_below_drewN | apply below_drew1 | refine below_set ?_ (IsS51.ge HI296.out)) | exact HB.out)); rintro e w12 ⟨rfl, hi, hb, hk⟩; refine ⟨_, rfl, ?_⟩; have n0_ := Aside0.mk (Kd.R_mono (Kd.R_keep (IsS51.apart (show IsS51 w _ gb296 l0 t304 t305 from by repeat (first | (with_reducible first | exact HI296.out | apply IsS51.alloc | apply IsS51.drewN | apply IsS51.drew | apply IsS51.set_1 | apply IsS51.set_2) | exact HI296.out)) (KR HO302) (by decide)) hk (fun _ h => h.2)) (fun _ h => h.1)); have n1_ := Aside0.mk (hb); have n2_ := Aside0.mk (hi); clear HO302; clear HB; clear HI296; have HO302 := n0_; have HB := n1_; have HI296 := n2_; clear n0_ n1_ n2_; (try clear hb); (try clear hb2); (try clear hk); (try clear hi)))
  go_ret2
  exact ⟨RE, by repeat (first | (with_reducible first | exact HB.out | apply below_alloc | apply pw_below_drewN | apply below_drew1 | refine below_set ?_ (IsS51.ge HI296.out)) | exact HB.out)⟩
 ·replace c3 := Bool.eq_false_iff.mpr c3
  subst c3
  replace H := IN H
  obtain ⟨⟨t309, t310, t311⟩, A130, H⟩ := Option.bind_eq_some_iff.mp H
  replace H : ((spec_l1Cur_pick.f l0 t310 t311 256).bind fun bt312 => ((spec_l1Cur_pick.f l0 bt312.2.1 bt312.2.2 256).bind fun bt315 => (some (t309, Go.bits .and .i64 bt312.1 bt315.1)))) = some (r1, r2) := H
  have A13 := Aside0.mk A130
  clear A130
  obtain ⟨⟨t312, t313, t314⟩, A140, H⟩ := Option.bind_eq_some_iff.mp H
  replace H : ((spec_l1Cur_pick.f l0 t313 t314 256).bind fun bt315 => (some (t309, Go.bits .and .i64 t312 bt315.1))) = some (r1, r2) := H
  have A14 := Aside0.mk A140
  clear A140
  obtain ⟨⟨t315, t316, t317⟩, A150, H⟩ := Option.bind_eq_some_iff.mp H
  replace H : (some (t309, Go.bits .and .i64 t312 t315)) = some (r1, r2) := H
  have A15 := Aside0.mk A150
  clear A150
  simp only [Option.some.injEq, Prod.mk.injEq] at H
  obtain ⟨rfl, rfl⟩ := H
  go_enter Tryd.func23, Tryd.ntmps23
  go_wp2_with (first | ((with_reducible refine gate_dst (N := 7) rfl ?_); refine box_event ?hg (N := 7) ?hd (cs := #[.slice A0 l0.length c0, .int .i64 0, .int .u64 0]) (t := 51) ?hr ?_; (case hd => rfl); (case hg => rfl); (case hr => exact GS); intro gb296 hg w16 hbox hb; have n0_ := Aside0.mk (below_step BB hb); have n1_ := Aside0.mk ((by rw [hg]; exact (below_size BB) : w.heap.size ≤ gb296)); have n2_ := Aside0.mk ((by rw [hg]; exact (below_size BB) : w.heap.size ≤ gb296)); have n3_ := Aside0.mk ((show IsS51 w w16 gb296 l0 0 0 from ⟨A0, c0, hbox, (by rw [hg]; exact (below_size BB) : w.heap.size ≤ gb296), HR0.out⟩)); clear HB; have HB := n0_; have GW296 := n1_; have GE296 := n2_; have HI296 := n3_; clear n0_ n1_ n2_ n3_; clear hb hbox hg) | ((with_reducible refine gate_callee (f := 42) rfl ?_); refine goesL_ (some 9) rfl rfl Tryd.func42 (by kernel_rfl) rfl #[.pointer (some ⟨gb296, 0, none⟩), .int .i64 6] rfl TA ?_; (with_reducible refine (spec_l1Cur_one.calls gb296 l0 0 0 6 false t298 t299 w _ ?side1 ?side2 A2.out).mono ?_); (case side1 => repeat (first | (with_reducible first | exact HI296.out | apply IsS51.alloc | apply IsS51.drewN | apply IsS51.drew | apply IsS51.set_1 | apply IsS51.set_2) | exact HI296.out)); (case side2 => repeat (first | (with_reducible first | exact HB.out | apply below_alloc | apply pw_below_drewN | apply below_drew1 | refine below_set ?_ (IsS51.ge HI296.out)) | exact HB.out)); rintro e w17 ⟨rfl, hi, hb, hk⟩; refine ⟨_, rfl, ?_⟩; have n0_ := Aside0.mk (hb); have n1_ := Aside0.mk (hi); clear HB; clear HI296; have HB := n0_; have HI296 := n1_; clear n0_ n1_; (try clear hb); (try clear hb2); (try clear hk); (try clear hi)) | ((with_reducible refine gate_callee (f := 44) rfl ?_); refine goesL_ (some 16) rfl rfl Tryd.func44 (by kernel_rfl) rfl #[.pointer (some ⟨gb296, 0, none⟩), .int .i64 256] rfl TA ?_; (with_reducible refine (spec_l1Cur_pick.calls gb296 l0 t298 t299 256 t309 t310 t311 w _ ?side1 ?side2 A13.out).mono ?_); (case side1 => repeat (first | (with_reducible first | exact HI296.out | apply IsS51.alloc | apply IsS51.drewN | apply IsS51.drew | apply IsS51.set_1 | apply IsS51.set_2) | exact HI296.out)); (case side2 => repeat (first | (with_reducible first | exact HB.out | apply below_alloc | apply pw_below_drewN | apply below_drew1 | refine below_set ?_ (IsS51.ge HI296.out)) | exact HB.out)); rintro e w18 ⟨rfl, hi, hb, hk⟩; refine ⟨_, rfl, ?_⟩; have n0_ := Aside0.mk (hb); have n1_ := Aside0.mk (hi); clear HB; clear HI296; have HB := n0_; have HI296 := n1_; clear n0_ n1_; (try clear hb); (try clear hb2); (try clear hk); (try clear hi)) | ((with_reducible refine gate_callee (f := 44) rfl ?_); refine goesL_ (some 18) rfl rfl Tryd.func44 (by kernel_rfl) rfl #[.pointer (some ⟨gb296, 0, none⟩), .int .i64 256] rfl TA ?_; (with_reducible refine (spec_l1Cur_pick.calls gb296 l0 t310 t311 256 t312 t313 t314 w _ ?side1 ?side2 A14.out).mono ?_); (case side1 => repeat (first | (with_reducible first | exact HI296.out | apply IsS51.alloc | apply IsS51.drewN | apply IsS51.drew | apply IsS51.set_1 | apply IsS51.set_2) | exact HI296.out)); (case side2 => repeat (first | (with_reducible first | exact HB.out | apply below_alloc | apply pw_below_drewN | apply below_drew1 | refine below_set ?_ (IsS51.ge HI296.out)) | exact HB.out)); rintro e w19 ⟨rfl, hi, hb, hk⟩; refine ⟨_, rfl, ?_⟩; have n0_ := Aside0.mk (hb); have n1_ := Aside0.mk (hi); clear HB; clear HI296; have HB := n0_; have HI296 := n1_; clear n0_ n1_; (try clear hb); (try clear hb2); (try clear hk); (try clear hi)) | ((with_reducible refine gate_callee (f := 44) rfl ?_); refine goesL_ (some 20) rfl rfl Tryd.func44 (by kernel_rfl) rfl #[.pointer (some ⟨gb296, 0, none⟩), .int .i64 256] rfl TA ?_; (with_reducible refine (spec_l1Cur_pick.calls gb296 l0 t313 t314 256 t315 t316 t317 w _ ?side1 ?side2 A15.out).mono ?_); (case side1 => repeat (first | (with_reducible first | exact HI296.out | apply IsS51.alloc | apply IsS51.drewN | apply IsS51.drew | apply IsS51.set_1 | apply IsS51.set_2) | exact HI296.out)); (case side2 => repeat (first | (with_reducible first | exact HB.out | apply below_alloc | apply pw_below_drewN | apply below_drew1 | refine below_set ?_ (IsS51.ge HI296.out)) | exact HB.out)); rintro e w20 ⟨rfl, hi, hb, hk⟩; refine ⟨_, rfl, ?_⟩; have n0_ := Aside0.mk (hb); have n1_ := Aside0.mk (hi); clear HB; clear HI296; have HB := n0_; have HI296 := n1_; clear n0_ n1_; (try clear hb); (try clear hb2); (try clear hk); (try clear hi)))
  go_ret2
  exact ⟨RE, by repeat (first | (with_reducible first | exact HB.out | apply below_alloc | apply pw_below_drewN | apply below_drew1 | refine below_set ?_ (IsS51.ge HI296.out)) | exact HB.out)⟩

/-! ### spec_AreApart: function 24 -/
def spec_AreApart.f (a0 : Int) (a1 : Int) : Option (Bool × Bool) := (spec_l1In.f a0 0 255).bind fun t318 => (if t318 = true then ((spec_l1In.f a1 0 255).bind fun t319 => (if t319 = true then (some (((Go.bits .and .i64 a0 a1) == 0), true)) else (some (false, false)))) else (some (false, false)))
theorem spec_AreApart.calls (a0 : Int) (a1 : Int) (r1 : Bool) (r2 : Bool) (w : World) (h : spec_AreApart.f a0 a1 = some (r1, r2)) :
  Calls Tryd.prog 24 #[.int .i64 a0, .int .i64 a1] w fun e w' => e = .returned (.tuple #[.bool r1, .bool r2]) ∧ Drawn0 w w' := by
 have H : ((spec_l1In.f a0 0 255).bind fun t318 => (if t318 = true then ((spec_l1In.f a1 0 255).bind fun t319 => (if t319 = true then (some (((Go.bits .and .i64 a0 a1) == 0), true)) else (some (false, false)))) else (some (false, false)))) = some (r1, r2) := h
 clear h
 obtain ⟨t318, A30, H⟩ := Option.bind_eq_some_iff.mp H
 have A3 := Aside0.mk A30
 clear A30
 by_cases c4 : t318 = true
 ·subst c4
  replace H := IP H
  obtain ⟨t319, A50, H⟩ := Option.bind_eq_some_iff.mp H
  have A5 := Aside0.mk A50
  clear A50
  by_cases c6 : t319 = true
  ·subst c6
   replace H := IP H
   simp only [Option.some.injEq, Prod.mk.injEq] at H
   obtain ⟨rfl, rfl⟩ := H
   go_enter Tryd.func24, Tryd.ntmps24
   go_wp2_with (first | ((with_reducible refine gate_callee (f := 45) rfl ?_); refine goesL_ (some 7) rfl rfl Tryd.func45 (by kernel_rfl) rfl #[.int .i64 a0, .int .i64 0, .int .i64 255] rfl TA ?_; (with_reducible refine (spec_l1In.calls a0 0 255 true _ A3.out).mono ?_); rintro e w' ⟨rfl, ⟨nd, rfl⟩⟩; refine ⟨_, rfl, ?_⟩) | (go_at_call 45; (with_reducible refine (spec_l1In.calls a1 0 255 true _ A5.out).mono ?_); rintro e w' ⟨rfl, ⟨nd, rfl⟩⟩))
   go_ret2
   exact ⟨RF, DR⟩
  ·replace c6 := Bool.eq_false_iff.mpr c6
   subst c6
   replace H := IN H
   simp only [Option.some.injEq, Prod.mk.injEq] at H
   obtain ⟨rfl, rfl⟩ := H
   go_enter Tryd.func24, Tryd.ntmps24
   go_wp2_with (first | ((with_reducible refine gate_callee (f := 45) rfl ?_); refine goesL_ (some 7) rfl rfl Tryd.func45 (by kernel_rfl) rfl #[.int .i64 a0, .int .i64 0, .int .i64 255] rfl TA ?_; (with_reducible refine (spec_l1In.calls a0 0 255 true _ A3.out).mono ?_); rintro e w' ⟨rfl, ⟨nd, rfl⟩⟩; refine ⟨_, rfl, ?_⟩) | (go_at_call 45; (with_reducible refine (spec_l1In.calls a1 0 255 false _ A5.out).mono ?_); rintro e w' ⟨rfl, ⟨nd, rfl⟩⟩))
   go_ret2
   exact ⟨RF, DR⟩
 ·replace c4 := Bool.eq_false_iff.mpr c4
  subst c4
  replace H := IN H
  simp only [Option.some.injEq, Prod.mk.injEq] at H
  obtain ⟨rfl, rfl⟩ := H
  go_enter Tryd.func24, Tryd.ntmps24
  go_wp2_with (first | ((with_reducible refine gate_callee (f := 45) rfl ?_); refine goesL_ (some 7) rfl rfl Tryd.func45 (by kernel_rfl) rfl #[.int .i64 a0, .int .i64 0, .int .i64 255] rfl TA ?_; (with_reducible refine (spec_l1In.calls a0 0 255 false _ A3.out).mono ?_); rintro e w' ⟨rfl, ⟨nd, rfl⟩⟩; refine ⟨_, rfl, ?_⟩))
  go_ret2
  exact ⟨RF, DR⟩

end Go.Proofs.YtemgnbpcchlpiaaDoor.PFnKneserColours
