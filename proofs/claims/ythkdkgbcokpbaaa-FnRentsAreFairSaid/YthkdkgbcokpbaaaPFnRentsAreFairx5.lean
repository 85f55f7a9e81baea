-- Written by a program of this session (wip/tools/pp.sh) out of the translation; Lean checks it.
import Derived.Test.YthkdkgbcokpbaaaPFnRentsAreFairx0
import Derived.Test.YthkdkgbcokpbaaaPFnRentsAreFairx4
namespace Go.Proofs.Ythkdkgbcokpbaaa.PFnRentsAreFair
open Go.RowKit Go.Proofs.YthkdkgbcokpbaaaOwn Go.Proofs.YthkdkgbcokpbaaaW.PrintWords Go.Proofs.YthkdkgbcokpbaaaW.PrintLast Go.Proofs.YthkdkgbcokpbaaaW.PrintMore
attribute [local go_sem] max2_int min2_int max_two min_two max_three min_three max_four min_four   -- for this text's walks alone
set_option linter.unusedVariables false
set_option maxHeartbeats 8000000
set_option maxRecDepth 100000
set_option linter.unusedSimpArgs false

/-! ### spec_ckEnvy: function 27 -/
mutual
def spec_ckEnvy.l0 : Nat → List Int → Int → List (List Int) → Int → Int → Option (Int)
 | 0, _, _, _, _, _ => none
 | k + 1, x1, x5, x10, x11, x12 => if x12 < x11 then (if 0 ≤ x12 then (if x12 < (x10.length : Int) then (spec_ckEnvy.l1 k x1 x5 x12 (rd_L2 x10 x12) x10 x11 x12 (rd_L2 x10 x12) ((rd_L2 x10 x12).length : Int) 0) else (none)) else (none)) else (some x5)
def spec_ckEnvy.l1 : Nat → List Int → Int → Int → List Int → List (List Int) → Int → Int → List Int → Int → Int → Option (Int)
 | 0, _, _, _, _, _, _, _, _, _, _ => none
 | k + 1, x1, x5, x6, x7, x10, x11, x12, x17, x18, x19 => if x19 < x18 then (if 0 ≤ x19 then (if x19 < (x17.length : Int) then (if 0 ≤ x6 then (if x6 < (x1.length : Int) then (if 0 ≤ (rd x1 x6) then (if (rd x1 x6) < (x7.length : Int) then ((spec_l1Most.f x5 (wrap64 ((rd x17 x19) - (rd x7 (rd x1 x6))))).bind fun t262 => (spec_ckEnvy.l1 k x1 t262 x6 x7 x10 x11 x12 x17 x18 (wrap64 (x19 + 1)))) else (none)) else (none)) else (none)) else (none)) else (none)) else (none)) else (spec_ckEnvy.l0 k x1 x5 x10 x11 (wrap64 (x12 + 1)))
end
def spec_ckEnvy.f (k : Nat) (l0 : List (List Int)) (l1 : List Int) : Option (Int) := spec_ckEnvy.l0 k l1 0 l0 (l0.length : Int) 0
theorem spec_ckEnvy.mono_l : ∀ k, (∀ y0 y1 y2 y3 y4, LeO (spec_ckEnvy.l0 k y0 y1 y2 y3 y4) (spec_ckEnvy.l0 (k + 1) y0 y1 y2 y3 y4)) ∧ (∀ y0 y1 y2 y3 y4 y5 y6 y7 y8 y9, LeO (spec_ckEnvy.l1 k y0 y1 y2 y3 y4 y5 y6 y7 y8 y9) (spec_ckEnvy.l1 (k + 1) y0 y1 y2 y3 y4 y5 y6 y7 y8 y9))
 | 0 => ⟨fun _ _ _ _ _ r h => by simp [spec_ckEnvy.l0] at h, fun _ _ _ _ _ _ _ _ _ _ r h => by simp [spec_ckEnvy.l1] at h⟩
 | k + 1 => by
  obtain ⟨ih0, ih1⟩ := spec_ckEnvy.mono_l k
  refine ⟨?_, ?_⟩
  ·intro y0 y1 y2 y3 y4
   unfold spec_ckEnvy.l0
   repeat' first
   | with_reducible first | exact ih0 _ _ _ _ _ | exact ih1 _ _ _ _ _ _ _ _ _ _ | exact LeO.refl _ | exact LeO.none _ | refine LeO.ite ?_ ?_ | refine LeO.bind ?_ (fun _ => ?_)
   | exact LeO.none _ | refine LeO.ite ?_ ?_ | refine LeO.bind ?_ (fun _ => ?_)
  ·intro y0 y1 y2 y3 y4 y5 y6 y7 y8 y9
   unfold spec_ckEnvy.l1
   repeat' first
   | with_reducible first | exact ih0 _ _ _ _ _ | exact ih1 _ _ _ _ _ _ _ _ _ _ | exact LeO.refl _ | exact LeO.none _ | refine LeO.ite ?_ ?_ | refine LeO.bind ?_ (fun _ => ?_)
   | exact LeO.none _ | refine LeO.ite ?_ ?_ | refine LeO.bind ?_ (fun _ => ?_)
theorem spec_ckEnvy.mono : ∀ a0 a1 k, LeO (spec_ckEnvy.f k a0 a1) (spec_ckEnvy.f (k + 1) a0 a1) := by
 intro a0 a1 k
 obtain ⟨ih0, ih1⟩ := spec_ckEnvy.mono_l k
 unfold spec_ckEnvy.f
 repeat' first
   | with_reducible first | exact ih0 _ _ _ _ _ | exact ih1 _ _ _ _ _ _ _ _ _ _ | exact LeO.refl _ | exact LeO.none _ | refine LeO.ite ?_ ?_ | refine LeO.bind ?_ (fun _ => ?_)
   | exact LeO.none _ | refine LeO.ite ?_ ?_ | refine LeO.bind ?_ (fun _ => ?_)
theorem spec_ckEnvy.calls (k : Nat) (A0 : Option Addr) (c0 : Nat) (l0 : List (List Int)) (A1 : Option Addr) (c1 : Nat) (l1 : List Int) (r : Int) (w : World) (hr0 : Kd.C (Kd.slice 3 (Kd.int .i64)) w A0 l0.length l0) (hc0 : l0.length ≤ c0) (hr1 : Kd.C (Kd.int .i64) w A1 l1.length l1) (hc1 : l1.length ≤ c1) (h : spec_ckEnvy.f k l0 l1 = some r) :
  Calls Try.prog 27 #[.slice A0 l0.length c0, .slice A1 l1.length c1] w fun e w' => e = .returned (.int .i64 r) ∧ Drawn0 w w' := by
 have HR0 := Aside0.mk hr0
 have HC0 := Aside0.mk hc0
 clear hr0 hc0
 have HR1 := Aside0.mk hr1
 have HC1 := Aside0.mk hc1
 clear hr1 hc1
 have H : (spec_ckEnvy.l0 k l1 0 l0 (l0.length : Int) 0) = some r := h
 clear h
 have H' := Aside0.mk H
 clear H
 go_enter Try.func27, Try.ntmps27
 go_wp2
 go_loopg [5, 12] k (fun kq v5 v12 w' => ∃ (x5_1 : Int) (x12_1 : Int), v5 = .int .i64 x5_1 ∧ v12 = .int .i64 x12_1 ∧ Aside0 (spec_ckEnvy.l0 kq l1 x5_1 l0 (l0.length : Int) x12_1 = some r) ∧ Aside0 (kq ≤ k) ∧ Drawn0 w w')
 case atStart => exact ⟨(0), (0), RF, RF, H', ⟨Nat.le_refl _⟩, by repeat (first | exact Drawn0.refl _ | apply Drawn0.step)⟩
 case round =>
  clear H'
  try clear c1
  try clear c2
  try clear p2
  obtain ⟨x5_1, x12_1, rfl, rfl, HA, HK1, ⟨m1, rfl⟩⟩ := hrel
  cases gk with
  | zero => exact absurd HA.out (by simp [spec_ckEnvy.l0])
  | succ k1 =>
   have H := HA.out
   clear HA
   simp only [spec_ckEnvy.l0] at H
   by_cases c3 : x12_1 < (l0.length : Int)
   ·rw [if_pos c3] at H
    have c3b0 : decide (x12_1 < (l0.length : Int)) = true := decide_eq_true c3
    clear c3
    by_cases c4 : 0 ≤ x12_1
    ·rw [if_pos c4] at H
     have c4b0 : decide (0 ≤ x12_1) = true := decide_eq_true c4
     clear c4
     by_cases c5 : x12_1 < (l0.length : Int)
     ·rw [if_pos c5] at H
      have c5b0 : decide (x12_1 < (l0.length : Int)) = true := decide_eq_true c5
      clear c5
      have H' := Aside0.mk H
      clear H
      have p258 : 0 ≤ (x12_1 : Int) := of_decide_eq_true AS
      have q258 : x12_1 < (l0.length : Int) := of_decide_eq_true AS
      obtain ⟨ad258, A258_0, c258_0, e258, hx258_0, hl258_0, hi258_0⟩ := at_L2 HR0.out x12_1 p258 q258
      cases e258
      have HR258_0 := Aside0.mk hi258_0
      have HC258_0 := Aside0.mk hl258_0
      clear hi258_0 hl258_0
      replace p258 := eq_true p258
      replace q258 := eq_true q258
      go_wp2
      go_loopg [5, 19] k1 (fun kq v5 v19 w' => ∃ (x5_2 : Int) (x19_2 : Int), v5 = .int .i64 x5_2 ∧ v19 = .int .i64 x19_2 ∧ Aside0 (spec_ckEnvy.l1 kq l1 x5_2 x12_1 (rd_L2 l0 x12_1) l0 (l0.length : Int) x12_1 (rd_L2 l0 x12_1) ((rd_L2 l0 x12_1).length : Int) x19_2 = some r) ∧ Aside0 (kq ≤ k1) ∧ Drawn0 w w')
      case atStart => exact ⟨(x5_1), (0), RF, RF, H', ⟨Nat.le_refl _⟩, by repeat (first | exact Drawn0.refl _ | apply Drawn0.step)⟩
      case round =>
       clear H'
       try clear c1
       try clear c2
       try clear p2
       try clear q2
       try clear hx2
       try clear c3
       try clear c3b0
       try clear c4
       try clear c4b0
       try clear c5
       try clear c5b0
       try clear hx258_0
       try clear p2
       try clear p258
       try clear q258
       obtain ⟨x5_2, x19_2, rfl, rfl, HA, HK2, ⟨m2, rfl⟩⟩ := hrel
       cases gk with
       | zero => exact absurd HA.out (by simp [spec_ckEnvy.l1])
       | succ k2 =>
        have H := HA.out
        clear HA
        simp only [spec_ckEnvy.l1] at H
        by_cases c6 : x19_2 < ((rd_L2 l0 x12_1).length : Int)
        ·rw [if_pos c6] at H
         have c6b0 : decide (x19_2 < ((rd_L2 l0 x12_1).length : Int)) = true := decide_eq_true c6
         clear c6
         by_cases c7 : 0 ≤ x19_2
         ·rw [if_pos c7] at H
          have c7b0 : decide (0 ≤ x19_2) = true := decide_eq_true c7
          clear c7
          by_cases c8 : x19_2 < ((rd_L2 l0 x12_1).length : Int)
          ·rw [if_pos c8] at H
           have c8b0 : decide (x19_2 < ((rd_L2 l0 x12_1).length : Int)) = true := decide_eq_true c8
           clear c8
           by_cases c9 : 0 ≤ x12_1
           ·rw [if_pos c9] at H
            have c9b0 : decide (0 ≤ x12_1) = true := decide_eq_true c9
            clear c9
            by_cases c10 : x12_1 < (l1.length : Int)
            ·rw [if_pos c10] at H
             have c10b0 : decide (x12_1 < (l1.length : Int)) = true := decide_eq_true c10
             clear c10
             by_cases c11 : 0 ≤ (rd l1 x12_1)
             ·rw [if_pos c11] at H
              have c11b0 : decide (0 ≤ (rd l1 x12_1)) = true := decide_eq_true c11
              clear c11
              by_cases c12 : (rd l1 x12_1) < ((rd_L2 l0 x12_1).length : Int)
              ·rw [if_pos c12] at H
               have c12b0 : decide ((rd l1 x12_1) < ((rd_L2 l0 x12_1).length : Int)) = true := decide_eq_true c12
               clear c12
               replace H := EA H
               obtain ⟨t262, A13, H⟩ := H
               have H' := Aside0.mk H
               clear H
               have p259 : 0 ≤ (x19_2 : Int) := of_decide_eq_true AS
               have q259 : x19_2 < ((rd_L2 l0 x12_1).length : Int) := of_decide_eq_true AS
               obtain ⟨ad259, e259, hx259_0⟩ := Kd.at_int HR258_0.out x19_2 p259 q259
               cases e259
               replace p259 := eq_true p259
               replace q259 := eq_true q259
               have p260 : 0 ≤ (x12_1 : Int) := of_decide_eq_true AS
               have q260 : x12_1 < (l1.length : Int) := of_decide_eq_true AS
               obtain ⟨ad260, e260, hx260_0⟩ := Kd.at_int HR1.out x12_1 p260 q260
               cases e260
               replace p260 := eq_true p260
               replace q260 := eq_true q260
               have p261 : 0 ≤ ((rd l1 x12_1) : Int) := of_decide_eq_true AS
               have q261 : (rd l1 x12_1) < ((rd_L2 l0 x12_1).length : Int) := of_decide_eq_true AS
               obtain ⟨ad261, e261, hx261_0⟩ := Kd.at_int HR258_0.out (rd l1 x12_1) p261 q261
               obtain rfl : ad259 = ad261 := (by injection e261)
               replace p261 := eq_true p261
               replace q261 := eq_true q261
               go_wp2_with (first | ((with_reducible refine gate_callee (f := 47) rfl ?_); refine goesL_ (some 33) rfl rfl Try.func47 (by kernel_rfl) rfl #[.int .i64 x5_2, .int .i64 (wrap64 ((rd (rd_L2 l0 x12_1) x19_2) - (rd (rd_L2 l0 x12_1) (rd l1 x12_1))))] rfl TA ?_; (with_reducible refine (spec_l1Most.calls x5_2 (wrap64 ((rd (rd_L2 l0 x12_1) x19_2) - (rd (rd_L2 l0 x12_1) (rd l1 x12_1)))) t262 _ A13.out).mono ?_); rintro e w' ⟨rfl, ⟨nd, rfl⟩⟩; refine ⟨_, rfl, ?_⟩))
               go_roundg k2
               case measure => have := HK1.out; have := HK2.out; omega
               case rel => exact ⟨(t262), (wrap64 (x19_2 + 1)), RF, RF, H', ⟨by have := HK1.out; have := HK2.out; omega⟩, by repeat (first | exact Drawn0.refl _ | apply Drawn0.step)⟩
              ·rw [if_neg c12] at H
               cases H
             ·rw [if_neg c11] at H
              cases H
            ·rw [if_neg c10] at H
             cases H
           ·rw [if_neg c9] at H
            cases H
          ·rw [if_neg c8] at H
           cases H
         ·rw [if_neg c7] at H
          cases H
        ·rw [if_neg c6] at H
         have c6b0 : decide (x19_2 < ((rd_L2 l0 x12_1).length : Int)) = false := decide_eq_false c6
         clear c6
         have H' := Aside0.mk H
         clear H
         go_wp2
         go_roundg k2
         case measure => have := HK1.out; have := HK2.out; omega
         case rel => exact ⟨(x5_2), (wrap64 (x12_1 + 1)), RF, RF, H', ⟨by have := HK1.out; have := HK2.out; omega⟩, by repeat (first | exact Drawn0.refl _ | apply Drawn0.step)⟩
     ·rw [if_neg c5] at H
      cases H
    ·rw [if_neg c4] at H
     cases H
   ·rw [if_neg c3] at H
    have c3b0 : decide (x12_1 < (l0.length : Int)) = false := decide_eq_false c3
    clear c3
    obtain rfl := Option.some.inj H
    go_wp2
    go_ret
    exact ⟨RF, DR⟩

/-! ### spec_meAt: function 48 -/
def spec_meAt.l0 : Nat → Int → Int → Int → Option (List Int)
 | 0, _, _, _ => none
 | k + 1, x0, x1, x5 => if x1 > x5 then (spec_meAt.l0 k x0 (wrap64 (x1 - (wrap64 (x5 + 1)))) (wrap64 (x5 + 1))) else (some (([wrap64 (x0 - x5), wrap64 (x5 - x1), x1] : List Int)))
def spec_meAt.f (k : Nat) (a0 : Int) (a1 : Int) : Option (List Int) := spec_meAt.l0 k a0 a1 0
theorem spec_meAt.mono_l : ∀ k, (∀ y0 y1 y2, LeO (spec_meAt.l0 k y0 y1 y2) (spec_meAt.l0 (k + 1) y0 y1 y2))
 | 0 => fun _ _ _ r h => by simp [spec_meAt.l0] at h
 | k + 1 => by
  have ih0 := spec_meAt.mono_l k
  ·intro y0 y1 y2
   unfold spec_meAt.l0
   repeat' first
   | with_reducible first | exact ih0 _ _ _ | exact LeO.refl _ | exact LeO.none _ | refine LeO.ite ?_ ?_ | refine LeO.bind ?_ (fun _ => ?_)
   | exact LeO.none _ | refine LeO.ite ?_ ?_ | refine LeO.bind ?_ (fun _ => ?_)
theorem spec_meAt.mono : ∀ a0 a1 k, LeO (spec_meAt.f k a0 a1) (spec_meAt.f (k + 1) a0 a1) := by
 intro a0 a1 k
 have ih0 := spec_meAt.mono_l k
 unfold spec_meAt.f
 repeat' first
   | with_reducible first | exact ih0 _ _ _ | exact LeO.refl _ | exact LeO.none _ | refine LeO.ite ?_ ?_ | refine LeO.bind ?_ (fun _ => ?_)
   | exact LeO.none _ | refine LeO.ite ?_ ?_ | refine LeO.bind ?_ (fun _ => ?_)
theorem spec_meAt.calls (k : Nat) (a0 : Int) (a1 : Int) (r : List Int) (w : World) (h : spec_meAt.f k a0 a1 = some r) :
  Calls Try.prog 48 #[.int .i64 a0, .int .i64 a1] w fun e w' => ∃ v0_ : Value, e = .returned (v0_) ∧ Kd.R (Kd.int .i64) 3 w' w.heap.size (fun _ => True) v0_ r ∧ Below w.heap.size w w' := by
 have HB := Aside0.mk (Below.refl w.heap.size w)
 have H : (spec_meAt.l0 k a0 a1 0) = some r := h
 clear h
 have H' := Aside0.mk H
 clear H
 go_enter Try.func48, Try.ntmps48
 go_wp2
 go_loopg [1, 5] k (fun kq v1 v5 w' => ∃ (x1_1 : Int) (x5_1 : Int), v1 = .int .i64 x1_1 ∧ v5 = .int .i64 x5_1 ∧ Aside0 (spec_meAt.l0 kq a0 x1_1 x5_1 = some r) ∧ Aside0 (kq ≤ k) ∧ Aside0 (Below w.heap.size w w'))
 case atStart => exact ⟨(a1), (0), RF, RF, H', ⟨Nat.le_refl _⟩, ⟨BB⟩⟩
 case round =>
  clear H'
  try clear p2
  obtain ⟨x1_1, x5_1, rfl, rfl, HA, HK1, HB⟩ := hrel
  cases gk with
  | zero => exact absurd HA.out (by simp [spec_meAt.l0])
  | succ k1 =>
   have H := HA.out
   clear HA
   simp only [spec_meAt.l0] at H
   by_cases c3 : x1_1 > x5_1
   ·rw [if_pos c3] at H
    have c3b0 : decide (x5_1 < x1_1) = true := decide_eq_true c3
    clear c3
    have H' := Aside0.mk H
    clear H
    go_wp2
    go_roundg k1
    case measure => have := HK1.out; omega
    case rel => exact ⟨(wrap64 (x1_1 - (wrap64 (x5_1 + 1)))), (wrap64 (x5_1 + 1)), RF, RF, H', ⟨by have := HK1.out; omega⟩, ⟨BB⟩⟩
   ·rw [if_neg c3] at H
    have c3b0 : decide (x5_1 < x1_1) = false := decide_eq_false c3
    clear c3
    obtain ⟨y263, hy263⟩ : ∃ y_ : List Int, y_ = (([wrap64 (a0 - x5_1), wrap64 (x5_1 - x1_1), x1_1] : List Int)) := ⟨_, rfl⟩
    replace H : (some y263) = some r := HY H hy263
    have Ny263 := Aside0.mk hy263
    clear hy263
    obtain rfl := Option.some.inj H
    go_wp2_with (first | ((with_reducible refine gate_dst (N := 22) rfl ?_); refine Kd.R_lit (Kd.int .i64) _ 3 ?hg (N := 22) ?hd (xs := ([wrap64 (a0 - x5_1), wrap64 (x5_1 - x1_1), x1_1] : List Int)) (inner := [.int .i64 (wrap64 (a0 - x5_1)), .int .i64 (wrap64 (x5_1 - x1_1)), .int .i64 x1_1]) (ok := fun _ => True) (okp := fun _ => True) ?hr ?hp (fun _ hk => hk) trivial (Below.refl _ _) (Nat.le_refl _) (by simp) ?_; (case hd => rfl); (case hg => rfl); (case hr => exact GS); (case hp => exact (Reps.one (show Kd.M (Kd.int .i64) _ _ _ (wrap64 (a0 - x5_1)) [.int .i64 (wrap64 (a0 - x5_1))] from rfl) (Reps.one (show Kd.M (Kd.int .i64) _ _ _ (wrap64 (x5_1 - x1_1)) [.int .i64 (wrap64 (x5_1 - x1_1))] from rfl) (Reps.one (show Kd.M (Kd.int .i64) _ _ _ x1_1 [.int .i64 x1_1] from rfl) (Reps.none _ _))))); intro v264 w4 ho5 hb hg_ hnew_; clear hg_ hnew_; (first | rw [← Ny263.out] at ho5 | (simp only [Int.reduceToNat] at ho5; rw [← Ny263.out] at ho5)); have n0_ := Aside0.mk (Kd.R_lower ho5 (below_size BB)); have n1_ := Aside0.mk (below_step BB hb); clear HB; have HO265 := n0_; have HB := n1_; clear n0_ n1_; clear hb ho5))
    go_ret
    exact ⟨_, RE, KR HO265, BB⟩

/-! ### spec_ckCosts: function 28 -/
mutual
def spec_ckCosts.l0 : Nat → List Int → List (List Int) → List (List Int) → Int → Int → Option ((List (List Int)))
 | 0, _, _, _, _, _ => none
 | k + 1, x7, x8, x17, x18, x19 => if x19 < x18 then (if 0 ≤ x19 then (if x19 < (x17.length : Int) then (spec_ckCosts.l1 k x7 x8 ([] : List Int) x17 x18 x19 (rd_L2 x17 x19) ((rd_L2 x17 x19).length : Int) 0) else (none)) else (none)) else (some x8)
def spec_ckCosts.l1 : Nat → List Int → List (List Int) → List Int → List (List Int) → Int → Int → List Int → Int → Int → Option ((List (List Int)))
 | 0, _, _, _, _, _, _, _, _, _ => none
 | k + 1, x7, x8, x11, x17, x18, x19, x23, x24, x25 => if x25 < x24 then (if 0 ≤ x25 then (if x25 < (x23.length : Int) then (if x25 < (x7.length : Int) then (if x11.length < 17592186044416 then (spec_ckCosts.l1 k x7 x8 (x11 ++ [wrap64 ((rd x23 x25) - (rd x7 x25))]) x17 x18 x19 x23 x24 (wrap64 (x25 + 1))) else (none)) else (none)) else (none)) else (none)) else (if x8.length < 5864062014805 then (spec_ckCosts.l0 k x7 (x8 ++ [x11]) x17 x18 (wrap64 (x19 + 1))) else (none))
end
def spec_ckCosts.f (k : Nat) (a0 : Int) (l1 : List (List Int)) (a2 : Int) : Option ((List (List Int))) := (spec_meAt.f k a0 a2).bind fun t266 => (spec_ckCosts.l0 k t266 ([] : List (List Int)) l1 (l1.length : Int) 0)
theorem spec_ckCosts.mono_l : ∀ k, (∀ y0 y1 y2 y3 y4, LeO (spec_ckCosts.l0 k y0 y1 y2 y3 y4) (spec_ckCosts.l0 (k + 1) y0 y1 y2 y3 y4)) ∧ (∀ y0 y1 y2 y3 y4 y5 y6 y7 y8, LeO (spec_ckCosts.l1 k y0 y1 y2 y3 y4 y5 y6 y7 y8) (spec_ckCosts.l1 (k + 1) y0 y1 y2 y3 y4 y5 y6 y7 y8))
 | 0 => ⟨fun _ _ _ _ _ r h => by simp [spec_ckCosts.l0] at h, fun _ _ _ _ _ _ _ _ _ r h => by simp [spec_ckCosts.l1] at h⟩
 | k + 1 => by
  obtain ⟨ih0, ih1⟩ := spec_ckCosts.mono_l k
  refine ⟨?_, ?_⟩
  ·intro y0 y1 y2 y3 y4
   unfold spec_ckCosts.l0
   repeat' first
   | with_reducible first | exact ih0 _ _ _ _ _ | exact ih1 _ _ _ _ _ _ _ _ _ | exact spec_meAt.mono _ _ _ | exact LeO.refl _ | exact LeO.none _ | refine LeO.ite ?_ ?_ | refine LeO.bind ?_ (fun _ => ?_)
   | exact LeO.none _ | refine LeO.ite ?_ ?_ | refine LeO.bind ?_ (fun _ => ?_)
  ·intro y0 y1 y2 y3 y4 y5 y6 y7 y8
   unfold spec_ckCosts.l1
   repeat' first
   | with_reducible first | exact ih0 _ _ _ _ _ | exact ih1 _ _ _ _ _ _ _ _ _ | exact spec_meAt.mono _ _ _ | exact LeO.refl _ | exact LeO.none _ | refine LeO.ite ?_ ?_ | refine LeO.bind ?_ (fun _ => ?_)
   | exact LeO.none _ | refine LeO.ite ?_ ?_ | refine LeO.bind ?_ (fun _ => ?_)
theorem spec_ckCosts.mono : ∀ a0 a1 a2 k, LeO (spec_ckCosts.f k a0 a1 a2) (spec_ckCosts.f (k + 1) a0 a1 a2) := by
 intro a0 a1 a2 k
 obtain ⟨ih0, ih1⟩ := spec_ckCosts.mono_l k
 unfold spec_ckCosts.f
 repeat' first
   | with_reducible first | exact ih0 _ _ _ _ _ | exact ih1 _ _ _ _ _ _ _ _ _ | exact spec_meAt.mono _ _ _ | exact LeO.refl _ | exact LeO.none _ | refine LeO.ite ?_ ?_ | refine LeO.bind ?_ (fun _ => ?_)
   | exact LeO.none _ | refine LeO.ite ?_ ?_ | refine LeO.bind ?_ (fun _ => ?_)
theorem spec_ckCosts.calls (k : Nat) (a0 : Int) (A1 : Option Addr) (c1 : Nat) (l1 : List (List Int)) (a2 : Int) (r : List (List Int)) (w : World) (hr1 : Kd.C (Kd.slice 3 (Kd.int .i64)) w A1 l1.length l1) (hc1 : l1.length ≤ c1) (h : spec_ckCosts.f k a0 l1 a2 = some r) :
  Calls Try.prog 28 #[.int .i64 a0, .slice A1 l1.length c1, .int .i64 a2] w fun e w' => ∃ v0_ : Value, e = .returned (v0_) ∧ Kd.S (Kd.slice 3 (Kd.int .i64)) 27 w' w.heap.size (fun _ => True) v0_ r ∧ Below w.heap.size w w' := by
 have HR1 := Aside0.mk hr1
 have HC1 := Aside0.mk hc1
 clear hr1 hc1
 have HB := Aside0.mk (Below.refl w.heap.size w)
 have H : ((spec_meAt.f k a0 a2).bind fun t266 => (spec_ckCosts.l0 k t266 ([] : List (List Int)) l1 (l1.length : Int) 0)) = some r := h
 clear h
 replace H := EA H
 obtain ⟨t266, A4, H⟩ := H
 have H' := Aside0.mk H
 clear H
 go_enter Try.func28, Try.ntmps28
 go_wp2_with (first | ((with_reducible refine gate_callee (f := 48) rfl ?_); refine goesL_ (some 16) rfl rfl Try.func48 (by kernel_rfl) rfl #[.int .i64 a0, .int .i64 a2] rfl TA ?_; (with_reducible refine (spec_meAt.calls k a0 a2 t266 _ A4.out).mono ?_); rintro e w5 ⟨v267, rfl, ho0, hb⟩; refine ⟨_, rfl, ?_⟩; have n0_ := Aside0.mk (Kd.R_lower ho0 (below_size BB)); have n1_ := Aside0.mk (below_step BB hb); clear HB; have HO268 := n0_; have HB := n1_; clear n0_ n1_; (try clear hb); (try clear hb2); (try clear hk); (try clear hi); (try clear ho0)))
 go_loopg [8, 19] k (fun kq v8 v19 w' => ∃ (x8_1 : List (List Int)) (x19_1 : Int), v19 = .int .i64 x19_1 ∧ Aside0 (spec_ckCosts.l0 kq t266 x8_1 l1 (l1.length : Int) x19_1 = some r) ∧ Aside0 (kq ≤ k) ∧ Aside0 (Kd.R (Kd.int .i64) 3 w' w.heap.size (fun _ => True) v267 t266) ∧ Aside0 (Kd.S (Kd.slice 3 (Kd.int .i64)) 27 w' w.heap.size (fun k_ => some k_ ≠ (v267 : Value).ownBlock) v8 x8_1) ∧ Aside0 (Below w.heap.size w w'))
 case atStart => exact ⟨(([] : List (List Int))), (0), RF, H', ⟨Nat.le_refl _⟩, ⟨KR HO268⟩, ⟨by first | exact Kd.S_nil _ _ _ _ _ | exact Kd.N_nil _ _ _ _ _ | exact Kd.V_nil _ _ _ _ _ | exact Kd.Q_nil _ _ _ _ _ | exact Kd.R_nil _ _ _ _ _⟩, ⟨BB⟩⟩
 case round =>
  clear H'
  try clear c1
  try clear c2
  try clear p2
  try clear c4
  obtain ⟨x8_1, x19_1, rfl, HA, HK1, HO_7, HO_8, HB⟩ := hrel
  cases gk with
  | zero => exact absurd HA.out (by simp [spec_ckCosts.l0])
  | succ k1 =>
   have H := HA.out
   clear HA
   simp only [spec_ckCosts.l0] at H
   by_cases c6 : x19_1 < (l1.length : Int)
   ·rw [if_pos c6] at H
    have c6b0 : decide (x19_1 < (l1.length : Int)) = true := decide_eq_true c6
    clear c6
    by_cases c7 : 0 ≤ x19_1
    ·rw [if_pos c7] at H
     have c7b0 : decide (0 ≤ x19_1) = true := decide_eq_true c7
     clear c7
     by_cases c8 : x19_1 < (l1.length : Int)
     ·rw [if_pos c8] at H
      have c8b0 : decide (x19_1 < (l1.length : Int)) = true := decide_eq_true c8
      clear c8
      have H' := Aside0.mk H
      clear H
      have p269 : 0 ≤ (x19_1 : Int) := of_decide_eq_true AS
      have q269 : x19_1 < (l1.length : Int) := of_decide_eq_true AS
      obtain ⟨ad269, A269_0, c269_0, e269, hx269_0, hl269_0, hi269_0⟩ := at_L2 HR1.out x19_1 p269 q269
      cases e269
      try (replace hx269_0 := (HB.out.cell (World.block_lt_of_cell? w _ hx269_0)).trans hx269_0)
      have HR269_0 := Aside0.mk hi269_0
      have HC269_0 := Aside0.mk hl269_0
      clear hi269_0 hl269_0
      replace p269 := eq_true p269
      replace q269 := eq_true q269
      go_wp2
      go_loopg [11, 25] k1 (fun kq v11 v25 w' => ∃ (x11_2 : List Int) (x25_2 : Int), v25 = .int .i64 x25_2 ∧ Aside0 (spec_ckCosts.l1 kq t266 x8_1 x11_2 l1 (l1.length : Int) x19_1 (rd_L2 l1 x19_1) ((rd_L2 l1 x19_1).length : Int) x25_2 = some r) ∧ Aside0 (kq ≤ k1) ∧ Aside0 (Kd.R (Kd.int .i64) 3 w' w.heap.size (fun k_ => some k_ ≠ (v11 : Value).ownBlock) v267 t266) ∧ Aside0 (Kd.S (Kd.slice 3 (Kd.int .i64)) 27 w' w.heap.size (fun k_ => some k_ ≠ (v267 : Value).ownBlock ∧ some k_ ≠ (v11 : Value).ownBlock) u8 x8_1) ∧ Aside0 (Kd.R (Kd.int .i64) 3 w' w.heap.size (fun k_ => some k_ ≠ (v267 : Value).ownBlock) v11 x11_2) ∧ Aside0 (Below w.heap.size w w'))
      case atStart => exact ⟨(([] : List Int)), (0), RF, H', ⟨Nat.le_refl _⟩, ⟨by (with_reducible repeat (first | apply Kd.R_alloc | apply Kd.R_drewN | apply Kd.R_drew)); exact Kd.R_mono HO_7.out (fun _ hk => (by simp [Value.ownBlock]))⟩, ⟨by (with_reducible repeat (first | apply Kd.S_alloc | apply Kd.S_drewN | apply Kd.S_drew)); exact Kd.S_mono HO_8.out (fun _ hk => ⟨hk, (by simp [Value.ownBlock])⟩)⟩, ⟨by first | exact Kd.R_nil _ _ _ _ _ | exact Kd.N_nil _ _ _ _ _ | exact Kd.V_nil _ _ _ _ _ | exact Kd.Q_nil _ _ _ _ _ | exact Kd.S_nil _ _ _ _ _⟩, ⟨BB⟩⟩
      case round =>
       clear H'
       try clear c1
       try clear c2
       try clear p2
       try clear q2
       try clear hx2
       try clear c4
       try clear c6
       try clear c6b0
       try clear p6
       try clear c7
       try clear c7b0
       try clear c8
       try clear c8b0
       try clear hx269_0
       try clear p2
       try clear p269
       try clear q269
       obtain ⟨x11_2, x25_2, rfl, HA, HK2, HO_7, HO_8, HO_11, HB⟩ := hrel
       cases gk with
       | zero => exact absurd HA.out (by simp [spec_ckCosts.l1])
       | succ k2 =>
        have H := HA.out
        clear HA
        simp only [spec_ckCosts.l1] at H
        by_cases c9 : x25_2 < ((rd_L2 l1 x19_1).length : Int)
        ·rw [if_pos c9] at H
         have c9b0 : decide (x25_2 < ((rd_L2 l1 x19_1).length : Int)) = true := decide_eq_true c9
         clear c9
         by_cases c10 : 0 ≤ x25_2
         ·rw [if_pos c10] at H
          have c10b0 : decide (0 ≤ x25_2) = true := decide_eq_true c10
          clear c10
          by_cases c11 : x25_2 < ((rd_L2 l1 x19_1).length : Int)
          ·rw [if_pos c11] at H
           have c11b0 : decide (x25_2 < ((rd_L2 l1 x19_1).length : Int)) = true := decide_eq_true c11
           clear c11
           by_cases c12 : x25_2 < (t266.length : Int)
           ·rw [if_pos c12] at H
            have c12b0 : decide (x25_2 < (t266.length : Int)) = true := decide_eq_true c12
            clear c12
            by_cases c13 : x11_2.length < 17592186044416
            ·rw [if_pos c13] at H
             have LMc13 := Aside0.mk c13
             clear c13
             obtain ⟨y272, hy272⟩ : ∃ y_ : List Int, y_ = (x11_2 ++ [wrap64 ((rd (rd_L2 l1 x19_1) x25_2) - (rd t266 x25_2))]) := ⟨_, rfl⟩
             replace H : (spec_ckCosts.l1 k2 t266 x8_1 y272 l1 (l1.length : Int) x19_1 (rd_L2 l1 x19_1) ((rd_L2 l1 x19_1).length : Int) (wrap64 (x25_2 + 1))) = some r := HY H hy272
             have Ny272 := Aside0.mk hy272
             clear hy272
             have H' := Aside0.mk H
             clear H
             have p270 : 0 ≤ (x25_2 : Int) := of_decide_eq_true AS
             have q270 : x25_2 < ((rd_L2 l1 x19_1).length : Int) := of_decide_eq_true AS
             obtain ⟨ad270, e270, hx270_0⟩ := Kd.at_int HR269_0.out x25_2 p270 q270
             cases e270
             try (replace hx270_0 := (HB.out.cell (World.block_lt_of_cell? w _ hx270_0)).trans hx270_0)
             replace p270 := eq_true p270
             replace q270 := eq_true q270
             obtain ⟨Ao14, co14, eo14⟩ := Kd.R_slice HO_7.out
             subst eo14
             have p271 : 0 ≤ (x25_2 : Int) := of_decide_eq_true AS
             have q271 : x25_2 < (t266.length : Int) := of_decide_eq_true AS
             obtain ⟨ad271, e271, hx271_0⟩ := Kd.at_int (Kd.R_reads' HO_7.out).2.2 x25_2 p271 q271
             cases e271
             replace p271 := eq_true p271
             replace q271 := eq_true q271
             go_wp2_with (first | ((with_reducible refine gate_builtin (b := .append) (xs := #[.tmp 30, .tmp 37]) rfl ?_); at_builtin; refine Kd.R_append (Kd.int .i64) (w0 := w) w.heap.size rfl (.tmp 30) (.tmp 37) 27 3 (.int .i64 0) 8 rfl Try.underlying27 info3 rfl (by decide) (by omega) u11 x11_2 (wrap64 ((rd (rd_L2 l1 x19_1) x25_2) - (rd t266 x25_2))) [.int .i64 (wrap64 ((rd (rd_L2 l1 x19_1) x25_2) - (rd t266 x25_2)))] (fun k_ => some k_ ≠ (.slice (some ad271) t266.length co14 : Value).ownBlock) (fun _ => False) rfl rfl ?aP (fun _ hk => hk.elim) ?aF ?aO ?aB ?aS ?aL ?_; (case aP => exact rfl); (case aB => exact BB); (case aF => exact (fun k_ hk => Kd.fresh' (Kd.R_lt (KR HO_7)) k_ hk)); (case aO => exact (KR HO_11)); (case aS => exact (below_size BB)); (case aL => have := LMc13.out; omega); intro v273 w15 ho hb hg hat; rw [← Ny272.out] at ho; have n0_ := Aside0.mk (Kd.R_after (ok := (fun _ => True)) (by (with_reducible repeat (first | apply Kd.R_alloc | apply Kd.R_drewN | apply Kd.R_drew)); exact Kd.R_mono HO_7.out (fun _ hk => ⟨trivial, hk⟩)) hg hat); have n1_ := Aside0.mk (Kd.S_after (ok := (fun k_ => some k_ ≠ (.slice (some ad271) t266.length co14 : Value).ownBlock)) (KS HO_8) hg hat); have n2_ := Aside0.mk (hb); have n3_ := Aside0.mk (ho); clear HO_7; clear HO_8; clear HB; clear HO_11; have HO_7 := n0_; have HO_8 := n1_; have HB := n2_; have HO274 := n3_; clear n0_ n1_ n2_ n3_; clear ho hb hg hat))
             go_roundg k2
             case measure => have := HK1.out; have := HK2.out; omega
             case rel => exact ⟨(y272), (wrap64 (x25_2 + 1)), RF, H', ⟨by have := HK1.out; have := HK2.out; omega⟩, ⟨by (with_reducible repeat (first | apply Kd.R_alloc | apply Kd.R_drewN | apply Kd.R_drew)); exact Kd.R_mono HO_7.out (fun _ hk => hk.2)⟩, ⟨KS HO_8⟩, ⟨KR HO274⟩, ⟨BB⟩⟩
            ·rw [if_neg c13] at H
             cases H
           ·rw [if_neg c12] at H
            cases H
          ·rw [if_neg c11] at H
           cases H
         ·rw [if_neg c10] at H
          cases H
        ·rw [if_neg c9] at H
         have c9b0 : decide (x25_2 < ((rd_L2 l1 x19_1).length : Int)) = false := decide_eq_false c9
         clear c9
         by_cases c16 : x8_1.length < 5864062014805
         ·rw [if_pos c16] at H
          have LMc16 := Aside0.mk c16
          clear c16
          obtain ⟨y275, hy275⟩ : ∃ y_ : List (List Int), y_ = (x8_1 ++ [x11_2]) := ⟨_, rfl⟩
          replace H : (spec_ckCosts.l0 k2 t266 y275 l1 (l1.length : Int) (wrap64 (x19_1 + 1))) = some r := HY H hy275
          have Ny275 := Aside0.mk hy275
          clear hy275
          have H' := Aside0.mk H
          clear H
          obtain ⟨Ao18, co18, eo18⟩ := Kd.R_slice HO_11.out
          subst eo18
          go_wp2_with (first | ((with_reducible refine gate_builtin (b := .append) (xs := #[.tmp 40, .tmp 42]) rfl ?_); at_builtin; refine Kd.S_append (Kd.slice 3 (Kd.int .i64)) (w0 := w) w.heap.size rfl (.tmp 40) (.tmp 42) 24 27 (.slice none 0 0) 24 rfl Try.underlying24 info27 rfl (by decide) (by omega) u8 x8_1 x11_2 [.slice Ao18 x11_2.length co18] (fun k_ => some k_ ≠ (v267 : Value).ownBlock) (fun k_ => some k_ = (.slice Ao18 x11_2.length co18 : Value).ownBlock) rfl rfl ?aP (fun k_ hk_ => ((Kd.R_mono (ok' := fun k_ => ((fun k_ => some k_ ≠ (v267 : Value).ownBlock)) k_ ∧ some k_ ≠ (u8 : Value).ownBlock) (Kd.R_apart' (HO_11.out) (Kd.S_typed HO_8.out) (by decide)) (fun k_ hk => ⟨hk.1, hk.2⟩))).1 k_ hk_.symm) ?aF ?aO ?aB ?aS ?aL ?_; (case aP => exact Kd.M_row (Kd.R_mono (Kd.R_tight rfl (Kd.R_mono (ok' := fun k_ => ((fun k_ => some k_ ≠ (v267 : Value).ownBlock)) k_ ∧ some k_ ≠ (u8 : Value).ownBlock) (Kd.R_apart' (HO_11.out) (Kd.S_typed HO_8.out) (by decide)) (fun k_ hk => ⟨hk.1, hk.2⟩))) (fun _ h_ => h_))); (case aB => exact BB); (case aF => exact (fun k_ hk => Kd.fresh' (Kd.R_lt (KR HO_7)) k_ hk)); (case aO => exact (by (with_reducible repeat (first | apply Kd.S_alloc | apply Kd.S_drewN | apply Kd.S_drew)); exact Kd.S_mono HO_8.out (fun k_ hk => ⟨hk.1, fun e_ => hk.2 e_⟩))); (case aS => exact (below_size BB)); (case aL => have := LMc16.out; omega); intro v276 w17 ho hb hg hat; rw [← Ny275.out] at ho; have n0_ := Aside0.mk (Kd.R_over' (KR HO_7) (Kd.S_typed (KS HO_8)) (by decide) hg); have n1_ := Aside0.mk (hb); have n2_ := Aside0.mk (ho); clear HO_7; clear HB; clear HO_8; clear HO_11; have HO_7 := n0_; have HB := n1_; have HO277 := n2_; clear n0_ n1_ n2_; clear ho hb hg hat))
          go_roundg k2
          case measure => have := HK1.out; have := HK2.out; omega
          case rel => exact ⟨(y275), (wrap64 (x19_1 + 1)), RF, H', ⟨by have := HK1.out; have := HK2.out; omega⟩, ⟨by (with_reducible repeat (first | apply Kd.R_alloc | apply Kd.R_drewN | apply Kd.R_drew)); exact Kd.R_mono HO_7.out (fun _ hk => trivial)⟩, ⟨KS HO277⟩, ⟨BB⟩⟩
         ·rw [if_neg c16] at H
          cases H
     ·rw [if_neg c8] at H
      cases H
    ·rw [if_neg c7] at H
     cases H
   ·rw [if_neg c6] at H
    have c6b0 : decide (x19_1 < (l1.length : Int)) = false := decide_eq_false c6
    clear c6
    obtain rfl := Option.some.inj H
    go_wp2
    go_ret
    exact ⟨_, RE, by (with_reducible repeat (first | apply Kd.S_alloc | apply Kd.S_drewN | apply Kd.S_drew)); exact Kd.S_mono HO_8.out (fun _ hk => trivial), BB⟩

end Go.Proofs.Ythkdkgbcokpbaaa.PFnRentsAreFair
