-- Written by a program of this session (wip/tools/pp.sh) out of the translation; Lean checks it.
import Derived.Test.YthkdkgbcokpbaaaPFnRentsAreFairx0
import Derived.Test.YthkdkgbcokpbaaaPFnRentsAreFairx1
import Derived.Test.YthkdkgbcokpbaaaPFnRentsAreFairx2
import Derived.Test.YthkdkgbcokpbaaaPFnRentsAreFairx4
namespace Go.Proofs.Ythkdkgbcokpbaaa.PFnRentsAreFair
open Go.RowKit Go.Proofs.YthkdkgbcokpbaaaOwn Go.Proofs.YthkdkgbcokpbaaaW.PrintWords Go.Proofs.YthkdkgbcokpbaaaW.PrintLast Go.Proofs.YthkdkgbcokpbaaaW.PrintMore
attribute [local go_sem] max2_int min2_int max_two min_two max_three min_three max_four min_four   -- for this text's walks alone
set_option linter.unusedVariables false
set_option maxHeartbeats 8000000
set_option maxRecDepth 100000
set_option linter.unusedSimpArgs false

/-! ### spec_ckSum: function 30 -/
def spec_ckSum.l0 : Nat → List Int → Int → List (List Int) → Int → Int → Option (Int)
 | 0, _, _, _, _, _ => none
 | k + 1, x1, x5, x8, x9, x10 => if x10 < x9 then (if 0 ≤ x10 then (if x10 < (x8.length : Int) then (if x10 < (x1.length : Int) then (if 0 ≤ (rd x1 x10) then (if (rd x1 x10) < ((rd_L2 x8 x10).length : Int) then (spec_ckSum.l0 k x1 (wrap64 (x5 + (rd (rd_L2 x8 x10) (rd x1 x10)))) x8 x9 (wrap64 (x10 + 1))) else (none)) else (none)) else (none)) else (none)) else (none)) else (some x5)
def spec_ckSum.f (k : Nat) (l0 : List (List Int)) (l1 : List Int) : Option (Int) := spec_ckSum.l0 k l1 0 l0 (l0.length : Int) 0
theorem spec_ckSum.mono_l : ∀ k, (∀ y0 y1 y2 y3 y4, LeO (spec_ckSum.l0 k y0 y1 y2 y3 y4) (spec_ckSum.l0 (k + 1) y0 y1 y2 y3 y4))
 | 0 => fun _ _ _ _ _ r h => by simp [spec_ckSum.l0] at h
 | k + 1 => by
  have ih0 := spec_ckSum.mono_l k
  ·intro y0 y1 y2 y3 y4
   unfold spec_ckSum.l0
   repeat' first
   | with_reducible first | exact ih0 _ _ _ _ _ | exact LeO.refl _ | exact LeO.none _ | refine LeO.ite ?_ ?_ | refine LeO.bind ?_ (fun _ => ?_)
   | exact LeO.none _ | refine LeO.ite ?_ ?_ | refine LeO.bind ?_ (fun _ => ?_)
theorem spec_ckSum.mono : ∀ a0 a1 k, LeO (spec_ckSum.f k a0 a1) (spec_ckSum.f (k + 1) a0 a1) := by
 intro a0 a1 k
 have ih0 := spec_ckSum.mono_l k
 unfold spec_ckSum.f
 repeat' first
   | with_reducible first | exact ih0 _ _ _ _ _ | exact LeO.refl _ | exact LeO.none _ | refine LeO.ite ?_ ?_ | refine LeO.bind ?_ (fun _ => ?_)
   | exact LeO.none _ | refine LeO.ite ?_ ?_ | refine LeO.bind ?_ (fun _ => ?_)
theorem spec_ckSum.calls (k : Nat) (A0 : Option Addr) (c0 : Nat) (l0 : List (List Int)) (A1 : Option Addr) (c1 : Nat) (l1 : List Int) (r : Int) (w : World) (hr0 : Kd.C (Kd.slice 3 (Kd.int .i64)) w A0 l0.length l0) (hc0 : l0.length ≤ c0) (hr1 : Kd.C (Kd.int .i64) w A1 l1.length l1) (hc1 : l1.length ≤ c1) (h : spec_ckSum.f k l0 l1 = some r) :
  Calls Try.prog 30 #[.slice A0 l0.length c0, .slice A1 l1.length c1] w fun e w' => e = .returned (.int .i64 r) ∧ Drawn0 w w' := by
 have HR0 := Aside0.mk hr0
 have HC0 := Aside0.mk hc0
 clear hr0 hc0
 have HR1 := Aside0.mk hr1
 have HC1 := Aside0.mk hc1
 clear hr1 hc1
 have H : (spec_ckSum.l0 k l1 0 l0 (l0.length : Int) 0) = some r := h
 clear h
 have H' := Aside0.mk H
 clear H
 go_enter Try.func30, Try.ntmps30
 go_wp2
 go_loopg [5, 10] k (fun kq v5 v10 w' => ∃ (x5_1 : Int) (x10_1 : Int), v5 = .int .i64 x5_1 ∧ v10 = .int .i64 x10_1 ∧ Aside0 (spec_ckSum.l0 kq l1 x5_1 l0 (l0.length : Int) x10_1 = some r) ∧ Aside0 (kq ≤ k) ∧ Drawn0 w w')
 case atStart => exact ⟨(0), (0), RF, RF, H', ⟨Nat.le_refl _⟩, by repeat (first | exact Drawn0.refl _ | apply Drawn0.step)⟩
 case round =>
  clear H'
  try clear c1
  try clear p2
  obtain ⟨x5_1, x10_1, rfl, rfl, HA, HK1, ⟨m1, rfl⟩⟩ := hrel
  cases gk with
  | zero => exact absurd HA.out (by simp [spec_ckSum.l0])
  | succ k1 =>
   have H := HA.out
   clear HA
   simp only [spec_ckSum.l0] at H
   by_cases c3 : x10_1 < (l0.length : Int)
   ·rw [if_pos c3] at H
    have c3b0 : decide (x10_1 < (l0.length : Int)) = true := decide_eq_true c3
    clear c3
    by_cases c4 : 0 ≤ x10_1
    ·rw [if_pos c4] at H
     have c4b0 : decide (0 ≤ x10_1) = true := decide_eq_true c4
     clear c4
     by_cases c5 : x10_1 < (l0.length : Int)
     ·rw [if_pos c5] at H
      have c5b0 : decide (x10_1 < (l0.length : Int)) = true := decide_eq_true c5
      clear c5
      by_cases c6 : x10_1 < (l1.length : Int)
      ·rw [if_pos c6] at H
       have c6b0 : decide (x10_1 < (l1.length : Int)) = true := decide_eq_true c6
       clear c6
       by_cases c7 : 0 ≤ (rd l1 x10_1)
       ·rw [if_pos c7] at H
        have c7b0 : decide (0 ≤ (rd l1 x10_1)) = true := decide_eq_true c7
        clear c7
        by_cases c8 : (rd l1 x10_1) < ((rd_L2 l0 x10_1).length : Int)
        ·rw [if_pos c8] at H
         have c8b0 : decide ((rd l1 x10_1) < ((rd_L2 l0 x10_1).length : Int)) = true := decide_eq_true c8
         clear c8
         have H' := Aside0.mk H
         clear H
         have p303 : 0 ≤ (x10_1 : Int) := of_decide_eq_true AS
         have q303 : x10_1 < (l0.length : Int) := of_decide_eq_true AS
         obtain ⟨ad303, A303_0, c303_0, e303, hx303_0, hl303_0, hi303_0⟩ := at_L2 HR0.out x10_1 p303 q303
         cases e303
         have HR303_0 := Aside0.mk hi303_0
         have HC303_0 := Aside0.mk hl303_0
         clear hi303_0 hl303_0
         replace p303 := eq_true p303
         replace q303 := eq_true q303
         have p304 : 0 ≤ (x10_1 : Int) := of_decide_eq_true AS
         have q304 : x10_1 < (l1.length : Int) := of_decide_eq_true AS
         obtain ⟨ad304, e304, hx304_0⟩ := Kd.at_int HR1.out x10_1 p304 q304
         cases e304
         replace p304 := eq_true p304
         replace q304 := eq_true q304
         have p305 : 0 ≤ ((rd l1 x10_1) : Int) := of_decide_eq_true AS
         have q305 : (rd l1 x10_1) < ((rd_L2 l0 x10_1).length : Int) := of_decide_eq_true AS
         obtain ⟨ad305, e305, hx305_0⟩ := Kd.at_int HR303_0.out (rd l1 x10_1) p305 q305
         cases e305
         replace p305 := eq_true p305
         replace q305 := eq_true q305
         go_wp2
         go_roundg k1
         case measure => have := HK1.out; omega
         case rel => exact ⟨(wrap64 (x5_1 + (rd (rd_L2 l0 x10_1) (rd l1 x10_1)))), (wrap64 (x10_1 + 1)), RF, RF, H', ⟨by have := HK1.out; omega⟩, by repeat (first | exact Drawn0.refl _ | apply Drawn0.step)⟩
        ·rw [if_neg c8] at H
         cases H
       ·rw [if_neg c7] at H
        cases H
      ·rw [if_neg c6] at H
       cases H
     ·rw [if_neg c5] at H
      cases H
    ·rw [if_neg c4] at H
     cases H
   ·rw [if_neg c3] at H
    have c3b0 : decide (x10_1 < (l0.length : Int)) = false := decide_eq_false c3
    clear c3
    obtain rfl := Option.some.inj H
    go_wp2
    go_ret
    exact ⟨RF, DR⟩

/-! ### spec_BestRooms: function 9 -/
def spec_BestRooms.l0 : Nat → List (List Int) → List Int → Int → List (List Int) → Int → Int → Option (List Int × Bool)
 | 0, _, _, _, _, _, _ => none
 | k + 1, x0, x4, x5, x12, x13, x14 => if x14 < x13 then (if 0 ≤ x14 then (if x14 < (x12.length : Int) then ((spec_ckSum.f k x0 (rd_L2 x12 x14)).bind fun t311 => (if t311 > x5 then (spec_BestRooms.l0 k x0 (rd_L2 x12 x14) t311 x12 x13 (wrap64 (x14 + 1))) else (spec_BestRooms.l0 k x0 x4 x5 x12 x13 (wrap64 (x14 + 1))))) else (none)) else (none)) else (some (x4, true))
def spec_BestRooms.f (k : Nat) (l0 : List (List Int)) : Option (List Int × Bool) := (spec_ckRooms.f k l0).bind fun t306 => (if t306 = true then ((spec_ckAll.f).bind fun t307 => (spec_BestRooms.l0 k l0 ([] : List Int) (-1) t307 (t307.length : Int) 0)) else (some (([] : List Int), false)))
theorem spec_BestRooms.mono_l : ∀ k, (∀ y0 y1 y2 y3 y4 y5, LeO (spec_BestRooms.l0 k y0 y1 y2 y3 y4 y5) (spec_BestRooms.l0 (k + 1) y0 y1 y2 y3 y4 y5))
 | 0 => fun _ _ _ _ _ _ r h => by simp [spec_BestRooms.l0] at h
 | k + 1 => by
  have ih0 := spec_BestRooms.mono_l k
  ·intro y0 y1 y2 y3 y4 y5
   unfold spec_BestRooms.l0
   repeat' first
   | with_reducible first | exact ih0 _ _ _ _ _ _ | exact spec_ckRooms.mono _ _ | exact spec_ckSum.mono _ _ _ | exact LeO.refl _ | exact LeO.none _ | refine LeO.ite ?_ ?_ | refine LeO.bind ?_ (fun _ => ?_)
   | exact LeO.none _ | refine LeO.ite ?_ ?_ | refine LeO.bind ?_ (fun _ => ?_)
theorem spec_BestRooms.mono : ∀ a0 k, LeO (spec_BestRooms.f k a0) (spec_BestRooms.f (k + 1) a0) := by
 intro a0 k
 have ih0 := spec_BestRooms.mono_l k
 unfold spec_BestRooms.f
 repeat' first
   | with_reducible first | exact ih0 _ _ _ _ _ _ | exact spec_ckRooms.mono _ _ | exact spec_ckSum.mono _ _ _ | exact LeO.refl _ | exact LeO.none _ | refine LeO.ite ?_ ?_ | refine LeO.bind ?_ (fun _ => ?_)
   | exact LeO.none _ | refine LeO.ite ?_ ?_ | refine LeO.bind ?_ (fun _ => ?_)
theorem spec_BestRooms.calls (k : Nat) (A0 : Option Addr) (c0 : Nat) (l0 : List (List Int)) (r1 : List Int) (r2 : Bool) (w : World) (hr0 : Kd.C (Kd.slice 3 (Kd.int .i64)) w A0 l0.length l0) (hc0 : l0.length ≤ c0) (h : spec_BestRooms.f k l0 = some (r1, r2)) :
  Calls Try.prog 9 #[.slice A0 l0.length c0] w fun e w' => ∃ v0_ : Value, e = .returned (.tuple #[v0_, .bool r2]) ∧ Kd.V (Kd.int .i64) 3 w' w.heap.size (fun k_ => (w.heap.size ≤ k_)) v0_ r1 ∧ Below w.heap.size w w' := by
 have HR0 := Aside0.mk hr0
 have HC0 := Aside0.mk hc0
 clear hr0 hc0
 have HB := Aside0.mk (Below.refl w.heap.size w)
 have H : ((spec_ckRooms.f k l0).bind fun t306 => (if t306 = true then ((spec_ckAll.f).bind fun t307 => (spec_BestRooms.l0 k l0 ([] : List Int) (-1) t307 (t307.length : Int) 0)) else (some (([] : List Int), false)))) = some (r1, r2) := h
 clear h
 replace H := EA H
 obtain ⟨t306, A2, H⟩ := H
 by_cases c3 : t306 = true
 ·subst c3
  replace H := IP H
  replace H := EA H
  obtain ⟨t307, A4, H⟩ := H
  have H' := Aside0.mk H
  clear H
  go_enter Try.func9, Try.ntmps9
  go_wp2_with (first | ((with_reducible refine gate_callee (f := 24) rfl ?_); refine goesL_ (some 10) rfl rfl Try.func24 (by kernel_rfl) rfl #[.slice A0 l0.length c0] rfl TA ?_; (with_reducible refine (spec_ckRooms.calls k _ _ l0 true _ ?side1 ?side2 A2.out).mono ?_); (case side1 => exact CW HR0.out); (case side2 => exact HC0.out); rintro e w' ⟨rfl, ⟨nd, rfl⟩⟩; refine ⟨_, rfl, ?_⟩) | ((with_reducible refine gate_callee (f := 26) rfl ?_); refine goesL_ (some 12) rfl rfl Try.func26 (by kernel_rfl) rfl #[] rfl TA ?_; (with_reducible refine (spec_ckAll.calls  t307 _ A4.out).mono ?_); rintro e w5 ⟨v308, rfl, ho0, hb⟩; refine ⟨_, rfl, ?_⟩; have n0_ := Aside0.mk (Kd.N_lower (Kd.N_mono (ok' := fun k_ => (w.heap.size ≤ k_)) ho0 (fun k_ hk_ => (Nat.le_trans (below_size BB) hk_))) (below_size BB)); have n1_ := Aside0.mk (below_step BB hb); clear HB; have HO309 := n0_; have HB := n1_; clear n0_ n1_; (try clear hb); (try clear hb2); (try clear hk); (try clear hi); (try clear ho0); obtain ⟨Ao6, co6, eo6⟩ := Kd.N_slice HO309.out; subst eo6))
  go_loopg [4, 5, 14] k (fun kq v4 v5 v14 w' => ∃ (x4_1 : List Int) (x5_1 : Int) (x14_1 : Int), v5 = .int .i64 x5_1 ∧ v14 = .int .i64 x14_1 ∧ Aside0 (spec_BestRooms.l0 kq l0 x4_1 x5_1 t307 (t307.length : Int) x14_1 = some (r1, r2)) ∧ Aside0 (kq ≤ k) ∧ Aside0 (Kd.V (Kd.int .i64) 3 w' w.heap.size (fun k_ => (w.heap.size ≤ k_) ∧ some k_ ≠ ((.slice Ao6 t307.length co6) : Value).ownBlock) v4 x4_1) ∧ Aside0 (Kd.N (Kd.slice 3 (Kd.int .i64)) 27 w' w.heap.size (fun k_ => (w.heap.size ≤ k_)) (.slice Ao6 t307.length co6) t307) ∧ Aside0 (Below w.heap.size w w'))
  case atStart => exact ⟨(([] : List Int)), ((-1)), (0), RF, RF, H', ⟨Nat.le_refl _⟩, ⟨Kd.V_nil _ _ _ _ _⟩, ⟨KN HO309⟩, ⟨BB⟩⟩
  case round =>
   clear H'
   try clear c2
   try clear p2
   try clear c3
   try clear p6
   obtain ⟨x4_1, x5_1, x14_1, rfl, rfl, HA, HK1, HO_4, HO_12, HB⟩ := hrel
   cases gk with
   | zero => exact absurd HA.out (by simp [spec_BestRooms.l0])
   | succ k1 =>
    have H := HA.out
    clear HA
    simp only [spec_BestRooms.l0] at H
    by_cases c7 : x14_1 < (t307.length : Int)
    ·rw [if_pos c7] at H
     have c7b0 : decide (x14_1 < (t307.length : Int)) = true := decide_eq_true c7
     clear c7
     by_cases c8 : 0 ≤ x14_1
     ·rw [if_pos c8] at H
      have c8b0 : decide (0 ≤ x14_1) = true := decide_eq_true c8
      clear c8
      by_cases c9 : x14_1 < (t307.length : Int)
      ·rw [if_pos c9] at H
       have c9b0 : decide (x14_1 < (t307.length : Int)) = true := decide_eq_true c9
       clear c9
       replace H := EA H
       obtain ⟨t311, A10, H⟩ := H
       by_cases c11 : t311 > x5_1
       ·rw [if_pos c11] at H
        have c11b0 : decide (x5_1 < t311) = true := decide_eq_true c11
        clear c11
        have H' := Aside0.mk H
        clear H
        have p310 : 0 ≤ (x14_1 : Int) := of_decide_eq_true AS
        have q310 : x14_1 < (t307.length : Int) := of_decide_eq_true AS
        obtain ⟨ad310, A310_0, c310_0, e310, hx310_0, hl310_0, hi310_0⟩ := at_L2 (Kd.N_reads' HO_12.out).2.2 x14_1 p310 q310
        cases e310
        obtain ⟨ce310, hce310, hMe310, hcc310⟩ := Kd.N_get HO_12.out [] x14_1 p310 (by first | exact q310 | exact of_decide_eq_true AS | (have e_ := (Kd.N_reads' HO_12.out).1; omega))
        obtain ⟨ua310_0, uc310_0, rfl, ul310_0, ge310_0⟩ := Kd.FK_slice_open hMe310
        have hv310_0 := hcc310 0 _ rfl
        rw [Nat.add_zero, show ((Kd.slice 3 (Kd.int .i64))).sz = 1 from rfl, Nat.mul_one] at hv310_0
        replace hv310_0 := Option.some.inj (hv310_0.symm.trans hx310_0)
        injection hv310_0 with hva_ hvn_ hvc_
        rw [hva_] at ge310_0
        rw [hvc_] at ul310_0
        have HL310_0 := Aside0.mk (show Kd.V (Kd.int .i64) 3 _ w.heap.size _ _ (rd_L2 t307 x14_1) from Kd.V_mk ul310_0 ge310_0)
        clear hva_ hvn_ hvc_ ge310_0 ul310_0
        clear hcc310 hce310
        have HR310_0 := Aside0.mk hi310_0
        have HC310_0 := Aside0.mk hl310_0
        clear hi310_0 hl310_0
        replace p310 := eq_true p310
        replace q310 := eq_true q310
        go_wp2_with (first | ((with_reducible refine gate_callee (f := 30) rfl ?_); refine goesL_ (some 20) rfl rfl Try.func30 (by kernel_rfl) rfl #[.slice A0 l0.length c0, .slice A310_0 (rd_L2 t307 x14_1).length c310_0] rfl TA ?_; (with_reducible refine (spec_ckSum.calls k1 _ _ l0 _ _ (rd_L2 t307 x14_1) t311 _ ?side1 ?side2 ?side3 ?side4 A10.out).mono ?_); (case side1 => exact CW (Kd.C_below HR0.out HB.out)); (case side2 => exact HC0.out); (case side3 => exact CW (by repeat (first | (with_reducible exact HR310_0.out) | (with_reducible refine Kd.C_drewN ?_ _) | (with_reducible refine Kd.C_drew ?_) | (with_reducible refine Kd.C_alloc ?_ _) | exact HR310_0.out))); (case side4 => exact HC310_0.out); rintro e w' ⟨rfl, ⟨nd, rfl⟩⟩; refine ⟨_, rfl, ?_⟩))
        go_roundg k1
        case measure => have := HK1.out; omega
        case rel => exact ⟨(rd_L2 t307 x14_1), (t311), (wrap64 (x14_1 + 1)), RF, RF, H', ⟨by have := HK1.out; omega⟩, ⟨by (with_reducible repeat (first | apply Kd.V_alloc | apply Kd.V_drewN | apply Kd.V_drew)); exact HL310_0.out⟩, ⟨KN HO_12⟩, ⟨BB⟩⟩
       ·rw [if_neg c11] at H
        have c11b0 : decide (x5_1 < t311) = false := decide_eq_false c11
        clear c11
        have H' := Aside0.mk H
        clear H
        have p310 : 0 ≤ (x14_1 : Int) := of_decide_eq_true AS
        have q310 : x14_1 < (t307.length : Int) := of_decide_eq_true AS
        obtain ⟨ad310, A310_0, c310_0, e310, hx310_0, hl310_0, hi310_0⟩ := at_L2 (Kd.N_reads' HO_12.out).2.2 x14_1 p310 q310
        cases e310
        obtain ⟨ce310, hce310, hMe310, hcc310⟩ := Kd.N_get HO_12.out [] x14_1 p310 (by first | exact q310 | exact of_decide_eq_true AS | (have e_ := (Kd.N_reads' HO_12.out).1; omega))
        obtain ⟨ua310_0, uc310_0, rfl, ul310_0, ge310_0⟩ := Kd.FK_slice_open hMe310
        have hv310_0 := hcc310 0 _ rfl
        rw [Nat.add_zero, show ((Kd.slice 3 (Kd.int .i64))).sz = 1 from rfl, Nat.mul_one] at hv310_0
        replace hv310_0 := Option.some.inj (hv310_0.symm.trans hx310_0)
        injection hv310_0 with hva_ hvn_ hvc_
        rw [hva_] at ge310_0
        rw [hvc_] at ul310_0
        have HL310_0 := Aside0.mk (show Kd.V (Kd.int .i64) 3 _ w.heap.size _ _ (rd_L2 t307 x14_1) from Kd.V_mk ul310_0 ge310_0)
        clear hva_ hvn_ hvc_ ge310_0 ul310_0
        clear hcc310 hce310
        have HR310_0 := Aside0.mk hi310_0
        have HC310_0 := Aside0.mk hl310_0
        clear hi310_0 hl310_0
        replace p310 := eq_true p310
        replace q310 := eq_true q310
        go_wp2_with (first | ((with_reducible refine gate_callee (f := 30) rfl ?_); refine goesL_ (some 20) rfl rfl Try.func30 (by kernel_rfl) rfl #[.slice A0 l0.length c0, .slice A310_0 (rd_L2 t307 x14_1).length c310_0] rfl TA ?_; (with_reducible refine (spec_ckSum.calls k1 _ _ l0 _ _ (rd_L2 t307 x14_1) t311 _ ?side1 ?side2 ?side3 ?side4 A10.out).mono ?_); (case side1 => exact CW (Kd.C_below HR0.out HB.out)); (case side2 => exact HC0.out); (case side3 => exact CW (by repeat (first | (with_reducible exact HR310_0.out) | (with_reducible refine Kd.C_drewN ?_ _) | (with_reducible refine Kd.C_drew ?_) | (with_reducible refine Kd.C_alloc ?_ _) | exact HR310_0.out))); (case side4 => exact HC310_0.out); rintro e w' ⟨rfl, ⟨nd, rfl⟩⟩; refine ⟨_, rfl, ?_⟩))
        go_roundg k1
        case measure => have := HK1.out; omega
        case rel => exact ⟨(x4_1), (x5_1), (wrap64 (x14_1 + 1)), RF, RF, H', ⟨by have := HK1.out; omega⟩, ⟨by (with_reducible repeat (first | apply Kd.V_alloc | apply Kd.V_drewN | apply Kd.V_drew)); exact HO_4.out⟩, ⟨KN HO_12⟩, ⟨BB⟩⟩
      ·rw [if_neg c9] at H
       cases H
     ·rw [if_neg c8] at H
      cases H
    ·rw [if_neg c7] at H
     have c7b0 : decide (x14_1 < (t307.length : Int)) = false := decide_eq_false c7
     try (have c7bl := c7b0; rw [hl310_0] at c7bl)
     clear c7
     simp only [Option.some.injEq, Prod.mk.injEq] at H
     obtain ⟨rfl, rfl⟩ := H
     go_wp2
     go_ret2
     exact ⟨_, RE, by (with_reducible repeat (first | apply Kd.V_alloc | apply Kd.V_drewN | apply Kd.V_drew)); exact Kd.V_mono HO_4.out (fun _ hk => hk.1), BB⟩
 ·replace c3 := Bool.eq_false_iff.mpr c3
  subst c3
  replace H := IN H
  simp only [Option.some.injEq, Prod.mk.injEq] at H
  obtain ⟨rfl, rfl⟩ := H
  go_enter Try.func9, Try.ntmps9
  go_wp2_with (first | ((with_reducible refine gate_callee (f := 24) rfl ?_); refine goesL_ (some 10) rfl rfl Try.func24 (by kernel_rfl) rfl #[.slice A0 l0.length c0] rfl TA ?_; (with_reducible refine (spec_ckRooms.calls k _ _ l0 false _ ?side1 ?side2 A2.out).mono ?_); (case side1 => exact CW HR0.out); (case side2 => exact HC0.out); rintro e w' ⟨rfl, ⟨nd, rfl⟩⟩; refine ⟨_, rfl, ?_⟩))
  go_ret2
  exact ⟨_, RE, Kd.V_nil _ _ _ _ _, BB⟩

/-! ### laws_zSame: function 10 -/
def laws_zSame.l0 : Nat → List Int → List Int → Int → Int → Option (Bool)
 | 0, _, _, _, _ => none
 | k + 1, x0, x1, x12, x13 => if x13 < x12 then (if 0 ≤ x13 then (if x13 < (x0.length : Int) then (if x13 < (x1.length : Int) then (if (rd x0 x13) = (rd x1 x13) then (laws_zSame.l0 k x0 x1 x12 (wrap64 (x13 + 1))) else (some false)) else (none)) else (none)) else (none)) else (some true)
def laws_zSame.f (k : Nat) (l0 : List Int) (l1 : List Int) : Option (Bool) := if (l0.length : Int) = (l1.length : Int) then (laws_zSame.l0 k l0 l1 (l0.length : Int) 0) else (some false)
theorem laws_zSame.mono_l : ∀ k, (∀ y0 y1 y2 y3, LeO (laws_zSame.l0 k y0 y1 y2 y3) (laws_zSame.l0 (k + 1) y0 y1 y2 y3))
 | 0 => fun _ _ _ _ r h => by simp [laws_zSame.l0] at h
 | k + 1 => by
  have ih0 := laws_zSame.mono_l k
  ·intro y0 y1 y2 y3
   unfold laws_zSame.l0
   repeat' first
   | with_reducible first | exact ih0 _ _ _ _ | exact LeO.refl _ | exact LeO.none _ | refine LeO.ite ?_ ?_ | refine LeO.bind ?_ (fun _ => ?_)
   | exact LeO.none _ | refine LeO.ite ?_ ?_ | refine LeO.bind ?_ (fun _ => ?_)
theorem laws_zSame.mono : ∀ a0 a1 k, LeO (laws_zSame.f k a0 a1) (laws_zSame.f (k + 1) a0 a1) := by
 intro a0 a1 k
 have ih0 := laws_zSame.mono_l k
 unfold laws_zSame.f
 repeat' first
   | with_reducible first | exact ih0 _ _ _ _ | exact LeO.refl _ | exact LeO.none _ | refine LeO.ite ?_ ?_ | refine LeO.bind ?_ (fun _ => ?_)
   | exact LeO.none _ | refine LeO.ite ?_ ?_ | refine LeO.bind ?_ (fun _ => ?_)
theorem laws_zSame.calls (k : Nat) (A0 : Option Addr) (c0 : Nat) (l0 : List Int) (A1 : Option Addr) (c1 : Nat) (l1 : List Int) (r : Bool) (w : World) (hr0 : Kd.C (Kd.int .i64) w A0 l0.length l0) (hc0 : l0.length ≤ c0) (hr1 : Kd.C (Kd.int .i64) w A1 l1.length l1) (hc1 : l1.length ≤ c1) (h : laws_zSame.f k l0 l1 = some r) :
  Calls Try.prog 10 #[.slice A0 l0.length c0, .slice A1 l1.length c1] w fun e w' => e = .returned (.bool r) ∧ Drawn0 w w' := by
 have HR0 := Aside0.mk hr0
 have HC0 := Aside0.mk hc0
 clear hr0 hc0
 have HR1 := Aside0.mk hr1
 have HC1 := Aside0.mk hc1
 clear hr1 hc1
 have H : (if (l0.length : Int) = (l1.length : Int) then (laws_zSame.l0 k l0 l1 (l0.length : Int) 0) else (some false)) = some r := h
 clear h
 by_cases c3 : (l0.length : Int) = (l1.length : Int)
 ·rw [if_pos c3] at H
  have c3b0 : ((l0.length : Int) == (l1.length : Int)) = true := beq_iff_eq.mpr c3
  have c3b1 : ((l0.length : Int) != (l1.length : Int)) = false := bne_eq_false_iff_eq.mpr c3
  have c3b2 : (l0.length == l1.length) = true := by first | simpa using c3 | (simp at c3 ⊢; omega)
  clear c3
  have H' := Aside0.mk H
  clear H
  go_enter Try.func10, Try.ntmps10
  go_wp2
  repeat (go_quiet (fail); try go_wp2)
  go_loopg [13] k (fun kq v13 w' => ∃ (x13_1 : Int), v13 = .int .i64 x13_1 ∧ Aside0 (laws_zSame.l0 kq l0 l1 (l0.length : Int) x13_1 = some r) ∧ Aside0 (kq ≤ k) ∧ Drawn0 w w')
  case atStart => exact ⟨(0), RF, H', ⟨Nat.le_refl _⟩, by repeat (first | exact Drawn0.refl _ | apply Drawn0.step)⟩
  case round =>
   clear H'
   try clear c1
   try clear p2
   try clear c3
   try clear c3b0
   try clear c3b1
   try clear c3b2
   obtain ⟨x13_1, rfl, HA, HK1, ⟨m1, rfl⟩⟩ := hrel
   cases gk with
   | zero => exact absurd HA.out (by simp [laws_zSame.l0])
   | succ k1 =>
    have H := HA.out
    clear HA
    simp only [laws_zSame.l0] at H
    by_cases c4 : x13_1 < (l0.length : Int)
    ·rw [if_pos c4] at H
     have c4b0 : decide (x13_1 < (l0.length : Int)) = true := decide_eq_true c4
     clear c4
     by_cases c5 : 0 ≤ x13_1
     ·rw [if_pos c5] at H
      have c5b0 : decide (0 ≤ x13_1) = true := decide_eq_true c5
      clear c5
      by_cases c6 : x13_1 < (l0.length : Int)
      ·rw [if_pos c6] at H
       have c6b0 : decide (x13_1 < (l0.length : Int)) = true := decide_eq_true c6
       clear c6
       by_cases c7 : x13_1 < (l1.length : Int)
       ·rw [if_pos c7] at H
        have c7b0 : decide (x13_1 < (l1.length : Int)) = true := decide_eq_true c7
        clear c7
        by_cases c8 : (rd l0 x13_1) = (rd l1 x13_1)
        ·rw [if_pos c8] at H
         have c8b0 : ((rd l0 x13_1) == (rd l1 x13_1)) = true := beq_iff_eq.mpr c8
         have c8b1 : ((rd l0 x13_1) != (rd l1 x13_1)) = false := bne_eq_false_iff_eq.mpr c8
         clear c8
         have H' := Aside0.mk H
         clear H
         have p312 : 0 ≤ (x13_1 : Int) := of_decide_eq_true AS
         have q312 : x13_1 < (l0.length : Int) := of_decide_eq_true AS
         obtain ⟨ad312, e312, hx312_0⟩ := Kd.at_int HR0.out x13_1 p312 q312
         cases e312
         replace p312 := eq_true p312
         replace q312 := eq_true q312
         have p313 : 0 ≤ (x13_1 : Int) := of_decide_eq_true AS
         have q313 : x13_1 < (l1.length : Int) := of_decide_eq_true AS
         obtain ⟨ad313, e313, hx313_0⟩ := Kd.at_int HR1.out x13_1 p313 q313
         cases e313
         replace p313 := eq_true p313
         replace q313 := eq_true q313
         go_wp2
         repeat (go_quiet (fail); try go_wp2)
         go_roundg k1
         case measure => have := HK1.out; omega
         case rel => exact ⟨(wrap64 (x13_1 + 1)), RF, H', ⟨by have := HK1.out; omega⟩, by repeat (first | exact Drawn0.refl _ | apply Drawn0.step)⟩
        ·rw [if_neg c8] at H
         have c8b0 : ((rd l0 x13_1) == (rd l1 x13_1)) = false := beq_eq_false_iff_ne.mpr c8
         have c8b1 : ((rd l0 x13_1) != (rd l1 x13_1)) = true := bne_iff_ne.mpr c8
         obtain rfl := Option.some.inj H
         have p312 : 0 ≤ (x13_1 : Int) := of_decide_eq_true AS
         have q312 : x13_1 < (l0.length : Int) := of_decide_eq_true AS
         obtain ⟨ad312, e312, hx312_0⟩ := Kd.at_int HR0.out x13_1 p312 q312
         cases e312
         replace p312 := eq_true p312
         replace q312 := eq_true q312
         have p313 : 0 ≤ (x13_1 : Int) := of_decide_eq_true AS
         have q313 : x13_1 < (l1.length : Int) := of_decide_eq_true AS
         obtain ⟨ad313, e313, hx313_0⟩ := Kd.at_int HR1.out x13_1 p313 q313
         cases e313
         replace p313 := eq_true p313
         replace q313 := eq_true q313
         go_wp2
         repeat (go_quiet (fail); try go_wp2)
         go_ret
         exact ⟨RF, DR⟩
       ·rw [if_neg c7] at H
        cases H
      ·rw [if_neg c6] at H
       cases H
     ·rw [if_neg c5] at H
      cases H
    ·rw [if_neg c4] at H
     have c4b0 : decide (x13_1 < (l0.length : Int)) = false := decide_eq_false c4
     clear c4
     obtain rfl := Option.some.inj H
     go_wp2
     repeat (go_quiet (fail); try go_wp2)
     go_ret
     exact ⟨RF, DR⟩
 ·rw [if_neg c3] at H
  have c3b0 : ((l0.length : Int) == (l1.length : Int)) = false := beq_eq_false_iff_ne.mpr c3
  have c3b1 : ((l0.length : Int) != (l1.length : Int)) = true := bne_iff_ne.mpr c3
  have c3b2 : (l0.length == l1.length) = false := by first | simpa using c3 | (simp at c3 ⊢; omega)
  obtain rfl := Option.some.inj H
  go_enter Try.func10, Try.ntmps10
  go_wp2
  repeat (go_quiet (fail); try go_wp2)
  go_ret
  exact ⟨RF, DR⟩

/-! ### impl_many: function 35 -/
def impl_many.f (a0 : Int) : Option (Int) := some (wrap64 (Int.tdiv (wrap64 ((wrap64 (a0 + 1)) * (wrap64 (a0 + 2)))) 2))
theorem impl_many.calls (a0 : Int) (r : Int) (w : World) (h : impl_many.f a0 = some r) :
  Calls Try.prog 35 #[.int .i64 a0] w fun e w' => e = .returned (.int .i64 r) ∧ Drawn0 w w' := by
 have H : (some (wrap64 (Int.tdiv (wrap64 ((wrap64 (a0 + 1)) * (wrap64 (a0 + 2)))) 2))) = some r := h
 clear h
 obtain rfl := Option.some.inj H
 go_enter Try.func35, Try.ntmps35
 go_wp2
 go_ret
 exact ⟨RF, DR⟩

/-! ### impl_isPoint_1: function 50 -/
def impl_isPoint_1.f (a0 : Int) (l1 : List Int) : Option (Bool) := if 0 < (l1.length : Int) then ((impl_many.f (rd l1 0)).bind fun t315 => ((impl_in.f a0 0 (wrap64 (t315 - 1))).bind fun t316 => (some (!t316)))) else (none)
theorem impl_isPoint_1.calls (a0 : Int) (A1 : Option Addr) (c1 : Nat) (l1 : List Int) (r : Bool) (w : World) (hr1 : Kd.C (Kd.int .i64) w A1 l1.length l1) (hc1 : l1.length ≤ c1) (h : impl_isPoint_1.f a0 l1 = some r) :
  Calls Try.prog 50 #[.int .i64 a0, .pointer A1] w fun e w' => e = .returned (.bool r) ∧ Drawn0 w w' := by
 have HR1 := Aside0.mk hr1
 have HC1 := Aside0.mk hc1
 clear hr1 hc1
 have H : (if 0 < (l1.length : Int) then ((impl_many.f (rd l1 0)).bind fun t315 => ((impl_in.f a0 0 (wrap64 (t315 - 1))).bind fun t316 => (some (!t316)))) else (none)) = some r := h
 clear h
 by_cases c3 : 0 < (l1.length : Int)
 ·rw [if_pos c3] at H
  have c3b0 : decide (0 < (l1.length : Int)) = true := decide_eq_true c3
  have c3b1 : decide (0 < l1.length) = true := decide_eq_true (by omega)
  clear c3
  replace H := EA H
  obtain ⟨t315, A4, H⟩ := H
  replace H := EA H
  obtain ⟨t316, A5, H⟩ := H
  obtain rfl := Option.some.inj H
  have p314 : 0 ≤ (0 : Int) := (by omega)
  have q314 : 0 < (l1.length : Int) := of_decide_eq_true AS
  obtain ⟨ad314, e314, hx314_0⟩ := Kd.at_int HR1.out 0 p314 q314
  cases e314
  have qi314 : (0 < l1.length) = True := eq_true (by omega)
  (try rw [show ((0 : Int)).toNat = 0 from rfl] at hx314_0)
  (try rw [Addr.add_zero'] at hx314_0)
  replace p314 := eq_true p314
  replace q314 := eq_true q314
  go_enter Try.func50, Try.ntmps50
  go_wp2_with (first | ((with_reducible refine gate_callee (f := 35) rfl ?_); refine goesL_ (some 6) rfl rfl Try.func35 (by kernel_rfl) rfl #[.int .i64 (rd l1 0)] rfl TA ?_; (with_reducible refine (impl_many.calls (rd l1 0) t315 _ A4.out).mono ?_); rintro e w' ⟨rfl, ⟨nd, rfl⟩⟩; refine ⟨_, rfl, ?_⟩) | ((with_reducible refine gate_callee (f := 43) rfl ?_); refine goesL_ (some 8) rfl rfl Try.func43 (by kernel_rfl) rfl #[.int .i64 a0, .int .i64 0, .int .i64 (wrap64 (t315 - 1))] rfl TA ?_; (with_reducible refine (impl_in.calls a0 0 (wrap64 (t315 - 1)) t316 _ A5.out).mono ?_); rintro e w' ⟨rfl, ⟨nd, rfl⟩⟩; refine ⟨_, rfl, ?_⟩))
  go_ret
  exact ⟨RF, DR⟩
 ·rw [if_neg c3] at H
  cases H

/-! ### slices_IndexFunc_int_int__impl_isPoint_1: function 57 -/
def slices_IndexFunc_int_int__impl_isPoint_1.l0 : Nat → List Int → Int → Int → List Int → Option (Int)
 | 0, _, _, _, _ => none
 | k + 1, x0, x7, x8, x610 => if x8 < x7 then (if 0 ≤ x8 then (if x8 < (x0.length : Int) then ((impl_isPoint_1.f (rd x0 x8) x610).bind fun t315 => (if t315 = true then (some x8) else (slices_IndexFunc_int_int__impl_isPoint_1.l0 k x0 x7 (wrap64 (x8 + 1)) x610))) else (none)) else (none)) else (some (-1))
def slices_IndexFunc_int_int__impl_isPoint_1.f (k : Nat) (l0 : List Int) (l1_0 : List Int) : Option (Int) := slices_IndexFunc_int_int__impl_isPoint_1.l0 k l0 (l0.length : Int) 0 l1_0
theorem slices_IndexFunc_int_int__impl_isPoint_1.mono_l : ∀ k, (∀ y0 y1 y2 y3, LeO (slices_IndexFunc_int_int__impl_isPoint_1.l0 k y0 y1 y2 y3) (slices_IndexFunc_int_int__impl_isPoint_1.l0 (k + 1) y0 y1 y2 y3))
 | 0 => fun _ _ _ _ r h => by simp [slices_IndexFunc_int_int__impl_isPoint_1.l0] at h
 | k + 1 => by
  have ih0 := slices_IndexFunc_int_int__impl_isPoint_1.mono_l k
  ·intro y0 y1 y2 y3
   unfold slices_IndexFunc_int_int__impl_isPoint_1.l0
   repeat' first
   | with_reducible first | exact ih0 _ _ _ _ | exact LeO.refl _ | exact LeO.none _ | refine LeO.ite ?_ ?_ | refine LeO.bind ?_ (fun _ => ?_)
   | exact LeO.none _ | refine LeO.ite ?_ ?_ | refine LeO.bind ?_ (fun _ => ?_)
theorem slices_IndexFunc_int_int__impl_isPoint_1.mono : ∀ a0 a1 k, LeO (slices_IndexFunc_int_int__impl_isPoint_1.f k a0 a1) (slices_IndexFunc_int_int__impl_isPoint_1.f (k + 1) a0 a1) := by
 intro a0 a1 k
 have ih0 := slices_IndexFunc_int_int__impl_isPoint_1.mono_l k
 unfold slices_IndexFunc_int_int__impl_isPoint_1.f
 repeat' first
   | with_reducible first | exact ih0 _ _ _ _ | exact LeO.refl _ | exact LeO.none _ | refine LeO.ite ?_ ?_ | refine LeO.bind ?_ (fun _ => ?_)
   | exact LeO.none _ | refine LeO.ite ?_ ?_ | refine LeO.bind ?_ (fun _ => ?_)
theorem slices_IndexFunc_int_int__impl_isPoint_1.calls (k : Nat) (A0 : Option Addr) (c0 : Nat) (l0 : List Int) (A1_0 : Option Addr) (c1_0 : Nat) (l1_0 : List Int) (r : Int) (w : World) (hr0 : Kd.C (Kd.int .i64) w A0 l0.length l0) (hc0 : l0.length ≤ c0) (hr1_0 : Kd.C (Kd.int .i64) w A1_0 l1_0.length l1_0) (hc1_0 : l1_0.length ≤ c1_0) (h : slices_IndexFunc_int_int__impl_isPoint_1.f k l0 l1_0 = some r) :
  Calls Try.prog 57 #[.slice A0 l0.length c0, .func (.func 50) #[] #[.pointer A1_0]] w fun e w' => e = .returned (.int .i64 r) ∧ Drawn0 w w' := by
 have HR0 := Aside0.mk hr0
 have HC0 := Aside0.mk hc0
 clear hr0 hc0
 have HR1_0 := Aside0.mk hr1_0
 have HC1_0 := Aside0.mk hc1_0
 clear hr1_0 hc1_0
 have H : (slices_IndexFunc_int_int__impl_isPoint_1.l0 k l0 (l0.length : Int) 0 l1_0) = some r := h
 clear h
 have H' := Aside0.mk H
 clear H
 go_enter Try.func57, Try.ntmps57
 go_wp2
 go_loopg [8] k (fun kq v8 w' => ∃ (x8_1 : Int), v8 = .int .i64 x8_1 ∧ Aside0 (slices_IndexFunc_int_int__impl_isPoint_1.l0 kq l0 (l0.length : Int) x8_1 l1_0 = some r) ∧ Aside0 (kq ≤ k) ∧ Drawn0 w w')
 case atStart => exact ⟨(0), RF, H', ⟨Nat.le_refl _⟩, by repeat (first | exact Drawn0.refl _ | apply Drawn0.step)⟩
 case round =>
  clear H'
  try clear c1
  try clear p2
  obtain ⟨x8_1, rfl, HA, HK1, ⟨m1, rfl⟩⟩ := hrel
  cases gk with
  | zero => exact absurd HA.out (by simp [slices_IndexFunc_int_int__impl_isPoint_1.l0])
  | succ k1 =>
   have H := HA.out
   clear HA
   simp only [slices_IndexFunc_int_int__impl_isPoint_1.l0] at H
   by_cases c3 : x8_1 < (l0.length : Int)
   ·rw [if_pos c3] at H
    have c3b0 : decide (x8_1 < (l0.length : Int)) = true := decide_eq_true c3
    clear c3
    by_cases c4 : 0 ≤ x8_1
    ·rw [if_pos c4] at H
     have c4b0 : decide (0 ≤ x8_1) = true := decide_eq_true c4
     clear c4
     by_cases c5 : x8_1 < (l0.length : Int)
     ·rw [if_pos c5] at H
      have c5b0 : decide (x8_1 < (l0.length : Int)) = true := decide_eq_true c5
      clear c5
      replace H := EA H
      obtain ⟨t315, A6, H⟩ := H
      by_cases c7 : t315 = true
      ·subst c7
       replace H := IP H
       obtain rfl := Option.some.inj H
       have p314 : 0 ≤ (x8_1 : Int) := of_decide_eq_true AS
       have q314 : x8_1 < (l0.length : Int) := of_decide_eq_true AS
       obtain ⟨ad314, e314, hx314_0⟩ := Kd.at_int HR0.out x8_1 p314 q314
       cases e314
       replace p314 := eq_true p314
       replace q314 := eq_true q314
       go_wp2_with (first | (go_at_call 50; (with_reducible refine (impl_isPoint_1.calls (rd l0 x8_1) A1_0 c1_0 l1_0 true _ ?side1 ?side2 A6.out).mono ?_); (case side1 => exact CW HR1_0.out); (case side2 => exact HC1_0.out); rintro e w' ⟨rfl, ⟨nd, rfl⟩⟩))
       go_ret
       exact ⟨RF, DR⟩
      ·replace c7 := Bool.eq_false_iff.mpr c7
       subst c7
       replace H := IN H
       have H' := Aside0.mk H
       clear H
       have p314 : 0 ≤ (x8_1 : Int) := of_decide_eq_true AS
       have q314 : x8_1 < (l0.length : Int) := of_decide_eq_true AS
       obtain ⟨ad314, e314, hx314_0⟩ := Kd.at_int HR0.out x8_1 p314 q314
       cases e314
       replace p314 := eq_true p314
       replace q314 := eq_true q314
       go_wp2_with (first | (go_at_call 50; (with_reducible refine (impl_isPoint_1.calls (rd l0 x8_1) A1_0 c1_0 l1_0 false _ ?side1 ?side2 A6.out).mono ?_); (case side1 => exact CW HR1_0.out); (case side2 => exact HC1_0.out); rintro e w' ⟨rfl, ⟨nd, rfl⟩⟩))
       go_roundg k1
       case measure => have := HK1.out; omega
       case rel => exact ⟨(wrap64 (x8_1 + 1)), RF, H', ⟨by have := HK1.out; omega⟩, by repeat (first | exact Drawn0.refl _ | apply Drawn0.step)⟩
     ·rw [if_neg c5] at H
      cases H
    ·rw [if_neg c4] at H
     cases H
   ·rw [if_neg c3] at H
    have c3b0 : decide (x8_1 < (l0.length : Int)) = false := decide_eq_false c3
    clear c3
    obtain rfl := Option.some.inj H
    go_wp2
    go_ret
    exact ⟨RF, DR⟩

/-! ### slices_ContainsFunc_int_int__impl_isPoint_1: function 49 -/
def slices_ContainsFunc_int_int__impl_isPoint_1.f (k : Nat) (l0 : List Int) (l1_0 : List Int) : Option (Bool) := (slices_IndexFunc_int_int__impl_isPoint_1.f k l0 l1_0).bind fun t316 => (some (decide (t316 ≥ 0)))
theorem slices_ContainsFunc_int_int__impl_isPoint_1.mono : ∀ a0 a1 k, LeO (slices_ContainsFunc_int_int__impl_isPoint_1.f k a0 a1) (slices_ContainsFunc_int_int__impl_isPoint_1.f (k + 1) a0 a1) := by
 intro a0 a1 k
 unfold slices_ContainsFunc_int_int__impl_isPoint_1.f
 repeat' first
   | with_reducible first | exact slices_IndexFunc_int_int__impl_isPoint_1.mono _ _ _ | exact LeO.refl _ | exact LeO.none _ | refine LeO.ite ?_ ?_ | refine LeO.bind ?_ (fun _ => ?_)
   | exact LeO.none _ | refine LeO.ite ?_ ?_ | refine LeO.bind ?_ (fun _ => ?_)
theorem slices_ContainsFunc_int_int__impl_isPoint_1.calls (k : Nat) (A0 : Option Addr) (c0 : Nat) (l0 : List Int) (A1_0 : Option Addr) (c1_0 : Nat) (l1_0 : List Int) (r : Bool) (w : World) (hr0 : Kd.C (Kd.int .i64) w A0 l0.length l0) (hc0 : l0.length ≤ c0) (hr1_0 : Kd.C (Kd.int .i64) w A1_0 l1_0.length l1_0) (hc1_0 : l1_0.length ≤ c1_0) (h : slices_ContainsFunc_int_int__impl_isPoint_1.f k l0 l1_0 = some r) :
  Calls Try.prog 49 #[.slice A0 l0.length c0, .func (.func 50) #[] #[.pointer A1_0]] w fun e w' => e = .returned (.bool r) ∧ Drawn0 w w' := by
 have HR0 := Aside0.mk hr0
 have HC0 := Aside0.mk hc0
 clear hr0 hc0
 have HR1_0 := Aside0.mk hr1_0
 have HC1_0 := Aside0.mk hc1_0
 clear hr1_0 hc1_0
 have H : ((slices_IndexFunc_int_int__impl_isPoint_1.f k l0 l1_0).bind fun t316 => (some (decide (t316 ≥ 0)))) = some r := h
 clear h
 replace H := EA H
 obtain ⟨t316, A3, H⟩ := H
 obtain rfl := Option.some.inj H
 go_enter Try.func49, Try.ntmps49
 go_wp2_with (first | ((with_reducible refine gate_callee (f := 57) rfl ?_); refine goesL_ (some 7) rfl rfl Try.func57 (by kernel_rfl) rfl #[.slice A0 l0.length c0, .func (.func 50) #[] #[.pointer A1_0]] rfl TA ?_; (with_reducible refine (slices_IndexFunc_int_int__impl_isPoint_1.calls k _ _ l0 A1_0 c1_0 l1_0 t316 _ ?side1 ?side2 ?side3 ?side4 A3.out).mono ?_); (case side1 => exact CW HR0.out); (case side2 => exact HC0.out); (case side3 => exact CW HR1_0.out); (case side4 => exact HC1_0.out); rintro e w' ⟨rfl, ⟨nd, rfl⟩⟩; refine ⟨_, rfl, ?_⟩))
 go_ret
 exact ⟨RF, DR⟩

/-! ### impl_isPoint: function 31 -/
def impl_isPoint.f (k : Nat) (a0 : Int) (l1 : List Int) : Option (Bool) := (impl_isSide.f a0).bind fun t318 => (if t318 = true then ((slices_ContainsFunc_int_int__impl_isPoint_1.f k l1 [a0]).bind fun t319 => (some (!t319))) else (some false))
theorem impl_isPoint.mono : ∀ a0 a1 k, LeO (impl_isPoint.f k a0 a1) (impl_isPoint.f (k + 1) a0 a1) := by
 intro a0 a1 k
 unfold impl_isPoint.f
 repeat' first
   | with_reducible first | exact slices_ContainsFunc_int_int__impl_isPoint_1.mono _ _ _ | exact LeO.refl _ | exact LeO.none _ | refine LeO.ite ?_ ?_ | refine LeO.bind ?_ (fun _ => ?_)
   | exact LeO.none _ | refine LeO.ite ?_ ?_ | refine LeO.bind ?_ (fun _ => ?_)
theorem impl_isPoint.calls (k : Nat) (a0 : Int) (A1 : Option Addr) (c1 : Nat) (l1 : List Int) (r : Bool) (w : World) (hr1 : Kd.C (Kd.int .i64) w A1 l1.length l1) (hc1 : l1.length ≤ c1) (h : impl_isPoint.f k a0 l1 = some r) :
  Calls Try.prog 31 #[.int .i64 a0, .slice A1 l1.length c1] w fun e w' => e = .returned (.bool r) ∧ Below w.heap.size w w' := by
 have HR1 := Aside0.mk hr1
 have HC1 := Aside0.mk hc1
 clear hr1 hc1
 have HB := Aside0.mk (Below.refl w.heap.size w)
 have H : ((impl_isSide.f a0).bind fun t318 => (if t318 = true then ((slices_ContainsFunc_int_int__impl_isPoint_1.f k l1 [a0]).bind fun t319 => (some (!t319))) else (some false))) = some r := h
 clear h
 replace H := EA H
 obtain ⟨t318, A3, H⟩ := H
 by_cases c4 : t318 = true
 ·subst c4
  replace H := IP H
  replace H := EA H
  obtain ⟨t319, A5, H⟩ := H
  obtain rfl := Option.some.inj H
  go_enter Try.func31, Try.ntmps31
  go_wp2_with (first | ((with_reducible refine gate_dst (N := 2) rfl ?_); refine box_event ?hg (N := 2) ?hd (cs := #[.int .i64 a0]) (t := 3) ?hr ?_; (case hd => rfl); (case hg => rfl); (case hr => exact GS); intro gb317 hg w6 hbox hb; have n0_ := Aside0.mk (below_step BB hb); have n1_ := Aside0.mk (hbox); have n2_ := Aside0.mk ((by rw [hg]; exact (below_size BB) : w.heap.size ≤ gb317)); have n3_ := Aside0.mk ((by rw [hg]; exact (below_size BB) : w.heap.size ≤ gb317)); clear HB; have HB := n0_; have BK317 := n1_; have GW317 := n2_; have GE317 := n3_; clear n0_ n1_ n2_ n3_; clear hb hbox hg; have hcz7_0 : w6.cell? ⟨gb317, 0, none⟩ = some (.int .i64 a0) := (blk_cell BK317.out 0).trans rfl; have hfz7_0 := blk_frozen BK317.out 0) | ((with_reducible refine gate_callee (f := 18) rfl ?_); refine goesL_ (some 6) rfl rfl Try.func18 (by kernel_rfl) rfl #[.int .i64 a0] rfl TA ?_; (with_reducible refine (impl_isSide.calls a0 true _ A3.out).mono ?_); rintro e w' ⟨rfl, ⟨nd, rfl⟩⟩; refine ⟨_, rfl, ?_⟩) | (go_at_call 49; (with_reducible refine (slices_ContainsFunc_int_int__impl_isPoint_1.calls k _ _ l1 (some ⟨gb317, 0, none⟩) 1 [a0] t319 _ ?side1 ?side2 ?side3 ?side4 A5.out).mono ?_); (case side1 => repeat (first | exact (Kd.C_below HR1.out (by repeat (first | (with_reducible first | exact HB.out | apply below_alloc | apply pw_below_drewN | apply below_drew1 | refine below_set ?_ GE317.out) | exact HB.out))) | (with_reducible refine Kd.C_drewN ?_ _) | (with_reducible refine Kd.C_drew ?_) | (with_reducible refine Kd.C_alloc ?_ _))); (case side2 => exact HC1.out); (case side3 => exact Kd.C_box (Kd.int .i64) (g := gb317) (t := 3) (cs := #[.int .i64 a0]) (BW BK317) rfl); (case side4 => exact Nat.le_refl _); rintro e w' ⟨rfl, ⟨nd, rfl⟩⟩))
  go_ret
  exact ⟨RE, by repeat (first | (with_reducible first | exact HB.out | apply below_alloc | apply pw_below_drewN | apply below_drew1 | refine below_set ?_ GE317.out) | exact HB.out)⟩
 ·replace c4 := Bool.eq_false_iff.mpr c4
  subst c4
  replace H := IN H
  obtain rfl := Option.some.inj H
  go_enter Try.func31, Try.ntmps31
  go_wp2_with (first | ((with_reducible refine gate_dst (N := 2) rfl ?_); refine box_event ?hg (N := 2) ?hd (cs := #[.int .i64 a0]) (t := 3) ?hr ?_; (case hd => rfl); (case hg => rfl); (case hr => exact GS); intro gb317 hg w8 hbox hb; have n0_ := Aside0.mk (below_step BB hb); have n1_ := Aside0.mk (hbox); have n2_ := Aside0.mk ((by rw [hg]; exact (below_size BB) : w.heap.size ≤ gb317)); have n3_ := Aside0.mk ((by rw [hg]; exact (below_size BB) : w.heap.size ≤ gb317)); clear HB; have HB := n0_; have BK317 := n1_; have GW317 := n2_; have GE317 := n3_; clear n0_ n1_ n2_ n3_; clear hb hbox hg; have hcz9_0 : w8.cell? ⟨gb317, 0, none⟩ = some (.int .i64 a0) := (blk_cell BK317.out 0).trans rfl; have hfz9_0 := blk_frozen BK317.out 0) | ((with_reducible refine gate_callee (f := 18) rfl ?_); refine goesL_ (some 6) rfl rfl Try.func18 (by kernel_rfl) rfl #[.int .i64 a0] rfl TA ?_; (with_reducible refine (impl_isSide.calls a0 false _ A3.out).mono ?_); rintro e w' ⟨rfl, ⟨nd, rfl⟩⟩; refine ⟨_, rfl, ?_⟩))
  go_ret
  exact ⟨RE, by repeat (first | (with_reducible first | exact HB.out | apply below_alloc | apply pw_below_drewN | apply below_drew1 | refine below_set ?_ GE317.out) | exact HB.out)⟩

end Go.Proofs.Ythkdkgbcokpbaaa.PFnRentsAreFair
