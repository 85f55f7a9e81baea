-- Written by a program of this session (wip/tools/pp.sh) out of the translation; Lean checks it.
import Derived.Test.YthkdkgbcokpbaacGreatDoorPFnNecklacesSharedx0
import Derived.Test.YthkdkgbcokpbaacGreatDoorPFnNecklacesSharedx2
import Derived.Test.YthkdkgbcokpbaacGreatDoorPFnNecklacesSharedx3
namespace Go.Proofs.YthkdkgbcokpbaacGreatDoor.PFnNecklacesShared
open Go.RowKit Go.Proofs.YthkdkgbcokpbaacGreatDoorOwn Go.Proofs.YthkdkgbcokpbaacGreatDoorW.PrintWords Go.Proofs.YthkdkgbcokpbaacGreatDoorW.PrintLast Go.Proofs.YthkdkgbcokpbaacGreatDoorW.PrintMore
attribute [local go_sem] max2_int min2_int max_two min_two max_three min_three max_four min_four   -- for this text's walks alone
set_option linter.unusedVariables false
set_option maxHeartbeats 8000000
set_option maxRecDepth 100000
set_option linter.unusedSimpArgs false

/-! ### spec_nlKinds: function 39 -/
def spec_nlKinds.l0 : Nat → Int → List Int → Int → Int → Option (Int)
 | 0, _, _, _, _ => none
 | k + 1, x3, x7, x8, x9 => if x9 < x8 then (if 0 ≤ x9 then (if x9 < (x7.length : Int) then (if (rd x7 x9) > 0 then (spec_nlKinds.l0 k (wrap64 (x3 + 1)) x7 x8 (wrap64 (x9 + 1))) else (spec_nlKinds.l0 k x3 x7 x8 (wrap64 (x9 + 1)))) else (none)) else (none)) else (some x3)
def spec_nlKinds.f (k : Nat) (a0 : ByteArray) : Option (Int) := (spec_nlCounts.f k a0).bind fun t282 => (spec_nlKinds.l0 k 0 t282 (t282.length : Int) 0)
theorem spec_nlKinds.mono_l : ∀ k, (∀ y0 y1 y2 y3, LeO (spec_nlKinds.l0 k y0 y1 y2 y3) (spec_nlKinds.l0 (k + 1) y0 y1 y2 y3))
 | 0 => fun _ _ _ _ r h => by simp [spec_nlKinds.l0] at h
 | k + 1 => by
  have ih0 := spec_nlKinds.mono_l k
  ·intro y0 y1 y2 y3
   unfold spec_nlKinds.l0
   repeat' first
   | with_reducible first | exact ih0 _ _ _ _ | exact spec_nlCounts.mono _ _ | exact LeO.refl _ | exact LeO.none _ | refine LeO.ite ?_ ?_ | refine LeO.bind ?_ (fun _ => ?_)
   | exact LeO.none _ | refine LeO.ite ?_ ?_ | refine LeO.bind ?_ (fun _ => ?_)
theorem spec_nlKinds.mono : ∀ a0 k, LeO (spec_nlKinds.f k a0) (spec_nlKinds.f (k + 1) a0) := by
 intro a0 k
 have ih0 := spec_nlKinds.mono_l k
 unfold spec_nlKinds.f
 repeat' first
   | with_reducible first | exact ih0 _ _ _ _ | exact spec_nlCounts.mono _ _ | exact LeO.refl _ | exact LeO.none _ | refine LeO.ite ?_ ?_ | refine LeO.bind ?_ (fun _ => ?_)
   | exact LeO.none _ | refine LeO.ite ?_ ?_ | refine LeO.bind ?_ (fun _ => ?_)
theorem spec_nlKinds.calls (k : Nat) (a0 : ByteArray) (r : Int) (w : World) (h : spec_nlKinds.f k a0 = some r) :
  Calls Tryz.prog 39 #[.string a0] w fun e w' => e = .returned (.int .i64 r) ∧ Below w.heap.size w w' := by
 have HB := Aside0.mk (Below.refl w.heap.size w)
 have H : ((spec_nlCounts.f k a0).bind fun t282 => (spec_nlKinds.l0 k 0 t282 (t282.length : Int) 0)) = some r := h
 clear h
 replace H := EA H
 obtain ⟨t282, A2, H⟩ := H
 have H' := Aside0.mk H
 clear H
 go_enter Tryz.func39, Tryz.ntmps39
 go_wp2_with (first | ((with_reducible refine gate_callee (f := 37) rfl ?_); refine goesL_ (some 7) rfl rfl Tryz.func37 (by kernel_rfl) rfl #[.string a0] rfl TA ?_; (with_reducible refine (spec_nlCounts.calls k a0 t282 _ A2.out).mono ?_); rintro e w3 ⟨v283, rfl, ho0, hb⟩; refine ⟨_, rfl, ?_⟩; have n0_ := Aside0.mk (Kd.R_lower ho0 (below_size BB)); have n1_ := Aside0.mk (below_step BB hb); clear HB; have HO284 := n0_; have HB := n1_; clear n0_ n1_; (try clear hb); (try clear hb2); (try clear hk); (try clear hi); (try clear ho0); obtain ⟨Ao4, co4, eo4⟩ := Kd.R_slice HO284.out; subst eo4))
 go_loopg [3, 9] k (fun kq v3 v9 w' => ∃ (x3_1 : Int) (x9_1 : Int), v3 = .int .i64 x3_1 ∧ v9 = .int .i64 x9_1 ∧ Aside0 (spec_nlKinds.l0 kq x3_1 t282 (t282.length : Int) x9_1 = some r) ∧ Aside0 (kq ≤ k) ∧ Aside0 (Kd.R (Kd.int .i64) 3 w' w.heap.size (fun _ => True) (.slice Ao4 t282.length co4) t282) ∧ Aside0 (Below w.heap.size w w'))
 case atStart => exact ⟨(0), (0), RF, RF, H', ⟨Nat.le_refl _⟩, ⟨KR HO284⟩, ⟨BB⟩⟩
 case round =>
  clear H'
  try clear p2
  try clear c3
  obtain ⟨x3_1, x9_1, rfl, rfl, HA, HK1, HO_7, HB⟩ := hrel
  cases gk with
  | zero => exact absurd HA.out (by simp [spec_nlKinds.l0])
  | succ k1 =>
   have H := HA.out
   clear HA
   simp only [spec_nlKinds.l0] at H
   by_cases c5 : x9_1 < (t282.length : Int)
   ·rw [if_pos c5] at H
    have c5b0 : decide (x9_1 < (t282.length : Int)) = true := decide_eq_true c5
    clear c5
    by_cases c6 : 0 ≤ x9_1
    ·rw [if_pos c6] at H
     have c6b0 : decide (0 ≤ x9_1) = true := decide_eq_true c6
     clear c6
     by_cases c7 : x9_1 < (t282.length : Int)
     ·rw [if_pos c7] at H
      have c7b0 : decide (x9_1 < (t282.length : Int)) = true := decide_eq_true c7
      clear c7
      by_cases c8 : (rd t282 x9_1) > 0
      ·rw [if_pos c8] at H
       have c8b0 : decide (0 < (rd t282 x9_1)) = true := decide_eq_true c8
       clear c8
       have H' := Aside0.mk H
       clear H
       have p285 : 0 ≤ (x9_1 : Int) := of_decide_eq_true AS
       have q285 : x9_1 < (t282.length : Int) := of_decide_eq_true AS
       obtain ⟨ad285, e285, hx285_0⟩ := Kd.at_int (Kd.R_reads' HO_7.out).2.2 x9_1 p285 q285
       cases e285
       replace p285 := eq_true p285
       replace q285 := eq_true q285
       go_wp2
       go_roundg k1
       case measure => have := HK1.out; omega
       case rel => exact ⟨(wrap64 (x3_1 + 1)), (wrap64 (x9_1 + 1)), RF, RF, H', ⟨by have := HK1.out; omega⟩, ⟨KR HO_7⟩, ⟨BB⟩⟩
      ·rw [if_neg c8] at H
       have c8b0 : decide (0 < (rd t282 x9_1)) = false := decide_eq_false c8
       clear c8
       have H' := Aside0.mk H
       clear H
       have p285 : 0 ≤ (x9_1 : Int) := of_decide_eq_true AS
       have q285 : x9_1 < (t282.length : Int) := of_decide_eq_true AS
       obtain ⟨ad285, e285, hx285_0⟩ := Kd.at_int (Kd.R_reads' HO_7.out).2.2 x9_1 p285 q285
       cases e285
       replace p285 := eq_true p285
       replace q285 := eq_true q285
       go_wp2
       go_roundg k1
       case measure => have := HK1.out; omega
       case rel => exact ⟨(x3_1), (wrap64 (x9_1 + 1)), RF, RF, H', ⟨by have := HK1.out; omega⟩, ⟨KR HO_7⟩, ⟨BB⟩⟩
     ·rw [if_neg c7] at H
      cases H
    ·rw [if_neg c6] at H
     cases H
   ·rw [if_neg c5] at H
    have c5b0 : decide (x9_1 < (t282.length : Int)) = false := decide_eq_false c5
    clear c5
    obtain rfl := Option.some.inj H
    go_wp2
    go_ret
    exact ⟨RE, BB⟩

/-! ### spec_KindsOfBeads: function 13 -/
def spec_KindsOfBeads.f (k : Nat) (a0 : ByteArray) : Option (Int × Bool) := (spec_nlGood.f k a0).bind fun t286 => (if t286 = true then ((spec_nlKinds.f k a0).bind fun t287 => (some (t287, true))) else (some (0, false)))
theorem spec_KindsOfBeads.mono : ∀ a0 k, LeO (spec_KindsOfBeads.f k a0) (spec_KindsOfBeads.f (k + 1) a0) := by
 intro a0 k
 unfold spec_KindsOfBeads.f
 repeat' first
   | with_reducible first | exact spec_nlGood.mono _ _ | exact spec_nlKinds.mono _ _ | exact LeO.refl _ | exact LeO.none _ | refine LeO.ite ?_ ?_ | refine LeO.bind ?_ (fun _ => ?_)
   | exact LeO.none _ | refine LeO.ite ?_ ?_ | refine LeO.bind ?_ (fun _ => ?_)
theorem spec_KindsOfBeads.calls (k : Nat) (a0 : ByteArray) (r1 : Int) (r2 : Bool) (w : World) (h : spec_KindsOfBeads.f k a0 = some (r1, r2)) :
  Calls Tryz.prog 13 #[.string a0] w fun e w' => e = .returned (.tuple #[.int .i64 r1, .bool r2]) ∧ Below w.heap.size w w' := by
 have HB := Aside0.mk (Below.refl w.heap.size w)
 have H : ((spec_nlGood.f k a0).bind fun t286 => (if t286 = true then ((spec_nlKinds.f k a0).bind fun t287 => (some (t287, true))) else (some (0, false)))) = some (r1, r2) := h
 clear h
 replace H := EA H
 obtain ⟨t286, A2, H⟩ := H
 by_cases c3 : t286 = true
 ·subst c3
  replace H := IP H
  replace H := EA H
  obtain ⟨t287, A4, H⟩ := H
  simp only [Option.some.injEq, Prod.mk.injEq] at H
  obtain ⟨rfl, rfl⟩ := H
  go_enter Tryz.func13, Tryz.ntmps13
  go_wp2_with (first | ((with_reducible refine gate_callee (f := 33) rfl ?_); refine goesL_ (some 5) rfl rfl Tryz.func33 (by kernel_rfl) rfl #[.string a0] rfl TA ?_; (with_reducible refine (spec_nlGood.calls k a0 true _ A2.out).mono ?_); rintro e w' ⟨rfl, ⟨nd, rfl⟩⟩; refine ⟨_, rfl, ?_⟩) | ((with_reducible refine gate_callee (f := 39) rfl ?_); refine goesL_ (some 8) rfl rfl Tryz.func39 (by kernel_rfl) rfl #[.string a0] rfl TA ?_; (with_reducible refine (spec_nlKinds.calls k a0 t287 _ A4.out).mono ?_); rintro e w5 ⟨rfl, hb⟩; refine ⟨_, rfl, ?_⟩; have n0_ := Aside0.mk (below_step BB hb); clear HB; have HB := n0_; clear n0_; (try clear hb); (try clear hb2); (try clear hk); (try clear hi)))
  go_ret2
  exact ⟨RE, BB⟩
 ·replace c3 := Bool.eq_false_iff.mpr c3
  subst c3
  replace H := IN H
  simp only [Option.some.injEq, Prod.mk.injEq] at H
  obtain ⟨rfl, rfl⟩ := H
  go_enter Tryz.func13, Tryz.ntmps13
  go_wp2_with (first | ((with_reducible refine gate_callee (f := 33) rfl ?_); refine goesL_ (some 5) rfl rfl Tryz.func33 (by kernel_rfl) rfl #[.string a0] rfl TA ?_; (with_reducible refine (spec_nlGood.calls k a0 false _ A2.out).mono ?_); rintro e w' ⟨rfl, ⟨nd, rfl⟩⟩; refine ⟨_, rfl, ?_⟩))
  go_ret2
  exact ⟨RE, BB⟩

/-! ### laws_zSame: function 14 -/
def laws_zSame.l0 : Nat → List Int → List Int → Int → Int → Option (Bool)
 | 0, _, _, _, _ => none
 | k + 1, x0, x1, x12, x13 => if x13 < x12 then (if 0 ≤ x13 then (if x13 < (x0.length : Int) then (if x13 < (x1.length : Int) then (if (rd x0 x13) = (rd x1 x13) then (laws_zSame.l0 k x0 x1 x12 (wrap64 (x13 + 1))) else (some false)) else (none)) else (none)) else (none)) else (some true)
def laws_zSame.f (k : Nat) (l0 : List Int) (l1 : List Int) : Option (Bool) := if (l0.length : Int) = (l1.length : Int) then (laws_zSame.l0 k l0 l1 (l0.length : Int) 0) else (some false)
theorem laws_zSame.mono_l : ∀ k, (∀ y0 y1 y2 y3, LeO (laws_zSame.l0 k y0 y1 y2 y3) (laws_zSame.l0 (k + 1) y0 y1 y2 y3))
 | 0 => fun _ _ _ _ r h => by simp [laws_zSame.l0] at h
 | k + 1 => by
  have ih0 := laws_zSame.mono_l k
  ·intro y0 y1 y2 y3
   unfold laws_zSame.l0
   repeat' first
   | with_reducible first | exact ih0 _ _ _ _ | exact LeO.refl _ | exact LeO.none _ | refine LeO.ite ?_ ?_ | refine LeO.bind ?_ (fun _ => ?_)
   | exact LeO.none _ | refine LeO.ite ?_ ?_ | refine LeO.bind ?_ (fun _ => ?_)
theorem laws_zSame.mono : ∀ a0 a1 k, LeO (laws_zSame.f k a0 a1) (laws_zSame.f (k + 1) a0 a1) := by
 intro a0 a1 k
 have ih0 := laws_zSame.mono_l k
 unfold laws_zSame.f
 repeat' first
   | with_reducible first | exact ih0 _ _ _ _ | exact LeO.refl _ | exact LeO.none _ | refine LeO.ite ?_ ?_ | refine LeO.bind ?_ (fun _ => ?_)
   | exact LeO.none _ | refine LeO.ite ?_ ?_ | refine LeO.bind ?_ (fun _ => ?_)
theorem laws_zSame.calls (k : Nat) (A0 : Option Addr) (c0 : Nat) (l0 : List Int) (A1 : Option Addr) (c1 : Nat) (l1 : List Int) (r : Bool) (w : World) (hr0 : Kd.C (Kd.int .i64) w A0 l0.length l0) (hc0 : l0.length ≤ c0) (hr1 : Kd.C (Kd.int .i64) w A1 l1.length l1) (hc1 : l1.length ≤ c1) (h : laws_zSame.f k l0 l1 = some r) :
  Calls Tryz.prog 14 #[.slice A0 l0.length c0, .slice A1 l1.length c1] w fun e w' => e = .returned (.bool r) ∧ Drawn0 w w' := by
 have HR0 := Aside0.mk hr0
 have HC0 := Aside0.mk hc0
 clear hr0 hc0
 have HR1 := Aside0.mk hr1
 have HC1 := Aside0.mk hc1
 clear hr1 hc1
 have H : (if (l0.length : Int) = (l1.length : Int) then (laws_zSame.l0 k l0 l1 (l0.length : Int) 0) else (some false)) = some r := h
 clear h
 by_cases c3 : (l0.length : Int) = (l1.length : Int)
 ·rw [if_pos c3] at H
  have c3b0 : ((l0.length : Int) == (l1.length : Int)) = true := beq_iff_eq.mpr c3
  have c3b1 : ((l0.length : Int) != (l1.length : Int)) = false := bne_eq_false_iff_eq.mpr c3
  have c3b2 : (l0.length == l1.length) = true := by first | simpa using c3 | (simp at c3 ⊢; omega)
  clear c3
  have H' := Aside0.mk H
  clear H
  go_enter Tryz.func14, Tryz.ntmps14
  go_wp2
  repeat (go_quiet (fail); try go_wp2)
  go_loopg [13] k (fun kq v13 w' => ∃ (x13_1 : Int), v13 = .int .i64 x13_1 ∧ Aside0 (laws_zSame.l0 kq l0 l1 (l0.length : Int) x13_1 = some r) ∧ Aside0 (kq ≤ k) ∧ Drawn0 w w')
  case atStart => exact ⟨(0), RF, H', ⟨Nat.le_refl _⟩, by repeat (first | exact Drawn0.refl _ | apply Drawn0.step)⟩
  case round =>
   clear H'
   try clear c1
   try clear p2
   try clear c3
   try clear c3b0
   try clear c3b1
   try clear c3b2
   obtain ⟨x13_1, rfl, HA, HK1, ⟨m1, rfl⟩⟩ := hrel
   cases gk with
   | zero => exact absurd HA.out (by simp [laws_zSame.l0])
   | succ k1 =>
    have H := HA.out
    clear HA
    simp only [laws_zSame.l0] at H
    by_cases c4 : x13_1 < (l0.length : Int)
    ·rw [if_pos c4] at H
     have c4b0 : decide (x13_1 < (l0.length : Int)) = true := decide_eq_true c4
     clear c4
     by_cases c5 : 0 ≤ x13_1
     ·rw [if_pos c5] at H
      have c5b0 : decide (0 ≤ x13_1) = true := decide_eq_true c5
      clear c5
      by_cases c6 : x13_1 < (l0.length : Int)
      ·rw [if_pos c6] at H
       have c6b0 : decide (x13_1 < (l0.length : Int)) = true := decide_eq_true c6
       clear c6
       by_cases c7 : x13_1 < (l1.length : Int)
       ·rw [if_pos c7] at H
        have c7b0 : decide (x13_1 < (l1.length : Int)) = true := decide_eq_true c7
        clear c7
        by_cases c8 : (rd l0 x13_1) = (rd l1 x13_1)
        ·rw [if_pos c8] at H
         have c8b0 : ((rd l0 x13_1) == (rd l1 x13_1)) = true := beq_iff_eq.mpr c8
         have c8b1 : ((rd l0 x13_1) != (rd l1 x13_1)) = false := bne_eq_false_iff_eq.mpr c8
         clear c8
         have H' := Aside0.mk H
         clear H
         have p288 : 0 ≤ (x13_1 : Int) := of_decide_eq_true AS
         have q288 : x13_1 < (l0.length : Int) := of_decide_eq_true AS
         obtain ⟨ad288, e288, hx288_0⟩ := Kd.at_int HR0.out x13_1 p288 q288
         cases e288
         replace p288 := eq_true p288
         replace q288 := eq_true q288
         have p289 : 0 ≤ (x13_1 : Int) := of_decide_eq_true AS
         have q289 : x13_1 < (l1.length : Int) := of_decide_eq_true AS
         obtain ⟨ad289, e289, hx289_0⟩ := Kd.at_int HR1.out x13_1 p289 q289
         cases e289
         replace p289 := eq_true p289
         replace q289 := eq_true q289
         go_wp2
         repeat (go_quiet (fail); try go_wp2)
         go_roundg k1
         case measure => have := HK1.out; omega
         case rel => exact ⟨(wrap64 (x13_1 + 1)), RF, H', ⟨by have := HK1.out; omega⟩, by repeat (first | exact Drawn0.refl _ | apply Drawn0.step)⟩
        ·rw [if_neg c8] at H
         have c8b0 : ((rd l0 x13_1) == (rd l1 x13_1)) = false := beq_eq_false_iff_ne.mpr c8
         have c8b1 : ((rd l0 x13_1) != (rd l1 x13_1)) = true := bne_iff_ne.mpr c8
         obtain rfl := Option.some.inj H
         have p288 : 0 ≤ (x13_1 : Int) := of_decide_eq_true AS
         have q288 : x13_1 < (l0.length : Int) := of_decide_eq_true AS
         obtain ⟨ad288, e288, hx288_0⟩ := Kd.at_int HR0.out x13_1 p288 q288
         cases e288
         replace p288 := eq_true p288
         replace q288 := eq_true q288
         have p289 : 0 ≤ (x13_1 : Int) := of_decide_eq_true AS
         have q289 : x13_1 < (l1.length : Int) := of_decide_eq_true AS
         obtain ⟨ad289, e289, hx289_0⟩ := Kd.at_int HR1.out x13_1 p289 q289
         cases e289
         replace p289 := eq_true p289
         replace q289 := eq_true q289
         go_wp2
         repeat (go_quiet (fail); try go_wp2)
         go_ret
         exact ⟨RF, DR⟩
       ·rw [if_neg c7] at H
        cases H
      ·rw [if_neg c6] at H
       cases H
     ·rw [if_neg c5] at H
      cases H
    ·rw [if_neg c4] at H
     have c4b0 : decide (x13_1 < (l0.length : Int)) = false := decide_eq_false c4
     clear c4
     obtain rfl := Option.some.inj H
     go_wp2
     repeat (go_quiet (fail); try go_wp2)
     go_ret
     exact ⟨RF, DR⟩
 ·rw [if_neg c3] at H
  have c3b0 : ((l0.length : Int) == (l1.length : Int)) = false := beq_eq_false_iff_ne.mpr c3
  have c3b1 : ((l0.length : Int) != (l1.length : Int)) = true := bne_iff_ne.mpr c3
  have c3b2 : (l0.length == l1.length) = false := by first | simpa using c3 | (simp at c3 ⊢; omega)
  obtain rfl := Option.some.inj H
  go_enter Tryz.func14, Tryz.ntmps14
  go_wp2
  repeat (go_quiet (fail); try go_wp2)
  go_ret
  exact ⟨RF, DR⟩

/-! ### spec_IsNecklace: function 16 -/
def spec_IsNecklace.f (k : Nat) (a0 : ByteArray) : Option (Bool) := (spec_nlGood.f k a0).bind fun t290 => (some t290)
theorem spec_IsNecklace.mono : ∀ a0 k, LeO (spec_IsNecklace.f k a0) (spec_IsNecklace.f (k + 1) a0) := by
 intro a0 k
 unfold spec_IsNecklace.f
 repeat' first
   | with_reducible first | exact spec_nlGood.mono _ _ | exact LeO.refl _ | exact LeO.none _ | refine LeO.ite ?_ ?_ | refine LeO.bind ?_ (fun _ => ?_)
   | exact LeO.none _ | refine LeO.ite ?_ ?_ | refine LeO.bind ?_ (fun _ => ?_)
theorem spec_IsNecklace.calls (k : Nat) (a0 : ByteArray) (r : Bool) (w : World) (h : spec_IsNecklace.f k a0 = some r) :
  Calls Tryz.prog 16 #[.string a0] w fun e w' => e = .returned (.bool r) ∧ Drawn0 w w' := by
 have H : ((spec_nlGood.f k a0).bind fun t290 => (some t290)) = some r := h
 clear h
 replace H := EA H
 obtain ⟨t290, A2, H⟩ := H
 obtain rfl := Option.some.inj H
 go_enter Tryz.func16, Tryz.ntmps16
 go_wp2_with (first | ((with_reducible refine gate_callee (f := 33) rfl ?_); refine goesL_ (some 4) rfl rfl Tryz.func33 (by kernel_rfl) rfl #[.string a0] rfl TA ?_; (with_reducible refine (spec_nlGood.calls k a0 t290 _ A2.out).mono ?_); rintro e w' ⟨rfl, ⟨nd, rfl⟩⟩; refine ⟨_, rfl, ?_⟩))
 go_ret
 exact ⟨RF, DR⟩

/-! ### laws_zSum: function 17 -/
def laws_zSum.l0 : Nat → Int → List Int → Int → Int → Option (Int)
 | 0, _, _, _, _ => none
 | k + 1, x3, x6, x7, x8 => if x8 < x7 then (if 0 ≤ x8 then (if x8 < (x6.length : Int) then (laws_zSum.l0 k (wrap64 (x3 + (rd x6 x8))) x6 x7 (wrap64 (x8 + 1))) else (none)) else (none)) else (some x3)
def laws_zSum.f (k : Nat) (l0 : List Int) : Option (Int) := laws_zSum.l0 k 0 l0 (l0.length : Int) 0
theorem laws_zSum.mono_l : ∀ k, (∀ y0 y1 y2 y3, LeO (laws_zSum.l0 k y0 y1 y2 y3) (laws_zSum.l0 (k + 1) y0 y1 y2 y3))
 | 0 => fun _ _ _ _ r h => by simp [laws_zSum.l0] at h
 | k + 1 => by
  have ih0 := laws_zSum.mono_l k
  ·intro y0 y1 y2 y3
   unfold laws_zSum.l0
   repeat' first
   | with_reducible first | exact ih0 _ _ _ _ | exact LeO.refl _ | exact LeO.none _ | refine LeO.ite ?_ ?_ | refine LeO.bind ?_ (fun _ => ?_)
   | exact LeO.none _ | refine LeO.ite ?_ ?_ | refine LeO.bind ?_ (fun _ => ?_)
theorem laws_zSum.mono : ∀ a0 k, LeO (laws_zSum.f k a0) (laws_zSum.f (k + 1) a0) := by
 intro a0 k
 have ih0 := laws_zSum.mono_l k
 unfold laws_zSum.f
 repeat' first
   | with_reducible first | exact ih0 _ _ _ _ | exact LeO.refl _ | exact LeO.none _ | refine LeO.ite ?_ ?_ | refine LeO.bind ?_ (fun _ => ?_)
   | exact LeO.none _ | refine LeO.ite ?_ ?_ | refine LeO.bind ?_ (fun _ => ?_)
theorem laws_zSum.calls (k : Nat) (A0 : Option Addr) (c0 : Nat) (l0 : List Int) (r : Int) (w : World) (hr0 : Kd.C (Kd.int .i64) w A0 l0.length l0) (hc0 : l0.length ≤ c0) (h : laws_zSum.f k l0 = some r) :
  Calls Tryz.prog 17 #[.slice A0 l0.length c0] w fun e w' => e = .returned (.int .i64 r) ∧ Drawn0 w w' := by
 have HR0 := Aside0.mk hr0
 have HC0 := Aside0.mk hc0
 clear hr0 hc0
 have H : (laws_zSum.l0 k 0 l0 (l0.length : Int) 0) = some r := h
 clear h
 have H' := Aside0.mk H
 clear H
 go_enter Tryz.func17, Tryz.ntmps17
 go_wp2
 go_loopg [3, 8] k (fun kq v3 v8 w' => ∃ (x3_1 : Int) (x8_1 : Int), v3 = .int .i64 x3_1 ∧ v8 = .int .i64 x8_1 ∧ Aside0 (laws_zSum.l0 kq x3_1 l0 (l0.length : Int) x8_1 = some r) ∧ Aside0 (kq ≤ k) ∧ Drawn0 w w')
 case atStart => exact ⟨(0), (0), RF, RF, H', ⟨Nat.le_refl _⟩, by repeat (first | exact Drawn0.refl _ | apply Drawn0.step)⟩
 case round =>
  clear H'
  try clear c1
  obtain ⟨x3_1, x8_1, rfl, rfl, HA, HK1, ⟨m1, rfl⟩⟩ := hrel
  cases gk with
  | zero => exact absurd HA.out (by simp [laws_zSum.l0])
  | succ k1 =>
   have H := HA.out
   clear HA
   simp only [laws_zSum.l0] at H
   by_cases c2 : x8_1 < (l0.length : Int)
   ·rw [if_pos c2] at H
    have c2b0 : decide (x8_1 < (l0.length : Int)) = true := decide_eq_true c2
    clear c2
    by_cases c3 : 0 ≤ x8_1
    ·rw [if_pos c3] at H
     have c3b0 : decide (0 ≤ x8_1) = true := decide_eq_true c3
     clear c3
     by_cases c4 : x8_1 < (l0.length : Int)
     ·rw [if_pos c4] at H
      have c4b0 : decide (x8_1 < (l0.length : Int)) = true := decide_eq_true c4
      clear c4
      have H' := Aside0.mk H
      clear H
      have p291 : 0 ≤ (x8_1 : Int) := of_decide_eq_true AS
      have q291 : x8_1 < (l0.length : Int) := of_decide_eq_true AS
      obtain ⟨ad291, e291, hx291_0⟩ := Kd.at_int HR0.out x8_1 p291 q291
      cases e291
      replace p291 := eq_true p291
      replace q291 := eq_true q291
      go_wp2
      go_roundg k1
      case measure => have := HK1.out; omega
      case rel => exact ⟨(wrap64 (x3_1 + (rd l0 x8_1))), (wrap64 (x8_1 + 1)), RF, RF, H', ⟨by have := HK1.out; omega⟩, by repeat (first | exact Drawn0.refl _ | apply Drawn0.step)⟩
     ·rw [if_neg c4] at H
      cases H
    ·rw [if_neg c3] at H
     cases H
   ·rw [if_neg c2] at H
    have c2b0 : decide (x8_1 < (l0.length : Int)) = false := decide_eq_false c2
    clear c2
    obtain rfl := Option.some.inj H
    go_wp2
    go_ret
    exact ⟨RF, DR⟩

/-! ### impl_in: function 47 -/
def impl_in.f (a0 : Int) (a1 : Int) (a2 : Int) : Option (Bool) := if a1 ≤ a0 then (some (decide (a0 ≤ a2))) else (some false)
theorem impl_in.calls (a0 : Int) (a1 : Int) (a2 : Int) (r : Bool) (w : World) (h : impl_in.f a0 a1 a2 = some r) :
  Calls Tryz.prog 47 #[.int .i64 a0, .int .i64 a1, .int .i64 a2] w fun e w' => e = .returned (.bool r) ∧ Drawn0 w w' := by
 have H : (if a1 ≤ a0 then (some (decide (a0 ≤ a2))) else (some false)) = some r := h
 clear h
 by_cases c4 : a1 ≤ a0
 ·rw [if_pos c4] at H
  have c4b0 : decide (a1 ≤ a0) = true := decide_eq_true c4
  clear c4
  obtain rfl := Option.some.inj H
  go_enter Tryz.func47, Tryz.ntmps47
  go_wp2
  go_ret
  exact ⟨RF, DR⟩
 ·rw [if_neg c4] at H
  have c4b0 : decide (a1 ≤ a0) = false := decide_eq_false c4
  clear c4
  obtain rfl := Option.some.inj H
  go_enter Tryz.func47, Tryz.ntmps47
  go_wp2
  go_ret
  exact ⟨RF, DR⟩

/-! ### impl_areCuts: function 41 -/
def impl_areCuts.l0 : Nat → ByteArray → List Int → List Int → Int → Int → Option (Bool)
 | 0, _, _, _, _, _ => none
 | k + 1, x0, x1, x10, x11, x12 => if x12 < x11 then (if 0 ≤ x12 then (if x12 < (x10.length : Int) then ((impl_in.f (rd x10 x12) 1 (wrap64 ((x0.size : Int) - 1))).bind fun t294 => (if t294 = true then (if x12 > 0 then (if 0 ≤ (wrap64 (x12 - 1)) then (if (wrap64 (x12 - 1)) < (x1.length : Int) then (if (rd x1 (wrap64 (x12 - 1))) ≥ (rd x10 x12) then (some false) else (impl_areCuts.l0 k x0 x1 x10 x11 (wrap64 (x12 + 1)))) else (none)) else (none)) else (impl_areCuts.l0 k x0 x1 x10 x11 (wrap64 (x12 + 1)))) else (some false))) else (none)) else (none)) else (some true)
def impl_areCuts.f (k : Nat) (a0 : ByteArray) (l1 : List Int) : Option (Bool) := (impl_IsNecklace.f a0).bind fun t292 => (if t292 = true then (impl_areCuts.l0 k a0 l1 l1 (l1.length : Int) 0) else (some false))
theorem impl_areCuts.mono_l : ∀ k, (∀ y0 y1 y2 y3 y4, LeO (impl_areCuts.l0 k y0 y1 y2 y3 y4) (impl_areCuts.l0 (k + 1) y0 y1 y2 y3 y4))
 | 0 => fun _ _ _ _ _ r h => by simp [impl_areCuts.l0] at h
 | k + 1 => by
  have ih0 := impl_areCuts.mono_l k
  ·intro y0 y1 y2 y3 y4
   unfold impl_areCuts.l0
   repeat' first
   | with_reducible first | exact ih0 _ _ _ _ _ | exact LeO.refl _ | exact LeO.none _ | refine LeO.ite ?_ ?_ | refine LeO.bind ?_ (fun _ => ?_)
   | exact LeO.none _ | refine LeO.ite ?_ ?_ | refine LeO.bind ?_ (fun _ => ?_)
theorem impl_areCuts.mono : ∀ a0 a1 k, LeO (impl_areCuts.f k a0 a1) (impl_areCuts.f (k + 1) a0 a1) := by
 intro a0 a1 k
 have ih0 := impl_areCuts.mono_l k
 unfold impl_areCuts.f
 repeat' first
   | with_reducible first | exact ih0 _ _ _ _ _ | exact LeO.refl _ | exact LeO.none _ | refine LeO.ite ?_ ?_ | refine LeO.bind ?_ (fun _ => ?_)
   | exact LeO.none _ | refine LeO.ite ?_ ?_ | refine LeO.bind ?_ (fun _ => ?_)
theorem impl_areCuts.calls (k : Nat) (a0 : ByteArray) (A1 : Option Addr) (c1 : Nat) (l1 : List Int) (r : Bool) (w : World) (hr1 : Kd.C (Kd.int .i64) w A1 l1.length l1) (hc1 : l1.length ≤ c1) (h : impl_areCuts.f k a0 l1 = some r) :
  Calls Tryz.prog 41 #[.string a0, .slice A1 l1.length c1] w fun e w' => e = .returned (.bool r) ∧ Below w.heap.size w w' := by
 have HR1 := Aside0.mk hr1
 have HC1 := Aside0.mk hc1
 clear hr1 hc1
 have HB := Aside0.mk (Below.refl w.heap.size w)
 have H : ((impl_IsNecklace.f a0).bind fun t292 => (if t292 = true then (impl_areCuts.l0 k a0 l1 l1 (l1.length : Int) 0) else (some false))) = some r := h
 clear h
 replace H := EA H
 obtain ⟨t292, A3, H⟩ := H
 by_cases c4 : t292 = true
 ·subst c4
  replace H := IP H
  have H' := Aside0.mk H
  clear H
  go_enter Tryz.func41, Tryz.ntmps41
  go_wp2_with (first | ((with_reducible refine gate_callee (f := 15) rfl ?_); refine goesL_ (some 8) rfl rfl Tryz.func15 (by kernel_rfl) rfl #[.string a0] rfl TA ?_; (with_reducible refine (impl_IsNecklace.calls a0 true _ A3.out).mono ?_); rintro e w5 ⟨rfl, hb⟩; refine ⟨_, rfl, ?_⟩; have n0_ := Aside0.mk (below_step BB hb); clear HB; have HB := n0_; clear n0_; (try clear hb); (try clear hb2); (try clear hk); (try clear hi)))
  go_loopg [12] k (fun kq v12 w' => ∃ (x12_1 : Int), v12 = .int .i64 x12_1 ∧ Aside0 (impl_areCuts.l0 kq a0 l1 l1 (l1.length : Int) x12_1 = some r) ∧ Aside0 (kq ≤ k) ∧ Aside0 (Below w.heap.size w w'))
  case atStart => exact ⟨(0), RF, H', ⟨Nat.le_refl _⟩, ⟨BB⟩⟩
  case round =>
   clear H'
   try clear c1
   try clear p2
   try clear c4
   obtain ⟨x12_1, rfl, HA, HK1, HB⟩ := hrel
   cases gk with
   | zero => exact absurd HA.out (by simp [impl_areCuts.l0])
   | succ k1 =>
    have H := HA.out
    clear HA
    simp only [impl_areCuts.l0] at H
    by_cases c6 : x12_1 < (l1.length : Int)
    ·rw [if_pos c6] at H
     have c6b0 : decide (x12_1 < (l1.length : Int)) = true := decide_eq_true c6
     clear c6
     by_cases c7 : 0 ≤ x12_1
     ·rw [if_pos c7] at H
      have c7b0 : decide (0 ≤ x12_1) = true := decide_eq_true c7
      clear c7
      by_cases c8 : x12_1 < (l1.length : Int)
      ·rw [if_pos c8] at H
       have c8b0 : decide (x12_1 < (l1.length : Int)) = true := decide_eq_true c8
       clear c8
       replace H := EA H
       obtain ⟨t294, A9, H⟩ := H
       by_cases c10 : t294 = true
       ·subst c10
        replace H := IP H
        by_cases c11 : x12_1 > 0
        ·rw [if_pos c11] at H
         have c11b0 : decide (0 < x12_1) = true := decide_eq_true c11
         clear c11
         obtain ⟨ji12, hji12⟩ : ∃ j_ : Int, (wrap64 (x12_1 - 1)) = j_ := ⟨_, rfl⟩
         replace H : (if 0 ≤ (ji12) then (if (ji12) < (l1.length : Int) then (if (rd l1 (ji12)) ≥ (rd l1 x12_1) then (some false) else (impl_areCuts.l0 k1 a0 l1 l1 (l1.length : Int) (wrap64 (x12_1 + 1)))) else (none)) else (none)) = some r := by first | (rw [hji12] at H; exact H) | (simp only [hji12] at H ⊢; exact H)
         (try rw [hji12] at A9)
         have hji12w : (IntKind.i64.wrap (x12_1 - 1)) = ji12 := (i64_w _).trans hji12
         by_cases c13 : 0 ≤ (ji12)
         ·rw [if_pos c13] at H
          have c13b0 : decide (0 ≤ (ji12)) = true := decide_eq_true c13
          clear c13
          by_cases c14 : (ji12) < (l1.length : Int)
          ·rw [if_pos c14] at H
           have c14b0 : decide ((ji12) < (l1.length : Int)) = true := decide_eq_true c14
           clear c14
           by_cases c15 : (rd l1 (ji12)) ≥ (rd l1 x12_1)
           ·rw [if_pos c15] at H
            have c15b0 : decide ((rd l1 x12_1) ≤ (rd l1 (ji12))) = true := decide_eq_true c15
            clear c15
            obtain rfl := Option.some.inj H
            have p293 : 0 ≤ (x12_1 : Int) := of_decide_eq_true AS
            have q293 : x12_1 < (l1.length : Int) := of_decide_eq_true AS
            obtain ⟨ad293, e293, hx293_0⟩ := Kd.at_int HR1.out x12_1 p293 q293
            cases e293
            try (replace hx293_0 := (HB.out.cell (World.block_lt_of_cell? w _ hx293_0)).trans hx293_0)
            replace p293 := eq_true p293
            replace q293 := eq_true q293
            go_wp2_with (first | ((with_reducible refine gate_callee (f := 47) rfl ?_); refine goesL_ (some 21) rfl rfl Tryz.func47 (by kernel_rfl) rfl #[.int .i64 (rd l1 x12_1), .int .i64 1, .int .i64 (wrap64 ((a0.size : Int) - 1))] rfl TA ?_; (with_reducible refine (impl_in.calls (rd l1 x12_1) 1 (wrap64 ((a0.size : Int) - 1)) true _ A9.out).mono ?_); rintro e w' ⟨rfl, ⟨nd, rfl⟩⟩; refine ⟨_, rfl, ?_⟩; have p295 : 0 ≤ ((ji12) : Int) := of_decide_eq_true AS; have q295 : (ji12) < (l1.length : Int) := of_decide_eq_true AS; obtain ⟨ad295, e295, hx295_0⟩ := Kd.at_int HR1.out (ji12) p295 q295; obtain rfl : ad293 = ad295 := (by injection e295); replace hx295_0 := (HB.out.cell (World.block_lt_of_cell? w _ hx295_0)).trans hx295_0; replace p295 := eq_true p295; replace q295 := eq_true q295))
            go_ret
            exact ⟨by first | rfl | (simp [errW_none, errW_some] <;> rfl) | (simp only [← hji12]; first | rfl | (simp [errW_none, errW_some] <;> rfl)) | (simp [*, errW_none, errW_some] <;> rfl), BB⟩
           ·rw [if_neg c15] at H
            have c15b0 : decide ((rd l1 x12_1) ≤ (rd l1 (ji12))) = false := decide_eq_false c15
            clear c15
            have H' := Aside0.mk H
            clear H
            have p293 : 0 ≤ (x12_1 : Int) := of_decide_eq_true AS
            have q293 : x12_1 < (l1.length : Int) := of_decide_eq_true AS
            obtain ⟨ad293, e293, hx293_0⟩ := Kd.at_int HR1.out x12_1 p293 q293
            cases e293
            try (replace hx293_0 := (HB.out.cell (World.block_lt_of_cell? w _ hx293_0)).trans hx293_0)
            replace p293 := eq_true p293
            replace q293 := eq_true q293
            go_wp2_with (first | ((with_reducible refine gate_callee (f := 47) rfl ?_); refine goesL_ (some 21) rfl rfl Tryz.func47 (by kernel_rfl) rfl #[.int .i64 (rd l1 x12_1), .int .i64 1, .int .i64 (wrap64 ((a0.size : Int) - 1))] rfl TA ?_; (with_reducible refine (impl_in.calls (rd l1 x12_1) 1 (wrap64 ((a0.size : Int) - 1)) true _ A9.out).mono ?_); rintro e w' ⟨rfl, ⟨nd, rfl⟩⟩; refine ⟨_, rfl, ?_⟩; have p295 : 0 ≤ ((ji12) : Int) := of_decide_eq_true AS; have q295 : (ji12) < (l1.length : Int) := of_decide_eq_true AS; obtain ⟨ad295, e295, hx295_0⟩ := Kd.at_int HR1.out (ji12) p295 q295; obtain rfl : ad293 = ad295 := (by injection e295); replace hx295_0 := (HB.out.cell (World.block_lt_of_cell? w _ hx295_0)).trans hx295_0; replace p295 := eq_true p295; replace q295 := eq_true q295))
            go_roundg k1
            case measure => have := HK1.out; omega
            case rel => exact ⟨(wrap64 (x12_1 + 1)), RF, H', ⟨by have := HK1.out; omega⟩, ⟨BB⟩⟩
          ·rw [if_neg c14] at H
           cases H
         ·rw [if_neg c13] at H
          cases H
        ·rw [if_neg c11] at H
         have c11b0 : decide (0 < x12_1) = false := decide_eq_false c11
         clear c11
         have H' := Aside0.mk H
         clear H
         have p293 : 0 ≤ (x12_1 : Int) := of_decide_eq_true AS
         have q293 : x12_1 < (l1.length : Int) := of_decide_eq_true AS
         obtain ⟨ad293, e293, hx293_0⟩ := Kd.at_int HR1.out x12_1 p293 q293
         cases e293
         try (replace hx293_0 := (HB.out.cell (World.block_lt_of_cell? w _ hx293_0)).trans hx293_0)
         replace p293 := eq_true p293
         replace q293 := eq_true q293
         go_wp2_with (first | ((with_reducible refine gate_callee (f := 47) rfl ?_); refine goesL_ (some 21) rfl rfl Tryz.func47 (by kernel_rfl) rfl #[.int .i64 (rd l1 x12_1), .int .i64 1, .int .i64 (wrap64 ((a0.size : Int) - 1))] rfl TA ?_; (with_reducible refine (impl_in.calls (rd l1 x12_1) 1 (wrap64 ((a0.size : Int) - 1)) true _ A9.out).mono ?_); rintro e w' ⟨rfl, ⟨nd, rfl⟩⟩; refine ⟨_, rfl, ?_⟩))
         go_roundg k1
         case measure => have := HK1.out; omega
         case rel => exact ⟨(wrap64 (x12_1 + 1)), RF, H', ⟨by have := HK1.out; omega⟩, ⟨BB⟩⟩
       ·replace c10 := Bool.eq_false_iff.mpr c10
        subst c10
        replace H := IN H
        obtain rfl := Option.some.inj H
        have p293 : 0 ≤ (x12_1 : Int) := of_decide_eq_true AS
        have q293 : x12_1 < (l1.length : Int) := of_decide_eq_true AS
        obtain ⟨ad293, e293, hx293_0⟩ := Kd.at_int HR1.out x12_1 p293 q293
        cases e293
        try (replace hx293_0 := (HB.out.cell (World.block_lt_of_cell? w _ hx293_0)).trans hx293_0)
        replace p293 := eq_true p293
        replace q293 := eq_true q293
        go_wp2_with (first | ((with_reducible refine gate_callee (f := 47) rfl ?_); refine goesL_ (some 21) rfl rfl Tryz.func47 (by kernel_rfl) rfl #[.int .i64 (rd l1 x12_1), .int .i64 1, .int .i64 (wrap64 ((a0.size : Int) - 1))] rfl TA ?_; (with_reducible refine (impl_in.calls (rd l1 x12_1) 1 (wrap64 ((a0.size : Int) - 1)) false _ A9.out).mono ?_); rintro e w' ⟨rfl, ⟨nd, rfl⟩⟩; refine ⟨_, rfl, ?_⟩))
        go_ret
        exact ⟨RE, BB⟩
      ·rw [if_neg c8] at H
       cases H
     ·rw [if_neg c7] at H
      cases H
    ·rw [if_neg c6] at H
     have c6b0 : decide (x12_1 < (l1.length : Int)) = false := decide_eq_false c6
     clear c6
     obtain rfl := Option.some.inj H
     go_wp2
     go_ret
     exact ⟨RE, BB⟩
 ·replace c4 := Bool.eq_false_iff.mpr c4
  subst c4
  replace H := IN H
  obtain rfl := Option.some.inj H
  go_enter Tryz.func41, Tryz.ntmps41
  go_wp2_with (first | ((with_reducible refine gate_callee (f := 15) rfl ?_); refine goesL_ (some 8) rfl rfl Tryz.func15 (by kernel_rfl) rfl #[.string a0] rfl TA ?_; (with_reducible refine (impl_IsNecklace.calls a0 false _ A3.out).mono ?_); rintro e w16 ⟨rfl, hb⟩; refine ⟨_, rfl, ?_⟩; have n0_ := Aside0.mk (below_step BB hb); clear HB; have HB := n0_; clear n0_; (try clear hb); (try clear hb2); (try clear hk); (try clear hi)))
  go_ret
  exact ⟨RE, BB⟩

/-! ### impl_IsFairSplit: function 18 -/
def impl_IsFairSplit.f (k : Nat) (a0 : ByteArray) (l1 : List Int) : Option (Bool × Bool) := (impl_areCuts.f k a0 l1).bind fun t296 => (if t296 = true then ((impl_isFair.f k a0 l1).bind fun t297 => (some (t297, true))) else (some (false, false)))
theorem impl_IsFairSplit.mono : ∀ a0 a1 k, LeO (impl_IsFairSplit.f k a0 a1) (impl_IsFairSplit.f (k + 1) a0 a1) := by
 intro a0 a1 k
 unfold impl_IsFairSplit.f
 repeat' first
   | with_reducible first | exact impl_areCuts.mono _ _ _ | exact impl_isFair.mono _ _ _ | exact LeO.refl _ | exact LeO.none _ | refine LeO.ite ?_ ?_ | refine LeO.bind ?_ (fun _ => ?_)
   | exact LeO.none _ | refine LeO.ite ?_ ?_ | refine LeO.bind ?_ (fun _ => ?_)
theorem impl_IsFairSplit.calls (k : Nat) (a0 : ByteArray) (A1 : Option Addr) (c1 : Nat) (l1 : List Int) (r1 : Bool) (r2 : Bool) (w : World) (hr1 : Kd.C (Kd.int .i64) w A1 l1.length l1) (hc1 : l1.length ≤ c1) (h : impl_IsFairSplit.f k a0 l1 = some (r1, r2)) :
  Calls Tryz.prog 18 #[.string a0, .slice A1 l1.length c1] w fun e w' => e = .returned (.tuple #[.bool r1, .bool r2]) ∧ Below w.heap.size w w' := by
 have HR1 := Aside0.mk hr1
 have HC1 := Aside0.mk hc1
 clear hr1 hc1
 have HB := Aside0.mk (Below.refl w.heap.size w)
 have H : ((impl_areCuts.f k a0 l1).bind fun t296 => (if t296 = true then ((impl_isFair.f k a0 l1).bind fun t297 => (some (t297, true))) else (some (false, false)))) = some (r1, r2) := h
 clear h
 replace H := EA H
 obtain ⟨t296, A3, H⟩ := H
 by_cases c4 : t296 = true
 ·subst c4
  replace H := IP H
  replace H := EA H
  obtain ⟨t297, A5, H⟩ := H
  simp only [Option.some.injEq, Prod.mk.injEq] at H
  obtain ⟨rfl, rfl⟩ := H
  go_enter Tryz.func18, Tryz.ntmps18
  go_wp2_with (first | ((with_reducible refine gate_callee (f := 41) rfl ?_); refine goesL_ (some 8) rfl rfl Tryz.func41 (by kernel_rfl) rfl #[.string a0, .slice A1 l1.length c1] rfl TA ?_; (with_reducible refine (impl_areCuts.calls k a0 _ _ l1 true _ ?side1 ?side2 A3.out).mono ?_); (case side1 => exact CW HR1.out); (case side2 => exact HC1.out); rintro e w6 ⟨rfl, hb⟩; refine ⟨_, rfl, ?_⟩; have n0_ := Aside0.mk (below_step BB hb); clear HB; have HB := n0_; clear n0_; (try clear hb); (try clear hb2); (try clear hk); (try clear hi)) | ((with_reducible refine gate_callee (f := 42) rfl ?_); refine goesL_ (some 12) rfl rfl Tryz.func42 (by kernel_rfl) rfl #[.string a0, .slice A1 l1.length c1] rfl TA ?_; (with_reducible refine (impl_isFair.calls k a0 _ _ l1 t297 _ ?side1 ?side2 A5.out).mono ?_); (case side1 => exact CW (Kd.C_below HR1.out HB.out)); (case side2 => exact HC1.out); rintro e w7 ⟨rfl, hb⟩; refine ⟨_, rfl, ?_⟩; have n0_ := Aside0.mk (below_step BB hb); clear HB; have HB := n0_; clear n0_; (try clear hb); (try clear hb2); (try clear hk); (try clear hi)))
  go_ret2
  exact ⟨RE, BB⟩
 ·replace c4 := Bool.eq_false_iff.mpr c4
  subst c4
  replace H := IN H
  simp only [Option.some.injEq, Prod.mk.injEq] at H
  obtain ⟨rfl, rfl⟩ := H
  go_enter Tryz.func18, Tryz.ntmps18
  go_wp2_with (first | ((with_reducible refine gate_callee (f := 41) rfl ?_); refine goesL_ (some 8) rfl rfl Tryz.func41 (by kernel_rfl) rfl #[.string a0, .slice A1 l1.length c1] rfl TA ?_; (with_reducible refine (impl_areCuts.calls k a0 _ _ l1 false _ ?side1 ?side2 A3.out).mono ?_); (case side1 => exact CW HR1.out); (case side2 => exact HC1.out); rintro e w8 ⟨rfl, hb⟩; refine ⟨_, rfl, ?_⟩; have n0_ := Aside0.mk (below_step BB hb); clear HB; have HB := n0_; clear n0_; (try clear hb); (try clear hb2); (try clear hk); (try clear hi)))
  go_ret2
  exact ⟨RE, BB⟩

/-! ### impl_ReverseBeads: function 19 (given) -/
def impl_ReverseBeads.f (a0 : ByteArray) : Option (ByteArray × Bool) := (impl_IsNecklace.f a0).bind fun t => if t = true then (if a0.size ≤ 9223372036854775807 then some (⟨a0.data.toList.reverse.toArray⟩, true) else none) else some ((⟨#[]⟩ : ByteArray), false)
def encB (b : UInt8) : Value := .int .u8 (b.toNat : Int)
theorem bytes_holds (w : World) (e : TypeId) (s : ByteArray) : Go.Sort.Holds encB (Go.Lib.bytesWorld w e s) w.heap.size 0 s.data.toList.toArray := by
 intro j hj
 have hj' : j < s.size := by simpa using hj
 have hl : j < s.data.toList.length := by simpa using hj
 refine ⟨?_, ?_⟩
 ·rw [Nat.zero_add, Go.Lib.bytesWorld_cell w e s j hj']
  have : s.data.toList.toArray[j]! = s.data.toList.getD j 0 := by
   rw [List.getD_eq_getElem?_getD, List.getElem?_eq_getElem hl, getElem!_pos s.data.toList.toArray j hj]; simp
  rw [this]; rfl
 ·have h := Go.Lib.bytesWorld_at_new w e s
  have hc : s.size ≤ (Go.Lib.bytesCells w e s).size := by simp [Go.Lib.bytesCells]
  rw [Nat.zero_add]
  unfold World.frozen?
  rw [h]
  simp
  omega
theorem rev_cell (w1 w2 : World) (e : TypeId) (s : ByteArray) (n : Nat) (hw : w2 = Go.Sort.putRow encB (Go.Sort.ahead (Go.Lib.bytesWorld w1 e s) n) w1.heap.size 0 s.data.toList.reverse.toArray) (j : Nat) (hj : j < s.data.toList.reverse.length) :
  w2.cell? ((⟨w1.heap.size, 0, none⟩ : Addr).add j) = some (.int .u8 (s.data.toList.reverse[j].toNat : Int)) := by
 have hb := bytes_holds w1 e s
 have hh : Go.Sort.Holds encB (Go.Sort.ahead (Go.Lib.bytesWorld w1 e s) n) w1.heap.size 0 s.data.toList.toArray := fun i hi => hb i hi
 have := (Go.Sort.holds_putRow encB (Go.Sort.ahead (Go.Lib.bytesWorld w1 e s) n) w1.heap.size 0 s.data.toList.toArray s.data.toList.reverse.toArray hh (by simp) j (by simpa using hj)).1
 rw [← hw] at this
 rw [add_at, this, getElem!_pos s.data.toList.reverse.toArray j (by simpa using hj)]
 simp [encB]
theorem rev_back (w1 w2 : World) (s : ByteArray) (n : Nat) (hw : w2 = Go.Sort.putRow encB (Go.Sort.ahead (Go.Lib.bytesWorld w1 5 s) n) w1.heap.size 0 s.data.toList.reverse.toArray) :
  (convert 22 9 (.slice (some ⟨w1.heap.size, 0, none⟩) s.size (grownCap w1 s.size 0 5))).run Tryz.prog w2 = .ok (.string ⟨s.data.toList.reverse.toArray⟩) w2 := by
 have h := run_convert_bytes_back (P := Tryz.prog) w2 22 9 5 ⟨w1.heap.size, 0, none⟩ (grownCap w1 s.size 0 5) s.data.toList.reverse Tryz.underlying22 Tryz.underlying5 Tryz.underlying9 (rev_cell w1 w2 5 s n hw)
 have z : s.data.toList.reverse.length = s.size := by rw [List.length_reverse]; exact Array.length_toList
 rw [z] at h
 exact h
theorem rev_below {w w1 w2 : World} {e : TypeId} {s : ByteArray} {n : Nat} (hb : Below w.heap.size w w1) (hw : w2 = Go.Sort.putRow encB (Go.Sort.ahead (Go.Lib.bytesWorld w1 e s) n) w1.heap.size 0 s.data.toList.reverse.toArray) : Below w.heap.size w w2 := by
 subst hw
 have hs := hb.size
 have hsz : (Go.Lib.bytesWorld w1 e s).heap.size = w1.heap.size + 1 := Go.Lib.bytesWorld_size w1 e s
 refine ⟨hb.os, hb.tape, hb.output, ?_, fun k hk => ?_⟩
 ·rw [Go.Sort.size_putRow]
  show w.heap.size ≤ (Go.Lib.bytesWorld w1 e s).heap.size
  omega
 ·have h1 : (Go.Sort.putRow encB (Go.Sort.ahead (Go.Lib.bytesWorld w1 e s) n) w1.heap.size 0 s.data.toList.reverse.toArray).heap[k]? = (Go.Lib.bytesWorld w1 e s).heap[k]? := by
   unfold Go.Sort.putRow Go.Sort.mapBlock
   simp [Go.Sort.ahead, Array.getElem?_modify, show w1.heap.size ≠ k by omega]
  rw [h1, Go.Lib.bytesWorld_at_old w1 e s k (by omega)]
  exact hb.block k hk
theorem rev_calls (w1 : World) (a0 : ByteArray) (h : a0.size ≤ 9223372036854775807) : Calls Tryz.prog 43 #[.slice (some ⟨w1.heap.size, 0, none⟩) a0.size (grownCap w1 a0.size 0 5)] (Go.Lib.bytesWorld w1 5 a0) fun e w' =>
  e = .returned (.tuple #[]) ∧ ∃ n, w' = Go.Sort.putRow encB (Go.Sort.ahead (Go.Lib.bytesWorld w1 5 a0) n) w1.heap.size 0 a0.data.toList.reverse.toArray := by
 have z : a0.data.toList.length = a0.size := Array.length_toList
 have := Go.Proofs.AnyE.slices_Reverse Go.Proofs.Tryz.revB encB (fun _ => rfl) w1.heap.size 0 (grownCap w1 a0.size 0 5) a0.data.toList (Go.Lib.bytesWorld w1 5 a0) (bytes_holds w1 5 a0) (by rw [z]; exact h)
 rw [z] at this
 exact this
set_option maxHeartbeats 4000000 in
set_option maxRecDepth 100000 in
theorem impl_ReverseBeads.calls (a0 : ByteArray) (r1 : ByteArray) (r2 : Bool) (w : World) (h : impl_ReverseBeads.f a0 = some (r1, r2)) :
  Calls Tryz.prog 19 #[.string a0] w fun e w' => e = .returned (.tuple #[.string r1, .bool r2]) ∧ Below w.heap.size w w' := by
 unfold impl_ReverseBeads.f at h
 obtain ⟨t, ht, h2⟩ := Option.bind_eq_some_iff.mp h
 have HT := Aside0.mk ht
 clear h ht
 cases t with
 | false =>
  rw [if_neg (by decide)] at h2
  obtain ⟨rfl, rfl⟩ := Prod.mk.injEq .. ▸ Option.some.inj h2
  go_enter Tryz.func19, Tryz.ntmps19
  go_wp2_with (go_at_call 15; refine (impl_IsNecklace.calls a0 false w HT.out).mono ?_; rintro e w1 ⟨rfl, hb⟩; have HB1 := Aside0.mk hb; clear hb)
  go_ret2
  exact ⟨rfl, HB1.out⟩
 | true =>
  rw [if_pos rfl] at h2
  split at h2
  ·rename_i hbig
   obtain ⟨rfl, rfl⟩ := Prod.mk.injEq .. ▸ Option.some.inj h2
   have HBIG := Aside0.mk hbig
   clear h2 hbig
   have conv := fun w : World => Go.Lib.run_convert_string_bytes w 9 22 5 a0 Tryz.underlying9 Tryz.underlying22 Tryz.underlying5
   go_enter Tryz.func19, Tryz.ntmps19
   go_wp2_with (first
    | (go_at_call 15; refine (impl_IsNecklace.calls a0 true w HT.out).mono ?_; rintro e w1 ⟨rfl, hb⟩; have HB1 := Aside0.mk hb; clear hb)
    | (go_at_call 43; refine (rev_calls w1 a0 HBIG.out).mono ?_; rintro e w2 ⟨rfl, n2, hw2⟩; have HW2 := Aside0.mk hw2; have back := rev_back w1 w2 a0 n2 hw2; clear hw2))
   go_ret2
   exact ⟨rfl, rev_below HB1.out HW2.out⟩
  ·cases h2

end Go.Proofs.YthkdkgbcokpbaacGreatDoor.PFnNecklacesShared
