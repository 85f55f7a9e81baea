-- Written by a program of this session (wip/tools/pp.sh) out of the translation; Lean checks it.
import Derived.Test.YthkdkgbcokpbaacGreatDoorPFnNecklacesSharedx0
import Derived.Test.YthkdkgbcokpbaacGreatDoorPFnNecklacesSharedx1
import Derived.Test.YthkdkgbcokpbaacGreatDoorPFnNecklacesSharedx3
import Derived.Test.YthkdkgbcokpbaacGreatDoorPFnNecklacesSharedx7
namespace Go.Proofs.YthkdkgbcokpbaacGreatDoor.PFnNecklacesShared
open Go.RowKit Go.Proofs.YthkdkgbcokpbaacGreatDoorOwn Go.Proofs.YthkdkgbcokpbaacGreatDoorW.PrintWords Go.Proofs.YthkdkgbcokpbaacGreatDoorW.PrintLast Go.Proofs.YthkdkgbcokpbaacGreatDoorW.PrintMore
attribute [local go_sem] max2_int min2_int max_two min_two max_three min_three max_four min_four   -- for this text's walks alone
set_option linter.unusedVariables false
set_option maxHeartbeats 8000000
set_option maxRecDepth 100000
set_option linter.unusedSimpArgs false

/-! ### impl_SortedBeads: function 25 -/
mutual
def impl_SortedBeads.j0 : Nat → List Int → Bool → Option (ByteArray × Bool)
 | 0, _, _ => none
 | k + 1, x0, x18 => if x18 = true then (some ((⟨#[]⟩ : ByteArray), false)) else (impl_SortedBeads.l0 k (⟨#[]⟩ : ByteArray) x0 (x0.length : Int) 0)
def impl_SortedBeads.l0 : Nat → ByteArray → List Int → Int → Int → Option (ByteArray × Bool)
 | 0, _, _, _, _ => none
 | k + 1, x4, x19, x20, x21 => if x21 < x20 then (if 0 ≤ x21 then (if x21 < (x19.length : Int) then (if x21 ≤ (wrap64 (x21 + 1)) then (if (wrap64 (x21 + 1)) ≤ 4 then ((strings_Repeat.f ((⟨#[97, 98, 99, 100]⟩ : ByteArray).extract (x21 : Int).toNat ((wrap64 (x21 + 1)) : Int).toNat) (rd x19 x21)).bind fun t357 => (if x4.size + t357.size ≤ 9223372036854775807 then (impl_SortedBeads.l0 k (x4 ++ t357) x19 x20 (wrap64 (x21 + 1))) else (none))) else (none)) else (none)) else (none)) else (none)) else (some (x4, true))
end
def impl_SortedBeads.f (k : Nat) (l0 : List Int) : Option (ByteArray × Bool) := if (l0.length : Int) = 4 then ((slices_ContainsFunc_int_int__impl_SortedBeads_1.f k l0).bind fun t354 => (if t354 = true then (impl_SortedBeads.j0 k l0 true) else ((impl_sum.f k l0).bind fun t355 => (impl_SortedBeads.j0 k l0 (decide (t355 > 16)))))) else (impl_SortedBeads.j0 k l0 true)
theorem impl_SortedBeads.mono_l : ∀ k, (∀ y0 y1, LeO (impl_SortedBeads.j0 k y0 y1) (impl_SortedBeads.j0 (k + 1) y0 y1)) ∧ (∀ y0 y1 y2 y3, LeO (impl_SortedBeads.l0 k y0 y1 y2 y3) (impl_SortedBeads.l0 (k + 1) y0 y1 y2 y3))
 | 0 => ⟨fun _ _ r h => by simp [impl_SortedBeads.j0] at h, fun _ _ _ _ r h => by simp [impl_SortedBeads.l0] at h⟩
 | k + 1 => by
  obtain ⟨ih0, ih1⟩ := impl_SortedBeads.mono_l k
  refine ⟨?_, ?_⟩
  ·intro y0 y1
   unfold impl_SortedBeads.j0
   repeat' first
   | with_reducible first | exact ih0 _ _ | exact ih1 _ _ _ _ | exact impl_sum.mono _ _ | exact slices_ContainsFunc_int_int__impl_SortedBeads_1.mono _ _ | exact LeO.refl _ | exact LeO.none _ | refine LeO.ite ?_ ?_ | refine LeO.bind ?_ (fun _ => ?_)
   | exact LeO.none _ | refine LeO.ite ?_ ?_ | refine LeO.bind ?_ (fun _ => ?_)
  ·intro y0 y1 y2 y3
   unfold impl_SortedBeads.l0
   repeat' first
   | with_reducible first | exact ih0 _ _ | exact ih1 _ _ _ _ | exact impl_sum.mono _ _ | exact slices_ContainsFunc_int_int__impl_SortedBeads_1.mono _ _ | exact LeO.refl _ | exact LeO.none _ | refine LeO.ite ?_ ?_ | refine LeO.bind ?_ (fun _ => ?_)
   | exact LeO.none _ | refine LeO.ite ?_ ?_ | refine LeO.bind ?_ (fun _ => ?_)
theorem impl_SortedBeads.mono : ∀ a0 k, LeO (impl_SortedBeads.f k a0) (impl_SortedBeads.f (k + 1) a0) := by
 intro a0 k
 obtain ⟨ih0, ih1⟩ := impl_SortedBeads.mono_l k
 unfold impl_SortedBeads.f
 repeat' first
   | with_reducible first | exact ih0 _ _ | exact ih1 _ _ _ _ | exact impl_sum.mono _ _ | exact slices_ContainsFunc_int_int__impl_SortedBeads_1.mono _ _ | exact LeO.refl _ | exact LeO.none _ | refine LeO.ite ?_ ?_ | refine LeO.bind ?_ (fun _ => ?_)
   | exact LeO.none _ | refine LeO.ite ?_ ?_ | refine LeO.bind ?_ (fun _ => ?_)
theorem impl_SortedBeads.calls (k : Nat) (A0 : Option Addr) (c0 : Nat) (l0 : List Int) (r1 : ByteArray) (r2 : Bool) (w : World) (hr0 : Kd.C (Kd.int .i64) w A0 l0.length l0) (hc0 : l0.length ≤ c0) (h : impl_SortedBeads.f k l0 = some (r1, r2)) :
  Calls Tryz.prog 25 #[.slice A0 l0.length c0] w fun e w' => e = .returned (.tuple #[.string r1, .bool r2]) ∧ Below w.heap.size w w' := by
 have HR0 := Aside0.mk hr0
 have HC0 := Aside0.mk hc0
 clear hr0 hc0
 have HB := Aside0.mk (Below.refl w.heap.size w)
 have H : (if (l0.length : Int) = 4 then ((slices_ContainsFunc_int_int__impl_SortedBeads_1.f k l0).bind fun t354 => (if t354 = true then (impl_SortedBeads.j0 k l0 true) else ((impl_sum.f k l0).bind fun t355 => (impl_SortedBeads.j0 k l0 (decide (t355 > 16)))))) else (impl_SortedBeads.j0 k l0 true)) = some (r1, r2) := h
 clear h
 have HC2 := Aside0.mk H
 clear H
 go_enter Tryz.func25, Tryz.ntmps25
 go_upto_region 1 with (fail)
 go_cut [18] (fun v18 wc => ∃ (kq : Nat) (x18_1 : Bool), v18 = .bool x18_1 ∧ Aside0 (impl_SortedBeads.j0 kq l0 x18_1 = some (r1, r2)) ∧ Aside0 (kq ≤ k) ∧ Aside0 (Below w.heap.size w wc))
 case first =>
  have H := HC2.out
  clear HC2
  by_cases c3 : (l0.length : Int) = 4
  ·rw [if_pos c3] at H
   have c3b0 : ((l0.length : Int) == 4) = true := beq_iff_eq.mpr c3
   have c3b1 : ((l0.length : Int) != 4) = false := bne_eq_false_iff_eq.mpr c3
   clear c3
   (first | rw [c3b0] | (simp only [i64_w, i32_w]; rw [c3b0]) | skip)
   replace H := EA H
   obtain ⟨t354, A4, H⟩ := H
   by_cases c5 : t354 = true
   ·subst c5
    replace H := IP H
    have H' := Aside0.mk H
    clear H
    go_wp2_with (first | (go_at_call 54; (with_reducible refine (slices_ContainsFunc_int_int__impl_SortedBeads_1.calls k _ _ l0  true _ ?side1 ?side2 A4.out).mono ?_); (case side1 => exact CW (Kd.C_below HR0.out HB.out)); (case side2 => exact HC0.out); rintro e w' ⟨rfl, ⟨nd, rfl⟩⟩))
    go_meet
    case rel => exact ⟨_, (true), RF, H', ⟨by first | omega | exact Nat.le_refl _⟩, ⟨BB⟩⟩
   ·replace c5 := Bool.eq_false_iff.mpr c5
    subst c5
    replace H := IN H
    replace H := EA H
    obtain ⟨t355, A6, H⟩ := H
    have H' := Aside0.mk H
    clear H
    go_wp2_with (first | (go_at_call 54; (with_reducible refine (slices_ContainsFunc_int_int__impl_SortedBeads_1.calls k _ _ l0  false _ ?side1 ?side2 A4.out).mono ?_); (case side1 => exact CW (Kd.C_below HR0.out HB.out)); (case side2 => exact HC0.out); rintro e w' ⟨rfl, ⟨nd, rfl⟩⟩) | (go_at_call 56; (with_reducible refine (impl_sum.calls k _ _ l0 t355 _ ?side1 ?side2 A6.out).mono ?_); (case side1 => exact CW (Kd.C_below HR0.out BB)); (case side2 => exact HC0.out); rintro e w' ⟨rfl, ⟨nd, rfl⟩⟩))
    go_meet
    case rel => exact ⟨_, (decide (t355 > 16)), RF, H', ⟨by first | omega | exact Nat.le_refl _⟩, ⟨BB⟩⟩
  ·rw [if_neg c3] at H
   have c3b0 : ((l0.length : Int) == 4) = false := beq_eq_false_iff_ne.mpr c3
   have c3b1 : ((l0.length : Int) != 4) = true := bne_iff_ne.mpr c3
   (first | rw [c3b0] | (simp only [i64_w, i32_w]; rw [c3b0]) | skip)
   have H' := Aside0.mk H
   clear H
   go_wp2
   go_meet
   case rel => exact ⟨_, (true), RF, H', ⟨by first | omega | exact Nat.le_refl _⟩, ⟨BB⟩⟩
 case rest =>
  clear HC2
  try clear c2
  try clear p2
  try clear c3
  try clear c3b0
  try clear c3b1
  try clear c5
  try clear p6
  obtain ⟨kq, x18_1, rfl, HA, HJ1, HB⟩ := hcut
  cases kq with
  | zero => exact absurd HA.out (by simp [impl_SortedBeads.j0])
  | succ kj1 =>
   have H := HA.out
   clear HA
   simp only [impl_SortedBeads.j0] at H
   by_cases c7 : x18_1 = true
   ·subst c7
    replace H := IP H
    simp only [Option.some.injEq, Prod.mk.injEq] at H
    obtain ⟨rfl, rfl⟩ := H
    go_wp2
    go_ret2
    exact ⟨RE, BB⟩
   ·replace c7 := Bool.eq_false_iff.mpr c7
    subst c7
    replace H := IN H
    have H' := Aside0.mk H
    clear H
    go_wp2
    go_loopg [4, 21] kj1 (fun kq v4 v21 w' => ∃ (x4_2 : ByteArray) (x21_2 : Int), v4 = .string x4_2 ∧ v21 = .int .i64 x21_2 ∧ Aside0 (impl_SortedBeads.l0 kq x4_2 l0 (l0.length : Int) x21_2 = some (r1, r2)) ∧ Aside0 (kq ≤ kj1) ∧ Aside0 (Below w.heap.size w w'))
    case atStart => exact ⟨((⟨#[]⟩ : ByteArray)), (0), RF, RF, H', ⟨Nat.le_refl _⟩, ⟨BB⟩⟩
    case round =>
     clear H'
     try clear c2
     try clear p2
     try clear c3
     try clear c3b0
     try clear c3b1
     try clear c5
     try clear p6
     try clear c7
     try clear p2
     try clear p6
     obtain ⟨x4_2, x21_2, rfl, rfl, HA, HK2, HB⟩ := hrel
     cases gk with
     | zero => exact absurd HA.out (by simp [impl_SortedBeads.l0])
     | succ k2 =>
      have H := HA.out
      clear HA
      simp only [impl_SortedBeads.l0] at H
      by_cases c8 : x21_2 < (l0.length : Int)
      ·rw [if_pos c8] at H
       have c8b0 : decide (x21_2 < (l0.length : Int)) = true := decide_eq_true c8
       clear c8
       by_cases c9 : 0 ≤ x21_2
       ·rw [if_pos c9] at H
        have c9b0 : decide (0 ≤ x21_2) = true := decide_eq_true c9
        clear c9
        by_cases c10 : x21_2 < (l0.length : Int)
        ·rw [if_pos c10] at H
         have c10b0 : decide (x21_2 < (l0.length : Int)) = true := decide_eq_true c10
         clear c10
         have c11b0 := eq_true (of_decide_eq_true AS : 0 ≤ x21_2)
         by_cases c12 : x21_2 ≤ (wrap64 (x21_2 + 1))
         ·rw [if_pos c12] at H
          have c12b0 := eq_true c12
          have c12b1 : decide (x21_2 ≤ (wrap64 (x21_2 + 1))) = true := decide_eq_true c12
          by_cases c13 : (wrap64 (x21_2 + 1)) ≤ 4
          ·rw [if_pos c13] at H
           have c13b0 := eq_true c13
           have c13b1 : decide ((wrap64 (x21_2 + 1)) ≤ 4) = true := decide_eq_true c13
           replace H := EA H
           obtain ⟨t357, A14, H⟩ := H
           by_cases c15 : x4_2.size + t357.size ≤ 9223372036854775807
           ·rw [if_pos c15] at H
            have c15b0 := eq_true c15
            have c15b1 : decide (x4_2.size + t357.size ≤ 9223372036854775807) = true := decide_eq_true c15
            try have c15b2 : (9223372036854775807 < x4_2.size + t357.size) = False := eq_false (Nat.not_lt.2 c15)
            have H' := Aside0.mk H
            clear H
            have p356 : 0 ≤ (x21_2 : Int) := of_decide_eq_true AS
            have q356 : x21_2 < (l0.length : Int) := of_decide_eq_true AS
            obtain ⟨ad356, e356, hx356_0⟩ := Kd.at_int HR0.out x21_2 p356 q356
            cases e356
            try (replace hx356_0 := (HB.out.cell (World.block_lt_of_cell? w _ hx356_0)).trans hx356_0)
            replace p356 := eq_true p356
            replace q356 := eq_true q356
            go_wp2_with (first | ((with_reducible refine gate_callee (f := 57) rfl ?_); refine goesL_ (some 32) rfl rfl Tryz.func57 (by kernel_rfl) rfl #[.string ((⟨#[97, 98, 99, 100]⟩ : ByteArray).extract (x21_2 : Int).toNat ((wrap64 (x21_2 + 1)) : Int).toNat), .int .i64 (rd l0 x21_2)] rfl TA ?_; (with_reducible refine (strings_Repeat.calls ((⟨#[97, 98, 99, 100]⟩ : ByteArray).extract (x21_2 : Int).toNat ((wrap64 (x21_2 + 1)) : Int).toNat) (rd l0 x21_2) t357 _ A14.out).mono ?_); rintro e w16 ⟨rfl, hb⟩; refine ⟨_, rfl, ?_⟩; have n0_ := Aside0.mk (below_step BB hb); clear HB; have HB := n0_; clear n0_; (try clear hb); (try clear hb2); (try clear hk); (try clear hi)))
            go_roundg k2
            case measure => have := HJ1.out; have := HK2.out; omega
            case rel => exact ⟨(x4_2 ++ t357), (wrap64 (x21_2 + 1)), RF, RF, H', ⟨by have := HJ1.out; have := HK2.out; omega⟩, ⟨BB⟩⟩
           ·rw [if_neg c15] at H
            cases H
          ·rw [if_neg c13] at H
           cases H
         ·rw [if_neg c12] at H
          cases H
        ·rw [if_neg c10] at H
         cases H
       ·rw [if_neg c9] at H
        cases H
      ·rw [if_neg c8] at H
       have c8b0 : decide (x21_2 < (l0.length : Int)) = false := decide_eq_false c8
       clear c8
       simp only [Option.some.injEq, Prod.mk.injEq] at H
       obtain ⟨rfl, rfl⟩ := H
       go_wp2
       go_ret2
       exact ⟨RE, BB⟩

/-! ### spec_l1All: function 58 -/
def spec_l1All.l0 : Nat → Int → Int → List Int → Int → Int → Option (Bool)
 | 0, _, _, _, _, _ => none
 | k + 1, x1, x2, x9, x10, x11 => if x11 < x10 then (if 0 ≤ x11 then (if x11 < (x9.length : Int) then ((spec_l1In.f (rd x9 x11) x1 x2).bind fun t359 => (if t359 = true then (spec_l1All.l0 k x1 x2 x9 x10 (wrap64 (x11 + 1))) else (some false))) else (none)) else (none)) else (some true)
def spec_l1All.f (k : Nat) (l0 : List Int) (a1 : Int) (a2 : Int) : Option (Bool) := spec_l1All.l0 k a1 a2 l0 (l0.length : Int) 0
theorem spec_l1All.mono_l : ∀ k, (∀ y0 y1 y2 y3 y4, LeO (spec_l1All.l0 k y0 y1 y2 y3 y4) (spec_l1All.l0 (k + 1) y0 y1 y2 y3 y4))
 | 0 => fun _ _ _ _ _ r h => by simp [spec_l1All.l0] at h
 | k + 1 => by
  have ih0 := spec_l1All.mono_l k
  ·intro y0 y1 y2 y3 y4
   unfold spec_l1All.l0
   repeat' first
   | with_reducible first | exact ih0 _ _ _ _ _ | exact LeO.refl _ | exact LeO.none _ | refine LeO.ite ?_ ?_ | refine LeO.bind ?_ (fun _ => ?_)
   | exact LeO.none _ | refine LeO.ite ?_ ?_ | refine LeO.bind ?_ (fun _ => ?_)
theorem spec_l1All.mono : ∀ a0 a1 a2 k, LeO (spec_l1All.f k a0 a1 a2) (spec_l1All.f (k + 1) a0 a1 a2) := by
 intro a0 a1 a2 k
 have ih0 := spec_l1All.mono_l k
 unfold spec_l1All.f
 repeat' first
   | with_reducible first | exact ih0 _ _ _ _ _ | exact LeO.refl _ | exact LeO.none _ | refine LeO.ite ?_ ?_ | refine LeO.bind ?_ (fun _ => ?_)
   | exact LeO.none _ | refine LeO.ite ?_ ?_ | refine LeO.bind ?_ (fun _ => ?_)
theorem spec_l1All.calls (k : Nat) (A0 : Option Addr) (c0 : Nat) (l0 : List Int) (a1 : Int) (a2 : Int) (r : Bool) (w : World) (hr0 : Kd.C (Kd.int .i64) w A0 l0.length l0) (hc0 : l0.length ≤ c0) (h : spec_l1All.f k l0 a1 a2 = some r) :
  Calls Tryz.prog 58 #[.slice A0 l0.length c0, .int .i64 a1, .int .i64 a2] w fun e w' => e = .returned (.bool r) ∧ Drawn0 w w' := by
 have HR0 := Aside0.mk hr0
 have HC0 := Aside0.mk hc0
 clear hr0 hc0
 have H : (spec_l1All.l0 k a1 a2 l0 (l0.length : Int) 0) = some r := h
 clear h
 have H' := Aside0.mk H
 clear H
 go_enter Tryz.func58, Tryz.ntmps58
 go_wp2
 go_loopg [11] k (fun kq v11 w' => ∃ (x11_1 : Int), v11 = .int .i64 x11_1 ∧ Aside0 (spec_l1All.l0 kq a1 a2 l0 (l0.length : Int) x11_1 = some r) ∧ Aside0 (kq ≤ k) ∧ Drawn0 w w')
 case atStart => exact ⟨(0), RF, H', ⟨Nat.le_refl _⟩, by repeat (first | exact Drawn0.refl _ | apply Drawn0.step)⟩
 case round =>
  clear H'
  try clear p2
  obtain ⟨x11_1, rfl, HA, HK1, ⟨m1, rfl⟩⟩ := hrel
  cases gk with
  | zero => exact absurd HA.out (by simp [spec_l1All.l0])
  | succ k1 =>
   have H := HA.out
   clear HA
   simp only [spec_l1All.l0] at H
   by_cases c4 : x11_1 < (l0.length : Int)
   ·rw [if_pos c4] at H
    have c4b0 : decide (x11_1 < (l0.length : Int)) = true := decide_eq_true c4
    clear c4
    by_cases c5 : 0 ≤ x11_1
    ·rw [if_pos c5] at H
     have c5b0 : decide (0 ≤ x11_1) = true := decide_eq_true c5
     clear c5
     by_cases c6 : x11_1 < (l0.length : Int)
     ·rw [if_pos c6] at H
      have c6b0 : decide (x11_1 < (l0.length : Int)) = true := decide_eq_true c6
      clear c6
      replace H := EA H
      obtain ⟨t359, A7, H⟩ := H
      by_cases c8 : t359 = true
      ·subst c8
       replace H := IP H
       have H' := Aside0.mk H
       clear H
       have p358 : 0 ≤ (x11_1 : Int) := of_decide_eq_true AS
       have q358 : x11_1 < (l0.length : Int) := of_decide_eq_true AS
       obtain ⟨ad358, e358, hx358_0⟩ := Kd.at_int HR0.out x11_1 p358 q358
       cases e358
       replace p358 := eq_true p358
       replace q358 := eq_true q358
       go_wp2_with (first | ((with_reducible refine gate_callee (f := 51) rfl ?_); refine goesL_ (some 18) rfl rfl Tryz.func51 (by kernel_rfl) rfl #[.int .i64 (rd l0 x11_1), .int .i64 a1, .int .i64 a2] rfl TA ?_; (with_reducible refine (spec_l1In.calls (rd l0 x11_1) a1 a2 true _ A7.out).mono ?_); rintro e w' ⟨rfl, ⟨nd, rfl⟩⟩; refine ⟨_, rfl, ?_⟩))
       go_roundg k1
       case measure => have := HK1.out; omega
       case rel => exact ⟨(wrap64 (x11_1 + 1)), RF, H', ⟨by have := HK1.out; omega⟩, by repeat (first | exact Drawn0.refl _ | apply Drawn0.step)⟩
      ·replace c8 := Bool.eq_false_iff.mpr c8
       subst c8
       replace H := IN H
       obtain rfl := Option.some.inj H
       have p358 : 0 ≤ (x11_1 : Int) := of_decide_eq_true AS
       have q358 : x11_1 < (l0.length : Int) := of_decide_eq_true AS
       obtain ⟨ad358, e358, hx358_0⟩ := Kd.at_int HR0.out x11_1 p358 q358
       cases e358
       replace p358 := eq_true p358
       replace q358 := eq_true q358
       go_wp2_with (first | ((with_reducible refine gate_callee (f := 51) rfl ?_); refine goesL_ (some 18) rfl rfl Tryz.func51 (by kernel_rfl) rfl #[.int .i64 (rd l0 x11_1), .int .i64 a1, .int .i64 a2] rfl TA ?_; (with_reducible refine (spec_l1In.calls (rd l0 x11_1) a1 a2 false _ A7.out).mono ?_); rintro e w' ⟨rfl, ⟨nd, rfl⟩⟩; refine ⟨_, rfl, ?_⟩))
       go_ret
       exact ⟨RF, DR⟩
     ·rw [if_neg c6] at H
      cases H
    ·rw [if_neg c5] at H
     cases H
   ·rw [if_neg c4] at H
    have c4b0 : decide (x11_1 < (l0.length : Int)) = false := decide_eq_false c4
    clear c4
    obtain rfl := Option.some.inj H
    go_wp2
    go_ret
    exact ⟨RF, DR⟩

/-! ### spec_SortedBeads: function 26 -/
mutual
def spec_SortedBeads.j0 : Nat → List Int → Bool → Option (ByteArray × Bool)
 | 0, _, _ => none
 | k + 1, x0, x14 => if x14 = true then (some ((⟨#[]⟩ : ByteArray), false)) else (spec_SortedBeads.l0 k (⟨#[]⟩ : ByteArray) x0 (x0.length : Int) 0)
def spec_SortedBeads.l0 : Nat → ByteArray → List Int → Int → Int → Option (ByteArray × Bool)
 | 0, _, _, _, _ => none
 | k + 1, x4, x15, x16, x17 => if x17 < x16 then (if 0 ≤ x17 then (if x17 < (x15.length : Int) then (spec_SortedBeads.l1 k x4 x17 (rd x15 x17) x15 x16 x17) else (none)) else (none)) else (if (x4.size : Int) > 16 then (some ((⟨#[]⟩ : ByteArray), false)) else (some (x4, true)))
def spec_SortedBeads.l1 : Nat → ByteArray → Int → Int → List Int → Int → Int → Option (ByteArray × Bool)
 | 0, _, _, _, _, _, _ => none
 | k + 1, x4, x5, x6, x15, x16, x17 => if x6 > 0 then (if 0 ≤ x5 then (if x5 ≤ (wrap64 (x5 + 1)) then (if (wrap64 (x5 + 1)) ≤ 4 then (if x4.size + ((⟨#[97, 98, 99, 100]⟩ : ByteArray).extract (x5 : Int).toNat ((wrap64 (x5 + 1)) : Int).toNat).size ≤ 9223372036854775807 then (spec_SortedBeads.l1 k (x4 ++ ((⟨#[97, 98, 99, 100]⟩ : ByteArray).extract (x5 : Int).toNat ((wrap64 (x5 + 1)) : Int).toNat)) x5 (wrap64 (x6 - 1)) x15 x16 x17) else (none)) else (none)) else (none)) else (none)) else (spec_SortedBeads.l0 k x4 x15 x16 (wrap64 (x17 + 1)))
end
def spec_SortedBeads.f (k : Nat) (l0 : List Int) : Option (ByteArray × Bool) := if (l0.length : Int) = 4 then ((spec_l1All.f k l0 0 16).bind fun t360 => (spec_SortedBeads.j0 k l0 (!t360))) else (spec_SortedBeads.j0 k l0 true)
theorem spec_SortedBeads.mono_l : ∀ k, (∀ y0 y1, LeO (spec_SortedBeads.j0 k y0 y1) (spec_SortedBeads.j0 (k + 1) y0 y1)) ∧ (∀ y0 y1 y2 y3, LeO (spec_SortedBeads.l0 k y0 y1 y2 y3) (spec_SortedBeads.l0 (k + 1) y0 y1 y2 y3)) ∧ (∀ y0 y1 y2 y3 y4 y5, LeO (spec_SortedBeads.l1 k y0 y1 y2 y3 y4 y5) (spec_SortedBeads.l1 (k + 1) y0 y1 y2 y3 y4 y5))
 | 0 => ⟨fun _ _ r h => by simp [spec_SortedBeads.j0] at h, fun _ _ _ _ r h => by simp [spec_SortedBeads.l0] at h, fun _ _ _ _ _ _ r h => by simp [spec_SortedBeads.l1] at h⟩
 | k + 1 => by
  obtain ⟨ih0, ih1, ih2⟩ := spec_SortedBeads.mono_l k
  refine ⟨?_, ?_, ?_⟩
  ·intro y0 y1
   unfold spec_SortedBeads.j0
   repeat' first
   | with_reducible first | exact ih0 _ _ | exact ih1 _ _ _ _ | exact ih2 _ _ _ _ _ _ | exact spec_l1All.mono _ _ _ _ | exact LeO.refl _ | exact LeO.none _ | refine LeO.ite ?_ ?_ | refine LeO.bind ?_ (fun _ => ?_)
   | exact LeO.none _ | refine LeO.ite ?_ ?_ | refine LeO.bind ?_ (fun _ => ?_)
  ·intro y0 y1 y2 y3
   unfold spec_SortedBeads.l0
   repeat' first
   | with_reducible first | exact ih0 _ _ | exact ih1 _ _ _ _ | exact ih2 _ _ _ _ _ _ | exact spec_l1All.mono _ _ _ _ | exact LeO.refl _ | exact LeO.none _ | refine LeO.ite ?_ ?_ | refine LeO.bind ?_ (fun _ => ?_)
   | exact LeO.none _ | refine LeO.ite ?_ ?_ | refine LeO.bind ?_ (fun _ => ?_)
  ·intro y0 y1 y2 y3 y4 y5
   unfold spec_SortedBeads.l1
   repeat' first
   | with_reducible first | exact ih0 _ _ | exact ih1 _ _ _ _ | exact ih2 _ _ _ _ _ _ | exact spec_l1All.mono _ _ _ _ | exact LeO.refl _ | exact LeO.none _ | refine LeO.ite ?_ ?_ | refine LeO.bind ?_ (fun _ => ?_)
   | exact LeO.none _ | refine LeO.ite ?_ ?_ | refine LeO.bind ?_ (fun _ => ?_)
theorem spec_SortedBeads.mono : ∀ a0 k, LeO (spec_SortedBeads.f k a0) (spec_SortedBeads.f (k + 1) a0) := by
 intro a0 k
 obtain ⟨ih0, ih1, ih2⟩ := spec_SortedBeads.mono_l k
 unfold spec_SortedBeads.f
 repeat' first
   | with_reducible first | exact ih0 _ _ | exact ih1 _ _ _ _ | exact ih2 _ _ _ _ _ _ | exact spec_l1All.mono _ _ _ _ | exact LeO.refl _ | exact LeO.none _ | refine LeO.ite ?_ ?_ | refine LeO.bind ?_ (fun _ => ?_)
   | exact LeO.none _ | refine LeO.ite ?_ ?_ | refine LeO.bind ?_ (fun _ => ?_)
theorem spec_SortedBeads.calls (k : Nat) (A0 : Option Addr) (c0 : Nat) (l0 : List Int) (r1 : ByteArray) (r2 : Bool) (w : World) (hr0 : Kd.C (Kd.int .i64) w A0 l0.length l0) (hc0 : l0.length ≤ c0) (h : spec_SortedBeads.f k l0 = some (r1, r2)) :
  Calls Tryz.prog 26 #[.slice A0 l0.length c0] w fun e w' => e = .returned (.tuple #[.string r1, .bool r2]) ∧ Drawn0 w w' := by
 have HR0 := Aside0.mk hr0
 have HC0 := Aside0.mk hc0
 clear hr0 hc0
 have H : (if (l0.length : Int) = 4 then ((spec_l1All.f k l0 0 16).bind fun t360 => (spec_SortedBeads.j0 k l0 (!t360))) else (spec_SortedBeads.j0 k l0 true)) = some (r1, r2) := h
 clear h
 have HC2 := Aside0.mk H
 clear H
 go_enter Tryz.func26, Tryz.ntmps26
 go_upto_region 1 with (fail)
 go_cut [14] (fun v14 wc => ∃ (kq : Nat) (x14_1 : Bool), v14 = .bool x14_1 ∧ Aside0 (spec_SortedBeads.j0 kq l0 x14_1 = some (r1, r2)) ∧ Aside0 (kq ≤ k) ∧ Drawn0 w wc)
 case first =>
  have H := HC2.out
  clear HC2
  by_cases c3 : (l0.length : Int) = 4
  ·rw [if_pos c3] at H
   have c3b0 : ((l0.length : Int) == 4) = true := beq_iff_eq.mpr c3
   have c3b1 : ((l0.length : Int) != 4) = false := bne_eq_false_iff_eq.mpr c3
   clear c3
   (first | rw [c3b0] | (simp only [i64_w, i32_w]; rw [c3b0]) | skip)
   replace H := EA H
   obtain ⟨t360, A4, H⟩ := H
   have H' := Aside0.mk H
   clear H
   go_wp2_with (first | (go_at_call 58; (with_reducible refine (spec_l1All.calls k _ _ l0 0 16 t360 _ ?side1 ?side2 A4.out).mono ?_); (case side1 => exact CW HR0.out); (case side2 => exact HC0.out); rintro e w' ⟨rfl, ⟨nd, rfl⟩⟩))
   go_meet
   case rel => exact ⟨_, (!t360), RF, H', ⟨by first | omega | exact Nat.le_refl _⟩, by repeat (first | exact Drawn0.refl _ | apply Drawn0.step)⟩
  ·rw [if_neg c3] at H
   have c3b0 : ((l0.length : Int) == 4) = false := beq_eq_false_iff_ne.mpr c3
   have c3b1 : ((l0.length : Int) != 4) = true := bne_iff_ne.mpr c3
   (first | rw [c3b0] | (simp only [i64_w, i32_w]; rw [c3b0]) | skip)
   have H' := Aside0.mk H
   clear H
   go_wp2
   go_meet
   case rel => exact ⟨_, (true), RF, H', ⟨by first | omega | exact Nat.le_refl _⟩, by repeat (first | exact Drawn0.refl _ | apply Drawn0.step)⟩
 case rest =>
  clear HC2
  try clear c2
  try clear p2
  try clear c3
  try clear c3b0
  try clear c3b1
  obtain ⟨kq, x14_1, rfl, HA, HJ1, ⟨mc1, rfl⟩⟩ := hcut
  cases kq with
  | zero => exact absurd HA.out (by simp [spec_SortedBeads.j0])
  | succ kj1 =>
   have H := HA.out
   clear HA
   simp only [spec_SortedBeads.j0] at H
   by_cases c5 : x14_1 = true
   ·subst c5
    replace H := IP H
    simp only [Option.some.injEq, Prod.mk.injEq] at H
    obtain ⟨rfl, rfl⟩ := H
    go_wp2
    go_ret2
    exact ⟨RF, DR⟩
   ·replace c5 := Bool.eq_false_iff.mpr c5
    subst c5
    replace H := IN H
    have H' := Aside0.mk H
    clear H
    go_wp2
    go_loopg [4, 17] kj1 (fun kq v4 v17 w' => ∃ (x4_2 : ByteArray) (x17_2 : Int), v4 = .string x4_2 ∧ v17 = .int .i64 x17_2 ∧ Aside0 (spec_SortedBeads.l0 kq x4_2 l0 (l0.length : Int) x17_2 = some (r1, r2)) ∧ Aside0 (kq ≤ kj1) ∧ Drawn0 w w')
    case atStart => exact ⟨((⟨#[]⟩ : ByteArray)), (0), RF, RF, H', ⟨Nat.le_refl _⟩, by repeat (first | exact Drawn0.refl _ | apply Drawn0.step)⟩
    case round =>
     clear H'
     try clear c1
     try clear c2
     try clear p2
     try clear c3
     try clear c3b0
     try clear c3b1
     try clear c5
     try clear p2
     obtain ⟨x4_2, x17_2, rfl, rfl, HA, HK2, ⟨m2, rfl⟩⟩ := hrel
     cases gk with
     | zero => exact absurd HA.out (by simp [spec_SortedBeads.l0])
     | succ k2 =>
      have H := HA.out
      clear HA
      simp only [spec_SortedBeads.l0] at H
      by_cases c6 : x17_2 < (l0.length : Int)
      ·rw [if_pos c6] at H
       have c6b0 : decide (x17_2 < (l0.length : Int)) = true := decide_eq_true c6
       clear c6
       by_cases c7 : 0 ≤ x17_2
       ·rw [if_pos c7] at H
        have c7b0 : decide (0 ≤ x17_2) = true := decide_eq_true c7
        clear c7
        by_cases c8 : x17_2 < (l0.length : Int)
        ·rw [if_pos c8] at H
         have c8b0 : decide (x17_2 < (l0.length : Int)) = true := decide_eq_true c8
         clear c8
         have H' := Aside0.mk H
         clear H
         have p361 : 0 ≤ (x17_2 : Int) := of_decide_eq_true AS
         have q361 : x17_2 < (l0.length : Int) := of_decide_eq_true AS
         obtain ⟨ad361, e361, hx361_0⟩ := Kd.at_int HR0.out x17_2 p361 q361
         cases e361
         replace p361 := eq_true p361
         replace q361 := eq_true q361
         go_wp2
         go_loopg [4, 6] k2 (fun kq v4 v6 w' => ∃ (x4_3 : ByteArray) (x6_3 : Int), v4 = .string x4_3 ∧ v6 = .int .i64 x6_3 ∧ Aside0 (spec_SortedBeads.l1 kq x4_3 x17_2 x6_3 l0 (l0.length : Int) x17_2 = some (r1, r2)) ∧ Aside0 (kq ≤ k2) ∧ Drawn0 w w')
         case atStart => exact ⟨(x4_2), (rd l0 x17_2), RF, RF, H', ⟨Nat.le_refl _⟩, by repeat (first | exact Drawn0.refl _ | apply Drawn0.step)⟩
         case round =>
          clear H'
          try clear c1
          try clear c2
          try clear p2
          try clear c3
          try clear c3b0
          try clear c3b1
          try clear p3
          try clear q3
          try clear hx3
          try clear c5
          try clear c6
          try clear c6b0
          try clear p6
          try clear c7
          try clear c7b0
          try clear c8
          try clear c8b0
          try clear hx361_0
          try clear p2
          try clear p361
          try clear q361
          obtain ⟨x4_3, x6_3, rfl, rfl, HA, HK3, ⟨m3, rfl⟩⟩ := hrel
          cases gk with
          | zero => exact absurd HA.out (by simp [spec_SortedBeads.l1])
          | succ k3 =>
           have H := HA.out
           clear HA
           simp only [spec_SortedBeads.l1] at H
           by_cases c9 : x6_3 > 0
           ·rw [if_pos c9] at H
            have c9b0 : decide (0 < x6_3) = true := decide_eq_true c9
            clear c9
            by_cases c10 : 0 ≤ x17_2
            ·rw [if_pos c10] at H
             have c10b0 := eq_true c10
             have c10b1 : decide (0 ≤ x17_2) = true := decide_eq_true c10
             clear c10
             by_cases c11 : x17_2 ≤ (wrap64 (x17_2 + 1))
             ·rw [if_pos c11] at H
              have c11b0 := eq_true c11
              have c11b1 : decide (x17_2 ≤ (wrap64 (x17_2 + 1))) = true := decide_eq_true c11
              by_cases c12 : (wrap64 (x17_2 + 1)) ≤ 4
              ·rw [if_pos c12] at H
               have c12b0 := eq_true c12
               have c12b1 : decide ((wrap64 (x17_2 + 1)) ≤ 4) = true := decide_eq_true c12
               by_cases c13 : x4_3.size + ((⟨#[97, 98, 99, 100]⟩ : ByteArray).extract (x17_2 : Int).toNat ((wrap64 (x17_2 + 1)) : Int).toNat).size ≤ 9223372036854775807
               ·rw [if_pos c13] at H
                have c13b0 := eq_true c13
                have c13b1 : decide (x4_3.size + ((⟨#[97, 98, 99, 100]⟩ : ByteArray).extract (x17_2 : Int).toNat ((wrap64 (x17_2 + 1)) : Int).toNat).size ≤ 9223372036854775807) = true := decide_eq_true c13
                try have c13b2 : (9223372036854775807 < x4_3.size + ((⟨#[97, 98, 99, 100]⟩ : ByteArray).extract (x17_2 : Int).toNat ((wrap64 (x17_2 + 1)) : Int).toNat).size) = False := eq_false (Nat.not_lt.2 c13)
                have H' := Aside0.mk H
                clear H
                go_wp2
                go_roundg k3
                case measure => have := HJ1.out; have := HK2.out; have := HK3.out; omega
                case rel => exact ⟨(x4_3 ++ ((⟨#[97, 98, 99, 100]⟩ : ByteArray).extract (x17_2 : Int).toNat ((wrap64 (x17_2 + 1)) : Int).toNat)), (wrap64 (x6_3 - 1)), RF, RF, H', ⟨by have := HJ1.out; have := HK2.out; have := HK3.out; omega⟩, by repeat (first | exact Drawn0.refl _ | apply Drawn0.step)⟩
               ·rw [if_neg c13] at H
                cases H
              ·rw [if_neg c12] at H
               cases H
             ·rw [if_neg c11] at H
              cases H
            ·rw [if_neg c10] at H
             cases H
           ·rw [if_neg c9] at H
            have c9b0 : decide (0 < x6_3) = false := decide_eq_false c9
            clear c9
            have H' := Aside0.mk H
            clear H
            go_wp2
            go_roundg k3
            case measure => have := HJ1.out; have := HK2.out; have := HK3.out; omega
            case rel => exact ⟨(x4_3), (wrap64 (x17_2 + 1)), RF, RF, H', ⟨by have := HJ1.out; have := HK2.out; have := HK3.out; omega⟩, by repeat (first | exact Drawn0.refl _ | apply Drawn0.step)⟩
        ·rw [if_neg c8] at H
         cases H
       ·rw [if_neg c7] at H
        cases H
      ·rw [if_neg c6] at H
       have c6b0 : decide (x17_2 < (l0.length : Int)) = false := decide_eq_false c6
       clear c6
       by_cases c14 : (x4_2.size : Int) > 16
       ·rw [if_pos c14] at H
        have c14b0 : decide (16 < (x4_2.size : Int)) = true := decide_eq_true c14
        have c14b1 : decide (16 < x4_2.size) = true := decide_eq_true (by omega)
        clear c14
        simp only [Option.some.injEq, Prod.mk.injEq] at H
        obtain ⟨rfl, rfl⟩ := H
        go_wp2
        go_ret2
        exact ⟨RF, DR⟩
       ·rw [if_neg c14] at H
        have c14b0 : decide (16 < (x4_2.size : Int)) = false := decide_eq_false c14
        have c14b1 : decide (16 < x4_2.size) = false := decide_eq_false (by omega)
        clear c14
        simp only [Option.some.injEq, Prod.mk.injEq] at H
        obtain ⟨rfl, rfl⟩ := H
        go_wp2
        go_ret2
        exact ⟨RF, DR⟩

/-! ### spec_DrawReverseBeads: function 27 -/
def spec_DrawReverseBeads.f (k : Nat) (l0 : List Int) : Option (ByteArray) := (spec_l1Cur_beads.f k l0 0 0 10).bind fun bt363 => (some bt363.1)
theorem spec_DrawReverseBeads.mono : ∀ a0 k, LeO (spec_DrawReverseBeads.f k a0) (spec_DrawReverseBeads.f (k + 1) a0) := by
 intro a0 k
 unfold spec_DrawReverseBeads.f
 repeat' first
   | with_reducible first | exact spec_l1Cur_beads.mono _ _ _ _ _ | exact LeO.refl _ | exact LeO.none _ | refine LeO.ite ?_ ?_ | refine LeO.bind ?_ (fun _ => ?_)
   | exact LeO.none _ | refine LeO.ite ?_ ?_ | refine LeO.bind ?_ (fun _ => ?_)
theorem spec_DrawReverseBeads.calls (k : Nat) (A0 : Option Addr) (c0 : Nat) (l0 : List Int) (r : ByteArray) (w : World) (hr0 : Kd.C (Kd.int .u8) w A0 l0.length l0) (hc0 : l0.length ≤ c0) (h : spec_DrawReverseBeads.f k l0 = some r) :
  Calls Tryz.prog 27 #[.slice A0 l0.length c0] w fun e w' => e = .returned (.string r) ∧ Below w.heap.size w w' := by
 have hu58 := Tryz.underlying58
 have HR0 := Aside0.mk hr0
 have HC0 := Aside0.mk hc0
 clear hr0 hc0
 have HB := Aside0.mk (Below.refl w.heap.size w)
 have H : ((spec_l1Cur_beads.f k l0 0 0 10).bind fun bt363 => (some bt363.1)) = some r := h
 clear h
 replace H := EA H
 obtain ⟨⟨t363, t364, t365⟩, A2, H⟩ := H
 try dsimp only at H
 obtain rfl := Option.some.inj H
 go_enter Tryz.func27, Tryz.ntmps27
 go_wp2_with (first | ((with_reducible refine gate_dst (N := 6) rfl ?_); refine box_event ?hg (N := 6) ?hd (cs := #[.slice A0 l0.length c0, .int .i64 0, .int .u64 0]) (t := 58) ?hr ?_; (case hd => rfl); (case hg => rfl); (case hr => exact GS); intro gb362 hg w3 hbox hb; have n0_ := Aside0.mk (below_step BB hb); have n1_ := Aside0.mk ((by rw [hg]; exact (below_size BB) : w.heap.size ≤ gb362)); have n2_ := Aside0.mk ((by rw [hg]; exact (below_size BB) : w.heap.size ≤ gb362)); have n3_ := Aside0.mk ((show IsS58 w w3 gb362 l0 0 0 from ⟨A0, c0, hbox, (by rw [hg]; exact (below_size BB) : w.heap.size ≤ gb362), HR0.out⟩)); clear HB; have HB := n0_; have GW362 := n1_; have GE362 := n2_; have HI362 := n3_; clear n0_ n1_ n2_ n3_; clear hb hbox hg) | ((with_reducible refine gate_callee (f := 49) rfl ?_); refine goesL_ (some 8) rfl rfl Tryz.func49 (by kernel_rfl) rfl #[.pointer (some ⟨gb362, 0, none⟩), .int .i64 10] rfl TA ?_; (with_reducible refine (spec_l1Cur_beads.calls k gb362 l0 0 0 10 t363 t364 t365 w _ ?side1 ?side2 A2.out).mono ?_); (case side1 => repeat (first | (with_reducible first | exact HI362.out | apply IsS58.alloc | apply IsS58.drewN | apply IsS58.drew | apply IsS58.set_1 | apply IsS58.set_2) | exact HI362.out)); (case side2 => repeat (first | (with_reducible first | exact HB.out | apply below_alloc | apply pw_below_drewN | apply below_drew1 | refine below_set ?_ (IsS58.ge HI362.out)) | exact HB.out)); rintro e w4 ⟨rfl, hi, hb, hk⟩; refine ⟨_, rfl, ?_⟩; have n0_ := Aside0.mk (hb); have n1_ := Aside0.mk (hi); clear HB; clear HI362; have HB := n0_; have HI362 := n1_; clear n0_ n1_; (try clear hb); (try clear hb2); (try clear hk); (try clear hi)))
 go_ret
 exact ⟨RE, by repeat (first | (with_reducible first | exact HB.out | apply below_alloc | apply pw_below_drewN | apply below_drew1 | refine below_set ?_ (IsS58.ge HI362.out)) | exact HB.out)⟩

/-! ### spec_ReverseBeads: function 28 -/
def spec_ReverseBeads.l0 : Nat → ByteArray → ByteArray → Int → Option (ByteArray × Bool)
 | 0, _, _, _ => none
 | k + 1, x0, x4, x5 => if x5 ≥ 0 then (if 0 ≤ x5 then (if x5 ≤ (wrap64 (x5 + 1)) then (if (wrap64 (x5 + 1)) ≤ (x0.size : Int) then (if x4.size + (x0.extract (x5 : Int).toNat ((wrap64 (x5 + 1)) : Int).toNat).size ≤ 9223372036854775807 then (spec_ReverseBeads.l0 k x0 (x4 ++ (x0.extract (x5 : Int).toNat ((wrap64 (x5 + 1)) : Int).toNat)) (wrap64 (x5 - 1))) else (none)) else (none)) else (none)) else (none)) else (some (x4, true))
def spec_ReverseBeads.f (k : Nat) (a0 : ByteArray) : Option (ByteArray × Bool) := (spec_nlGood.f k a0).bind fun t366 => (if t366 = true then (spec_ReverseBeads.l0 k a0 (⟨#[]⟩ : ByteArray) (wrap64 ((a0.size : Int) - 1))) else (some ((⟨#[]⟩ : ByteArray), false)))
theorem spec_ReverseBeads.mono_l : ∀ k, (∀ y0 y1 y2, LeO (spec_ReverseBeads.l0 k y0 y1 y2) (spec_ReverseBeads.l0 (k + 1) y0 y1 y2))
 | 0 => fun _ _ _ r h => by simp [spec_ReverseBeads.l0] at h
 | k + 1 => by
  have ih0 := spec_ReverseBeads.mono_l k
  ·intro y0 y1 y2
   unfold spec_ReverseBeads.l0
   repeat' first
   | with_reducible first | exact ih0 _ _ _ | exact spec_nlGood.mono _ _ | exact LeO.refl _ | exact LeO.none _ | refine LeO.ite ?_ ?_ | refine LeO.bind ?_ (fun _ => ?_)
   | exact LeO.none _ | refine LeO.ite ?_ ?_ | refine LeO.bind ?_ (fun _ => ?_)
theorem spec_ReverseBeads.mono : ∀ a0 k, LeO (spec_ReverseBeads.f k a0) (spec_ReverseBeads.f (k + 1) a0) := by
 intro a0 k
 have ih0 := spec_ReverseBeads.mono_l k
 unfold spec_ReverseBeads.f
 repeat' first
   | with_reducible first | exact ih0 _ _ _ | exact spec_nlGood.mono _ _ | exact LeO.refl _ | exact LeO.none _ | refine LeO.ite ?_ ?_ | refine LeO.bind ?_ (fun _ => ?_)
   | exact LeO.none _ | refine LeO.ite ?_ ?_ | refine LeO.bind ?_ (fun _ => ?_)
theorem spec_ReverseBeads.calls (k : Nat) (a0 : ByteArray) (r1 : ByteArray) (r2 : Bool) (w : World) (h : spec_ReverseBeads.f k a0 = some (r1, r2)) :
  Calls Tryz.prog 28 #[.string a0] w fun e w' => e = .returned (.tuple #[.string r1, .bool r2]) ∧ Drawn0 w w' := by
 have H : ((spec_nlGood.f k a0).bind fun t366 => (if t366 = true then (spec_ReverseBeads.l0 k a0 (⟨#[]⟩ : ByteArray) (wrap64 ((a0.size : Int) - 1))) else (some ((⟨#[]⟩ : ByteArray), false)))) = some (r1, r2) := h
 clear h
 replace H := EA H
 obtain ⟨t366, A2, H⟩ := H
 by_cases c3 : t366 = true
 ·subst c3
  replace H := IP H
  have H' := Aside0.mk H
  clear H
  go_enter Tryz.func28, Tryz.ntmps28
  go_wp2_with (first | ((with_reducible refine gate_callee (f := 33) rfl ?_); refine goesL_ (some 7) rfl rfl Tryz.func33 (by kernel_rfl) rfl #[.string a0] rfl TA ?_; (with_reducible refine (spec_nlGood.calls k a0 true _ A2.out).mono ?_); rintro e w' ⟨rfl, ⟨nd, rfl⟩⟩; refine ⟨_, rfl, ?_⟩))
  go_loopg [4, 5] k (fun kq v4 v5 w' => ∃ (x4_1 : ByteArray) (x5_1 : Int), v4 = .string x4_1 ∧ v5 = .int .i64 x5_1 ∧ Aside0 (spec_ReverseBeads.l0 kq a0 x4_1 x5_1 = some (r1, r2)) ∧ Aside0 (kq ≤ k) ∧ Drawn0 w w')
  case atStart => exact ⟨((⟨#[]⟩ : ByteArray)), (wrap64 ((a0.size : Int) - 1)), RF, RF, H', ⟨Nat.le_refl _⟩, by repeat (first | exact Drawn0.refl _ | apply Drawn0.step)⟩
  case round =>
   clear H'
   try clear c2
   try clear p2
   try clear c3
   obtain ⟨x4_1, x5_1, rfl, rfl, HA, HK1, ⟨m1, rfl⟩⟩ := hrel
   cases gk with
   | zero => exact absurd HA.out (by simp [spec_ReverseBeads.l0])
   | succ k1 =>
    have H := HA.out
    clear HA
    simp only [spec_ReverseBeads.l0] at H
    by_cases c4 : x5_1 ≥ 0
    ·rw [if_pos c4] at H
     have c4b0 : decide (0 ≤ x5_1) = true := decide_eq_true c4
     clear c4
     by_cases c5 : 0 ≤ x5_1
     ·rw [if_pos c5] at H
      have c5b0 := eq_true c5
      have c5b1 : decide (0 ≤ x5_1) = true := decide_eq_true c5
      clear c5
      by_cases c6 : x5_1 ≤ (wrap64 (x5_1 + 1))
      ·rw [if_pos c6] at H
       have c6b0 := eq_true c6
       have c6b1 : decide (x5_1 ≤ (wrap64 (x5_1 + 1))) = true := decide_eq_true c6
       by_cases c7 : (wrap64 (x5_1 + 1)) ≤ (a0.size : Int)
       ·rw [if_pos c7] at H
        have c7b0 := eq_true c7
        have c7b1 : decide ((wrap64 (x5_1 + 1)) ≤ (a0.size : Int)) = true := decide_eq_true c7
        by_cases c8 : x4_1.size + (a0.extract (x5_1 : Int).toNat ((wrap64 (x5_1 + 1)) : Int).toNat).size ≤ 9223372036854775807
        ·rw [if_pos c8] at H
         have c8b0 := eq_true c8
         have c8b1 : decide (x4_1.size + (a0.extract (x5_1 : Int).toNat ((wrap64 (x5_1 + 1)) : Int).toNat).size ≤ 9223372036854775807) = true := decide_eq_true c8
         try have c8b2 : (9223372036854775807 < x4_1.size + (a0.extract (x5_1 : Int).toNat ((wrap64 (x5_1 + 1)) : Int).toNat).size) = False := eq_false (Nat.not_lt.2 c8)
         have H' := Aside0.mk H
         clear H
         go_wp2
         go_roundg k1
         case measure => have := HK1.out; omega
         case rel => exact ⟨(x4_1 ++ (a0.extract (x5_1 : Int).toNat ((wrap64 (x5_1 + 1)) : Int).toNat)), (wrap64 (x5_1 - 1)), RF, RF, H', ⟨by have := HK1.out; omega⟩, by repeat (first | exact Drawn0.refl _ | apply Drawn0.step)⟩
        ·rw [if_neg c8] at H
         cases H
       ·rw [if_neg c7] at H
        cases H
      ·rw [if_neg c6] at H
       cases H
     ·rw [if_neg c5] at H
      cases H
    ·rw [if_neg c4] at H
     have c4b0 : decide (0 ≤ x5_1) = false := decide_eq_false c4
     clear c4
     simp only [Option.some.injEq, Prod.mk.injEq] at H
     obtain ⟨rfl, rfl⟩ := H
     go_wp2
     go_ret2
     exact ⟨RF, DR⟩
 ·replace c3 := Bool.eq_false_iff.mpr c3
  subst c3
  replace H := IN H
  simp only [Option.some.injEq, Prod.mk.injEq] at H
  obtain ⟨rfl, rfl⟩ := H
  go_enter Tryz.func28, Tryz.ntmps28
  go_wp2_with (first | ((with_reducible refine gate_callee (f := 33) rfl ?_); refine goesL_ (some 7) rfl rfl Tryz.func33 (by kernel_rfl) rfl #[.string a0] rfl TA ?_; (with_reducible refine (spec_nlGood.calls k a0 false _ A2.out).mono ?_); rintro e w' ⟨rfl, ⟨nd, rfl⟩⟩; refine ⟨_, rfl, ?_⟩))
  go_ret2
  exact ⟨RF, DR⟩

end Go.Proofs.YthkdkgbcokpbaacGreatDoor.PFnNecklacesShared
