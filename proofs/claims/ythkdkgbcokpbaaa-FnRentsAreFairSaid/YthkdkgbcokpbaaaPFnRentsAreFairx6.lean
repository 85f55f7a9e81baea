-- Written by a program of this session (wip/tools/pp.sh) out of the translation; Lean checks it.
import Derived.Test.YthkdkgbcokpbaaaPFnRentsAreFairx0
import Derived.Test.YthkdkgbcokpbaaaPFnRentsAreFairx2
import Derived.Test.YthkdkgbcokpbaaaPFnRentsAreFairx4
import Derived.Test.YthkdkgbcokpbaaaPFnRentsAreFairx5
namespace Go.Proofs.Ythkdkgbcokpbaaa.PFnRentsAreFair
open Go.RowKit Go.Proofs.YthkdkgbcokpbaaaOwn Go.Proofs.YthkdkgbcokpbaaaW.PrintWords Go.Proofs.YthkdkgbcokpbaaaW.PrintLast Go.Proofs.YthkdkgbcokpbaaaW.PrintMore
attribute [local go_sem] max2_int min2_int max_two min_two max_three min_three max_four min_four   -- for this text's walks alone
set_option linter.unusedVariables false
set_option maxHeartbeats 8000000
set_option maxRecDepth 100000
set_option linter.unusedSimpArgs false

/-! ### spec_FairRent: function 7 -/
mutual
def spec_FairRent.j0 : Nat → Int → List (List Int) → Bool → Option (Int × List Int × Bool)
 | 0, _, _, _ => none
 | k + 1, x0, x1, x21 => if x21 = true then (some (0, ([] : List Int), false)) else (spec_FairRent.l0 k x0 x1 0 (-1) ([] : List Int) 0)
def spec_FairRent.l0 : Nat → Int → List (List Int) → Int → Int → List Int → Int → Option (Int × List Int × Bool)
 | 0, _, _, _, _, _, _ => none
 | k + 1, x0, x1, x7, x8, x9, x10 => (spec_meCount.f x0).bind fun t280 => (if x10 < t280 then ((spec_ckAll.f).bind fun t281 => (spec_FairRent.l1 k x0 x1 x7 x8 x9 x10 t281 (t281.length : Int) 0)) else (some (x7, x9, true)))
def spec_FairRent.l1 : Nat → Int → List (List Int) → Int → Int → List Int → Int → List (List Int) → Int → Int → Option (Int × List Int × Bool)
 | 0, _, _, _, _, _, _, _, _, _ => none
 | k + 1, x0, x1, x7, x8, x9, x10, x28, x29, x30 => if x30 < x29 then (if 0 ≤ x30 then (if x30 < (x28.length : Int) then ((spec_ckCosts.f k x0 x1 x10).bind fun t285 => ((spec_ckEnvy.f k t285 (rd_L2 x28 x30)).bind fun t288 => (if x8 < 0 then (spec_FairRent.l1 k x0 x1 x10 t288 (rd_L2 x28 x30) x10 x28 x29 (wrap64 (x30 + 1))) else (if t288 < x8 then (spec_FairRent.l1 k x0 x1 x10 t288 (rd_L2 x28 x30) x10 x28 x29 (wrap64 (x30 + 1))) else (spec_FairRent.l1 k x0 x1 x7 x8 x9 x10 x28 x29 (wrap64 (x30 + 1))))))) else (none)) else (none)) else (spec_FairRent.l0 k x0 x1 x7 x8 x9 (wrap64 (x10 + 1)))
end
def spec_FairRent.f (k : Nat) (a0 : Int) (l1 : List (List Int)) : Option (Int × List Int × Bool) := (spec_meSide.f a0).bind fun t278 => (if t278 = true then ((spec_ckRooms.f k l1).bind fun t279 => (spec_FairRent.j0 k a0 l1 (!t279))) else (spec_FairRent.j0 k a0 l1 true))
theorem spec_FairRent.mono_l : ∀ k, (∀ y0 y1 y2, LeO (spec_FairRent.j0 k y0 y1 y2) (spec_FairRent.j0 (k + 1) y0 y1 y2)) ∧ (∀ y0 y1 y2 y3 y4 y5, LeO (spec_FairRent.l0 k y0 y1 y2 y3 y4 y5) (spec_FairRent.l0 (k + 1) y0 y1 y2 y3 y4 y5)) ∧ (∀ y0 y1 y2 y3 y4 y5 y6 y7 y8, LeO (spec_FairRent.l1 k y0 y1 y2 y3 y4 y5 y6 y7 y8) (spec_FairRent.l1 (k + 1) y0 y1 y2 y3 y4 y5 y6 y7 y8))
 | 0 => ⟨fun _ _ _ r h => by simp [spec_FairRent.j0] at h, fun _ _ _ _ _ _ r h => by simp [spec_FairRent.l0] at h, fun _ _ _ _ _ _ _ _ _ r h => by simp [spec_FairRent.l1] at h⟩
 | k + 1 => by
  obtain ⟨ih0, ih1, ih2⟩ := spec_FairRent.mono_l k
  refine ⟨?_, ?_, ?_⟩
  ·intro y0 y1 y2
   unfold spec_FairRent.j0
   repeat' first
   | with_reducible first | exact ih0 _ _ _ | exact ih1 _ _ _ _ _ _ | exact ih2 _ _ _ _ _ _ _ _ _ | exact spec_ckCosts.mono _ _ _ _ | exact spec_ckEnvy.mono _ _ _ | exact spec_ckRooms.mono _ _ | exact LeO.refl _ | exact LeO.none _ | refine LeO.ite ?_ ?_ | refine LeO.bind ?_ (fun _ => ?_)
   | exact LeO.none _ | refine LeO.ite ?_ ?_ | refine LeO.bind ?_ (fun _ => ?_)
  ·intro y0 y1 y2 y3 y4 y5
   unfold spec_FairRent.l0
   repeat' first
   | with_reducible first | exact ih0 _ _ _ | exact ih1 _ _ _ _ _ _ | exact ih2 _ _ _ _ _ _ _ _ _ | exact spec_ckCosts.mono _ _ _ _ | exact spec_ckEnvy.mono _ _ _ | exact spec_ckRooms.mono _ _ | exact LeO.refl _ | exact LeO.none _ | refine LeO.ite ?_ ?_ | refine LeO.bind ?_ (fun _ => ?_)
   | exact LeO.none _ | refine LeO.ite ?_ ?_ | refine LeO.bind ?_ (fun _ => ?_)
  ·intro y0 y1 y2 y3 y4 y5 y6 y7 y8
   unfold spec_FairRent.l1
   repeat' first
   | with_reducible first | exact ih0 _ _ _ | exact ih1 _ _ _ _ _ _ | exact ih2 _ _ _ _ _ _ _ _ _ | exact spec_ckCosts.mono _ _ _ _ | exact spec_ckEnvy.mono _ _ _ | exact spec_ckRooms.mono _ _ | exact LeO.refl _ | exact LeO.none _ | refine LeO.ite ?_ ?_ | refine LeO.bind ?_ (fun _ => ?_)
   | exact LeO.none _ | refine LeO.ite ?_ ?_ | refine LeO.bind ?_ (fun _ => ?_)
theorem spec_FairRent.mono : ∀ a0 a1 k, LeO (spec_FairRent.f k a0 a1) (spec_FairRent.f (k + 1) a0 a1) := by
 intro a0 a1 k
 obtain ⟨ih0, ih1, ih2⟩ := spec_FairRent.mono_l k
 unfold spec_FairRent.f
 repeat' first
   | with_reducible first | exact ih0 _ _ _ | exact ih1 _ _ _ _ _ _ | exact ih2 _ _ _ _ _ _ _ _ _ | exact spec_ckCosts.mono _ _ _ _ | exact spec_ckEnvy.mono _ _ _ | exact spec_ckRooms.mono _ _ | exact LeO.refl _ | exact LeO.none _ | refine LeO.ite ?_ ?_ | refine LeO.bind ?_ (fun _ => ?_)
   | exact LeO.none _ | refine LeO.ite ?_ ?_ | refine LeO.bind ?_ (fun _ => ?_)
theorem spec_FairRent.calls (k : Nat) (a0 : Int) (A1 : Option Addr) (c1 : Nat) (l1 : List (List Int)) (r1 : Int) (r2 : List Int) (r3 : Bool) (w : World) (hr1 : Kd.C (Kd.slice 3 (Kd.int .i64)) w A1 l1.length l1) (hc1 : l1.length ≤ c1) (h : spec_FairRent.f k a0 l1 = some (r1, r2, r3)) :
  Calls Try.prog 7 #[.int .i64 a0, .slice A1 l1.length c1] w fun e w' => ∃ v1_ : Value, e = .returned (.tuple #[.int .i64 r1, v1_, .bool r3]) ∧ Kd.V (Kd.int .i64) 3 w' w.heap.size (fun k_ => (w.heap.size ≤ k_)) v1_ r2 ∧ Below w.heap.size w w' := by
 have HR1 := Aside0.mk hr1
 have HC1 := Aside0.mk hc1
 clear hr1 hc1
 have HB := Aside0.mk (Below.refl w.heap.size w)
 have H : ((spec_meSide.f a0).bind fun t278 => (if t278 = true then ((spec_ckRooms.f k l1).bind fun t279 => (spec_FairRent.j0 k a0 l1 (!t279))) else (spec_FairRent.j0 k a0 l1 true))) = some (r1, r2, r3) := h
 clear h
 have HC3 := Aside0.mk H
 clear H
 go_enter Try.func7, Try.ntmps7
 go_upto_region 1 with (fail)
 go_cut [21] (fun v21 wc => ∃ (kq : Nat) (x21_2 : Bool), v21 = .bool x21_2 ∧ Aside0 (spec_FairRent.j0 kq a0 l1 x21_2 = some (r1, r2, r3)) ∧ Aside0 (kq ≤ k) ∧ Aside0 (Below w.heap.size w wc))
 case first =>
  have H := HC3.out
  clear HC3
  replace H := EA H
  obtain ⟨t278, A4, H⟩ := H
  by_cases c5 : t278 = true
  ·subst c5
   replace H := IP H
   replace H := EA H
   obtain ⟨t279, A6, H⟩ := H
   have H' := Aside0.mk H
   clear H
   go_wp2_with (first | ((with_reducible refine gate_callee (f := 23) rfl ?_); refine goesL_ (some 15) rfl rfl Try.func23 (by kernel_rfl) rfl #[.int .i64 a0] rfl TA ?_; (with_reducible refine (spec_meSide.calls a0 true _ A4.out).mono ?_); rintro e w' ⟨rfl, ⟨nd, rfl⟩⟩; refine ⟨_, rfl, ?_⟩) | (go_at_call 24; (with_reducible refine (spec_ckRooms.calls k _ _ l1 t279 _ ?side1 ?side2 A6.out).mono ?_); (case side1 => exact CW (Kd.C_below HR1.out BB)); (case side2 => exact HC1.out); rintro e w' ⟨rfl, ⟨nd, rfl⟩⟩))
   go_meet
   case rel => exact ⟨_, (!t279), RF, H', ⟨by first | omega | exact Nat.le_refl _⟩, ⟨BB⟩⟩
  ·replace c5 := Bool.eq_false_iff.mpr c5
   subst c5
   replace H := IN H
   have H' := Aside0.mk H
   clear H
   go_wp2_with (first | ((with_reducible refine gate_callee (f := 23) rfl ?_); refine goesL_ (some 15) rfl rfl Try.func23 (by kernel_rfl) rfl #[.int .i64 a0] rfl TA ?_; (with_reducible refine (spec_meSide.calls a0 false _ A4.out).mono ?_); rintro e w' ⟨rfl, ⟨nd, rfl⟩⟩; refine ⟨_, rfl, ?_⟩))
   go_meet
   case rel => exact ⟨_, (true), RF, H', ⟨by first | omega | exact Nat.le_refl _⟩, ⟨BB⟩⟩
 case rest =>
  clear HC3
  try clear c1
  try clear c2
  try clear p2
  try clear c5
  try clear p6
  obtain ⟨kq, x21_2, rfl, HA, HJ2, HB⟩ := hcut
  cases kq with
  | zero => exact absurd HA.out (by simp [spec_FairRent.j0])
  | succ kj2 =>
   have H := HA.out
   clear HA
   simp only [spec_FairRent.j0] at H
   by_cases c7 : x21_2 = true
   ·subst c7
    replace H := IP H
    simp only [Option.some.injEq, Prod.mk.injEq] at H
    obtain ⟨rfl, rfl, rfl⟩ := H
    go_wp2
    go_ret3
    exact ⟨_, RE, Kd.V_nil _ _ _ _ _, BB⟩
   ·replace c7 := Bool.eq_false_iff.mpr c7
    subst c7
    replace H := IN H
    have H' := Aside0.mk H
    clear H
    go_wp2
    go_loopg [7, 8, 9, 10] kj2 (fun kq v7 v8 v9 v10 w' => ∃ (x7_2 : Int) (x8_2 : Int) (x9_2 : List Int) (x10_2 : Int), v7 = .int .i64 x7_2 ∧ v8 = .int .i64 x8_2 ∧ v10 = .int .i64 x10_2 ∧ Aside0 (spec_FairRent.l0 kq a0 l1 x7_2 x8_2 x9_2 x10_2 = some (r1, r2, r3)) ∧ Aside0 (kq ≤ kj2) ∧ Aside0 (Kd.V (Kd.int .i64) 3 w' w.heap.size (fun k_ => (w.heap.size ≤ k_)) v9 x9_2) ∧ Aside0 (Below w.heap.size w w'))
    case atStart => exact ⟨(0), ((-1)), (([] : List Int)), (0), RF, RF, RF, H', ⟨Nat.le_refl _⟩, ⟨Kd.V_nil _ _ _ _ _⟩, ⟨BB⟩⟩
    case round =>
     clear H'
     try clear c1
     try clear c2
     try clear p2
     try clear c5
     try clear p6
     try clear c7
     try clear p2
     try clear p6
     obtain ⟨x7_2, x8_2, x9_2, x10_2, rfl, rfl, rfl, HA, HK2, HO_9, HB⟩ := hrel
     cases gk with
     | zero => exact absurd HA.out (by simp [spec_FairRent.l0])
     | succ k2 =>
      have H := HA.out
      clear HA
      simp only [spec_FairRent.l0] at H
      replace H := EA H
      obtain ⟨t280, A8, H⟩ := H
      by_cases c9 : x10_2 < t280
      ·rw [if_pos c9] at H
       have c9b0 : decide (x10_2 < t280) = true := decide_eq_true c9
       clear c9
       replace H := EA H
       obtain ⟨t281, A10, H⟩ := H
       have H' := Aside0.mk H
       clear H
       go_wp2_with (first | ((with_reducible refine gate_callee (f := 25) rfl ?_); refine goesL_ (some 24) rfl rfl Try.func25 (by kernel_rfl) rfl #[.int .i64 a0] rfl TA ?_; (with_reducible refine (spec_meCount.calls a0 t280 _ A8.out).mono ?_); rintro e w' ⟨rfl, ⟨nd, rfl⟩⟩; refine ⟨_, rfl, ?_⟩) | ((with_reducible refine gate_callee (f := 26) rfl ?_); refine goesL_ (some 28) rfl rfl Try.func26 (by kernel_rfl) rfl #[] rfl TA ?_; (with_reducible refine (spec_ckAll.calls  t281 _ A10.out).mono ?_); rintro e w11 ⟨v282, rfl, ho0, hb⟩; refine ⟨_, rfl, ?_⟩; have n0_ := Aside0.mk (Kd.V_elder' (by (with_reducible repeat (first | apply Kd.V_alloc | apply Kd.V_drewN | apply Kd.V_drew)); exact HO_9.out) (Kd.N_base ho0) hb); have n1_ := Aside0.mk (Kd.N_lower (Kd.N_mono (ok' := fun k_ => (w.heap.size ≤ k_)) ho0 (fun k_ hk_ => (Nat.le_trans (below_size BB) hk_))) (below_size BB)); have n2_ := Aside0.mk (below_step BB hb); clear HO_9; clear HB; have HO_9 := n0_; have HO283 := n1_; have HB := n2_; clear n0_ n1_ n2_; (try clear hb); (try clear hb2); (try clear hk); (try clear hi); (try clear ho0); obtain ⟨Ao12, co12, eo12⟩ := Kd.N_slice HO283.out; subst eo12))
       go_loopg [7, 8, 9, 30] k2 (fun kq v7 v8 v9 v30 w' => ∃ (x7_3 : Int) (x8_3 : Int) (x9_3 : List Int) (x30_3 : Int), v7 = .int .i64 x7_3 ∧ v8 = .int .i64 x8_3 ∧ v30 = .int .i64 x30_3 ∧ Aside0 (spec_FairRent.l1 kq a0 l1 x7_3 x8_3 x9_3 x10_2 t281 (t281.length : Int) x30_3 = some (r1, r2, r3)) ∧ Aside0 (kq ≤ k2) ∧ Aside0 (Kd.V (Kd.int .i64) 3 w' w.heap.size (fun k_ => (w.heap.size ≤ k_) ∧ some k_ ≠ ((.slice Ao12 t281.length co12) : Value).ownBlock) v9 x9_3) ∧ Aside0 (Kd.N (Kd.slice 3 (Kd.int .i64)) 27 w' w.heap.size (fun k_ => (w.heap.size ≤ k_)) (.slice Ao12 t281.length co12) t281) ∧ Aside0 (Below w.heap.size w w'))
       case atStart => exact ⟨(x7_2), (x8_2), (x9_2), (0), RF, RF, RF, H', ⟨Nat.le_refl _⟩, ⟨by (with_reducible repeat (first | apply Kd.V_alloc | apply Kd.V_drewN | apply Kd.V_drew)); exact HO_9.out⟩, ⟨KN HO283⟩, ⟨BB⟩⟩
       case round =>
        clear H'
        try clear c1
        try clear c2
        try clear p2
        try clear c5
        try clear p6
        try clear c7
        try clear c9
        try clear c9b0
        try clear p2
        try clear p6
        obtain ⟨x7_3, x8_3, x9_3, x30_3, rfl, rfl, rfl, HA, HK3, HO_9, HO_28, HB⟩ := hrel
        cases gk with
        | zero => exact absurd HA.out (by simp [spec_FairRent.l1])
        | succ k3 =>
         have H := HA.out
         clear HA
         simp only [spec_FairRent.l1] at H
         by_cases c13 : x30_3 < (t281.length : Int)
         ·rw [if_pos c13] at H
          have c13b0 : decide (x30_3 < (t281.length : Int)) = true := decide_eq_true c13
          clear c13
          by_cases c14 : 0 ≤ x30_3
          ·rw [if_pos c14] at H
           have c14b0 : decide (0 ≤ x30_3) = true := decide_eq_true c14
           clear c14
           by_cases c15 : x30_3 < (t281.length : Int)
           ·rw [if_pos c15] at H
            have c15b0 : decide (x30_3 < (t281.length : Int)) = true := decide_eq_true c15
            clear c15
            replace H := EA H
            obtain ⟨t285, A16, H⟩ := H
            replace H := EA H
            obtain ⟨t288, A17, H⟩ := H
            by_cases c18 : x8_3 < 0
            ·rw [if_pos c18] at H
             have c18b0 : decide (x8_3 < 0) = true := decide_eq_true c18
             clear c18
             have H' := Aside0.mk H
             clear H
             have p284 : 0 ≤ (x30_3 : Int) := of_decide_eq_true AS
             have q284 : x30_3 < (t281.length : Int) := of_decide_eq_true AS
             obtain ⟨ad284, A284_0, c284_0, e284, hx284_0, hl284_0, hi284_0⟩ := at_L2 (Kd.N_reads' HO_28.out).2.2 x30_3 p284 q284
             cases e284
             obtain ⟨ce284, hce284, hMe284, hcc284⟩ := Kd.N_get HO_28.out [] x30_3 p284 (by first | exact q284 | exact of_decide_eq_true AS | (have e_ := (Kd.N_reads' HO_28.out).1; omega))
             obtain ⟨ua284_0, uc284_0, rfl, ul284_0, ge284_0⟩ := Kd.FK_slice_open hMe284
             have hv284_0 := hcc284 0 _ rfl
             rw [Nat.add_zero, show ((Kd.slice 3 (Kd.int .i64))).sz = 1 from rfl, Nat.mul_one] at hv284_0
             replace hv284_0 := Option.some.inj (hv284_0.symm.trans hx284_0)
             injection hv284_0 with hva_ hvn_ hvc_
             rw [hva_] at ge284_0
             rw [hvc_] at ul284_0
             have HL284_0 := Aside0.mk (show Kd.V (Kd.int .i64) 3 _ w.heap.size _ _ (rd_L2 t281 x30_3) from Kd.V_mk ul284_0 ge284_0)
             clear hva_ hvn_ hvc_ ge284_0 ul284_0
             clear hcc284 hce284
             have HR284_0 := Aside0.mk hi284_0
             have HC284_0 := Aside0.mk hl284_0
             clear hi284_0 hl284_0
             replace p284 := eq_true p284
             replace q284 := eq_true q284
             go_wp2_with (first | ((with_reducible refine gate_callee (f := 28) rfl ?_); refine goesL_ (some 37) rfl rfl Try.func28 (by kernel_rfl) rfl #[.int .i64 a0, .slice A1 l1.length c1, .int .i64 x10_2] rfl TA ?_; (with_reducible refine (spec_ckCosts.calls k3 a0 _ _ l1 x10_2 t285 _ ?side1 ?side2 A16.out).mono ?_); (case side1 => exact CW (Kd.C_below HR1.out HB.out)); (case side2 => exact HC1.out); rintro e w19 ⟨v286, rfl, ho0, hb⟩; refine ⟨_, rfl, ?_⟩; have n0_ := Aside0.mk (Kd.V_elder' (by (with_reducible repeat (first | apply Kd.V_alloc | apply Kd.V_drewN | apply Kd.V_drew)); exact HO_9.out) (Kd.N_base (Kd.S_N ho0)) hb); have n1_ := Aside0.mk (Kd.N_elder' (KN HO_28) (Kd.N_base (Kd.S_N ho0)) hb); have n2_ := Aside0.mk (Kd.V_elder' (by (with_reducible repeat (first | apply Kd.V_alloc | apply Kd.V_drewN | apply Kd.V_drew)); exact HL284_0.out) (Kd.N_base (Kd.S_N ho0)) hb); have n3_ := Aside0.mk (Kd.N_lower (Kd.N_mono (ok' := fun k_ => (w.heap.size ≤ k_) ∧ some k_ ≠ (.slice (some ad284) t281.length co12 : Value).ownBlock) (Kd.S_N (Kd.S_bound ho0)) (fun k_ hk_ => ⟨(Nat.le_trans (below_size BB) hk_.2.1), (Kd.fresh' (Kd.N_lt (KN HO_28)) k_ hk_.2.1)⟩)) (below_size BB)); have n4_ := Aside0.mk (Kd.C_below (by repeat (first | (with_reducible exact HR284_0.out) | (with_reducible refine Kd.C_drewN ?_ _) | (with_reducible refine Kd.C_drew ?_) | (with_reducible refine Kd.C_alloc ?_ _) | exact HR284_0.out)) hb); have n5_ := Aside0.mk (below_step BB hb); clear HO_9; clear HO_28; clear HL284_0; clear HR284_0; clear HB; have HO_9 := n0_; have HO_28 := n1_; have HL284_0 := n2_; have HO287 := n3_; have HR284_0 := n4_; have HB := n5_; clear n0_ n1_ n2_ n3_ n4_ n5_; (try clear hb); (try clear hb2); (try clear hk); (try clear hi); (try clear ho0); obtain ⟨Ao20, co20, eo20⟩ := Kd.N_slice HO287.out; subst eo20) | ((with_reducible refine gate_callee (f := 27) rfl ?_); refine goesL_ (some 39) rfl rfl Try.func27 (by kernel_rfl) rfl #[.slice Ao20 t285.length co20, .slice A284_0 (rd_L2 t281 x30_3).length c284_0] rfl TA ?_; (with_reducible refine (spec_ckEnvy.calls k3 _ _ t285 _ _ (rd_L2 t281 x30_3) t288 _ ?side1 ?side2 ?side3 ?side4 A17.out).mono ?_); (case side1 => exact CW (Kd.N_reads' HO287.out).2.2); (case side2 => exact (Kd.N_reads' HO287.out).2.1); (case side3 => exact CW (by repeat (first | (with_reducible exact HR284_0.out) | (with_reducible refine Kd.C_drewN ?_ _) | (with_reducible refine Kd.C_drew ?_) | (with_reducible refine Kd.C_alloc ?_ _) | exact HR284_0.out))); (case side4 => exact HC284_0.out); rintro e w' ⟨rfl, ⟨nd, rfl⟩⟩; refine ⟨_, rfl, ?_⟩))
             go_roundg k3
             case measure => have := HJ2.out; have := HK2.out; have := HK3.out; omega
             case rel => exact ⟨(x10_2), (t288), (rd_L2 t281 x30_3), (wrap64 (x30_3 + 1)), RF, RF, RF, H', ⟨by have := HJ2.out; have := HK2.out; have := HK3.out; omega⟩, ⟨by (with_reducible repeat (first | apply Kd.V_alloc | apply Kd.V_drewN | apply Kd.V_drew)); exact Kd.V_mono HL284_0.out (fun _ hk => ⟨hk.1.1, hk.1.2⟩)⟩, ⟨by (with_reducible repeat (first | apply Kd.N_alloc | apply Kd.N_drewN | apply Kd.N_drew)); exact Kd.N_mono HO_28.out (fun _ hk => hk.1)⟩, ⟨BB⟩⟩
            ·rw [if_neg c18] at H
             have c18b0 : decide (x8_3 < 0) = false := decide_eq_false c18
             clear c18
             by_cases c21 : t288 < x8_3
             ·rw [if_pos c21] at H
              have c21b0 : decide (t288 < x8_3) = true := decide_eq_true c21
              clear c21
              have H' := Aside0.mk H
              clear H
              have p284 : 0 ≤ (x30_3 : Int) := of_decide_eq_true AS
              have q284 : x30_3 < (t281.length : Int) := of_decide_eq_true AS
              obtain ⟨ad284, A284_0, c284_0, e284, hx284_0, hl284_0, hi284_0⟩ := at_L2 (Kd.N_reads' HO_28.out).2.2 x30_3 p284 q284
              cases e284
              obtain ⟨ce284, hce284, hMe284, hcc284⟩ := Kd.N_get HO_28.out [] x30_3 p284 (by first | exact q284 | exact of_decide_eq_true AS | (have e_ := (Kd.N_reads' HO_28.out).1; omega))
              obtain ⟨ua284_0, uc284_0, rfl, ul284_0, ge284_0⟩ := Kd.FK_slice_open hMe284
              have hv284_0 := hcc284 0 _ rfl
              rw [Nat.add_zero, show ((Kd.slice 3 (Kd.int .i64))).sz = 1 from rfl, Nat.mul_one] at hv284_0
              replace hv284_0 := Option.some.inj (hv284_0.symm.trans hx284_0)
              injection hv284_0 with hva_ hvn_ hvc_
              rw [hva_] at ge284_0
              rw [hvc_] at ul284_0
              have HL284_0 := Aside0.mk (show Kd.V (Kd.int .i64) 3 _ w.heap.size _ _ (rd_L2 t281 x30_3) from Kd.V_mk ul284_0 ge284_0)
              clear hva_ hvn_ hvc_ ge284_0 ul284_0
              clear hcc284 hce284
              have HR284_0 := Aside0.mk hi284_0
              have HC284_0 := Aside0.mk hl284_0
              clear hi284_0 hl284_0
              replace p284 := eq_true p284
              replace q284 := eq_true q284
              go_wp2_with (first | ((with_reducible refine gate_callee (f := 28) rfl ?_); refine goesL_ (some 37) rfl rfl Try.func28 (by kernel_rfl) rfl #[.int .i64 a0, .slice A1 l1.length c1, .int .i64 x10_2] rfl TA ?_; (with_reducible refine (spec_ckCosts.calls k3 a0 _ _ l1 x10_2 t285 _ ?side1 ?side2 A16.out).mono ?_); (case side1 => exact CW (Kd.C_below HR1.out HB.out)); (case side2 => exact HC1.out); rintro e w22 ⟨v286, rfl, ho0, hb⟩; refine ⟨_, rfl, ?_⟩; have n0_ := Aside0.mk (Kd.V_elder' (by (with_reducible repeat (first | apply Kd.V_alloc | apply Kd.V_drewN | apply Kd.V_drew)); exact HO_9.out) (Kd.N_base (Kd.S_N ho0)) hb); have n1_ := Aside0.mk (Kd.N_elder' (KN HO_28) (Kd.N_base (Kd.S_N ho0)) hb); have n2_ := Aside0.mk (Kd.V_elder' (by (with_reducible repeat (first | apply Kd.V_alloc | apply Kd.V_drewN | apply Kd.V_drew)); exact HL284_0.out) (Kd.N_base (Kd.S_N ho0)) hb); have n3_ := Aside0.mk (Kd.N_lower (Kd.N_mono (ok' := fun k_ => (w.heap.size ≤ k_) ∧ some k_ ≠ (.slice (some ad284) t281.length co12 : Value).ownBlock) (Kd.S_N (Kd.S_bound ho0)) (fun k_ hk_ => ⟨(Nat.le_trans (below_size BB) hk_.2.1), (Kd.fresh' (Kd.N_lt (KN HO_28)) k_ hk_.2.1)⟩)) (below_size BB)); have n4_ := Aside0.mk (Kd.C_below (by repeat (first | (with_reducible exact HR284_0.out) | (with_reducible refine Kd.C_drewN ?_ _) | (with_reducible refine Kd.C_drew ?_) | (with_reducible refine Kd.C_alloc ?_ _) | exact HR284_0.out)) hb); have n5_ := Aside0.mk (below_step BB hb); clear HO_9; clear HO_28; clear HL284_0; clear HR284_0; clear HB; have HO_9 := n0_; have HO_28 := n1_; have HL284_0 := n2_; have HO287 := n3_; have HR284_0 := n4_; have HB := n5_; clear n0_ n1_ n2_ n3_ n4_ n5_; (try clear hb); (try clear hb2); (try clear hk); (try clear hi); (try clear ho0); obtain ⟨Ao23, co23, eo23⟩ := Kd.N_slice HO287.out; subst eo23) | ((with_reducible refine gate_callee (f := 27) rfl ?_); refine goesL_ (some 39) rfl rfl Try.func27 (by kernel_rfl) rfl #[.slice Ao23 t285.length co23, .slice A284_0 (rd_L2 t281 x30_3).length c284_0] rfl TA ?_; (with_reducible refine (spec_ckEnvy.calls k3 _ _ t285 _ _ (rd_L2 t281 x30_3) t288 _ ?side1 ?side2 ?side3 ?side4 A17.out).mono ?_); (case side1 => exact CW (Kd.N_reads' HO287.out).2.2); (case side2 => exact (Kd.N_reads' HO287.out).2.1); (case side3 => exact CW (by repeat (first | (with_reducible exact HR284_0.out) | (with_reducible refine Kd.C_drewN ?_ _) | (with_reducible refine Kd.C_drew ?_) | (with_reducible refine Kd.C_alloc ?_ _) | exact HR284_0.out))); (case side4 => exact HC284_0.out); rintro e w' ⟨rfl, ⟨nd, rfl⟩⟩; refine ⟨_, rfl, ?_⟩))
              go_roundg k3
              case measure => have := HJ2.out; have := HK2.out; have := HK3.out; omega
              case rel => exact ⟨(x10_2), (t288), (rd_L2 t281 x30_3), (wrap64 (x30_3 + 1)), RF, RF, RF, H', ⟨by have := HJ2.out; have := HK2.out; have := HK3.out; omega⟩, ⟨by (with_reducible repeat (first | apply Kd.V_alloc | apply Kd.V_drewN | apply Kd.V_drew)); exact Kd.V_mono HL284_0.out (fun _ hk => ⟨hk.1.1, hk.1.2⟩)⟩, ⟨by (with_reducible repeat (first | apply Kd.N_alloc | apply Kd.N_drewN | apply Kd.N_drew)); exact Kd.N_mono HO_28.out (fun _ hk => hk.1)⟩, ⟨BB⟩⟩
             ·rw [if_neg c21] at H
              have c21b0 : decide (t288 < x8_3) = false := decide_eq_false c21
              clear c21
              have H' := Aside0.mk H
              clear H
              have p284 : 0 ≤ (x30_3 : Int) := of_decide_eq_true AS
              have q284 : x30_3 < (t281.length : Int) := of_decide_eq_true AS
              obtain ⟨ad284, A284_0, c284_0, e284, hx284_0, hl284_0, hi284_0⟩ := at_L2 (Kd.N_reads' HO_28.out).2.2 x30_3 p284 q284
              cases e284
              obtain ⟨ce284, hce284, hMe284, hcc284⟩ := Kd.N_get HO_28.out [] x30_3 p284 (by first | exact q284 | exact of_decide_eq_true AS | (have e_ := (Kd.N_reads' HO_28.out).1; omega))
              obtain ⟨ua284_0, uc284_0, rfl, ul284_0, ge284_0⟩ := Kd.FK_slice_open hMe284
              have hv284_0 := hcc284 0 _ rfl
              rw [Nat.add_zero, show ((Kd.slice 3 (Kd.int .i64))).sz = 1 from rfl, Nat.mul_one] at hv284_0
              replace hv284_0 := Option.some.inj (hv284_0.symm.trans hx284_0)
              injection hv284_0 with hva_ hvn_ hvc_
              rw [hva_] at ge284_0
              rw [hvc_] at ul284_0
              have HL284_0 := Aside0.mk (show Kd.V (Kd.int .i64) 3 _ w.heap.size _ _ (rd_L2 t281 x30_3) from Kd.V_mk ul284_0 ge284_0)
              clear hva_ hvn_ hvc_ ge284_0 ul284_0
              clear hcc284 hce284
              have HR284_0 := Aside0.mk hi284_0
              have HC284_0 := Aside0.mk hl284_0
              clear hi284_0 hl284_0
              replace p284 := eq_true p284
              replace q284 := eq_true q284
              go_wp2_with (first | ((with_reducible refine gate_callee (f := 28) rfl ?_); refine goesL_ (some 37) rfl rfl Try.func28 (by kernel_rfl) rfl #[.int .i64 a0, .slice A1 l1.length c1, .int .i64 x10_2] rfl TA ?_; (with_reducible refine (spec_ckCosts.calls k3 a0 _ _ l1 x10_2 t285 _ ?side1 ?side2 A16.out).mono ?_); (case side1 => exact CW (Kd.C_below HR1.out HB.out)); (case side2 => exact HC1.out); rintro e w24 ⟨v286, rfl, ho0, hb⟩; refine ⟨_, rfl, ?_⟩; have n0_ := Aside0.mk (Kd.V_elder' (by (with_reducible repeat (first | apply Kd.V_alloc | apply Kd.V_drewN | apply Kd.V_drew)); exact HO_9.out) (Kd.N_base (Kd.S_N ho0)) hb); have n1_ := Aside0.mk (Kd.N_elder' (KN HO_28) (Kd.N_base (Kd.S_N ho0)) hb); have n2_ := Aside0.mk (Kd.V_elder' (by (with_reducible repeat (first | apply Kd.V_alloc | apply Kd.V_drewN | apply Kd.V_drew)); exact HL284_0.out) (Kd.N_base (Kd.S_N ho0)) hb); have n3_ := Aside0.mk (Kd.N_lower (Kd.N_mono (ok' := fun k_ => (w.heap.size ≤ k_) ∧ some k_ ≠ (.slice (some ad284) t281.length co12 : Value).ownBlock) (Kd.S_N (Kd.S_bound ho0)) (fun k_ hk_ => ⟨(Nat.le_trans (below_size BB) hk_.2.1), (Kd.fresh' (Kd.N_lt (KN HO_28)) k_ hk_.2.1)⟩)) (below_size BB)); have n4_ := Aside0.mk (Kd.C_below (by repeat (first | (with_reducible exact HR284_0.out) | (with_reducible refine Kd.C_drewN ?_ _) | (with_reducible refine Kd.C_drew ?_) | (with_reducible refine Kd.C_alloc ?_ _) | exact HR284_0.out)) hb); have n5_ := Aside0.mk (below_step BB hb); clear HO_9; clear HO_28; clear HL284_0; clear HR284_0; clear HB; have HO_9 := n0_; have HO_28 := n1_; have HL284_0 := n2_; have HO287 := n3_; have HR284_0 := n4_; have HB := n5_; clear n0_ n1_ n2_ n3_ n4_ n5_; (try clear hb); (try clear hb2); (try clear hk); (try clear hi); (try clear ho0); obtain ⟨Ao25, co25, eo25⟩ := Kd.N_slice HO287.out; subst eo25) | ((with_reducible refine gate_callee (f := 27) rfl ?_); refine goesL_ (some 39) rfl rfl Try.func27 (by kernel_rfl) rfl #[.slice Ao25 t285.length co25, .slice A284_0 (rd_L2 t281 x30_3).length c284_0] rfl TA ?_; (with_reducible refine (spec_ckEnvy.calls k3 _ _ t285 _ _ (rd_L2 t281 x30_3) t288 _ ?side1 ?side2 ?side3 ?side4 A17.out).mono ?_); (case side1 => exact CW (Kd.N_reads' HO287.out).2.2); (case side2 => exact (Kd.N_reads' HO287.out).2.1); (case side3 => exact CW (by repeat (first | (with_reducible exact HR284_0.out) | (with_reducible refine Kd.C_drewN ?_ _) | (with_reducible refine Kd.C_drew ?_) | (with_reducible refine Kd.C_alloc ?_ _) | exact HR284_0.out))); (case side4 => exact HC284_0.out); rintro e w' ⟨rfl, ⟨nd, rfl⟩⟩; refine ⟨_, rfl, ?_⟩))
              go_roundg k3
              case measure => have := HJ2.out; have := HK2.out; have := HK3.out; omega
              case rel => exact ⟨(x7_3), (x8_3), (x9_3), (wrap64 (x30_3 + 1)), RF, RF, RF, H', ⟨by have := HJ2.out; have := HK2.out; have := HK3.out; omega⟩, ⟨by (with_reducible repeat (first | apply Kd.V_alloc | apply Kd.V_drewN | apply Kd.V_drew)); exact Kd.V_mono HO_9.out (fun _ hk => ⟨hk.1.1, hk.1.2⟩)⟩, ⟨by (with_reducible repeat (first | apply Kd.N_alloc | apply Kd.N_drewN | apply Kd.N_drew)); exact Kd.N_mono HO_28.out (fun _ hk => hk.1)⟩, ⟨BB⟩⟩
           ·rw [if_neg c15] at H
            cases H
          ·rw [if_neg c14] at H
           cases H
         ·rw [if_neg c13] at H
          have c13b0 : decide (x30_3 < (t281.length : Int)) = false := decide_eq_false c13
          try (have c13bl := c13b0; rw [hl284_0] at c13bl)
          clear c13
          have H' := Aside0.mk H
          clear H
          go_wp2
          go_roundg k3
          case measure => have := HJ2.out; have := HK2.out; have := HK3.out; omega
          case rel => exact ⟨(x7_3), (x8_3), (x9_3), (wrap64 (x10_2 + 1)), RF, RF, RF, H', ⟨by have := HJ2.out; have := HK2.out; have := HK3.out; omega⟩, ⟨by (with_reducible repeat (first | apply Kd.V_alloc | apply Kd.V_drewN | apply Kd.V_drew)); exact Kd.V_mono HO_9.out (fun _ hk => hk.1)⟩, ⟨BB⟩⟩
      ·rw [if_neg c9] at H
       have c9b0 : decide (x10_2 < t280) = false := decide_eq_false c9
       clear c9
       simp only [Option.some.injEq, Prod.mk.injEq] at H
       obtain ⟨rfl, rfl, rfl⟩ := H
       go_wp2_with (first | ((with_reducible refine gate_callee (f := 25) rfl ?_); refine goesL_ (some 24) rfl rfl Try.func25 (by kernel_rfl) rfl #[.int .i64 a0] rfl TA ?_; (with_reducible refine (spec_meCount.calls a0 t280 _ A8.out).mono ?_); rintro e w' ⟨rfl, ⟨nd, rfl⟩⟩; refine ⟨_, rfl, ?_⟩))
       go_ret3
       exact ⟨_, RE, by (with_reducible repeat (first | apply Kd.V_alloc | apply Kd.V_drewN | apply Kd.V_drew)); exact HO_9.out, BB⟩

/-! ### impl_BestRooms: function 8 -/
def impl_BestRooms.l0 : Nat → List (List Int) → Int → List Int → List (List Int) → Int → Int → Option (List Int × Bool)
 | 0, _, _, _, _, _, _ => none
 | k + 1, x0, x4, x5, x12, x13, x14 => if x14 < x13 then (if 0 ≤ x14 then (if x14 < (x12.length : Int) then (if 0 < (x0.length : Int) then (if 0 < ((rd_L2 x12 x14).length : Int) then (if 0 ≤ (rd (rd_L2 x12 x14) 0) then (if (rd (rd_L2 x12 x14) 0) < ((rd_L2 x0 0).length : Int) then (if 1 < (x0.length : Int) then (if 1 < ((rd_L2 x12 x14).length : Int) then (if 0 ≤ (rd (rd_L2 x12 x14) 1) then (if (rd (rd_L2 x12 x14) 1) < ((rd_L2 x0 1).length : Int) then (if 2 < (x0.length : Int) then (if 2 < ((rd_L2 x12 x14).length : Int) then (if 0 ≤ (rd (rd_L2 x12 x14) 2) then (if (rd (rd_L2 x12 x14) 2) < ((rd_L2 x0 2).length : Int) then (if (wrap64 ((wrap64 ((rd (rd_L2 x0 0) (rd (rd_L2 x12 x14) 0)) + (rd (rd_L2 x0 1) (rd (rd_L2 x12 x14) 1)))) + (rd (rd_L2 x0 2) (rd (rd_L2 x12 x14) 2)))) > x4 then (impl_BestRooms.l0 k x0 (wrap64 ((wrap64 ((rd (rd_L2 x0 0) (rd (rd_L2 x12 x14) 0)) + (rd (rd_L2 x0 1) (rd (rd_L2 x12 x14) 1)))) + (rd (rd_L2 x0 2) (rd (rd_L2 x12 x14) 2)))) (rd_L2 x12 x14) x12 x13 (wrap64 (x14 + 1))) else (impl_BestRooms.l0 k x0 x4 x5 x12 x13 (wrap64 (x14 + 1)))) else (none)) else (none)) else (none)) else (none)) else (none)) else (none)) else (none)) else (none)) else (none)) else (none)) else (none)) else (none)) else (none)) else (none)) else (some (x5, true))
def impl_BestRooms.f (k : Nat) (l0 : List (List Int)) : Option (List Int × Bool) := (impl_areWorths.f k l0).bind fun t289 => (if t289 = true then ((impl_orders.f).bind fun t290 => (impl_BestRooms.l0 k l0 (-1) ([] : List Int) t290 (t290.length : Int) 0)) else (some (([] : List Int), false)))
theorem impl_BestRooms.mono_l : ∀ k, (∀ y0 y1 y2 y3 y4 y5, LeO (impl_BestRooms.l0 k y0 y1 y2 y3 y4 y5) (impl_BestRooms.l0 (k + 1) y0 y1 y2 y3 y4 y5))
 | 0 => fun _ _ _ _ _ _ r h => by simp [impl_BestRooms.l0] at h
 | k + 1 => by
  have ih0 := impl_BestRooms.mono_l k
  ·intro y0 y1 y2 y3 y4 y5
   unfold impl_BestRooms.l0
   repeat' first
   | with_reducible first | exact ih0 _ _ _ _ _ _ | exact impl_areWorths.mono _ _ | exact LeO.refl _ | exact LeO.none _ | refine LeO.ite ?_ ?_ | refine LeO.bind ?_ (fun _ => ?_)
   | exact LeO.none _ | refine LeO.ite ?_ ?_ | refine LeO.bind ?_ (fun _ => ?_)
theorem impl_BestRooms.mono : ∀ a0 k, LeO (impl_BestRooms.f k a0) (impl_BestRooms.f (k + 1) a0) := by
 intro a0 k
 have ih0 := impl_BestRooms.mono_l k
 unfold impl_BestRooms.f
 repeat' first
   | with_reducible first | exact ih0 _ _ _ _ _ _ | exact impl_areWorths.mono _ _ | exact LeO.refl _ | exact LeO.none _ | refine LeO.ite ?_ ?_ | refine LeO.bind ?_ (fun _ => ?_)
   | exact LeO.none _ | refine LeO.ite ?_ ?_ | refine LeO.bind ?_ (fun _ => ?_)
theorem impl_BestRooms.calls (k : Nat) (A0 : Option Addr) (c0 : Nat) (l0 : List (List Int)) (r1 : List Int) (r2 : Bool) (w : World) (hr0 : Kd.C (Kd.slice 3 (Kd.int .i64)) w A0 l0.length l0) (hc0 : l0.length ≤ c0) (h : impl_BestRooms.f k l0 = some (r1, r2)) :
  Calls Try.prog 8 #[.slice A0 l0.length c0] w fun e w' => ∃ v0_ : Value, e = .returned (.tuple #[v0_, .bool r2]) ∧ Kd.V (Kd.int .i64) 3 w' w.heap.size (fun k_ => (w.heap.size ≤ k_)) v0_ r1 ∧ Below w.heap.size w w' := by
 have HR0 := Aside0.mk hr0
 have HC0 := Aside0.mk hc0
 clear hr0 hc0
 have HB := Aside0.mk (Below.refl w.heap.size w)
 have H : ((impl_areWorths.f k l0).bind fun t289 => (if t289 = true then ((impl_orders.f).bind fun t290 => (impl_BestRooms.l0 k l0 (-1) ([] : List Int) t290 (t290.length : Int) 0)) else (some (([] : List Int), false)))) = some (r1, r2) := h
 clear h
 replace H := EA H
 obtain ⟨t289, A2, H⟩ := H
 by_cases c3 : t289 = true
 ·subst c3
  replace H := IP H
  replace H := EA H
  obtain ⟨t290, A4, H⟩ := H
  have H' := Aside0.mk H
  clear H
  go_enter Try.func8, Try.ntmps8
  go_wp2_with (first | (go_at_call 19; (with_reducible refine (impl_areWorths.calls k _ _ l0 true _ ?side1 ?side2 A2.out).mono ?_); (case side1 => exact CW HR0.out); (case side2 => exact HC0.out); rintro e w5 ⟨rfl, hb⟩; have n0_ := Aside0.mk (below_step BB hb); clear HB; have HB := n0_; clear n0_; (try clear hb); (try clear hb2); (try clear hk); (try clear hi)) | (go_at_call 29; (with_reducible refine (impl_orders.calls  t290 _ A4.out).mono ?_); rintro e w6 ⟨v291, rfl, ho0, hb⟩; have n0_ := Aside0.mk (Kd.N_lower (Kd.N_mono (ok' := fun k_ => (w.heap.size ≤ k_)) ho0 (fun k_ hk_ => (Nat.le_trans (below_size BB) hk_))) (below_size BB)); have n1_ := Aside0.mk (below_step BB hb); clear HB; have HO292 := n0_; have HB := n1_; clear n0_ n1_; (try clear hb); (try clear hb2); (try clear hk); (try clear hi); (try clear ho0); obtain ⟨Ao7, co7, eo7⟩ := Kd.N_slice HO292.out; subst eo7))
  repeat (go_quiet (first | (go_at_call 19; (with_reducible refine (impl_areWorths.calls k _ _ l0 true _ ?side1 ?side2 A2.out).mono ?_); (case side1 => exact CW HR0.out); (case side2 => exact HC0.out); rintro e w5 ⟨rfl, hb⟩; have n0_ := Aside0.mk (below_step BB hb); clear HB; have HB := n0_; clear n0_; (try clear hb); (try clear hb2); (try clear hk); (try clear hi)) | (go_at_call 29; (with_reducible refine (impl_orders.calls  t290 _ A4.out).mono ?_); rintro e w6 ⟨v291, rfl, ho0, hb⟩; have n0_ := Aside0.mk (Kd.N_lower (Kd.N_mono (ok' := fun k_ => (w.heap.size ≤ k_)) ho0 (fun k_ hk_ => (Nat.le_trans (below_size BB) hk_))) (below_size BB)); have n1_ := Aside0.mk (below_step BB hb); clear HB; have HO292 := n0_; have HB := n1_; clear n0_ n1_; (try clear hb); (try clear hb2); (try clear hk); (try clear hi); (try clear ho0); obtain ⟨Ao7, co7, eo7⟩ := Kd.N_slice HO292.out; subst eo7)); try go_wp2_with (first | (go_at_call 19; (with_reducible refine (impl_areWorths.calls k _ _ l0 true _ ?side1 ?side2 A2.out).mono ?_); (case side1 => exact CW HR0.out); (case side2 => exact HC0.out); rintro e w5 ⟨rfl, hb⟩; have n0_ := Aside0.mk (below_step BB hb); clear HB; have HB := n0_; clear n0_; (try clear hb); (try clear hb2); (try clear hk); (try clear hi)) | (go_at_call 29; (with_reducible refine (impl_orders.calls  t290 _ A4.out).mono ?_); rintro e w6 ⟨v291, rfl, ho0, hb⟩; have n0_ := Aside0.mk (Kd.N_lower (Kd.N_mono (ok' := fun k_ => (w.heap.size ≤ k_)) ho0 (fun k_ hk_ => (Nat.le_trans (below_size BB) hk_))) (below_size BB)); have n1_ := Aside0.mk (below_step BB hb); clear HB; have HO292 := n0_; have HB := n1_; clear n0_ n1_; (try clear hb); (try clear hb2); (try clear hk); (try clear hi); (try clear ho0); obtain ⟨Ao7, co7, eo7⟩ := Kd.N_slice HO292.out; subst eo7)))
  go_loopg [4, 5, 14] k (fun kq v4 v5 v14 w' => ∃ (x4_1 : Int) (x5_1 : List Int) (x14_1 : Int), v4 = .int .i64 x4_1 ∧ v14 = .int .i64 x14_1 ∧ Aside0 (impl_BestRooms.l0 kq l0 x4_1 x5_1 t290 (t290.length : Int) x14_1 = some (r1, r2)) ∧ Aside0 (kq ≤ k) ∧ Aside0 (Kd.V (Kd.int .i64) 3 w' w.heap.size (fun k_ => (w.heap.size ≤ k_) ∧ some k_ ≠ ((.slice Ao7 t290.length co7) : Value).ownBlock) v5 x5_1) ∧ Aside0 (Kd.N (Kd.slice 3 (Kd.int .i64)) 27 w' w.heap.size (fun k_ => (w.heap.size ≤ k_)) (.slice Ao7 t290.length co7) t290) ∧ Aside0 (Below w.heap.size w w'))
  case atStart => exact ⟨((-1)), (([] : List Int)), (0), RF, RF, H', ⟨Nat.le_refl _⟩, ⟨Kd.V_nil _ _ _ _ _⟩, ⟨KN HO292⟩, ⟨BB⟩⟩
  case round =>
   clear H'
   try clear p2
   try clear c3
   try clear p6
   obtain ⟨x4_1, x5_1, x14_1, rfl, rfl, HA, HK1, HO_5, HO_12, HB⟩ := hrel
   cases gk with
   | zero => exact absurd HA.out (by simp [impl_BestRooms.l0])
   | succ k1 =>
    have H := HA.out
    clear HA
    simp only [impl_BestRooms.l0] at H
    by_cases c8 : x14_1 < (t290.length : Int)
    ·rw [if_pos c8] at H
     have c8b0 : decide (x14_1 < (t290.length : Int)) = true := decide_eq_true c8
     clear c8
     by_cases c9 : 0 ≤ x14_1
     ·rw [if_pos c9] at H
      have c9b0 : decide (0 ≤ x14_1) = true := decide_eq_true c9
      clear c9
      by_cases c10 : x14_1 < (t290.length : Int)
      ·rw [if_pos c10] at H
       have c10b0 : decide (x14_1 < (t290.length : Int)) = true := decide_eq_true c10
       clear c10
       by_cases c11 : 0 < (l0.length : Int)
       ·rw [if_pos c11] at H
        have c11b0 : decide (0 < (l0.length : Int)) = true := decide_eq_true c11
        have c11b1 : decide (0 < l0.length) = true := decide_eq_true (by omega)
        clear c11
        by_cases c12 : 0 < ((rd_L2 t290 x14_1).length : Int)
        ·rw [if_pos c12] at H
         have c12b0 : decide (0 < ((rd_L2 t290 x14_1).length : Int)) = true := decide_eq_true c12
         have c12b1 : decide (0 < (rd_L2 t290 x14_1).length) = true := decide_eq_true (by omega)
         clear c12
         by_cases c13 : 0 ≤ (rd (rd_L2 t290 x14_1) 0)
         ·rw [if_pos c13] at H
          have c13b0 : decide (0 ≤ (rd (rd_L2 t290 x14_1) 0)) = true := decide_eq_true c13
          clear c13
          by_cases c14 : (rd (rd_L2 t290 x14_1) 0) < ((rd_L2 l0 0).length : Int)
          ·rw [if_pos c14] at H
           have c14b0 : decide ((rd (rd_L2 t290 x14_1) 0) < ((rd_L2 l0 0).length : Int)) = true := decide_eq_true c14
           clear c14
           by_cases c15 : 1 < (l0.length : Int)
           ·rw [if_pos c15] at H
            have c15b0 : decide (1 < (l0.length : Int)) = true := decide_eq_true c15
            have c15b1 : decide (1 < l0.length) = true := decide_eq_true (by omega)
            clear c15
            by_cases c16 : 1 < ((rd_L2 t290 x14_1).length : Int)
            ·rw [if_pos c16] at H
             have c16b0 : decide (1 < ((rd_L2 t290 x14_1).length : Int)) = true := decide_eq_true c16
             have c16b1 : decide (1 < (rd_L2 t290 x14_1).length) = true := decide_eq_true (by omega)
             clear c16
             by_cases c17 : 0 ≤ (rd (rd_L2 t290 x14_1) 1)
             ·rw [if_pos c17] at H
              have c17b0 : decide (0 ≤ (rd (rd_L2 t290 x14_1) 1)) = true := decide_eq_true c17
              clear c17
              by_cases c18 : (rd (rd_L2 t290 x14_1) 1) < ((rd_L2 l0 1).length : Int)
              ·rw [if_pos c18] at H
               have c18b0 : decide ((rd (rd_L2 t290 x14_1) 1) < ((rd_L2 l0 1).length : Int)) = true := decide_eq_true c18
               clear c18
               by_cases c19 : 2 < (l0.length : Int)
               ·rw [if_pos c19] at H
                have c19b0 : decide (2 < (l0.length : Int)) = true := decide_eq_true c19
                have c19b1 : decide (2 < l0.length) = true := decide_eq_true (by omega)
                clear c19
                by_cases c20 : 2 < ((rd_L2 t290 x14_1).length : Int)
                ·rw [if_pos c20] at H
                 have c20b0 : decide (2 < ((rd_L2 t290 x14_1).length : Int)) = true := decide_eq_true c20
                 have c20b1 : decide (2 < (rd_L2 t290 x14_1).length) = true := decide_eq_true (by omega)
                 clear c20
                 by_cases c21 : 0 ≤ (rd (rd_L2 t290 x14_1) 2)
                 ·rw [if_pos c21] at H
                  have c21b0 : decide (0 ≤ (rd (rd_L2 t290 x14_1) 2)) = true := decide_eq_true c21
                  clear c21
                  by_cases c22 : (rd (rd_L2 t290 x14_1) 2) < ((rd_L2 l0 2).length : Int)
                  ·rw [if_pos c22] at H
                   have c22b0 : decide ((rd (rd_L2 t290 x14_1) 2) < ((rd_L2 l0 2).length : Int)) = true := decide_eq_true c22
                   clear c22
                   by_cases c23 : (wrap64 ((wrap64 ((rd (rd_L2 l0 0) (rd (rd_L2 t290 x14_1) 0)) + (rd (rd_L2 l0 1) (rd (rd_L2 t290 x14_1) 1)))) + (rd (rd_L2 l0 2) (rd (rd_L2 t290 x14_1) 2)))) > x4_1
                   ·rw [if_pos c23] at H
                    have c23b0 : decide (x4_1 < (wrap64 ((wrap64 ((rd (rd_L2 l0 0) (rd (rd_L2 t290 x14_1) 0)) + (rd (rd_L2 l0 1) (rd (rd_L2 t290 x14_1) 1)))) + (rd (rd_L2 l0 2) (rd (rd_L2 t290 x14_1) 2))))) = true := decide_eq_true c23
                    clear c23
                    have H' := Aside0.mk H
                    clear H
                    have p293 : 0 ≤ (x14_1 : Int) := of_decide_eq_true AS
                    have q293 : x14_1 < (t290.length : Int) := of_decide_eq_true AS
                    obtain ⟨ad293, A293_0, c293_0, e293, hx293_0, hl293_0, hi293_0⟩ := at_L2 (Kd.N_reads' HO_12.out).2.2 x14_1 p293 q293
                    cases e293
                    obtain ⟨ce293, hce293, hMe293, hcc293⟩ := Kd.N_get HO_12.out [] x14_1 p293 (by first | exact q293 | exact of_decide_eq_true AS | (have e_ := (Kd.N_reads' HO_12.out).1; omega))
                    obtain ⟨ua293_0, uc293_0, rfl, ul293_0, ge293_0⟩ := Kd.FK_slice_open hMe293
                    have hv293_0 := hcc293 0 _ rfl
                    rw [Nat.add_zero, show ((Kd.slice 3 (Kd.int .i64))).sz = 1 from rfl, Nat.mul_one] at hv293_0
                    replace hv293_0 := Option.some.inj (hv293_0.symm.trans hx293_0)
                    injection hv293_0 with hva_ hvn_ hvc_
                    rw [hva_] at ge293_0
                    rw [hvc_] at ul293_0
                    have HL293_0 := Aside0.mk (show Kd.V (Kd.int .i64) 3 _ w.heap.size _ _ (rd_L2 t290 x14_1) from Kd.V_mk ul293_0 ge293_0)
                    clear hva_ hvn_ hvc_ ge293_0 ul293_0
                    clear hcc293 hce293
                    have HR293_0 := Aside0.mk hi293_0
                    have HC293_0 := Aside0.mk hl293_0
                    clear hi293_0 hl293_0
                    replace p293 := eq_true p293
                    replace q293 := eq_true q293
                    have p294 : 0 ≤ (0 : Int) := (by omega)
                    have q294 : 0 < (l0.length : Int) := of_decide_eq_true AS
                    obtain ⟨ad294, A294_0, c294_0, e294, hx294_0, hl294_0, hi294_0⟩ := at_L2 HR0.out 0 p294 q294
                    cases e294
                    have qi294 : (0 < l0.length) = True := eq_true (by omega)
                    (try rw [show ((0 : Int)).toNat = 0 from rfl] at hx294_0)
                    (try rw [Addr.add_zero'] at hx294_0)
                    try (replace hx294_0 := (HB.out.cell (World.block_lt_of_cell? w _ hx294_0)).trans hx294_0)
                    have HR294_0 := Aside0.mk hi294_0
                    have HC294_0 := Aside0.mk hl294_0
                    clear hi294_0 hl294_0
                    replace p294 := eq_true p294
                    replace q294 := eq_true q294
                    have p295 : 0 ≤ (0 : Int) := (by omega)
                    have q295 : 0 < ((rd_L2 t290 x14_1).length : Int) := of_decide_eq_true AS
                    obtain ⟨ad295, e295, hx295_0⟩ := Kd.at_int (by repeat (first | (with_reducible exact HR293_0.out) | (with_reducible refine Kd.C_drewN ?_ _) | (with_reducible refine Kd.C_drew ?_) | (with_reducible refine Kd.C_alloc ?_ _) | exact HR293_0.out)) 0 p295 q295
                    cases e295
                    have qi295 : (0 < (rd_L2 t290 x14_1).length) = True := eq_true (by omega)
                    (try rw [show ((0 : Int)).toNat = 0 from rfl] at hx295_0)
                    (try rw [Addr.add_zero'] at hx295_0)
                    replace p295 := eq_true p295
                    replace q295 := eq_true q295
                    have p296 : 0 ≤ ((rd (rd_L2 t290 x14_1) 0) : Int) := of_decide_eq_true AS
                    have q296 : (rd (rd_L2 t290 x14_1) 0) < ((rd_L2 l0 0).length : Int) := of_decide_eq_true AS
                    obtain ⟨ad296, e296, hx296_0⟩ := Kd.at_int HR294_0.out (rd (rd_L2 t290 x14_1) 0) p296 q296
                    cases e296
                    try (replace hx296_0 := (HB.out.cell (World.block_lt_of_cell? w _ hx296_0)).trans hx296_0)
                    replace p296 := eq_true p296
                    replace q296 := eq_true q296
                    have p297 : 0 ≤ (1 : Int) := (by omega)
                    have q297 : 1 < (l0.length : Int) := of_decide_eq_true AS
                    obtain ⟨ad297, A297_0, c297_0, e297, hx297_0, hl297_0, hi297_0⟩ := at_L2 HR0.out 1 p297 q297
                    obtain rfl : ad294 = ad297 := (by injection e297)
                    (try simp only [show (1 : Int).toNat = 1 from rfl, Nat.reduceMul, Nat.reduceEqDiff, Go.Addr.add, ↓reduceIte] at hx297_0)
                    have qi297 : (1 < l0.length) = True := eq_true (by omega)
                    (try rw [show ((1 : Int)).toNat = 1 from rfl] at hx297_0)
                    try (replace hx297_0 := (HB.out.cell (World.block_lt_of_cell? w _ hx297_0)).trans hx297_0)
                    have HR297_0 := Aside0.mk hi297_0
                    have HC297_0 := Aside0.mk hl297_0
                    clear hi297_0 hl297_0
                    replace p297 := eq_true p297
                    replace q297 := eq_true q297
                    have p298 : 0 ≤ (1 : Int) := (by omega)
                    have q298 : 1 < ((rd_L2 t290 x14_1).length : Int) := of_decide_eq_true AS
                    obtain ⟨ad298, e298, hx298_0⟩ := Kd.at_int (by repeat (first | (with_reducible exact HR293_0.out) | (with_reducible refine Kd.C_drewN ?_ _) | (with_reducible refine Kd.C_drew ?_) | (with_reducible refine Kd.C_alloc ?_ _) | exact HR293_0.out)) 1 p298 q298
                    obtain rfl : ad295 = ad298 := (by injection e298)
                    (try simp only [show (1 : Int).toNat = 1 from rfl, Nat.reduceMul, Nat.reduceEqDiff, Go.Addr.add, ↓reduceIte] at hx298_0)
                    have qi298 : (1 < (rd_L2 t290 x14_1).length) = True := eq_true (by omega)
                    (try rw [show ((1 : Int)).toNat = 1 from rfl] at hx298_0)
                    replace p298 := eq_true p298
                    replace q298 := eq_true q298
                    have p299 : 0 ≤ ((rd (rd_L2 t290 x14_1) 1) : Int) := of_decide_eq_true AS
                    have q299 : (rd (rd_L2 t290 x14_1) 1) < ((rd_L2 l0 1).length : Int) := of_decide_eq_true AS
                    obtain ⟨ad299, e299, hx299_0⟩ := Kd.at_int HR297_0.out (rd (rd_L2 t290 x14_1) 1) p299 q299
                    cases e299
                    try (replace hx299_0 := (HB.out.cell (World.block_lt_of_cell? w _ hx299_0)).trans hx299_0)
                    replace p299 := eq_true p299
                    replace q299 := eq_true q299
                    have p300 : 0 ≤ (2 : Int) := (by omega)
                    have q300 : 2 < (l0.length : Int) := of_decide_eq_true AS
                    obtain ⟨ad300, A300_0, c300_0, e300, hx300_0, hl300_0, hi300_0⟩ := at_L2 HR0.out 2 p300 q300
                    obtain rfl : ad294 = ad300 := (by injection e300)
                    (try simp only [show (2 : Int).toNat = 2 from rfl, Nat.reduceMul, Nat.reduceEqDiff, Go.Addr.add, ↓reduceIte] at hx300_0)
                    have qi300 : (2 < l0.length) = True := eq_true (by omega)
                    (try rw [show ((2 : Int)).toNat = 2 from rfl] at hx300_0)
                    try (replace hx300_0 := (HB.out.cell (World.block_lt_of_cell? w _ hx300_0)).trans hx300_0)
                    have HR300_0 := Aside0.mk hi300_0
                    have HC300_0 := Aside0.mk hl300_0
                    clear hi300_0 hl300_0
                    replace p300 := eq_true p300
                    replace q300 := eq_true q300
                    have p301 : 0 ≤ (2 : Int) := (by omega)
                    have q301 : 2 < ((rd_L2 t290 x14_1).length : Int) := of_decide_eq_true AS
                    obtain ⟨ad301, e301, hx301_0⟩ := Kd.at_int (by repeat (first | (with_reducible exact HR293_0.out) | (with_reducible refine Kd.C_drewN ?_ _) | (with_reducible refine Kd.C_drew ?_) | (with_reducible refine Kd.C_alloc ?_ _) | exact HR293_0.out)) 2 p301 q301
                    obtain rfl : ad295 = ad301 := (by injection e301)
                    (try simp only [show (2 : Int).toNat = 2 from rfl, Nat.reduceMul, Nat.reduceEqDiff, Go.Addr.add, ↓reduceIte] at hx301_0)
                    have qi301 : (2 < (rd_L2 t290 x14_1).length) = True := eq_true (by omega)
                    (try rw [show ((2 : Int)).toNat = 2 from rfl] at hx301_0)
                    replace p301 := eq_true p301
                    replace q301 := eq_true q301
                    have p302 : 0 ≤ ((rd (rd_L2 t290 x14_1) 2) : Int) := of_decide_eq_true AS
                    have q302 : (rd (rd_L2 t290 x14_1) 2) < ((rd_L2 l0 2).length : Int) := of_decide_eq_true AS
                    obtain ⟨ad302, e302, hx302_0⟩ := Kd.at_int HR300_0.out (rd (rd_L2 t290 x14_1) 2) p302 q302
                    cases e302
                    try (replace hx302_0 := (HB.out.cell (World.block_lt_of_cell? w _ hx302_0)).trans hx302_0)
                    replace p302 := eq_true p302
                    replace q302 := eq_true q302
                    go_wp2
                    repeat (go_quiet (fail); try go_wp2)
                    go_roundg k1
                    case measure => have := HK1.out; omega
                    case rel => exact ⟨(wrap64 ((wrap64 ((rd (rd_L2 l0 0) (rd (rd_L2 t290 x14_1) 0)) + (rd (rd_L2 l0 1) (rd (rd_L2 t290 x14_1) 1)))) + (rd (rd_L2 l0 2) (rd (rd_L2 t290 x14_1) 2)))), (rd_L2 t290 x14_1), (wrap64 (x14_1 + 1)), RF, RF, H', ⟨by have := HK1.out; omega⟩, ⟨by (with_reducible repeat (first | apply Kd.V_alloc | apply Kd.V_drewN | apply Kd.V_drew)); exact HL293_0.out⟩, ⟨KN HO_12⟩, ⟨BB⟩⟩
                   ·rw [if_neg c23] at H
                    have c23b0 : decide (x4_1 < (wrap64 ((wrap64 ((rd (rd_L2 l0 0) (rd (rd_L2 t290 x14_1) 0)) + (rd (rd_L2 l0 1) (rd (rd_L2 t290 x14_1) 1)))) + (rd (rd_L2 l0 2) (rd (rd_L2 t290 x14_1) 2))))) = false := decide_eq_false c23
                    clear c23
                    have H' := Aside0.mk H
                    clear H
                    have p293 : 0 ≤ (x14_1 : Int) := of_decide_eq_true AS
                    have q293 : x14_1 < (t290.length : Int) := of_decide_eq_true AS
                    obtain ⟨ad293, A293_0, c293_0, e293, hx293_0, hl293_0, hi293_0⟩ := at_L2 (Kd.N_reads' HO_12.out).2.2 x14_1 p293 q293
                    cases e293
                    obtain ⟨ce293, hce293, hMe293, hcc293⟩ := Kd.N_get HO_12.out [] x14_1 p293 (by first | exact q293 | exact of_decide_eq_true AS | (have e_ := (Kd.N_reads' HO_12.out).1; omega))
                    obtain ⟨ua293_0, uc293_0, rfl, ul293_0, ge293_0⟩ := Kd.FK_slice_open hMe293
                    have hv293_0 := hcc293 0 _ rfl
                    rw [Nat.add_zero, show ((Kd.slice 3 (Kd.int .i64))).sz = 1 from rfl, Nat.mul_one] at hv293_0
                    replace hv293_0 := Option.some.inj (hv293_0.symm.trans hx293_0)
                    injection hv293_0 with hva_ hvn_ hvc_
                    rw [hva_] at ge293_0
                    rw [hvc_] at ul293_0
                    have HL293_0 := Aside0.mk (show Kd.V (Kd.int .i64) 3 _ w.heap.size _ _ (rd_L2 t290 x14_1) from Kd.V_mk ul293_0 ge293_0)
                    clear hva_ hvn_ hvc_ ge293_0 ul293_0
                    clear hcc293 hce293
                    have HR293_0 := Aside0.mk hi293_0
                    have HC293_0 := Aside0.mk hl293_0
                    clear hi293_0 hl293_0
                    replace p293 := eq_true p293
                    replace q293 := eq_true q293
                    have p294 : 0 ≤ (0 : Int) := (by omega)
                    have q294 : 0 < (l0.length : Int) := of_decide_eq_true AS
                    obtain ⟨ad294, A294_0, c294_0, e294, hx294_0, hl294_0, hi294_0⟩ := at_L2 HR0.out 0 p294 q294
                    cases e294
                    have qi294 : (0 < l0.length) = True := eq_true (by omega)
                    (try rw [show ((0 : Int)).toNat = 0 from rfl] at hx294_0)
                    (try rw [Addr.add_zero'] at hx294_0)
                    try (replace hx294_0 := (HB.out.cell (World.block_lt_of_cell? w _ hx294_0)).trans hx294_0)
                    have HR294_0 := Aside0.mk hi294_0
                    have HC294_0 := Aside0.mk hl294_0
                    clear hi294_0 hl294_0
                    replace p294 := eq_true p294
                    replace q294 := eq_true q294
                    have p295 : 0 ≤ (0 : Int) := (by omega)
                    have q295 : 0 < ((rd_L2 t290 x14_1).length : Int) := of_decide_eq_true AS
                    obtain ⟨ad295, e295, hx295_0⟩ := Kd.at_int (by repeat (first | (with_reducible exact HR293_0.out) | (with_reducible refine Kd.C_drewN ?_ _) | (with_reducible refine Kd.C_drew ?_) | (with_reducible refine Kd.C_alloc ?_ _) | exact HR293_0.out)) 0 p295 q295
                    cases e295
                    have qi295 : (0 < (rd_L2 t290 x14_1).length) = True := eq_true (by omega)
                    (try rw [show ((0 : Int)).toNat = 0 from rfl] at hx295_0)
                    (try rw [Addr.add_zero'] at hx295_0)
                    replace p295 := eq_true p295
                    replace q295 := eq_true q295
                    have p296 : 0 ≤ ((rd (rd_L2 t290 x14_1) 0) : Int) := of_decide_eq_true AS
                    have q296 : (rd (rd_L2 t290 x14_1) 0) < ((rd_L2 l0 0).length : Int) := of_decide_eq_true AS
                    obtain ⟨ad296, e296, hx296_0⟩ := Kd.at_int HR294_0.out (rd (rd_L2 t290 x14_1) 0) p296 q296
                    cases e296
                    try (replace hx296_0 := (HB.out.cell (World.block_lt_of_cell? w _ hx296_0)).trans hx296_0)
                    replace p296 := eq_true p296
                    replace q296 := eq_true q296
                    have p297 : 0 ≤ (1 : Int) := (by omega)
                    have q297 : 1 < (l0.length : Int) := of_decide_eq_true AS
                    obtain ⟨ad297, A297_0, c297_0, e297, hx297_0, hl297_0, hi297_0⟩ := at_L2 HR0.out 1 p297 q297
                    obtain rfl : ad294 = ad297 := (by injection e297)
                    (try simp only [show (1 : Int).toNat = 1 from rfl, Nat.reduceMul, Nat.reduceEqDiff, Go.Addr.add, ↓reduceIte] at hx297_0)
                    have qi297 : (1 < l0.length) = True := eq_true (by omega)
                    (try rw [show ((1 : Int)).toNat = 1 from rfl] at hx297_0)
                    try (replace hx297_0 := (HB.out.cell (World.block_lt_of_cell? w _ hx297_0)).trans hx297_0)
                    have HR297_0 := Aside0.mk hi297_0
                    have HC297_0 := Aside0.mk hl297_0
                    clear hi297_0 hl297_0
                    replace p297 := eq_true p297
                    replace q297 := eq_true q297
                    have p298 : 0 ≤ (1 : Int) := (by omega)
                    have q298 : 1 < ((rd_L2 t290 x14_1).length : Int) := of_decide_eq_true AS
                    obtain ⟨ad298, e298, hx298_0⟩ := Kd.at_int (by repeat (first | (with_reducible exact HR293_0.out) | (with_reducible refine Kd.C_drewN ?_ _) | (with_reducible refine Kd.C_drew ?_) | (with_reducible refine Kd.C_alloc ?_ _) | exact HR293_0.out)) 1 p298 q298
                    obtain rfl : ad295 = ad298 := (by injection e298)
                    (try simp only [show (1 : Int).toNat = 1 from rfl, Nat.reduceMul, Nat.reduceEqDiff, Go.Addr.add, ↓reduceIte] at hx298_0)
                    have qi298 : (1 < (rd_L2 t290 x14_1).length) = True := eq_true (by omega)
                    (try rw [show ((1 : Int)).toNat = 1 from rfl] at hx298_0)
                    replace p298 := eq_true p298
                    replace q298 := eq_true q298
                    have p299 : 0 ≤ ((rd (rd_L2 t290 x14_1) 1) : Int) := of_decide_eq_true AS
                    have q299 : (rd (rd_L2 t290 x14_1) 1) < ((rd_L2 l0 1).length : Int) := of_decide_eq_true AS
                    obtain ⟨ad299, e299, hx299_0⟩ := Kd.at_int HR297_0.out (rd (rd_L2 t290 x14_1) 1) p299 q299
                    cases e299
                    try (replace hx299_0 := (HB.out.cell (World.block_lt_of_cell? w _ hx299_0)).trans hx299_0)
                    replace p299 := eq_true p299
                    replace q299 := eq_true q299
                    have p300 : 0 ≤ (2 : Int) := (by omega)
                    have q300 : 2 < (l0.length : Int) := of_decide_eq_true AS
                    obtain ⟨ad300, A300_0, c300_0, e300, hx300_0, hl300_0, hi300_0⟩ := at_L2 HR0.out 2 p300 q300
                    obtain rfl : ad294 = ad300 := (by injection e300)
                    (try simp only [show (2 : Int).toNat = 2 from rfl, Nat.reduceMul, Nat.reduceEqDiff, Go.Addr.add, ↓reduceIte] at hx300_0)
                    have qi300 : (2 < l0.length) = True := eq_true (by omega)
                    (try rw [show ((2 : Int)).toNat = 2 from rfl] at hx300_0)
                    try (replace hx300_0 := (HB.out.cell (World.block_lt_of_cell? w _ hx300_0)).trans hx300_0)
                    have HR300_0 := Aside0.mk hi300_0
                    have HC300_0 := Aside0.mk hl300_0
                    clear hi300_0 hl300_0
                    replace p300 := eq_true p300
                    replace q300 := eq_true q300
                    have p301 : 0 ≤ (2 : Int) := (by omega)
                    have q301 : 2 < ((rd_L2 t290 x14_1).length : Int) := of_decide_eq_true AS
                    obtain ⟨ad301, e301, hx301_0⟩ := Kd.at_int (by repeat (first | (with_reducible exact HR293_0.out) | (with_reducible refine Kd.C_drewN ?_ _) | (with_reducible refine Kd.C_drew ?_) | (with_reducible refine Kd.C_alloc ?_ _) | exact HR293_0.out)) 2 p301 q301
                    obtain rfl : ad295 = ad301 := (by injection e301)
                    (try simp only [show (2 : Int).toNat = 2 from rfl, Nat.reduceMul, Nat.reduceEqDiff, Go.Addr.add, ↓reduceIte] at hx301_0)
                    have qi301 : (2 < (rd_L2 t290 x14_1).length) = True := eq_true (by omega)
                    (try rw [show ((2 : Int)).toNat = 2 from rfl] at hx301_0)
                    replace p301 := eq_true p301
                    replace q301 := eq_true q301
                    have p302 : 0 ≤ ((rd (rd_L2 t290 x14_1) 2) : Int) := of_decide_eq_true AS
                    have q302 : (rd (rd_L2 t290 x14_1) 2) < ((rd_L2 l0 2).length : Int) := of_decide_eq_true AS
                    obtain ⟨ad302, e302, hx302_0⟩ := Kd.at_int HR300_0.out (rd (rd_L2 t290 x14_1) 2) p302 q302
                    cases e302
                    try (replace hx302_0 := (HB.out.cell (World.block_lt_of_cell? w _ hx302_0)).trans hx302_0)
                    replace p302 := eq_true p302
                    replace q302 := eq_true q302
                    go_wp2
                    repeat (go_quiet (fail); try go_wp2)
                    go_roundg k1
                    case measure => have := HK1.out; omega
                    case rel => exact ⟨(x4_1), (x5_1), (wrap64 (x14_1 + 1)), RF, RF, H', ⟨by have := HK1.out; omega⟩, ⟨by (with_reducible repeat (first | apply Kd.V_alloc | apply Kd.V_drewN | apply Kd.V_drew)); exact HO_5.out⟩, ⟨KN HO_12⟩, ⟨BB⟩⟩
                  ·rw [if_neg c22] at H
                   cases H
                 ·rw [if_neg c21] at H
                  cases H
                ·rw [if_neg c20] at H
                 cases H
               ·rw [if_neg c19] at H
                cases H
              ·rw [if_neg c18] at H
               cases H
             ·rw [if_neg c17] at H
              cases H
            ·rw [if_neg c16] at H
             cases H
           ·rw [if_neg c15] at H
            cases H
          ·rw [if_neg c14] at H
           cases H
         ·rw [if_neg c13] at H
          cases H
        ·rw [if_neg c12] at H
         cases H
       ·rw [if_neg c11] at H
        cases H
      ·rw [if_neg c10] at H
       cases H
     ·rw [if_neg c9] at H
      cases H
    ·rw [if_neg c8] at H
     have c8b0 : decide (x14_1 < (t290.length : Int)) = false := decide_eq_false c8
     try (have c8bl := c8b0; rw [hl293_0] at c8bl)
     clear c8
     simp only [Option.some.injEq, Prod.mk.injEq] at H
     obtain ⟨rfl, rfl⟩ := H
     go_wp2
     repeat (go_quiet (fail); try go_wp2)
     go_ret2
     exact ⟨_, RE, by (with_reducible repeat (first | apply Kd.V_alloc | apply Kd.V_drewN | apply Kd.V_drew)); exact Kd.V_mono HO_5.out (fun _ hk => hk.1), BB⟩
 ·replace c3 := Bool.eq_false_iff.mpr c3
  subst c3
  replace H := IN H
  simp only [Option.some.injEq, Prod.mk.injEq] at H
  obtain ⟨rfl, rfl⟩ := H
  go_enter Try.func8, Try.ntmps8
  go_wp2_with (first | (go_at_call 19; (with_reducible refine (impl_areWorths.calls k _ _ l0 false _ ?side1 ?side2 A2.out).mono ?_); (case side1 => exact CW HR0.out); (case side2 => exact HC0.out); rintro e w24 ⟨rfl, hb⟩; have n0_ := Aside0.mk (below_step BB hb); clear HB; have HB := n0_; clear n0_; (try clear hb); (try clear hb2); (try clear hk); (try clear hi)))
  repeat (go_quiet (first | (go_at_call 19; (with_reducible refine (impl_areWorths.calls k _ _ l0 false _ ?side1 ?side2 A2.out).mono ?_); (case side1 => exact CW HR0.out); (case side2 => exact HC0.out); rintro e w24 ⟨rfl, hb⟩; have n0_ := Aside0.mk (below_step BB hb); clear HB; have HB := n0_; clear n0_; (try clear hb); (try clear hb2); (try clear hk); (try clear hi))); try go_wp2_with (first | (go_at_call 19; (with_reducible refine (impl_areWorths.calls k _ _ l0 false _ ?side1 ?side2 A2.out).mono ?_); (case side1 => exact CW HR0.out); (case side2 => exact HC0.out); rintro e w24 ⟨rfl, hb⟩; have n0_ := Aside0.mk (below_step BB hb); clear HB; have HB := n0_; clear n0_; (try clear hb); (try clear hb2); (try clear hk); (try clear hi))))
  go_ret2
  exact ⟨_, RE, Kd.V_nil _ _ _ _ _, BB⟩

end Go.Proofs.Ythkdkgbcokpbaaa.PFnRentsAreFair
