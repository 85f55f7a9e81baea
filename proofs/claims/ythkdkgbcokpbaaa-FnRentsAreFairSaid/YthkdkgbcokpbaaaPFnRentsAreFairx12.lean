-- Written by a program of this session (wip/tools/pp.sh) out of the translation; Lean checks it.
import Derived.Test.YthkdkgbcokpbaaaPFnRentsAreFairx0
import Derived.Test.YthkdkgbcokpbaaaPFnRentsAreFairx1
import Derived.Test.YthkdkgbcokpbaaaPFnRentsAreFairx4
import Derived.Test.YthkdkgbcokpbaaaPFnRentsAreFairx6
import Derived.Test.YthkdkgbcokpbaaaPFnRentsAreFairx7
import Derived.Test.YthkdkgbcokpbaaaPFnRentsAreFairx8
import Derived.Test.YthkdkgbcokpbaaaPFnRentsAreFairx9
import Derived.Test.YthkdkgbcokpbaaaPFnRentsAreFairx11
namespace Go.Proofs.Ythkdkgbcokpbaaa.PFnRentsAreFair
open Go.RowKit Go.Proofs.YthkdkgbcokpbaaaOwn Go.Proofs.YthkdkgbcokpbaaaW.PrintWords Go.Proofs.YthkdkgbcokpbaaaW.PrintLast Go.Proofs.YthkdkgbcokpbaaaW.PrintMore
attribute [local go_sem] max2_int min2_int max_two min_two max_three min_three max_four min_four   -- for this text's walks alone
set_option linter.unusedVariables false
set_option maxHeartbeats 8000000
set_option maxRecDepth 100000
set_option linter.unusedSimpArgs false

/-! ### laws_FnRentsAreFair: function 3 -/
mutual
def laws_FnRentsAreFair.j0 : Nat → List Int → Int → List (List Int) → Int → List Int → Bool → List Int → Bool → Option (Bool)
 | 0, _, _, _, _, _, _, _, _ => none
 | k + 1, x1, x5, x6, x7, x8, x9, x13, x104 => if x104 = true then (none) else (if x9 = true then ((impl_RentEnvy.f k x5 x6 x7 x8).bind fun bt455 => (laws_FnRentsAreFair.l0 k x1 x5 x6 x8 x13 bt455.1 bt455.2 0 0 x6 (x6.length : Int) 0)) else (laws_FnRentsAreFair.j4 k x1))
def laws_FnRentsAreFair.j4 : Nat → List Int → Option (Bool)
 | 0, _ => none
 | k + 1, x1 => (spec_DrawRentEnvy.f k x1).bind fun bt466 => ((impl_RentEnvy.f k bt466.1 bt466.2.1 bt466.2.2.1 bt466.2.2.2).bind fun bt474 => ((spec_RentEnvy.f k bt466.1 bt466.2.1 bt466.2.2.1 bt466.2.2.2).bind fun bt476 => ((spec_DrawBestRooms.f k x1).bind fun t478 => ((impl_BestRooms.f k t478).bind fun bt481 => ((spec_BestRooms.f k t478).bind fun bt485 => (if (bt474.2 == bt476.2) = true then (if bt474.1 = bt476.1 then (if (bt481.2 == bt485.2) = true then ((laws_zSame.f k bt481.1 bt485.1).bind fun t489 => (some t489)) else (none)) else (none)) else (none)))))))
def laws_FnRentsAreFair.l0 : Nat → List Int → Int → List (List Int) → List Int → List Int → Int → Bool → Int → Int → List (List Int) → Int → Int → Option (Bool)
 | 0, _, _, _, _, _, _, _, _, _, _, _, _ => none
 | k + 1, x1, x5, x6, x8, x13, x17, x18, x19, x20, x114, x115, x116 => if x116 < x115 then (if 0 ≤ x116 then (if x116 < (x114.length : Int) then (if x116 < (x8.length : Int) then (if 0 ≤ (rd x8 x116) then (if (rd x8 x116) < ((rd_L2 x114 x116).length : Int) then (if x116 < (x13.length : Int) then (if 0 ≤ (rd x13 x116) then (if (rd x13 x116) < ((rd_L2 x114 x116).length : Int) then (laws_FnRentsAreFair.l0 k x1 x5 x6 x8 x13 x17 x18 (wrap64 (x19 + (rd (rd_L2 x114 x116) (rd x8 x116)))) (wrap64 (x20 + (rd (rd_L2 x114 x116) (rd x13 x116)))) x114 x115 (wrap64 (x116 + 1))) else (none)) else (none)) else (none)) else (none)) else (none)) else (none)) else (none)) else (none)) else (if x18 = true then (if x19 > x20 then (none) else (if x17 = 0 then (laws_FnRentsAreFair.j2 k x1 x5 x6 x13 x17 (x19 != x20)) else (laws_FnRentsAreFair.j2 k x1 x5 x6 x13 x17 false))) else (none))
def laws_FnRentsAreFair.j2 : Nat → List Int → Int → List (List Int) → List Int → Int → Bool → Option (Bool)
 | 0, _, _, _, _, _, _ => none
 | k + 1, x1, x5, x6, x13, x17, x155 => if x155 = true then (none) else ((impl_CountPoints.f x5).bind fun bt462 => (laws_FnRentsAreFair.l1 k x1 x5 x6 x13 x17 bt462.1 bt462.2 0))
def laws_FnRentsAreFair.l1 : Nat → List Int → Int → List (List Int) → List Int → Int → Int → Bool → Int → Option (Bool)
 | 0, _, _, _, _, _, _, _, _ => none
 | k + 1, x1, x5, x6, x13, x17, x23, x24, x25 => if x25 < x23 then ((impl_RentEnvy.f k x5 x6 x25 x13).bind fun bt464 => (if bt464.2 = true then (if bt464.1 < x17 then (none) else (laws_FnRentsAreFair.l1 k x1 x5 x6 x13 x17 x23 x24 (wrap64 (x25 + 1)))) else (none))) else (if x24 = true then (laws_FnRentsAreFair.j4 k x1) else (none))
end
def laws_FnRentsAreFair.f (k : Nat) (l0 : List Int) (l1 : List Int) : Option (Bool) := (laws_big.f l0 l1).bind fun t430 => (if t430 = true then (some true) else ((spec_DrawFairRent.f k l0).bind fun bt431 => ((impl_FairRent.f k bt431.1 bt431.2).bind fun bt435 => ((spec_FairRent.f k bt431.1 bt431.2).bind fun bt440 => ((impl_BestRooms.f k bt431.2).bind fun bt445 => ((spec_BestRooms.f k bt431.2).bind fun bt449 => (if (bt435.2.2 != bt440.2.2) = true then (none) else (if bt435.1 = bt440.1 then ((laws_zSame.f k bt435.2.1 bt440.2.1).bind fun t453 => (if t453 = true then (if (bt445.2 != bt449.2) = true then (none) else ((laws_zSame.f k bt445.1 bt449.1).bind fun t454 => (if t454 = true then (if bt435.2.2 = true then (laws_FnRentsAreFair.j0 k l1 bt431.1 bt431.2 bt435.1 bt435.2.1 bt435.2.2 bt445.1 (!bt445.2)) else (laws_FnRentsAreFair.j0 k l1 bt431.1 bt431.2 bt435.1 bt435.2.1 bt435.2.2 bt445.1 false)) else (none)))) else (none))) else (none)))))))))
theorem laws_FnRentsAreFair.mono_l : ∀ k, (∀ y0 y1 y2 y3 y4 y5 y6 y7, LeO (laws_FnRentsAreFair.j0 k y0 y1 y2 y3 y4 y5 y6 y7) (laws_FnRentsAreFair.j0 (k + 1) y0 y1 y2 y3 y4 y5 y6 y7)) ∧ (∀ y0, LeO (laws_FnRentsAreFair.j4 k y0) (laws_FnRentsAreFair.j4 (k + 1) y0)) ∧ (∀ y0 y1 y2 y3 y4 y5 y6 y7 y8 y9 y10 y11, LeO (laws_FnRentsAreFair.l0 k y0 y1 y2 y3 y4 y5 y6 y7 y8 y9 y10 y11) (laws_FnRentsAreFair.l0 (k + 1) y0 y1 y2 y3 y4 y5 y6 y7 y8 y9 y10 y11)) ∧ (∀ y0 y1 y2 y3 y4 y5, LeO (laws_FnRentsAreFair.j2 k y0 y1 y2 y3 y4 y5) (laws_FnRentsAreFair.j2 (k + 1) y0 y1 y2 y3 y4 y5)) ∧ (∀ y0 y1 y2 y3 y4 y5 y6 y7, LeO (laws_FnRentsAreFair.l1 k y0 y1 y2 y3 y4 y5 y6 y7) (laws_FnRentsAreFair.l1 (k + 1) y0 y1 y2 y3 y4 y5 y6 y7))
 | 0 => ⟨fun _ _ _ _ _ _ _ _ r h => by simp [laws_FnRentsAreFair.j0] at h, fun _ r h => by simp [laws_FnRentsAreFair.j4] at h, fun _ _ _ _ _ _ _ _ _ _ _ _ r h => by simp [laws_FnRentsAreFair.l0] at h, fun _ _ _ _ _ _ r h => by simp [laws_FnRentsAreFair.j2] at h, fun _ _ _ _ _ _ _ _ r h => by simp [laws_FnRentsAreFair.l1] at h⟩
 | k + 1 => by
  obtain ⟨ih0, ih1, ih2, ih3, ih4⟩ := laws_FnRentsAreFair.mono_l k
  refine ⟨?_, ?_, ?_, ?_, ?_⟩
  ·intro y0 y1 y2 y3 y4 y5 y6 y7
   unfold laws_FnRentsAreFair.j0
   repeat' first
   | with_reducible first | exact ih0 _ _ _ _ _ _ _ _ | exact ih1 _ | exact ih2 _ _ _ _ _ _ _ _ _ _ _ _ | exact ih3 _ _ _ _ _ _ | exact ih4 _ _ _ _ _ _ _ _ | exact impl_BestRooms.mono _ _ | exact impl_FairRent.mono _ _ _ | exact impl_RentEnvy.mono _ _ _ _ _ | exact laws_zSame.mono _ _ _ | exact spec_BestRooms.mono _ _ | exact spec_DrawBestRooms.mono _ _ | exact spec_DrawFairRent.mono _ _ | exact spec_DrawRentEnvy.mono _ _ | exact spec_FairRent.mono _ _ _ | exact spec_RentEnvy.mono _ _ _ _ _ | exact LeO.refl _ | exact LeO.none _ | refine LeO.ite ?_ ?_ | refine LeO.bind ?_ (fun _ => ?_)
   | exact LeO.none _ | refine LeO.ite ?_ ?_ | refine LeO.bind ?_ (fun _ => ?_)
  ·intro y0
   unfold laws_FnRentsAreFair.j4
   repeat' first
   | with_reducible first | exact ih0 _ _ _ _ _ _ _ _ | exact ih1 _ | exact ih2 _ _ _ _ _ _ _ _ _ _ _ _ | exact ih3 _ _ _ _ _ _ | exact ih4 _ _ _ _ _ _ _ _ | exact impl_BestRooms.mono _ _ | exact impl_FairRent.mono _ _ _ | exact impl_RentEnvy.mono _ _ _ _ _ | exact laws_zSame.mono _ _ _ | exact spec_BestRooms.mono _ _ | exact spec_DrawBestRooms.mono _ _ | exact spec_DrawFairRent.mono _ _ | exact spec_DrawRentEnvy.mono _ _ | exact spec_FairRent.mono _ _ _ | exact spec_RentEnvy.mono _ _ _ _ _ | exact LeO.refl _ | exact LeO.none _ | refine LeO.ite ?_ ?_ | refine LeO.bind ?_ (fun _ => ?_)
   | exact LeO.none _ | refine LeO.ite ?_ ?_ | refine LeO.bind ?_ (fun _ => ?_)
  ·intro y0 y1 y2 y3 y4 y5 y6 y7 y8 y9 y10 y11
   unfold laws_FnRentsAreFair.l0
   repeat' first
   | with_reducible first | exact ih0 _ _ _ _ _ _ _ _ | exact ih1 _ | exact ih2 _ _ _ _ _ _ _ _ _ _ _ _ | exact ih3 _ _ _ _ _ _ | exact ih4 _ _ _ _ _ _ _ _ | exact impl_BestRooms.mono _ _ | exact impl_FairRent.mono _ _ _ | exact impl_RentEnvy.mono _ _ _ _ _ | exact laws_zSame.mono _ _ _ | exact spec_BestRooms.mono _ _ | exact spec_DrawBestRooms.mono _ _ | exact spec_DrawFairRent.mono _ _ | exact spec_DrawRentEnvy.mono _ _ | exact spec_FairRent.mono _ _ _ | exact spec_RentEnvy.mono _ _ _ _ _ | exact LeO.refl _ | exact LeO.none _ | refine LeO.ite ?_ ?_ | refine LeO.bind ?_ (fun _ => ?_)
   | exact LeO.none _ | refine LeO.ite ?_ ?_ | refine LeO.bind ?_ (fun _ => ?_)
  ·intro y0 y1 y2 y3 y4 y5
   unfold laws_FnRentsAreFair.j2
   repeat' first
   | with_reducible first | exact ih0 _ _ _ _ _ _ _ _ | exact ih1 _ | exact ih2 _ _ _ _ _ _ _ _ _ _ _ _ | exact ih3 _ _ _ _ _ _ | exact ih4 _ _ _ _ _ _ _ _ | exact impl_BestRooms.mono _ _ | exact impl_FairRent.mono _ _ _ | exact impl_RentEnvy.mono _ _ _ _ _ | exact laws_zSame.mono _ _ _ | exact spec_BestRooms.mono _ _ | exact spec_DrawBestRooms.mono _ _ | exact spec_DrawFairRent.mono _ _ | exact spec_DrawRentEnvy.mono _ _ | exact spec_FairRent.mono _ _ _ | exact spec_RentEnvy.mono _ _ _ _ _ | exact LeO.refl _ | exact LeO.none _ | refine LeO.ite ?_ ?_ | refine LeO.bind ?_ (fun _ => ?_)
   | exact LeO.none _ | refine LeO.ite ?_ ?_ | refine LeO.bind ?_ (fun _ => ?_)
  ·intro y0 y1 y2 y3 y4 y5 y6 y7
   unfold laws_FnRentsAreFair.l1
   repeat' first
   | with_reducible first | exact ih0 _ _ _ _ _ _ _ _ | exact ih1 _ | exact ih2 _ _ _ _ _ _ _ _ _ _ _ _ | exact ih3 _ _ _ _ _ _ | exact ih4 _ _ _ _ _ _ _ _ | exact impl_BestRooms.mono _ _ | exact impl_FairRent.mono _ _ _ | exact impl_RentEnvy.mono _ _ _ _ _ | exact laws_zSame.mono _ _ _ | exact spec_BestRooms.mono _ _ | exact spec_DrawBestRooms.mono _ _ | exact spec_DrawFairRent.mono _ _ | exact spec_DrawRentEnvy.mono _ _ | exact spec_FairRent.mono _ _ _ | exact spec_RentEnvy.mono _ _ _ _ _ | exact LeO.refl _ | exact LeO.none _ | refine LeO.ite ?_ ?_ | refine LeO.bind ?_ (fun _ => ?_)
   | exact LeO.none _ | refine LeO.ite ?_ ?_ | refine LeO.bind ?_ (fun _ => ?_)
theorem laws_FnRentsAreFair.mono : ∀ a0 a1 k, LeO (laws_FnRentsAreFair.f k a0 a1) (laws_FnRentsAreFair.f (k + 1) a0 a1) := by
 intro a0 a1 k
 obtain ⟨ih0, ih1, ih2, ih3, ih4⟩ := laws_FnRentsAreFair.mono_l k
 unfold laws_FnRentsAreFair.f
 repeat' first
   | with_reducible first | exact ih0 _ _ _ _ _ _ _ _ | exact ih1 _ | exact ih2 _ _ _ _ _ _ _ _ _ _ _ _ | exact ih3 _ _ _ _ _ _ | exact ih4 _ _ _ _ _ _ _ _ | exact impl_BestRooms.mono _ _ | exact impl_FairRent.mono _ _ _ | exact impl_RentEnvy.mono _ _ _ _ _ | exact laws_zSame.mono _ _ _ | exact spec_BestRooms.mono _ _ | exact spec_DrawBestRooms.mono _ _ | exact spec_DrawFairRent.mono _ _ | exact spec_DrawRentEnvy.mono _ _ | exact spec_FairRent.mono _ _ _ | exact spec_RentEnvy.mono _ _ _ _ _ | exact LeO.refl _ | exact LeO.none _ | refine LeO.ite ?_ ?_ | refine LeO.bind ?_ (fun _ => ?_)
   | exact LeO.none _ | refine LeO.ite ?_ ?_ | refine LeO.bind ?_ (fun _ => ?_)
theorem laws_FnRentsAreFair.calls (k : Nat) (A0 : Option Addr) (c0 : Nat) (l0 : List Int) (A1 : Option Addr) (c1 : Nat) (l1 : List Int) (r : Bool) (w : World) (hr0 : Kd.C (Kd.int .u8) w A0 l0.length l0) (hc0 : l0.length ≤ c0) (hr1 : Kd.C (Kd.int .u8) w A1 l1.length l1) (hc1 : l1.length ≤ c1) (h : laws_FnRentsAreFair.f k l0 l1 = some r) :
  Calls Try.prog 3 #[.slice A0 l0.length c0, .slice A1 l1.length c1] w fun e w' => e = .returned (.bool r) ∧ Below w.heap.size w w' := by
 have HR0 := Aside0.mk hr0
 have HC0 := Aside0.mk hc0
 clear hr0 hc0
 have HR1 := Aside0.mk hr1
 have HC1 := Aside0.mk hc1
 clear hr1 hc1
 have HB := Aside0.mk (Below.refl w.heap.size w)
 have H : ((laws_big.f l0 l1).bind fun t430 => (if t430 = true then (some true) else ((spec_DrawFairRent.f k l0).bind fun bt431 => ((impl_FairRent.f k bt431.1 bt431.2).bind fun bt435 => ((spec_FairRent.f k bt431.1 bt431.2).bind fun bt440 => ((impl_BestRooms.f k bt431.2).bind fun bt445 => ((spec_BestRooms.f k bt431.2).bind fun bt449 => (if (bt435.2.2 != bt440.2.2) = true then (none) else (if bt435.1 = bt440.1 then ((laws_zSame.f k bt435.2.1 bt440.2.1).bind fun t453 => (if t453 = true then (if (bt445.2 != bt449.2) = true then (none) else ((laws_zSame.f k bt445.1 bt449.1).bind fun t454 => (if t454 = true then (if bt435.2.2 = true then (laws_FnRentsAreFair.j0 k l1 bt431.1 bt431.2 bt435.1 bt435.2.1 bt435.2.2 bt445.1 (!bt445.2)) else (laws_FnRentsAreFair.j0 k l1 bt431.1 bt431.2 bt435.1 bt435.2.1 bt435.2.2 bt445.1 false)) else (none)))) else (none))) else (none)))))))))) = some r := h
 clear h
 replace H := EA H
 obtain ⟨t430, A3, H⟩ := H
 by_cases c4 : t430 = true
 ·subst c4
  replace H := IP H
  obtain rfl := Option.some.inj H
  go_enter Try.func3, Try.ntmps3
  go_wp2_with (first | ((with_reducible refine gate_callee (f := 4) rfl ?_); refine goesL_ (some 43) rfl rfl Try.func4 (by kernel_rfl) rfl #[.slice A0 l0.length c0, .slice A1 l1.length c1] rfl TA ?_; (with_reducible refine (laws_big.calls _ _ l0 _ _ l1 true _ ?side1 ?side2 ?side3 ?side4 A3.out).mono ?_); (case side1 => exact CW HR0.out); (case side2 => exact HC0.out); (case side3 => exact CW HR1.out); (case side4 => exact HC1.out); rintro e w' ⟨rfl, ⟨nd, rfl⟩⟩; refine ⟨_, rfl, ?_⟩))
  go_ret
  exact ⟨RE, BB⟩
 ·replace c4 := Bool.eq_false_iff.mpr c4
  subst c4
  replace H := IN H
  replace H := EA H
  obtain ⟨⟨t431, t432⟩, A5, H⟩ := H
  try dsimp only at H
  replace H := EA H
  obtain ⟨⟨t435, t436, t439⟩, A6, H⟩ := H
  try dsimp only at H
  replace H := EA H
  obtain ⟨⟨t440, t441, t444⟩, A7, H⟩ := H
  try dsimp only at H
  replace H := EA H
  obtain ⟨⟨t445, t448⟩, A8, H⟩ := H
  try dsimp only at H
  replace H := EA H
  obtain ⟨⟨t449, t452⟩, A9, H⟩ := H
  try dsimp only at H
  have HC10 := Aside0.mk H
  clear H
  go_enter Try.func3, Try.ntmps3
  go_upto_region 8 with (first | ((with_reducible refine gate_callee (f := 4) rfl ?_); refine goesL_ (some 43) rfl rfl Try.func4 (by kernel_rfl) rfl #[.slice A0 l0.length c0, .slice A1 l1.length c1] rfl TA ?_; (with_reducible refine (laws_big.calls _ _ l0 _ _ l1 false _ ?side1 ?side2 ?side3 ?side4 A3.out).mono ?_); (case side1 => exact CW HR0.out); (case side2 => exact HC0.out); (case side3 => exact CW HR1.out); (case side4 => exact HC1.out); rintro e w' ⟨rfl, ⟨nd, rfl⟩⟩; refine ⟨_, rfl, ?_⟩) | ((with_reducible refine gate_callee (f := 5) rfl ?_); refine goesL_ (some 46) rfl rfl Try.func5 (by kernel_rfl) rfl #[.slice A0 l0.length c0] rfl TA ?_; (with_reducible refine (spec_DrawFairRent.calls k _ _ l0 t431 t432 _ ?side1 ?side2 A5.out).mono ?_); (case side1 => exact CW HR0.out); (case side2 => exact HC0.out); rintro e w11 ⟨v433, rfl, ho0, hb⟩; refine ⟨_, rfl, ?_⟩; have n0_ := Aside0.mk (Kd.S_lower ho0 (below_size BB)); have n1_ := Aside0.mk (below_step BB hb); clear HB; have HO434 := n0_; have HB := n1_; clear n0_ n1_; (try clear hb); (try clear hb2); (try clear hk); (try clear hi); (try clear ho0); obtain ⟨Ao12, co12, eo12⟩ := Kd.S_slice HO434.out; subst eo12) | ((with_reducible refine gate_callee (f := 6) rfl ?_); refine goesL_ (some 52) rfl rfl Try.func6 (by kernel_rfl) rfl #[.int .i64 t431, .slice Ao12 t432.length co12] rfl TA ?_; (with_reducible refine (impl_FairRent.calls k t431 _ _ t432 t435 t436 t439 _ ?side1 ?side2 A6.out).mono ?_); (case side1 => exact CW (Kd.S_reads' HO434.out).2.2); (case side2 => exact (Kd.S_reads' HO434.out).2.1); rintro e w13 ⟨v437, rfl, ho0, hb⟩; refine ⟨_, rfl, ?_⟩; have n0_ := Aside0.mk (Kd.S_below (KS HO434) hb); have n1_ := Aside0.mk (Kd.V_lower (Kd.V_mono (ok' := fun k_ => some k_ ≠ (.slice Ao12 t432.length co12 : Value).ownBlock) ho0 (fun k_ hk_ => (Kd.fresh' (Kd.S_lt (KS HO434)) k_ hk_))) (below_size BB)); have n2_ := Aside0.mk (below_step BB hb); clear HO434; clear HB; have HO434 := n0_; have HO438 := n1_; have HB := n2_; clear n0_ n1_ n2_; (try clear hb); (try clear hb2); (try clear hk); (try clear hi); (try clear ho0)) | ((with_reducible refine gate_callee (f := 7) rfl ?_); refine goesL_ (some 59) rfl rfl Try.func7 (by kernel_rfl) rfl #[.int .i64 t431, .slice Ao12 t432.length co12] rfl TA ?_; (with_reducible refine (spec_FairRent.calls k t431 _ _ t432 t440 t441 t444 _ ?side1 ?side2 A7.out).mono ?_); (case side1 => exact CW (Kd.S_reads' HO434.out).2.2); (case side2 => exact (Kd.S_reads' HO434.out).2.1); rintro e w14 ⟨v442, rfl, ho0, hb⟩; refine ⟨_, rfl, ?_⟩; have n0_ := Aside0.mk (Kd.S_below (KS HO434) hb); have n1_ := Aside0.mk (Kd.V_below (by (with_reducible repeat (first | apply Kd.V_alloc | apply Kd.V_drewN | apply Kd.V_drew)); exact HO438.out) hb); have n2_ := Aside0.mk (Kd.V_lower (Kd.V_mono (ok' := fun k_ => some k_ ≠ (.slice Ao12 t432.length co12 : Value).ownBlock) ho0 (fun k_ hk_ => (Kd.fresh' (Kd.S_lt (KS HO434)) k_ hk_))) (below_size BB)); have n3_ := Aside0.mk (below_step BB hb); clear HO434; clear HO438; clear HB; have HO434 := n0_; have HO438 := n1_; have HO443 := n2_; have HB := n3_; clear n0_ n1_ n2_ n3_; (try clear hb); (try clear hb2); (try clear hk); (try clear hi); (try clear ho0)) | ((with_reducible refine gate_callee (f := 8) rfl ?_); refine goesL_ (some 65) rfl rfl Try.func8 (by kernel_rfl) rfl #[.slice Ao12 t432.length co12] rfl TA ?_; (with_reducible refine (impl_BestRooms.calls k _ _ t432 t445 t448 _ ?side1 ?side2 A8.out).mono ?_); (case side1 => exact CW (Kd.S_reads' HO434.out).2.2); (case side2 => exact (Kd.S_reads' HO434.out).2.1); rintro e w15 ⟨v446, rfl, ho0, hb⟩; refine ⟨_, rfl, ?_⟩; have n0_ := Aside0.mk (Kd.S_below (KS HO434) hb); have n1_ := Aside0.mk (Kd.V_below (by (with_reducible repeat (first | apply Kd.V_alloc | apply Kd.V_drewN | apply Kd.V_drew)); exact HO438.out) hb); have n2_ := Aside0.mk (Kd.V_below (by (with_reducible repeat (first | apply Kd.V_alloc | apply Kd.V_drewN | apply Kd.V_drew)); exact HO443.out) hb); have n3_ := Aside0.mk (Kd.V_lower (Kd.V_mono (ok' := fun k_ => some k_ ≠ (.slice Ao12 t432.length co12 : Value).ownBlock) ho0 (fun k_ hk_ => (Kd.fresh' (Kd.S_lt (KS HO434)) k_ hk_))) (below_size BB)); have n4_ := Aside0.mk (below_step BB hb); clear HO434; clear HO438; clear HO443; clear HB; have HO434 := n0_; have HO438 := n1_; have HO443 := n2_; have HO447 := n3_; have HB := n4_; clear n0_ n1_ n2_ n3_ n4_; (try clear hb); (try clear hb2); (try clear hk); (try clear hi); (try clear ho0)) | ((with_reducible refine gate_callee (f := 9) rfl ?_); refine goesL_ (some 70) rfl rfl Try.func9 (by kernel_rfl) rfl #[.slice Ao12 t432.length co12] rfl TA ?_; (with_reducible refine (spec_BestRooms.calls k _ _ t432 t449 t452 _ ?side1 ?side2 A9.out).mono ?_); (case side1 => exact CW (Kd.S_reads' HO434.out).2.2); (case side2 => exact (Kd.S_reads' HO434.out).2.1); rintro e w16 ⟨v450, rfl, ho0, hb⟩; refine ⟨_, rfl, ?_⟩; have n0_ := Aside0.mk (Kd.S_below (KS HO434) hb); have n1_ := Aside0.mk (Kd.V_below (by (with_reducible repeat (first | apply Kd.V_alloc | apply Kd.V_drewN | apply Kd.V_drew)); exact HO438.out) hb); have n2_ := Aside0.mk (Kd.V_below (by (with_reducible repeat (first | apply Kd.V_alloc | apply Kd.V_drewN | apply Kd.V_drew)); exact HO443.out) hb); have n3_ := Aside0.mk (Kd.V_below (by (with_reducible repeat (first | apply Kd.V_alloc | apply Kd.V_drewN | apply Kd.V_drew)); exact HO447.out) hb); have n4_ := Aside0.mk (Kd.V_lower (Kd.V_mono (ok' := fun k_ => some k_ ≠ (.slice Ao12 t432.length co12 : Value).ownBlock) ho0 (fun k_ hk_ => (Kd.fresh' (Kd.S_lt (KS HO434)) k_ hk_))) (below_size BB)); have n5_ := Aside0.mk (below_step BB hb); clear HO434; clear HO438; clear HO443; clear HO447; clear HB; have HO434 := n0_; have HO438 := n1_; have HO443 := n2_; have HO447 := n3_; have HO451 := n4_; have HB := n5_; clear n0_ n1_ n2_ n3_ n4_ n5_; (try clear hb); (try clear hb2); (try clear hk); (try clear hi); (try clear ho0)))
  (try simp only [Act.put, List.setIfInBounds_toArray, List.set_cons_zero, List.set_cons_succ])
  go_cut [104] (fun v104 wc => ∃ (kq : Nat) (x104_9 : Bool), v104 = .bool x104_9 ∧ Aside0 (laws_FnRentsAreFair.j0 kq l1 t431 t432 t435 t436 t439 t445 x104_9 = some r) ∧ Aside0 (kq ≤ k) ∧ Aside0 (Kd.S (Kd.slice 3 (Kd.int .i64)) 27 wc w.heap.size (fun _ => True) (.slice Ao12 t432.length co12) t432) ∧ Aside0 (Kd.V (Kd.int .i64) 3 wc w.heap.size (fun k_ => some k_ ≠ ((.slice Ao12 t432.length co12) : Value).ownBlock) v437 t436) ∧ Aside0 (Kd.V (Kd.int .i64) 3 wc w.heap.size (fun k_ => some k_ ≠ ((.slice Ao12 t432.length co12) : Value).ownBlock) v446 t445) ∧ Aside0 (Below w.heap.size w wc))
  case first => as_aux_lemma =>
   have H := HC10.out
   clear HC10
   by_cases c17 : (t439 != t444) = true
   ·rw [if_pos c17] at H
    cases H
   ·rw [if_neg c17] at H
    have c17b0 : (t439 != t444) = false := by simpa using c17
    (try (have c17b1 : decide (t439 = t444) = true := by simpa using c17))
    (try (have c17b2 : (t439 == t444) = true := by simpa using c17))
    clear c17
    (first | rw [c17b0] | (simp only [i64_w, i32_w]; rw [c17b0]) | skip)
    by_cases c18 : t435 = t440
    ·rw [if_pos c18] at H
     have c18b0 : (t435 == t440) = true := beq_iff_eq.mpr c18
     have c18b1 : (t435 != t440) = false := bne_eq_false_iff_eq.mpr c18
     clear c18
     replace H := EA H
     obtain ⟨t453, A19, H⟩ := H
     by_cases c20 : t453 = true
     ·subst c20
      replace H := IP H
      by_cases c21 : (t448 != t452) = true
      ·rw [if_pos c21] at H
       cases H
      ·rw [if_neg c21] at H
       have c21b0 : (t448 != t452) = false := by simpa using c21
       (try (have c21b1 : decide (t448 = t452) = true := by simpa using c21))
       (try (have c21b2 : (t448 == t452) = true := by simpa using c21))
       clear c21
       replace H := EA H
       obtain ⟨t454, A22, H⟩ := H
       by_cases c23 : t454 = true
       ·subst c23
        replace H := IP H
        by_cases c24 : t439 = true
        ·subst c24
         replace H := IP H
         have H' := Aside0.mk H
         clear H
         obtain ⟨Ao25, co25, eo25⟩ := Kd.V_slice HO438.out
         subst eo25
         obtain ⟨Ao26, co26, eo26⟩ := Kd.V_slice HO443.out
         subst eo26
         go_wp2_with (first | (go_at_call 10; (with_reducible refine (laws_zSame.calls k _ _ t436 _ _ t441 true _ ?side1 ?side2 ?side3 ?side4 A19.out).mono ?_); (case side1 => exact CW (Kd.V_reads' HO438.out).2.2); (case side2 => exact (Kd.V_reads' HO438.out).2.1); (case side3 => exact CW (Kd.V_reads' HO443.out).2.2); (case side4 => exact (Kd.V_reads' HO443.out).2.1); rintro e w' ⟨rfl, ⟨nd, rfl⟩⟩; obtain ⟨Ao27, co27, eo27⟩ := Kd.V_slice HO447.out; subst eo27; obtain ⟨Ao28, co28, eo28⟩ := Kd.V_slice HO451.out; subst eo28) | (go_at_call 10; (with_reducible refine (laws_zSame.calls k _ _ t445 _ _ t449 true _ ?side1 ?side2 ?side3 ?side4 A22.out).mono ?_); (case side1 => exact CW (Kd.V_reads' HO447.out).2.2); (case side2 => exact (Kd.V_reads' HO447.out).2.1); (case side3 => exact CW (Kd.V_reads' HO451.out).2.2); (case side4 => exact (Kd.V_reads' HO451.out).2.1); rintro e w' ⟨rfl, ⟨nd, rfl⟩⟩))
         go_meet
         case rel => exact ⟨_, (!t448), RF, H', ⟨by first | omega | exact Nat.le_refl _⟩, ⟨KS HO434⟩, ⟨by (with_reducible repeat (first | apply Kd.V_alloc | apply Kd.V_drewN | apply Kd.V_drew)); exact HO438.out⟩, ⟨by (with_reducible repeat (first | apply Kd.V_alloc | apply Kd.V_drewN | apply Kd.V_drew)); exact HO447.out⟩, ⟨BB⟩⟩
        ·replace c24 := Bool.eq_false_iff.mpr c24
         subst c24
         replace H := IN H
         have H' := Aside0.mk H
         clear H
         obtain ⟨Ao29, co29, eo29⟩ := Kd.V_slice HO438.out
         subst eo29
         obtain ⟨Ao30, co30, eo30⟩ := Kd.V_slice HO443.out
         subst eo30
         go_wp2_with (first | (go_at_call 10; (with_reducible refine (laws_zSame.calls k _ _ t436 _ _ t441 true _ ?side1 ?side2 ?side3 ?side4 A19.out).mono ?_); (case side1 => exact CW (Kd.V_reads' HO438.out).2.2); (case side2 => exact (Kd.V_reads' HO438.out).2.1); (case side3 => exact CW (Kd.V_reads' HO443.out).2.2); (case side4 => exact (Kd.V_reads' HO443.out).2.1); rintro e w' ⟨rfl, ⟨nd, rfl⟩⟩; obtain ⟨Ao31, co31, eo31⟩ := Kd.V_slice HO447.out; subst eo31; obtain ⟨Ao32, co32, eo32⟩ := Kd.V_slice HO451.out; subst eo32) | (go_at_call 10; (with_reducible refine (laws_zSame.calls k _ _ t445 _ _ t449 true _ ?side1 ?side2 ?side3 ?side4 A22.out).mono ?_); (case side1 => exact CW (Kd.V_reads' HO447.out).2.2); (case side2 => exact (Kd.V_reads' HO447.out).2.1); (case side3 => exact CW (Kd.V_reads' HO451.out).2.2); (case side4 => exact (Kd.V_reads' HO451.out).2.1); rintro e w' ⟨rfl, ⟨nd, rfl⟩⟩))
         go_meet
         case rel => exact ⟨_, (false), RF, H', ⟨by first | omega | exact Nat.le_refl _⟩, ⟨KS HO434⟩, ⟨by (with_reducible repeat (first | apply Kd.V_alloc | apply Kd.V_drewN | apply Kd.V_drew)); exact HO438.out⟩, ⟨by (with_reducible repeat (first | apply Kd.V_alloc | apply Kd.V_drewN | apply Kd.V_drew)); exact HO447.out⟩, ⟨BB⟩⟩
       ·replace c23 := Bool.eq_false_iff.mpr c23
        subst c23
        replace H := IN H
        cases H
     ·replace c20 := Bool.eq_false_iff.mpr c20
      subst c20
      replace H := IN H
      cases H
    ·rw [if_neg c18] at H
     cases H
  case rest => as_aux_lemma =>
   clear HC10
   try clear c1
   try clear c2
   try clear p2
   try clear c3
   try clear c4
   try clear c5
   try clear c6
   try clear p6
   try clear c7
   try clear c8
   try clear c9
   try clear c17
   try clear c17b0
   try clear c17b1
   try clear c17b2
   try clear c18
   try clear c18b0
   try clear c18b1
   try clear c20
   try clear c21
   try clear c21b0
   try clear c21b1
   try clear c21b2
   try clear c23
   try clear c24
   obtain ⟨kq, x104_9, rfl, HA, HJ9, HO_6, HO_8, HO_13, HB⟩ := hcut
   cases kq with
   | zero => exact absurd HA.out (by simp [laws_FnRentsAreFair.j0])
   | succ kj9 =>
    have H := HA.out
    clear HA
    simp only [laws_FnRentsAreFair.j0] at H
    by_cases c33 : x104_9 = true
    ·subst c33
     replace H := IP H
     cases H
    ·replace c33 := Bool.eq_false_iff.mpr c33
     subst c33
     replace H := IN H
     have HC34 := Aside0.mk H
     clear H
     go_upto_if 105 with (fail)
     go_cut [] (fun wc => ∃ (kq : Nat), Aside0 (laws_FnRentsAreFair.j4 kq l1 = some r) ∧ Aside0 (kq ≤ kj9) ∧ Aside0 (Below w.heap.size w wc))
     case first => as_aux_lemma =>
      have H := HC34.out
      clear HC34
      by_cases c35 : t439 = true
      ·subst c35
       replace H := IP H
       replace H := EA H
       obtain ⟨⟨t455, t456⟩, A36, H⟩ := H
       try dsimp only at H
       have H' := Aside0.mk H
       clear H
       obtain ⟨Ao37, co37, eo37⟩ := Kd.V_slice HO_8.out
       subst eo37
       go_wp2_with (first | ((with_reducible refine gate_callee (f := 11) rfl ?_); refine goesL_ (some 111) rfl rfl Try.func11 (by kernel_rfl) rfl #[.int .i64 t431, .slice Ao12 t432.length co12, .int .i64 t435, .slice Ao37 t436.length co37] rfl TA ?_; (with_reducible refine (impl_RentEnvy.calls kj9 t431 _ _ t432 t435 _ _ t436 t455 t456 _ ?side1 ?side2 ?side3 ?side4 A36.out).mono ?_); (case side1 => exact CW (Kd.S_reads' HO_6.out).2.2); (case side2 => exact (Kd.S_reads' HO_6.out).2.1); (case side3 => exact CW (Kd.V_reads' HO_8.out).2.2); (case side4 => exact (Kd.V_reads' HO_8.out).2.1); rintro e w38 ⟨rfl, hb⟩; refine ⟨_, rfl, ?_⟩; have n0_ := Aside0.mk (Kd.S_below (KS HO_6) hb); have n1_ := Aside0.mk (Kd.V_below (by (with_reducible repeat (first | apply Kd.V_alloc | apply Kd.V_drewN | apply Kd.V_drew)); exact HO_8.out) hb); have n2_ := Aside0.mk (Kd.V_below (by (with_reducible repeat (first | apply Kd.V_alloc | apply Kd.V_drewN | apply Kd.V_drew)); exact HO_13.out) hb); have n3_ := Aside0.mk (below_step BB hb); clear HO_6; clear HO_8; clear HO_13; clear HB; have HO_6 := n0_; have HO_8 := n1_; have HO_13 := n2_; have HB := n3_; clear n0_ n1_ n2_ n3_; (try clear hb); (try clear hb2); (try clear hk); (try clear hi)))
       go_loopg [19, 20, 116] kj9 (fun kq v19 v20 v116 w' => ∃ (x19_2 : Int) (x20_2 : Int) (x116_2 : Int), v19 = .int .i64 x19_2 ∧ v20 = .int .i64 x20_2 ∧ v116 = .int .i64 x116_2 ∧ Aside0 (laws_FnRentsAreFair.l0 kq l1 t431 t432 t436 t445 t455 t456 x19_2 x20_2 t432 (t432.length : Int) x116_2 = some r) ∧ Aside0 (kq ≤ kj9) ∧ Aside0 (Kd.S (Kd.slice 3 (Kd.int .i64)) 27 w' w.heap.size (fun _ => True) (.slice Ao12 t432.length co12) t432) ∧ Aside0 (Kd.V (Kd.int .i64) 3 w' w.heap.size (fun k_ => some k_ ≠ ((.slice Ao12 t432.length co12) : Value).ownBlock ∧ some k_ ≠ ((.slice Ao12 t432.length co12) : Value).ownBlock) (.slice Ao37 t436.length co37) t436) ∧ Aside0 (Kd.V (Kd.int .i64) 3 w' w.heap.size (fun k_ => some k_ ≠ ((.slice Ao12 t432.length co12) : Value).ownBlock ∧ some k_ ≠ ((.slice Ao12 t432.length co12) : Value).ownBlock) v446 t445) ∧ Aside0 (Kd.S (Kd.slice 3 (Kd.int .i64)) 27 w' w.heap.size (fun _ => True) (.slice Ao12 t432.length co12) t432) ∧ Aside0 (Below w.heap.size w w'))
       case atStart => exact ⟨(0), (0), (0), RF, RF, RF, H', ⟨Nat.le_refl _⟩, ⟨KS HO_6⟩, ⟨by (with_reducible repeat (first | apply Kd.V_alloc | apply Kd.V_drewN | apply Kd.V_drew)); exact Kd.V_mono HO_8.out (fun _ hk => ⟨hk, hk⟩)⟩, ⟨by (with_reducible repeat (first | apply Kd.V_alloc | apply Kd.V_drewN | apply Kd.V_drew)); exact Kd.V_mono HO_13.out (fun _ hk => ⟨hk, hk⟩)⟩, ⟨KS HO_6⟩, ⟨BB⟩⟩
       case round => as_aux_lemma =>
        clear H'
        try clear c1
        try clear c2
        try clear p2
        try clear c3
        try clear c4
        try clear c5
        try clear c6
        try clear p6
        try clear c7
        try clear c8
        try clear c9
        try clear c11
        try clear c17
        try clear c17b0
        try clear c17b1
        try clear c17b2
        try clear c18
        try clear c18b0
        try clear c18b1
        try clear c20
        try clear c21
        try clear c21b0
        try clear c21b1
        try clear c21b2
        try clear c23
        try clear c24
        try clear c33
        try clear c35
        try clear p2
        try clear p6
        obtain ⟨x19_2, x20_2, x116_2, rfl, rfl, rfl, HA, HK2, HO_6, HO_8, HO_13, HO_114, HB⟩ := hrel
        cases gk with
        | zero => exact absurd HA.out (by simp [laws_FnRentsAreFair.l0])
        | succ k2 =>
         have H := HA.out
         clear HA
         simp only [laws_FnRentsAreFair.l0] at H
         by_cases c39 : x116_2 < (t432.length : Int)
         ·rw [if_pos c39] at H
          have c39b0 : decide (x116_2 < (t432.length : Int)) = true := decide_eq_true c39
          clear c39
          (first | rw [c39b0] | (simp only [i64_w, i32_w]; rw [c39b0]) | skip)
          by_cases c40 : 0 ≤ x116_2
          ·rw [if_pos c40] at H
           have c40b0 : decide (0 ≤ x116_2) = true := decide_eq_true c40
           clear c40
           by_cases c41 : x116_2 < (t432.length : Int)
           ·rw [if_pos c41] at H
            have c41b0 : decide (x116_2 < (t432.length : Int)) = true := decide_eq_true c41
            clear c41
            by_cases c42 : x116_2 < (t436.length : Int)
            ·rw [if_pos c42] at H
             have c42b0 : decide (x116_2 < (t436.length : Int)) = true := decide_eq_true c42
             clear c42
             by_cases c43 : 0 ≤ (rd t436 x116_2)
             ·rw [if_pos c43] at H
              have c43b0 : decide (0 ≤ (rd t436 x116_2)) = true := decide_eq_true c43
              clear c43
              by_cases c44 : (rd t436 x116_2) < ((rd_L2 t432 x116_2).length : Int)
              ·rw [if_pos c44] at H
               have c44b0 : decide ((rd t436 x116_2) < ((rd_L2 t432 x116_2).length : Int)) = true := decide_eq_true c44
               clear c44
               by_cases c45 : x116_2 < (t445.length : Int)
               ·rw [if_pos c45] at H
                have c45b0 : decide (x116_2 < (t445.length : Int)) = true := decide_eq_true c45
                clear c45
                by_cases c46 : 0 ≤ (rd t445 x116_2)
                ·rw [if_pos c46] at H
                 have c46b0 : decide (0 ≤ (rd t445 x116_2)) = true := decide_eq_true c46
                 clear c46
                 by_cases c47 : (rd t445 x116_2) < ((rd_L2 t432 x116_2).length : Int)
                 ·rw [if_pos c47] at H
                  have c47b0 : decide ((rd t445 x116_2) < ((rd_L2 t432 x116_2).length : Int)) = true := decide_eq_true c47
                  clear c47
                  have H' := Aside0.mk H
                  clear H
                  have p457 : 0 ≤ (x116_2 : Int) := of_decide_eq_true AS
                  have q457 : x116_2 < (t432.length : Int) := of_decide_eq_true AS
                  obtain ⟨ad457, A457_0, c457_0, e457, hx457_0, hl457_0, hi457_0⟩ := at_L2 (Kd.S_reads' HO_114.out).2.2 x116_2 p457 q457
                  cases e457
                  obtain ⟨ce457, hce457, hMe457, hcc457⟩ := Kd.S_get HO_114.out [] x116_2 p457 (by first | exact q457 | exact of_decide_eq_true AS | (have e_ := (Kd.S_reads' HO_114.out).1; omega))
                  obtain ⟨ve457_0, rfl, ge457_0⟩ := hMe457
                  have hv457_0 := hcc457 0 _ rfl
                  rw [Nat.add_zero, show ((Kd.slice 3 (Kd.int .i64))).sz = 1 from rfl, Nat.mul_one] at hv457_0
                  replace hv457_0 := Option.some.inj (hv457_0.symm.trans hx457_0)
                  rw [hv457_0] at ge457_0
                  have HL457_0 := Aside0.mk (show Kd.R (Kd.int .i64) 3 _ _ _ _ (rd_L2 t432 x116_2) from ge457_0)
                  clear hv457_0 ge457_0
                  clear hcc457 hce457
                  have HR457_0 := Aside0.mk hi457_0
                  have HC457_0 := Aside0.mk hl457_0
                  clear hi457_0 hl457_0
                  replace p457 := eq_true p457
                  replace q457 := eq_true q457
                  have p458 : 0 ≤ (x116_2 : Int) := of_decide_eq_true AS
                  have q458 : x116_2 < (t436.length : Int) := of_decide_eq_true AS
                  obtain ⟨ad458, e458, hx458_0⟩ := Kd.at_int (Kd.V_reads' HO_8.out).2.2 x116_2 p458 q458
                  cases e458
                  replace p458 := eq_true p458
                  replace q458 := eq_true q458
                  have p459 : 0 ≤ ((rd t436 x116_2) : Int) := of_decide_eq_true AS
                  have q459 : (rd t436 x116_2) < ((rd_L2 t432 x116_2).length : Int) := of_decide_eq_true AS
                  obtain ⟨ad459, e459, hx459_0⟩ := Kd.at_int (by repeat (first | (with_reducible exact HR457_0.out) | (with_reducible refine Kd.C_drewN ?_ _) | (with_reducible refine Kd.C_drew ?_) | (with_reducible refine Kd.C_alloc ?_ _) | exact HR457_0.out)) (rd t436 x116_2) p459 q459
                  cases e459
                  replace p459 := eq_true p459
                  replace q459 := eq_true q459
                  obtain ⟨Ao48, co48, eo48⟩ := Kd.V_slice HO_13.out
                  subst eo48
                  have p460 : 0 ≤ (x116_2 : Int) := of_decide_eq_true AS
                  have q460 : x116_2 < (t445.length : Int) := of_decide_eq_true AS
                  obtain ⟨ad460, e460, hx460_0⟩ := Kd.at_int (Kd.V_reads' HO_13.out).2.2 x116_2 p460 q460
                  cases e460
                  replace p460 := eq_true p460
                  replace q460 := eq_true q460
                  have p461 : 0 ≤ ((rd t445 x116_2) : Int) := of_decide_eq_true AS
                  have q461 : (rd t445 x116_2) < ((rd_L2 t432 x116_2).length : Int) := of_decide_eq_true AS
                  obtain ⟨ad461, e461, hx461_0⟩ := Kd.at_int (by repeat (first | (with_reducible exact HR457_0.out) | (with_reducible refine Kd.C_drewN ?_ _) | (with_reducible refine Kd.C_drew ?_) | (with_reducible refine Kd.C_alloc ?_ _) | exact HR457_0.out)) (rd t445 x116_2) p461 q461
                  obtain rfl : ad459 = ad461 := (by injection e461)
                  replace p461 := eq_true p461
                  replace q461 := eq_true q461
                  go_wp2
                  go_roundg k2
                  case measure => have := HJ9.out; have := HK2.out; omega
                  case rel => exact ⟨(wrap64 (x19_2 + (rd (rd_L2 t432 x116_2) (rd t436 x116_2)))), (wrap64 (x20_2 + (rd (rd_L2 t432 x116_2) (rd t445 x116_2)))), (wrap64 (x116_2 + 1)), RF, RF, RF, H', ⟨by have := HJ9.out; have := HK2.out; omega⟩, ⟨KS HO_6⟩, ⟨by (with_reducible repeat (first | apply Kd.V_alloc | apply Kd.V_drewN | apply Kd.V_drew)); exact HO_8.out⟩, ⟨by (with_reducible repeat (first | apply Kd.V_alloc | apply Kd.V_drewN | apply Kd.V_drew)); exact HO_13.out⟩, ⟨KS HO_114⟩, ⟨BB⟩⟩
                 ·rw [if_neg c47] at H
                  cases H
                ·rw [if_neg c46] at H
                 cases H
               ·rw [if_neg c45] at H
                cases H
              ·rw [if_neg c44] at H
               cases H
             ·rw [if_neg c43] at H
              cases H
            ·rw [if_neg c42] at H
             cases H
           ·rw [if_neg c41] at H
            cases H
          ·rw [if_neg c40] at H
           cases H
         ·rw [if_neg c39] at H
          have c39b0 : decide (x116_2 < (t432.length : Int)) = false := decide_eq_false c39
          try (have c39bl := c39b0; rw [hl457_0] at c39bl)
          clear c39
          (first | rw [c39b0] | (simp only [i64_w, i32_w]; rw [c39b0]) | skip)
          have HC49 := Aside0.mk H
          clear H
          go_upto_region 19 with (fail)
          go_cut [155] (fun v155 wc => ∃ (kq : Nat) (x155_48 : Bool), v155 = .bool x155_48 ∧ Aside0 (laws_FnRentsAreFair.j2 kq l1 t431 t432 t445 t455 x155_48 = some r) ∧ Aside0 (kq ≤ k2) ∧ Aside0 (Kd.S (Kd.slice 3 (Kd.int .i64)) 27 wc w.heap.size (fun _ => True) (.slice Ao12 t432.length co12) t432) ∧ Aside0 (Kd.V (Kd.int .i64) 3 wc w.heap.size (fun k_ => some k_ ≠ ((.slice Ao12 t432.length co12) : Value).ownBlock) v446 t445) ∧ Aside0 (Below w.heap.size w wc))
          case first => as_aux_lemma =>
           have H := HC49.out
           clear HC49
           by_cases c50 : t456 = true
           ·subst c50
            replace H := IP H
            by_cases c51 : x19_2 > x20_2
            ·rw [if_pos c51] at H
             cases H
            ·rw [if_neg c51] at H
             have c51b0 : decide (x20_2 < x19_2) = false := decide_eq_false c51
             clear c51
             (first | rw [c51b0] | (simp only [i64_w, i32_w]; rw [c51b0]) | skip)
             by_cases c52 : t455 = 0
             ·rw [if_pos c52] at H
              have c52b0 : (t455 == 0) = true := beq_iff_eq.mpr c52
              have c52b1 : (t455 != 0) = false := bne_eq_false_iff_eq.mpr c52
              clear c52
              have H' := Aside0.mk H
              clear H
              go_wp2
              go_meet
              case rel => exact ⟨_, ((x19_2 != x20_2)), RF, H', ⟨by have := HJ9.out; have := HK2.out; first | omega | exact Nat.le_refl _⟩, ⟨KS HO_6⟩, ⟨by (with_reducible repeat (first | apply Kd.V_alloc | apply Kd.V_drewN | apply Kd.V_drew)); exact Kd.V_mono HO_13.out (fun _ hk => hk.1)⟩, ⟨BB⟩⟩
             ·rw [if_neg c52] at H
              have c52b0 : (t455 == 0) = false := beq_eq_false_iff_ne.mpr c52
              have c52b1 : (t455 != 0) = true := bne_iff_ne.mpr c52
              have H' := Aside0.mk H
              clear H
              go_wp2
              go_meet
              case rel => exact ⟨_, (false), RF, H', ⟨by have := HJ9.out; have := HK2.out; first | omega | exact Nat.le_refl _⟩, ⟨KS HO_6⟩, ⟨by (with_reducible repeat (first | apply Kd.V_alloc | apply Kd.V_drewN | apply Kd.V_drew)); exact Kd.V_mono HO_13.out (fun _ hk => hk.1)⟩, ⟨BB⟩⟩
           ·replace c50 := Bool.eq_false_iff.mpr c50
            subst c50
            replace H := IN H
            cases H
          case rest => as_aux_lemma =>
           clear HC49
           try clear c1
           try clear c2
           try clear p2
           try clear c3
           try clear c4
           try clear p4
           try clear q4
           try clear hx4
           try clear c5
           try clear c6
           try clear p6
           try clear c7
           try clear c8
           try clear c9
           try clear c11
           try clear c17
           try clear c17b0
           try clear c17b1
           try clear c17b2
           try clear c18
           try clear c18b0
           try clear c18b1
           try clear c20
           try clear c21
           try clear c21b0
           try clear c21b1
           try clear c21b2
           try clear c23
           try clear c24
           try clear c33
           try clear c35
           try clear c39
           try clear c39b0
           try clear c40
           try clear c40b0
           try clear c41
           try clear c41b0
           try clear c42
           try clear c42b0
           try clear c43
           try clear c43b0
           try clear c44
           try clear c44b0
           try clear c45
           try clear c45b0
           try clear p45
           try clear q45
           try clear hx45
           try clear c46
           try clear c46b0
           try clear p46
           try clear q46
           try clear hx46
           try clear c47
           try clear c47b0
           try clear c50
           try clear c51
           try clear c51b0
           try clear c52
           try clear c52b0
           try clear c52b1
           try clear hx457_0
           try clear hx458_0
           try clear hx459_0
           try clear hx460_0
           try clear hx461_0
           try clear p2
           try clear p457
           try clear p458
           try clear p459
           try clear p460
           try clear p461
           try clear p6
           try clear q457
           try clear q458
           try clear q459
           try clear q460
           try clear q461
           obtain ⟨kq, x155_48, rfl, HA, HJ48, HO_6, HO_13, HB⟩ := hcut
           cases kq with
           | zero => exact absurd HA.out (by simp [laws_FnRentsAreFair.j2])
           | succ kj48 =>
            have H := HA.out
            clear HA
            simp only [laws_FnRentsAreFair.j2] at H
            by_cases c53 : x155_48 = true
            ·subst c53
             replace H := IP H
             cases H
            ·replace c53 := Bool.eq_false_iff.mpr c53
             subst c53
             replace H := IN H
             replace H := EA H
             obtain ⟨⟨t462, t463⟩, A54, H⟩ := H
             try dsimp only at H
             have H' := Aside0.mk H
             clear H
             go_wp2_with (first | ((with_reducible refine gate_callee (f := 12) rfl ?_); refine goesL_ (some 158) rfl rfl Try.func12 (by kernel_rfl) rfl #[.int .i64 t431] rfl TA ?_; (with_reducible refine (impl_CountPoints.calls t431 t462 t463 _ A54.out).mono ?_); rintro e w' ⟨rfl, ⟨nd, rfl⟩⟩; refine ⟨_, rfl, ?_⟩))
             go_loopg [25] kj48 (fun kq v25 w' => ∃ (x25_4 : Int), v25 = .int .i64 x25_4 ∧ Aside0 (laws_FnRentsAreFair.l1 kq l1 t431 t432 t445 t455 t462 t463 x25_4 = some r) ∧ Aside0 (kq ≤ kj48) ∧ Aside0 (Kd.S (Kd.slice 3 (Kd.int .i64)) 27 w' w.heap.size (fun _ => True) (.slice Ao12 t432.length co12) t432) ∧ Aside0 (Kd.V (Kd.int .i64) 3 w' w.heap.size (fun k_ => some k_ ≠ ((.slice Ao12 t432.length co12) : Value).ownBlock) v446 t445) ∧ Aside0 (Below w.heap.size w w'))
             case atStart => exact ⟨(0), RF, H', ⟨Nat.le_refl _⟩, ⟨KS HO_6⟩, ⟨by (with_reducible repeat (first | apply Kd.V_alloc | apply Kd.V_drewN | apply Kd.V_drew)); exact HO_13.out⟩, ⟨BB⟩⟩
             case round => as_aux_lemma =>
              clear H'
              try clear c1
              try clear c2
              try clear p2
              try clear c3
              try clear c4
              try clear p4
              try clear q4
              try clear hx4
              try clear c5
              try clear c6
              try clear p6
              try clear c7
              try clear c8
              try clear c9
              try clear c11
              try clear c12
              try clear c17
              try clear c17b0
              try clear c17b1
              try clear c17b2
              try clear c18
              try clear c18b0
              try clear c18b1
              try clear c20
              try clear c21
              try clear c21b0
              try clear c21b1
              try clear c21b2
              try clear c23
              try clear c24
              try clear c33
              try clear c35
              try clear c39
              try clear c39b0
              try clear c40
              try clear c40b0
              try clear c41
              try clear c41b0
              try clear c42
              try clear c42b0
              try clear c43
              try clear c43b0
              try clear c44
              try clear c44b0
              try clear c45
              try clear c45b0
              try clear p45
              try clear q45
              try clear hx45
              try clear c46
              try clear c46b0
              try clear p46
              try clear q46
              try clear hx46
              try clear c47
              try clear c47b0
              try clear c50
              try clear c51
              try clear c51b0
              try clear c52
              try clear c52b0
              try clear c52b1
              try clear c53
              try clear hx457_0
              try clear hx458_0
              try clear hx459_0
              try clear hx460_0
              try clear hx461_0
              try clear p2
              try clear p4
              try clear p45
              try clear p457
              try clear p458
              try clear p459
              try clear p46
              try clear p460
              try clear p461
              try clear p6
              try clear q4
              try clear q45
              try clear q457
              try clear q458
              try clear q459
              try clear q46
              try clear q460
              try clear q461
              obtain ⟨x25_4, rfl, HA, HK4, HO_6, HO_13, HB⟩ := hrel
              cases gk with
              | zero => exact absurd HA.out (by simp [laws_FnRentsAreFair.l1])
              | succ k4 =>
               have H := HA.out
               clear HA
               simp only [laws_FnRentsAreFair.l1] at H
               by_cases c55 : x25_4 < t462
               ·rw [if_pos c55] at H
                have c55b0 : decide (x25_4 < t462) = true := decide_eq_true c55
                clear c55
                replace H := EA H
                obtain ⟨⟨t464, t465⟩, A56, H⟩ := H
                try dsimp only at H
                by_cases c57 : t465 = true
                ·subst c57
                 replace H := IP H
                 by_cases c58 : t464 < t455
                 ·rw [if_pos c58] at H
                  cases H
                 ·rw [if_neg c58] at H
                  have c58b0 : decide (t464 < t455) = false := decide_eq_false c58
                  clear c58
                  have H' := Aside0.mk H
                  clear H
                  obtain ⟨Ao59, co59, eo59⟩ := Kd.V_slice HO_13.out
                  subst eo59
                  go_wp2_with (first | ((with_reducible refine gate_callee (f := 11) rfl ?_); refine goesL_ (some 171) rfl rfl Try.func11 (by kernel_rfl) rfl #[.int .i64 t431, .slice Ao12 t432.length co12, .int .i64 x25_4, .slice Ao59 t445.length co59] rfl TA ?_; (with_reducible refine (impl_RentEnvy.calls k4 t431 _ _ t432 x25_4 _ _ t445 t464 true _ ?side1 ?side2 ?side3 ?side4 A56.out).mono ?_); (case side1 => exact CW (Kd.S_reads' HO_6.out).2.2); (case side2 => exact (Kd.S_reads' HO_6.out).2.1); (case side3 => exact CW (Kd.V_reads' HO_13.out).2.2); (case side4 => exact (Kd.V_reads' HO_13.out).2.1); rintro e w60 ⟨rfl, hb⟩; refine ⟨_, rfl, ?_⟩; have n0_ := Aside0.mk (Kd.S_below (KS HO_6) hb); have n1_ := Aside0.mk (Kd.V_below (by (with_reducible repeat (first | apply Kd.V_alloc | apply Kd.V_drewN | apply Kd.V_drew)); exact HO_13.out) hb); have n2_ := Aside0.mk (below_step BB hb); clear HO_6; clear HO_13; clear HB; have HO_6 := n0_; have HO_13 := n1_; have HB := n2_; clear n0_ n1_ n2_; (try clear hb); (try clear hb2); (try clear hk); (try clear hi)))
                  go_roundg k4
                  case measure => have := HJ9.out; have := HK2.out; have := HJ48.out; have := HK4.out; omega
                  case rel => exact ⟨(wrap64 (x25_4 + 1)), RF, H', ⟨by have := HJ9.out; have := HK2.out; have := HJ48.out; have := HK4.out; omega⟩, ⟨KS HO_6⟩, ⟨by (with_reducible repeat (first | apply Kd.V_alloc | apply Kd.V_drewN | apply Kd.V_drew)); exact HO_13.out⟩, ⟨BB⟩⟩
                ·replace c57 := Bool.eq_false_iff.mpr c57
                 subst c57
                 replace H := IN H
                 cases H
               ·rw [if_neg c55] at H
                have c55b0 : decide (x25_4 < t462) = false := decide_eq_false c55
                clear c55
                by_cases c61 : t463 = true
                ·subst c61
                 replace H := IP H
                 have H' := Aside0.mk H
                 clear H
                 go_wp2
                 go_meet
                 case rel => exact ⟨_, H', ⟨by have := HJ9.out; have := HK2.out; have := HJ48.out; have := HK4.out; first | omega | exact Nat.le_refl _⟩, ⟨BB⟩⟩
                ·replace c61 := Bool.eq_false_iff.mpr c61
                 subst c61
                 replace H := IN H
                 cases H
      ·replace c35 := Bool.eq_false_iff.mpr c35
       subst c35
       replace H := IN H
       have H' := Aside0.mk H
       clear H
       go_wp2
       go_meet
       case rel => exact ⟨_, H', ⟨by have := HJ9.out; first | omega | exact Nat.le_refl _⟩, ⟨BB⟩⟩
     case rest => as_aux_lemma =>
      clear HC34
      try clear c1
      try clear c2
      try clear p2
      try clear c3
      try clear c4
      try clear p4
      try clear q4
      try clear hx4
      try clear c5
      try clear c6
      try clear p6
      try clear c7
      try clear c8
      try clear c9
      try clear c11
      try clear c12
      try clear c17
      try clear c17b0
      try clear c17b1
      try clear c17b2
      try clear c18
      try clear c18b0
      try clear c18b1
      try clear c20
      try clear c21
      try clear c21b0
      try clear c21b1
      try clear c21b2
      try clear c23
      try clear c24
      try clear c33
      try clear c35
      try clear c39
      try clear c39b0
      try clear c40
      try clear c40b0
      try clear c41
      try clear c41b0
      try clear c42
      try clear c42b0
      try clear c43
      try clear c43b0
      try clear c44
      try clear c44b0
      try clear c45
      try clear c45b0
      try clear p45
      try clear q45
      try clear hx45
      try clear c46
      try clear c46b0
      try clear p46
      try clear q46
      try clear hx46
      try clear c47
      try clear c47b0
      try clear c50
      try clear c51
      try clear c51b0
      try clear c52
      try clear c52b0
      try clear c52b1
      try clear c53
      try clear c55
      try clear c55b0
      try clear c57
      try clear c58
      try clear c58b0
      try clear c61
      try clear hx457_0
      try clear hx458_0
      try clear hx459_0
      try clear hx460_0
      try clear hx461_0
      try clear p2
      try clear p4
      try clear p45
      try clear p457
      try clear p458
      try clear p459
      try clear p46
      try clear p460
      try clear p461
      try clear p6
      try clear q4
      try clear q45
      try clear q457
      try clear q458
      try clear q459
      try clear q46
      try clear q460
      try clear q461
      obtain ⟨kq, HA, HJ33, HB⟩ := hcut
      cases kq with
      | zero => exact absurd HA.out (by simp [laws_FnRentsAreFair.j4])
      | succ kj33 =>
       have H := HA.out
       clear HA
       simp only [laws_FnRentsAreFair.j4] at H
       replace H := EA H
       obtain ⟨⟨t466, t467, t470, t471⟩, A62, H⟩ := H
       try dsimp only at H
       replace H := EA H
       obtain ⟨⟨t474, t475⟩, A63, H⟩ := H
       try dsimp only at H
       replace H := EA H
       obtain ⟨⟨t476, t477⟩, A64, H⟩ := H
       try dsimp only at H
       replace H := EA H
       obtain ⟨t478, A65, H⟩ := H
       replace H := EA H
       obtain ⟨⟨t481, t484⟩, A66, H⟩ := H
       try dsimp only at H
       replace H := EA H
       obtain ⟨⟨t485, t488⟩, A67, H⟩ := H
       try dsimp only at H
       by_cases c68 : (t475 == t477) = true
       ·rw [if_pos c68] at H
        have c68b0 : (t475 == t477) = true := c68
        (try (have c68b1 : decide (t475 = t477) = true := by simpa using c68))
        (try (have c68b2 : (t475 == t477) = true := by simpa using c68))
        clear c68
        by_cases c69 : t474 = t476
        ·rw [if_pos c69] at H
         have c69b0 : (t474 == t476) = true := beq_iff_eq.mpr c69
         have c69b1 : (t474 != t476) = false := bne_eq_false_iff_eq.mpr c69
         clear c69
         by_cases c70 : (t484 == t488) = true
         ·rw [if_pos c70] at H
          have c70b0 : (t484 == t488) = true := c70
          (try (have c70b1 : decide (t484 = t488) = true := by simpa using c70))
          (try (have c70b2 : (t484 == t488) = true := by simpa using c70))
          clear c70
          replace H := EA H
          obtain ⟨t489, A71, H⟩ := H
          obtain rfl := Option.some.inj H
          go_wp2_with (first | ((with_reducible refine gate_callee (f := 13) rfl ?_); refine goesL_ (some 185) rfl rfl Try.func13 (by kernel_rfl) rfl #[.slice A1 l1.length c1] rfl TA ?_; (with_reducible refine (spec_DrawRentEnvy.calls kj33 _ _ l1 t466 t467 t470 t471 _ ?side1 ?side2 A62.out).mono ?_); (case side1 => exact CW (Kd.C_below HR1.out HB.out)); (case side2 => exact HC1.out); rintro e w72 ⟨v468, v472, rfl, ho0, ho1, hb⟩; refine ⟨_, rfl, ?_⟩; have n0_ := Aside0.mk (Kd.S_lower (Kd.S_mono (ok' := fun k_ => True) ho0 (fun _ hk_ => trivial)) (below_size BB)); have n1_ := Aside0.mk (Kd.V_lower (Kd.V_mono (ok' := fun k_ => some k_ ≠ (v468 : Value).ownBlock) ho1 (fun k_ hk_ => hk_.2)) (below_size BB)); have n2_ := Aside0.mk (below_step BB hb); clear HB; have HO469 := n0_; have HO473 := n1_; have HB := n2_; clear n0_ n1_ n2_; (try clear hb); (try clear hb2); (try clear hk); (try clear hi); (try clear ho0); (try clear ho1); obtain ⟨Ao73, co73, eo73⟩ := Kd.S_slice HO469.out; subst eo73; obtain ⟨Ao74, co74, eo74⟩ := Kd.V_slice HO473.out; subst eo74) | ((with_reducible refine gate_callee (f := 11) rfl ?_); refine goesL_ (some 195) rfl rfl Try.func11 (by kernel_rfl) rfl #[.int .i64 t466, .slice Ao73 t467.length co73, .int .i64 t470, .slice Ao74 t471.length co74] rfl TA ?_; (with_reducible refine (impl_RentEnvy.calls kj33 t466 _ _ t467 t470 _ _ t471 t474 t475 _ ?side1 ?side2 ?side3 ?side4 A63.out).mono ?_); (case side1 => exact CW (Kd.S_reads' HO469.out).2.2); (case side2 => exact (Kd.S_reads' HO469.out).2.1); (case side3 => exact CW (Kd.V_reads' HO473.out).2.2); (case side4 => exact (Kd.V_reads' HO473.out).2.1); rintro e w75 ⟨rfl, hb⟩; refine ⟨_, rfl, ?_⟩; have n0_ := Aside0.mk (Kd.S_below (KS HO469) hb); have n1_ := Aside0.mk (Kd.V_below (by (with_reducible repeat (first | apply Kd.V_alloc | apply Kd.V_drewN | apply Kd.V_drew)); exact HO473.out) hb); have n2_ := Aside0.mk (below_step BB hb); clear HO469; clear HO473; clear HB; have HO469 := n0_; have HO473 := n1_; have HB := n2_; clear n0_ n1_ n2_; (try clear hb); (try clear hb2); (try clear hk); (try clear hi)) | ((with_reducible refine gate_callee (f := 14) rfl ?_); refine goesL_ (some 203) rfl rfl Try.func14 (by kernel_rfl) rfl #[.int .i64 t466, .slice Ao73 t467.length co73, .int .i64 t470, .slice Ao74 t471.length co74] rfl TA ?_; (with_reducible refine (spec_RentEnvy.calls kj33 t466 _ _ t467 t470 _ _ t471 t476 t477 _ ?side1 ?side2 ?side3 ?side4 A64.out).mono ?_); (case side1 => exact CW (Kd.S_reads' HO469.out).2.2); (case side2 => exact (Kd.S_reads' HO469.out).2.1); (case side3 => exact CW (Kd.V_reads' HO473.out).2.2); (case side4 => exact (Kd.V_reads' HO473.out).2.1); rintro e w76 ⟨rfl, hb⟩; refine ⟨_, rfl, ?_⟩; have n0_ := Aside0.mk (Kd.S_below (KS HO469) hb); have n1_ := Aside0.mk (Kd.V_below (by (with_reducible repeat (first | apply Kd.V_alloc | apply Kd.V_drewN | apply Kd.V_drew)); exact HO473.out) hb); have n2_ := Aside0.mk (below_step BB hb); clear HO469; clear HO473; clear HB; have HO469 := n0_; have HO473 := n1_; have HB := n2_; clear n0_ n1_ n2_; (try clear hb); (try clear hb2); (try clear hk); (try clear hi)) | ((with_reducible refine gate_callee (f := 15) rfl ?_); refine goesL_ (some 207) rfl rfl Try.func15 (by kernel_rfl) rfl #[.slice A1 l1.length c1] rfl TA ?_; (with_reducible refine (spec_DrawBestRooms.calls kj33 _ _ l1 t478 _ ?side1 ?side2 A65.out).mono ?_); (case side1 => exact CW (Kd.C_below HR1.out HB.out)); (case side2 => exact HC1.out); rintro e w77 ⟨v479, rfl, ho0, hb⟩; refine ⟨_, rfl, ?_⟩; have n0_ := Aside0.mk (Kd.S_elder' (KS HO469) (Kd.S_base ho0) hb); have n1_ := Aside0.mk (Kd.V_elder' (by (with_reducible repeat (first | apply Kd.V_alloc | apply Kd.V_drewN | apply Kd.V_drew)); exact HO473.out) (Kd.S_base ho0) hb); have n2_ := Aside0.mk (Kd.S_lower (Kd.S_new' ho0 (Kd.S_lt (KS HO469))) (below_size BB)); have n3_ := Aside0.mk (below_step BB hb); clear HO469; clear HO473; clear HB; have HO469 := n0_; have HO473 := n1_; have HO480 := n2_; have HB := n3_; clear n0_ n1_ n2_ n3_; (try clear hb); (try clear hb2); (try clear hk); (try clear hi); (try clear ho0); obtain ⟨Ao78, co78, eo78⟩ := Kd.S_slice HO480.out; subst eo78) | ((with_reducible refine gate_callee (f := 8) rfl ?_); refine goesL_ (some 210) rfl rfl Try.func8 (by kernel_rfl) rfl #[.slice Ao78 t478.length co78] rfl TA ?_; (with_reducible refine (impl_BestRooms.calls kj33 _ _ t478 t481 t484 _ ?side1 ?side2 A66.out).mono ?_); (case side1 => exact CW (Kd.S_reads' HO480.out).2.2); (case side2 => exact (Kd.S_reads' HO480.out).2.1); rintro e w79 ⟨v482, rfl, ho0, hb⟩; refine ⟨_, rfl, ?_⟩; have n0_ := Aside0.mk (Kd.S_below (KS HO469) hb); have n1_ := Aside0.mk (Kd.V_below (by (with_reducible repeat (first | apply Kd.V_alloc | apply Kd.V_drewN | apply Kd.V_drew)); exact HO473.out) hb); have n2_ := Aside0.mk (Kd.S_below (KS HO480) hb); have n3_ := Aside0.mk (Kd.V_lower (Kd.V_mono (ok' := fun k_ => some k_ ≠ (.slice Ao73 t467.length co73 : Value).ownBlock ∧ some k_ ≠ (.slice Ao78 t478.length co78 : Value).ownBlock) ho0 (fun k_ hk_ => ⟨(Kd.fresh' (Kd.S_lt (KS HO469)) k_ hk_), (Kd.fresh' (Kd.S_lt (KS HO480)) k_ hk_)⟩)) (below_size BB)); have n4_ := Aside0.mk (below_step BB hb); clear HO469; clear HO473; clear HO480; clear HB; have HO469 := n0_; have HO473 := n1_; have HO480 := n2_; have HO483 := n3_; have HB := n4_; clear n0_ n1_ n2_ n3_ n4_; (try clear hb); (try clear hb2); (try clear hk); (try clear hi); (try clear ho0)) | ((with_reducible refine gate_callee (f := 9) rfl ?_); refine goesL_ (some 215) rfl rfl Try.func9 (by kernel_rfl) rfl #[.slice Ao78 t478.length co78] rfl TA ?_; (with_reducible refine (spec_BestRooms.calls kj33 _ _ t478 t485 t488 _ ?side1 ?side2 A67.out).mono ?_); (case side1 => exact CW (Kd.S_reads' HO480.out).2.2); (case side2 => exact (Kd.S_reads' HO480.out).2.1); rintro e w80 ⟨v486, rfl, ho0, hb⟩; refine ⟨_, rfl, ?_⟩; have n0_ := Aside0.mk (Kd.S_below (KS HO469) hb); have n1_ := Aside0.mk (Kd.V_below (by (with_reducible repeat (first | apply Kd.V_alloc | apply Kd.V_drewN | apply Kd.V_drew)); exact HO473.out) hb); have n2_ := Aside0.mk (Kd.S_below (KS HO480) hb); have n3_ := Aside0.mk (Kd.V_below (by (with_reducible repeat (first | apply Kd.V_alloc | apply Kd.V_drewN | apply Kd.V_drew)); exact HO483.out) hb); have n4_ := Aside0.mk (Kd.V_lower (Kd.V_mono (ok' := fun k_ => some k_ ≠ (.slice Ao73 t467.length co73 : Value).ownBlock ∧ some k_ ≠ (.slice Ao78 t478.length co78 : Value).ownBlock) ho0 (fun k_ hk_ => ⟨(Kd.fresh' (Kd.S_lt (KS HO469)) k_ hk_), (Kd.fresh' (Kd.S_lt (KS HO480)) k_ hk_)⟩)) (below_size BB)); have n5_ := Aside0.mk (below_step BB hb); clear HO469; clear HO473; clear HO480; clear HO483; clear HB; have HO469 := n0_; have HO473 := n1_; have HO480 := n2_; have HO483 := n3_; have HO487 := n4_; have HB := n5_; clear n0_ n1_ n2_ n3_ n4_ n5_; (try clear hb); (try clear hb2); (try clear hk); (try clear hi); (try clear ho0); obtain ⟨Ao81, co81, eo81⟩ := Kd.V_slice HO483.out; subst eo81; obtain ⟨Ao82, co82, eo82⟩ := Kd.V_slice HO487.out; subst eo82) | (go_at_call 10; (with_reducible refine (laws_zSame.calls kj33 _ _ t481 _ _ t485 t489 _ ?side1 ?side2 ?side3 ?side4 A71.out).mono ?_); (case side1 => exact CW (Kd.V_reads' HO483.out).2.2); (case side2 => exact (Kd.V_reads' HO483.out).2.1); (case side3 => exact CW (Kd.V_reads' HO487.out).2.2); (case side4 => exact (Kd.V_reads' HO487.out).2.1); rintro e w' ⟨rfl, ⟨nd, rfl⟩⟩))
          go_ret
          exact ⟨RE, BB⟩
         ·rw [if_neg c70] at H
          cases H
        ·rw [if_neg c69] at H
         cases H
       ·rw [if_neg c68] at H
        cases H

/-- THE ONE PURE STATEMENT of laws_FnRentsAreFair: yours. -/
def laws_FnRentsAreFair.Pure : Prop := ∀ (l0 : List Int) (l1 : List Int), l0.length ≤ maxLen → l0.length * 1 ≤ 140737488351232 → (∀ x ∈ l0, (Lit.int .u8 x).wf = true) → l1.length ≤ maxLen → l1.length * 1 ≤ 140737488351232 → (∀ x ∈ l1, (Lit.int .u8 x).wf = true) → ∃ k, laws_FnRentsAreFair.f k l0 l1 = some true
theorem laws_FnRentsAreFair.walk (P : laws_FnRentsAreFair.Pure) (a0 : Option Addr) (len0 cap0 : Nat) (z0 : List Int) (a1 : Option Addr) (len1 cap1 : Nat) (z1 : List Int) (w : World) (w0 : (a0 = none ∧ len0 = 0 ∧ cap0 = 0 ∧ z0 = []) ∨ ∃ x, a0 = some x ∧ len0 ≤ cap0 ∧ cap0 ≤ maxLen ∧ z0.length = cap0 ∧ (∀ i, i < z0.length → w.cell? (x.add i) = some (.int .u8 (z0.getD i 0))) ∧ ∀ n ∈ z0, (Lit.int .u8 n).wf = true) (y0 : len0 * 1 ≤ 140737488351232) (w1 : (a1 = none ∧ len1 = 0 ∧ cap1 = 0 ∧ z1 = []) ∨ ∃ x, a1 = some x ∧ len1 ≤ cap1 ∧ cap1 ≤ maxLen ∧ z1.length = cap1 ∧ (∀ i, i < z1.length → w.cell? (x.add i) = some (.int .u8 (z1.getD i 0))) ∧ ∀ n ∈ z1, (Lit.int .u8 n).wf = true) (y1 : len1 * 1 ≤ 140737488351232) :
  Calls Try.prog 3 #[.slice a0 len0 cap0, .slice a1 len1 cap1] w fun e w' => e = .returned (.bool true) ∧ Below w.heap.size w w' := by
 obtain ⟨l0, rfl, hr0, hm0, hw0, hc0⟩ := ReadsInt.ofRowC w0
 obtain ⟨l1, rfl, hr1, hm1, hw1, hc1⟩ := ReadsInt.ofRowC w1
 obtain ⟨k, h⟩ := P l0 l1 hm0 y0 hw0 hm1 y1 hw1
 refine (laws_FnRentsAreFair.calls k _ _ l0 _ _ l1 true w (Kd.C_of_reads (d := (0 : Int)) (h1 := fun _ => rfl) hr0) hc0 (Kd.C_of_reads (d := (0 : Int)) (h1 := fun _ => rfl) hr1) hc1 h).mono ?_
 rintro e w' ⟨rfl, hd⟩
 exact ⟨rfl, hd⟩

end Go.Proofs.Ythkdkgbcokpbaaa.PFnRentsAreFair
