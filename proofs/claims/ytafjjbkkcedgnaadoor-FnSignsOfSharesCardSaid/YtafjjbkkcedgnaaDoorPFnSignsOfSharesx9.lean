-- Written by a program of this session (wip/tools/pp.sh) out of the translation; Lean checks it.
import Derived.Test.YtafjjbkkcedgnaaDoorPFnSignsOfSharesx0
import Derived.Test.YtafjjbkkcedgnaaDoorPFnSignsOfSharesx1
import Derived.Test.YtafjjbkkcedgnaaDoorPFnSignsOfSharesx2
import Derived.Test.YtafjjbkkcedgnaaDoorPFnSignsOfSharesx3
import Derived.Test.YtafjjbkkcedgnaaDoorPFnSignsOfSharesx4
import Derived.Test.YtafjjbkkcedgnaaDoorPFnSignsOfSharesx5
import Derived.Test.YtafjjbkkcedgnaaDoorPFnSignsOfSharesx6
import Derived.Test.YtafjjbkkcedgnaaDoorPFnSignsOfSharesx8
namespace Go.Proofs.YtafjjbkkcedgnaaDoor.PFnSignsOfShares
open Go.RowKit Go.Proofs.YtafjjbkkcedgnaaDoorOwn Go.Proofs.YtafjjbkkcedgnaaDoorW.PrintWords Go.Proofs.YtafjjbkkcedgnaaDoorW.PrintLast Go.Proofs.YtafjjbkkcedgnaaDoorW.PrintMore
attribute [local go_sem] max2_int min2_int max_two min_two max_three min_three max_four min_four   -- for this text's walks alone
set_option linter.unusedVariables false
set_option maxHeartbeats 8000000
set_option maxRecDepth 100000
set_option linter.unusedSimpArgs false

/-! ### laws_FnSignsOfShares: function 3 -/
mutual
def laws_FnSignsOfShares.j0 : Nat → List Int → ByteArray → List Int → List Int → Bool → List Int → Bool → Option (Bool)
 | 0, _, _, _, _, _, _, _ => none
 | k + 1, x1, x5, x6, x7, x8, x11, x99 => if x99 = true then (none) else (if x8 = true then ((impl_CutsOfSigns.f k x5 x7).bind fun bt401 => ((impl_IsFairSplit.f k x5 x6).bind fun bt405 => ((impl_CountsOfBeads.f k x5).bind fun bt407 => (if bt401.2 = true then ((laws_zSame.f k bt401.1 x6).bind fun t411 => (if t411 = true then (if bt405.2 = true then (if bt407.2 = true then (laws_FnSignsOfShares.j1 k x1 x5 x7 x11 bt405.1 bt407.1 ((x7.length : Int) != (x5.size : Int))) else (none)) else (none)) else (none))) else (none))))) else (laws_FnSignsOfShares.j4 k x1))
def laws_FnSignsOfShares.j4 : Nat → List Int → Option (Bool)
 | 0, _ => none
 | k + 1, x1 => (spec_DrawCutsOfSigns.f k x1).bind fun bt432 => ((impl_CutsOfSigns.f k bt432.1 bt432.2).bind fun bt436 => ((spec_CutsOfSigns.f k bt432.1 bt432.2).bind fun bt440 => (if (bt436.2 != bt440.2) = true then (none) else ((laws_zSame.f k bt436.1 bt440.1).bind fun t444 => (laws_FnSignsOfShares.j5 k x1 bt432.1 bt432.2 bt436.1 bt436.2 (!t444))))))
def laws_FnSignsOfShares.j5 : Nat → List Int → ByteArray → List Int → List Int → Bool → Bool → Option (Bool)
 | 0, _, _, _, _, _, _ => none
 | k + 1, x1, x29, x30, x31, x32, x235 => if x235 = true then (none) else (if x32 = true then ((impl_SignsOf.f k x29 x31).bind fun bt445 => (if bt445.2 = true then ((laws_zSame.f k bt445.1 x30).bind fun t449 => (laws_FnSignsOfShares.j6 k x1 (!t449))) else (none))) else ((spec_DrawIsFairSplit.f k x1).bind fun bt458 => ((impl_IsFairSplit.f k bt458.1 bt458.2).bind fun bt462 => ((spec_IsFairSplit.f k bt458.1 bt458.2).bind fun bt464 => (if (bt462.2 == bt464.2) = true then (some (bt462.1 == bt464.1)) else (none))))))
def laws_FnSignsOfShares.j6 : Nat → List Int → Bool → Option (Bool)
 | 0, _, _ => none
 | k + 1, x1, x250 => if x250 = true then (none) else ((spec_DrawIsFairSplit.f k x1).bind fun bt450 => ((impl_IsFairSplit.f k bt450.1 bt450.2).bind fun bt454 => ((spec_IsFairSplit.f k bt450.1 bt450.2).bind fun bt456 => (if (bt454.2 == bt456.2) = true then (some (bt454.1 == bt456.1)) else (none)))))
def laws_FnSignsOfShares.j1 : Nat → List Int → ByteArray → List Int → List Int → Bool → List Int → Bool → Option (Bool)
 | 0, _, _, _, _, _, _, _ => none
 | k + 1, x1, x5, x7, x11, x17, x19, x140 => if x140 = true then (none) else (if 4 ≤ 35184372088832 then (laws_FnSignsOfShares.l0 k x1 x5 x11 x17 x19 (List.replicate 4 0) (List.replicate 4 0) x7 (x7.length : Int) 0) else (none))
def laws_FnSignsOfShares.l0 : Nat → List Int → ByteArray → List Int → Bool → List Int → List Int → List Int → List Int → Int → Int → Option (Bool)
 | 0, _, _, _, _, _, _, _, _, _, _ => none
 | k + 1, x1, x5, x11, x17, x19, x21, x22, x143, x144, x145 => if x145 < x144 then (if 0 ≤ x145 then (if x145 < (x143.length : Int) then (if x145 < (x5.size : Int) then (if 0 ≤ (((bt x5 x145) - 97) % 256) then (if (((bt x5 x145) - 97) % 256) < (x21.length : Int) then ((some (x21.set ((((bt x5 x145) - 97) % 256) : Int).toNat (wrap64 ((rd x21 (((bt x5 x145) - 97) % 256)) + (rd x143 x145))) : List Int)).bind fun y420 => (if (rd x143 x145) = 1 then (if (((bt x5 x145) - 97) % 256) < (x22.length : Int) then (laws_FnSignsOfShares.l0 k x1 x5 x11 x17 x19 y420 (x22.set ((((bt x5 x145) - 97) % 256) : Int).toNat (wrap64 ((rd x22 (((bt x5 x145) - 97) % 256)) + 1))) x143 x144 (wrap64 (x145 + 1))) else (none)) else (laws_FnSignsOfShares.l0 k x1 x5 x11 x17 x19 y420 x22 x143 x144 (wrap64 (x145 + 1))))) else (none)) else (none)) else (none)) else (none)) else (none)) else (laws_FnSignsOfShares.l1 k x1 x11 x17 x19 x22 true x21 (x21.length : Int) 0)
def laws_FnSignsOfShares.l1 : Nat → List Int → List Int → Bool → List Int → List Int → Bool → List Int → Int → Int → Option (Bool)
 | 0, _, _, _, _, _, _, _, _, _ => none
 | k + 1, x1, x11, x17, x19, x22, x26, x171, x172, x173 => if x173 < x172 then (if 0 ≤ x173 then (if x173 < (x171.length : Int) then (if x26 = true then (if x173 < (x11.length : Int) then (if x173 < (x19.length : Int) then (if (rd x171 x173) = (wrap64 ((wrap64 (2 * (rd x11 x173))) - (rd x19 x173))) then (if x173 < (x22.length : Int) then (if (rd x22 x173) = (rd x11 x173) then (laws_FnSignsOfShares.l1 k x1 x11 x17 x19 x22 ((rd x171 x173) == 0) x171 x172 (wrap64 (x173 + 1))) else (none)) else (none)) else (none)) else (none)) else (none)) else (if x173 < (x11.length : Int) then (if x173 < (x19.length : Int) then (if (rd x171 x173) = (wrap64 ((wrap64 (2 * (rd x11 x173))) - (rd x19 x173))) then (if x173 < (x22.length : Int) then (if (rd x22 x173) = (rd x11 x173) then (laws_FnSignsOfShares.l1 k x1 x11 x17 x19 x22 false x171 x172 (wrap64 (x173 + 1))) else (none)) else (none)) else (none)) else (none)) else (none))) else (none)) else (none)) else (if (x26 != x17) = true then (none) else (laws_FnSignsOfShares.j4 k x1))
end
def laws_FnSignsOfShares.f (k : Nat) (l0 : List Int) (l1 : List Int) : Option (Bool) := (laws_big.f l0 l1).bind fun t378 => (if t378 = true then (some true) else ((spec_DrawSignsOf.f k l0).bind fun bt379 => ((impl_SignsOf.f k bt379.1 bt379.2).bind fun bt383 => ((spec_SignsOf.f k bt379.1 bt379.2).bind fun bt387 => ((impl_SharesOf.f k bt379.1 bt379.2).bind fun bt391 => ((spec_SharesOf.f k bt379.1 bt379.2).bind fun bt395 => (if (bt383.2 != bt387.2) = true then (none) else ((laws_zSame.f k bt383.1 bt387.1).bind fun t399 => (if t399 = true then (if (bt391.2 != bt395.2) = true then (none) else ((laws_zSame.f k bt391.1 bt395.1).bind fun t400 => (if t400 = true then (laws_FnSignsOfShares.j0 k l1 bt379.1 bt379.2 bt383.1 bt383.2 bt391.1 (bt391.2 != bt383.2)) else (none)))) else (none))))))))))
theorem laws_FnSignsOfShares.mono_l : ∀ k, (∀ y0 y1 y2 y3 y4 y5 y6, LeO (laws_FnSignsOfShares.j0 k y0 y1 y2 y3 y4 y5 y6) (laws_FnSignsOfShares.j0 (k + 1) y0 y1 y2 y3 y4 y5 y6)) ∧ (∀ y0, LeO (laws_FnSignsOfShares.j4 k y0) (laws_FnSignsOfShares.j4 (k + 1) y0)) ∧ (∀ y0 y1 y2 y3 y4 y5, LeO (laws_FnSignsOfShares.j5 k y0 y1 y2 y3 y4 y5) (laws_FnSignsOfShares.j5 (k + 1) y0 y1 y2 y3 y4 y5)) ∧ (∀ y0 y1, LeO (laws_FnSignsOfShares.j6 k y0 y1) (laws_FnSignsOfShares.j6 (k + 1) y0 y1)) ∧ (∀ y0 y1 y2 y3 y4 y5 y6, LeO (laws_FnSignsOfShares.j1 k y0 y1 y2 y3 y4 y5 y6) (laws_FnSignsOfShares.j1 (k + 1) y0 y1 y2 y3 y4 y5 y6)) ∧ (∀ y0 y1 y2 y3 y4 y5 y6 y7 y8 y9, LeO (laws_FnSignsOfShares.l0 k y0 y1 y2 y3 y4 y5 y6 y7 y8 y9) (laws_FnSignsOfShares.l0 (k + 1) y0 y1 y2 y3 y4 y5 y6 y7 y8 y9)) ∧ (∀ y0 y1 y2 y3 y4 y5 y6 y7 y8, LeO (laws_FnSignsOfShares.l1 k y0 y1 y2 y3 y4 y5 y6 y7 y8) (laws_FnSignsOfShares.l1 (k + 1) y0 y1 y2 y3 y4 y5 y6 y7 y8))
 | 0 => ⟨fun _ _ _ _ _ _ _ r h => by simp [laws_FnSignsOfShares.j0] at h, fun _ r h => by simp [laws_FnSignsOfShares.j4] at h, fun _ _ _ _ _ _ r h => by simp [laws_FnSignsOfShares.j5] at h, fun _ _ r h => by simp [laws_FnSignsOfShares.j6] at h, fun _ _ _ _ _ _ _ r h => by simp [laws_FnSignsOfShares.j1] at h, fun _ _ _ _ _ _ _ _ _ _ r h => by simp [laws_FnSignsOfShares.l0] at h, fun _ _ _ _ _ _ _ _ _ r h => by simp [laws_FnSignsOfShares.l1] at h⟩
 | k + 1 => by
  obtain ⟨ih0, ih1, ih2, ih3, ih4, ih5, ih6⟩ := laws_FnSignsOfShares.mono_l k
  refine ⟨?_, ?_, ?_, ?_, ?_, ?_, ?_⟩
  ·intro y0 y1 y2 y3 y4 y5 y6
   unfold laws_FnSignsOfShares.j0
   repeat' first
   | with_reducible first | exact ih0 _ _ _ _ _ _ _ | exact ih1 _ | exact ih2 _ _ _ _ _ _ | exact ih3 _ _ | exact ih4 _ _ _ _ _ _ _ | exact ih5 _ _ _ _ _ _ _ _ _ _ | exact ih6 _ _ _ _ _ _ _ _ _ | exact impl_CountsOfBeads.mono _ _ | exact impl_CutsOfSigns.mono _ _ _ | exact impl_IsFairSplit.mono _ _ _ | exact impl_SharesOf.mono _ _ _ | exact impl_SignsOf.mono _ _ _ | exact laws_zSame.mono _ _ _ | exact spec_CutsOfSigns.mono _ _ _ | exact spec_DrawCutsOfSigns.mono _ _ | exact spec_DrawIsFairSplit.mono _ _ | exact spec_DrawSignsOf.mono _ _ | exact spec_IsFairSplit.mono _ _ _ | exact spec_SharesOf.mono _ _ _ | exact spec_SignsOf.mono _ _ _ | exact LeO.refl _ | exact LeO.none _ | refine LeO.ite ?_ ?_ | refine LeO.bind ?_ (fun _ => ?_)
   | exact LeO.none _ | refine LeO.ite ?_ ?_ | refine LeO.bind ?_ (fun _ => ?_)
  ·intro y0
   unfold laws_FnSignsOfShares.j4
   repeat' first
   | with_reducible first | exact ih0 _ _ _ _ _ _ _ | exact ih1 _ | exact ih2 _ _ _ _ _ _ | exact ih3 _ _ | exact ih4 _ _ _ _ _ _ _ | exact ih5 _ _ _ _ _ _ _ _ _ _ | exact ih6 _ _ _ _ _ _ _ _ _ | exact impl_CountsOfBeads.mono _ _ | exact impl_CutsOfSigns.mono _ _ _ | exact impl_IsFairSplit.mono _ _ _ | exact impl_SharesOf.mono _ _ _ | exact impl_SignsOf.mono _ _ _ | exact laws_zSame.mono _ _ _ | exact spec_CutsOfSigns.mono _ _ _ | exact spec_DrawCutsOfSigns.mono _ _ | exact spec_DrawIsFairSplit.mono _ _ | exact spec_DrawSignsOf.mono _ _ | exact spec_IsFairSplit.mono _ _ _ | exact spec_SharesOf.mono _ _ _ | exact spec_SignsOf.mono _ _ _ | exact LeO.refl _ | exact LeO.none _ | refine LeO.ite ?_ ?_ | refine LeO.bind ?_ (fun _ => ?_)
   | exact LeO.none _ | refine LeO.ite ?_ ?_ | refine LeO.bind ?_ (fun _ => ?_)
  ·intro y0 y1 y2 y3 y4 y5
   unfold laws_FnSignsOfShares.j5
   repeat' first
   | with_reducible first | exact ih0 _ _ _ _ _ _ _ | exact ih1 _ | exact ih2 _ _ _ _ _ _ | exact ih3 _ _ | exact ih4 _ _ _ _ _ _ _ | exact ih5 _ _ _ _ _ _ _ _ _ _ | exact ih6 _ _ _ _ _ _ _ _ _ | exact impl_CountsOfBeads.mono _ _ | exact impl_CutsOfSigns.mono _ _ _ | exact impl_IsFairSplit.mono _ _ _ | exact impl_SharesOf.mono _ _ _ | exact impl_SignsOf.mono _ _ _ | exact laws_zSame.mono _ _ _ | exact spec_CutsOfSigns.mono _ _ _ | exact spec_DrawCutsOfSigns.mono _ _ | exact spec_DrawIsFairSplit.mono _ _ | exact spec_DrawSignsOf.mono _ _ | exact spec_IsFairSplit.mono _ _ _ | exact spec_SharesOf.mono _ _ _ | exact spec_SignsOf.mono _ _ _ | exact LeO.refl _ | exact LeO.none _ | refine LeO.ite ?_ ?_ | refine LeO.bind ?_ (fun _ => ?_)
   | exact LeO.none _ | refine LeO.ite ?_ ?_ | refine LeO.bind ?_ (fun _ => ?_)
  ·intro y0 y1
   unfold laws_FnSignsOfShares.j6
   repeat' first
   | with_reducible first | exact ih0 _ _ _ _ _ _ _ | exact ih1 _ | exact ih2 _ _ _ _ _ _ | exact ih3 _ _ | exact ih4 _ _ _ _ _ _ _ | exact ih5 _ _ _ _ _ _ _ _ _ _ | exact ih6 _ _ _ _ _ _ _ _ _ | exact impl_CountsOfBeads.mono _ _ | exact impl_CutsOfSigns.mono _ _ _ | exact impl_IsFairSplit.mono _ _ _ | exact impl_SharesOf.mono _ _ _ | exact impl_SignsOf.mono _ _ _ | exact laws_zSame.mono _ _ _ | exact spec_CutsOfSigns.mono _ _ _ | exact spec_DrawCutsOfSigns.mono _ _ | exact spec_DrawIsFairSplit.mono _ _ | exact spec_DrawSignsOf.mono _ _ | exact spec_IsFairSplit.mono _ _ _ | exact spec_SharesOf.mono _ _ _ | exact spec_SignsOf.mono _ _ _ | exact LeO.refl _ | exact LeO.none _ | refine LeO.ite ?_ ?_ | refine LeO.bind ?_ (fun _ => ?_)
   | exact LeO.none _ | refine LeO.ite ?_ ?_ | refine LeO.bind ?_ (fun _ => ?_)
  ·intro y0 y1 y2 y3 y4 y5 y6
   unfold laws_FnSignsOfShares.j1
   repeat' first
   | with_reducible first | exact ih0 _ _ _ _ _ _ _ | exact ih1 _ | exact ih2 _ _ _ _ _ _ | exact ih3 _ _ | exact ih4 _ _ _ _ _ _ _ | exact ih5 _ _ _ _ _ _ _ _ _ _ | exact ih6 _ _ _ _ _ _ _ _ _ | exact impl_CountsOfBeads.mono _ _ | exact impl_CutsOfSigns.mono _ _ _ | exact impl_IsFairSplit.mono _ _ _ | exact impl_SharesOf.mono _ _ _ | exact impl_SignsOf.mono _ _ _ | exact laws_zSame.mono _ _ _ | exact spec_CutsOfSigns.mono _ _ _ | exact spec_DrawCutsOfSigns.mono _ _ | exact spec_DrawIsFairSplit.mono _ _ | exact spec_DrawSignsOf.mono _ _ | exact spec_IsFairSplit.mono _ _ _ | exact spec_SharesOf.mono _ _ _ | exact spec_SignsOf.mono _ _ _ | exact LeO.refl _ | exact LeO.none _ | refine LeO.ite ?_ ?_ | refine LeO.bind ?_ (fun _ => ?_)
   | exact LeO.none _ | refine LeO.ite ?_ ?_ | refine LeO.bind ?_ (fun _ => ?_)
  ·intro y0 y1 y2 y3 y4 y5 y6 y7 y8 y9
   unfold laws_FnSignsOfShares.l0
   repeat' first
   | with_reducible first | exact ih0 _ _ _ _ _ _ _ | exact ih1 _ | exact ih2 _ _ _ _ _ _ | exact ih3 _ _ | exact ih4 _ _ _ _ _ _ _ | exact ih5 _ _ _ _ _ _ _ _ _ _ | exact ih6 _ _ _ _ _ _ _ _ _ | exact impl_CountsOfBeads.mono _ _ | exact impl_CutsOfSigns.mono _ _ _ | exact impl_IsFairSplit.mono _ _ _ | exact impl_SharesOf.mono _ _ _ | exact impl_SignsOf.mono _ _ _ | exact laws_zSame.mono _ _ _ | exact spec_CutsOfSigns.mono _ _ _ | exact spec_DrawCutsOfSigns.mono _ _ | exact spec_DrawIsFairSplit.mono _ _ | exact spec_DrawSignsOf.mono _ _ | exact spec_IsFairSplit.mono _ _ _ | exact spec_SharesOf.mono _ _ _ | exact spec_SignsOf.mono _ _ _ | exact LeO.refl _ | exact LeO.none _ | refine LeO.ite ?_ ?_ | refine LeO.bind ?_ (fun _ => ?_)
   | exact LeO.none _ | refine LeO.ite ?_ ?_ | refine LeO.bind ?_ (fun _ => ?_)
  ·intro y0 y1 y2 y3 y4 y5 y6 y7 y8
   unfold laws_FnSignsOfShares.l1
   repeat' first
   | with_reducible first | exact ih0 _ _ _ _ _ _ _ | exact ih1 _ | exact ih2 _ _ _ _ _ _ | exact ih3 _ _ | exact ih4 _ _ _ _ _ _ _ | exact ih5 _ _ _ _ _ _ _ _ _ _ | exact ih6 _ _ _ _ _ _ _ _ _ | exact impl_CountsOfBeads.mono _ _ | exact impl_CutsOfSigns.mono _ _ _ | exact impl_IsFairSplit.mono _ _ _ | exact impl_SharesOf.mono _ _ _ | exact impl_SignsOf.mono _ _ _ | exact laws_zSame.mono _ _ _ | exact spec_CutsOfSigns.mono _ _ _ | exact spec_DrawCutsOfSigns.mono _ _ | exact spec_DrawIsFairSplit.mono _ _ | exact spec_DrawSignsOf.mono _ _ | exact spec_IsFairSplit.mono _ _ _ | exact spec_SharesOf.mono _ _ _ | exact spec_SignsOf.mono _ _ _ | exact LeO.refl _ | exact LeO.none _ | refine LeO.ite ?_ ?_ | refine LeO.bind ?_ (fun _ => ?_)
   | exact LeO.none _ | refine LeO.ite ?_ ?_ | refine LeO.bind ?_ (fun _ => ?_)
theorem laws_FnSignsOfShares.mono : ∀ a0 a1 k, LeO (laws_FnSignsOfShares.f k a0 a1) (laws_FnSignsOfShares.f (k + 1) a0 a1) := by
 intro a0 a1 k
 obtain ⟨ih0, ih1, ih2, ih3, ih4, ih5, ih6⟩ := laws_FnSignsOfShares.mono_l k
 unfold laws_FnSignsOfShares.f
 repeat' first
   | with_reducible first | exact ih0 _ _ _ _ _ _ _ | exact ih1 _ | exact ih2 _ _ _ _ _ _ | exact ih3 _ _ | exact ih4 _ _ _ _ _ _ _ | exact ih5 _ _ _ _ _ _ _ _ _ _ | exact ih6 _ _ _ _ _ _ _ _ _ | exact impl_CountsOfBeads.mono _ _ | exact impl_CutsOfSigns.mono _ _ _ | exact impl_IsFairSplit.mono _ _ _ | exact impl_SharesOf.mono _ _ _ | exact impl_SignsOf.mono _ _ _ | exact laws_zSame.mono _ _ _ | exact spec_CutsOfSigns.mono _ _ _ | exact spec_DrawCutsOfSigns.mono _ _ | exact spec_DrawIsFairSplit.mono _ _ | exact spec_DrawSignsOf.mono _ _ | exact spec_IsFairSplit.mono _ _ _ | exact spec_SharesOf.mono _ _ _ | exact spec_SignsOf.mono _ _ _ | exact LeO.refl _ | exact LeO.none _ | refine LeO.ite ?_ ?_ | refine LeO.bind ?_ (fun _ => ?_)
   | exact LeO.none _ | refine LeO.ite ?_ ?_ | refine LeO.bind ?_ (fun _ => ?_)
theorem laws_FnSignsOfShares.calls (k : Nat) (A0 : Option Addr) (c0 : Nat) (l0 : List Int) (A1 : Option Addr) (c1 : Nat) (l1 : List Int) (r : Bool) (w : World) (hr0 : Kd.C (Kd.int .u8) w A0 l0.length l0) (hc0 : l0.length ≤ c0) (hr1 : Kd.C (Kd.int .u8) w A1 l1.length l1) (hc1 : l1.length ≤ c1) (h : laws_FnSignsOfShares.f k l0 l1 = some r) :
  Calls Tryd.prog 3 #[.slice A0 l0.length c0, .slice A1 l1.length c1] w fun e w' => e = .returned (.bool r) ∧ Below w.heap.size w w' := by
 have HR0 := Aside0.mk hr0
 have HC0 := Aside0.mk hc0
 clear hr0 hc0
 have HR1 := Aside0.mk hr1
 have HC1 := Aside0.mk hc1
 clear hr1 hc1
 have HB := Aside0.mk (Below.refl w.heap.size w)
 have H : ((laws_big.f l0 l1).bind fun t378 => (if t378 = true then (some true) else ((spec_DrawSignsOf.f k l0).bind fun bt379 => ((impl_SignsOf.f k bt379.1 bt379.2).bind fun bt383 => ((spec_SignsOf.f k bt379.1 bt379.2).bind fun bt387 => ((impl_SharesOf.f k bt379.1 bt379.2).bind fun bt391 => ((spec_SharesOf.f k bt379.1 bt379.2).bind fun bt395 => (if (bt383.2 != bt387.2) = true then (none) else ((laws_zSame.f k bt383.1 bt387.1).bind fun t399 => (if t399 = true then (if (bt391.2 != bt395.2) = true then (none) else ((laws_zSame.f k bt391.1 bt395.1).bind fun t400 => (if t400 = true then (laws_FnSignsOfShares.j0 k l1 bt379.1 bt379.2 bt383.1 bt383.2 bt391.1 (bt391.2 != bt383.2)) else (none)))) else (none))))))))))) = some r := h
 clear h
 obtain ⟨t378, A30, H⟩ := Option.bind_eq_some_iff.mp H
 have A3 := Aside0.mk A30
 clear A30
 by_cases c4 : t378 = true
 ·subst c4
  replace H := IP H
  obtain rfl := Option.some.inj H
  go_enter Tryd.func3, Tryd.ntmps3
  go_wp2_with (first | (go_at_call 5; (with_reducible refine (laws_big.calls _ _ l0 _ _ l1 true _ ?side1 ?side2 ?side3 ?side4 A3.out).mono ?_); (case side1 => exact CW HR0.out); (case side2 => exact HC0.out); (case side3 => exact CW HR1.out); (case side4 => exact HC1.out); rintro e w' ⟨rfl, ⟨nd, rfl⟩⟩; (try first | exact ⟨rfl, _, World.drewN_drewN _ _ _⟩ | exact ⟨rfl, _, Eq.trans (World.drewN_drewN _ _ _) (congrArg (World.drewN _) (Nat.add_assoc _ _ _))⟩)))
  repeat (go_quiet (first | (go_at_call 5; (with_reducible refine (laws_big.calls _ _ l0 _ _ l1 true _ ?side1 ?side2 ?side3 ?side4 A3.out).mono ?_); (case side1 => exact CW HR0.out); (case side2 => exact HC0.out); (case side3 => exact CW HR1.out); (case side4 => exact HC1.out); rintro e w' ⟨rfl, ⟨nd, rfl⟩⟩; (try first | exact ⟨rfl, _, World.drewN_drewN _ _ _⟩ | exact ⟨rfl, _, Eq.trans (World.drewN_drewN _ _ _) (congrArg (World.drewN _) (Nat.add_assoc _ _ _))⟩))); try go_wp2_with (first | (go_at_call 5; (with_reducible refine (laws_big.calls _ _ l0 _ _ l1 true _ ?side1 ?side2 ?side3 ?side4 A3.out).mono ?_); (case side1 => exact CW HR0.out); (case side2 => exact HC0.out); (case side3 => exact CW HR1.out); (case side4 => exact HC1.out); rintro e w' ⟨rfl, ⟨nd, rfl⟩⟩; (try first | exact ⟨rfl, _, World.drewN_drewN _ _ _⟩ | exact ⟨rfl, _, Eq.trans (World.drewN_drewN _ _ _) (congrArg (World.drewN _) (Nat.add_assoc _ _ _))⟩))))
  go_ret
  exact ⟨RE, BB⟩
 ·replace c4 := Bool.eq_false_iff.mpr c4
  subst c4
  replace H := IN H
  obtain ⟨⟨t379, t380⟩, A50, H⟩ := Option.bind_eq_some_iff.mp H
  replace H : ((impl_SignsOf.f k t379 t380).bind fun bt383 => ((spec_SignsOf.f k t379 t380).bind fun bt387 => ((impl_SharesOf.f k t379 t380).bind fun bt391 => ((spec_SharesOf.f k t379 t380).bind fun bt395 => (if (bt383.2 != bt387.2) = true then (none) else ((laws_zSame.f k bt383.1 bt387.1).bind fun t399 => (if t399 = true then (if (bt391.2 != bt395.2) = true then (none) else ((laws_zSame.f k bt391.1 bt395.1).bind fun t400 => (if t400 = true then (laws_FnSignsOfShares.j0 k l1 t379 t380 bt383.1 bt383.2 bt391.1 (bt391.2 != bt383.2)) else (none)))) else (none)))))))) = some r := H
  have A5 := Aside0.mk A50
  clear A50
  obtain ⟨⟨t383, t384⟩, A60, H⟩ := Option.bind_eq_some_iff.mp H
  replace H : ((spec_SignsOf.f k t379 t380).bind fun bt387 => ((impl_SharesOf.f k t379 t380).bind fun bt391 => ((spec_SharesOf.f k t379 t380).bind fun bt395 => (if (t384 != bt387.2) = true then (none) else ((laws_zSame.f k t383 bt387.1).bind fun t399 => (if t399 = true then (if (bt391.2 != bt395.2) = true then (none) else ((laws_zSame.f k bt391.1 bt395.1).bind fun t400 => (if t400 = true then (laws_FnSignsOfShares.j0 k l1 t379 t380 t383 t384 bt391.1 (bt391.2 != t384)) else (none)))) else (none))))))) = some r := H
  have A6 := Aside0.mk A60
  clear A60
  obtain ⟨⟨t387, t388⟩, A70, H⟩ := Option.bind_eq_some_iff.mp H
  replace H : ((impl_SharesOf.f k t379 t380).bind fun bt391 => ((spec_SharesOf.f k t379 t380).bind fun bt395 => (if (t384 != t388) = true then (none) else ((laws_zSame.f k t383 t387).bind fun t399 => (if t399 = true then (if (bt391.2 != bt395.2) = true then (none) else ((laws_zSame.f k bt391.1 bt395.1).bind fun t400 => (if t400 = true then (laws_FnSignsOfShares.j0 k l1 t379 t380 t383 t384 bt391.1 (bt391.2 != t384)) else (none)))) else (none)))))) = some r := H
  have A7 := Aside0.mk A70
  clear A70
  obtain ⟨⟨t391, t392⟩, A80, H⟩ := Option.bind_eq_some_iff.mp H
  replace H : ((spec_SharesOf.f k t379 t380).bind fun bt395 => (if (t384 != t388) = true then (none) else ((laws_zSame.f k t383 t387).bind fun t399 => (if t399 = true then (if (t392 != bt395.2) = true then (none) else ((laws_zSame.f k t391 bt395.1).bind fun t400 => (if t400 = true then (laws_FnSignsOfShares.j0 k l1 t379 t380 t383 t384 t391 (t392 != t384)) else (none)))) else (none))))) = some r := H
  have A8 := Aside0.mk A80
  clear A80
  obtain ⟨⟨t395, t396⟩, A90, H⟩ := Option.bind_eq_some_iff.mp H
  replace H : (if (t384 != t388) = true then (none) else ((laws_zSame.f k t383 t387).bind fun t399 => (if t399 = true then (if (t392 != t396) = true then (none) else ((laws_zSame.f k t391 t395).bind fun t400 => (if t400 = true then (laws_FnSignsOfShares.j0 k l1 t379 t380 t383 t384 t391 (t392 != t384)) else (none)))) else (none)))) = some r := H
  have A9 := Aside0.mk A90
  clear A90
  have HC10 := Aside0.mk H
  clear H
  go_enter Tryd.func3, Tryd.ntmps3
  go_upto_region 8 with (first | (go_at_call 5; (with_reducible refine (laws_big.calls _ _ l0 _ _ l1 false _ ?side1 ?side2 ?side3 ?side4 A3.out).mono ?_); (case side1 => exact CW HR0.out); (case side2 => exact HC0.out); (case side3 => exact CW HR1.out); (case side4 => exact HC1.out); rintro e w' ⟨rfl, ⟨nd, rfl⟩⟩; (try first | exact ⟨rfl, _, World.drewN_drewN _ _ _⟩ | exact ⟨rfl, _, Eq.trans (World.drewN_drewN _ _ _) (congrArg (World.drewN _) (Nat.add_assoc _ _ _))⟩)) | (go_at_call 6; (with_reducible refine (spec_DrawSignsOf.calls k _ _ l0 t379 t380 _ ?side1 ?side2 A5.out).mono ?_); (case side1 => exact CW HR0.out); (case side2 => exact HC0.out); rintro e w11 ⟨v381, rfl, ho0, hb⟩; have n0_ := Aside0.mk (Kd.R_lower ho0 (below_size BB)); have n1_ := Aside0.mk (below_step BB hb); clear HB; have HO382 := n0_; have HB := n1_; clear n0_ n1_; (try clear hb); (try clear hb2); (try clear hk); (try clear hi); (try clear ho0); obtain ⟨Ao12, co12, eo12⟩ := Kd.R_slice HO382.out; subst eo12) | (go_at_call 7; (with_reducible refine (impl_SignsOf.calls k t379 _ _ t380 t383 t384 _ ?side1 ?side2 A6.out).mono ?_); (case side1 => exact CW (Kd.R_reads' HO382.out).2.2); (case side2 => exact (Kd.R_reads' HO382.out).2.1); rintro e w13 ⟨v385, rfl, ho0, hb⟩; have n0_ := Aside0.mk (Kd.R_elder' (KR HO382) (Kd.R_base ho0) hb); have n1_ := Aside0.mk (Kd.R_lower (Kd.R_new' ho0 (Kd.R_lt (KR HO382))) (below_size BB)); have n2_ := Aside0.mk (below_step BB hb); clear HO382; clear HB; have HO382 := n0_; have HO386 := n1_; have HB := n2_; clear n0_ n1_ n2_; (try clear hb); (try clear hb2); (try clear hk); (try clear hi); (try clear ho0)) | (go_at_call 8; (with_reducible refine (spec_SignsOf.calls k t379 _ _ t380 t387 t388 _ ?side1 ?side2 A7.out).mono ?_); (case side1 => exact CW (Kd.R_reads' HO382.out).2.2); (case side2 => exact (Kd.R_reads' HO382.out).2.1); rintro e w14 ⟨v389, rfl, ho0, hb⟩; have n0_ := Aside0.mk (Kd.R_elder' (KR HO382) (Kd.R_base ho0) hb); have n1_ := Aside0.mk (Kd.R_elder' (KR HO386) (Kd.R_base ho0) hb); have n2_ := Aside0.mk (Kd.R_lower (Kd.R_new' (Kd.R_new' ho0 (Kd.R_lt (KR HO382))) (Kd.R_lt (KR HO386))) (below_size BB)); have n3_ := Aside0.mk (below_step BB hb); clear HO382; clear HO386; clear HB; have HO382 := n0_; have HO386 := n1_; have HO390 := n2_; have HB := n3_; clear n0_ n1_ n2_ n3_; (try clear hb); (try clear hb2); (try clear hk); (try clear hi); (try clear ho0)) | (go_at_call 9; (with_reducible refine (impl_SharesOf.calls k t379 _ _ t380 t391 t392 _ ?side1 ?side2 A8.out).mono ?_); (case side1 => exact CW (Kd.R_reads' HO382.out).2.2); (case side2 => exact (Kd.R_reads' HO382.out).2.1); rintro e w15 ⟨v393, rfl, ho0, hb⟩; have n0_ := Aside0.mk (Kd.R_elder' (KR HO382) (Kd.R_base ho0) hb); have n1_ := Aside0.mk (Kd.R_elder' (KR HO386) (Kd.R_base ho0) hb); have n2_ := Aside0.mk (Kd.R_elder' (KR HO390) (Kd.R_base ho0) hb); have n3_ := Aside0.mk (Kd.R_lower (Kd.R_new' (Kd.R_new' (Kd.R_new' ho0 (Kd.R_lt (KR HO382))) (Kd.R_lt (KR HO386))) (Kd.R_lt (KR HO390))) (below_size BB)); have n4_ := Aside0.mk (below_step BB hb); clear HO382; clear HO386; clear HO390; clear HB; have HO382 := n0_; have HO386 := n1_; have HO390 := n2_; have HO394 := n3_; have HB := n4_; clear n0_ n1_ n2_ n3_ n4_; (try clear hb); (try clear hb2); (try clear hk); (try clear hi); (try clear ho0)) | (go_at_call 10; (with_reducible refine (spec_SharesOf.calls k t379 _ _ t380 t395 t396 _ ?side1 ?side2 A9.out).mono ?_); (case side1 => exact CW (Kd.R_reads' HO382.out).2.2); (case side2 => exact (Kd.R_reads' HO382.out).2.1); rintro e w16 ⟨v397, rfl, ho0, hb⟩; have n0_ := Aside0.mk (Kd.R_elder' (KR HO382) (Kd.R_base ho0) hb); have n1_ := Aside0.mk (Kd.R_elder' (KR HO386) (Kd.R_base ho0) hb); have n2_ := Aside0.mk (Kd.R_elder' (KR HO390) (Kd.R_base ho0) hb); have n3_ := Aside0.mk (Kd.R_elder' (KR HO394) (Kd.R_base ho0) hb); have n4_ := Aside0.mk (Kd.R_lower (Kd.R_new' (Kd.R_new' (Kd.R_new' (Kd.R_new' ho0 (Kd.R_lt (KR HO382))) (Kd.R_lt (KR HO386))) (Kd.R_lt (KR HO390))) (Kd.R_lt (KR HO394))) (below_size BB)); have n5_ := Aside0.mk (below_step BB hb); clear HO382; clear HO386; clear HO390; clear HO394; clear HB; have HO382 := n0_; have HO386 := n1_; have HO390 := n2_; have HO394 := n3_; have HO398 := n4_; have HB := n5_; clear n0_ n1_ n2_ n3_ n4_ n5_; (try clear hb); (try clear hb2); (try clear hk); (try clear hi); (try clear ho0)))
  repeat (go_quiet (first | (go_at_call 5; (with_reducible refine (laws_big.calls _ _ l0 _ _ l1 false _ ?side1 ?side2 ?side3 ?side4 A3.out).mono ?_); (case side1 => exact CW HR0.out); (case side2 => exact HC0.out); (case side3 => exact CW HR1.out); (case side4 => exact HC1.out); rintro e w' ⟨rfl, ⟨nd, rfl⟩⟩; (try first | exact ⟨rfl, _, World.drewN_drewN _ _ _⟩ | exact ⟨rfl, _, Eq.trans (World.drewN_drewN _ _ _) (congrArg (World.drewN _) (Nat.add_assoc _ _ _))⟩)) | (go_at_call 6; (with_reducible refine (spec_DrawSignsOf.calls k _ _ l0 t379 t380 _ ?side1 ?side2 A5.out).mono ?_); (case side1 => exact CW HR0.out); (case side2 => exact HC0.out); rintro e w11 ⟨v381, rfl, ho0, hb⟩; have n0_ := Aside0.mk (Kd.R_lower ho0 (below_size BB)); have n1_ := Aside0.mk (below_step BB hb); clear HB; have HO382 := n0_; have HB := n1_; clear n0_ n1_; (try clear hb); (try clear hb2); (try clear hk); (try clear hi); (try clear ho0); obtain ⟨Ao12, co12, eo12⟩ := Kd.R_slice HO382.out; subst eo12) | (go_at_call 7; (with_reducible refine (impl_SignsOf.calls k t379 _ _ t380 t383 t384 _ ?side1 ?side2 A6.out).mono ?_); (case side1 => exact CW (Kd.R_reads' HO382.out).2.2); (case side2 => exact (Kd.R_reads' HO382.out).2.1); rintro e w13 ⟨v385, rfl, ho0, hb⟩; have n0_ := Aside0.mk (Kd.R_elder' (KR HO382) (Kd.R_base ho0) hb); have n1_ := Aside0.mk (Kd.R_lower (Kd.R_new' ho0 (Kd.R_lt (KR HO382))) (below_size BB)); have n2_ := Aside0.mk (below_step BB hb); clear HO382; clear HB; have HO382 := n0_; have HO386 := n1_; have HB := n2_; clear n0_ n1_ n2_; (try clear hb); (try clear hb2); (try clear hk); (try clear hi); (try clear ho0)) | (go_at_call 8; (with_reducible refine (spec_SignsOf.calls k t379 _ _ t380 t387 t388 _ ?side1 ?side2 A7.out).mono ?_); (case side1 => exact CW (Kd.R_reads' HO382.out).2.2); (case side2 => exact (Kd.R_reads' HO382.out).2.1); rintro e w14 ⟨v389, rfl, ho0, hb⟩; have n0_ := Aside0.mk (Kd.R_elder' (KR HO382) (Kd.R_base ho0) hb); have n1_ := Aside0.mk (Kd.R_elder' (KR HO386) (Kd.R_base ho0) hb); have n2_ := Aside0.mk (Kd.R_lower (Kd.R_new' (Kd.R_new' ho0 (Kd.R_lt (KR HO382))) (Kd.R_lt (KR HO386))) (below_size BB)); have n3_ := Aside0.mk (below_step BB hb); clear HO382; clear HO386; clear HB; have HO382 := n0_; have HO386 := n1_; have HO390 := n2_; have HB := n3_; clear n0_ n1_ n2_ n3_; (try clear hb); (try clear hb2); (try clear hk); (try clear hi); (try clear ho0)) | (go_at_call 9; (with_reducible refine (impl_SharesOf.calls k t379 _ _ t380 t391 t392 _ ?side1 ?side2 A8.out).mono ?_); (case side1 => exact CW (Kd.R_reads' HO382.out).2.2); (case side2 => exact (Kd.R_reads' HO382.out).2.1); rintro e w15 ⟨v393, rfl, ho0, hb⟩; have n0_ := Aside0.mk (Kd.R_elder' (KR HO382) (Kd.R_base ho0) hb); have n1_ := Aside0.mk (Kd.R_elder' (KR HO386) (Kd.R_base ho0) hb); have n2_ := Aside0.mk (Kd.R_elder' (KR HO390) (Kd.R_base ho0) hb); have n3_ := Aside0.mk (Kd.R_lower (Kd.R_new' (Kd.R_new' (Kd.R_new' ho0 (Kd.R_lt (KR HO382))) (Kd.R_lt (KR HO386))) (Kd.R_lt (KR HO390))) (below_size BB)); have n4_ := Aside0.mk (below_step BB hb); clear HO382; clear HO386; clear HO390; clear HB; have HO382 := n0_; have HO386 := n1_; have HO390 := n2_; have HO394 := n3_; have HB := n4_; clear n0_ n1_ n2_ n3_ n4_; (try clear hb); (try clear hb2); (try clear hk); (try clear hi); (try clear ho0)) | (go_at_call 10; (with_reducible refine (spec_SharesOf.calls k t379 _ _ t380 t395 t396 _ ?side1 ?side2 A9.out).mono ?_); (case side1 => exact CW (Kd.R_reads' HO382.out).2.2); (case side2 => exact (Kd.R_reads' HO382.out).2.1); rintro e w16 ⟨v397, rfl, ho0, hb⟩; have n0_ := Aside0.mk (Kd.R_elder' (KR HO382) (Kd.R_base ho0) hb); have n1_ := Aside0.mk (Kd.R_elder' (KR HO386) (Kd.R_base ho0) hb); have n2_ := Aside0.mk (Kd.R_elder' (KR HO390) (Kd.R_base ho0) hb); have n3_ := Aside0.mk (Kd.R_elder' (KR HO394) (Kd.R_base ho0) hb); have n4_ := Aside0.mk (Kd.R_lower (Kd.R_new' (Kd.R_new' (Kd.R_new' (Kd.R_new' ho0 (Kd.R_lt (KR HO382))) (Kd.R_lt (KR HO386))) (Kd.R_lt (KR HO390))) (Kd.R_lt (KR HO394))) (below_size BB)); have n5_ := Aside0.mk (below_step BB hb); clear HO382; clear HO386; clear HO390; clear HO394; clear HB; have HO382 := n0_; have HO386 := n1_; have HO390 := n2_; have HO394 := n3_; have HO398 := n4_; have HB := n5_; clear n0_ n1_ n2_ n3_ n4_ n5_; (try clear hb); (try clear hb2); (try clear hk); (try clear hi); (try clear ho0))); go_upto_region 8 with (first | (go_at_call 5; (with_reducible refine (laws_big.calls _ _ l0 _ _ l1 false _ ?side1 ?side2 ?side3 ?side4 A3.out).mono ?_); (case side1 => exact CW HR0.out); (case side2 => exact HC0.out); (case side3 => exact CW HR1.out); (case side4 => exact HC1.out); rintro e w' ⟨rfl, ⟨nd, rfl⟩⟩; (try first | exact ⟨rfl, _, World.drewN_drewN _ _ _⟩ | exact ⟨rfl, _, Eq.trans (World.drewN_drewN _ _ _) (congrArg (World.drewN _) (Nat.add_assoc _ _ _))⟩)) | (go_at_call 6; (with_reducible refine (spec_DrawSignsOf.calls k _ _ l0 t379 t380 _ ?side1 ?side2 A5.out).mono ?_); (case side1 => exact CW HR0.out); (case side2 => exact HC0.out); rintro e w11 ⟨v381, rfl, ho0, hb⟩; have n0_ := Aside0.mk (Kd.R_lower ho0 (below_size BB)); have n1_ := Aside0.mk (below_step BB hb); clear HB; have HO382 := n0_; have HB := n1_; clear n0_ n1_; (try clear hb); (try clear hb2); (try clear hk); (try clear hi); (try clear ho0); obtain ⟨Ao12, co12, eo12⟩ := Kd.R_slice HO382.out; subst eo12) | (go_at_call 7; (with_reducible refine (impl_SignsOf.calls k t379 _ _ t380 t383 t384 _ ?side1 ?side2 A6.out).mono ?_); (case side1 => exact CW (Kd.R_reads' HO382.out).2.2); (case side2 => exact (Kd.R_reads' HO382.out).2.1); rintro e w13 ⟨v385, rfl, ho0, hb⟩; have n0_ := Aside0.mk (Kd.R_elder' (KR HO382) (Kd.R_base ho0) hb); have n1_ := Aside0.mk (Kd.R_lower (Kd.R_new' ho0 (Kd.R_lt (KR HO382))) (below_size BB)); have n2_ := Aside0.mk (below_step BB hb); clear HO382; clear HB; have HO382 := n0_; have HO386 := n1_; have HB := n2_; clear n0_ n1_ n2_; (try clear hb); (try clear hb2); (try clear hk); (try clear hi); (try clear ho0)) | (go_at_call 8; (with_reducible refine (spec_SignsOf.calls k t379 _ _ t380 t387 t388 _ ?side1 ?side2 A7.out).mono ?_); (case side1 => exact CW (Kd.R_reads' HO382.out).2.2); (case side2 => exact (Kd.R_reads' HO382.out).2.1); rintro e w14 ⟨v389, rfl, ho0, hb⟩; have n0_ := Aside0.mk (Kd.R_elder' (KR HO382) (Kd.R_base ho0) hb); have n1_ := Aside0.mk (Kd.R_elder' (KR HO386) (Kd.R_base ho0) hb); have n2_ := Aside0.mk (Kd.R_lower (Kd.R_new' (Kd.R_new' ho0 (Kd.R_lt (KR HO382))) (Kd.R_lt (KR HO386))) (below_size BB)); have n3_ := Aside0.mk (below_step BB hb); clear HO382; clear HO386; clear HB; have HO382 := n0_; have HO386 := n1_; have HO390 := n2_; have HB := n3_; clear n0_ n1_ n2_ n3_; (try clear hb); (try clear hb2); (try clear hk); (try clear hi); (try clear ho0)) | (go_at_call 9; (with_reducible refine (impl_SharesOf.calls k t379 _ _ t380 t391 t392 _ ?side1 ?side2 A8.out).mono ?_); (case side1 => exact CW (Kd.R_reads' HO382.out).2.2); (case side2 => exact (Kd.R_reads' HO382.out).2.1); rintro e w15 ⟨v393, rfl, ho0, hb⟩; have n0_ := Aside0.mk (Kd.R_elder' (KR HO382) (Kd.R_base ho0) hb); have n1_ := Aside0.mk (Kd.R_elder' (KR HO386) (Kd.R_base ho0) hb); have n2_ := Aside0.mk (Kd.R_elder' (KR HO390) (Kd.R_base ho0) hb); have n3_ := Aside0.mk (Kd.R_lower (Kd.R_new' (Kd.R_new' (Kd.R_new' ho0 (Kd.R_lt (KR HO382))) (Kd.R_lt (KR HO386))) (Kd.R_lt (KR HO390))) (below_size BB)); have n4_ := Aside0.mk (below_step BB hb); clear HO382; clear HO386; clear HO390; clear HB; have HO382 := n0_; have HO386 := n1_; have HO390 := n2_; have HO394 := n3_; have HB := n4_; clear n0_ n1_ n2_ n3_ n4_; (try clear hb); (try clear hb2); (try clear hk); (try clear hi); (try clear ho0)) | (go_at_call 10; (with_reducible refine (spec_SharesOf.calls k t379 _ _ t380 t395 t396 _ ?side1 ?side2 A9.out).mono ?_); (case side1 => exact CW (Kd.R_reads' HO382.out).2.2); (case side2 => exact (Kd.R_reads' HO382.out).2.1); rintro e w16 ⟨v397, rfl, ho0, hb⟩; have n0_ := Aside0.mk (Kd.R_elder' (KR HO382) (Kd.R_base ho0) hb); have n1_ := Aside0.mk (Kd.R_elder' (KR HO386) (Kd.R_base ho0) hb); have n2_ := Aside0.mk (Kd.R_elder' (KR HO390) (Kd.R_base ho0) hb); have n3_ := Aside0.mk (Kd.R_elder' (KR HO394) (Kd.R_base ho0) hb); have n4_ := Aside0.mk (Kd.R_lower (Kd.R_new' (Kd.R_new' (Kd.R_new' (Kd.R_new' ho0 (Kd.R_lt (KR HO382))) (Kd.R_lt (KR HO386))) (Kd.R_lt (KR HO390))) (Kd.R_lt (KR HO394))) (below_size BB)); have n5_ := Aside0.mk (below_step BB hb); clear HO382; clear HO386; clear HO390; clear HO394; clear HB; have HO382 := n0_; have HO386 := n1_; have HO390 := n2_; have HO394 := n3_; have HO398 := n4_; have HB := n5_; clear n0_ n1_ n2_ n3_ n4_ n5_; (try clear hb); (try clear hb2); (try clear hk); (try clear hi); (try clear ho0))))
  (try simp only [Act.put, List.setIfInBounds_toArray, List.set_cons_zero, List.set_cons_succ])
  go_cut [99] (fun v99 wc => ∃ (kq : Nat) (x99_9 : Bool), v99 = .bool x99_9 ∧ Aside0 (laws_FnSignsOfShares.j0 kq l1 t379 t380 t383 t384 t391 x99_9 = some r) ∧ Aside0 (kq ≤ k) ∧ Aside0 (Kd.R (Kd.int .i64) 3 wc w.heap.size (fun k_ => some k_ ≠ (v385 : Value).ownBlock ∧ some k_ ≠ (v393 : Value).ownBlock) (.slice Ao12 t380.length co12) t380) ∧ Aside0 (Kd.R (Kd.int .i64) 3 wc w.heap.size (fun k_ => some k_ ≠ ((.slice Ao12 t380.length co12) : Value).ownBlock ∧ some k_ ≠ (v393 : Value).ownBlock) v385 t383) ∧ Aside0 (Kd.R (Kd.int .i64) 3 wc w.heap.size (fun k_ => some k_ ≠ ((.slice Ao12 t380.length co12) : Value).ownBlock ∧ some k_ ≠ (v385 : Value).ownBlock) v393 t391) ∧ Aside0 (Below w.heap.size w wc))
  case first => as_aux_lemma =>
   have H := HC10.out
   clear HC10
   by_cases c17 : (t384 != t388) = true
   ·rw [if_pos c17] at H
    cases H
   ·rw [if_neg c17] at H
    have c17b0 : (t384 != t388) = false := by simpa using c17
    (try (have c17b1 : decide (t384 = t388) = true := by simpa using c17))
    (try (have c17b2 : (t384 == t388) = true := by simpa using c17))
    clear c17
    (first | rw [c17b0] | (simp only [i64_w, i32_w]; rw [c17b0]) | skip)
    obtain ⟨t399, A180, H⟩ := Option.bind_eq_some_iff.mp H
    have A18 := Aside0.mk A180
    clear A180
    by_cases c19 : t399 = true
    ·subst c19
     replace H := IP H
     by_cases c20 : (t392 != t396) = true
     ·rw [if_pos c20] at H
      cases H
     ·rw [if_neg c20] at H
      have c20b0 : (t392 != t396) = false := by simpa using c20
      (try (have c20b1 : decide (t392 = t396) = true := by simpa using c20))
      (try (have c20b2 : (t392 == t396) = true := by simpa using c20))
      clear c20
      obtain ⟨t400, A210, H⟩ := Option.bind_eq_some_iff.mp H
      have A21 := Aside0.mk A210
      clear A210
      by_cases c22 : t400 = true
      ·subst c22
       replace H := IP H
       have H' := Aside0.mk H
       clear H
       obtain ⟨Ao23, co23, eo23⟩ := Kd.R_slice HO386.out
       subst eo23
       obtain ⟨Ao24, co24, eo24⟩ := Kd.R_slice HO390.out
       subst eo24
       go_wp2_with (first | (go_at_call 11; (with_reducible refine (laws_zSame.calls k _ _ t383 _ _ t387 true _ ?side1 ?side2 ?side3 ?side4 A18.out).mono ?_); (case side1 => exact CW (Kd.R_reads' HO386.out).2.2); (case side2 => exact (Kd.R_reads' HO386.out).2.1); (case side3 => exact CW (Kd.R_reads' HO390.out).2.2); (case side4 => exact (Kd.R_reads' HO390.out).2.1); rintro e w' ⟨rfl, ⟨nd, rfl⟩⟩; (first | exact ⟨rfl, _, World.drewN_drewN _ _ _⟩ | exact ⟨rfl, _, Eq.trans (World.drewN_drewN _ _ _) (congrArg (World.drewN _) (Nat.add_assoc _ _ _))⟩)) | (go_at_call 11; (with_reducible refine (laws_zSame.calls k _ _ t383 _ _ t387 true _ ?side1 ?side2 ?side3 ?side4 A18.out).mono ?_); (case side1 => exact CW (Kd.R_reads' HO386.out).2.2); (case side2 => exact (Kd.R_reads' HO386.out).2.1); (case side3 => exact CW (Kd.R_reads' HO390.out).2.2); (case side4 => exact (Kd.R_reads' HO390.out).2.1); rintro e w' ⟨rfl, ⟨nd, rfl⟩⟩; obtain ⟨Ao25, co25, eo25⟩ := Kd.R_slice HO394.out; subst eo25; obtain ⟨Ao26, co26, eo26⟩ := Kd.R_slice HO398.out; subst eo26) | (go_at_call 11; (with_reducible refine (laws_zSame.calls k _ _ t391 _ _ t395 true _ ?side1 ?side2 ?side3 ?side4 A21.out).mono ?_); (case side1 => exact CW (Kd.R_reads' HO394.out).2.2); (case side2 => exact (Kd.R_reads' HO394.out).2.1); (case side3 => exact CW (Kd.R_reads' HO398.out).2.2); (case side4 => exact (Kd.R_reads' HO398.out).2.1); rintro e w' ⟨rfl, ⟨nd, rfl⟩⟩; (try first | exact ⟨rfl, _, World.drewN_drewN _ _ _⟩ | exact ⟨rfl, _, Eq.trans (World.drewN_drewN _ _ _) (congrArg (World.drewN _) (Nat.add_assoc _ _ _))⟩)))
       repeat (go_quiet (first | (go_at_call 11; (with_reducible refine (laws_zSame.calls k _ _ t383 _ _ t387 true _ ?side1 ?side2 ?side3 ?side4 A18.out).mono ?_); (case side1 => exact CW (Kd.R_reads' HO386.out).2.2); (case side2 => exact (Kd.R_reads' HO386.out).2.1); (case side3 => exact CW (Kd.R_reads' HO390.out).2.2); (case side4 => exact (Kd.R_reads' HO390.out).2.1); rintro e w' ⟨rfl, ⟨nd, rfl⟩⟩; (first | exact ⟨rfl, _, World.drewN_drewN _ _ _⟩ | exact ⟨rfl, _, Eq.trans (World.drewN_drewN _ _ _) (congrArg (World.drewN _) (Nat.add_assoc _ _ _))⟩)) | (go_at_call 11; (with_reducible refine (laws_zSame.calls k _ _ t383 _ _ t387 true _ ?side1 ?side2 ?side3 ?side4 A18.out).mono ?_); (case side1 => exact CW (Kd.R_reads' HO386.out).2.2); (case side2 => exact (Kd.R_reads' HO386.out).2.1); (case side3 => exact CW (Kd.R_reads' HO390.out).2.2); (case side4 => exact (Kd.R_reads' HO390.out).2.1); rintro e w' ⟨rfl, ⟨nd, rfl⟩⟩; obtain ⟨Ao25, co25, eo25⟩ := Kd.R_slice HO394.out; subst eo25; obtain ⟨Ao26, co26, eo26⟩ := Kd.R_slice HO398.out; subst eo26) | (go_at_call 11; (with_reducible refine (laws_zSame.calls k _ _ t391 _ _ t395 true _ ?side1 ?side2 ?side3 ?side4 A21.out).mono ?_); (case side1 => exact CW (Kd.R_reads' HO394.out).2.2); (case side2 => exact (Kd.R_reads' HO394.out).2.1); (case side3 => exact CW (Kd.R_reads' HO398.out).2.2); (case side4 => exact (Kd.R_reads' HO398.out).2.1); rintro e w' ⟨rfl, ⟨nd, rfl⟩⟩; (try first | exact ⟨rfl, _, World.drewN_drewN _ _ _⟩ | exact ⟨rfl, _, Eq.trans (World.drewN_drewN _ _ _) (congrArg (World.drewN _) (Nat.add_assoc _ _ _))⟩))); try go_wp2_with (first | (go_at_call 11; (with_reducible refine (laws_zSame.calls k _ _ t383 _ _ t387 true _ ?side1 ?side2 ?side3 ?side4 A18.out).mono ?_); (case side1 => exact CW (Kd.R_reads' HO386.out).2.2); (case side2 => exact (Kd.R_reads' HO386.out).2.1); (case side3 => exact CW (Kd.R_reads' HO390.out).2.2); (case side4 => exact (Kd.R_reads' HO390.out).2.1); rintro e w' ⟨rfl, ⟨nd, rfl⟩⟩; (first | exact ⟨rfl, _, World.drewN_drewN _ _ _⟩ | exact ⟨rfl, _, Eq.trans (World.drewN_drewN _ _ _) (congrArg (World.drewN _) (Nat.add_assoc _ _ _))⟩)) | (go_at_call 11; (with_reducible refine (laws_zSame.calls k _ _ t383 _ _ t387 true _ ?side1 ?side2 ?side3 ?side4 A18.out).mono ?_); (case side1 => exact CW (Kd.R_reads' HO386.out).2.2); (case side2 => exact (Kd.R_reads' HO386.out).2.1); (case side3 => exact CW (Kd.R_reads' HO390.out).2.2); (case side4 => exact (Kd.R_reads' HO390.out).2.1); rintro e w' ⟨rfl, ⟨nd, rfl⟩⟩; obtain ⟨Ao25, co25, eo25⟩ := Kd.R_slice HO394.out; subst eo25; obtain ⟨Ao26, co26, eo26⟩ := Kd.R_slice HO398.out; subst eo26) | (go_at_call 11; (with_reducible refine (laws_zSame.calls k _ _ t391 _ _ t395 true _ ?side1 ?side2 ?side3 ?side4 A21.out).mono ?_); (case side1 => exact CW (Kd.R_reads' HO394.out).2.2); (case side2 => exact (Kd.R_reads' HO394.out).2.1); (case side3 => exact CW (Kd.R_reads' HO398.out).2.2); (case side4 => exact (Kd.R_reads' HO398.out).2.1); rintro e w' ⟨rfl, ⟨nd, rfl⟩⟩; (try first | exact ⟨rfl, _, World.drewN_drewN _ _ _⟩ | exact ⟨rfl, _, Eq.trans (World.drewN_drewN _ _ _) (congrArg (World.drewN _) (Nat.add_assoc _ _ _))⟩))))
       go_meet
       case rel => exact ⟨_, ((t392 != t384)), RF, H', ⟨by first | omega | exact Nat.le_refl _⟩, ⟨by (with_reducible repeat (first | apply Kd.R_alloc | apply Kd.R_drewN | apply Kd.R_drew)); exact Kd.R_mono HO382.out (fun _ hk => ⟨hk.1.1.1.2, hk.1.2⟩)⟩, ⟨by (with_reducible repeat (first | apply Kd.R_alloc | apply Kd.R_drewN | apply Kd.R_drew)); exact Kd.R_mono HO386.out (fun _ hk => ⟨hk.1.1.1.2, hk.1.2⟩)⟩, ⟨by (with_reducible repeat (first | apply Kd.R_alloc | apply Kd.R_drewN | apply Kd.R_drew)); exact Kd.R_mono HO394.out (fun _ hk => ⟨hk.1.1.1.2, hk.1.1.2⟩)⟩, ⟨BB⟩⟩
      ·replace c22 := Bool.eq_false_iff.mpr c22
       subst c22
       replace H := IN H
       cases H
    ·replace c19 := Bool.eq_false_iff.mpr c19
     subst c19
     replace H := IN H
     cases H
  case rest => as_aux_lemma =>
   clear HC10
   try clear c1
   try clear c2
   try clear p2
   try clear c3
   try clear c4
   try clear p6
   try clear c17
   try clear c17b0
   try clear c17b1
   try clear c17b2
   try clear c19
   try clear c20
   try clear c20b0
   try clear c20b1
   try clear c20b2
   try clear c22
   obtain ⟨kq, x99_9, rfl, HA, HJ9, HO_6, HO_7, HO_11, HB⟩ := hcut
   cases kq with
   | zero => exact absurd HA.out (by simp [laws_FnSignsOfShares.j0])
   | succ kj9 =>
    have H := HA.out
    clear HA
    simp only [laws_FnSignsOfShares.j0] at H
    by_cases c27 : x99_9 = true
    ·subst c27
     replace H := IP H
     cases H
    ·replace c27 := Bool.eq_false_iff.mpr c27
     subst c27
     replace H := IN H
     have HC28 := Aside0.mk H
     clear H
     go_upto_if 100 with (fail)
     repeat (go_quiet (fail); go_upto_if 100 with (fail))
     go_cut [] (fun wc => ∃ (kq : Nat), Aside0 (laws_FnSignsOfShares.j4 kq l1 = some r) ∧ Aside0 (kq ≤ kj9) ∧ Aside0 (Below w.heap.size w wc))
     case first => as_aux_lemma =>
      have H := HC28.out
      clear HC28
      by_cases c29 : t384 = true
      ·subst c29
       replace H := IP H
       obtain ⟨⟨t401, t402⟩, A300, H⟩ := Option.bind_eq_some_iff.mp H
       replace H : ((impl_IsFairSplit.f kj9 t379 t380).bind fun bt405 => ((impl_CountsOfBeads.f kj9 t379).bind fun bt407 => (if t402 = true then ((laws_zSame.f kj9 t401 t380).bind fun t411 => (if t411 = true then (if bt405.2 = true then (if bt407.2 = true then (laws_FnSignsOfShares.j1 kj9 l1 t379 t383 t391 bt405.1 bt407.1 ((t383.length : Int) != (t379.size : Int))) else (none)) else (none)) else (none))) else (none)))) = some r := H
       have A30 := Aside0.mk A300
       clear A300
       obtain ⟨⟨t405, t406⟩, A310, H⟩ := Option.bind_eq_some_iff.mp H
       replace H : ((impl_CountsOfBeads.f kj9 t379).bind fun bt407 => (if t402 = true then ((laws_zSame.f kj9 t401 t380).bind fun t411 => (if t411 = true then (if t406 = true then (if bt407.2 = true then (laws_FnSignsOfShares.j1 kj9 l1 t379 t383 t391 t405 bt407.1 ((t383.length : Int) != (t379.size : Int))) else (none)) else (none)) else (none))) else (none))) = some r := H
       have A31 := Aside0.mk A310
       clear A310
       obtain ⟨⟨t407, t408⟩, A320, H⟩ := Option.bind_eq_some_iff.mp H
       replace H : (if t402 = true then ((laws_zSame.f kj9 t401 t380).bind fun t411 => (if t411 = true then (if t406 = true then (if t408 = true then (laws_FnSignsOfShares.j1 kj9 l1 t379 t383 t391 t405 t407 ((t383.length : Int) != (t379.size : Int))) else (none)) else (none)) else (none))) else (none)) = some r := H
       have A32 := Aside0.mk A320
       clear A320
       have HC33 := Aside0.mk H
       clear H
       obtain ⟨Ao34, co34, eo34⟩ := Kd.R_slice HO_7.out
       subst eo34
       go_upto_region 14 with (first | (go_at_call 12; (with_reducible refine (impl_CutsOfSigns.calls kj9 t379 _ _ t383 t401 t402 _ ?side1 ?side2 A30.out).mono ?_); (case side1 => exact CW (Kd.R_reads' HO_7.out).2.2); (case side2 => exact (Kd.R_reads' HO_7.out).2.1); rintro e w35 ⟨v403, rfl, ho0, hb⟩; have n0_ := Aside0.mk (Kd.R_elder' (KR HO_6) (Kd.R_base ho0) hb); have n1_ := Aside0.mk (Kd.R_elder' (KR HO_7) (Kd.R_base ho0) hb); have n2_ := Aside0.mk (Kd.R_elder' (KR HO_11) (Kd.R_base ho0) hb); have n3_ := Aside0.mk (Kd.R_lower (Kd.R_new' (Kd.R_new' (Kd.R_new' ho0 (Kd.R_lt (KR HO_6))) (Kd.R_lt (KR HO_7))) (Kd.R_lt (KR HO_11))) (below_size BB)); have n4_ := Aside0.mk (below_step BB hb); clear HO_6; clear HO_7; clear HO_11; clear HB; have HO_6 := n0_; have HO_7 := n1_; have HO_11 := n2_; have HO404 := n3_; have HB := n4_; clear n0_ n1_ n2_ n3_ n4_; (try clear hb); (try clear hb2); (try clear hk); (try clear hi); (try clear ho0)) | (go_at_call 13; (with_reducible refine (impl_IsFairSplit.calls kj9 t379 _ _ t380 t405 t406 _ ?side1 ?side2 A31.out).mono ?_); (case side1 => exact CW (Kd.R_reads' HO_6.out).2.2); (case side2 => exact (Kd.R_reads' HO_6.out).2.1); rintro e w36 ⟨rfl, hb⟩; have n0_ := Aside0.mk (Kd.R_below (KR HO_6) hb); have n1_ := Aside0.mk (Kd.R_below (KR HO_7) hb); have n2_ := Aside0.mk (Kd.R_below (KR HO_11) hb); have n3_ := Aside0.mk (Kd.R_below (KR HO404) hb); have n4_ := Aside0.mk (below_step BB hb); clear HO_6; clear HO_7; clear HO_11; clear HO404; clear HB; have HO_6 := n0_; have HO_7 := n1_; have HO_11 := n2_; have HO404 := n3_; have HB := n4_; clear n0_ n1_ n2_ n3_ n4_; (try clear hb); (try clear hb2); (try clear hk); (try clear hi)) | (go_at_call 14; (with_reducible refine (impl_CountsOfBeads.calls kj9 t379 t407 t408 _ A32.out).mono ?_); rintro e w37 ⟨v409, rfl, ho0, hb⟩; have n0_ := Aside0.mk (Kd.R_elder' (KR HO_6) (Kd.R_base ho0) hb); have n1_ := Aside0.mk (Kd.R_elder' (KR HO_7) (Kd.R_base ho0) hb); have n2_ := Aside0.mk (Kd.R_elder' (KR HO_11) (Kd.R_base ho0) hb); have n3_ := Aside0.mk (Kd.R_elder' (KR HO404) (Kd.R_base ho0) hb); have n4_ := Aside0.mk (Kd.R_lower (Kd.R_new' (Kd.R_new' (Kd.R_new' (Kd.R_new' ho0 (Kd.R_lt (KR HO_6))) (Kd.R_lt (KR HO_7))) (Kd.R_lt (KR HO_11))) (Kd.R_lt (KR HO404))) (below_size BB)); have n5_ := Aside0.mk (below_step BB hb); clear HO_6; clear HO_7; clear HO_11; clear HO404; clear HB; have HO_6 := n0_; have HO_7 := n1_; have HO_11 := n2_; have HO404 := n3_; have HO410 := n4_; have HB := n5_; clear n0_ n1_ n2_ n3_ n4_ n5_; (try clear hb); (try clear hb2); (try clear hk); (try clear hi); (try clear ho0)))
       repeat (go_quiet (first | (go_at_call 12; (with_reducible refine (impl_CutsOfSigns.calls kj9 t379 _ _ t383 t401 t402 _ ?side1 ?side2 A30.out).mono ?_); (case side1 => exact CW (Kd.R_reads' HO_7.out).2.2); (case side2 => exact (Kd.R_reads' HO_7.out).2.1); rintro e w35 ⟨v403, rfl, ho0, hb⟩; have n0_ := Aside0.mk (Kd.R_elder' (KR HO_6) (Kd.R_base ho0) hb); have n1_ := Aside0.mk (Kd.R_elder' (KR HO_7) (Kd.R_base ho0) hb); have n2_ := Aside0.mk (Kd.R_elder' (KR HO_11) (Kd.R_base ho0) hb); have n3_ := Aside0.mk (Kd.R_lower (Kd.R_new' (Kd.R_new' (Kd.R_new' ho0 (Kd.R_lt (KR HO_6))) (Kd.R_lt (KR HO_7))) (Kd.R_lt (KR HO_11))) (below_size BB)); have n4_ := Aside0.mk (below_step BB hb); clear HO_6; clear HO_7; clear HO_11; clear HB; have HO_6 := n0_; have HO_7 := n1_; have HO_11 := n2_; have HO404 := n3_; have HB := n4_; clear n0_ n1_ n2_ n3_ n4_; (try clear hb); (try clear hb2); (try clear hk); (try clear hi); (try clear ho0)) | (go_at_call 13; (with_reducible refine (impl_IsFairSplit.calls kj9 t379 _ _ t380 t405 t406 _ ?side1 ?side2 A31.out).mono ?_); (case side1 => exact CW (Kd.R_reads' HO_6.out).2.2); (case side2 => exact (Kd.R_reads' HO_6.out).2.1); rintro e w36 ⟨rfl, hb⟩; have n0_ := Aside0.mk (Kd.R_below (KR HO_6) hb); have n1_ := Aside0.mk (Kd.R_below (KR HO_7) hb); have n2_ := Aside0.mk (Kd.R_below (KR HO_11) hb); have n3_ := Aside0.mk (Kd.R_below (KR HO404) hb); have n4_ := Aside0.mk (below_step BB hb); clear HO_6; clear HO_7; clear HO_11; clear HO404; clear HB; have HO_6 := n0_; have HO_7 := n1_; have HO_11 := n2_; have HO404 := n3_; have HB := n4_; clear n0_ n1_ n2_ n3_ n4_; (try clear hb); (try clear hb2); (try clear hk); (try clear hi)) | (go_at_call 14; (with_reducible refine (impl_CountsOfBeads.calls kj9 t379 t407 t408 _ A32.out).mono ?_); rintro e w37 ⟨v409, rfl, ho0, hb⟩; have n0_ := Aside0.mk (Kd.R_elder' (KR HO_6) (Kd.R_base ho0) hb); have n1_ := Aside0.mk (Kd.R_elder' (KR HO_7) (Kd.R_base ho0) hb); have n2_ := Aside0.mk (Kd.R_elder' (KR HO_11) (Kd.R_base ho0) hb); have n3_ := Aside0.mk (Kd.R_elder' (KR HO404) (Kd.R_base ho0) hb); have n4_ := Aside0.mk (Kd.R_lower (Kd.R_new' (Kd.R_new' (Kd.R_new' (Kd.R_new' ho0 (Kd.R_lt (KR HO_6))) (Kd.R_lt (KR HO_7))) (Kd.R_lt (KR HO_11))) (Kd.R_lt (KR HO404))) (below_size BB)); have n5_ := Aside0.mk (below_step BB hb); clear HO_6; clear HO_7; clear HO_11; clear HO404; clear HB; have HO_6 := n0_; have HO_7 := n1_; have HO_11 := n2_; have HO404 := n3_; have HO410 := n4_; have HB := n5_; clear n0_ n1_ n2_ n3_ n4_ n5_; (try clear hb); (try clear hb2); (try clear hk); (try clear hi); (try clear ho0))); go_upto_region 14 with (first | (go_at_call 12; (with_reducible refine (impl_CutsOfSigns.calls kj9 t379 _ _ t383 t401 t402 _ ?side1 ?side2 A30.out).mono ?_); (case side1 => exact CW (Kd.R_reads' HO_7.out).2.2); (case side2 => exact (Kd.R_reads' HO_7.out).2.1); rintro e w35 ⟨v403, rfl, ho0, hb⟩; have n0_ := Aside0.mk (Kd.R_elder' (KR HO_6) (Kd.R_base ho0) hb); have n1_ := Aside0.mk (Kd.R_elder' (KR HO_7) (Kd.R_base ho0) hb); have n2_ := Aside0.mk (Kd.R_elder' (KR HO_11) (Kd.R_base ho0) hb); have n3_ := Aside0.mk (Kd.R_lower (Kd.R_new' (Kd.R_new' (Kd.R_new' ho0 (Kd.R_lt (KR HO_6))) (Kd.R_lt (KR HO_7))) (Kd.R_lt (KR HO_11))) (below_size BB)); have n4_ := Aside0.mk (below_step BB hb); clear HO_6; clear HO_7; clear HO_11; clear HB; have HO_6 := n0_; have HO_7 := n1_; have HO_11 := n2_; have HO404 := n3_; have HB := n4_; clear n0_ n1_ n2_ n3_ n4_; (try clear hb); (try clear hb2); (try clear hk); (try clear hi); (try clear ho0)) | (go_at_call 13; (with_reducible refine (impl_IsFairSplit.calls kj9 t379 _ _ t380 t405 t406 _ ?side1 ?side2 A31.out).mono ?_); (case side1 => exact CW (Kd.R_reads' HO_6.out).2.2); (case side2 => exact (Kd.R_reads' HO_6.out).2.1); rintro e w36 ⟨rfl, hb⟩; have n0_ := Aside0.mk (Kd.R_below (KR HO_6) hb); have n1_ := Aside0.mk (Kd.R_below (KR HO_7) hb); have n2_ := Aside0.mk (Kd.R_below (KR HO_11) hb); have n3_ := Aside0.mk (Kd.R_below (KR HO404) hb); have n4_ := Aside0.mk (below_step BB hb); clear HO_6; clear HO_7; clear HO_11; clear HO404; clear HB; have HO_6 := n0_; have HO_7 := n1_; have HO_11 := n2_; have HO404 := n3_; have HB := n4_; clear n0_ n1_ n2_ n3_ n4_; (try clear hb); (try clear hb2); (try clear hk); (try clear hi)) | (go_at_call 14; (with_reducible refine (impl_CountsOfBeads.calls kj9 t379 t407 t408 _ A32.out).mono ?_); rintro e w37 ⟨v409, rfl, ho0, hb⟩; have n0_ := Aside0.mk (Kd.R_elder' (KR HO_6) (Kd.R_base ho0) hb); have n1_ := Aside0.mk (Kd.R_elder' (KR HO_7) (Kd.R_base ho0) hb); have n2_ := Aside0.mk (Kd.R_elder' (KR HO_11) (Kd.R_base ho0) hb); have n3_ := Aside0.mk (Kd.R_elder' (KR HO404) (Kd.R_base ho0) hb); have n4_ := Aside0.mk (Kd.R_lower (Kd.R_new' (Kd.R_new' (Kd.R_new' (Kd.R_new' ho0 (Kd.R_lt (KR HO_6))) (Kd.R_lt (KR HO_7))) (Kd.R_lt (KR HO_11))) (Kd.R_lt (KR HO404))) (below_size BB)); have n5_ := Aside0.mk (below_step BB hb); clear HO_6; clear HO_7; clear HO_11; clear HO404; clear HB; have HO_6 := n0_; have HO_7 := n1_; have HO_11 := n2_; have HO404 := n3_; have HO410 := n4_; have HB := n5_; clear n0_ n1_ n2_ n3_ n4_ n5_; (try clear hb); (try clear hb2); (try clear hk); (try clear hi); (try clear ho0))))
       (try simp only [Act.put, List.setIfInBounds_toArray, List.set_cons_zero, List.set_cons_succ])
       go_cut [140] (fun v140 wc => ∃ (kq : Nat) (x140_32 : Bool), v140 = .bool x140_32 ∧ Aside0 (laws_FnSignsOfShares.j1 kq l1 t379 t383 t391 t405 t407 x140_32 = some r) ∧ Aside0 (kq ≤ kj9) ∧ Aside0 (Kd.R (Kd.int .i64) 3 wc w.heap.size (fun k_ => some k_ ≠ (v393 : Value).ownBlock ∧ some k_ ≠ (v409 : Value).ownBlock) (.slice Ao34 t383.length co34) t383) ∧ Aside0 (Kd.R (Kd.int .i64) 3 wc w.heap.size (fun k_ => some k_ ≠ ((.slice Ao34 t383.length co34) : Value).ownBlock ∧ some k_ ≠ (v409 : Value).ownBlock) v393 t391) ∧ Aside0 (Kd.R (Kd.int .i64) 3 wc w.heap.size (fun k_ => some k_ ≠ ((.slice Ao34 t383.length co34) : Value).ownBlock ∧ some k_ ≠ (v393 : Value).ownBlock) v409 t407) ∧ Aside0 (Below w.heap.size w wc))
       case first => as_aux_lemma =>
        have H := HC33.out
        clear HC33
        by_cases c38 : t402 = true
        ·subst c38
         replace H := IP H
         obtain ⟨t411, A390, H⟩ := Option.bind_eq_some_iff.mp H
         have A39 := Aside0.mk A390
         clear A390
         by_cases c40 : t411 = true
         ·subst c40
          replace H := IP H
          by_cases c41 : t406 = true
          ·subst c41
           replace H := IP H
           by_cases c42 : t408 = true
           ·subst c42
            replace H := IP H
            have H' := Aside0.mk H
            clear H
            obtain ⟨Ao43, co43, eo43⟩ := Kd.R_slice HO404.out
            subst eo43
            go_wp2_with (first | (go_at_call 11; (with_reducible refine (laws_zSame.calls kj9 _ _ t401 _ _ t380 true _ ?side1 ?side2 ?side3 ?side4 A39.out).mono ?_); (case side1 => exact CW (Kd.R_reads' HO404.out).2.2); (case side2 => exact (Kd.R_reads' HO404.out).2.1); (case side3 => exact CW (Kd.R_reads' HO_6.out).2.2); (case side4 => exact (Kd.R_reads' HO_6.out).2.1); rintro e w' ⟨rfl, ⟨nd, rfl⟩⟩; (try first | exact ⟨rfl, _, World.drewN_drewN _ _ _⟩ | exact ⟨rfl, _, Eq.trans (World.drewN_drewN _ _ _) (congrArg (World.drewN _) (Nat.add_assoc _ _ _))⟩)))
            repeat (go_quiet (first | (go_at_call 11; (with_reducible refine (laws_zSame.calls kj9 _ _ t401 _ _ t380 true _ ?side1 ?side2 ?side3 ?side4 A39.out).mono ?_); (case side1 => exact CW (Kd.R_reads' HO404.out).2.2); (case side2 => exact (Kd.R_reads' HO404.out).2.1); (case side3 => exact CW (Kd.R_reads' HO_6.out).2.2); (case side4 => exact (Kd.R_reads' HO_6.out).2.1); rintro e w' ⟨rfl, ⟨nd, rfl⟩⟩; (try first | exact ⟨rfl, _, World.drewN_drewN _ _ _⟩ | exact ⟨rfl, _, Eq.trans (World.drewN_drewN _ _ _) (congrArg (World.drewN _) (Nat.add_assoc _ _ _))⟩))); try go_wp2_with (first | (go_at_call 11; (with_reducible refine (laws_zSame.calls kj9 _ _ t401 _ _ t380 true _ ?side1 ?side2 ?side3 ?side4 A39.out).mono ?_); (case side1 => exact CW (Kd.R_reads' HO404.out).2.2); (case side2 => exact (Kd.R_reads' HO404.out).2.1); (case side3 => exact CW (Kd.R_reads' HO_6.out).2.2); (case side4 => exact (Kd.R_reads' HO_6.out).2.1); rintro e w' ⟨rfl, ⟨nd, rfl⟩⟩; (try first | exact ⟨rfl, _, World.drewN_drewN _ _ _⟩ | exact ⟨rfl, _, Eq.trans (World.drewN_drewN _ _ _) (congrArg (World.drewN _) (Nat.add_assoc _ _ _))⟩))))
            go_meet
            case rel => exact ⟨_, (((t383.length : Int) != (t379.size : Int))), RF, H', ⟨by have := HJ9.out; first | omega | exact Nat.le_refl _⟩, ⟨by (with_reducible repeat (first | apply Kd.R_alloc | apply Kd.R_drewN | apply Kd.R_drew)); exact Kd.R_mono HO_7.out (fun _ hk => ⟨hk.1.1.2, hk.2⟩)⟩, ⟨by (with_reducible repeat (first | apply Kd.R_alloc | apply Kd.R_drewN | apply Kd.R_drew)); exact Kd.R_mono HO_11.out (fun _ hk => ⟨hk.1.1.2, hk.2⟩)⟩, ⟨by (with_reducible repeat (first | apply Kd.R_alloc | apply Kd.R_drewN | apply Kd.R_drew)); exact Kd.R_mono HO410.out (fun _ hk => ⟨hk.1.1.2, hk.1.2⟩)⟩, ⟨BB⟩⟩
           ·replace c42 := Bool.eq_false_iff.mpr c42
            subst c42
            replace H := IN H
            cases H
          ·replace c41 := Bool.eq_false_iff.mpr c41
           subst c41
           replace H := IN H
           cases H
         ·replace c40 := Bool.eq_false_iff.mpr c40
          subst c40
          replace H := IN H
          cases H
        ·replace c38 := Bool.eq_false_iff.mpr c38
         subst c38
         replace H := IN H
         cases H
       case rest => as_aux_lemma =>
        clear HC33
        try clear c1
        try clear c2
        try clear p2
        try clear c3
        try clear c4
        try clear p6
        try clear c17
        try clear c17b0
        try clear c17b1
        try clear c17b2
        try clear c19
        try clear c20
        try clear c20b0
        try clear c20b1
        try clear c20b2
        try clear c22
        try clear c27
        try clear c29
        try clear c38
        try clear c40
        try clear c41
        try clear c42
        try clear p2
        try clear p6
        obtain ⟨kq, x140_32, rfl, HA, HJ32, HO_7, HO_11, HO_19, HB⟩ := hcut
        cases kq with
        | zero => exact absurd HA.out (by simp [laws_FnSignsOfShares.j1])
        | succ kj32 =>
         have H := HA.out
         clear HA
         simp only [laws_FnSignsOfShares.j1] at H
         by_cases c44 : x140_32 = true
         ·subst c44
          replace H := IP H
          cases H
         ·replace c44 := Bool.eq_false_iff.mpr c44
          subst c44
          replace H := IN H
          by_cases c45 : 4 ≤ 35184372088832
          ·rw [if_pos c45] at H
           have c45b0 := eq_true c45
           have c45b1 : decide (4 ≤ 35184372088832) = true := decide_eq_true c45
           clear c45
           obtain ⟨y412, hy412⟩ : ∃ y_ : List Int, y_ = (List.replicate 4 0) := ⟨_, rfl⟩
           replace H : (laws_FnSignsOfShares.l0 kj32 l1 t379 t391 t405 t407 y412 (List.replicate 4 0) t383 (t383.length : Int) 0) = some r := HY H hy412
           have Ny412 := Aside0.mk hy412
           clear hy412
           obtain ⟨y415, hy415⟩ : ∃ y_ : List Int, y_ = (List.replicate 4 0) := ⟨_, rfl⟩
           replace H : (laws_FnSignsOfShares.l0 kj32 l1 t379 t391 t405 t407 y412 y415 t383 (t383.length : Int) 0) = some r := HY H hy415
           have Ny415 := Aside0.mk hy415
           clear hy415
           have H' := Aside0.mk H
           clear H
           go_wp2_with (first | ((with_reducible refine gate_dst (N := 141) rfl ?_); (try (refine gate_guard (by rfl) ?_; dsimp only)); refine Kd.R_make (Kd.int .i64) _ 3 rfl (N := 141) rfl 24 _ _ rfl 4 rfl rfl Tryd.underlying24 (.int .i64 0) 8 info3 rfl (by decide) (by omega) 0 (ok := fun _ => True) (okp := fun _ => True) rfl (fun _ hk => hk) trivial (by omega) (by omega) (Below.refl _ _) (Nat.le_refl _) ?_; intro v413 w46 ho47 hb hg_ hnew_; clear hg_ hnew_; (first | rw [← Ny412.out] at ho47 | (simp only [Int.reduceToNat] at ho47; rw [← Ny412.out] at ho47)); have n0_ := Aside0.mk (Kd.R_elder' (KR HO_7) (Kd.R_base ho47) hb); have n1_ := Aside0.mk (Kd.R_elder' (KR HO_11) (Kd.R_base ho47) hb); have n2_ := Aside0.mk (Kd.R_elder' (KR HO_19) (Kd.R_base ho47) hb); have n3_ := Aside0.mk (Kd.R_lower (Kd.R_new' (Kd.R_new' (Kd.R_new' ho47 (Kd.R_lt (KR HO_7))) (Kd.R_lt (KR HO_11))) (Kd.R_lt (KR HO_19))) (below_size BB)); have n4_ := Aside0.mk (below_step BB hb); clear HO_7; clear HO_11; clear HO_19; clear HB; have HO_7 := n0_; have HO_11 := n1_; have HO_19 := n2_; have HO414 := n3_; have HB := n4_; clear n0_ n1_ n2_ n3_ n4_; clear hb ho47) | ((with_reducible refine gate_dst (N := 142) rfl ?_); (try (refine gate_guard (by rfl) ?_; dsimp only)); refine Kd.R_make (Kd.int .i64) _ 3 rfl (N := 142) rfl 24 _ _ rfl 4 rfl rfl Tryd.underlying24 (.int .i64 0) 8 info3 rfl (by decide) (by omega) 0 (ok := fun _ => True) (okp := fun _ => True) rfl (fun _ hk => hk) trivial (by omega) (by omega) (Below.refl _ _) (Nat.le_refl _) ?_; intro v416 w48 ho49 hb hg_ hnew_; clear hg_ hnew_; (first | rw [← Ny415.out] at ho49 | (simp only [Int.reduceToNat] at ho49; rw [← Ny415.out] at ho49)); have n0_ := Aside0.mk (Kd.R_elder' (KR HO_7) (Kd.R_base ho49) hb); have n1_ := Aside0.mk (Kd.R_elder' (KR HO_11) (Kd.R_base ho49) hb); have n2_ := Aside0.mk (Kd.R_elder' (KR HO_19) (Kd.R_base ho49) hb); have n3_ := Aside0.mk (Kd.R_elder' (KR HO414) (Kd.R_base ho49) hb); have n4_ := Aside0.mk (Kd.R_lower (Kd.R_new' (Kd.R_new' (Kd.R_new' (Kd.R_new' ho49 (Kd.R_lt (KR HO_7))) (Kd.R_lt (KR HO_11))) (Kd.R_lt (KR HO_19))) (Kd.R_lt (KR HO414))) (below_size BB)); have n5_ := Aside0.mk (below_step BB hb); clear HO_7; clear HO_11; clear HO_19; clear HO414; clear HB; have HO_7 := n0_; have HO_11 := n1_; have HO_19 := n2_; have HO414 := n3_; have HO417 := n4_; have HB := n5_; clear n0_ n1_ n2_ n3_ n4_ n5_; clear hb ho49))
           repeat (go_quiet (first | ((with_reducible refine gate_dst (N := 141) rfl ?_); (try (refine gate_guard (by rfl) ?_; dsimp only)); refine Kd.R_make (Kd.int .i64) _ 3 rfl (N := 141) rfl 24 _ _ rfl 4 rfl rfl Tryd.underlying24 (.int .i64 0) 8 info3 rfl (by decide) (by omega) 0 (ok := fun _ => True) (okp := fun _ => True) rfl (fun _ hk => hk) trivial (by omega) (by omega) (Below.refl _ _) (Nat.le_refl _) ?_; intro v413 w46 ho47 hb hg_ hnew_; clear hg_ hnew_; (first | rw [← Ny412.out] at ho47 | (simp only [Int.reduceToNat] at ho47; rw [← Ny412.out] at ho47)); have n0_ := Aside0.mk (Kd.R_elder' (KR HO_7) (Kd.R_base ho47) hb); have n1_ := Aside0.mk (Kd.R_elder' (KR HO_11) (Kd.R_base ho47) hb); have n2_ := Aside0.mk (Kd.R_elder' (KR HO_19) (Kd.R_base ho47) hb); have n3_ := Aside0.mk (Kd.R_lower (Kd.R_new' (Kd.R_new' (Kd.R_new' ho47 (Kd.R_lt (KR HO_7))) (Kd.R_lt (KR HO_11))) (Kd.R_lt (KR HO_19))) (below_size BB)); have n4_ := Aside0.mk (below_step BB hb); clear HO_7; clear HO_11; clear HO_19; clear HB; have HO_7 := n0_; have HO_11 := n1_; have HO_19 := n2_; have HO414 := n3_; have HB := n4_; clear n0_ n1_ n2_ n3_ n4_; clear hb ho47) | ((with_reducible refine gate_dst (N := 142) rfl ?_); (try (refine gate_guard (by rfl) ?_; dsimp only)); refine Kd.R_make (Kd.int .i64) _ 3 rfl (N := 142) rfl 24 _ _ rfl 4 rfl rfl Tryd.underlying24 (.int .i64 0) 8 info3 rfl (by decide) (by omega) 0 (ok := fun _ => True) (okp := fun _ => True) rfl (fun _ hk => hk) trivial (by omega) (by omega) (Below.refl _ _) (Nat.le_refl _) ?_; intro v416 w48 ho49 hb hg_ hnew_; clear hg_ hnew_; (first | rw [← Ny415.out] at ho49 | (simp only [Int.reduceToNat] at ho49; rw [← Ny415.out] at ho49)); have n0_ := Aside0.mk (Kd.R_elder' (KR HO_7) (Kd.R_base ho49) hb); have n1_ := Aside0.mk (Kd.R_elder' (KR HO_11) (Kd.R_base ho49) hb); have n2_ := Aside0.mk (Kd.R_elder' (KR HO_19) (Kd.R_base ho49) hb); have n3_ := Aside0.mk (Kd.R_elder' (KR HO414) (Kd.R_base ho49) hb); have n4_ := Aside0.mk (Kd.R_lower (Kd.R_new' (Kd.R_new' (Kd.R_new' (Kd.R_new' ho49 (Kd.R_lt (KR HO_7))) (Kd.R_lt (KR HO_11))) (Kd.R_lt (KR HO_19))) (Kd.R_lt (KR HO414))) (below_size BB)); have n5_ := Aside0.mk (below_step BB hb); clear HO_7; clear HO_11; clear HO_19; clear HO414; clear HB; have HO_7 := n0_; have HO_11 := n1_; have HO_19 := n2_; have HO414 := n3_; have HO417 := n4_; have HB := n5_; clear n0_ n1_ n2_ n3_ n4_ n5_; clear hb ho49)); try go_wp2_with (first | ((with_reducible refine gate_dst (N := 141) rfl ?_); (try (refine gate_guard (by rfl) ?_; dsimp only)); refine Kd.R_make (Kd.int .i64) _ 3 rfl (N := 141) rfl 24 _ _ rfl 4 rfl rfl Tryd.underlying24 (.int .i64 0) 8 info3 rfl (by decide) (by omega) 0 (ok := fun _ => True) (okp := fun _ => True) rfl (fun _ hk => hk) trivial (by omega) (by omega) (Below.refl _ _) (Nat.le_refl _) ?_; intro v413 w46 ho47 hb hg_ hnew_; clear hg_ hnew_; (first | rw [← Ny412.out] at ho47 | (simp only [Int.reduceToNat] at ho47; rw [← Ny412.out] at ho47)); have n0_ := Aside0.mk (Kd.R_elder' (KR HO_7) (Kd.R_base ho47) hb); have n1_ := Aside0.mk (Kd.R_elder' (KR HO_11) (Kd.R_base ho47) hb); have n2_ := Aside0.mk (Kd.R_elder' (KR HO_19) (Kd.R_base ho47) hb); have n3_ := Aside0.mk (Kd.R_lower (Kd.R_new' (Kd.R_new' (Kd.R_new' ho47 (Kd.R_lt (KR HO_7))) (Kd.R_lt (KR HO_11))) (Kd.R_lt (KR HO_19))) (below_size BB)); have n4_ := Aside0.mk (below_step BB hb); clear HO_7; clear HO_11; clear HO_19; clear HB; have HO_7 := n0_; have HO_11 := n1_; have HO_19 := n2_; have HO414 := n3_; have HB := n4_; clear n0_ n1_ n2_ n3_ n4_; clear hb ho47) | ((with_reducible refine gate_dst (N := 142) rfl ?_); (try (refine gate_guard (by rfl) ?_; dsimp only)); refine Kd.R_make (Kd.int .i64) _ 3 rfl (N := 142) rfl 24 _ _ rfl 4 rfl rfl Tryd.underlying24 (.int .i64 0) 8 info3 rfl (by decide) (by omega) 0 (ok := fun _ => True) (okp := fun _ => True) rfl (fun _ hk => hk) trivial (by omega) (by omega) (Below.refl _ _) (Nat.le_refl _) ?_; intro v416 w48 ho49 hb hg_ hnew_; clear hg_ hnew_; (first | rw [← Ny415.out] at ho49 | (simp only [Int.reduceToNat] at ho49; rw [← Ny415.out] at ho49)); have n0_ := Aside0.mk (Kd.R_elder' (KR HO_7) (Kd.R_base ho49) hb); have n1_ := Aside0.mk (Kd.R_elder' (KR HO_11) (Kd.R_base ho49) hb); have n2_ := Aside0.mk (Kd.R_elder' (KR HO_19) (Kd.R_base ho49) hb); have n3_ := Aside0.mk (Kd.R_elder' (KR HO414) (Kd.R_base ho49) hb); have n4_ := Aside0.mk (Kd.R_lower (Kd.R_new' (Kd.R_new' (Kd.R_new' (Kd.R_new' ho49 (Kd.R_lt (KR HO_7))) (Kd.R_lt (KR HO_11))) (Kd.R_lt (KR HO_19))) (Kd.R_lt (KR HO414))) (below_size BB)); have n5_ := Aside0.mk (below_step BB hb); clear HO_7; clear HO_11; clear HO_19; clear HO414; clear HB; have HO_7 := n0_; have HO_11 := n1_; have HO_19 := n2_; have HO414 := n3_; have HO417 := n4_; have HB := n5_; clear n0_ n1_ n2_ n3_ n4_ n5_; clear hb ho49)))
           go_loopg [145] kj32 (fun kq v145 w' => ∃ (x21_3 : List Int) (x22_3 : List Int) (x145_3 : Int), v145 = .int .i64 x145_3 ∧ Aside0 (laws_FnSignsOfShares.l0 kq l1 t379 t391 t405 t407 x21_3 x22_3 t383 (t383.length : Int) x145_3 = some r) ∧ Aside0 (kq ≤ kj32) ∧ Aside0 (Kd.R (Kd.int .i64) 3 w' w.heap.size (fun k_ => some k_ ≠ (v409 : Value).ownBlock ∧ some k_ ≠ (v413 : Value).ownBlock ∧ some k_ ≠ (v416 : Value).ownBlock ∧ some k_ ≠ ((.slice Ao34 t383.length co34) : Value).ownBlock) v393 t391) ∧ Aside0 (Kd.R (Kd.int .i64) 3 w' w.heap.size (fun k_ => some k_ ≠ (v393 : Value).ownBlock ∧ some k_ ≠ (v413 : Value).ownBlock ∧ some k_ ≠ (v416 : Value).ownBlock ∧ some k_ ≠ ((.slice Ao34 t383.length co34) : Value).ownBlock) v409 t407) ∧ Aside0 (Kd.R (Kd.int .i64) 3 w' w.heap.size (fun k_ => some k_ ≠ (v393 : Value).ownBlock ∧ some k_ ≠ (v409 : Value).ownBlock ∧ some k_ ≠ (v416 : Value).ownBlock ∧ some k_ ≠ ((.slice Ao34 t383.length co34) : Value).ownBlock) v413 x21_3) ∧ Aside0 (Kd.R (Kd.int .i64) 3 w' w.heap.size (fun k_ => some k_ ≠ (v393 : Value).ownBlock ∧ some k_ ≠ (v409 : Value).ownBlock ∧ some k_ ≠ (v413 : Value).ownBlock ∧ some k_ ≠ ((.slice Ao34 t383.length co34) : Value).ownBlock) v416 x22_3) ∧ Aside0 (Kd.R (Kd.int .i64) 3 w' w.heap.size (fun k_ => some k_ ≠ (v393 : Value).ownBlock ∧ some k_ ≠ (v409 : Value).ownBlock ∧ some k_ ≠ (v413 : Value).ownBlock ∧ some k_ ≠ (v416 : Value).ownBlock) (.slice Ao34 t383.length co34) t383) ∧ Aside0 (Below w.heap.size w w'))
           case atStart => exact ⟨(y412), (y415), (0), RF, H', ⟨Nat.le_refl _⟩, ⟨by (with_reducible repeat (first | apply Kd.R_alloc | apply Kd.R_drewN | apply Kd.R_drew)); exact Kd.R_mono HO_11.out (fun _ hk => ⟨hk.1.1.2, ⟨hk.1.2, ⟨hk.2, hk.1.1.1⟩⟩⟩)⟩, ⟨by (with_reducible repeat (first | apply Kd.R_alloc | apply Kd.R_drewN | apply Kd.R_drew)); exact Kd.R_mono HO_19.out (fun _ hk => ⟨hk.1.1.2, ⟨hk.1.2, ⟨hk.2, hk.1.1.1⟩⟩⟩)⟩, ⟨by (with_reducible repeat (first | apply Kd.R_alloc | apply Kd.R_drewN | apply Kd.R_drew)); exact Kd.R_mono HO414.out (fun _ hk => ⟨hk.1.1.2, ⟨hk.1.2, ⟨hk.2, hk.1.1.1.2⟩⟩⟩)⟩, ⟨by (with_reducible repeat (first | apply Kd.R_alloc | apply Kd.R_drewN | apply Kd.R_drew)); exact Kd.R_mono HO417.out (fun _ hk => ⟨hk.1.1.2, ⟨hk.1.2, ⟨hk.2, hk.1.1.1.2⟩⟩⟩)⟩, ⟨by (with_reducible repeat (first | apply Kd.R_alloc | apply Kd.R_drewN | apply Kd.R_drew)); exact Kd.R_mono HO_7.out (fun _ hk => ⟨hk.1.1.1, ⟨hk.1.1.2, ⟨hk.1.2, hk.2⟩⟩⟩)⟩, ⟨BB⟩⟩
           case round => as_aux_lemma =>
            clear H'
            try clear c1
            try clear c2
            try clear p2
            try clear c3
            try clear c4
            try clear p6
            try clear c17
            try clear c17b0
            try clear c17b1
            try clear c17b2
            try clear c19
            try clear c20
            try clear c20b0
            try clear c20b1
            try clear c20b2
            try clear c22
            try clear c27
            try clear c29
            try clear c38
            try clear c40
            try clear c41
            try clear c42
            try clear c44
            try clear c45
            try clear c45b0
            try clear c45b1
            try clear p2
            try clear p6
            obtain ⟨x21_3, x22_3, x145_3, rfl, HA, HK3, HO_11, HO_19, HO_21, HO_22, HO_143, HB⟩ := hrel
            cases gk with
            | zero => exact absurd HA.out (by simp [laws_FnSignsOfShares.l0])
            | succ k3 =>
             have H := HA.out
             clear HA
             simp only [laws_FnSignsOfShares.l0] at H
             by_cases c50 : x145_3 < (t383.length : Int)
             ·rw [if_pos c50] at H
              have c50b0 : decide (x145_3 < (t383.length : Int)) = true := decide_eq_true c50
              clear c50
              by_cases c51 : 0 ≤ x145_3
              ·rw [if_pos c51] at H
               have c51b0 : decide (0 ≤ x145_3) = true := decide_eq_true c51
               clear c51
               by_cases c52 : x145_3 < (t383.length : Int)
               ·rw [if_pos c52] at H
                have c52b0 : decide (x145_3 < (t383.length : Int)) = true := decide_eq_true c52
                clear c52
                by_cases c53 : x145_3 < (t379.size : Int)
                ·rw [if_pos c53] at H
                 have c53b0 : decide (x145_3 < (t379.size : Int)) = true := decide_eq_true c53
                 clear c53
                 obtain ⟨ji55, hji55⟩ : ∃ j_ : Int, (((bt t379 x145_3) - 97) % 256) = j_ := ⟨_, rfl⟩
                 replace H : (if 0 ≤ (ji55) then (if (ji55) < (x21_3.length : Int) then ((some (x21_3.set ((ji55) : Int).toNat (wrap64 ((rd x21_3 (ji55)) + (rd t383 x145_3))) : List Int)).bind fun y420 => (if (rd t383 x145_3) = 1 then (if (ji55) < (x22_3.length : Int) then (laws_FnSignsOfShares.l0 k3 l1 t379 t391 t405 t407 y420 (x22_3.set ((ji55) : Int).toNat (wrap64 ((rd x22_3 (ji55)) + 1))) t383 (t383.length : Int) (wrap64 (x145_3 + 1))) else (none)) else (laws_FnSignsOfShares.l0 k3 l1 t379 t391 t405 t407 y420 x22_3 t383 (t383.length : Int) (wrap64 (x145_3 + 1))))) else (none)) else (none)) = some r := by first | (rw [hji55] at H; exact H) | (simp only [hji55] at H ⊢; exact H)
                 by_cases c56 : 0 ≤ (ji55)
                 ·rw [if_pos c56] at H
                  have c56b0 : decide (0 ≤ (ji55)) = true := decide_eq_true c56
                  clear c56
                  by_cases c57 : (ji55) < (x21_3.length : Int)
                  ·rw [if_pos c57] at H
                   have c57b0 : decide ((ji55) < (x21_3.length : Int)) = true := decide_eq_true c57
                   clear c57
                   obtain ⟨y420, hy420⟩ : ∃ y_ : List Int, y_ = (x21_3.set ((ji55) : Int).toNat (wrap64 ((rd x21_3 (ji55)) + (rd t383 x145_3)))) := ⟨_, rfl⟩
                   replace H : (if (rd t383 x145_3) = 1 then (if (ji55) < (x22_3.length : Int) then (laws_FnSignsOfShares.l0 k3 l1 t379 t391 t405 t407 y420 (x22_3.set ((ji55) : Int).toNat (wrap64 ((rd x22_3 (ji55)) + 1))) t383 (t383.length : Int) (wrap64 (x145_3 + 1))) else (none)) else (laws_FnSignsOfShares.l0 k3 l1 t379 t391 t405 t407 y420 x22_3 t383 (t383.length : Int) (wrap64 (x145_3 + 1)))) = some r := HY H hy420
                   have Ny420 := Aside0.mk hy420
                   clear hy420
                   by_cases c59 : (rd t383 x145_3) = 1
                   ·rw [if_pos c59] at H
                    have c59b0 : ((rd t383 x145_3) == 1) = true := beq_iff_eq.mpr c59
                    have c59b1 : ((rd t383 x145_3) != 1) = false := bne_eq_false_iff_eq.mpr c59
                    clear c59
                    by_cases c60 : (ji55) < (x22_3.length : Int)
                    ·rw [if_pos c60] at H
                     have c60b0 : decide ((ji55) < (x22_3.length : Int)) = true := decide_eq_true c60
                     clear c60
                     obtain ⟨y422, hy422⟩ : ∃ y_ : List Int, y_ = (x22_3.set ((ji55) : Int).toNat (wrap64 ((rd x22_3 (ji55)) + 1))) := ⟨_, rfl⟩
                     replace H : (laws_FnSignsOfShares.l0 k3 l1 t379 t391 t405 t407 y420 y422 t383 (t383.length : Int) (wrap64 (x145_3 + 1))) = some r := HY H hy422
                     have Ny422 := Aside0.mk hy422
                     clear hy422
                     have H' := Aside0.mk H
                     clear H
                     have p418 : 0 ≤ (x145_3 : Int) := of_decide_eq_true AS
                     have q418 : x145_3 < (t383.length : Int) := of_decide_eq_true AS
                     obtain ⟨ad418, e418, hx418_0⟩ := Kd.at_int (Kd.R_reads' HO_143.out).2.2 x145_3 p418 q418
                     cases e418
                     replace p418 := eq_true p418
                     replace q418 := eq_true q418
                     have p54 : 0 ≤ (x145_3 : Int) := of_decide_eq_true AS
                     have q54 : x145_3 < (t379.size : Int) := of_decide_eq_true AS
                     have hx54 := bt_at t379 x145_3
                     replace p54 := eq_true p54
                     replace q54 := eq_true q54
                     obtain ⟨Ao62, co62, eo62⟩ := Kd.R_slice HO_21.out
                     subst eo62
                     have p419 : 0 ≤ ((ji55) : Int) := of_decide_eq_true AS
                     have q419 : (ji55) < (x21_3.length : Int) := of_decide_eq_true AS
                     obtain ⟨ad419, e419, hx419_0⟩ := Kd.at_int (Kd.R_reads' HO_21.out).2.2 (ji55) p419 q419
                     cases e419
                     replace p419 := eq_true p419
                     replace q419 := eq_true q419
                     have p58 : 0 ≤ ((ji55) : Int) := of_decide_eq_true AS
                     have q58 : ((ji55) : Int) < ((x21_3.length : Int) : Int) := of_decide_eq_true AS
                     obtain ⟨go58, co58, eo58, gb58, gl58, cl58, HG58⟩ := Kd.R_form HO_21.out (by omega)
                     (first | cases eo58 | (injection eo58 with ea_ en_ ec_; (first | subst ea_ | (injection ea_ with ea_; subst ea_)); subst ec_; clear en_))
                     have GB58 := Aside0.mk gb58
                     have GG58 := Aside0.mk HG58
                     clear gb58 gl58 HG58
                     (first | simp only [add_plain] at hx419_0 | skip)
                     obtain ⟨hx58_0, hf58_0⟩ := Kd.R_celln 0 HO_21.out ((ji55) : Int) p58 q58
                     replace p58 := eq_true p58
                     replace q58 := eq_true q58
                     have HP63 := Kd.R_putg HO_21.out ((ji55) : Int) (wrap64 ((rd x21_3 (ji55)) + (rd t383 x145_3)))
                     go_wp2_with (first | ((with_reducible refine gate_store (t := 3) (p := 161) rfl ?_); (try (rw [drewN_self wr]; generalize hq_ : World.drewN wr _ = wr; have n0_ := Aside0.mk (Kd.R_at hq_ HO_11.out); have n1_ := Aside0.mk (Kd.R_at hq_ HO_19.out); have n2_ := Aside0.mk (Kd.R_at hq_ HO_21.out); have n3_ := Aside0.mk (Kd.R_at hq_ HO_22.out); have n4_ := Aside0.mk (Kd.R_at hq_ HO_143.out); have n5_ := Aside0.mk (below_at hq_ HB.out); clear hq_ HO_11 HO_19 HO_21 HO_22 HO_143 HB; have HO_11 := n0_; have HO_19 := n1_; have HO_21 := n2_; have HO_22 := n3_; have HO_143 := n4_; have HB := n5_; clear n0_ n1_ n2_ n3_ n4_ n5_; (try (have HP63 := Kd.R_putg HO_21.out ((ji55) : Int) (wrap64 ((rd x21_3 (ji55)) + (rd t383 x145_3))))))); refine store_event (t := 3) (p := 161) (v := ?vo_w64) (w1 := (wr.setCell ⟨go58, ((ji55) : Int).toNat, none⟩ (.int .i64 (wrap64 ((rd x21_3 (ji55)) + (rd t383 x145_3)))))) ?hg ?ho ?hn ?hr ?_; (case ho => rfl); (case hg => rfl); (case hn => rfl); (case hr => exact GS); intro w64 hw; have hg : wr.grownBy w64 (some go58) := (by rw [hw]; exact HP63.2); have hp_ : Kd.R (Kd.int .i64) 3 w64 w.heap.size (fun k_ => some k_ ≠ (v393 : Value).ownBlock ∧ some k_ ≠ (v409 : Value).ownBlock ∧ some k_ ≠ (v416 : Value).ownBlock ∧ some k_ ≠ (.slice (some ad418) t383.length co34 : Value).ownBlock) (.slice (some ⟨go58, 0, none⟩) x21_3.length co62) y420 := (by rw [hw, Ny420.out]; exact HP63.1); clear HP63; have n0_ := Aside0.mk (Kd.R_after (v := (.slice (some ⟨go58, 0, none⟩) x21_3.length co62)) (v1 := (.slice (some ⟨go58, 0, none⟩) x21_3.length co62)) (ok := (fun k_ => some k_ ≠ (v409 : Value).ownBlock ∧ some k_ ≠ (v416 : Value).ownBlock ∧ some k_ ≠ (.slice (some ad418) t383.length co34 : Value).ownBlock)) (by (with_reducible repeat (first | apply Kd.R_alloc | apply Kd.R_drewN | apply Kd.R_drew)); exact Kd.R_mono HO_11.out (fun _ hk => ⟨⟨hk.1, ⟨hk.2.2.1, hk.2.2.2⟩⟩, hk.2.1⟩)) hg (.inl rfl)); have n1_ := Aside0.mk (Kd.R_after (v := (.slice (some ⟨go58, 0, none⟩) x21_3.length co62)) (v1 := (.slice (some ⟨go58, 0, none⟩) x21_3.length co62)) (ok := (fun k_ => some k_ ≠ (v393 : Value).ownBlock ∧ some k_ ≠ (v416 : Value).ownBlock ∧ some k_ ≠ (.slice (some ad418) t383.length co34 : Value).ownBlock)) (by (with_reducible repeat (first | apply Kd.R_alloc | apply Kd.R_drewN | apply Kd.R_drew)); exact Kd.R_mono HO_19.out (fun _ hk => ⟨⟨hk.1, ⟨hk.2.2.1, hk.2.2.2⟩⟩, hk.2.1⟩)) hg (.inl rfl)); have n2_ := Aside0.mk (hp_); have n3_ := Aside0.mk (Kd.R_after (v := (.slice (some ⟨go58, 0, none⟩) x21_3.length co62)) (v1 := (.slice (some ⟨go58, 0, none⟩) x21_3.length co62)) (ok := (fun k_ => some k_ ≠ (v393 : Value).ownBlock ∧ some k_ ≠ (v409 : Value).ownBlock ∧ some k_ ≠ (.slice (some ad418) t383.length co34 : Value).ownBlock)) (by (with_reducible repeat (first | apply Kd.R_alloc | apply Kd.R_drewN | apply Kd.R_drew)); exact Kd.R_mono HO_22.out (fun _ hk => ⟨⟨hk.1, ⟨hk.2.1, hk.2.2.2⟩⟩, hk.2.2.1⟩)) hg (.inl rfl)); have n4_ := Aside0.mk (Kd.R_after (v := (.slice (some ⟨go58, 0, none⟩) x21_3.length co62)) (v1 := (.slice (some ⟨go58, 0, none⟩) x21_3.length co62)) (ok := (fun k_ => some k_ ≠ (v393 : Value).ownBlock ∧ some k_ ≠ (v409 : Value).ownBlock ∧ some k_ ≠ (v416 : Value).ownBlock)) (by (with_reducible repeat (first | apply Kd.R_alloc | apply Kd.R_drewN | apply Kd.R_drew)); exact Kd.R_mono HO_143.out (fun _ hk => ⟨⟨hk.1, ⟨hk.2.1, hk.2.2.2⟩⟩, hk.2.2.1⟩)) hg (.inl rfl)); have n5_ := Aside0.mk ((by rw [hw]; exact below_set (HB.out) GB58.out : Below w.heap.size w w64)); clear HO_11; clear HO_19; clear HO_21; clear HO_22; clear HO_143; clear HB; have HO_11 := n0_; have HO_19 := n1_; have HO_21 := n2_; have HO_22 := n3_; have HO_143 := n4_; have HB := n5_; clear n0_ n1_ n2_ n3_ n4_ n5_; clear hg hw hp_; obtain ⟨Ao65, co65, eo65⟩ := Kd.R_slice HO_22.out; subst eo65; have p421 : 0 ≤ ((ji55) : Int) := of_decide_eq_true AS; have q421 : (ji55) < (x22_3.length : Int) := of_decide_eq_true AS; obtain ⟨ad421, e421, hx421_0⟩ := Kd.at_int (Kd.R_reads' HO_22.out).2.2 (ji55) p421 q421; cases e421; replace p421 := eq_true p421; replace q421 := eq_true q421; have p61 : 0 ≤ ((ji55) : Int) := of_decide_eq_true AS; have q61 : ((ji55) : Int) < ((x22_3.length : Int) : Int) := of_decide_eq_true AS; obtain ⟨go61, co61, eo61, gb61, gl61, cl61, HG61⟩ := Kd.R_form HO_22.out (by omega); (first | cases eo61 | (injection eo61 with ea_ en_ ec_; (first | subst ea_ | (injection ea_ with ea_; subst ea_)); subst ec_; clear en_)); have GB61 := Aside0.mk gb61; have GG61 := Aside0.mk HG61; clear gb61 gl61 HG61; (first | simp only [add_plain] at hx421_0 | skip); obtain ⟨hx61_0, hf61_0⟩ := Kd.R_celln 0 HO_22.out ((ji55) : Int) p61 q61; replace p61 := eq_true p61; replace q61 := eq_true q61; have n_ := Aside0.mk (Kd.R_mono (ok' := (fun k_ => some k_ ≠ (v393 : Value).ownBlock ∧ some k_ ≠ (v409 : Value).ownBlock ∧ some k_ ≠ (.slice (some ⟨go58, 0, none⟩) x21_3.length co62 : Value).ownBlock ∧ some k_ ≠ (.slice (some ad418) t383.length co34 : Value).ownBlock)) HO_22.out (fun k_ hk => ⟨hk.1.1, ⟨hk.1.2.1, ⟨hk.2, hk.1.2.2⟩⟩⟩)); clear HO_22; have HO_22 := n_; clear n_; obtain ⟨hy66_, hz66_⟩ := Kd.R_celln 0 HO_22.out ((ji55) : Int) (of_decide_eq_true AS) (of_decide_eq_true AS); have HP66 := Kd.R_putg HO_22.out ((ji55) : Int) (wrap64 ((rd x22_3 (ji55)) + 1))) | ((with_reducible refine gate_store (t := 3) (p := 169) rfl ?_); (try (rw [drewN_self w64]; generalize hq_ : World.drewN w64 _ = w64; have n0_ := Aside0.mk (Kd.R_at hq_ HO_11.out); have n1_ := Aside0.mk (Kd.R_at hq_ HO_19.out); have n2_ := Aside0.mk (Kd.R_at hq_ HO_21.out); have n3_ := Aside0.mk (Kd.R_at hq_ HO_22.out); have n4_ := Aside0.mk (Kd.R_at hq_ HO_143.out); have n5_ := Aside0.mk (below_at hq_ HB.out); clear hq_ HO_11 HO_19 HO_21 HO_22 HO_143 HB; have HO_11 := n0_; have HO_19 := n1_; have HO_21 := n2_; have HO_22 := n3_; have HO_143 := n4_; have HB := n5_; clear n0_ n1_ n2_ n3_ n4_ n5_; (try (have n_ := Aside0.mk (Kd.R_mono (ok' := (fun k_ => some k_ ≠ (v393 : Value).ownBlock ∧ some k_ ≠ (v409 : Value).ownBlock ∧ some k_ ≠ (.slice (some ⟨go58, 0, none⟩) x21_3.length co62 : Value).ownBlock ∧ some k_ ≠ (.slice (some ad418) t383.length co34 : Value).ownBlock)) HO_22.out (fun k_ hk => ⟨hk.1.1, ⟨hk.1.2.1, ⟨hk.2, hk.1.2.2⟩⟩⟩)); clear HO_22; have HO_22 := n_; clear n_)); (try (obtain ⟨hy66_, hz66_⟩ := Kd.R_celln 0 HO_22.out ((ji55) : Int) (of_decide_eq_true AS) (of_decide_eq_true AS))); (try (have HP66 := Kd.R_putg HO_22.out ((ji55) : Int) (wrap64 ((rd x22_3 (ji55)) + 1)))))); refine store_event (t := 3) (p := 169) (v := ?vo_w67) (w1 := (w64.setCell ⟨go61, ((ji55) : Int).toNat, none⟩ (.int .i64 (wrap64 ((rd x22_3 (ji55)) + 1))))) ?hg ?ho ?hn ?hr ?_; (case ho => rfl); (case hg => rfl); (case hn => rfl); (case hr => exact GS); intro w67 hw; have hg : w64.grownBy w67 (some go61) := (by rw [hw]; exact HP66.2); have hp_ : Kd.R (Kd.int .i64) 3 w67 w.heap.size (fun k_ => some k_ ≠ (v393 : Value).ownBlock ∧ some k_ ≠ (v409 : Value).ownBlock ∧ some k_ ≠ (.slice (some ⟨go58, 0, none⟩) x21_3.length co62 : Value).ownBlock ∧ some k_ ≠ (.slice (some ad418) t383.length co34 : Value).ownBlock) (.slice (some ⟨go61, 0, none⟩) x22_3.length co65) y422 := (by rw [hw, Ny422.out]; exact HP66.1); clear HP66; have n0_ := Aside0.mk (Kd.R_after (v := (.slice (some ⟨go61, 0, none⟩) x22_3.length co65)) (v1 := (.slice (some ⟨go61, 0, none⟩) x22_3.length co65)) (ok := (fun k_ => some k_ ≠ (v409 : Value).ownBlock ∧ some k_ ≠ (.slice (some ⟨go58, 0, none⟩) x21_3.length co62 : Value).ownBlock ∧ some k_ ≠ (.slice (some ad418) t383.length co34 : Value).ownBlock)) (by (with_reducible repeat (first | apply Kd.R_alloc | apply Kd.R_drewN | apply Kd.R_drew)); exact Kd.R_mono HO_11.out (fun _ hk => ⟨⟨hk.1.1, ⟨hk.2, hk.1.2.2⟩⟩, hk.1.2.1⟩)) hg (.inl rfl)); have n1_ := Aside0.mk (Kd.R_after (v := (.slice (some ⟨go61, 0, none⟩) x22_3.length co65)) (v1 := (.slice (some ⟨go61, 0, none⟩) x22_3.length co65)) (ok := (fun k_ => some k_ ≠ (v393 : Value).ownBlock ∧ some k_ ≠ (.slice (some ⟨go58, 0, none⟩) x21_3.length co62 : Value).ownBlock ∧ some k_ ≠ (.slice (some ad418) t383.length co34 : Value).ownBlock)) (by (with_reducible repeat (first | apply Kd.R_alloc | apply Kd.R_drewN | apply Kd.R_drew)); exact Kd.R_mono HO_19.out (fun _ hk => ⟨⟨hk.1.1, ⟨hk.2, hk.1.2.2⟩⟩, hk.1.2.1⟩)) hg (.inl rfl)); have n2_ := Aside0.mk (Kd.R_after (v := (.slice (some ⟨go61, 0, none⟩) x22_3.length co65)) (v1 := (.slice (some ⟨go61, 0, none⟩) x22_3.length co65)) (ok := (fun k_ => some k_ ≠ (v393 : Value).ownBlock ∧ some k_ ≠ (v409 : Value).ownBlock ∧ some k_ ≠ (.slice (some ad418) t383.length co34 : Value).ownBlock)) (by (with_reducible repeat (first | apply Kd.R_alloc | apply Kd.R_drewN | apply Kd.R_drew)); exact Kd.R_mono HO_21.out (fun _ hk => ⟨⟨hk.1, ⟨hk.2.1, hk.2.2.2⟩⟩, hk.2.2.1⟩)) hg (.inl rfl)); have n3_ := Aside0.mk (hp_); have n4_ := Aside0.mk (Kd.R_after (v := (.slice (some ⟨go61, 0, none⟩) x22_3.length co65)) (v1 := (.slice (some ⟨go61, 0, none⟩) x22_3.length co65)) (ok := (fun k_ => some k_ ≠ (v393 : Value).ownBlock ∧ some k_ ≠ (v409 : Value).ownBlock ∧ some k_ ≠ (.slice (some ⟨go58, 0, none⟩) x21_3.length co62 : Value).ownBlock)) (by (with_reducible repeat (first | apply Kd.R_alloc | apply Kd.R_drewN | apply Kd.R_drew)); exact Kd.R_mono HO_143.out (fun _ hk => ⟨⟨hk.1.1, ⟨hk.1.2.1, hk.2⟩⟩, hk.1.2.2⟩)) hg (.inl rfl)); have n5_ := Aside0.mk ((by rw [hw]; exact below_set (HB.out) GB61.out : Below w.heap.size w w67)); clear HO_11; clear HO_19; clear HO_21; clear HO_22; clear HO_143; clear HB; have HO_11 := n0_; have HO_19 := n1_; have HO_21 := n2_; have HO_22 := n3_; have HO_143 := n4_; have HB := n5_; clear n0_ n1_ n2_ n3_ n4_ n5_; clear hg hw hp_))
                     repeat (go_quiet (first | ((with_reducible refine gate_store (t := 3) (p := 161) rfl ?_); (try (rw [drewN_self wr]; generalize hq_ : World.drewN wr _ = wr; have n0_ := Aside0.mk (Kd.R_at hq_ HO_11.out); have n1_ := Aside0.mk (Kd.R_at hq_ HO_19.out); have n2_ := Aside0.mk (Kd.R_at hq_ HO_21.out); have n3_ := Aside0.mk (Kd.R_at hq_ HO_22.out); have n4_ := Aside0.mk (Kd.R_at hq_ HO_143.out); have n5_ := Aside0.mk (below_at hq_ HB.out); clear hq_ HO_11 HO_19 HO_21 HO_22 HO_143 HB; have HO_11 := n0_; have HO_19 := n1_; have HO_21 := n2_; have HO_22 := n3_; have HO_143 := n4_; have HB := n5_; clear n0_ n1_ n2_ n3_ n4_ n5_; (try (have HP63 := Kd.R_putg HO_21.out ((ji55) : Int) (wrap64 ((rd x21_3 (ji55)) + (rd t383 x145_3))))))); refine store_event (t := 3) (p := 161) (v := ?vo_w64) (w1 := (wr.setCell ⟨go58, ((ji55) : Int).toNat, none⟩ (.int .i64 (wrap64 ((rd x21_3 (ji55)) + (rd t383 x145_3)))))) ?hg ?ho ?hn ?hr ?_; (case ho => rfl); (case hg => rfl); (case hn => rfl); (case hr => exact GS); intro w64 hw; have hg : wr.grownBy w64 (some go58) := (by rw [hw]; exact HP63.2); have hp_ : Kd.R (Kd.int .i64) 3 w64 w.heap.size (fun k_ => some k_ ≠ (v393 : Value).ownBlock ∧ some k_ ≠ (v409 : Value).ownBlock ∧ some k_ ≠ (v416 : Value).ownBlock ∧ some k_ ≠ (.slice (some ad418) t383.length co34 : Value).ownBlock) (.slice (some ⟨go58, 0, none⟩) x21_3.length co62) y420 := (by rw [hw, Ny420.out]; exact HP63.1); clear HP63; have n0_ := Aside0.mk (Kd.R_after (v := (.slice (some ⟨go58, 0, none⟩) x21_3.length co62)) (v1 := (.slice (some ⟨go58, 0, none⟩) x21_3.length co62)) (ok := (fun k_ => some k_ ≠ (v409 : Value).ownBlock ∧ some k_ ≠ (v416 : Value).ownBlock ∧ some k_ ≠ (.slice (some ad418) t383.length co34 : Value).ownBlock)) (by (with_reducible repeat (first | apply Kd.R_alloc | apply Kd.R_drewN | apply Kd.R_drew)); exact Kd.R_mono HO_11.out (fun _ hk => ⟨⟨hk.1, ⟨hk.2.2.1, hk.2.2.2⟩⟩, hk.2.1⟩)) hg (.inl rfl)); have n1_ := Aside0.mk (Kd.R_after (v := (.slice (some ⟨go58, 0, none⟩) x21_3.length co62)) (v1 := (.slice (some ⟨go58, 0, none⟩) x21_3.length co62)) (ok := (fun k_ => some k_ ≠ (v393 : Value).ownBlock ∧ some k_ ≠ (v416 : Value).ownBlock ∧ some k_ ≠ (.slice (some ad418) t383.length co34 : Value).ownBlock)) (by (with_reducible repeat (first | apply Kd.R_alloc | apply Kd.R_drewN | apply Kd.R_drew)); exact Kd.R_mono HO_19.out (fun _ hk => ⟨⟨hk.1, ⟨hk.2.2.1, hk.2.2.2⟩⟩, hk.2.1⟩)) hg (.inl rfl)); have n2_ := Aside0.mk (hp_); have n3_ := Aside0.mk (Kd.R_after (v := (.slice (some ⟨go58, 0, none⟩) x21_3.length co62)) (v1 := (.slice (some ⟨go58, 0, none⟩) x21_3.length co62)) (ok := (fun k_ => some k_ ≠ (v393 : Value).ownBlock ∧ some k_ ≠ (v409 : Value).ownBlock ∧ some k_ ≠ (.slice (some ad418) t383.length co34 : Value).ownBlock)) (by (with_reducible repeat (first | apply Kd.R_alloc | apply Kd.R_drewN | apply Kd.R_drew)); exact Kd.R_mono HO_22.out (fun _ hk => ⟨⟨hk.1, ⟨hk.2.1, hk.2.2.2⟩⟩, hk.2.2.1⟩)) hg (.inl rfl)); have n4_ := Aside0.mk (Kd.R_after (v := (.slice (some ⟨go58, 0, none⟩) x21_3.length co62)) (v1 := (.slice (some ⟨go58, 0, none⟩) x21_3.length co62)) (ok := (fun k_ => some k_ ≠ (v393 : Value).ownBlock ∧ some k_ ≠ (v409 : Value).ownBlock ∧ some k_ ≠ (v416 : Value).ownBlock)) (by (with_reducible repeat (first | apply Kd.R_alloc | apply Kd.R_drewN | apply Kd.R_drew)); exact Kd.R_mono HO_143.out (fun _ hk => ⟨⟨hk.1, ⟨hk.2.1, hk.2.2.2⟩⟩, hk.2.2.1⟩)) hg (.inl rfl)); have n5_ := Aside0.mk ((by rw [hw]; exact below_set (HB.out) GB58.out : Below w.heap.size w w64)); clear HO_11; clear HO_19; clear HO_21; clear HO_22; clear HO_143; clear HB; have HO_11 := n0_; have HO_19 := n1_; have HO_21 := n2_; have HO_22 := n3_; have HO_143 := n4_; have HB := n5_; clear n0_ n1_ n2_ n3_ n4_ n5_; clear hg hw hp_; obtain ⟨Ao65, co65, eo65⟩ := Kd.R_slice HO_22.out; subst eo65; have p421 : 0 ≤ ((ji55) : Int) := of_decide_eq_true AS; have q421 : (ji55) < (x22_3.length : Int) := of_decide_eq_true AS; obtain ⟨ad421, e421, hx421_0⟩ := Kd.at_int (Kd.R_reads' HO_22.out).2.2 (ji55) p421 q421; cases e421; replace p421 := eq_true p421; replace q421 := eq_true q421; have p61 : 0 ≤ ((ji55) : Int) := of_decide_eq_true AS; have q61 : ((ji55) : Int) < ((x22_3.length : Int) : Int) := of_decide_eq_true AS; obtain ⟨go61, co61, eo61, gb61, gl61, cl61, HG61⟩ := Kd.R_form HO_22.out (by omega); (first | cases eo61 | (injection eo61 with ea_ en_ ec_; (first | subst ea_ | (injection ea_ with ea_; subst ea_)); subst ec_; clear en_)); have GB61 := Aside0.mk gb61; have GG61 := Aside0.mk HG61; clear gb61 gl61 HG61; (first | simp only [add_plain] at hx421_0 | skip); obtain ⟨hx61_0, hf61_0⟩ := Kd.R_celln 0 HO_22.out ((ji55) : Int) p61 q61; replace p61 := eq_true p61; replace q61 := eq_true q61; have n_ := Aside0.mk (Kd.R_mono (ok' := (fun k_ => some k_ ≠ (v393 : Value).ownBlock ∧ some k_ ≠ (v409 : Value).ownBlock ∧ some k_ ≠ (.slice (some ⟨go58, 0, none⟩) x21_3.length co62 : Value).ownBlock ∧ some k_ ≠ (.slice (some ad418) t383.length co34 : Value).ownBlock)) HO_22.out (fun k_ hk => ⟨hk.1.1, ⟨hk.1.2.1, ⟨hk.2, hk.1.2.2⟩⟩⟩)); clear HO_22; have HO_22 := n_; clear n_; obtain ⟨hy66_, hz66_⟩ := Kd.R_celln 0 HO_22.out ((ji55) : Int) (of_decide_eq_true AS) (of_decide_eq_true AS); have HP66 := Kd.R_putg HO_22.out ((ji55) : Int) (wrap64 ((rd x22_3 (ji55)) + 1))) | ((with_reducible refine gate_store (t := 3) (p := 169) rfl ?_); (try (rw [drewN_self w64]; generalize hq_ : World.drewN w64 _ = w64; have n0_ := Aside0.mk (Kd.R_at hq_ HO_11.out); have n1_ := Aside0.mk (Kd.R_at hq_ HO_19.out); have n2_ := Aside0.mk (Kd.R_at hq_ HO_21.out); have n3_ := Aside0.mk (Kd.R_at hq_ HO_22.out); have n4_ := Aside0.mk (Kd.R_at hq_ HO_143.out); have n5_ := Aside0.mk (below_at hq_ HB.out); clear hq_ HO_11 HO_19 HO_21 HO_22 HO_143 HB; have HO_11 := n0_; have HO_19 := n1_; have HO_21 := n2_; have HO_22 := n3_; have HO_143 := n4_; have HB := n5_; clear n0_ n1_ n2_ n3_ n4_ n5_; (try (have n_ := Aside0.mk (Kd.R_mono (ok' := (fun k_ => some k_ ≠ (v393 : Value).ownBlock ∧ some k_ ≠ (v409 : Value).ownBlock ∧ some k_ ≠ (.slice (some ⟨go58, 0, none⟩) x21_3.length co62 : Value).ownBlock ∧ some k_ ≠ (.slice (some ad418) t383.length co34 : Value).ownBlock)) HO_22.out (fun k_ hk => ⟨hk.1.1, ⟨hk.1.2.1, ⟨hk.2, hk.1.2.2⟩⟩⟩)); clear HO_22; have HO_22 := n_; clear n_)); (try (obtain ⟨hy66_, hz66_⟩ := Kd.R_celln 0 HO_22.out ((ji55) : Int) (of_decide_eq_true AS) (of_decide_eq_true AS))); (try (have HP66 := Kd.R_putg HO_22.out ((ji55) : Int) (wrap64 ((rd x22_3 (ji55)) + 1)))))); refine store_event (t := 3) (p := 169) (v := ?vo_w67) (w1 := (w64.setCell ⟨go61, ((ji55) : Int).toNat, none⟩ (.int .i64 (wrap64 ((rd x22_3 (ji55)) + 1))))) ?hg ?ho ?hn ?hr ?_; (case ho => rfl); (case hg => rfl); (case hn => rfl); (case hr => exact GS); intro w67 hw; have hg : w64.grownBy w67 (some go61) := (by rw [hw]; exact HP66.2); have hp_ : Kd.R (Kd.int .i64) 3 w67 w.heap.size (fun k_ => some k_ ≠ (v393 : Value).ownBlock ∧ some k_ ≠ (v409 : Value).ownBlock ∧ some k_ ≠ (.slice (some ⟨go58, 0, none⟩) x21_3.length co62 : Value).ownBlock ∧ some k_ ≠ (.slice (some ad418) t383.length co34 : Value).ownBlock) (.slice (some ⟨go61, 0, none⟩) x22_3.length co65) y422 := (by rw [hw, Ny422.out]; exact HP66.1); clear HP66; have n0_ := Aside0.mk (Kd.R_after (v := (.slice (some ⟨go61, 0, none⟩) x22_3.length co65)) (v1 := (.slice (some ⟨go61, 0, none⟩) x22_3.length co65)) (ok := (fun k_ => some k_ ≠ (v409 : Value).ownBlock ∧ some k_ ≠ (.slice (some ⟨go58, 0, none⟩) x21_3.length co62 : Value).ownBlock ∧ some k_ ≠ (.slice (some ad418) t383.length co34 : Value).ownBlock)) (by (with_reducible repeat (first | apply Kd.R_alloc | apply Kd.R_drewN | apply Kd.R_drew)); exact Kd.R_mono HO_11.out (fun _ hk => ⟨⟨hk.1.1, ⟨hk.2, hk.1.2.2⟩⟩, hk.1.2.1⟩)) hg (.inl rfl)); have n1_ := Aside0.mk (Kd.R_after (v := (.slice (some ⟨go61, 0, none⟩) x22_3.length co65)) (v1 := (.slice (some ⟨go61, 0, none⟩) x22_3.length co65)) (ok := (fun k_ => some k_ ≠ (v393 : Value).ownBlock ∧ some k_ ≠ (.slice (some ⟨go58, 0, none⟩) x21_3.length co62 : Value).ownBlock ∧ some k_ ≠ (.slice (some ad418) t383.length co34 : Value).ownBlock)) (by (with_reducible repeat (first | apply Kd.R_alloc | apply Kd.R_drewN | apply Kd.R_drew)); exact Kd.R_mono HO_19.out (fun _ hk => ⟨⟨hk.1.1, ⟨hk.2, hk.1.2.2⟩⟩, hk.1.2.1⟩)) hg (.inl rfl)); have n2_ := Aside0.mk (Kd.R_after (v := (.slice (some ⟨go61, 0, none⟩) x22_3.length co65)) (v1 := (.slice (some ⟨go61, 0, none⟩) x22_3.length co65)) (ok := (fun k_ => some k_ ≠ (v393 : Value).ownBlock ∧ some k_ ≠ (v409 : Value).ownBlock ∧ some k_ ≠ (.slice (some ad418) t383.length co34 : Value).ownBlock)) (by (with_reducible repeat (first | apply Kd.R_alloc | apply Kd.R_drewN | apply Kd.R_drew)); exact Kd.R_mono HO_21.out (fun _ hk => ⟨⟨hk.1, ⟨hk.2.1, hk.2.2.2⟩⟩, hk.2.2.1⟩)) hg (.inl rfl)); have n3_ := Aside0.mk (hp_); have n4_ := Aside0.mk (Kd.R_after (v := (.slice (some ⟨go61, 0, none⟩) x22_3.length co65)) (v1 := (.slice (some ⟨go61, 0, none⟩) x22_3.length co65)) (ok := (fun k_ => some k_ ≠ (v393 : Value).ownBlock ∧ some k_ ≠ (v409 : Value).ownBlock ∧ some k_ ≠ (.slice (some ⟨go58, 0, none⟩) x21_3.length co62 : Value).ownBlock)) (by (with_reducible repeat (first | apply Kd.R_alloc | apply Kd.R_drewN | apply Kd.R_drew)); exact Kd.R_mono HO_143.out (fun _ hk => ⟨⟨hk.1.1, ⟨hk.1.2.1, hk.2⟩⟩, hk.1.2.2⟩)) hg (.inl rfl)); have n5_ := Aside0.mk ((by rw [hw]; exact below_set (HB.out) GB61.out : Below w.heap.size w w67)); clear HO_11; clear HO_19; clear HO_21; clear HO_22; clear HO_143; clear HB; have HO_11 := n0_; have HO_19 := n1_; have HO_21 := n2_; have HO_22 := n3_; have HO_143 := n4_; have HB := n5_; clear n0_ n1_ n2_ n3_ n4_ n5_; clear hg hw hp_)); try go_wp2_with (first | ((with_reducible refine gate_store (t := 3) (p := 161) rfl ?_); (try (rw [drewN_self wr]; generalize hq_ : World.drewN wr _ = wr; have n0_ := Aside0.mk (Kd.R_at hq_ HO_11.out); have n1_ := Aside0.mk (Kd.R_at hq_ HO_19.out); have n2_ := Aside0.mk (Kd.R_at hq_ HO_21.out); have n3_ := Aside0.mk (Kd.R_at hq_ HO_22.out); have n4_ := Aside0.mk (Kd.R_at hq_ HO_143.out); have n5_ := Aside0.mk (below_at hq_ HB.out); clear hq_ HO_11 HO_19 HO_21 HO_22 HO_143 HB; have HO_11 := n0_; have HO_19 := n1_; have HO_21 := n2_; have HO_22 := n3_; have HO_143 := n4_; have HB := n5_; clear n0_ n1_ n2_ n3_ n4_ n5_; (try (have HP63 := Kd.R_putg HO_21.out ((ji55) : Int) (wrap64 ((rd x21_3 (ji55)) + (rd t383 x145_3))))))); refine store_event (t := 3) (p := 161) (v := ?vo_w64) (w1 := (wr.setCell ⟨go58, ((ji55) : Int).toNat, none⟩ (.int .i64 (wrap64 ((rd x21_3 (ji55)) + (rd t383 x145_3)))))) ?hg ?ho ?hn ?hr ?_; (case ho => rfl); (case hg => rfl); (case hn => rfl); (case hr => exact GS); intro w64 hw; have hg : wr.grownBy w64 (some go58) := (by rw [hw]; exact HP63.2); have hp_ : Kd.R (Kd.int .i64) 3 w64 w.heap.size (fun k_ => some k_ ≠ (v393 : Value).ownBlock ∧ some k_ ≠ (v409 : Value).ownBlock ∧ some k_ ≠ (v416 : Value).ownBlock ∧ some k_ ≠ (.slice (some ad418) t383.length co34 : Value).ownBlock) (.slice (some ⟨go58, 0, none⟩) x21_3.length co62) y420 := (by rw [hw, Ny420.out]; exact HP63.1); clear HP63; have n0_ := Aside0.mk (Kd.R_after (v := (.slice (some ⟨go58, 0, none⟩) x21_3.length co62)) (v1 := (.slice (some ⟨go58, 0, none⟩) x21_3.length co62)) (ok := (fun k_ => some k_ ≠ (v409 : Value).ownBlock ∧ some k_ ≠ (v416 : Value).ownBlock ∧ some k_ ≠ (.slice (some ad418) t383.length co34 : Value).ownBlock)) (by (with_reducible repeat (first | apply Kd.R_alloc | apply Kd.R_drewN | apply Kd.R_drew)); exact Kd.R_mono HO_11.out (fun _ hk => ⟨⟨hk.1, ⟨hk.2.2.1, hk.2.2.2⟩⟩, hk.2.1⟩)) hg (.inl rfl)); have n1_ := Aside0.mk (Kd.R_after (v := (.slice (some ⟨go58, 0, none⟩) x21_3.length co62)) (v1 := (.slice (some ⟨go58, 0, none⟩) x21_3.length co62)) (ok := (fun k_ => some k_ ≠ (v393 : Value).ownBlock ∧ some k_ ≠ (v416 : Value).ownBlock ∧ some k_ ≠ (.slice (some ad418) t383.length co34 : Value).ownBlock)) (by (with_reducible repeat (first | apply Kd.R_alloc | apply Kd.R_drewN | apply Kd.R_drew)); exact Kd.R_mono HO_19.out (fun _ hk => ⟨⟨hk.1, ⟨hk.2.2.1, hk.2.2.2⟩⟩, hk.2.1⟩)) hg (.inl rfl)); have n2_ := Aside0.mk (hp_); have n3_ := Aside0.mk (Kd.R_after (v := (.slice (some ⟨go58, 0, none⟩) x21_3.length co62)) (v1 := (.slice (some ⟨go58, 0, none⟩) x21_3.length co62)) (ok := (fun k_ => some k_ ≠ (v393 : Value).ownBlock ∧ some k_ ≠ (v409 : Value).ownBlock ∧ some k_ ≠ (.slice (some ad418) t383.length co34 : Value).ownBlock)) (by (with_reducible repeat (first | apply Kd.R_alloc | apply Kd.R_drewN | apply Kd.R_drew)); exact Kd.R_mono HO_22.out (fun _ hk => ⟨⟨hk.1, ⟨hk.2.1, hk.2.2.2⟩⟩, hk.2.2.1⟩)) hg (.inl rfl)); have n4_ := Aside0.mk (Kd.R_after (v := (.slice (some ⟨go58, 0, none⟩) x21_3.length co62)) (v1 := (.slice (some ⟨go58, 0, none⟩) x21_3.length co62)) (ok := (fun k_ => some k_ ≠ (v393 : Value).ownBlock ∧ some k_ ≠ (v409 : Value).ownBlock ∧ some k_ ≠ (v416 : Value).ownBlock)) (by (with_reducible repeat (first | apply Kd.R_alloc | apply Kd.R_drewN | apply Kd.R_drew)); exact Kd.R_mono HO_143.out (fun _ hk => ⟨⟨hk.1, ⟨hk.2.1, hk.2.2.2⟩⟩, hk.2.2.1⟩)) hg (.inl rfl)); have n5_ := Aside0.mk ((by rw [hw]; exact below_set (HB.out) GB58.out : Below w.heap.size w w64)); clear HO_11; clear HO_19; clear HO_21; clear HO_22; clear HO_143; clear HB; have HO_11 := n0_; have HO_19 := n1_; have HO_21 := n2_; have HO_22 := n3_; have HO_143 := n4_; have HB := n5_; clear n0_ n1_ n2_ n3_ n4_ n5_; clear hg hw hp_; obtain ⟨Ao65, co65, eo65⟩ := Kd.R_slice HO_22.out; subst eo65; have p421 : 0 ≤ ((ji55) : Int) := of_decide_eq_true AS; have q421 : (ji55) < (x22_3.length : Int) := of_decide_eq_true AS; obtain ⟨ad421, e421, hx421_0⟩ := Kd.at_int (Kd.R_reads' HO_22.out).2.2 (ji55) p421 q421; cases e421; replace p421 := eq_true p421; replace q421 := eq_true q421; have p61 : 0 ≤ ((ji55) : Int) := of_decide_eq_true AS; have q61 : ((ji55) : Int) < ((x22_3.length : Int) : Int) := of_decide_eq_true AS; obtain ⟨go61, co61, eo61, gb61, gl61, cl61, HG61⟩ := Kd.R_form HO_22.out (by omega); (first | cases eo61 | (injection eo61 with ea_ en_ ec_; (first | subst ea_ | (injection ea_ with ea_; subst ea_)); subst ec_; clear en_)); have GB61 := Aside0.mk gb61; have GG61 := Aside0.mk HG61; clear gb61 gl61 HG61; (first | simp only [add_plain] at hx421_0 | skip); obtain ⟨hx61_0, hf61_0⟩ := Kd.R_celln 0 HO_22.out ((ji55) : Int) p61 q61; replace p61 := eq_true p61; replace q61 := eq_true q61; have n_ := Aside0.mk (Kd.R_mono (ok' := (fun k_ => some k_ ≠ (v393 : Value).ownBlock ∧ some k_ ≠ (v409 : Value).ownBlock ∧ some k_ ≠ (.slice (some ⟨go58, 0, none⟩) x21_3.length co62 : Value).ownBlock ∧ some k_ ≠ (.slice (some ad418) t383.length co34 : Value).ownBlock)) HO_22.out (fun k_ hk => ⟨hk.1.1, ⟨hk.1.2.1, ⟨hk.2, hk.1.2.2⟩⟩⟩)); clear HO_22; have HO_22 := n_; clear n_; obtain ⟨hy66_, hz66_⟩ := Kd.R_celln 0 HO_22.out ((ji55) : Int) (of_decide_eq_true AS) (of_decide_eq_true AS); have HP66 := Kd.R_putg HO_22.out ((ji55) : Int) (wrap64 ((rd x22_3 (ji55)) + 1))) | ((with_reducible refine gate_store (t := 3) (p := 169) rfl ?_); (try (rw [drewN_self w64]; generalize hq_ : World.drewN w64 _ = w64; have n0_ := Aside0.mk (Kd.R_at hq_ HO_11.out); have n1_ := Aside0.mk (Kd.R_at hq_ HO_19.out); have n2_ := Aside0.mk (Kd.R_at hq_ HO_21.out); have n3_ := Aside0.mk (Kd.R_at hq_ HO_22.out); have n4_ := Aside0.mk (Kd.R_at hq_ HO_143.out); have n5_ := Aside0.mk (below_at hq_ HB.out); clear hq_ HO_11 HO_19 HO_21 HO_22 HO_143 HB; have HO_11 := n0_; have HO_19 := n1_; have HO_21 := n2_; have HO_22 := n3_; have HO_143 := n4_; have HB := n5_; clear n0_ n1_ n2_ n3_ n4_ n5_; (try (have n_ := Aside0.mk (Kd.R_mono (ok' := (fun k_ => some k_ ≠ (v393 : Value).ownBlock ∧ some k_ ≠ (v409 : Value).ownBlock ∧ some k_ ≠ (.slice (some ⟨go58, 0, none⟩) x21_3.length co62 : Value).ownBlock ∧ some k_ ≠ (.slice (some ad418) t383.length co34 : Value).ownBlock)) HO_22.out (fun k_ hk => ⟨hk.1.1, ⟨hk.1.2.1, ⟨hk.2, hk.1.2.2⟩⟩⟩)); clear HO_22; have HO_22 := n_; clear n_)); (try (obtain ⟨hy66_, hz66_⟩ := Kd.R_celln 0 HO_22.out ((ji55) : Int) (of_decide_eq_true AS) (of_decide_eq_true AS))); (try (have HP66 := Kd.R_putg HO_22.out ((ji55) : Int) (wrap64 ((rd x22_3 (ji55)) + 1)))))); refine store_event (t := 3) (p := 169) (v := ?vo_w67) (w1 := (w64.setCell ⟨go61, ((ji55) : Int).toNat, none⟩ (.int .i64 (wrap64 ((rd x22_3 (ji55)) + 1))))) ?hg ?ho ?hn ?hr ?_; (case ho => rfl); (case hg => rfl); (case hn => rfl); (case hr => exact GS); intro w67 hw; have hg : w64.grownBy w67 (some go61) := (by rw [hw]; exact HP66.2); have hp_ : Kd.R (Kd.int .i64) 3 w67 w.heap.size (fun k_ => some k_ ≠ (v393 : Value).ownBlock ∧ some k_ ≠ (v409 : Value).ownBlock ∧ some k_ ≠ (.slice (some ⟨go58, 0, none⟩) x21_3.length co62 : Value).ownBlock ∧ some k_ ≠ (.slice (some ad418) t383.length co34 : Value).ownBlock) (.slice (some ⟨go61, 0, none⟩) x22_3.length co65) y422 := (by rw [hw, Ny422.out]; exact HP66.1); clear HP66; have n0_ := Aside0.mk (Kd.R_after (v := (.slice (some ⟨go61, 0, none⟩) x22_3.length co65)) (v1 := (.slice (some ⟨go61, 0, none⟩) x22_3.length co65)) (ok := (fun k_ => some k_ ≠ (v409 : Value).ownBlock ∧ some k_ ≠ (.slice (some ⟨go58, 0, none⟩) x21_3.length co62 : Value).ownBlock ∧ some k_ ≠ (.slice (some ad418) t383.length co34 : Value).ownBlock)) (by (with_reducible repeat (first | apply Kd.R_alloc | apply Kd.R_drewN | apply Kd.R_drew)); exact Kd.R_mono HO_11.out (fun _ hk => ⟨⟨hk.1.1, ⟨hk.2, hk.1.2.2⟩⟩, hk.1.2.1⟩)) hg (.inl rfl)); have n1_ := Aside0.mk (Kd.R_after (v := (.slice (some ⟨go61, 0, none⟩) x22_3.length co65)) (v1 := (.slice (some ⟨go61, 0, none⟩) x22_3.length co65)) (ok := (fun k_ => some k_ ≠ (v393 : Value).ownBlock ∧ some k_ ≠ (.slice (some ⟨go58, 0, none⟩) x21_3.length co62 : Value).ownBlock ∧ some k_ ≠ (.slice (some ad418) t383.length co34 : Value).ownBlock)) (by (with_reducible repeat (first | apply Kd.R_alloc | apply Kd.R_drewN | apply Kd.R_drew)); exact Kd.R_mono HO_19.out (fun _ hk => ⟨⟨hk.1.1, ⟨hk.2, hk.1.2.2⟩⟩, hk.1.2.1⟩)) hg (.inl rfl)); have n2_ := Aside0.mk (Kd.R_after (v := (.slice (some ⟨go61, 0, none⟩) x22_3.length co65)) (v1 := (.slice (some ⟨go61, 0, none⟩) x22_3.length co65)) (ok := (fun k_ => some k_ ≠ (v393 : Value).ownBlock ∧ some k_ ≠ (v409 : Value).ownBlock ∧ some k_ ≠ (.slice (some ad418) t383.length co34 : Value).ownBlock)) (by (with_reducible repeat (first | apply Kd.R_alloc | apply Kd.R_drewN | apply Kd.R_drew)); exact Kd.R_mono HO_21.out (fun _ hk => ⟨⟨hk.1, ⟨hk.2.1, hk.2.2.2⟩⟩, hk.2.2.1⟩)) hg (.inl rfl)); have n3_ := Aside0.mk (hp_); have n4_ := Aside0.mk (Kd.R_after (v := (.slice (some ⟨go61, 0, none⟩) x22_3.length co65)) (v1 := (.slice (some ⟨go61, 0, none⟩) x22_3.length co65)) (ok := (fun k_ => some k_ ≠ (v393 : Value).ownBlock ∧ some k_ ≠ (v409 : Value).ownBlock ∧ some k_ ≠ (.slice (some ⟨go58, 0, none⟩) x21_3.length co62 : Value).ownBlock)) (by (with_reducible repeat (first | apply Kd.R_alloc | apply Kd.R_drewN | apply Kd.R_drew)); exact Kd.R_mono HO_143.out (fun _ hk => ⟨⟨hk.1.1, ⟨hk.1.2.1, hk.2⟩⟩, hk.1.2.2⟩)) hg (.inl rfl)); have n5_ := Aside0.mk ((by rw [hw]; exact below_set (HB.out) GB61.out : Below w.heap.size w w67)); clear HO_11; clear HO_19; clear HO_21; clear HO_22; clear HO_143; clear HB; have HO_11 := n0_; have HO_19 := n1_; have HO_21 := n2_; have HO_22 := n3_; have HO_143 := n4_; have HB := n5_; clear n0_ n1_ n2_ n3_ n4_ n5_; clear hg hw hp_)))
                     go_roundg k3
                     case measure => have := HJ9.out; have := HJ32.out; have := HK3.out; omega
                     case rel => exact ⟨(y420), (y422), (wrap64 (x145_3 + 1)), RF, H', ⟨by have := HJ9.out; have := HJ32.out; have := HK3.out; omega⟩, ⟨by (with_reducible repeat (first | apply Kd.R_alloc | apply Kd.R_drewN | apply Kd.R_drew)); exact Kd.R_mono HO_11.out (fun _ hk => ⟨hk.1.1, ⟨hk.1.2.1, ⟨hk.2, hk.1.2.2⟩⟩⟩)⟩, ⟨by (with_reducible repeat (first | apply Kd.R_alloc | apply Kd.R_drewN | apply Kd.R_drew)); exact Kd.R_mono HO_19.out (fun _ hk => ⟨hk.1.1, ⟨hk.1.2.1, ⟨hk.2, hk.1.2.2⟩⟩⟩)⟩, ⟨by (with_reducible repeat (first | apply Kd.R_alloc | apply Kd.R_drewN | apply Kd.R_drew)); exact Kd.R_mono HO_21.out (fun _ hk => ⟨hk.1.1, ⟨hk.1.2.1, ⟨hk.2, hk.1.2.2⟩⟩⟩)⟩, ⟨KR HO_22⟩, ⟨by (with_reducible repeat (first | apply Kd.R_alloc | apply Kd.R_drewN | apply Kd.R_drew)); exact Kd.R_mono HO_143.out (fun _ hk => ⟨hk.1.1, ⟨hk.1.2.1, ⟨hk.1.2.2, hk.2⟩⟩⟩)⟩, ⟨BB⟩⟩
                    ·rw [if_neg c60] at H
                     cases H
                   ·rw [if_neg c59] at H
                    have c59b0 : ((rd t383 x145_3) == 1) = false := beq_eq_false_iff_ne.mpr c59
                    have c59b1 : ((rd t383 x145_3) != 1) = true := bne_iff_ne.mpr c59
                    have H' := Aside0.mk H
                    clear H
                    have p418 : 0 ≤ (x145_3 : Int) := of_decide_eq_true AS
                    have q418 : x145_3 < (t383.length : Int) := of_decide_eq_true AS
                    obtain ⟨ad418, e418, hx418_0⟩ := Kd.at_int (Kd.R_reads' HO_143.out).2.2 x145_3 p418 q418
                    cases e418
                    replace p418 := eq_true p418
                    replace q418 := eq_true q418
                    have p54 : 0 ≤ (x145_3 : Int) := of_decide_eq_true AS
                    have q54 : x145_3 < (t379.size : Int) := of_decide_eq_true AS
                    have hx54 := bt_at t379 x145_3
                    replace p54 := eq_true p54
                    replace q54 := eq_true q54
                    obtain ⟨Ao68, co68, eo68⟩ := Kd.R_slice HO_21.out
                    subst eo68
                    have p419 : 0 ≤ ((ji55) : Int) := of_decide_eq_true AS
                    have q419 : (ji55) < (x21_3.length : Int) := of_decide_eq_true AS
                    obtain ⟨ad419, e419, hx419_0⟩ := Kd.at_int (Kd.R_reads' HO_21.out).2.2 (ji55) p419 q419
                    cases e419
                    replace p419 := eq_true p419
                    replace q419 := eq_true q419
                    have p58 : 0 ≤ ((ji55) : Int) := of_decide_eq_true AS
                    have q58 : ((ji55) : Int) < ((x21_3.length : Int) : Int) := of_decide_eq_true AS
                    obtain ⟨go58, co58, eo58, gb58, gl58, cl58, HG58⟩ := Kd.R_form HO_21.out (by omega)
                    (first | cases eo58 | (injection eo58 with ea_ en_ ec_; (first | subst ea_ | (injection ea_ with ea_; subst ea_)); subst ec_; clear en_))
                    have GB58 := Aside0.mk gb58
                    have GG58 := Aside0.mk HG58
                    clear gb58 gl58 HG58
                    (first | simp only [add_plain] at hx419_0 | skip)
                    obtain ⟨hx58_0, hf58_0⟩ := Kd.R_celln 0 HO_21.out ((ji55) : Int) p58 q58
                    replace p58 := eq_true p58
                    replace q58 := eq_true q58
                    have HP69 := Kd.R_putg HO_21.out ((ji55) : Int) (wrap64 ((rd x21_3 (ji55)) + (rd t383 x145_3)))
                    go_wp2_with (first | ((with_reducible refine gate_store (t := 3) (p := 161) rfl ?_); (try (rw [drewN_self wr]; generalize hq_ : World.drewN wr _ = wr; have n0_ := Aside0.mk (Kd.R_at hq_ HO_11.out); have n1_ := Aside0.mk (Kd.R_at hq_ HO_19.out); have n2_ := Aside0.mk (Kd.R_at hq_ HO_21.out); have n3_ := Aside0.mk (Kd.R_at hq_ HO_22.out); have n4_ := Aside0.mk (Kd.R_at hq_ HO_143.out); have n5_ := Aside0.mk (below_at hq_ HB.out); clear hq_ HO_11 HO_19 HO_21 HO_22 HO_143 HB; have HO_11 := n0_; have HO_19 := n1_; have HO_21 := n2_; have HO_22 := n3_; have HO_143 := n4_; have HB := n5_; clear n0_ n1_ n2_ n3_ n4_ n5_; (try (have HP69 := Kd.R_putg HO_21.out ((ji55) : Int) (wrap64 ((rd x21_3 (ji55)) + (rd t383 x145_3))))))); refine store_event (t := 3) (p := 161) (v := ?vo_w70) (w1 := (wr.setCell ⟨go58, ((ji55) : Int).toNat, none⟩ (.int .i64 (wrap64 ((rd x21_3 (ji55)) + (rd t383 x145_3)))))) ?hg ?ho ?hn ?hr ?_; (case ho => rfl); (case hg => rfl); (case hn => rfl); (case hr => exact GS); intro w70 hw; have hg : wr.grownBy w70 (some go58) := (by rw [hw]; exact HP69.2); have hp_ : Kd.R (Kd.int .i64) 3 w70 w.heap.size (fun k_ => some k_ ≠ (v393 : Value).ownBlock ∧ some k_ ≠ (v409 : Value).ownBlock ∧ some k_ ≠ (v416 : Value).ownBlock ∧ some k_ ≠ (.slice (some ad418) t383.length co34 : Value).ownBlock) (.slice (some ⟨go58, 0, none⟩) x21_3.length co68) y420 := (by rw [hw, Ny420.out]; exact HP69.1); clear HP69; have n0_ := Aside0.mk (Kd.R_after (v := (.slice (some ⟨go58, 0, none⟩) x21_3.length co68)) (v1 := (.slice (some ⟨go58, 0, none⟩) x21_3.length co68)) (ok := (fun k_ => some k_ ≠ (v409 : Value).ownBlock ∧ some k_ ≠ (v416 : Value).ownBlock ∧ some k_ ≠ (.slice (some ad418) t383.length co34 : Value).ownBlock)) (by (with_reducible repeat (first | apply Kd.R_alloc | apply Kd.R_drewN | apply Kd.R_drew)); exact Kd.R_mono HO_11.out (fun _ hk => ⟨⟨hk.1, ⟨hk.2.2.1, hk.2.2.2⟩⟩, hk.2.1⟩)) hg (.inl rfl)); have n1_ := Aside0.mk (Kd.R_after (v := (.slice (some ⟨go58, 0, none⟩) x21_3.length co68)) (v1 := (.slice (some ⟨go58, 0, none⟩) x21_3.length co68)) (ok := (fun k_ => some k_ ≠ (v393 : Value).ownBlock ∧ some k_ ≠ (v416 : Value).ownBlock ∧ some k_ ≠ (.slice (some ad418) t383.length co34 : Value).ownBlock)) (by (with_reducible repeat (first | apply Kd.R_alloc | apply Kd.R_drewN | apply Kd.R_drew)); exact Kd.R_mono HO_19.out (fun _ hk => ⟨⟨hk.1, ⟨hk.2.2.1, hk.2.2.2⟩⟩, hk.2.1⟩)) hg (.inl rfl)); have n2_ := Aside0.mk (hp_); have n3_ := Aside0.mk (Kd.R_after (v := (.slice (some ⟨go58, 0, none⟩) x21_3.length co68)) (v1 := (.slice (some ⟨go58, 0, none⟩) x21_3.length co68)) (ok := (fun k_ => some k_ ≠ (v393 : Value).ownBlock ∧ some k_ ≠ (v409 : Value).ownBlock ∧ some k_ ≠ (.slice (some ad418) t383.length co34 : Value).ownBlock)) (by (with_reducible repeat (first | apply Kd.R_alloc | apply Kd.R_drewN | apply Kd.R_drew)); exact Kd.R_mono HO_22.out (fun _ hk => ⟨⟨hk.1, ⟨hk.2.1, hk.2.2.2⟩⟩, hk.2.2.1⟩)) hg (.inl rfl)); have n4_ := Aside0.mk (Kd.R_after (v := (.slice (some ⟨go58, 0, none⟩) x21_3.length co68)) (v1 := (.slice (some ⟨go58, 0, none⟩) x21_3.length co68)) (ok := (fun k_ => some k_ ≠ (v393 : Value).ownBlock ∧ some k_ ≠ (v409 : Value).ownBlock ∧ some k_ ≠ (v416 : Value).ownBlock)) (by (with_reducible repeat (first | apply Kd.R_alloc | apply Kd.R_drewN | apply Kd.R_drew)); exact Kd.R_mono HO_143.out (fun _ hk => ⟨⟨hk.1, ⟨hk.2.1, hk.2.2.2⟩⟩, hk.2.2.1⟩)) hg (.inl rfl)); have n5_ := Aside0.mk ((by rw [hw]; exact below_set (HB.out) GB58.out : Below w.heap.size w w70)); clear HO_11; clear HO_19; clear HO_21; clear HO_22; clear HO_143; clear HB; have HO_11 := n0_; have HO_19 := n1_; have HO_21 := n2_; have HO_22 := n3_; have HO_143 := n4_; have HB := n5_; clear n0_ n1_ n2_ n3_ n4_ n5_; clear hg hw hp_))
                    repeat (go_quiet (first | ((with_reducible refine gate_store (t := 3) (p := 161) rfl ?_); (try (rw [drewN_self wr]; generalize hq_ : World.drewN wr _ = wr; have n0_ := Aside0.mk (Kd.R_at hq_ HO_11.out); have n1_ := Aside0.mk (Kd.R_at hq_ HO_19.out); have n2_ := Aside0.mk (Kd.R_at hq_ HO_21.out); have n3_ := Aside0.mk (Kd.R_at hq_ HO_22.out); have n4_ := Aside0.mk (Kd.R_at hq_ HO_143.out); have n5_ := Aside0.mk (below_at hq_ HB.out); clear hq_ HO_11 HO_19 HO_21 HO_22 HO_143 HB; have HO_11 := n0_; have HO_19 := n1_; have HO_21 := n2_; have HO_22 := n3_; have HO_143 := n4_; have HB := n5_; clear n0_ n1_ n2_ n3_ n4_ n5_; (try (have HP69 := Kd.R_putg HO_21.out ((ji55) : Int) (wrap64 ((rd x21_3 (ji55)) + (rd t383 x145_3))))))); refine store_event (t := 3) (p := 161) (v := ?vo_w70) (w1 := (wr.setCell ⟨go58, ((ji55) : Int).toNat, none⟩ (.int .i64 (wrap64 ((rd x21_3 (ji55)) + (rd t383 x145_3)))))) ?hg ?ho ?hn ?hr ?_; (case ho => rfl); (case hg => rfl); (case hn => rfl); (case hr => exact GS); intro w70 hw; have hg : wr.grownBy w70 (some go58) := (by rw [hw]; exact HP69.2); have hp_ : Kd.R (Kd.int .i64) 3 w70 w.heap.size (fun k_ => some k_ ≠ (v393 : Value).ownBlock ∧ some k_ ≠ (v409 : Value).ownBlock ∧ some k_ ≠ (v416 : Value).ownBlock ∧ some k_ ≠ (.slice (some ad418) t383.length co34 : Value).ownBlock) (.slice (some ⟨go58, 0, none⟩) x21_3.length co68) y420 := (by rw [hw, Ny420.out]; exact HP69.1); clear HP69; have n0_ := Aside0.mk (Kd.R_after (v := (.slice (some ⟨go58, 0, none⟩) x21_3.length co68)) (v1 := (.slice (some ⟨go58, 0, none⟩) x21_3.length co68)) (ok := (fun k_ => some k_ ≠ (v409 : Value).ownBlock ∧ some k_ ≠ (v416 : Value).ownBlock ∧ some k_ ≠ (.slice (some ad418) t383.length co34 : Value).ownBlock)) (by (with_reducible repeat (first | apply Kd.R_alloc | apply Kd.R_drewN | apply Kd.R_drew)); exact Kd.R_mono HO_11.out (fun _ hk => ⟨⟨hk.1, ⟨hk.2.2.1, hk.2.2.2⟩⟩, hk.2.1⟩)) hg (.inl rfl)); have n1_ := Aside0.mk (Kd.R_after (v := (.slice (some ⟨go58, 0, none⟩) x21_3.length co68)) (v1 := (.slice (some ⟨go58, 0, none⟩) x21_3.length co68)) (ok := (fun k_ => some k_ ≠ (v393 : Value).ownBlock ∧ some k_ ≠ (v416 : Value).ownBlock ∧ some k_ ≠ (.slice (some ad418) t383.length co34 : Value).ownBlock)) (by (with_reducible repeat (first | apply Kd.R_alloc | apply Kd.R_drewN | apply Kd.R_drew)); exact Kd.R_mono HO_19.out (fun _ hk => ⟨⟨hk.1, ⟨hk.2.2.1, hk.2.2.2⟩⟩, hk.2.1⟩)) hg (.inl rfl)); have n2_ := Aside0.mk (hp_); have n3_ := Aside0.mk (Kd.R_after (v := (.slice (some ⟨go58, 0, none⟩) x21_3.length co68)) (v1 := (.slice (some ⟨go58, 0, none⟩) x21_3.length co68)) (ok := (fun k_ => some k_ ≠ (v393 : Value).ownBlock ∧ some k_ ≠ (v409 : Value).ownBlock ∧ some k_ ≠ (.slice (some ad418) t383.length co34 : Value).ownBlock)) (by (with_reducible repeat (first | apply Kd.R_alloc | apply Kd.R_drewN | apply Kd.R_drew)); exact Kd.R_mono HO_22.out (fun _ hk => ⟨⟨hk.1, ⟨hk.2.1, hk.2.2.2⟩⟩, hk.2.2.1⟩)) hg (.inl rfl)); have n4_ := Aside0.mk (Kd.R_after (v := (.slice (some ⟨go58, 0, none⟩) x21_3.length co68)) (v1 := (.slice (some ⟨go58, 0, none⟩) x21_3.length co68)) (ok := (fun k_ => some k_ ≠ (v393 : Value).ownBlock ∧ some k_ ≠ (v409 : Value).ownBlock ∧ some k_ ≠ (v416 : Value).ownBlock)) (by (with_reducible repeat (first | apply Kd.R_alloc | apply Kd.R_drewN | apply Kd.R_drew)); exact Kd.R_mono HO_143.out (fun _ hk => ⟨⟨hk.1, ⟨hk.2.1, hk.2.2.2⟩⟩, hk.2.2.1⟩)) hg (.inl rfl)); have n5_ := Aside0.mk ((by rw [hw]; exact below_set (HB.out) GB58.out : Below w.heap.size w w70)); clear HO_11; clear HO_19; clear HO_21; clear HO_22; clear HO_143; clear HB; have HO_11 := n0_; have HO_19 := n1_; have HO_21 := n2_; have HO_22 := n3_; have HO_143 := n4_; have HB := n5_; clear n0_ n1_ n2_ n3_ n4_ n5_; clear hg hw hp_)); try go_wp2_with (first | ((with_reducible refine gate_store (t := 3) (p := 161) rfl ?_); (try (rw [drewN_self wr]; generalize hq_ : World.drewN wr _ = wr; have n0_ := Aside0.mk (Kd.R_at hq_ HO_11.out); have n1_ := Aside0.mk (Kd.R_at hq_ HO_19.out); have n2_ := Aside0.mk (Kd.R_at hq_ HO_21.out); have n3_ := Aside0.mk (Kd.R_at hq_ HO_22.out); have n4_ := Aside0.mk (Kd.R_at hq_ HO_143.out); have n5_ := Aside0.mk (below_at hq_ HB.out); clear hq_ HO_11 HO_19 HO_21 HO_22 HO_143 HB; have HO_11 := n0_; have HO_19 := n1_; have HO_21 := n2_; have HO_22 := n3_; have HO_143 := n4_; have HB := n5_; clear n0_ n1_ n2_ n3_ n4_ n5_; (try (have HP69 := Kd.R_putg HO_21.out ((ji55) : Int) (wrap64 ((rd x21_3 (ji55)) + (rd t383 x145_3))))))); refine store_event (t := 3) (p := 161) (v := ?vo_w70) (w1 := (wr.setCell ⟨go58, ((ji55) : Int).toNat, none⟩ (.int .i64 (wrap64 ((rd x21_3 (ji55)) + (rd t383 x145_3)))))) ?hg ?ho ?hn ?hr ?_; (case ho => rfl); (case hg => rfl); (case hn => rfl); (case hr => exact GS); intro w70 hw; have hg : wr.grownBy w70 (some go58) := (by rw [hw]; exact HP69.2); have hp_ : Kd.R (Kd.int .i64) 3 w70 w.heap.size (fun k_ => some k_ ≠ (v393 : Value).ownBlock ∧ some k_ ≠ (v409 : Value).ownBlock ∧ some k_ ≠ (v416 : Value).ownBlock ∧ some k_ ≠ (.slice (some ad418) t383.length co34 : Value).ownBlock) (.slice (some ⟨go58, 0, none⟩) x21_3.length co68) y420 := (by rw [hw, Ny420.out]; exact HP69.1); clear HP69; have n0_ := Aside0.mk (Kd.R_after (v := (.slice (some ⟨go58, 0, none⟩) x21_3.length co68)) (v1 := (.slice (some ⟨go58, 0, none⟩) x21_3.length co68)) (ok := (fun k_ => some k_ ≠ (v409 : Value).ownBlock ∧ some k_ ≠ (v416 : Value).ownBlock ∧ some k_ ≠ (.slice (some ad418) t383.length co34 : Value).ownBlock)) (by (with_reducible repeat (first | apply Kd.R_alloc | apply Kd.R_drewN | apply Kd.R_drew)); exact Kd.R_mono HO_11.out (fun _ hk => ⟨⟨hk.1, ⟨hk.2.2.1, hk.2.2.2⟩⟩, hk.2.1⟩)) hg (.inl rfl)); have n1_ := Aside0.mk (Kd.R_after (v := (.slice (some ⟨go58, 0, none⟩) x21_3.length co68)) (v1 := (.slice (some ⟨go58, 0, none⟩) x21_3.length co68)) (ok := (fun k_ => some k_ ≠ (v393 : Value).ownBlock ∧ some k_ ≠ (v416 : Value).ownBlock ∧ some k_ ≠ (.slice (some ad418) t383.length co34 : Value).ownBlock)) (by (with_reducible repeat (first | apply Kd.R_alloc | apply Kd.R_drewN | apply Kd.R_drew)); exact Kd.R_mono HO_19.out (fun _ hk => ⟨⟨hk.1, ⟨hk.2.2.1, hk.2.2.2⟩⟩, hk.2.1⟩)) hg (.inl rfl)); have n2_ := Aside0.mk (hp_); have n3_ := Aside0.mk (Kd.R_after (v := (.slice (some ⟨go58, 0, none⟩) x21_3.length co68)) (v1 := (.slice (some ⟨go58, 0, none⟩) x21_3.length co68)) (ok := (fun k_ => some k_ ≠ (v393 : Value).ownBlock ∧ some k_ ≠ (v409 : Value).ownBlock ∧ some k_ ≠ (.slice (some ad418) t383.length co34 : Value).ownBlock)) (by (with_reducible repeat (first | apply Kd.R_alloc | apply Kd.R_drewN | apply Kd.R_drew)); exact Kd.R_mono HO_22.out (fun _ hk => ⟨⟨hk.1, ⟨hk.2.1, hk.2.2.2⟩⟩, hk.2.2.1⟩)) hg (.inl rfl)); have n4_ := Aside0.mk (Kd.R_after (v := (.slice (some ⟨go58, 0, none⟩) x21_3.length co68)) (v1 := (.slice (some ⟨go58, 0, none⟩) x21_3.length co68)) (ok := (fun k_ => some k_ ≠ (v393 : Value).ownBlock ∧ some k_ ≠ (v409 : Value).ownBlock ∧ some k_ ≠ (v416 : Value).ownBlock)) (by (with_reducible repeat (first | apply Kd.R_alloc | apply Kd.R_drewN | apply Kd.R_drew)); exact Kd.R_mono HO_143.out (fun _ hk => ⟨⟨hk.1, ⟨hk.2.1, hk.2.2.2⟩⟩, hk.2.2.1⟩)) hg (.inl rfl)); have n5_ := Aside0.mk ((by rw [hw]; exact below_set (HB.out) GB58.out : Below w.heap.size w w70)); clear HO_11; clear HO_19; clear HO_21; clear HO_22; clear HO_143; clear HB; have HO_11 := n0_; have HO_19 := n1_; have HO_21 := n2_; have HO_22 := n3_; have HO_143 := n4_; have HB := n5_; clear n0_ n1_ n2_ n3_ n4_ n5_; clear hg hw hp_)))
                    go_roundg k3
                    case measure => have := HJ9.out; have := HJ32.out; have := HK3.out; omega
                    case rel => exact ⟨(y420), (x22_3), (wrap64 (x145_3 + 1)), RF, H', ⟨by have := HJ9.out; have := HJ32.out; have := HK3.out; omega⟩, ⟨by (with_reducible repeat (first | apply Kd.R_alloc | apply Kd.R_drewN | apply Kd.R_drew)); exact Kd.R_mono HO_11.out (fun _ hk => ⟨hk.1.1, ⟨hk.2, ⟨hk.1.2.1, hk.1.2.2⟩⟩⟩)⟩, ⟨by (with_reducible repeat (first | apply Kd.R_alloc | apply Kd.R_drewN | apply Kd.R_drew)); exact Kd.R_mono HO_19.out (fun _ hk => ⟨hk.1.1, ⟨hk.2, ⟨hk.1.2.1, hk.1.2.2⟩⟩⟩)⟩, ⟨KR HO_21⟩, ⟨by (with_reducible repeat (first | apply Kd.R_alloc | apply Kd.R_drewN | apply Kd.R_drew)); exact Kd.R_mono HO_22.out (fun _ hk => ⟨hk.1.1, ⟨hk.1.2.1, ⟨hk.2, hk.1.2.2⟩⟩⟩)⟩, ⟨by (with_reducible repeat (first | apply Kd.R_alloc | apply Kd.R_drewN | apply Kd.R_drew)); exact Kd.R_mono HO_143.out (fun _ hk => ⟨hk.1.1, ⟨hk.1.2.1, ⟨hk.2, hk.1.2.2⟩⟩⟩)⟩, ⟨BB⟩⟩
                  ·rw [if_neg c57] at H
                   cases H
                 ·rw [if_neg c56] at H
                  cases H
                ·rw [if_neg c53] at H
                 cases H
               ·rw [if_neg c52] at H
                cases H
              ·rw [if_neg c51] at H
               cases H
             ·rw [if_neg c50] at H
              have c50b0 : decide (x145_3 < (t383.length : Int)) = false := decide_eq_false c50
              clear c50
              have H' := Aside0.mk H
              clear H
              obtain ⟨Ao71, co71, eo71⟩ := Kd.R_slice HO_21.out
              subst eo71
              go_wp2
              repeat (go_quiet (fail); try go_wp2)
              go_loopg [26, 173] k3 (fun kq v26 v173 w' => ∃ (x26_4 : Bool) (x173_4 : Int), v26 = .bool x26_4 ∧ v173 = .int .i64 x173_4 ∧ Aside0 (laws_FnSignsOfShares.l1 kq l1 t391 t405 t407 x22_3 x26_4 x21_3 (x21_3.length : Int) x173_4 = some r) ∧ Aside0 (kq ≤ k3) ∧ Aside0 (Kd.R (Kd.int .i64) 3 w' w.heap.size (fun k_ => some k_ ≠ (v409 : Value).ownBlock ∧ some k_ ≠ (v416 : Value).ownBlock ∧ some k_ ≠ ((.slice Ao71 x21_3.length co71) : Value).ownBlock) v393 t391) ∧ Aside0 (Kd.R (Kd.int .i64) 3 w' w.heap.size (fun k_ => some k_ ≠ (v393 : Value).ownBlock ∧ some k_ ≠ (v416 : Value).ownBlock ∧ some k_ ≠ ((.slice Ao71 x21_3.length co71) : Value).ownBlock) v409 t407) ∧ Aside0 (Kd.R (Kd.int .i64) 3 w' w.heap.size (fun k_ => some k_ ≠ (v393 : Value).ownBlock ∧ some k_ ≠ (v409 : Value).ownBlock ∧ some k_ ≠ ((.slice Ao71 x21_3.length co71) : Value).ownBlock) v416 x22_3) ∧ Aside0 (Kd.R (Kd.int .i64) 3 w' w.heap.size (fun k_ => some k_ ≠ (v393 : Value).ownBlock ∧ some k_ ≠ (v409 : Value).ownBlock ∧ some k_ ≠ (v416 : Value).ownBlock) (.slice Ao71 x21_3.length co71) x21_3) ∧ Aside0 (Below w.heap.size w w'))
              case atStart => exact ⟨(true), (0), RF, RF, H', ⟨Nat.le_refl _⟩, ⟨by (with_reducible repeat (first | apply Kd.R_alloc | apply Kd.R_drewN | apply Kd.R_drew)); exact Kd.R_mono HO_11.out (fun _ hk => ⟨hk.1, ⟨hk.2.2.1, hk.2.1⟩⟩)⟩, ⟨by (with_reducible repeat (first | apply Kd.R_alloc | apply Kd.R_drewN | apply Kd.R_drew)); exact Kd.R_mono HO_19.out (fun _ hk => ⟨hk.1, ⟨hk.2.2.1, hk.2.1⟩⟩)⟩, ⟨by (with_reducible repeat (first | apply Kd.R_alloc | apply Kd.R_drewN | apply Kd.R_drew)); exact Kd.R_mono HO_22.out (fun _ hk => ⟨hk.1, ⟨hk.2.1, hk.2.2.1⟩⟩)⟩, ⟨by (with_reducible repeat (first | apply Kd.R_alloc | apply Kd.R_drewN | apply Kd.R_drew)); exact Kd.R_mono HO_21.out (fun _ hk => ⟨hk.1, ⟨hk.2.1, hk.2.2.1⟩⟩)⟩, ⟨BB⟩⟩
              case round => as_aux_lemma =>
               clear H'
               try clear c1
               try clear c2
               try clear p2
               try clear c3
               try clear c4
               try clear p4
               try clear q4
               try clear hx4
               try clear c5
               try clear p5
               try clear q5
               try clear hx5
               try clear hf5
               try clear c6
               try clear p6
               try clear q6
               try clear hx6
               try clear hf6
               try clear c17
               try clear c17b0
               try clear c17b1
               try clear c17b2
               try clear c19
               try clear c20
               try clear c20b0
               try clear c20b1
               try clear c20b2
               try clear c22
               try clear c27
               try clear c29
               try clear c38
               try clear c40
               try clear c41
               try clear p41
               try clear q41
               try clear hx41
               try clear c42
               try clear p42
               try clear q42
               try clear hx42
               try clear c44
               try clear c45
               try clear c45b0
               try clear c45b1
               try clear c50
               try clear c50b0
               try clear c51
               try clear c51b0
               try clear c52
               try clear c52b0
               try clear c53
               try clear c53b0
               try clear p54
               try clear q54
               try clear hx54
               try clear c56
               try clear c56b0
               try clear c57
               try clear c57b0
               try clear p58
               try clear q58
               try clear hx58
               try clear hf58
               try clear c59
               try clear c59b0
               try clear c59b1
               try clear c60
               try clear c60b0
               try clear p61
               try clear q61
               try clear hx61
               try clear hf61
               try clear p64
               try clear hx418_0
               try clear hx419_0
               try clear hx421_0
               try clear hx58_0
               try clear hx61_0
               try clear p2
               try clear p418
               try clear p419
               try clear p421
               try clear p54
               try clear p58
               try clear p6
               try clear p61
               try clear q418
               try clear q419
               try clear q421
               try clear q54
               try clear q58
               try clear q61
               obtain ⟨x26_4, x173_4, rfl, rfl, HA, HK4, HO_11, HO_19, HO_22, HO_171, HB⟩ := hrel
               cases gk with
               | zero => exact absurd HA.out (by simp [laws_FnSignsOfShares.l1])
               | succ k4 =>
                have H := HA.out
                clear HA
                simp only [laws_FnSignsOfShares.l1] at H
                by_cases c72 : x173_4 < (x21_3.length : Int)
                ·rw [if_pos c72] at H
                 have c72b0 : decide (x173_4 < (x21_3.length : Int)) = true := decide_eq_true c72
                 clear c72
                 by_cases c73 : 0 ≤ x173_4
                 ·rw [if_pos c73] at H
                  have c73b0 : decide (0 ≤ x173_4) = true := decide_eq_true c73
                  clear c73
                  by_cases c74 : x173_4 < (x21_3.length : Int)
                  ·rw [if_pos c74] at H
                   have c74b0 : decide (x173_4 < (x21_3.length : Int)) = true := decide_eq_true c74
                   clear c74
                   by_cases c75 : x26_4 = true
                   ·subst c75
                    replace H := IP H
                    by_cases c76 : x173_4 < (t391.length : Int)
                    ·rw [if_pos c76] at H
                     have c76b0 : decide (x173_4 < (t391.length : Int)) = true := decide_eq_true c76
                     clear c76
                     by_cases c77 : x173_4 < (t407.length : Int)
                     ·rw [if_pos c77] at H
                      have c77b0 : decide (x173_4 < (t407.length : Int)) = true := decide_eq_true c77
                      clear c77
                      by_cases c78 : (rd x21_3 x173_4) = (wrap64 ((wrap64 (2 * (rd t391 x173_4))) - (rd t407 x173_4)))
                      ·rw [if_pos c78] at H
                       have c78b0 : ((rd x21_3 x173_4) == (wrap64 ((wrap64 (2 * (rd t391 x173_4))) - (rd t407 x173_4)))) = true := beq_iff_eq.mpr c78
                       have c78b1 : ((rd x21_3 x173_4) != (wrap64 ((wrap64 (2 * (rd t391 x173_4))) - (rd t407 x173_4)))) = false := bne_eq_false_iff_eq.mpr c78
                       clear c78
                       by_cases c79 : x173_4 < (x22_3.length : Int)
                       ·rw [if_pos c79] at H
                        have c79b0 : decide (x173_4 < (x22_3.length : Int)) = true := decide_eq_true c79
                        clear c79
                        by_cases c80 : (rd x22_3 x173_4) = (rd t391 x173_4)
                        ·rw [if_pos c80] at H
                         have c80b0 : ((rd x22_3 x173_4) == (rd t391 x173_4)) = true := beq_iff_eq.mpr c80
                         have c80b1 : ((rd x22_3 x173_4) != (rd t391 x173_4)) = false := bne_eq_false_iff_eq.mpr c80
                         clear c80
                         have H' := Aside0.mk H
                         clear H
                         have p423 : 0 ≤ (x173_4 : Int) := of_decide_eq_true AS
                         have q423 : x173_4 < (x21_3.length : Int) := of_decide_eq_true AS
                         obtain ⟨ad423, e423, hx423_0⟩ := Kd.at_int (Kd.R_reads' HO_171.out).2.2 x173_4 p423 q423
                         cases e423
                         replace p423 := eq_true p423
                         replace q423 := eq_true q423
                         obtain ⟨Ao81, co81, eo81⟩ := Kd.R_slice HO_11.out
                         subst eo81
                         have p424 : 0 ≤ (x173_4 : Int) := of_decide_eq_true AS
                         have q424 : x173_4 < (t391.length : Int) := of_decide_eq_true AS
                         obtain ⟨ad424, e424, hx424_0⟩ := Kd.at_int (Kd.R_reads' HO_11.out).2.2 x173_4 p424 q424
                         cases e424
                         replace p424 := eq_true p424
                         replace q424 := eq_true q424
                         obtain ⟨Ao82, co82, eo82⟩ := Kd.R_slice HO_19.out
                         subst eo82
                         have p425 : 0 ≤ (x173_4 : Int) := of_decide_eq_true AS
                         have q425 : x173_4 < (t407.length : Int) := of_decide_eq_true AS
                         obtain ⟨ad425, e425, hx425_0⟩ := Kd.at_int (Kd.R_reads' HO_19.out).2.2 x173_4 p425 q425
                         cases e425
                         replace p425 := eq_true p425
                         replace q425 := eq_true q425
                         obtain ⟨Ao83, co83, eo83⟩ := Kd.R_slice HO_22.out
                         subst eo83
                         have p426 : 0 ≤ (x173_4 : Int) := of_decide_eq_true AS
                         have q426 : x173_4 < (x22_3.length : Int) := of_decide_eq_true AS
                         obtain ⟨ad426, e426, hx426_0⟩ := Kd.at_int (Kd.R_reads' HO_22.out).2.2 x173_4 p426 q426
                         cases e426
                         replace p426 := eq_true p426
                         replace q426 := eq_true q426
                         have p427 : 0 ≤ (x173_4 : Int) := of_decide_eq_true AS
                         have q427 : x173_4 < (t391.length : Int) := of_decide_eq_true AS
                         obtain ⟨ad427, e427, hx427_0⟩ := Kd.at_int (Kd.R_reads' HO_11.out).2.2 x173_4 p427 q427
                         obtain rfl : ad424 = ad427 := (by injection e427)
                         replace p427 := eq_true p427
                         replace q427 := eq_true q427
                         go_wp2
                         repeat (go_quiet (fail); try go_wp2)
                         go_roundg k4
                         case measure => have := HJ9.out; have := HJ32.out; have := HK3.out; have := HK4.out; omega
                         case rel => exact ⟨(((rd x21_3 x173_4) == 0)), (wrap64 (x173_4 + 1)), RF, RF, H', ⟨by have := HJ9.out; have := HJ32.out; have := HK3.out; have := HK4.out; omega⟩, ⟨KR HO_11⟩, ⟨KR HO_19⟩, ⟨KR HO_22⟩, ⟨KR HO_171⟩, ⟨BB⟩⟩
                        ·rw [if_neg c80] at H
                         cases H
                       ·rw [if_neg c79] at H
                        cases H
                      ·rw [if_neg c78] at H
                       cases H
                     ·rw [if_neg c77] at H
                      cases H
                    ·rw [if_neg c76] at H
                     cases H
                   ·replace c75 := Bool.eq_false_iff.mpr c75
                    subst c75
                    replace H := IN H
                    by_cases c84 : x173_4 < (t391.length : Int)
                    ·rw [if_pos c84] at H
                     have c84b0 : decide (x173_4 < (t391.length : Int)) = true := decide_eq_true c84
                     clear c84
                     by_cases c85 : x173_4 < (t407.length : Int)
                     ·rw [if_pos c85] at H
                      have c85b0 : decide (x173_4 < (t407.length : Int)) = true := decide_eq_true c85
                      clear c85
                      by_cases c86 : (rd x21_3 x173_4) = (wrap64 ((wrap64 (2 * (rd t391 x173_4))) - (rd t407 x173_4)))
                      ·rw [if_pos c86] at H
                       have c86b0 : ((rd x21_3 x173_4) == (wrap64 ((wrap64 (2 * (rd t391 x173_4))) - (rd t407 x173_4)))) = true := beq_iff_eq.mpr c86
                       have c86b1 : ((rd x21_3 x173_4) != (wrap64 ((wrap64 (2 * (rd t391 x173_4))) - (rd t407 x173_4)))) = false := bne_eq_false_iff_eq.mpr c86
                       clear c86
                       by_cases c87 : x173_4 < (x22_3.length : Int)
                       ·rw [if_pos c87] at H
                        have c87b0 : decide (x173_4 < (x22_3.length : Int)) = true := decide_eq_true c87
                        clear c87
                        by_cases c88 : (rd x22_3 x173_4) = (rd t391 x173_4)
                        ·rw [if_pos c88] at H
                         have c88b0 : ((rd x22_3 x173_4) == (rd t391 x173_4)) = true := beq_iff_eq.mpr c88
                         have c88b1 : ((rd x22_3 x173_4) != (rd t391 x173_4)) = false := bne_eq_false_iff_eq.mpr c88
                         clear c88
                         have H' := Aside0.mk H
                         clear H
                         have p423 : 0 ≤ (x173_4 : Int) := of_decide_eq_true AS
                         have q423 : x173_4 < (x21_3.length : Int) := of_decide_eq_true AS
                         obtain ⟨ad423, e423, hx423_0⟩ := Kd.at_int (Kd.R_reads' HO_171.out).2.2 x173_4 p423 q423
                         cases e423
                         replace p423 := eq_true p423
                         replace q423 := eq_true q423
                         obtain ⟨Ao89, co89, eo89⟩ := Kd.R_slice HO_11.out
                         subst eo89
                         have p428 : 0 ≤ (x173_4 : Int) := of_decide_eq_true AS
                         have q428 : x173_4 < (t391.length : Int) := of_decide_eq_true AS
                         obtain ⟨ad428, e428, hx428_0⟩ := Kd.at_int (Kd.R_reads' HO_11.out).2.2 x173_4 p428 q428
                         cases e428
                         replace p428 := eq_true p428
                         replace q428 := eq_true q428
                         obtain ⟨Ao90, co90, eo90⟩ := Kd.R_slice HO_19.out
                         subst eo90
                         have p429 : 0 ≤ (x173_4 : Int) := of_decide_eq_true AS
                         have q429 : x173_4 < (t407.length : Int) := of_decide_eq_true AS
                         obtain ⟨ad429, e429, hx429_0⟩ := Kd.at_int (Kd.R_reads' HO_19.out).2.2 x173_4 p429 q429
                         cases e429
                         replace p429 := eq_true p429
                         replace q429 := eq_true q429
                         obtain ⟨Ao91, co91, eo91⟩ := Kd.R_slice HO_22.out
                         subst eo91
                         have p430 : 0 ≤ (x173_4 : Int) := of_decide_eq_true AS
                         have q430 : x173_4 < (x22_3.length : Int) := of_decide_eq_true AS
                         obtain ⟨ad430, e430, hx430_0⟩ := Kd.at_int (Kd.R_reads' HO_22.out).2.2 x173_4 p430 q430
                         cases e430
                         replace p430 := eq_true p430
                         replace q430 := eq_true q430
                         have p431 : 0 ≤ (x173_4 : Int) := of_decide_eq_true AS
                         have q431 : x173_4 < (t391.length : Int) := of_decide_eq_true AS
                         obtain ⟨ad431, e431, hx431_0⟩ := Kd.at_int (Kd.R_reads' HO_11.out).2.2 x173_4 p431 q431
                         obtain rfl : ad428 = ad431 := (by injection e431)
                         replace p431 := eq_true p431
                         replace q431 := eq_true q431
                         go_wp2
                         repeat (go_quiet (fail); try go_wp2)
                         go_roundg k4
                         case measure => have := HJ9.out; have := HJ32.out; have := HK3.out; have := HK4.out; omega
                         case rel => exact ⟨(false), (wrap64 (x173_4 + 1)), RF, RF, H', ⟨by have := HJ9.out; have := HJ32.out; have := HK3.out; have := HK4.out; omega⟩, ⟨KR HO_11⟩, ⟨KR HO_19⟩, ⟨KR HO_22⟩, ⟨KR HO_171⟩, ⟨BB⟩⟩
                        ·rw [if_neg c88] at H
                         cases H
                       ·rw [if_neg c87] at H
                        cases H
                      ·rw [if_neg c86] at H
                       cases H
                     ·rw [if_neg c85] at H
                      cases H
                    ·rw [if_neg c84] at H
                     cases H
                  ·rw [if_neg c74] at H
                   cases H
                 ·rw [if_neg c73] at H
                  cases H
                ·rw [if_neg c72] at H
                 have c72b0 : decide (x173_4 < (x21_3.length : Int)) = false := decide_eq_false c72
                 clear c72
                 by_cases c92 : (x26_4 != t405) = true
                 ·rw [if_pos c92] at H
                  cases H
                 ·rw [if_neg c92] at H
                  have c92b0 : (x26_4 != t405) = false := by simpa using c92
                  (try (have c92b1 : decide (x26_4 = t405) = true := by simpa using c92))
                  (try (have c92b2 : (x26_4 == t405) = true := by simpa using c92))
                  clear c92
                  have H' := Aside0.mk H
                  clear H
                  go_wp2
                  repeat (go_quiet (fail); try go_wp2)
                  go_meet
                  case rel => exact ⟨_, H', ⟨by have := HJ9.out; have := HJ32.out; have := HK3.out; have := HK4.out; first | omega | exact Nat.le_refl _⟩, ⟨BB⟩⟩
          ·rw [if_neg c45] at H
           cases H
      ·replace c29 := Bool.eq_false_iff.mpr c29
       subst c29
       replace H := IN H
       have H' := Aside0.mk H
       clear H
       go_wp2
       repeat (go_quiet (fail); try go_wp2)
       go_meet
       case rel => exact ⟨_, H', ⟨by have := HJ9.out; first | omega | exact Nat.le_refl _⟩, ⟨BB⟩⟩
     case rest => as_aux_lemma =>
      clear HC28
      try clear c1
      try clear c2
      try clear p2
      try clear c3
      try clear c4
      try clear p4
      try clear q4
      try clear hx4
      try clear c5
      try clear p5
      try clear q5
      try clear hx5
      try clear hf5
      try clear c6
      try clear p6
      try clear q6
      try clear hx6
      try clear hf6
      try clear c7
      try clear c8
      try clear c9
      try clear c17
      try clear c17b0
      try clear c17b1
      try clear c17b2
      try clear c19
      try clear c20
      try clear c20b0
      try clear c20b1
      try clear c20b2
      try clear c22
      try clear c27
      try clear c29
      try clear c38
      try clear c40
      try clear c41
      try clear p41
      try clear q41
      try clear hx41
      try clear c42
      try clear p42
      try clear q42
      try clear hx42
      try clear p43
      try clear q43
      try clear hx43
      try clear c44
      try clear c45
      try clear c45b0
      try clear c45b1
      try clear c50
      try clear c50b0
      try clear c51
      try clear c51b0
      try clear c52
      try clear c52b0
      try clear c53
      try clear c53b0
      try clear p54
      try clear q54
      try clear hx54
      try clear c56
      try clear c56b0
      try clear c57
      try clear c57b0
      try clear p58
      try clear q58
      try clear hx58
      try clear hf58
      try clear c59
      try clear c59b0
      try clear c59b1
      try clear c60
      try clear c60b0
      try clear p61
      try clear q61
      try clear hx61
      try clear hf61
      try clear p64
      try clear c72
      try clear c72b0
      try clear c73
      try clear c73b0
      try clear c74
      try clear c74b0
      try clear c75
      try clear c76
      try clear c76b0
      try clear c77
      try clear c77b0
      try clear c78
      try clear c78b0
      try clear c78b1
      try clear c79
      try clear c79b0
      try clear c80
      try clear c80b0
      try clear c80b1
      try clear c84
      try clear c84b0
      try clear c85
      try clear c85b0
      try clear c86
      try clear c86b0
      try clear c86b1
      try clear c87
      try clear c87b0
      try clear c88
      try clear c88b0
      try clear c88b1
      try clear c92
      try clear c92b0
      try clear c92b1
      try clear c92b2
      try clear hx418_0
      try clear hx419_0
      try clear hx421_0
      try clear hx423_0
      try clear hx424_0
      try clear hx425_0
      try clear hx426_0
      try clear hx427_0
      try clear hx428_0
      try clear hx429_0
      try clear hx430_0
      try clear hx431_0
      try clear hx58_0
      try clear hx61_0
      try clear p2
      try clear p4
      try clear p41
      try clear p418
      try clear p419
      try clear p42
      try clear p421
      try clear p423
      try clear p424
      try clear p425
      try clear p426
      try clear p427
      try clear p428
      try clear p429
      try clear p430
      try clear p431
      try clear p5
      try clear p54
      try clear p58
      try clear p6
      try clear p61
      try clear p64
      try clear q4
      try clear q41
      try clear q418
      try clear q419
      try clear q42
      try clear q421
      try clear q423
      try clear q424
      try clear q425
      try clear q426
      try clear q427
      try clear q428
      try clear q429
      try clear q430
      try clear q431
      try clear q5
      try clear q54
      try clear q58
      try clear q6
      try clear q61
      obtain ⟨kq, HA, HJ27, HB⟩ := hcut
      cases kq with
      | zero => exact absurd HA.out (by simp [laws_FnSignsOfShares.j4])
      | succ kj27 =>
       have H := HA.out
       clear HA
       simp only [laws_FnSignsOfShares.j4] at H
       obtain ⟨⟨t432, t433⟩, A930, H⟩ := Option.bind_eq_some_iff.mp H
       replace H : ((impl_CutsOfSigns.f kj27 t432 t433).bind fun bt436 => ((spec_CutsOfSigns.f kj27 t432 t433).bind fun bt440 => (if (bt436.2 != bt440.2) = true then (none) else ((laws_zSame.f kj27 bt436.1 bt440.1).bind fun t444 => (laws_FnSignsOfShares.j5 kj27 l1 t432 t433 bt436.1 bt436.2 (!t444)))))) = some r := H
       have A93 := Aside0.mk A930
       clear A930
       obtain ⟨⟨t436, t437⟩, A940, H⟩ := Option.bind_eq_some_iff.mp H
       replace H : ((spec_CutsOfSigns.f kj27 t432 t433).bind fun bt440 => (if (t437 != bt440.2) = true then (none) else ((laws_zSame.f kj27 t436 bt440.1).bind fun t444 => (laws_FnSignsOfShares.j5 kj27 l1 t432 t433 t436 t437 (!t444))))) = some r := H
       have A94 := Aside0.mk A940
       clear A940
       obtain ⟨⟨t440, t441⟩, A950, H⟩ := Option.bind_eq_some_iff.mp H
       replace H : (if (t437 != t441) = true then (none) else ((laws_zSame.f kj27 t436 t440).bind fun t444 => (laws_FnSignsOfShares.j5 kj27 l1 t432 t433 t436 t437 (!t444)))) = some r := H
       have A95 := Aside0.mk A950
       clear A950
       have HC96 := Aside0.mk H
       clear H
       go_upto_region 39 with (first | (go_at_call 15; (with_reducible refine (spec_DrawCutsOfSigns.calls kj27 _ _ l1 t432 t433 _ ?side1 ?side2 A93.out).mono ?_); (case side1 => exact CW (Kd.C_below HR1.out HB.out)); (case side2 => exact HC1.out); rintro e w97 ⟨v434, rfl, ho0, hb⟩; have n0_ := Aside0.mk (Kd.R_lower ho0 (below_size BB)); have n1_ := Aside0.mk (below_step BB hb); clear HB; have HO435 := n0_; have HB := n1_; clear n0_ n1_; (try clear hb); (try clear hb2); (try clear hk); (try clear hi); (try clear ho0); obtain ⟨Ao98, co98, eo98⟩ := Kd.R_slice HO435.out; subst eo98) | (go_at_call 12; (with_reducible refine (impl_CutsOfSigns.calls kj27 t432 _ _ t433 t436 t437 _ ?side1 ?side2 A94.out).mono ?_); (case side1 => exact CW (Kd.R_reads' HO435.out).2.2); (case side2 => exact (Kd.R_reads' HO435.out).2.1); rintro e w99 ⟨v438, rfl, ho0, hb⟩; have n0_ := Aside0.mk (Kd.R_elder' (KR HO435) (Kd.R_base ho0) hb); have n1_ := Aside0.mk (Kd.R_lower (Kd.R_new' ho0 (Kd.R_lt (KR HO435))) (below_size BB)); have n2_ := Aside0.mk (below_step BB hb); clear HO435; clear HB; have HO435 := n0_; have HO439 := n1_; have HB := n2_; clear n0_ n1_ n2_; (try clear hb); (try clear hb2); (try clear hk); (try clear hi); (try clear ho0)) | (go_at_call 16; (with_reducible refine (spec_CutsOfSigns.calls kj27 t432 _ _ t433 t440 t441 _ ?side1 ?side2 A95.out).mono ?_); (case side1 => exact CW (Kd.R_reads' HO435.out).2.2); (case side2 => exact (Kd.R_reads' HO435.out).2.1); rintro e w100 ⟨v442, rfl, ho0, hb⟩; have n0_ := Aside0.mk (Kd.R_elder' (KR HO435) (Kd.R_base ho0) hb); have n1_ := Aside0.mk (Kd.R_elder' (KR HO439) (Kd.R_base ho0) hb); have n2_ := Aside0.mk (Kd.R_lower (Kd.R_new' (Kd.R_new' ho0 (Kd.R_lt (KR HO435))) (Kd.R_lt (KR HO439))) (below_size BB)); have n3_ := Aside0.mk (below_step BB hb); clear HO435; clear HO439; clear HB; have HO435 := n0_; have HO439 := n1_; have HO443 := n2_; have HB := n3_; clear n0_ n1_ n2_ n3_; (try clear hb); (try clear hb2); (try clear hk); (try clear hi); (try clear ho0)))
       repeat (go_quiet (first | (go_at_call 15; (with_reducible refine (spec_DrawCutsOfSigns.calls kj27 _ _ l1 t432 t433 _ ?side1 ?side2 A93.out).mono ?_); (case side1 => exact CW (Kd.C_below HR1.out HB.out)); (case side2 => exact HC1.out); rintro e w97 ⟨v434, rfl, ho0, hb⟩; have n0_ := Aside0.mk (Kd.R_lower ho0 (below_size BB)); have n1_ := Aside0.mk (below_step BB hb); clear HB; have HO435 := n0_; have HB := n1_; clear n0_ n1_; (try clear hb); (try clear hb2); (try clear hk); (try clear hi); (try clear ho0); obtain ⟨Ao98, co98, eo98⟩ := Kd.R_slice HO435.out; subst eo98) | (go_at_call 12; (with_reducible refine (impl_CutsOfSigns.calls kj27 t432 _ _ t433 t436 t437 _ ?side1 ?side2 A94.out).mono ?_); (case side1 => exact CW (Kd.R_reads' HO435.out).2.2); (case side2 => exact (Kd.R_reads' HO435.out).2.1); rintro e w99 ⟨v438, rfl, ho0, hb⟩; have n0_ := Aside0.mk (Kd.R_elder' (KR HO435) (Kd.R_base ho0) hb); have n1_ := Aside0.mk (Kd.R_lower (Kd.R_new' ho0 (Kd.R_lt (KR HO435))) (below_size BB)); have n2_ := Aside0.mk (below_step BB hb); clear HO435; clear HB; have HO435 := n0_; have HO439 := n1_; have HB := n2_; clear n0_ n1_ n2_; (try clear hb); (try clear hb2); (try clear hk); (try clear hi); (try clear ho0)) | (go_at_call 16; (with_reducible refine (spec_CutsOfSigns.calls kj27 t432 _ _ t433 t440 t441 _ ?side1 ?side2 A95.out).mono ?_); (case side1 => exact CW (Kd.R_reads' HO435.out).2.2); (case side2 => exact (Kd.R_reads' HO435.out).2.1); rintro e w100 ⟨v442, rfl, ho0, hb⟩; have n0_ := Aside0.mk (Kd.R_elder' (KR HO435) (Kd.R_base ho0) hb); have n1_ := Aside0.mk (Kd.R_elder' (KR HO439) (Kd.R_base ho0) hb); have n2_ := Aside0.mk (Kd.R_lower (Kd.R_new' (Kd.R_new' ho0 (Kd.R_lt (KR HO435))) (Kd.R_lt (KR HO439))) (below_size BB)); have n3_ := Aside0.mk (below_step BB hb); clear HO435; clear HO439; clear HB; have HO435 := n0_; have HO439 := n1_; have HO443 := n2_; have HB := n3_; clear n0_ n1_ n2_ n3_; (try clear hb); (try clear hb2); (try clear hk); (try clear hi); (try clear ho0))); go_upto_region 39 with (first | (go_at_call 15; (with_reducible refine (spec_DrawCutsOfSigns.calls kj27 _ _ l1 t432 t433 _ ?side1 ?side2 A93.out).mono ?_); (case side1 => exact CW (Kd.C_below HR1.out HB.out)); (case side2 => exact HC1.out); rintro e w97 ⟨v434, rfl, ho0, hb⟩; have n0_ := Aside0.mk (Kd.R_lower ho0 (below_size BB)); have n1_ := Aside0.mk (below_step BB hb); clear HB; have HO435 := n0_; have HB := n1_; clear n0_ n1_; (try clear hb); (try clear hb2); (try clear hk); (try clear hi); (try clear ho0); obtain ⟨Ao98, co98, eo98⟩ := Kd.R_slice HO435.out; subst eo98) | (go_at_call 12; (with_reducible refine (impl_CutsOfSigns.calls kj27 t432 _ _ t433 t436 t437 _ ?side1 ?side2 A94.out).mono ?_); (case side1 => exact CW (Kd.R_reads' HO435.out).2.2); (case side2 => exact (Kd.R_reads' HO435.out).2.1); rintro e w99 ⟨v438, rfl, ho0, hb⟩; have n0_ := Aside0.mk (Kd.R_elder' (KR HO435) (Kd.R_base ho0) hb); have n1_ := Aside0.mk (Kd.R_lower (Kd.R_new' ho0 (Kd.R_lt (KR HO435))) (below_size BB)); have n2_ := Aside0.mk (below_step BB hb); clear HO435; clear HB; have HO435 := n0_; have HO439 := n1_; have HB := n2_; clear n0_ n1_ n2_; (try clear hb); (try clear hb2); (try clear hk); (try clear hi); (try clear ho0)) | (go_at_call 16; (with_reducible refine (spec_CutsOfSigns.calls kj27 t432 _ _ t433 t440 t441 _ ?side1 ?side2 A95.out).mono ?_); (case side1 => exact CW (Kd.R_reads' HO435.out).2.2); (case side2 => exact (Kd.R_reads' HO435.out).2.1); rintro e w100 ⟨v442, rfl, ho0, hb⟩; have n0_ := Aside0.mk (Kd.R_elder' (KR HO435) (Kd.R_base ho0) hb); have n1_ := Aside0.mk (Kd.R_elder' (KR HO439) (Kd.R_base ho0) hb); have n2_ := Aside0.mk (Kd.R_lower (Kd.R_new' (Kd.R_new' ho0 (Kd.R_lt (KR HO435))) (Kd.R_lt (KR HO439))) (below_size BB)); have n3_ := Aside0.mk (below_step BB hb); clear HO435; clear HO439; clear HB; have HO435 := n0_; have HO439 := n1_; have HO443 := n2_; have HB := n3_; clear n0_ n1_ n2_ n3_; (try clear hb); (try clear hb2); (try clear hk); (try clear hi); (try clear ho0))))
       (try simp only [Act.put, List.setIfInBounds_toArray, List.set_cons_zero, List.set_cons_succ])
       go_cut [235] (fun v235 wc => ∃ (kq : Nat) (x235_95 : Bool), v235 = .bool x235_95 ∧ Aside0 (laws_FnSignsOfShares.j5 kq l1 t432 t433 t436 t437 x235_95 = some r) ∧ Aside0 (kq ≤ kj27) ∧ Aside0 (Kd.R (Kd.int .i64) 3 wc w.heap.size (fun k_ => some k_ ≠ (v438 : Value).ownBlock) (.slice Ao98 t433.length co98) t433) ∧ Aside0 (Kd.R (Kd.int .i64) 3 wc w.heap.size (fun k_ => some k_ ≠ ((.slice Ao98 t433.length co98) : Value).ownBlock) v438 t436) ∧ Aside0 (Below w.heap.size w wc))
       case first => as_aux_lemma =>
        have H := HC96.out
        clear HC96
        by_cases c101 : (t437 != t441) = true
        ·rw [if_pos c101] at H
         cases H
        ·rw [if_neg c101] at H
         have c101b0 : (t437 != t441) = false := by simpa using c101
         (try (have c101b1 : decide (t437 = t441) = true := by simpa using c101))
         (try (have c101b2 : (t437 == t441) = true := by simpa using c101))
         clear c101
         (first | rw [c101b0] | (simp only [i64_w, i32_w]; rw [c101b0]) | skip)
         obtain ⟨t444, A1020, H⟩ := Option.bind_eq_some_iff.mp H
         have A102 := Aside0.mk A1020
         clear A1020
         have H' := Aside0.mk H
         clear H
         obtain ⟨Ao103, co103, eo103⟩ := Kd.R_slice HO439.out
         subst eo103
         obtain ⟨Ao104, co104, eo104⟩ := Kd.R_slice HO443.out
         subst eo104
         go_wp2_with (first | (go_at_call 11; (with_reducible refine (laws_zSame.calls kj27 _ _ t436 _ _ t440 t444 _ ?side1 ?side2 ?side3 ?side4 A102.out).mono ?_); (case side1 => exact CW (Kd.R_reads' HO439.out).2.2); (case side2 => exact (Kd.R_reads' HO439.out).2.1); (case side3 => exact CW (Kd.R_reads' HO443.out).2.2); (case side4 => exact (Kd.R_reads' HO443.out).2.1); rintro e w' ⟨rfl, ⟨nd, rfl⟩⟩; (try first | exact ⟨rfl, _, World.drewN_drewN _ _ _⟩ | exact ⟨rfl, _, Eq.trans (World.drewN_drewN _ _ _) (congrArg (World.drewN _) (Nat.add_assoc _ _ _))⟩)))
         repeat (go_quiet (first | (go_at_call 11; (with_reducible refine (laws_zSame.calls kj27 _ _ t436 _ _ t440 t444 _ ?side1 ?side2 ?side3 ?side4 A102.out).mono ?_); (case side1 => exact CW (Kd.R_reads' HO439.out).2.2); (case side2 => exact (Kd.R_reads' HO439.out).2.1); (case side3 => exact CW (Kd.R_reads' HO443.out).2.2); (case side4 => exact (Kd.R_reads' HO443.out).2.1); rintro e w' ⟨rfl, ⟨nd, rfl⟩⟩; (try first | exact ⟨rfl, _, World.drewN_drewN _ _ _⟩ | exact ⟨rfl, _, Eq.trans (World.drewN_drewN _ _ _) (congrArg (World.drewN _) (Nat.add_assoc _ _ _))⟩))); try go_wp2_with (first | (go_at_call 11; (with_reducible refine (laws_zSame.calls kj27 _ _ t436 _ _ t440 t444 _ ?side1 ?side2 ?side3 ?side4 A102.out).mono ?_); (case side1 => exact CW (Kd.R_reads' HO439.out).2.2); (case side2 => exact (Kd.R_reads' HO439.out).2.1); (case side3 => exact CW (Kd.R_reads' HO443.out).2.2); (case side4 => exact (Kd.R_reads' HO443.out).2.1); rintro e w' ⟨rfl, ⟨nd, rfl⟩⟩; (try first | exact ⟨rfl, _, World.drewN_drewN _ _ _⟩ | exact ⟨rfl, _, Eq.trans (World.drewN_drewN _ _ _) (congrArg (World.drewN _) (Nat.add_assoc _ _ _))⟩))))
         go_meet
         case rel => exact ⟨_, (!t444), RF, H', ⟨by have := HJ9.out; have := HJ27.out; first | omega | exact Nat.le_refl _⟩, ⟨by (with_reducible repeat (first | apply Kd.R_alloc | apply Kd.R_drewN | apply Kd.R_drew)); exact Kd.R_mono HO435.out (fun _ hk => hk.1.2)⟩, ⟨by (with_reducible repeat (first | apply Kd.R_alloc | apply Kd.R_drewN | apply Kd.R_drew)); exact Kd.R_mono HO439.out (fun _ hk => hk.1.2)⟩, ⟨BB⟩⟩
       case rest => as_aux_lemma =>
        clear HC96
        try clear c1
        try clear c2
        try clear p2
        try clear c3
        try clear c4
        try clear p4
        try clear q4
        try clear hx4
        try clear c5
        try clear p5
        try clear q5
        try clear hx5
        try clear hf5
        try clear c6
        try clear p6
        try clear q6
        try clear hx6
        try clear hf6
        try clear c7
        try clear c8
        try clear c9
        try clear c10
        try clear c17
        try clear c17b0
        try clear c17b1
        try clear c17b2
        try clear c19
        try clear c20
        try clear c20b0
        try clear c20b1
        try clear c20b2
        try clear c22
        try clear c27
        try clear c29
        try clear c38
        try clear c40
        try clear c41
        try clear p41
        try clear q41
        try clear hx41
        try clear c42
        try clear p42
        try clear q42
        try clear hx42
        try clear p43
        try clear q43
        try clear hx43
        try clear c44
        try clear c45
        try clear c45b0
        try clear c45b1
        try clear c50
        try clear c50b0
        try clear c51
        try clear c51b0
        try clear c52
        try clear c52b0
        try clear c53
        try clear c53b0
        try clear p54
        try clear q54
        try clear hx54
        try clear c56
        try clear c56b0
        try clear c57
        try clear c57b0
        try clear p58
        try clear q58
        try clear hx58
        try clear hf58
        try clear c59
        try clear c59b0
        try clear c59b1
        try clear c60
        try clear c60b0
        try clear p61
        try clear q61
        try clear hx61
        try clear hf61
        try clear p64
        try clear c72
        try clear c72b0
        try clear c73
        try clear c73b0
        try clear c74
        try clear c74b0
        try clear c75
        try clear c76
        try clear c76b0
        try clear c77
        try clear c77b0
        try clear c78
        try clear c78b0
        try clear c78b1
        try clear c79
        try clear c79b0
        try clear c80
        try clear c80b0
        try clear c80b1
        try clear c84
        try clear c84b0
        try clear c85
        try clear c85b0
        try clear c86
        try clear c86b0
        try clear c86b1
        try clear c87
        try clear c87b0
        try clear c88
        try clear c88b0
        try clear c88b1
        try clear c92
        try clear c92b0
        try clear c92b1
        try clear c92b2
        try clear c101
        try clear c101b0
        try clear c101b1
        try clear c101b2
        try clear hx418_0
        try clear hx419_0
        try clear hx421_0
        try clear hx423_0
        try clear hx424_0
        try clear hx425_0
        try clear hx426_0
        try clear hx427_0
        try clear hx428_0
        try clear hx429_0
        try clear hx430_0
        try clear hx431_0
        try clear hx58_0
        try clear hx61_0
        try clear p2
        try clear p4
        try clear p41
        try clear p418
        try clear p419
        try clear p42
        try clear p421
        try clear p423
        try clear p424
        try clear p425
        try clear p426
        try clear p427
        try clear p428
        try clear p429
        try clear p43
        try clear p430
        try clear p431
        try clear p5
        try clear p54
        try clear p58
        try clear p6
        try clear p61
        try clear p64
        try clear q4
        try clear q41
        try clear q418
        try clear q419
        try clear q42
        try clear q421
        try clear q423
        try clear q424
        try clear q425
        try clear q426
        try clear q427
        try clear q428
        try clear q429
        try clear q43
        try clear q430
        try clear q431
        try clear q5
        try clear q54
        try clear q58
        try clear q6
        try clear q61
        obtain ⟨kq, x235_95, rfl, HA, HJ95, HO_30, HO_31, HB⟩ := hcut
        cases kq with
        | zero => exact absurd HA.out (by simp [laws_FnSignsOfShares.j5])
        | succ kj95 =>
         have H := HA.out
         clear HA
         simp only [laws_FnSignsOfShares.j5] at H
         by_cases c105 : x235_95 = true
         ·subst c105
          replace H := IP H
          cases H
         ·replace c105 := Bool.eq_false_iff.mpr c105
          subst c105
          replace H := IN H
          by_cases c106 : t437 = true
          ·subst c106
           replace H := IP H
           obtain ⟨⟨t445, t446⟩, A1070, H⟩ := Option.bind_eq_some_iff.mp H
           replace H : (if t446 = true then ((laws_zSame.f kj95 t445 t433).bind fun t449 => (laws_FnSignsOfShares.j6 kj95 l1 (!t449))) else (none)) = some r := H
           have A107 := Aside0.mk A1070
           clear A1070
           have HC108 := Aside0.mk H
           clear H
           obtain ⟨Ao109, co109, eo109⟩ := Kd.R_slice HO_31.out
           subst eo109
           go_upto_region 43 with (first | (go_at_call 7; (with_reducible refine (impl_SignsOf.calls kj95 t432 _ _ t436 t445 t446 _ ?side1 ?side2 A107.out).mono ?_); (case side1 => exact CW (Kd.R_reads' HO_31.out).2.2); (case side2 => exact (Kd.R_reads' HO_31.out).2.1); rintro e w110 ⟨v447, rfl, ho0, hb⟩; have n0_ := Aside0.mk (Kd.R_elder' (KR HO_30) (Kd.R_base ho0) hb); have n1_ := Aside0.mk (Kd.R_elder' (KR HO_31) (Kd.R_base ho0) hb); have n2_ := Aside0.mk (Kd.R_lower (Kd.R_new' (Kd.R_new' ho0 (Kd.R_lt (KR HO_30))) (Kd.R_lt (KR HO_31))) (below_size BB)); have n3_ := Aside0.mk (below_step BB hb); clear HO_30; clear HO_31; clear HB; have HO_30 := n0_; have HO_31 := n1_; have HO448 := n2_; have HB := n3_; clear n0_ n1_ n2_ n3_; (try clear hb); (try clear hb2); (try clear hk); (try clear hi); (try clear ho0)))
           repeat (go_quiet (first | (go_at_call 7; (with_reducible refine (impl_SignsOf.calls kj95 t432 _ _ t436 t445 t446 _ ?side1 ?side2 A107.out).mono ?_); (case side1 => exact CW (Kd.R_reads' HO_31.out).2.2); (case side2 => exact (Kd.R_reads' HO_31.out).2.1); rintro e w110 ⟨v447, rfl, ho0, hb⟩; have n0_ := Aside0.mk (Kd.R_elder' (KR HO_30) (Kd.R_base ho0) hb); have n1_ := Aside0.mk (Kd.R_elder' (KR HO_31) (Kd.R_base ho0) hb); have n2_ := Aside0.mk (Kd.R_lower (Kd.R_new' (Kd.R_new' ho0 (Kd.R_lt (KR HO_30))) (Kd.R_lt (KR HO_31))) (below_size BB)); have n3_ := Aside0.mk (below_step BB hb); clear HO_30; clear HO_31; clear HB; have HO_30 := n0_; have HO_31 := n1_; have HO448 := n2_; have HB := n3_; clear n0_ n1_ n2_ n3_; (try clear hb); (try clear hb2); (try clear hk); (try clear hi); (try clear ho0))); go_upto_region 43 with (first | (go_at_call 7; (with_reducible refine (impl_SignsOf.calls kj95 t432 _ _ t436 t445 t446 _ ?side1 ?side2 A107.out).mono ?_); (case side1 => exact CW (Kd.R_reads' HO_31.out).2.2); (case side2 => exact (Kd.R_reads' HO_31.out).2.1); rintro e w110 ⟨v447, rfl, ho0, hb⟩; have n0_ := Aside0.mk (Kd.R_elder' (KR HO_30) (Kd.R_base ho0) hb); have n1_ := Aside0.mk (Kd.R_elder' (KR HO_31) (Kd.R_base ho0) hb); have n2_ := Aside0.mk (Kd.R_lower (Kd.R_new' (Kd.R_new' ho0 (Kd.R_lt (KR HO_30))) (Kd.R_lt (KR HO_31))) (below_size BB)); have n3_ := Aside0.mk (below_step BB hb); clear HO_30; clear HO_31; clear HB; have HO_30 := n0_; have HO_31 := n1_; have HO448 := n2_; have HB := n3_; clear n0_ n1_ n2_ n3_; (try clear hb); (try clear hb2); (try clear hk); (try clear hi); (try clear ho0))))
           (try simp only [Act.put, List.setIfInBounds_toArray, List.set_cons_zero, List.set_cons_succ])
           go_cut [250] (fun v250 wc => ∃ (kq : Nat) (x250_107 : Bool), v250 = .bool x250_107 ∧ Aside0 (laws_FnSignsOfShares.j6 kq l1 x250_107 = some r) ∧ Aside0 (kq ≤ kj95) ∧ Aside0 (Below w.heap.size w wc))
           case first => as_aux_lemma =>
            have H := HC108.out
            clear HC108
            by_cases c111 : t446 = true
            ·subst c111
             replace H := IP H
             obtain ⟨t449, A1120, H⟩ := Option.bind_eq_some_iff.mp H
             have A112 := Aside0.mk A1120
             clear A1120
             have H' := Aside0.mk H
             clear H
             obtain ⟨Ao113, co113, eo113⟩ := Kd.R_slice HO448.out
             subst eo113
             go_wp2_with (first | (go_at_call 11; (with_reducible refine (laws_zSame.calls kj95 _ _ t445 _ _ t433 t449 _ ?side1 ?side2 ?side3 ?side4 A112.out).mono ?_); (case side1 => exact CW (Kd.R_reads' HO448.out).2.2); (case side2 => exact (Kd.R_reads' HO448.out).2.1); (case side3 => exact CW (Kd.R_reads' HO_30.out).2.2); (case side4 => exact (Kd.R_reads' HO_30.out).2.1); rintro e w' ⟨rfl, ⟨nd, rfl⟩⟩; (try first | exact ⟨rfl, _, World.drewN_drewN _ _ _⟩ | exact ⟨rfl, _, Eq.trans (World.drewN_drewN _ _ _) (congrArg (World.drewN _) (Nat.add_assoc _ _ _))⟩)))
             repeat (go_quiet (first | (go_at_call 11; (with_reducible refine (laws_zSame.calls kj95 _ _ t445 _ _ t433 t449 _ ?side1 ?side2 ?side3 ?side4 A112.out).mono ?_); (case side1 => exact CW (Kd.R_reads' HO448.out).2.2); (case side2 => exact (Kd.R_reads' HO448.out).2.1); (case side3 => exact CW (Kd.R_reads' HO_30.out).2.2); (case side4 => exact (Kd.R_reads' HO_30.out).2.1); rintro e w' ⟨rfl, ⟨nd, rfl⟩⟩; (try first | exact ⟨rfl, _, World.drewN_drewN _ _ _⟩ | exact ⟨rfl, _, Eq.trans (World.drewN_drewN _ _ _) (congrArg (World.drewN _) (Nat.add_assoc _ _ _))⟩))); try go_wp2_with (first | (go_at_call 11; (with_reducible refine (laws_zSame.calls kj95 _ _ t445 _ _ t433 t449 _ ?side1 ?side2 ?side3 ?side4 A112.out).mono ?_); (case side1 => exact CW (Kd.R_reads' HO448.out).2.2); (case side2 => exact (Kd.R_reads' HO448.out).2.1); (case side3 => exact CW (Kd.R_reads' HO_30.out).2.2); (case side4 => exact (Kd.R_reads' HO_30.out).2.1); rintro e w' ⟨rfl, ⟨nd, rfl⟩⟩; (try first | exact ⟨rfl, _, World.drewN_drewN _ _ _⟩ | exact ⟨rfl, _, Eq.trans (World.drewN_drewN _ _ _) (congrArg (World.drewN _) (Nat.add_assoc _ _ _))⟩))))
             go_meet
             case rel => exact ⟨_, (!t449), RF, H', ⟨by have := HJ9.out; have := HJ27.out; have := HJ95.out; first | omega | exact Nat.le_refl _⟩, ⟨BB⟩⟩
            ·replace c111 := Bool.eq_false_iff.mpr c111
             subst c111
             replace H := IN H
             cases H
           case rest => as_aux_lemma =>
            clear HC108
            try clear c1
            try clear c2
            try clear p2
            try clear c3
            try clear c4
            try clear p4
            try clear q4
            try clear hx4
            try clear c5
            try clear p5
            try clear q5
            try clear hx5
            try clear hf5
            try clear c6
            try clear p6
            try clear q6
            try clear hx6
            try clear hf6
            try clear c7
            try clear c8
            try clear c9
            try clear c10
            try clear c11
            try clear c17
            try clear c17b0
            try clear c17b1
            try clear c17b2
            try clear c19
            try clear c20
            try clear c20b0
            try clear c20b1
            try clear c20b2
            try clear c22
            try clear c27
            try clear c29
            try clear c38
            try clear c40
            try clear c41
            try clear p41
            try clear q41
            try clear hx41
            try clear c42
            try clear p42
            try clear q42
            try clear hx42
            try clear p43
            try clear q43
            try clear hx43
            try clear c44
            try clear c45
            try clear c45b0
            try clear c45b1
            try clear c50
            try clear c50b0
            try clear c51
            try clear c51b0
            try clear c52
            try clear c52b0
            try clear c53
            try clear c53b0
            try clear p54
            try clear q54
            try clear hx54
            try clear c56
            try clear c56b0
            try clear c57
            try clear c57b0
            try clear p58
            try clear q58
            try clear hx58
            try clear hf58
            try clear c59
            try clear c59b0
            try clear c59b1
            try clear c60
            try clear c60b0
            try clear p61
            try clear q61
            try clear hx61
            try clear hf61
            try clear p64
            try clear c72
            try clear c72b0
            try clear c73
            try clear c73b0
            try clear c74
            try clear c74b0
            try clear c75
            try clear c76
            try clear c76b0
            try clear c77
            try clear c77b0
            try clear c78
            try clear c78b0
            try clear c78b1
            try clear c79
            try clear c79b0
            try clear c80
            try clear c80b0
            try clear c80b1
            try clear c84
            try clear c84b0
            try clear c85
            try clear c85b0
            try clear c86
            try clear c86b0
            try clear c86b1
            try clear c87
            try clear c87b0
            try clear c88
            try clear c88b0
            try clear c88b1
            try clear c92
            try clear c92b0
            try clear c92b1
            try clear c92b2
            try clear c101
            try clear c101b0
            try clear c101b1
            try clear c101b2
            try clear c105
            try clear c106
            try clear c111
            try clear hx418_0
            try clear hx419_0
            try clear hx421_0
            try clear hx423_0
            try clear hx424_0
            try clear hx425_0
            try clear hx426_0
            try clear hx427_0
            try clear hx428_0
            try clear hx429_0
            try clear hx430_0
            try clear hx431_0
            try clear hx58_0
            try clear hx61_0
            try clear p2
            try clear p4
            try clear p41
            try clear p418
            try clear p419
            try clear p42
            try clear p421
            try clear p423
            try clear p424
            try clear p425
            try clear p426
            try clear p427
            try clear p428
            try clear p429
            try clear p43
            try clear p430
            try clear p431
            try clear p5
            try clear p54
            try clear p58
            try clear p6
            try clear p61
            try clear p64
            try clear q4
            try clear q41
            try clear q418
            try clear q419
            try clear q42
            try clear q421
            try clear q423
            try clear q424
            try clear q425
            try clear q426
            try clear q427
            try clear q428
            try clear q429
            try clear q43
            try clear q430
            try clear q431
            try clear q5
            try clear q54
            try clear q58
            try clear q6
            try clear q61
            obtain ⟨kq, x250_107, rfl, HA, HJ107, HB⟩ := hcut
            cases kq with
            | zero => exact absurd HA.out (by simp [laws_FnSignsOfShares.j6])
            | succ kj107 =>
             have H := HA.out
             clear HA
             simp only [laws_FnSignsOfShares.j6] at H
             by_cases c114 : x250_107 = true
             ·subst c114
              replace H := IP H
              cases H
             ·replace c114 := Bool.eq_false_iff.mpr c114
              subst c114
              replace H := IN H
              obtain ⟨⟨t450, t451⟩, A1150, H⟩ := Option.bind_eq_some_iff.mp H
              replace H : ((impl_IsFairSplit.f kj107 t450 t451).bind fun bt454 => ((spec_IsFairSplit.f kj107 t450 t451).bind fun bt456 => (if (bt454.2 == bt456.2) = true then (some (bt454.1 == bt456.1)) else (none)))) = some r := H
              have A115 := Aside0.mk A1150
              clear A1150
              obtain ⟨⟨t454, t455⟩, A1160, H⟩ := Option.bind_eq_some_iff.mp H
              replace H : ((spec_IsFairSplit.f kj107 t450 t451).bind fun bt456 => (if (t455 == bt456.2) = true then (some (t454 == bt456.1)) else (none))) = some r := H
              have A116 := Aside0.mk A1160
              clear A1160
              obtain ⟨⟨t456, t457⟩, A1170, H⟩ := Option.bind_eq_some_iff.mp H
              replace H : (if (t455 == t457) = true then (some (t454 == t456)) else (none)) = some r := H
              have A117 := Aside0.mk A1170
              clear A1170
              by_cases c118 : (t455 == t457) = true
              ·rw [if_pos c118] at H
               have c118b0 : (t455 == t457) = true := c118
               (try (have c118b1 : decide (t455 = t457) = true := by simpa using c118))
               (try (have c118b2 : (t455 == t457) = true := by simpa using c118))
               clear c118
               obtain rfl := Option.some.inj H
               go_wp2_with (first | (go_at_call 17; (with_reducible refine (spec_DrawIsFairSplit.calls kj107 _ _ l1 t450 t451 _ ?side1 ?side2 A115.out).mono ?_); (case side1 => exact CW (Kd.C_below HR1.out HB.out)); (case side2 => exact HC1.out); rintro e w119 ⟨v452, rfl, ho0, hb⟩; have n0_ := Aside0.mk (Kd.R_lower ho0 (below_size BB)); have n1_ := Aside0.mk (below_step BB hb); clear HB; have HO453 := n0_; have HB := n1_; clear n0_ n1_; (try clear hb); (try clear hb2); (try clear hk); (try clear hi); (try clear ho0); obtain ⟨Ao120, co120, eo120⟩ := Kd.R_slice HO453.out; subst eo120) | (go_at_call 13; (with_reducible refine (impl_IsFairSplit.calls kj107 t450 _ _ t451 t454 t455 _ ?side1 ?side2 A116.out).mono ?_); (case side1 => exact CW (Kd.R_reads' HO453.out).2.2); (case side2 => exact (Kd.R_reads' HO453.out).2.1); rintro e w121 ⟨rfl, hb⟩; have n0_ := Aside0.mk (Kd.R_below (KR HO453) hb); have n1_ := Aside0.mk (below_step BB hb); clear HO453; clear HB; have HO453 := n0_; have HB := n1_; clear n0_ n1_; (try clear hb); (try clear hb2); (try clear hk); (try clear hi)) | (go_at_call 18; (with_reducible refine (spec_IsFairSplit.calls kj107 t450 _ _ t451 t456 t457 _ ?side1 ?side2 A117.out).mono ?_); (case side1 => exact CW (Kd.R_reads' HO453.out).2.2); (case side2 => exact (Kd.R_reads' HO453.out).2.1); rintro e w122 ⟨rfl, hb⟩; have n0_ := Aside0.mk (Kd.R_below (KR HO453) hb); have n1_ := Aside0.mk (below_step BB hb); clear HO453; clear HB; have HO453 := n0_; have HB := n1_; clear n0_ n1_; (try clear hb); (try clear hb2); (try clear hk); (try clear hi)))
               repeat (go_quiet (first | (go_at_call 17; (with_reducible refine (spec_DrawIsFairSplit.calls kj107 _ _ l1 t450 t451 _ ?side1 ?side2 A115.out).mono ?_); (case side1 => exact CW (Kd.C_below HR1.out HB.out)); (case side2 => exact HC1.out); rintro e w119 ⟨v452, rfl, ho0, hb⟩; have n0_ := Aside0.mk (Kd.R_lower ho0 (below_size BB)); have n1_ := Aside0.mk (below_step BB hb); clear HB; have HO453 := n0_; have HB := n1_; clear n0_ n1_; (try clear hb); (try clear hb2); (try clear hk); (try clear hi); (try clear ho0); obtain ⟨Ao120, co120, eo120⟩ := Kd.R_slice HO453.out; subst eo120) | (go_at_call 13; (with_reducible refine (impl_IsFairSplit.calls kj107 t450 _ _ t451 t454 t455 _ ?side1 ?side2 A116.out).mono ?_); (case side1 => exact CW (Kd.R_reads' HO453.out).2.2); (case side2 => exact (Kd.R_reads' HO453.out).2.1); rintro e w121 ⟨rfl, hb⟩; have n0_ := Aside0.mk (Kd.R_below (KR HO453) hb); have n1_ := Aside0.mk (below_step BB hb); clear HO453; clear HB; have HO453 := n0_; have HB := n1_; clear n0_ n1_; (try clear hb); (try clear hb2); (try clear hk); (try clear hi)) | (go_at_call 18; (with_reducible refine (spec_IsFairSplit.calls kj107 t450 _ _ t451 t456 t457 _ ?side1 ?side2 A117.out).mono ?_); (case side1 => exact CW (Kd.R_reads' HO453.out).2.2); (case side2 => exact (Kd.R_reads' HO453.out).2.1); rintro e w122 ⟨rfl, hb⟩; have n0_ := Aside0.mk (Kd.R_below (KR HO453) hb); have n1_ := Aside0.mk (below_step BB hb); clear HO453; clear HB; have HO453 := n0_; have HB := n1_; clear n0_ n1_; (try clear hb); (try clear hb2); (try clear hk); (try clear hi))); try go_wp2_with (first | (go_at_call 17; (with_reducible refine (spec_DrawIsFairSplit.calls kj107 _ _ l1 t450 t451 _ ?side1 ?side2 A115.out).mono ?_); (case side1 => exact CW (Kd.C_below HR1.out HB.out)); (case side2 => exact HC1.out); rintro e w119 ⟨v452, rfl, ho0, hb⟩; have n0_ := Aside0.mk (Kd.R_lower ho0 (below_size BB)); have n1_ := Aside0.mk (below_step BB hb); clear HB; have HO453 := n0_; have HB := n1_; clear n0_ n1_; (try clear hb); (try clear hb2); (try clear hk); (try clear hi); (try clear ho0); obtain ⟨Ao120, co120, eo120⟩ := Kd.R_slice HO453.out; subst eo120) | (go_at_call 13; (with_reducible refine (impl_IsFairSplit.calls kj107 t450 _ _ t451 t454 t455 _ ?side1 ?side2 A116.out).mono ?_); (case side1 => exact CW (Kd.R_reads' HO453.out).2.2); (case side2 => exact (Kd.R_reads' HO453.out).2.1); rintro e w121 ⟨rfl, hb⟩; have n0_ := Aside0.mk (Kd.R_below (KR HO453) hb); have n1_ := Aside0.mk (below_step BB hb); clear HO453; clear HB; have HO453 := n0_; have HB := n1_; clear n0_ n1_; (try clear hb); (try clear hb2); (try clear hk); (try clear hi)) | (go_at_call 18; (with_reducible refine (spec_IsFairSplit.calls kj107 t450 _ _ t451 t456 t457 _ ?side1 ?side2 A117.out).mono ?_); (case side1 => exact CW (Kd.R_reads' HO453.out).2.2); (case side2 => exact (Kd.R_reads' HO453.out).2.1); rintro e w122 ⟨rfl, hb⟩; have n0_ := Aside0.mk (Kd.R_below (KR HO453) hb); have n1_ := Aside0.mk (below_step BB hb); clear HO453; clear HB; have HO453 := n0_; have HB := n1_; clear n0_ n1_; (try clear hb); (try clear hb2); (try clear hk); (try clear hi))))
               go_ret
               exact ⟨RE, BB⟩
              ·rw [if_neg c118] at H
               cases H
          ·replace c106 := Bool.eq_false_iff.mpr c106
           subst c106
           replace H := IN H
           obtain ⟨⟨t458, t459⟩, A1230, H⟩ := Option.bind_eq_some_iff.mp H
           replace H : ((impl_IsFairSplit.f kj95 t458 t459).bind fun bt462 => ((spec_IsFairSplit.f kj95 t458 t459).bind fun bt464 => (if (bt462.2 == bt464.2) = true then (some (bt462.1 == bt464.1)) else (none)))) = some r := H
           have A123 := Aside0.mk A1230
           clear A1230
           obtain ⟨⟨t462, t463⟩, A1240, H⟩ := Option.bind_eq_some_iff.mp H
           replace H : ((spec_IsFairSplit.f kj95 t458 t459).bind fun bt464 => (if (t463 == bt464.2) = true then (some (t462 == bt464.1)) else (none))) = some r := H
           have A124 := Aside0.mk A1240
           clear A1240
           obtain ⟨⟨t464, t465⟩, A1250, H⟩ := Option.bind_eq_some_iff.mp H
           replace H : (if (t463 == t465) = true then (some (t462 == t464)) else (none)) = some r := H
           have A125 := Aside0.mk A1250
           clear A1250
           by_cases c126 : (t463 == t465) = true
           ·rw [if_pos c126] at H
            have c126b0 : (t463 == t465) = true := c126
            (try (have c126b1 : decide (t463 = t465) = true := by simpa using c126))
            (try (have c126b2 : (t463 == t465) = true := by simpa using c126))
            clear c126
            obtain rfl := Option.some.inj H
            go_wp2_with (first | (go_at_call 17; (with_reducible refine (spec_DrawIsFairSplit.calls kj95 _ _ l1 t458 t459 _ ?side1 ?side2 A123.out).mono ?_); (case side1 => exact CW (Kd.C_below HR1.out HB.out)); (case side2 => exact HC1.out); rintro e w127 ⟨v460, rfl, ho0, hb⟩; have n0_ := Aside0.mk (Kd.R_elder' (KR HO_30) (Kd.R_base ho0) hb); have n1_ := Aside0.mk (Kd.R_elder' (KR HO_31) (Kd.R_base ho0) hb); have n2_ := Aside0.mk (Kd.R_lower (Kd.R_new' (Kd.R_new' ho0 (Kd.R_lt (KR HO_30))) (Kd.R_lt (KR HO_31))) (below_size BB)); have n3_ := Aside0.mk (below_step BB hb); clear HO_30; clear HO_31; clear HB; have HO_30 := n0_; have HO_31 := n1_; have HO461 := n2_; have HB := n3_; clear n0_ n1_ n2_ n3_; (try clear hb); (try clear hb2); (try clear hk); (try clear hi); (try clear ho0); obtain ⟨Ao128, co128, eo128⟩ := Kd.R_slice HO461.out; subst eo128) | (go_at_call 13; (with_reducible refine (impl_IsFairSplit.calls kj95 t458 _ _ t459 t462 t463 _ ?side1 ?side2 A124.out).mono ?_); (case side1 => exact CW (Kd.R_reads' HO461.out).2.2); (case side2 => exact (Kd.R_reads' HO461.out).2.1); rintro e w129 ⟨rfl, hb⟩; have n0_ := Aside0.mk (Kd.R_below (KR HO_30) hb); have n1_ := Aside0.mk (Kd.R_below (KR HO_31) hb); have n2_ := Aside0.mk (Kd.R_below (KR HO461) hb); have n3_ := Aside0.mk (below_step BB hb); clear HO_30; clear HO_31; clear HO461; clear HB; have HO_30 := n0_; have HO_31 := n1_; have HO461 := n2_; have HB := n3_; clear n0_ n1_ n2_ n3_; (try clear hb); (try clear hb2); (try clear hk); (try clear hi)) | (go_at_call 18; (with_reducible refine (spec_IsFairSplit.calls kj95 t458 _ _ t459 t464 t465 _ ?side1 ?side2 A125.out).mono ?_); (case side1 => exact CW (Kd.R_reads' HO461.out).2.2); (case side2 => exact (Kd.R_reads' HO461.out).2.1); rintro e w130 ⟨rfl, hb⟩; have n0_ := Aside0.mk (Kd.R_below (KR HO_30) hb); have n1_ := Aside0.mk (Kd.R_below (KR HO_31) hb); have n2_ := Aside0.mk (Kd.R_below (KR HO461) hb); have n3_ := Aside0.mk (below_step BB hb); clear HO_30; clear HO_31; clear HO461; clear HB; have HO_30 := n0_; have HO_31 := n1_; have HO461 := n2_; have HB := n3_; clear n0_ n1_ n2_ n3_; (try clear hb); (try clear hb2); (try clear hk); (try clear hi)))
            repeat (go_quiet (first | (go_at_call 17; (with_reducible refine (spec_DrawIsFairSplit.calls kj95 _ _ l1 t458 t459 _ ?side1 ?side2 A123.out).mono ?_); (case side1 => exact CW (Kd.C_below HR1.out HB.out)); (case side2 => exact HC1.out); rintro e w127 ⟨v460, rfl, ho0, hb⟩; have n0_ := Aside0.mk (Kd.R_elder' (KR HO_30) (Kd.R_base ho0) hb); have n1_ := Aside0.mk (Kd.R_elder' (KR HO_31) (Kd.R_base ho0) hb); have n2_ := Aside0.mk (Kd.R_lower (Kd.R_new' (Kd.R_new' ho0 (Kd.R_lt (KR HO_30))) (Kd.R_lt (KR HO_31))) (below_size BB)); have n3_ := Aside0.mk (below_step BB hb); clear HO_30; clear HO_31; clear HB; have HO_30 := n0_; have HO_31 := n1_; have HO461 := n2_; have HB := n3_; clear n0_ n1_ n2_ n3_; (try clear hb); (try clear hb2); (try clear hk); (try clear hi); (try clear ho0); obtain ⟨Ao128, co128, eo128⟩ := Kd.R_slice HO461.out; subst eo128) | (go_at_call 13; (with_reducible refine (impl_IsFairSplit.calls kj95 t458 _ _ t459 t462 t463 _ ?side1 ?side2 A124.out).mono ?_); (case side1 => exact CW (Kd.R_reads' HO461.out).2.2); (case side2 => exact (Kd.R_reads' HO461.out).2.1); rintro e w129 ⟨rfl, hb⟩; have n0_ := Aside0.mk (Kd.R_below (KR HO_30) hb); have n1_ := Aside0.mk (Kd.R_below (KR HO_31) hb); have n2_ := Aside0.mk (Kd.R_below (KR HO461) hb); have n3_ := Aside0.mk (below_step BB hb); clear HO_30; clear HO_31; clear HO461; clear HB; have HO_30 := n0_; have HO_31 := n1_; have HO461 := n2_; have HB := n3_; clear n0_ n1_ n2_ n3_; (try clear hb); (try clear hb2); (try clear hk); (try clear hi)) | (go_at_call 18; (with_reducible refine (spec_IsFairSplit.calls kj95 t458 _ _ t459 t464 t465 _ ?side1 ?side2 A125.out).mono ?_); (case side1 => exact CW (Kd.R_reads' HO461.out).2.2); (case side2 => exact (Kd.R_reads' HO461.out).2.1); rintro e w130 ⟨rfl, hb⟩; have n0_ := Aside0.mk (Kd.R_below (KR HO_30) hb); have n1_ := Aside0.mk (Kd.R_below (KR HO_31) hb); have n2_ := Aside0.mk (Kd.R_below (KR HO461) hb); have n3_ := Aside0.mk (below_step BB hb); clear HO_30; clear HO_31; clear HO461; clear HB; have HO_30 := n0_; have HO_31 := n1_; have HO461 := n2_; have HB := n3_; clear n0_ n1_ n2_ n3_; (try clear hb); (try clear hb2); (try clear hk); (try clear hi))); try go_wp2_with (first | (go_at_call 17; (with_reducible refine (spec_DrawIsFairSplit.calls kj95 _ _ l1 t458 t459 _ ?side1 ?side2 A123.out).mono ?_); (case side1 => exact CW (Kd.C_below HR1.out HB.out)); (case side2 => exact HC1.out); rintro e w127 ⟨v460, rfl, ho0, hb⟩; have n0_ := Aside0.mk (Kd.R_elder' (KR HO_30) (Kd.R_base ho0) hb); have n1_ := Aside0.mk (Kd.R_elder' (KR HO_31) (Kd.R_base ho0) hb); have n2_ := Aside0.mk (Kd.R_lower (Kd.R_new' (Kd.R_new' ho0 (Kd.R_lt (KR HO_30))) (Kd.R_lt (KR HO_31))) (below_size BB)); have n3_ := Aside0.mk (below_step BB hb); clear HO_30; clear HO_31; clear HB; have HO_30 := n0_; have HO_31 := n1_; have HO461 := n2_; have HB := n3_; clear n0_ n1_ n2_ n3_; (try clear hb); (try clear hb2); (try clear hk); (try clear hi); (try clear ho0); obtain ⟨Ao128, co128, eo128⟩ := Kd.R_slice HO461.out; subst eo128) | (go_at_call 13; (with_reducible refine (impl_IsFairSplit.calls kj95 t458 _ _ t459 t462 t463 _ ?side1 ?side2 A124.out).mono ?_); (case side1 => exact CW (Kd.R_reads' HO461.out).2.2); (case side2 => exact (Kd.R_reads' HO461.out).2.1); rintro e w129 ⟨rfl, hb⟩; have n0_ := Aside0.mk (Kd.R_below (KR HO_30) hb); have n1_ := Aside0.mk (Kd.R_below (KR HO_31) hb); have n2_ := Aside0.mk (Kd.R_below (KR HO461) hb); have n3_ := Aside0.mk (below_step BB hb); clear HO_30; clear HO_31; clear HO461; clear HB; have HO_30 := n0_; have HO_31 := n1_; have HO461 := n2_; have HB := n3_; clear n0_ n1_ n2_ n3_; (try clear hb); (try clear hb2); (try clear hk); (try clear hi)) | (go_at_call 18; (with_reducible refine (spec_IsFairSplit.calls kj95 t458 _ _ t459 t464 t465 _ ?side1 ?side2 A125.out).mono ?_); (case side1 => exact CW (Kd.R_reads' HO461.out).2.2); (case side2 => exact (Kd.R_reads' HO461.out).2.1); rintro e w130 ⟨rfl, hb⟩; have n0_ := Aside0.mk (Kd.R_below (KR HO_30) hb); have n1_ := Aside0.mk (Kd.R_below (KR HO_31) hb); have n2_ := Aside0.mk (Kd.R_below (KR HO461) hb); have n3_ := Aside0.mk (below_step BB hb); clear HO_30; clear HO_31; clear HO461; clear HB; have HO_30 := n0_; have HO_31 := n1_; have HO461 := n2_; have HB := n3_; clear n0_ n1_ n2_ n3_; (try clear hb); (try clear hb2); (try clear hk); (try clear hi))))
            go_ret
            exact ⟨RE, BB⟩
           ·rw [if_neg c126] at H
            cases H

/-- THE ONE PURE STATEMENT of laws_FnSignsOfShares: yours. -/
def laws_FnSignsOfShares.Pure : Prop := ∀ (l0 : List Int) (l1 : List Int), l0.length ≤ maxLen → l0.length * 1 ≤ 140737488351232 → (∀ x ∈ l0, (Lit.int .u8 x).wf = true) → l1.length ≤ maxLen → l1.length * 1 ≤ 140737488351232 → (∀ x ∈ l1, (Lit.int .u8 x).wf = true) → ∃ k, laws_FnSignsOfShares.f k l0 l1 = some true
theorem laws_FnSignsOfShares.walk (P : laws_FnSignsOfShares.Pure) (a0 : Option Addr) (len0 cap0 : Nat) (z0 : List Int) (a1 : Option Addr) (len1 cap1 : Nat) (z1 : List Int) (w : World) (w0 : (a0 = none ∧ len0 = 0 ∧ cap0 = 0 ∧ z0 = []) ∨ ∃ x, a0 = some x ∧ len0 ≤ cap0 ∧ cap0 ≤ maxLen ∧ z0.length = cap0 ∧ (∀ i, i < z0.length → w.cell? (x.add i) = some (.int .u8 (z0.getD i 0))) ∧ ∀ n ∈ z0, (Lit.int .u8 n).wf = true) (y0 : len0 * 1 ≤ 140737488351232) (w1 : (a1 = none ∧ len1 = 0 ∧ cap1 = 0 ∧ z1 = []) ∨ ∃ x, a1 = some x ∧ len1 ≤ cap1 ∧ cap1 ≤ maxLen ∧ z1.length = cap1 ∧ (∀ i, i < z1.length → w.cell? (x.add i) = some (.int .u8 (z1.getD i 0))) ∧ ∀ n ∈ z1, (Lit.int .u8 n).wf = true) (y1 : len1 * 1 ≤ 140737488351232) :
  Calls Tryd.prog 3 #[.slice a0 len0 cap0, .slice a1 len1 cap1] w fun e w' => e = .returned (.bool true) ∧ Below w.heap.size w w' := by
 obtain ⟨l0, rfl, hr0, hm0, hw0, hc0⟩ := ReadsInt.ofRowC w0
 obtain ⟨l1, rfl, hr1, hm1, hw1, hc1⟩ := ReadsInt.ofRowC w1
 obtain ⟨k, h⟩ := P l0 l1 hm0 y0 hw0 hm1 y1 hw1
 refine (laws_FnSignsOfShares.calls k _ _ l0 _ _ l1 true w (Kd.C_of_reads (d := (0 : Int)) (h1 := fun _ => rfl) hr0) hc0 (Kd.C_of_reads (d := (0 : Int)) (h1 := fun _ => rfl) hr1) hc1 h).mono ?_
 rintro e w' ⟨rfl, hd⟩
 exact ⟨rfl, hd⟩

end Go.Proofs.YtafjjbkkcedgnaaDoor.PFnSignsOfShares
