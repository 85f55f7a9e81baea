-- Written by a program of this session (wip/tools/pp.sh) out of the translation; Lean checks it.
import Derived.Test.YtafjjbkkcedgnaaDoorPFnHalfWindowsx0
import Derived.Test.YtafjjbkkcedgnaaDoorPFnHalfWindowsx1
import Derived.Test.YtafjjbkkcedgnaaDoorPFnHalfWindowsx2
import Derived.Test.YtafjjbkkcedgnaaDoorPFnHalfWindowsx3
import Derived.Test.YtafjjbkkcedgnaaDoorPFnHalfWindowsx4
import Derived.Test.YtafjjbkkcedgnaaDoorPFnHalfWindowsx6
import Derived.Test.YtafjjbkkcedgnaaDoorPFnHalfWindowsx7
namespace Go.Proofs.YtafjjbkkcedgnaaDoor.PFnHalfWindows
open Go.RowKit Go.Proofs.YtafjjbkkcedgnaaDoorOwn Go.Proofs.YtafjjbkkcedgnaaDoorW.PrintWords Go.Proofs.YtafjjbkkcedgnaaDoorW.PrintLast Go.Proofs.YtafjjbkkcedgnaaDoorW.PrintMore
attribute [local go_sem] max2_int min2_int max_two min_two max_three min_three max_four min_four   -- for this text's walks alone
set_option linter.unusedVariables false
set_option maxHeartbeats 8000000
set_option maxRecDepth 100000
set_option linter.unusedSimpArgs false

/-! ### laws_FnHalfWindows: function 4 -/
mutual
def laws_FnHalfWindows.j0 : Nat → List Int → ByteArray → Int → Bool → Bool → Option (Bool)
 | 0, _, _, _, _, _ => none
 | k + 1, x1, x5, x6, x7, x65 => if x65 = true then (none) else ((impl_KindsOfBeads.f k x5).bind fun bt316 => ((impl_FewestCuts.f k x5).bind fun bt318 => (if bt316.2 = true then (if (x5.size : Int) > 0 then (if bt318.2 = true then (laws_FnHalfWindows.j1 k x1 x5 x6 x7 (x7 != (decide (bt316.1 ≤ 2)))) else (laws_FnHalfWindows.j1 k x1 x5 x6 x7 (x7 != false))) else (laws_FnHalfWindows.j1 k x1 x5 x6 x7 (x7 != false))) else (laws_FnHalfWindows.j1 k x1 x5 x6 x7 false))))
def laws_FnHalfWindows.j1 : Nat → List Int → ByteArray → Int → Bool → Bool → Option (Bool)
 | 0, _, _, _, _, _ => none
 | k + 1, x1, x5, x6, x7, x90 => if x90 = true then (none) else (if x7 = true then ((impl_CountsOfBeads.f k x5).bind fun bt320 => ((impl_WindowCounts.f k x5 x6 (wrap64 ((x5.size : Int) / 2))).bind fun bt324 => (if (x5.size : Int) = 0 then (none) else ((impl_WindowCounts.f k x5 (Int.tmod (wrap64 (x6 + (wrap64 ((x5.size : Int) / 2)))) (x5.size : Int)) (wrap64 ((x5.size : Int) / 2))).bind fun bt328 => (if bt320.2 = true then (if bt324.2 = true then (if bt328.2 = true then ((laws_zSame.f k bt324.1 bt328.1).bind fun t332 => (laws_FnHalfWindows.j2 k x1 x5 x6 bt320.1 bt324.1 (!t332))) else (none)) else (none)) else (none)))))) else (laws_FnHalfWindows.j5 k x1))
def laws_FnHalfWindows.j5 : Nat → List Int → Option (Bool)
 | 0, _ => none
 | k + 1, x1 => (spec_DrawWindowCounts.f k x1).bind fun bt340 => ((impl_WindowCounts.f k bt340.1 bt340.2.1 bt340.2.2).bind fun bt343 => ((spec_WindowCounts.f k bt340.1 bt340.2.1 bt340.2.2).bind fun bt347 => (if (bt343.2 != bt347.2) = true then (none) else ((laws_zSame.f k bt343.1 bt347.1).bind fun t351 => (if t351 = true then (if bt343.2 = true then ((laws_zSum.f k bt343.1).bind fun t352 => (laws_FnHalfWindows.j6 k x1 (t352 != bt340.2.2))) else (laws_FnHalfWindows.j6 k x1 false)) else (none))))))
def laws_FnHalfWindows.j6 : Nat → List Int → Bool → Option (Bool)
 | 0, _, _ => none
 | k + 1, x1, x211 => if x211 = true then (none) else ((spec_DrawFewestForThree.f k x1).bind fun t353 => ((impl_FewestForThree.f k t353).bind fun bt354 => ((spec_FewestForThree.f k t353).bind fun bt356 => (if (bt354.2 != bt356.2) = true then (none) else (laws_FnHalfWindows.j7 k t353 bt354.1 bt354.2 (bt354.1 != bt356.1))))))
def laws_FnHalfWindows.j7 : Nat → ByteArray → Int → Bool → Bool → Option (Bool)
 | 0, _, _, _, _ => none
 | k + 1, x32, x33, x34, x231 => if x231 = true then (none) else (if x34 = true then ((impl_KindsOfBeads.f k x32).bind fun bt358 => ((impl_ReverseBeads.f x32).bind fun bt360 => ((impl_FewestForThree.f k bt360.1).bind fun bt362 => (if bt358.2 = true then (if bt360.2 = true then (if bt362.2 = true then (if bt362.1 = x33 then (if x33 ≤ (wrap64 (2 * bt358.1)) then (some (((x32.size : Int) == 0) == (x33 == 0))) else (none)) else (none)) else (none)) else (none)) else (none))))) else (some true))
def laws_FnHalfWindows.j2 : Nat → List Int → ByteArray → Int → List Int → List Int → Bool → Option (Bool)
 | 0, _, _, _, _, _, _ => none
 | k + 1, x1, x5, x6, x14, x16, x137 => if x137 = true then (none) else (laws_FnHalfWindows.l0 k x1 x5 x6 x14 x16 x16 (x16.length : Int) 0)
def laws_FnHalfWindows.l0 : Nat → List Int → ByteArray → Int → List Int → List Int → List Int → Int → Int → Option (Bool)
 | 0, _, _, _, _, _, _, _, _ => none
 | k + 1, x1, x5, x6, x14, x16, x138, x139, x140 => if x140 < x139 then (if 0 ≤ x140 then (if x140 < (x138.length : Int) then (if x140 < (x14.length : Int) then (if (wrap64 (2 * (rd x138 x140))) = (rd x14 x140) then (laws_FnHalfWindows.l0 k x1 x5 x6 x14 x16 x138 x139 (wrap64 (x140 + 1))) else (none)) else (none)) else (none)) else (none)) else (laws_FnHalfWindows.l1 k x1 x5 x6 x16 0)
def laws_FnHalfWindows.l1 : Nat → List Int → ByteArray → Int → List Int → Int → Option (Bool)
 | 0, _, _, _, _, _ => none
 | k + 1, x1, x5, x6, x16, x22 => if x22 < x6 then ((impl_WindowCounts.f k x5 x22 (wrap64 ((x5.size : Int) / 2))).bind fun bt335 => (if bt335.2 = true then ((laws_zSame.f k bt335.1 x16).bind fun t339 => (if t339 = true then (none) else (laws_FnHalfWindows.l1 k x1 x5 x6 x16 (wrap64 (x22 + 1))))) else (none))) else (laws_FnHalfWindows.j5 k x1)
end
def laws_FnHalfWindows.f (k : Nat) (l0 : List Int) (l1 : List Int) : Option (Bool) := (laws_big.f l0 l1).bind fun t310 => (if t310 = true then (some true) else ((spec_DrawHalfWindow.f k l0).bind fun t311 => ((impl_HalfWindow.f k t311).bind fun bt312 => ((spec_HalfWindow.f k t311).bind fun bt314 => (if (bt312.2 != bt314.2) = true then (none) else (laws_FnHalfWindows.j0 k l1 t311 bt312.1 bt312.2 (bt312.1 != bt314.1)))))))
theorem laws_FnHalfWindows.mono_l : ∀ k, (∀ y0 y1 y2 y3 y4, LeO (laws_FnHalfWindows.j0 k y0 y1 y2 y3 y4) (laws_FnHalfWindows.j0 (k + 1) y0 y1 y2 y3 y4)) ∧ (∀ y0 y1 y2 y3 y4, LeO (laws_FnHalfWindows.j1 k y0 y1 y2 y3 y4) (laws_FnHalfWindows.j1 (k + 1) y0 y1 y2 y3 y4)) ∧ (∀ y0, LeO (laws_FnHalfWindows.j5 k y0) (laws_FnHalfWindows.j5 (k + 1) y0)) ∧ (∀ y0 y1, LeO (laws_FnHalfWindows.j6 k y0 y1) (laws_FnHalfWindows.j6 (k + 1) y0 y1)) ∧ (∀ y0 y1 y2 y3, LeO (laws_FnHalfWindows.j7 k y0 y1 y2 y3) (laws_FnHalfWindows.j7 (k + 1) y0 y1 y2 y3)) ∧ (∀ y0 y1 y2 y3 y4 y5, LeO (laws_FnHalfWindows.j2 k y0 y1 y2 y3 y4 y5) (laws_FnHalfWindows.j2 (k + 1) y0 y1 y2 y3 y4 y5)) ∧ (∀ y0 y1 y2 y3 y4 y5 y6 y7, LeO (laws_FnHalfWindows.l0 k y0 y1 y2 y3 y4 y5 y6 y7) (laws_FnHalfWindows.l0 (k + 1) y0 y1 y2 y3 y4 y5 y6 y7)) ∧ (∀ y0 y1 y2 y3 y4, LeO (laws_FnHalfWindows.l1 k y0 y1 y2 y3 y4) (laws_FnHalfWindows.l1 (k + 1) y0 y1 y2 y3 y4))
 | 0 => ⟨fun _ _ _ _ _ r h => by simp [laws_FnHalfWindows.j0] at h, fun _ _ _ _ _ r h => by simp [laws_FnHalfWindows.j1] at h, fun _ r h => by simp [laws_FnHalfWindows.j5] at h, fun _ _ r h => by simp [laws_FnHalfWindows.j6] at h, fun _ _ _ _ r h => by simp [laws_FnHalfWindows.j7] at h, fun _ _ _ _ _ _ r h => by simp [laws_FnHalfWindows.j2] at h, fun _ _ _ _ _ _ _ _ r h => by simp [laws_FnHalfWindows.l0] at h, fun _ _ _ _ _ r h => by simp [laws_FnHalfWindows.l1] at h⟩
 | k + 1 => by
  obtain ⟨ih0, ih1, ih2, ih3, ih4, ih5, ih6, ih7⟩ := laws_FnHalfWindows.mono_l k
  refine ⟨?_, ?_, ?_, ?_, ?_, ?_, ?_, ?_⟩
  ·intro y0 y1 y2 y3 y4
   unfold laws_FnHalfWindows.j0
   repeat' first
   | with_reducible first | exact ih0 _ _ _ _ _ | exact ih1 _ _ _ _ _ | exact ih2 _ | exact ih3 _ _ | exact ih4 _ _ _ _ | exact ih5 _ _ _ _ _ _ | exact ih6 _ _ _ _ _ _ _ _ | exact ih7 _ _ _ _ _ | exact impl_CountsOfBeads.mono _ _ | exact impl_FewestCuts.mono _ _ | exact impl_FewestForThree.mono _ _ | exact impl_HalfWindow.mono _ _ | exact impl_KindsOfBeads.mono _ _ | exact impl_WindowCounts.mono _ _ _ _ | exact laws_zSame.mono _ _ _ | exact laws_zSum.mono _ _ | exact spec_DrawFewestForThree.mono _ _ | exact spec_DrawHalfWindow.mono _ _ | exact spec_DrawWindowCounts.mono _ _ | exact spec_FewestForThree.mono _ _ | exact spec_HalfWindow.mono _ _ | exact spec_WindowCounts.mono _ _ _ _ | exact LeO.refl _ | exact LeO.none _ | refine LeO.ite ?_ ?_ | refine LeO.bind ?_ (fun _ => ?_)
   | exact LeO.none _ | refine LeO.ite ?_ ?_ | refine LeO.bind ?_ (fun _ => ?_)
  ·intro y0 y1 y2 y3 y4
   unfold laws_FnHalfWindows.j1
   repeat' first
   | with_reducible first | exact ih0 _ _ _ _ _ | exact ih1 _ _ _ _ _ | exact ih2 _ | exact ih3 _ _ | exact ih4 _ _ _ _ | exact ih5 _ _ _ _ _ _ | exact ih6 _ _ _ _ _ _ _ _ | exact ih7 _ _ _ _ _ | exact impl_CountsOfBeads.mono _ _ | exact impl_FewestCuts.mono _ _ | exact impl_FewestForThree.mono _ _ | exact impl_HalfWindow.mono _ _ | exact impl_KindsOfBeads.mono _ _ | exact impl_WindowCounts.mono _ _ _ _ | exact laws_zSame.mono _ _ _ | exact laws_zSum.mono _ _ | exact spec_DrawFewestForThree.mono _ _ | exact spec_DrawHalfWindow.mono _ _ | exact spec_DrawWindowCounts.mono _ _ | exact spec_FewestForThree.mono _ _ | exact spec_HalfWindow.mono _ _ | exact spec_WindowCounts.mono _ _ _ _ | exact LeO.refl _ | exact LeO.none _ | refine LeO.ite ?_ ?_ | refine LeO.bind ?_ (fun _ => ?_)
   | exact LeO.none _ | refine LeO.ite ?_ ?_ | refine LeO.bind ?_ (fun _ => ?_)
  ·intro y0
   unfold laws_FnHalfWindows.j5
   repeat' first
   | with_reducible first | exact ih0 _ _ _ _ _ | exact ih1 _ _ _ _ _ | exact ih2 _ | exact ih3 _ _ | exact ih4 _ _ _ _ | exact ih5 _ _ _ _ _ _ | exact ih6 _ _ _ _ _ _ _ _ | exact ih7 _ _ _ _ _ | exact impl_CountsOfBeads.mono _ _ | exact impl_FewestCuts.mono _ _ | exact impl_FewestForThree.mono _ _ | exact impl_HalfWindow.mono _ _ | exact impl_KindsOfBeads.mono _ _ | exact impl_WindowCounts.mono _ _ _ _ | exact laws_zSame.mono _ _ _ | exact laws_zSum.mono _ _ | exact spec_DrawFewestForThree.mono _ _ | exact spec_DrawHalfWindow.mono _ _ | exact spec_DrawWindowCounts.mono _ _ | exact spec_FewestForThree.mono _ _ | exact spec_HalfWindow.mono _ _ | exact spec_WindowCounts.mono _ _ _ _ | exact LeO.refl _ | exact LeO.none _ | refine LeO.ite ?_ ?_ | refine LeO.bind ?_ (fun _ => ?_)
   | exact LeO.none _ | refine LeO.ite ?_ ?_ | refine LeO.bind ?_ (fun _ => ?_)
  ·intro y0 y1
   unfold laws_FnHalfWindows.j6
   repeat' first
   | with_reducible first | exact ih0 _ _ _ _ _ | exact ih1 _ _ _ _ _ | exact ih2 _ | exact ih3 _ _ | exact ih4 _ _ _ _ | exact ih5 _ _ _ _ _ _ | exact ih6 _ _ _ _ _ _ _ _ | exact ih7 _ _ _ _ _ | exact impl_CountsOfBeads.mono _ _ | exact impl_FewestCuts.mono _ _ | exact impl_FewestForThree.mono _ _ | exact impl_HalfWindow.mono _ _ | exact impl_KindsOfBeads.mono _ _ | exact impl_WindowCounts.mono _ _ _ _ | exact laws_zSame.mono _ _ _ | exact laws_zSum.mono _ _ | exact spec_DrawFewestForThree.mono _ _ | exact spec_DrawHalfWindow.mono _ _ | exact spec_DrawWindowCounts.mono _ _ | exact spec_FewestForThree.mono _ _ | exact spec_HalfWindow.mono _ _ | exact spec_WindowCounts.mono _ _ _ _ | exact LeO.refl _ | exact LeO.none _ | refine LeO.ite ?_ ?_ | refine LeO.bind ?_ (fun _ => ?_)
   | exact LeO.none _ | refine LeO.ite ?_ ?_ | refine LeO.bind ?_ (fun _ => ?_)
  ·intro y0 y1 y2 y3
   unfold laws_FnHalfWindows.j7
   repeat' first
   | with_reducible first | exact ih0 _ _ _ _ _ | exact ih1 _ _ _ _ _ | exact ih2 _ | exact ih3 _ _ | exact ih4 _ _ _ _ | exact ih5 _ _ _ _ _ _ | exact ih6 _ _ _ _ _ _ _ _ | exact ih7 _ _ _ _ _ | exact impl_CountsOfBeads.mono _ _ | exact impl_FewestCuts.mono _ _ | exact impl_FewestForThree.mono _ _ | exact impl_HalfWindow.mono _ _ | exact impl_KindsOfBeads.mono _ _ | exact impl_WindowCounts.mono _ _ _ _ | exact laws_zSame.mono _ _ _ | exact laws_zSum.mono _ _ | exact spec_DrawFewestForThree.mono _ _ | exact spec_DrawHalfWindow.mono _ _ | exact spec_DrawWindowCounts.mono _ _ | exact spec_FewestForThree.mono _ _ | exact spec_HalfWindow.mono _ _ | exact spec_WindowCounts.mono _ _ _ _ | exact LeO.refl _ | exact LeO.none _ | refine LeO.ite ?_ ?_ | refine LeO.bind ?_ (fun _ => ?_)
   | exact LeO.none _ | refine LeO.ite ?_ ?_ | refine LeO.bind ?_ (fun _ => ?_)
  ·intro y0 y1 y2 y3 y4 y5
   unfold laws_FnHalfWindows.j2
   repeat' first
   | with_reducible first | exact ih0 _ _ _ _ _ | exact ih1 _ _ _ _ _ | exact ih2 _ | exact ih3 _ _ | exact ih4 _ _ _ _ | exact ih5 _ _ _ _ _ _ | exact ih6 _ _ _ _ _ _ _ _ | exact ih7 _ _ _ _ _ | exact impl_CountsOfBeads.mono _ _ | exact impl_FewestCuts.mono _ _ | exact impl_FewestForThree.mono _ _ | exact impl_HalfWindow.mono _ _ | exact impl_KindsOfBeads.mono _ _ | exact impl_WindowCounts.mono _ _ _ _ | exact laws_zSame.mono _ _ _ | exact laws_zSum.mono _ _ | exact spec_DrawFewestForThree.mono _ _ | exact spec_DrawHalfWindow.mono _ _ | exact spec_DrawWindowCounts.mono _ _ | exact spec_FewestForThree.mono _ _ | exact spec_HalfWindow.mono _ _ | exact spec_WindowCounts.mono _ _ _ _ | exact LeO.refl _ | exact LeO.none _ | refine LeO.ite ?_ ?_ | refine LeO.bind ?_ (fun _ => ?_)
   | exact LeO.none _ | refine LeO.ite ?_ ?_ | refine LeO.bind ?_ (fun _ => ?_)
  ·intro y0 y1 y2 y3 y4 y5 y6 y7
   unfold laws_FnHalfWindows.l0
   repeat' first
   | with_reducible first | exact ih0 _ _ _ _ _ | exact ih1 _ _ _ _ _ | exact ih2 _ | exact ih3 _ _ | exact ih4 _ _ _ _ | exact ih5 _ _ _ _ _ _ | exact ih6 _ _ _ _ _ _ _ _ | exact ih7 _ _ _ _ _ | exact impl_CountsOfBeads.mono _ _ | exact impl_FewestCuts.mono _ _ | exact impl_FewestForThree.mono _ _ | exact impl_HalfWindow.mono _ _ | exact impl_KindsOfBeads.mono _ _ | exact impl_WindowCounts.mono _ _ _ _ | exact laws_zSame.mono _ _ _ | exact laws_zSum.mono _ _ | exact spec_DrawFewestForThree.mono _ _ | exact spec_DrawHalfWindow.mono _ _ | exact spec_DrawWindowCounts.mono _ _ | exact spec_FewestForThree.mono _ _ | exact spec_HalfWindow.mono _ _ | exact spec_WindowCounts.mono _ _ _ _ | exact LeO.refl _ | exact LeO.none _ | refine LeO.ite ?_ ?_ | refine LeO.bind ?_ (fun _ => ?_)
   | exact LeO.none _ | refine LeO.ite ?_ ?_ | refine LeO.bind ?_ (fun _ => ?_)
  ·intro y0 y1 y2 y3 y4
   unfold laws_FnHalfWindows.l1
   repeat' first
   | with_reducible first | exact ih0 _ _ _ _ _ | exact ih1 _ _ _ _ _ | exact ih2 _ | exact ih3 _ _ | exact ih4 _ _ _ _ | exact ih5 _ _ _ _ _ _ | exact ih6 _ _ _ _ _ _ _ _ | exact ih7 _ _ _ _ _ | exact impl_CountsOfBeads.mono _ _ | exact impl_FewestCuts.mono _ _ | exact impl_FewestForThree.mono _ _ | exact impl_HalfWindow.mono _ _ | exact impl_KindsOfBeads.mono _ _ | exact impl_WindowCounts.mono _ _ _ _ | exact laws_zSame.mono _ _ _ | exact laws_zSum.mono _ _ | exact spec_DrawFewestForThree.mono _ _ | exact spec_DrawHalfWindow.mono _ _ | exact spec_DrawWindowCounts.mono _ _ | exact spec_FewestForThree.mono _ _ | exact spec_HalfWindow.mono _ _ | exact spec_WindowCounts.mono _ _ _ _ | exact LeO.refl _ | exact LeO.none _ | refine LeO.ite ?_ ?_ | refine LeO.bind ?_ (fun _ => ?_)
   | exact LeO.none _ | refine LeO.ite ?_ ?_ | refine LeO.bind ?_ (fun _ => ?_)
theorem laws_FnHalfWindows.mono : ∀ a0 a1 k, LeO (laws_FnHalfWindows.f k a0 a1) (laws_FnHalfWindows.f (k + 1) a0 a1) := by
 intro a0 a1 k
 obtain ⟨ih0, ih1, ih2, ih3, ih4, ih5, ih6, ih7⟩ := laws_FnHalfWindows.mono_l k
 unfold laws_FnHalfWindows.f
 repeat' first
   | with_reducible first | exact ih0 _ _ _ _ _ | exact ih1 _ _ _ _ _ | exact ih2 _ | exact ih3 _ _ | exact ih4 _ _ _ _ | exact ih5 _ _ _ _ _ _ | exact ih6 _ _ _ _ _ _ _ _ | exact ih7 _ _ _ _ _ | exact impl_CountsOfBeads.mono _ _ | exact impl_FewestCuts.mono _ _ | exact impl_FewestForThree.mono _ _ | exact impl_HalfWindow.mono _ _ | exact impl_KindsOfBeads.mono _ _ | exact impl_WindowCounts.mono _ _ _ _ | exact laws_zSame.mono _ _ _ | exact laws_zSum.mono _ _ | exact spec_DrawFewestForThree.mono _ _ | exact spec_DrawHalfWindow.mono _ _ | exact spec_DrawWindowCounts.mono _ _ | exact spec_FewestForThree.mono _ _ | exact spec_HalfWindow.mono _ _ | exact spec_WindowCounts.mono _ _ _ _ | exact LeO.refl _ | exact LeO.none _ | refine LeO.ite ?_ ?_ | refine LeO.bind ?_ (fun _ => ?_)
   | exact LeO.none _ | refine LeO.ite ?_ ?_ | refine LeO.bind ?_ (fun _ => ?_)
theorem laws_FnHalfWindows.calls (k : Nat) (A0 : Option Addr) (c0 : Nat) (l0 : List Int) (A1 : Option Addr) (c1 : Nat) (l1 : List Int) (r : Bool) (w : World) (hr0 : Kd.C (Kd.int .u8) w A0 l0.length l0) (hc0 : l0.length ≤ c0) (hr1 : Kd.C (Kd.int .u8) w A1 l1.length l1) (hc1 : l1.length ≤ c1) (h : laws_FnHalfWindows.f k l0 l1 = some r) :
  Calls Tryd.prog 4 #[.slice A0 l0.length c0, .slice A1 l1.length c1] w fun e w' => e = .returned (.bool r) ∧ Below w.heap.size w w' := by
 have HR0 := Aside0.mk hr0
 have HC0 := Aside0.mk hc0
 clear hr0 hc0
 have HR1 := Aside0.mk hr1
 have HC1 := Aside0.mk hc1
 clear hr1 hc1
 have HB := Aside0.mk (Below.refl w.heap.size w)
 have H : ((laws_big.f l0 l1).bind fun t310 => (if t310 = true then (some true) else ((spec_DrawHalfWindow.f k l0).bind fun t311 => ((impl_HalfWindow.f k t311).bind fun bt312 => ((spec_HalfWindow.f k t311).bind fun bt314 => (if (bt312.2 != bt314.2) = true then (none) else (laws_FnHalfWindows.j0 k l1 t311 bt312.1 bt312.2 (bt312.1 != bt314.1)))))))) = some r := h
 clear h
 obtain ⟨t310, A30, H⟩ := Option.bind_eq_some_iff.mp H
 have A3 := Aside0.mk A30
 clear A30
 by_cases c4 : t310 = true
 ·subst c4
  replace H := IP H
  obtain rfl := Option.some.inj H
  go_enter Tryd.func4, Tryd.ntmps4
  go_wp2_with (first | ((with_reducible refine gate_callee (f := 5) rfl ?_); refine goesL_ (some 45) rfl rfl Tryd.func5 (by kernel_rfl) rfl #[.slice A0 l0.length c0, .slice A1 l1.length c1] rfl TA ?_; (with_reducible refine (laws_big.calls _ _ l0 _ _ l1 true _ ?side1 ?side2 ?side3 ?side4 A3.out).mono ?_); (case side1 => exact CW HR0.out); (case side2 => exact HC0.out); (case side3 => exact CW HR1.out); (case side4 => exact HC1.out); rintro e w' ⟨rfl, ⟨nd, rfl⟩⟩; refine ⟨_, rfl, ?_⟩))
  go_ret
  exact ⟨RE, BB⟩
 ·replace c4 := Bool.eq_false_iff.mpr c4
  subst c4
  replace H := IN H
  obtain ⟨t311, A50, H⟩ := Option.bind_eq_some_iff.mp H
  have A5 := Aside0.mk A50
  clear A50
  obtain ⟨⟨t312, t313⟩, A60, H⟩ := Option.bind_eq_some_iff.mp H
  replace H : ((spec_HalfWindow.f k t311).bind fun bt314 => (if (t313 != bt314.2) = true then (none) else (laws_FnHalfWindows.j0 k l1 t311 t312 t313 (t312 != bt314.1)))) = some r := H
  have A6 := Aside0.mk A60
  clear A60
  obtain ⟨⟨t314, t315⟩, A70, H⟩ := Option.bind_eq_some_iff.mp H
  replace H : (if (t313 != t315) = true then (none) else (laws_FnHalfWindows.j0 k l1 t311 t312 t313 (t312 != t314))) = some r := H
  have A7 := Aside0.mk A70
  clear A70
  have HC8 := Aside0.mk H
  clear H
  go_enter Tryd.func4, Tryd.ntmps4
  go_upto_region 6 with (first | ((with_reducible refine gate_callee (f := 5) rfl ?_); refine goesL_ (some 45) rfl rfl Tryd.func5 (by kernel_rfl) rfl #[.slice A0 l0.length c0, .slice A1 l1.length c1] rfl TA ?_; (with_reducible refine (laws_big.calls _ _ l0 _ _ l1 false _ ?side1 ?side2 ?side3 ?side4 A3.out).mono ?_); (case side1 => exact CW HR0.out); (case side2 => exact HC0.out); (case side3 => exact CW HR1.out); (case side4 => exact HC1.out); rintro e w' ⟨rfl, ⟨nd, rfl⟩⟩; refine ⟨_, rfl, ?_⟩) | ((with_reducible refine gate_callee (f := 19) rfl ?_); refine goesL_ (some 47) rfl rfl Tryd.func19 (by kernel_rfl) rfl #[.slice A0 l0.length c0] rfl TA ?_; (with_reducible refine (spec_DrawHalfWindow.calls k _ _ l0 t311 _ ?side1 ?side2 A5.out).mono ?_); (case side1 => exact CW HR0.out); (case side2 => exact HC0.out); rintro e w9 ⟨rfl, hb⟩; refine ⟨_, rfl, ?_⟩; have n0_ := Aside0.mk (below_step BB hb); clear HB; have HB := n0_; clear n0_; (try clear hb); (try clear hb2); (try clear hk); (try clear hi)) | ((with_reducible refine gate_callee (f := 20) rfl ?_); refine goesL_ (some 50) rfl rfl Tryd.func20 (by kernel_rfl) rfl #[.string t311] rfl TA ?_; (with_reducible refine (impl_HalfWindow.calls k t311 t312 t313 _ A6.out).mono ?_); rintro e w10 ⟨rfl, hb⟩; refine ⟨_, rfl, ?_⟩; have n0_ := Aside0.mk (below_step BB hb); clear HB; have HB := n0_; clear n0_; (try clear hb); (try clear hb2); (try clear hk); (try clear hi)) | ((with_reducible refine gate_callee (f := 21) rfl ?_); refine goesL_ (some 55) rfl rfl Tryd.func21 (by kernel_rfl) rfl #[.string t311] rfl TA ?_; (with_reducible refine (spec_HalfWindow.calls k t311 t314 t315 _ A7.out).mono ?_); rintro e w11 ⟨rfl, hb⟩; refine ⟨_, rfl, ?_⟩; have n0_ := Aside0.mk (below_step BB hb); clear HB; have HB := n0_; clear n0_; (try clear hb); (try clear hb2); (try clear hk); (try clear hi)))
  (try simp only [Act.put, List.setIfInBounds_toArray, List.set_cons_zero, List.set_cons_succ])
  go_cut [65] (fun v65 wc => ∃ (kq : Nat) (x65_7 : Bool), v65 = .bool x65_7 ∧ Aside0 (laws_FnHalfWindows.j0 kq l1 t311 t312 t313 x65_7 = some r) ∧ Aside0 (kq ≤ k) ∧ Aside0 (Below w.heap.size w wc))
  case first => as_aux_lemma =>
   have H := HC8.out
   clear HC8
   by_cases c12 : (t313 != t315) = true
   ·rw [if_pos c12] at H
    cases H
   ·rw [if_neg c12] at H
    have c12b0 : (t313 != t315) = false := by simpa using c12
    (try (have c12b1 : decide (t313 = t315) = true := by simpa using c12))
    (try (have c12b2 : (t313 == t315) = true := by simpa using c12))
    clear c12
    (first | rw [c12b0] | (simp only [i64_w, i32_w]; rw [c12b0]) | skip)
    have H' := Aside0.mk H
    clear H
    go_wp2
    go_meet
    case rel => exact ⟨_, ((t312 != t314)), RF, H', ⟨by first | omega | exact Nat.le_refl _⟩, ⟨BB⟩⟩
  case rest => as_aux_lemma =>
   clear HC8
   try clear c1
   try clear c2
   try clear p2
   try clear c4
   try clear c5
   try clear p6
   try clear c12
   try clear c12b0
   try clear c12b1
   try clear c12b2
   obtain ⟨kq, x65_7, rfl, HA, HJ7, HB⟩ := hcut
   cases kq with
   | zero => exact absurd HA.out (by simp [laws_FnHalfWindows.j0])
   | succ kj7 =>
    have H := HA.out
    clear HA
    simp only [laws_FnHalfWindows.j0] at H
    by_cases c13 : x65_7 = true
    ·subst c13
     replace H := IP H
     cases H
    ·replace c13 := Bool.eq_false_iff.mpr c13
     subst c13
     replace H := IN H
     obtain ⟨⟨t316, t317⟩, A140, H⟩ := Option.bind_eq_some_iff.mp H
     replace H : ((impl_FewestCuts.f kj7 t311).bind fun bt318 => (if t317 = true then (if (t311.size : Int) > 0 then (if bt318.2 = true then (laws_FnHalfWindows.j1 kj7 l1 t311 t312 t313 (t313 != (decide (t316 ≤ 2)))) else (laws_FnHalfWindows.j1 kj7 l1 t311 t312 t313 (t313 != false))) else (laws_FnHalfWindows.j1 kj7 l1 t311 t312 t313 (t313 != false))) else (laws_FnHalfWindows.j1 kj7 l1 t311 t312 t313 false))) = some r := H
     have A14 := Aside0.mk A140
     clear A140
     obtain ⟨⟨t318, t319⟩, A150, H⟩ := Option.bind_eq_some_iff.mp H
     replace H : (if t317 = true then (if (t311.size : Int) > 0 then (if t319 = true then (laws_FnHalfWindows.j1 kj7 l1 t311 t312 t313 (t313 != (decide (t316 ≤ 2)))) else (laws_FnHalfWindows.j1 kj7 l1 t311 t312 t313 (t313 != false))) else (laws_FnHalfWindows.j1 kj7 l1 t311 t312 t313 (t313 != false))) else (laws_FnHalfWindows.j1 kj7 l1 t311 t312 t313 false)) = some r := H
     have A15 := Aside0.mk A150
     clear A150
     have HC16 := Aside0.mk H
     clear H
     go_upto_region 10 with (first | ((with_reducible refine gate_callee (f := 22) rfl ?_); refine goesL_ (some 68) rfl rfl Tryd.func22 (by kernel_rfl) rfl #[.string t311] rfl TA ?_; (with_reducible refine (impl_KindsOfBeads.calls kj7 t311 t316 t317 _ A14.out).mono ?_); rintro e w17 ⟨rfl, hb⟩; refine ⟨_, rfl, ?_⟩; have n0_ := Aside0.mk (below_step BB hb); clear HB; have HB := n0_; clear n0_; (try clear hb); (try clear hb2); (try clear hk); (try clear hi)) | ((with_reducible refine gate_callee (f := 23) rfl ?_); refine goesL_ (some 73) rfl rfl Tryd.func23 (by kernel_rfl) rfl #[.string t311] rfl TA ?_; (with_reducible refine (impl_FewestCuts.calls kj7 t311 t318 t319 _ A15.out).mono ?_); rintro e w18 ⟨rfl, hb⟩; refine ⟨_, rfl, ?_⟩; have n0_ := Aside0.mk (below_step BB hb); clear HB; have HB := n0_; clear n0_; (try clear hb); (try clear hb2); (try clear hk); (try clear hi)))
     (try simp only [Act.put, List.setIfInBounds_toArray, List.set_cons_zero, List.set_cons_succ])
     go_cut [90] (fun v90 wc => ∃ (kq : Nat) (x90_15 : Bool), v90 = .bool x90_15 ∧ Aside0 (laws_FnHalfWindows.j1 kq l1 t311 t312 t313 x90_15 = some r) ∧ Aside0 (kq ≤ kj7) ∧ Aside0 (Below w.heap.size w wc))
     case first => as_aux_lemma =>
      have H := HC16.out
      clear HC16
      by_cases c19 : t317 = true
      ·subst c19
       replace H := IP H
       by_cases c20 : (t311.size : Int) > 0
       ·rw [if_pos c20] at H
        have c20b0 : decide (0 < (t311.size : Int)) = true := decide_eq_true c20
        have c20b1 : decide (0 < t311.size) = true := decide_eq_true (by omega)
        clear c20
        (first | rw [c20b0] | (simp only [i64_w, i32_w]; rw [c20b0]) | skip)
        by_cases c21 : t319 = true
        ·subst c21
         replace H := IP H
         have H' := Aside0.mk H
         clear H
         go_wp2
         go_meet
         case rel => exact ⟨_, ((t313 != (decide (t316 ≤ 2)))), RF, H', ⟨by have := HJ7.out; first | omega | exact Nat.le_refl _⟩, ⟨BB⟩⟩
        ·replace c21 := Bool.eq_false_iff.mpr c21
         subst c21
         replace H := IN H
         have H' := Aside0.mk H
         clear H
         go_wp2
         go_meet
         case rel => exact ⟨_, ((t313 != false)), RF, H', ⟨by have := HJ7.out; first | omega | exact Nat.le_refl _⟩, ⟨BB⟩⟩
       ·rw [if_neg c20] at H
        have c20b0 : decide (0 < (t311.size : Int)) = false := decide_eq_false c20
        have c20b1 : decide (0 < t311.size) = false := decide_eq_false (by omega)
        clear c20
        (first | rw [c20b0] | (simp only [i64_w, i32_w]; rw [c20b0]) | skip)
        have H' := Aside0.mk H
        clear H
        go_wp2
        go_meet
        case rel => exact ⟨_, ((t313 != false)), RF, H', ⟨by have := HJ7.out; first | omega | exact Nat.le_refl _⟩, ⟨BB⟩⟩
      ·replace c19 := Bool.eq_false_iff.mpr c19
       subst c19
       replace H := IN H
       have H' := Aside0.mk H
       clear H
       go_wp2
       go_meet
       case rel => exact ⟨_, (false), RF, H', ⟨by have := HJ7.out; first | omega | exact Nat.le_refl _⟩, ⟨BB⟩⟩
     case rest => as_aux_lemma =>
      clear HC16
      try clear c1
      try clear c2
      try clear p2
      try clear c4
      try clear c5
      try clear p6
      try clear c12
      try clear c12b0
      try clear c12b1
      try clear c12b2
      try clear c13
      try clear c19
      try clear c20
      try clear c20b0
      try clear c20b1
      try clear c21
      try clear p2
      try clear p6
      obtain ⟨kq, x90_15, rfl, HA, HJ15, HB⟩ := hcut
      cases kq with
      | zero => exact absurd HA.out (by simp [laws_FnHalfWindows.j1])
      | succ kj15 =>
       have H := HA.out
       clear HA
       simp only [laws_FnHalfWindows.j1] at H
       by_cases c22 : x90_15 = true
       ·subst c22
        replace H := IP H
        cases H
       ·replace c22 := Bool.eq_false_iff.mpr c22
        subst c22
        replace H := IN H
        have HC23 := Aside0.mk H
        clear H
        go_upto_if 91 with (fail)
        go_cut [] (fun wc => ∃ (kq : Nat), Aside0 (laws_FnHalfWindows.j5 kq l1 = some r) ∧ Aside0 (kq ≤ kj15) ∧ Aside0 (Below w.heap.size w wc))
        case first => as_aux_lemma =>
         have H := HC23.out
         clear HC23
         by_cases c24 : t313 = true
         ·subst c24
          replace H := IP H
          obtain ⟨⟨t320, t321⟩, A250, H⟩ := Option.bind_eq_some_iff.mp H
          replace H : ((impl_WindowCounts.f kj15 t311 t312 (wrap64 ((t311.size : Int) / 2))).bind fun bt324 => (if (t311.size : Int) = 0 then (none) else ((impl_WindowCounts.f kj15 t311 (Int.tmod (wrap64 (t312 + (wrap64 ((t311.size : Int) / 2)))) (t311.size : Int)) (wrap64 ((t311.size : Int) / 2))).bind fun bt328 => (if t321 = true then (if bt324.2 = true then (if bt328.2 = true then ((laws_zSame.f kj15 bt324.1 bt328.1).bind fun t332 => (laws_FnHalfWindows.j2 kj15 l1 t311 t312 t320 bt324.1 (!t332))) else (none)) else (none)) else (none))))) = some r := H
          have A25 := Aside0.mk A250
          clear A250
          obtain ⟨⟨t324, t325⟩, A260, H⟩ := Option.bind_eq_some_iff.mp H
          replace H : (if (t311.size : Int) = 0 then (none) else ((impl_WindowCounts.f kj15 t311 (Int.tmod (wrap64 (t312 + (wrap64 ((t311.size : Int) / 2)))) (t311.size : Int)) (wrap64 ((t311.size : Int) / 2))).bind fun bt328 => (if t321 = true then (if t325 = true then (if bt328.2 = true then ((laws_zSame.f kj15 t324 bt328.1).bind fun t332 => (laws_FnHalfWindows.j2 kj15 l1 t311 t312 t320 t324 (!t332))) else (none)) else (none)) else (none)))) = some r := H
          have A26 := Aside0.mk A260
          clear A260
          by_cases c27 : (t311.size : Int) = 0
          ·rw [if_pos c27] at H
           cases H
          ·rw [if_neg c27] at H
           have c27b0 : ((t311.size : Int) == 0) = false := beq_eq_false_iff_ne.mpr c27
           have c27b1 : ((t311.size : Int) != 0) = true := bne_iff_ne.mpr c27
           (first | rw [c27b0] | (simp only [i64_w, i32_w]; rw [c27b0]) | skip)
           obtain ⟨⟨t328, t329⟩, A280, H⟩ := Option.bind_eq_some_iff.mp H
           replace H : (if t321 = true then (if t325 = true then (if t329 = true then ((laws_zSame.f kj15 t324 t328).bind fun t332 => (laws_FnHalfWindows.j2 kj15 l1 t311 t312 t320 t324 (!t332))) else (none)) else (none)) else (none)) = some r := H
           have A28 := Aside0.mk A280
           clear A280
           have HC29 := Aside0.mk H
           clear H
           go_upto_region 16 with (first | ((with_reducible refine gate_callee (f := 14) rfl ?_); refine goesL_ (some 94) rfl rfl Tryd.func14 (by kernel_rfl) rfl #[.string t311] rfl TA ?_; (with_reducible refine (impl_CountsOfBeads.calls kj15 t311 t320 t321 _ A25.out).mono ?_); rintro e w30 ⟨v322, rfl, ho0, hb⟩; refine ⟨_, rfl, ?_⟩; have n0_ := Aside0.mk (Kd.R_lower ho0 (below_size BB)); have n1_ := Aside0.mk (below_step BB hb); clear HB; have HO323 := n0_; have HB := n1_; clear n0_ n1_; (try clear hb); (try clear hb2); (try clear hk); (try clear hi); (try clear ho0)) | ((with_reducible refine gate_callee (f := 24) rfl ?_); refine goesL_ (some 103) rfl rfl Tryd.func24 (by kernel_rfl) rfl #[.string t311, .int .i64 t312, .int .i64 (wrap64 ((t311.size : Int) / 2))] rfl TA ?_; (with_reducible refine (impl_WindowCounts.calls kj15 t311 t312 (wrap64 ((t311.size : Int) / 2)) t324 t325 _ A26.out).mono ?_); rintro e w31 ⟨v326, rfl, ho0, hb⟩; refine ⟨_, rfl, ?_⟩; have n0_ := Aside0.mk (Kd.R_elder' (KR HO323) (Kd.R_base ho0) hb); have n1_ := Aside0.mk (Kd.R_lower (Kd.R_new' ho0 (Kd.R_lt (KR HO323))) (below_size BB)); have n2_ := Aside0.mk (below_step BB hb); clear HO323; clear HB; have HO323 := n0_; have HO327 := n1_; have HB := n2_; clear n0_ n1_ n2_; (try clear hb); (try clear hb2); (try clear hk); (try clear hi); (try clear ho0)) | ((with_reducible refine gate_callee (f := 24) rfl ?_); refine goesL_ (some 119) rfl rfl Tryd.func24 (by kernel_rfl) rfl #[.string t311, .int .i64 (Int.tmod (wrap64 (t312 + (wrap64 ((t311.size : Int) / 2)))) (t311.size : Int)), .int .i64 (wrap64 ((t311.size : Int) / 2))] rfl TA ?_; (with_reducible refine (impl_WindowCounts.calls kj15 t311 (Int.tmod (wrap64 (t312 + (wrap64 ((t311.size : Int) / 2)))) (t311.size : Int)) (wrap64 ((t311.size : Int) / 2)) t328 t329 _ A28.out).mono ?_); rintro e w32 ⟨v330, rfl, ho0, hb⟩; refine ⟨_, rfl, ?_⟩; have n0_ := Aside0.mk (Kd.R_elder' (KR HO323) (Kd.R_base ho0) hb); have n1_ := Aside0.mk (Kd.R_elder' (KR HO327) (Kd.R_base ho0) hb); have n2_ := Aside0.mk (Kd.R_lower (Kd.R_new' (Kd.R_new' ho0 (Kd.R_lt (KR HO323))) (Kd.R_lt (KR HO327))) (below_size BB)); have n3_ := Aside0.mk (below_step BB hb); clear HO323; clear HO327; clear HB; have HO323 := n0_; have HO327 := n1_; have HO331 := n2_; have HB := n3_; clear n0_ n1_ n2_ n3_; (try clear hb); (try clear hb2); (try clear hk); (try clear hi); (try clear ho0)))
           (try simp only [Act.put, List.setIfInBounds_toArray, List.set_cons_zero, List.set_cons_succ])
           go_cut [137] (fun v137 wc => ∃ (kq : Nat) (x137_28 : Bool), v137 = .bool x137_28 ∧ Aside0 (laws_FnHalfWindows.j2 kq l1 t311 t312 t320 t324 x137_28 = some r) ∧ Aside0 (kq ≤ kj15) ∧ Aside0 (Kd.R (Kd.int .i64) 3 wc w.heap.size (fun k_ => some k_ ≠ (v326 : Value).ownBlock) v322 t320) ∧ Aside0 (Kd.R (Kd.int .i64) 3 wc w.heap.size (fun k_ => some k_ ≠ (v322 : Value).ownBlock) v326 t324) ∧ Aside0 (Below w.heap.size w wc))
           case first => as_aux_lemma =>
            have H := HC29.out
            clear HC29
            by_cases c33 : t321 = true
            ·subst c33
             replace H := IP H
             by_cases c34 : t325 = true
             ·subst c34
              replace H := IP H
              by_cases c35 : t329 = true
              ·subst c35
               replace H := IP H
               obtain ⟨t332, A360, H⟩ := Option.bind_eq_some_iff.mp H
               have A36 := Aside0.mk A360
               clear A360
               have H' := Aside0.mk H
               clear H
               obtain ⟨Ao37, co37, eo37⟩ := Kd.R_slice HO327.out
               subst eo37
               obtain ⟨Ao38, co38, eo38⟩ := Kd.R_slice HO331.out
               subst eo38
               go_wp2_with (first | (go_at_call 11; (with_reducible refine (laws_zSame.calls kj15 _ _ t324 _ _ t328 t332 _ ?side1 ?side2 ?side3 ?side4 A36.out).mono ?_); (case side1 => exact CW (Kd.R_reads' HO327.out).2.2); (case side2 => exact (Kd.R_reads' HO327.out).2.1); (case side3 => exact CW (Kd.R_reads' HO331.out).2.2); (case side4 => exact (Kd.R_reads' HO331.out).2.1); rintro e w' ⟨rfl, ⟨nd, rfl⟩⟩))
               go_meet
               case rel => exact ⟨_, (!t332), RF, H', ⟨by have := HJ7.out; have := HJ15.out; first | omega | exact Nat.le_refl _⟩, ⟨by (with_reducible repeat (first | apply Kd.R_alloc | apply Kd.R_drewN | apply Kd.R_drew)); exact Kd.R_mono HO323.out (fun _ hk => hk.1.2)⟩, ⟨by (with_reducible repeat (first | apply Kd.R_alloc | apply Kd.R_drewN | apply Kd.R_drew)); exact Kd.R_mono HO327.out (fun _ hk => hk.1.2)⟩, ⟨BB⟩⟩
              ·replace c35 := Bool.eq_false_iff.mpr c35
               subst c35
               replace H := IN H
               cases H
             ·replace c34 := Bool.eq_false_iff.mpr c34
              subst c34
              replace H := IN H
              cases H
            ·replace c33 := Bool.eq_false_iff.mpr c33
             subst c33
             replace H := IN H
             cases H
           case rest => as_aux_lemma =>
            clear HC29
            try clear c1
            try clear c2
            try clear p2
            try clear c3
            try clear c4
            try clear c5
            try clear p6
            try clear c12
            try clear c12b0
            try clear c12b1
            try clear c12b2
            try clear c13
            try clear c14
            try clear c19
            try clear c20
            try clear c20b0
            try clear c20b1
            try clear c21
            try clear c22
            try clear c23
            try clear c24
            try clear c27
            try clear c27b0
            try clear c27b1
            try clear c33
            try clear c34
            try clear c35
            try clear p2
            try clear p6
            obtain ⟨kq, x137_28, rfl, HA, HJ28, HO_14, HO_16, HB⟩ := hcut
            cases kq with
            | zero => exact absurd HA.out (by simp [laws_FnHalfWindows.j2])
            | succ kj28 =>
             have H := HA.out
             clear HA
             simp only [laws_FnHalfWindows.j2] at H
             by_cases c39 : x137_28 = true
             ·subst c39
              replace H := IP H
              cases H
             ·replace c39 := Bool.eq_false_iff.mpr c39
              subst c39
              replace H := IN H
              have H' := Aside0.mk H
              clear H
              obtain ⟨Ao40, co40, eo40⟩ := Kd.R_slice HO_16.out
              subst eo40
              go_wp2
              go_loopg [140] kj28 (fun kq v140 w' => ∃ (x140_4 : Int), v140 = .int .i64 x140_4 ∧ Aside0 (laws_FnHalfWindows.l0 kq l1 t311 t312 t320 t324 t324 (t324.length : Int) x140_4 = some r) ∧ Aside0 (kq ≤ kj28) ∧ Aside0 (Kd.R (Kd.int .i64) 3 w' w.heap.size (fun k_ => some k_ ≠ ((.slice Ao40 t324.length co40) : Value).ownBlock ∧ some k_ ≠ ((.slice Ao40 t324.length co40) : Value).ownBlock) v322 t320) ∧ Aside0 (Kd.R (Kd.int .i64) 3 w' w.heap.size (fun k_ => some k_ ≠ (v322 : Value).ownBlock) (.slice Ao40 t324.length co40) t324) ∧ Aside0 (Kd.R (Kd.int .i64) 3 w' w.heap.size (fun k_ => some k_ ≠ (v322 : Value).ownBlock) (.slice Ao40 t324.length co40) t324) ∧ Aside0 (Below w.heap.size w w'))
              case atStart => exact ⟨(0), RF, H', ⟨Nat.le_refl _⟩, ⟨by (with_reducible repeat (first | apply Kd.R_alloc | apply Kd.R_drewN | apply Kd.R_drew)); exact Kd.R_mono HO_14.out (fun _ hk => ⟨hk, hk⟩)⟩, ⟨KR HO_16⟩, ⟨KR HO_16⟩, ⟨BB⟩⟩
              case round => as_aux_lemma =>
               clear H'
               try clear c1
               try clear c2
               try clear p2
               try clear c3
               try clear c4
               try clear c5
               try clear p6
               try clear c12
               try clear c12b0
               try clear c12b1
               try clear c12b2
               try clear c13
               try clear c14
               try clear c19
               try clear c20
               try clear c20b0
               try clear c20b1
               try clear c21
               try clear c22
               try clear c23
               try clear c24
               try clear c27
               try clear c27b0
               try clear c27b1
               try clear c33
               try clear c34
               try clear c35
               try clear c39
               try clear p2
               try clear p6
               obtain ⟨x140_4, rfl, HA, HK4, HO_14, HO_16, HO_138, HB⟩ := hrel
               cases gk with
               | zero => exact absurd HA.out (by simp [laws_FnHalfWindows.l0])
               | succ k4 =>
                have H := HA.out
                clear HA
                simp only [laws_FnHalfWindows.l0] at H
                by_cases c41 : x140_4 < (t324.length : Int)
                ·rw [if_pos c41] at H
                 have c41b0 : decide (x140_4 < (t324.length : Int)) = true := decide_eq_true c41
                 clear c41
                 by_cases c42 : 0 ≤ x140_4
                 ·rw [if_pos c42] at H
                  have c42b0 : decide (0 ≤ x140_4) = true := decide_eq_true c42
                  clear c42
                  by_cases c43 : x140_4 < (t324.length : Int)
                  ·rw [if_pos c43] at H
                   have c43b0 : decide (x140_4 < (t324.length : Int)) = true := decide_eq_true c43
                   clear c43
                   by_cases c44 : x140_4 < (t320.length : Int)
                   ·rw [if_pos c44] at H
                    have c44b0 : decide (x140_4 < (t320.length : Int)) = true := decide_eq_true c44
                    clear c44
                    by_cases c45 : (wrap64 (2 * (rd t324 x140_4))) = (rd t320 x140_4)
                    ·rw [if_pos c45] at H
                     have c45b0 : ((wrap64 (2 * (rd t324 x140_4))) == (rd t320 x140_4)) = true := beq_iff_eq.mpr c45
                     have c45b1 : ((wrap64 (2 * (rd t324 x140_4))) != (rd t320 x140_4)) = false := bne_eq_false_iff_eq.mpr c45
                     clear c45
                     have H' := Aside0.mk H
                     clear H
                     have p333 : 0 ≤ (x140_4 : Int) := of_decide_eq_true AS
                     have q333 : x140_4 < (t324.length : Int) := of_decide_eq_true AS
                     obtain ⟨ad333, e333, hx333_0⟩ := Kd.at_int (Kd.R_reads' HO_138.out).2.2 x140_4 p333 q333
                     cases e333
                     replace p333 := eq_true p333
                     replace q333 := eq_true q333
                     obtain ⟨Ao46, co46, eo46⟩ := Kd.R_slice HO_14.out
                     subst eo46
                     have p334 : 0 ≤ (x140_4 : Int) := of_decide_eq_true AS
                     have q334 : x140_4 < (t320.length : Int) := of_decide_eq_true AS
                     obtain ⟨ad334, e334, hx334_0⟩ := Kd.at_int (Kd.R_reads' HO_14.out).2.2 x140_4 p334 q334
                     cases e334
                     replace p334 := eq_true p334
                     replace q334 := eq_true q334
                     go_wp2
                     go_roundg k4
                     case measure => have := HJ7.out; have := HJ15.out; have := HJ28.out; have := HK4.out; omega
                     case rel => exact ⟨(wrap64 (x140_4 + 1)), RF, H', ⟨by have := HJ7.out; have := HJ15.out; have := HJ28.out; have := HK4.out; omega⟩, ⟨KR HO_14⟩, ⟨KR HO_16⟩, ⟨KR HO_138⟩, ⟨BB⟩⟩
                    ·rw [if_neg c45] at H
                     cases H
                   ·rw [if_neg c44] at H
                    cases H
                  ·rw [if_neg c43] at H
                   cases H
                 ·rw [if_neg c42] at H
                  cases H
                ·rw [if_neg c41] at H
                 have c41b0 : decide (x140_4 < (t324.length : Int)) = false := decide_eq_false c41
                 clear c41
                 have H' := Aside0.mk H
                 clear H
                 go_wp2
                 go_loopg [22] k4 (fun kq v22 w' => ∃ (x22_5 : Int), v22 = .int .i64 x22_5 ∧ Aside0 (laws_FnHalfWindows.l1 kq l1 t311 t312 t324 x22_5 = some r) ∧ Aside0 (kq ≤ k4) ∧ Aside0 (Kd.R (Kd.int .i64) 3 w' w.heap.size (fun _ => True) (.slice Ao40 t324.length co40) t324) ∧ Aside0 (Below w.heap.size w w'))
                 case atStart => exact ⟨(0), RF, H', ⟨Nat.le_refl _⟩, ⟨by (with_reducible repeat (first | apply Kd.R_alloc | apply Kd.R_drewN | apply Kd.R_drew)); exact Kd.R_mono HO_16.out (fun _ hk => trivial)⟩, ⟨BB⟩⟩
                 case round => as_aux_lemma =>
                  clear H'
                  try clear c1
                  try clear c2
                  try clear p2
                  try clear c3
                  try clear p3
                  try clear q3
                  try clear hx3
                  try clear c4
                  try clear c5
                  try clear p6
                  try clear c12
                  try clear c12b0
                  try clear c12b1
                  try clear c12b2
                  try clear c13
                  try clear c14
                  try clear c19
                  try clear c20
                  try clear c20b0
                  try clear c20b1
                  try clear c21
                  try clear c22
                  try clear c23
                  try clear c24
                  try clear c27
                  try clear c27b0
                  try clear c27b1
                  try clear c33
                  try clear p33
                  try clear q33
                  try clear hx33
                  try clear c34
                  try clear c35
                  try clear c39
                  try clear c41
                  try clear c41b0
                  try clear c42
                  try clear c42b0
                  try clear c43
                  try clear c43b0
                  try clear c44
                  try clear c44b0
                  try clear c45
                  try clear c45b0
                  try clear c45b1
                  try clear hx333_0
                  try clear hx334_0
                  try clear p2
                  try clear p333
                  try clear p334
                  try clear p6
                  try clear q333
                  try clear q334
                  obtain ⟨x22_5, rfl, HA, HK5, HO_16, HB⟩ := hrel
                  cases gk with
                  | zero => exact absurd HA.out (by simp [laws_FnHalfWindows.l1])
                  | succ k5 =>
                   have H := HA.out
                   clear HA
                   simp only [laws_FnHalfWindows.l1] at H
                   by_cases c47 : x22_5 < t312
                   ·rw [if_pos c47] at H
                    have c47b0 : decide (x22_5 < t312) = true := decide_eq_true c47
                    clear c47
                    obtain ⟨⟨t335, t336⟩, A480, H⟩ := Option.bind_eq_some_iff.mp H
                    replace H : (if t336 = true then ((laws_zSame.f k5 t335 t324).bind fun t339 => (if t339 = true then (none) else (laws_FnHalfWindows.l1 k5 l1 t311 t312 t324 (wrap64 (x22_5 + 1))))) else (none)) = some r := H
                    have A48 := Aside0.mk A480
                    clear A480
                    by_cases c49 : t336 = true
                    ·subst c49
                     replace H := IP H
                     obtain ⟨t339, A500, H⟩ := Option.bind_eq_some_iff.mp H
                     have A50 := Aside0.mk A500
                     clear A500
                     by_cases c51 : t339 = true
                     ·subst c51
                      replace H := IP H
                      cases H
                     ·replace c51 := Bool.eq_false_iff.mpr c51
                      subst c51
                      replace H := IN H
                      have H' := Aside0.mk H
                      clear H
                      go_wp2_with (first | ((with_reducible refine gate_callee (f := 24) rfl ?_); refine goesL_ (some 164) rfl rfl Tryd.func24 (by kernel_rfl) rfl #[.string t311, .int .i64 x22_5, .int .i64 (wrap64 ((t311.size : Int) / 2))] rfl TA ?_; (with_reducible refine (impl_WindowCounts.calls k5 t311 x22_5 (wrap64 ((t311.size : Int) / 2)) t335 true _ A48.out).mono ?_); rintro e w52 ⟨v337, rfl, ho0, hb⟩; refine ⟨_, rfl, ?_⟩; have n0_ := Aside0.mk (Kd.R_elder' (KR HO_16) (Kd.R_base ho0) hb); have n1_ := Aside0.mk (Kd.R_lower (Kd.R_new' ho0 (Kd.R_lt (KR HO_16))) (below_size BB)); have n2_ := Aside0.mk (below_step BB hb); clear HO_16; clear HB; have HO_16 := n0_; have HO338 := n1_; have HB := n2_; clear n0_ n1_ n2_; (try clear hb); (try clear hb2); (try clear hk); (try clear hi); (try clear ho0); obtain ⟨Ao53, co53, eo53⟩ := Kd.R_slice HO338.out; subst eo53) | (go_at_call 11; (with_reducible refine (laws_zSame.calls k5 _ _ t335 _ _ t324 false _ ?side1 ?side2 ?side3 ?side4 A50.out).mono ?_); (case side1 => exact CW (Kd.R_reads' HO338.out).2.2); (case side2 => exact (Kd.R_reads' HO338.out).2.1); (case side3 => exact CW (Kd.R_reads' HO_16.out).2.2); (case side4 => exact (Kd.R_reads' HO_16.out).2.1); rintro e w' ⟨rfl, ⟨nd, rfl⟩⟩))
                      go_roundg k5
                      case measure => have := HJ7.out; have := HJ15.out; have := HJ28.out; have := HK4.out; have := HK5.out; omega
                      case rel => exact ⟨(wrap64 (x22_5 + 1)), RF, H', ⟨by have := HJ7.out; have := HJ15.out; have := HJ28.out; have := HK4.out; have := HK5.out; omega⟩, ⟨by (with_reducible repeat (first | apply Kd.R_alloc | apply Kd.R_drewN | apply Kd.R_drew)); exact Kd.R_mono HO_16.out (fun _ hk => trivial)⟩, ⟨BB⟩⟩
                    ·replace c49 := Bool.eq_false_iff.mpr c49
                     subst c49
                     replace H := IN H
                     cases H
                   ·rw [if_neg c47] at H
                    have c47b0 : decide (x22_5 < t312) = false := decide_eq_false c47
                    clear c47
                    have H' := Aside0.mk H
                    clear H
                    go_wp2
                    go_meet
                    case rel => exact ⟨_, H', ⟨by have := HJ7.out; have := HJ15.out; have := HJ28.out; have := HK4.out; have := HK5.out; first | omega | exact Nat.le_refl _⟩, ⟨BB⟩⟩
         ·replace c24 := Bool.eq_false_iff.mpr c24
          subst c24
          replace H := IN H
          have H' := Aside0.mk H
          clear H
          go_wp2
          go_meet
          case rel => exact ⟨_, H', ⟨by have := HJ7.out; have := HJ15.out; first | omega | exact Nat.le_refl _⟩, ⟨BB⟩⟩
        case rest => as_aux_lemma =>
         clear HC23
         try clear c1
         try clear c2
         try clear p2
         try clear c3
         try clear p3
         try clear q3
         try clear hx3
         try clear c4
         try clear c5
         try clear p6
         try clear c12
         try clear c12b0
         try clear c12b1
         try clear c12b2
         try clear c13
         try clear c14
         try clear c19
         try clear c20
         try clear c20b0
         try clear c20b1
         try clear c21
         try clear c22
         try clear c23
         try clear c24
         try clear c27
         try clear c27b0
         try clear c27b1
         try clear c33
         try clear p33
         try clear q33
         try clear hx33
         try clear c34
         try clear c35
         try clear c39
         try clear c41
         try clear c41b0
         try clear c42
         try clear c42b0
         try clear c43
         try clear c43b0
         try clear c44
         try clear c44b0
         try clear c45
         try clear c45b0
         try clear c45b1
         try clear c47
         try clear c47b0
         try clear c49
         try clear c51
         try clear hx333_0
         try clear hx334_0
         try clear p2
         try clear p3
         try clear p33
         try clear p333
         try clear p334
         try clear p6
         try clear q3
         try clear q33
         try clear q333
         try clear q334
         obtain ⟨kq, HA, HJ22, HB⟩ := hcut
         cases kq with
         | zero => exact absurd HA.out (by simp [laws_FnHalfWindows.j5])
         | succ kj22 =>
          have H := HA.out
          clear HA
          simp only [laws_FnHalfWindows.j5] at H
          obtain ⟨⟨t340, t341, t342⟩, A540, H⟩ := Option.bind_eq_some_iff.mp H
          replace H : ((impl_WindowCounts.f kj22 t340 t341 t342).bind fun bt343 => ((spec_WindowCounts.f kj22 t340 t341 t342).bind fun bt347 => (if (bt343.2 != bt347.2) = true then (none) else ((laws_zSame.f kj22 bt343.1 bt347.1).bind fun t351 => (if t351 = true then (if bt343.2 = true then ((laws_zSum.f kj22 bt343.1).bind fun t352 => (laws_FnHalfWindows.j6 kj22 l1 (t352 != t342))) else (laws_FnHalfWindows.j6 kj22 l1 false)) else (none)))))) = some r := H
          have A54 := Aside0.mk A540
          clear A540
          obtain ⟨⟨t343, t344⟩, A550, H⟩ := Option.bind_eq_some_iff.mp H
          replace H : ((spec_WindowCounts.f kj22 t340 t341 t342).bind fun bt347 => (if (t344 != bt347.2) = true then (none) else ((laws_zSame.f kj22 t343 bt347.1).bind fun t351 => (if t351 = true then (if t344 = true then ((laws_zSum.f kj22 t343).bind fun t352 => (laws_FnHalfWindows.j6 kj22 l1 (t352 != t342))) else (laws_FnHalfWindows.j6 kj22 l1 false)) else (none))))) = some r := H
          have A55 := Aside0.mk A550
          clear A550
          obtain ⟨⟨t347, t348⟩, A560, H⟩ := Option.bind_eq_some_iff.mp H
          replace H : (if (t344 != t348) = true then (none) else ((laws_zSame.f kj22 t343 t347).bind fun t351 => (if t351 = true then (if t344 = true then ((laws_zSum.f kj22 t343).bind fun t352 => (laws_FnHalfWindows.j6 kj22 l1 (t352 != t342))) else (laws_FnHalfWindows.j6 kj22 l1 false)) else (none)))) = some r := H
          have A56 := Aside0.mk A560
          clear A560
          have HC57 := Aside0.mk H
          clear H
          go_upto_region 33 with (first | ((with_reducible refine gate_callee (f := 25) rfl ?_); refine goesL_ (some 176) rfl rfl Tryd.func25 (by kernel_rfl) rfl #[.slice A1 l1.length c1] rfl TA ?_; (with_reducible refine (spec_DrawWindowCounts.calls kj22 _ _ l1 t340 t341 t342 _ ?side1 ?side2 A54.out).mono ?_); (case side1 => exact CW (Kd.C_below HR1.out HB.out)); (case side2 => exact HC1.out); rintro e w58 ⟨rfl, hb⟩; refine ⟨_, rfl, ?_⟩; have n0_ := Aside0.mk (below_step BB hb); clear HB; have HB := n0_; clear n0_; (try clear hb); (try clear hb2); (try clear hk); (try clear hi)) | ((with_reducible refine gate_callee (f := 24) rfl ?_); refine goesL_ (some 184) rfl rfl Tryd.func24 (by kernel_rfl) rfl #[.string t340, .int .i64 t341, .int .i64 t342] rfl TA ?_; (with_reducible refine (impl_WindowCounts.calls kj22 t340 t341 t342 t343 t344 _ A55.out).mono ?_); rintro e w59 ⟨v345, rfl, ho0, hb⟩; refine ⟨_, rfl, ?_⟩; have n0_ := Aside0.mk (Kd.R_lower ho0 (below_size BB)); have n1_ := Aside0.mk (below_step BB hb); clear HB; have HO346 := n0_; have HB := n1_; clear n0_ n1_; (try clear hb); (try clear hb2); (try clear hk); (try clear hi); (try clear ho0)) | ((with_reducible refine gate_callee (f := 26) rfl ?_); refine goesL_ (some 191) rfl rfl Tryd.func26 (by kernel_rfl) rfl #[.string t340, .int .i64 t341, .int .i64 t342] rfl TA ?_; (with_reducible refine (spec_WindowCounts.calls kj22 t340 t341 t342 t347 t348 _ A56.out).mono ?_); rintro e w60 ⟨v349, rfl, ho0, hb⟩; refine ⟨_, rfl, ?_⟩; have n0_ := Aside0.mk (Kd.R_elder' (KR HO346) (Kd.R_base ho0) hb); have n1_ := Aside0.mk (Kd.R_lower (Kd.R_new' ho0 (Kd.R_lt (KR HO346))) (below_size BB)); have n2_ := Aside0.mk (below_step BB hb); clear HO346; clear HB; have HO346 := n0_; have HO350 := n1_; have HB := n2_; clear n0_ n1_ n2_; (try clear hb); (try clear hb2); (try clear hk); (try clear hi); (try clear ho0)))
          (try simp only [Act.put, List.setIfInBounds_toArray, List.set_cons_zero, List.set_cons_succ])
          go_cut [211] (fun v211 wc => ∃ (kq : Nat) (x211_56 : Bool), v211 = .bool x211_56 ∧ Aside0 (laws_FnHalfWindows.j6 kq l1 x211_56 = some r) ∧ Aside0 (kq ≤ kj22) ∧ Aside0 (Below w.heap.size w wc))
          case first => as_aux_lemma =>
           have H := HC57.out
           clear HC57
           by_cases c61 : (t344 != t348) = true
           ·rw [if_pos c61] at H
            cases H
           ·rw [if_neg c61] at H
            have c61b0 : (t344 != t348) = false := by simpa using c61
            (try (have c61b1 : decide (t344 = t348) = true := by simpa using c61))
            (try (have c61b2 : (t344 == t348) = true := by simpa using c61))
            clear c61
            (first | rw [c61b0] | (simp only [i64_w, i32_w]; rw [c61b0]) | skip)
            obtain ⟨t351, A620, H⟩ := Option.bind_eq_some_iff.mp H
            have A62 := Aside0.mk A620
            clear A620
            by_cases c63 : t351 = true
            ·subst c63
             replace H := IP H
             by_cases c64 : t344 = true
             ·subst c64
              replace H := IP H
              obtain ⟨t352, A650, H⟩ := Option.bind_eq_some_iff.mp H
              have A65 := Aside0.mk A650
              clear A650
              have H' := Aside0.mk H
              clear H
              obtain ⟨Ao66, co66, eo66⟩ := Kd.R_slice HO346.out
              subst eo66
              obtain ⟨Ao67, co67, eo67⟩ := Kd.R_slice HO350.out
              subst eo67
              go_wp2_with (first | (go_at_call 11; (with_reducible refine (laws_zSame.calls kj22 _ _ t343 _ _ t347 true _ ?side1 ?side2 ?side3 ?side4 A62.out).mono ?_); (case side1 => exact CW (Kd.R_reads' HO346.out).2.2); (case side2 => exact (Kd.R_reads' HO346.out).2.1); (case side3 => exact CW (Kd.R_reads' HO350.out).2.2); (case side4 => exact (Kd.R_reads' HO350.out).2.1); rintro e w' ⟨rfl, ⟨nd, rfl⟩⟩) | (go_at_call 27; (with_reducible refine (laws_zSum.calls kj22 _ _ t343 t352 _ ?side1 ?side2 A65.out).mono ?_); (case side1 => exact CW (Kd.R_reads' HO346.out).2.2); (case side2 => exact (Kd.R_reads' HO346.out).2.1); rintro e w' ⟨rfl, ⟨nd, rfl⟩⟩))
              go_meet
              case rel => exact ⟨_, ((t352 != t342)), RF, H', ⟨by have := HJ7.out; have := HJ15.out; have := HJ22.out; first | omega | exact Nat.le_refl _⟩, ⟨BB⟩⟩
             ·replace c64 := Bool.eq_false_iff.mpr c64
              subst c64
              replace H := IN H
              have H' := Aside0.mk H
              clear H
              obtain ⟨Ao68, co68, eo68⟩ := Kd.R_slice HO346.out
              subst eo68
              obtain ⟨Ao69, co69, eo69⟩ := Kd.R_slice HO350.out
              subst eo69
              go_wp2_with (first | (go_at_call 11; (with_reducible refine (laws_zSame.calls kj22 _ _ t343 _ _ t347 true _ ?side1 ?side2 ?side3 ?side4 A62.out).mono ?_); (case side1 => exact CW (Kd.R_reads' HO346.out).2.2); (case side2 => exact (Kd.R_reads' HO346.out).2.1); (case side3 => exact CW (Kd.R_reads' HO350.out).2.2); (case side4 => exact (Kd.R_reads' HO350.out).2.1); rintro e w' ⟨rfl, ⟨nd, rfl⟩⟩))
              go_meet
              case rel => exact ⟨_, (false), RF, H', ⟨by have := HJ7.out; have := HJ15.out; have := HJ22.out; first | omega | exact Nat.le_refl _⟩, ⟨BB⟩⟩
            ·replace c63 := Bool.eq_false_iff.mpr c63
             subst c63
             replace H := IN H
             cases H
          case rest => as_aux_lemma =>
           clear HC57
           try clear c1
           try clear c2
           try clear p2
           try clear c3
           try clear p3
           try clear q3
           try clear hx3
           try clear c4
           try clear c5
           try clear c6
           try clear p6
           try clear c12
           try clear c12b0
           try clear c12b1
           try clear c12b2
           try clear c13
           try clear c14
           try clear c19
           try clear c20
           try clear c20b0
           try clear c20b1
           try clear c21
           try clear c22
           try clear c23
           try clear c24
           try clear c25
           try clear c26
           try clear c27
           try clear c27b0
           try clear c27b1
           try clear c33
           try clear p33
           try clear q33
           try clear hx33
           try clear c34
           try clear c35
           try clear c39
           try clear c41
           try clear c41b0
           try clear c42
           try clear c42b0
           try clear c43
           try clear c43b0
           try clear c44
           try clear c44b0
           try clear c45
           try clear c45b0
           try clear c45b1
           try clear c47
           try clear c47b0
           try clear c49
           try clear c51
           try clear c61
           try clear c61b0
           try clear c61b1
           try clear c61b2
           try clear c63
           try clear c64
           try clear p64
           try clear hx333_0
           try clear hx334_0
           try clear p2
           try clear p3
           try clear p33
           try clear p333
           try clear p334
           try clear p6
           try clear q3
           try clear q33
           try clear q333
           try clear q334
           obtain ⟨kq, x211_56, rfl, HA, HJ56, HB⟩ := hcut
           cases kq with
           | zero => exact absurd HA.out (by simp [laws_FnHalfWindows.j6])
           | succ kj56 =>
            have H := HA.out
            clear HA
            simp only [laws_FnHalfWindows.j6] at H
            by_cases c70 : x211_56 = true
            ·subst c70
             replace H := IP H
             cases H
            ·replace c70 := Bool.eq_false_iff.mpr c70
             subst c70
             replace H := IN H
             obtain ⟨t353, A710, H⟩ := Option.bind_eq_some_iff.mp H
             have A71 := Aside0.mk A710
             clear A710
             obtain ⟨⟨t354, t355⟩, A720, H⟩ := Option.bind_eq_some_iff.mp H
             replace H : ((spec_FewestForThree.f kj56 t353).bind fun bt356 => (if (t355 != bt356.2) = true then (none) else (laws_FnHalfWindows.j7 kj56 t353 t354 t355 (t354 != bt356.1)))) = some r := H
             have A72 := Aside0.mk A720
             clear A720
             obtain ⟨⟨t356, t357⟩, A730, H⟩ := Option.bind_eq_some_iff.mp H
             replace H : (if (t355 != t357) = true then (none) else (laws_FnHalfWindows.j7 kj56 t353 t354 t355 (t354 != t356))) = some r := H
             have A73 := Aside0.mk A730
             clear A730
             have HC74 := Aside0.mk H
             clear H
             go_upto_region 38 with (first | ((with_reducible refine gate_callee (f := 28) rfl ?_); refine goesL_ (some 213) rfl rfl Tryd.func28 (by kernel_rfl) rfl #[.slice A1 l1.length c1] rfl TA ?_; (with_reducible refine (spec_DrawFewestForThree.calls kj56 _ _ l1 t353 _ ?side1 ?side2 A71.out).mono ?_); (case side1 => exact CW (Kd.C_below HR1.out HB.out)); (case side2 => exact HC1.out); rintro e w75 ⟨rfl, hb⟩; refine ⟨_, rfl, ?_⟩; have n0_ := Aside0.mk (below_step BB hb); clear HB; have HB := n0_; clear n0_; (try clear hb); (try clear hb2); (try clear hk); (try clear hi)) | ((with_reducible refine gate_callee (f := 29) rfl ?_); refine goesL_ (some 216) rfl rfl Tryd.func29 (by kernel_rfl) rfl #[.string t353] rfl TA ?_; (with_reducible refine (impl_FewestForThree.calls kj56 t353 t354 t355 _ A72.out).mono ?_); rintro e w76 ⟨rfl, hb⟩; refine ⟨_, rfl, ?_⟩; have n0_ := Aside0.mk (below_step BB hb); clear HB; have HB := n0_; clear n0_; (try clear hb); (try clear hb2); (try clear hk); (try clear hi)) | ((with_reducible refine gate_callee (f := 30) rfl ?_); refine goesL_ (some 221) rfl rfl Tryd.func30 (by kernel_rfl) rfl #[.string t353] rfl TA ?_; (with_reducible refine (spec_FewestForThree.calls kj56 t353 t356 t357 _ A73.out).mono ?_); rintro e w77 ⟨rfl, hb⟩; refine ⟨_, rfl, ?_⟩; have n0_ := Aside0.mk (below_step BB hb); clear HB; have HB := n0_; clear n0_; (try clear hb); (try clear hb2); (try clear hk); (try clear hi)))
             (try simp only [Act.put, List.setIfInBounds_toArray, List.set_cons_zero, List.set_cons_succ])
             go_cut [231] (fun v231 wc => ∃ (kq : Nat) (x231_73 : Bool), v231 = .bool x231_73 ∧ Aside0 (laws_FnHalfWindows.j7 kq t353 t354 t355 x231_73 = some r) ∧ Aside0 (kq ≤ kj56) ∧ Aside0 (Below w.heap.size w wc))
             case first => as_aux_lemma =>
              have H := HC74.out
              clear HC74
              by_cases c78 : (t355 != t357) = true
              ·rw [if_pos c78] at H
               cases H
              ·rw [if_neg c78] at H
               have c78b0 : (t355 != t357) = false := by simpa using c78
               (try (have c78b1 : decide (t355 = t357) = true := by simpa using c78))
               (try (have c78b2 : (t355 == t357) = true := by simpa using c78))
               clear c78
               (first | rw [c78b0] | (simp only [i64_w, i32_w]; rw [c78b0]) | skip)
               have H' := Aside0.mk H
               clear H
               go_wp2
               go_meet
               case rel => exact ⟨_, ((t354 != t356)), RF, H', ⟨by have := HJ7.out; have := HJ15.out; have := HJ22.out; have := HJ56.out; first | omega | exact Nat.le_refl _⟩, ⟨BB⟩⟩
             case rest => as_aux_lemma =>
              clear HC74
              try clear c1
              try clear c2
              try clear p2
              try clear c3
              try clear p3
              try clear q3
              try clear hx3
              try clear c4
              try clear c5
              try clear c6
              try clear p6
              try clear c7
              try clear c12
              try clear c12b0
              try clear c12b1
              try clear c12b2
              try clear c13
              try clear c14
              try clear c19
              try clear c20
              try clear c20b0
              try clear c20b1
              try clear c21
              try clear c22
              try clear c23
              try clear c24
              try clear c25
              try clear c26
              try clear c27
              try clear c27b0
              try clear c27b1
              try clear c28
              try clear c29
              try clear c30
              try clear c33
              try clear p33
              try clear q33
              try clear hx33
              try clear c34
              try clear c35
              try clear c39
              try clear c41
              try clear c41b0
              try clear c42
              try clear c42b0
              try clear c43
              try clear c43b0
              try clear c44
              try clear c44b0
              try clear c45
              try clear c45b0
              try clear c45b1
              try clear c47
              try clear c47b0
              try clear c49
              try clear c51
              try clear c61
              try clear c61b0
              try clear c61b1
              try clear c61b2
              try clear c63
              try clear c64
              try clear p64
              try clear c70
              try clear c78
              try clear c78b0
              try clear c78b1
              try clear c78b2
              try clear hx333_0
              try clear hx334_0
              try clear p2
              try clear p3
              try clear p33
              try clear p333
              try clear p334
              try clear p6
              try clear p64
              try clear q3
              try clear q33
              try clear q333
              try clear q334
              obtain ⟨kq, x231_73, rfl, HA, HJ73, HB⟩ := hcut
              cases kq with
              | zero => exact absurd HA.out (by simp [laws_FnHalfWindows.j7])
              | succ kj73 =>
               have H := HA.out
               clear HA
               simp only [laws_FnHalfWindows.j7] at H
               by_cases c79 : x231_73 = true
               ·subst c79
                replace H := IP H
                cases H
               ·replace c79 := Bool.eq_false_iff.mpr c79
                subst c79
                replace H := IN H
                by_cases c80 : t355 = true
                ·subst c80
                 replace H := IP H
                 obtain ⟨⟨t358, t359⟩, A810, H⟩ := Option.bind_eq_some_iff.mp H
                 replace H : ((impl_ReverseBeads.f t353).bind fun bt360 => ((impl_FewestForThree.f kj73 bt360.1).bind fun bt362 => (if t359 = true then (if bt360.2 = true then (if bt362.2 = true then (if bt362.1 = t354 then (if t354 ≤ (wrap64 (2 * t358)) then (some (((t353.size : Int) == 0) == (t354 == 0))) else (none)) else (none)) else (none)) else (none)) else (none)))) = some r := H
                 have A81 := Aside0.mk A810
                 clear A810
                 obtain ⟨⟨t360, t361⟩, A820, H⟩ := Option.bind_eq_some_iff.mp H
                 replace H : ((impl_FewestForThree.f kj73 t360).bind fun bt362 => (if t359 = true then (if t361 = true then (if bt362.2 = true then (if bt362.1 = t354 then (if t354 ≤ (wrap64 (2 * t358)) then (some (((t353.size : Int) == 0) == (t354 == 0))) else (none)) else (none)) else (none)) else (none)) else (none))) = some r := H
                 have A82 := Aside0.mk A820
                 clear A820
                 obtain ⟨⟨t362, t363⟩, A830, H⟩ := Option.bind_eq_some_iff.mp H
                 replace H : (if t359 = true then (if t361 = true then (if t363 = true then (if t362 = t354 then (if t354 ≤ (wrap64 (2 * t358)) then (some (((t353.size : Int) == 0) == (t354 == 0))) else (none)) else (none)) else (none)) else (none)) else (none)) = some r := H
                 have A83 := Aside0.mk A830
                 clear A830
                 by_cases c84 : t359 = true
                 ·subst c84
                  replace H := IP H
                  by_cases c85 : t361 = true
                  ·subst c85
                   replace H := IP H
                   by_cases c86 : t363 = true
                   ·subst c86
                    replace H := IP H
                    by_cases c87 : t362 = t354
                    ·rw [if_pos c87] at H
                     have c87b0 : (t362 == t354) = true := beq_iff_eq.mpr c87
                     have c87b1 : (t362 != t354) = false := bne_eq_false_iff_eq.mpr c87
                     clear c87
                     by_cases c88 : t354 ≤ (wrap64 (2 * t358))
                     ·rw [if_pos c88] at H
                      have c88b0 : decide (t354 ≤ (wrap64 (2 * t358))) = true := decide_eq_true c88
                      clear c88
                      obtain rfl := Option.some.inj H
                      go_wp2_with (first | ((with_reducible refine gate_callee (f := 22) rfl ?_); refine goesL_ (some 235) rfl rfl Tryd.func22 (by kernel_rfl) rfl #[.string t353] rfl TA ?_; (with_reducible refine (impl_KindsOfBeads.calls kj73 t353 t358 true _ A81.out).mono ?_); rintro e w89 ⟨rfl, hb⟩; refine ⟨_, rfl, ?_⟩; have n0_ := Aside0.mk (below_step BB hb); clear HB; have HB := n0_; clear n0_; (try clear hb); (try clear hb2); (try clear hk); (try clear hi)) | ((with_reducible refine gate_callee (f := 31) rfl ?_); refine goesL_ (some 240) rfl rfl Tryd.func31 (by kernel_rfl) rfl #[.string t353] rfl TA ?_; (with_reducible refine (impl_ReverseBeads.calls t353 t360 true _ A82.out).mono ?_); rintro e w90 ⟨rfl, hb⟩; refine ⟨_, rfl, ?_⟩; have n0_ := Aside0.mk (below_step BB hb); clear HB; have HB := n0_; clear n0_; (try clear hb); (try clear hb2); (try clear hk); (try clear hi)) | ((with_reducible refine gate_callee (f := 29) rfl ?_); refine goesL_ (some 245) rfl rfl Tryd.func29 (by kernel_rfl) rfl #[.string t360] rfl TA ?_; (with_reducible refine (impl_FewestForThree.calls kj73 t360 t362 true _ A83.out).mono ?_); rintro e w91 ⟨rfl, hb⟩; refine ⟨_, rfl, ?_⟩; have n0_ := Aside0.mk (below_step BB hb); clear HB; have HB := n0_; clear n0_; (try clear hb); (try clear hb2); (try clear hk); (try clear hi)))
                      go_ret
                      exact ⟨RE, BB⟩
                     ·rw [if_neg c88] at H
                      cases H
                    ·rw [if_neg c87] at H
                     cases H
                   ·replace c86 := Bool.eq_false_iff.mpr c86
                    subst c86
                    replace H := IN H
                    cases H
                  ·replace c85 := Bool.eq_false_iff.mpr c85
                   subst c85
                   replace H := IN H
                   cases H
                 ·replace c84 := Bool.eq_false_iff.mpr c84
                  subst c84
                  replace H := IN H
                  cases H
                ·replace c80 := Bool.eq_false_iff.mpr c80
                 subst c80
                 replace H := IN H
                 obtain rfl := Option.some.inj H
                 go_wp2
                 go_ret
                 exact ⟨RE, BB⟩

/-- THE ONE PURE STATEMENT of laws_FnHalfWindows: yours. -/
def laws_FnHalfWindows.Pure : Prop := ∀ (l0 : List Int) (l1 : List Int), l0.length ≤ maxLen → l0.length * 1 ≤ 140737488351232 → (∀ x ∈ l0, (Lit.int .u8 x).wf = true) → l1.length ≤ maxLen → l1.length * 1 ≤ 140737488351232 → (∀ x ∈ l1, (Lit.int .u8 x).wf = true) → ∃ k, laws_FnHalfWindows.f k l0 l1 = some true
theorem laws_FnHalfWindows.walk (P : laws_FnHalfWindows.Pure) (a0 : Option Addr) (len0 cap0 : Nat) (z0 : List Int) (a1 : Option Addr) (len1 cap1 : Nat) (z1 : List Int) (w : World) (w0 : (a0 = none ∧ len0 = 0 ∧ cap0 = 0 ∧ z0 = []) ∨ ∃ x, a0 = some x ∧ len0 ≤ cap0 ∧ cap0 ≤ maxLen ∧ z0.length = cap0 ∧ (∀ i, i < z0.length → w.cell? (x.add i) = some (.int .u8 (z0.getD i 0))) ∧ ∀ n ∈ z0, (Lit.int .u8 n).wf = true) (y0 : len0 * 1 ≤ 140737488351232) (w1 : (a1 = none ∧ len1 = 0 ∧ cap1 = 0 ∧ z1 = []) ∨ ∃ x, a1 = some x ∧ len1 ≤ cap1 ∧ cap1 ≤ maxLen ∧ z1.length = cap1 ∧ (∀ i, i < z1.length → w.cell? (x.add i) = some (.int .u8 (z1.getD i 0))) ∧ ∀ n ∈ z1, (Lit.int .u8 n).wf = true) (y1 : len1 * 1 ≤ 140737488351232) :
  Calls Tryd.prog 4 #[.slice a0 len0 cap0, .slice a1 len1 cap1] w fun e w' => e = .returned (.bool true) ∧ Below w.heap.size w w' := by
 obtain ⟨l0, rfl, hr0, hm0, hw0, hc0⟩ := ReadsInt.ofRowC w0
 obtain ⟨l1, rfl, hr1, hm1, hw1, hc1⟩ := ReadsInt.ofRowC w1
 obtain ⟨k, h⟩ := P l0 l1 hm0 y0 hw0 hm1 y1 hw1
 refine (laws_FnHalfWindows.calls k _ _ l0 _ _ l1 true w (Kd.C_of_reads (d := (0 : Int)) (h1 := fun _ => rfl) hr0) hc0 (Kd.C_of_reads (d := (0 : Int)) (h1 := fun _ => rfl) hr1) hc1 h).mono ?_
 rintro e w' ⟨rfl, hd⟩
 exact ⟨rfl, hd⟩

end Go.Proofs.YtafjjbkkcedgnaaDoor.PFnHalfWindows
