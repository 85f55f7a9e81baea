-- Written by a program of this session (wip/tools/pp.sh) out of the translation; Lean checks it.
import Derived.Test.YtafjjbkkcedgnabPFnDoorsOfRoomsx0
import Derived.Test.YtafjjbkkcedgnabPFnDoorsOfRoomsx1
import Derived.Test.YtafjjbkkcedgnabPFnDoorsOfRoomsx4
import Derived.Test.YtafjjbkkcedgnabPFnDoorsOfRoomsx9
import Derived.Test.YtafjjbkkcedgnabPFnDoorsOfRoomsx10
import Derived.Test.YtafjjbkkcedgnabPFnDoorsOfRoomsx11
import Derived.Test.YtafjjbkkcedgnabPFnDoorsOfRoomsx12
import Derived.Test.YtafjjbkkcedgnabPFnDoorsOfRoomsx13
import Derived.Test.YtafjjbkkcedgnabPFnDoorsOfRoomsx14
import Derived.Test.YtafjjbkkcedgnabPFnDoorsOfRoomsx15
namespace Go.Proofs.Ytafjjbkkcedgnab.PFnDoorsOfRooms
open Go.RowKit Go.Proofs.YtafjjbkkcedgnabOwn Go.Proofs.YtafjjbkkcedgnabW.PrintWords Go.Proofs.YtafjjbkkcedgnabW.PrintLast Go.Proofs.YtafjjbkkcedgnabW.PrintMore
attribute [local go_sem] max2_int min2_int max_two min_two max_three min_three max_four min_four   -- for this text's walks alone
set_option linter.unusedVariables false
set_option maxHeartbeats 8000000
set_option maxRecDepth 100000
set_option linter.unusedSimpArgs false

/-! ### laws_FnDoorsOfRooms: function 3 -/
mutual
def laws_FnDoorsOfRooms.j0 : Nat → List Int → Int → List Int → List (List Int) → Bool → Bool → Bool → Option (Bool)
 | 0, _, _, _, _, _, _, _ => none
 | k + 1, x1, x5, x6, x8, x9, x12, x102 => if x102 = true then (none) else (if x9 = true then (if (x12 != ((x8.length : Int) == 1)) = true then (none) else (laws_FnDoorsOfRooms.j1 k x1 x5 x6 x8 (decide ((x8.length : Int) > 2)))) else (laws_FnDoorsOfRooms.j3 k x1))
def laws_FnDoorsOfRooms.j3 : Nat → List Int → Option (Bool)
 | 0, _ => none
 | k + 1, x1 => (spec_DrawDoorsOf.f k x1).bind fun bt644 => ((impl_DoorsOf.f k bt644.1 bt644.2).bind fun bt648 => ((spec_DoorsOf.f k bt644.1 bt644.2).bind fun bt652 => ((impl_BorderDoors.f k bt644.1 bt644.2).bind fun bt656 => ((spec_BorderDoors.f k bt644.1 bt644.2).bind fun bt660 => (if (bt648.2 != bt652.2) = true then (none) else ((laws_uSameRows.f k bt648.1 bt652.1).bind fun t664 => (if t664 = true then (if (bt656.2 != bt660.2) = true then (none) else ((laws_uSameRows.f k bt656.1 bt660.1).bind fun t665 => (if t665 = true then (laws_FnDoorsOfRooms.j4 k x1 bt644.1 bt644.2 bt648.1 bt648.2 bt656.1 (bt656.2 != bt648.2)) else (none)))) else (none))))))))
def laws_FnDoorsOfRooms.j4 : Nat → List Int → Int → List Int → List (List Int) → Bool → List (List Int) → Bool → Option (Bool)
 | 0, _, _, _, _, _, _, _ => none
 | k + 1, x1, x20, x21, x22, x23, x26, x192 => if x192 = true then (none) else (if x23 = true then (laws_FnDoorsOfRooms.l1 k x1 x20 x21 x22 x26 0 0) else ((spec_DrawIsDoor.f k x1).bind fun bt680 => ((impl_IsDoor.f k bt680.1 bt680.2.1 bt680.2.2.1 bt680.2.2.2).bind fun bt686 => ((spec_IsDoor.f k bt680.1 bt680.2.1 bt680.2.2.1 bt680.2.2.2).bind fun bt688 => (if (bt686.2 == bt688.2) = true then (some (bt686.1 == bt688.1)) else (none))))))
def laws_FnDoorsOfRooms.l1 : Nat → List Int → Int → List Int → List (List Int) → List (List Int) → Int → Int → Option (Bool)
 | 0, _, _, _, _, _, _, _ => none
 | k + 1, x1, x20, x21, x22, x26, x30, x31 => if x31 < (wrap64 (x20 * x20)) then ((impl_DoorsOfCell.f k x20 x21 x31).bind fun bt666 => (if bt666.2 = true then (laws_FnDoorsOfRooms.l1 k x1 x20 x21 x22 x26 (wrap64 (x30 + (bt666.1.length : Int))) (wrap64 (x31 + 1))) else (none))) else (if x30 = (wrap64 ((wrap64 (2 * (x22.length : Int))) - (x26.length : Int))) then ((spec_DrawIsDoor.f k x1).bind fun bt670 => ((impl_IsDoor.f k bt670.1 bt670.2.1 bt670.2.2.1 bt670.2.2.2).bind fun bt676 => ((spec_IsDoor.f k bt670.1 bt670.2.1 bt670.2.2.1 bt670.2.2.2).bind fun bt678 => (if (bt676.2 == bt678.2) = true then (some (bt676.1 == bt678.1)) else (none))))) else (none))
def laws_FnDoorsOfRooms.j1 : Nat → List Int → Int → List Int → List (List Int) → Bool → Option (Bool)
 | 0, _, _, _, _, _ => none
 | k + 1, x1, x5, x6, x8, x113 => if x113 = true then (none) else (laws_FnDoorsOfRooms.l0 k x1 x5 x6 x8 (x8.length : Int) 0)
def laws_FnDoorsOfRooms.l0 : Nat → List Int → Int → List Int → List (List Int) → Int → Int → Option (Bool)
 | 0, _, _, _, _, _, _ => none
 | k + 1, x1, x5, x6, x114, x115, x116 => if x116 < x115 then (if 0 ≤ x116 then (if x116 < (x114.length : Int) then (if 0 < ((rd_L2 x114 x116).length : Int) then (if 1 < ((rd_L2 x114 x116).length : Int) then ((impl_IsDoor.f k x5 x6 (rd (rd_L2 x114 x116) 0) (rd (rd_L2 x114 x116) 1)).bind fun bt642 => (if bt642.2 = true then (if bt642.1 = true then (laws_FnDoorsOfRooms.l0 k x1 x5 x6 x114 x115 (wrap64 (x116 + 1))) else (none)) else (none))) else (none)) else (none)) else (none)) else (none)) else (laws_FnDoorsOfRooms.j3 k x1)
end
def laws_FnDoorsOfRooms.f (k : Nat) (l0 : List Int) (l1 : List Int) : Option (Bool) := (laws_big.f l0 l1).bind fun t620 => (if t620 = true then (some true) else ((spec_DrawDoorsOfCell.f k l0).bind fun bt621 => ((impl_DoorsOfCell.f k bt621.1 bt621.2.1 bt621.2.2).bind fun bt626 => ((spec_DoorsOfCell.f k bt621.1 bt621.2.1 bt621.2.2).bind fun bt630 => ((impl_IsFull.f k bt621.1 bt621.2.1 bt621.2.2).bind fun bt634 => ((spec_IsFull.f k bt621.1 bt621.2.1 bt621.2.2).bind fun bt636 => (if (bt626.2 != bt630.2) = true then (none) else ((laws_uSameRows.f k bt626.1 bt630.1).bind fun t638 => (if t638 = true then (if (bt634.2 != bt636.2) = true then (none) else (if (bt634.1 != bt636.1) = true then (none) else (laws_FnDoorsOfRooms.j0 k l1 bt621.1 bt621.2.1 bt626.1 bt626.2 bt634.1 (bt634.2 != bt626.2)))) else (none))))))))))
theorem laws_FnDoorsOfRooms.mono_l : ∀ k, (∀ y0 y1 y2 y3 y4 y5 y6, LeO (laws_FnDoorsOfRooms.j0 k y0 y1 y2 y3 y4 y5 y6) (laws_FnDoorsOfRooms.j0 (k + 1) y0 y1 y2 y3 y4 y5 y6)) ∧ (∀ y0, LeO (laws_FnDoorsOfRooms.j3 k y0) (laws_FnDoorsOfRooms.j3 (k + 1) y0)) ∧ (∀ y0 y1 y2 y3 y4 y5 y6, LeO (laws_FnDoorsOfRooms.j4 k y0 y1 y2 y3 y4 y5 y6) (laws_FnDoorsOfRooms.j4 (k + 1) y0 y1 y2 y3 y4 y5 y6)) ∧ (∀ y0 y1 y2 y3 y4 y5 y6, LeO (laws_FnDoorsOfRooms.l1 k y0 y1 y2 y3 y4 y5 y6) (laws_FnDoorsOfRooms.l1 (k + 1) y0 y1 y2 y3 y4 y5 y6)) ∧ (∀ y0 y1 y2 y3 y4, LeO (laws_FnDoorsOfRooms.j1 k y0 y1 y2 y3 y4) (laws_FnDoorsOfRooms.j1 (k + 1) y0 y1 y2 y3 y4)) ∧ (∀ y0 y1 y2 y3 y4 y5, LeO (laws_FnDoorsOfRooms.l0 k y0 y1 y2 y3 y4 y5) (laws_FnDoorsOfRooms.l0 (k + 1) y0 y1 y2 y3 y4 y5))
 | 0 => ⟨fun _ _ _ _ _ _ _ r h => by simp [laws_FnDoorsOfRooms.j0] at h, fun _ r h => by simp [laws_FnDoorsOfRooms.j3] at h, fun _ _ _ _ _ _ _ r h => by simp [laws_FnDoorsOfRooms.j4] at h, fun _ _ _ _ _ _ _ r h => by simp [laws_FnDoorsOfRooms.l1] at h, fun _ _ _ _ _ r h => by simp [laws_FnDoorsOfRooms.j1] at h, fun _ _ _ _ _ _ r h => by simp [laws_FnDoorsOfRooms.l0] at h⟩
 | k + 1 => by
  obtain ⟨ih0, ih1, ih2, ih3, ih4, ih5⟩ := laws_FnDoorsOfRooms.mono_l k
  refine ⟨?_, ?_, ?_, ?_, ?_, ?_⟩
  ·intro y0 y1 y2 y3 y4 y5 y6
   unfold laws_FnDoorsOfRooms.j0
   repeat' first
   | with_reducible first | exact ih0 _ _ _ _ _ _ _ | exact ih1 _ | exact ih2 _ _ _ _ _ _ _ | exact ih3 _ _ _ _ _ _ _ | exact ih4 _ _ _ _ _ | exact ih5 _ _ _ _ _ _ | exact impl_BorderDoors.mono _ _ _ | exact impl_DoorsOf.mono _ _ _ | exact impl_DoorsOfCell.mono _ _ _ _ | exact impl_IsDoor.mono _ _ _ _ _ | exact impl_IsFull.mono _ _ _ _ | exact laws_uSameRows.mono _ _ _ | exact spec_BorderDoors.mono _ _ _ | exact spec_DoorsOf.mono _ _ _ | exact spec_DoorsOfCell.mono _ _ _ _ | exact spec_DrawDoorsOf.mono _ _ | exact spec_DrawDoorsOfCell.mono _ _ | exact spec_DrawIsDoor.mono _ _ | exact spec_IsDoor.mono _ _ _ _ _ | exact spec_IsFull.mono _ _ _ _ | exact LeO.refl _ | exact LeO.none _ | refine LeO.ite ?_ ?_ | refine LeO.bind ?_ (fun _ => ?_)
   | exact LeO.none _ | refine LeO.ite ?_ ?_ | refine LeO.bind ?_ (fun _ => ?_)
  ·intro y0
   unfold laws_FnDoorsOfRooms.j3
   repeat' first
   | with_reducible first | exact ih0 _ _ _ _ _ _ _ | exact ih1 _ | exact ih2 _ _ _ _ _ _ _ | exact ih3 _ _ _ _ _ _ _ | exact ih4 _ _ _ _ _ | exact ih5 _ _ _ _ _ _ | exact impl_BorderDoors.mono _ _ _ | exact impl_DoorsOf.mono _ _ _ | exact impl_DoorsOfCell.mono _ _ _ _ | exact impl_IsDoor.mono _ _ _ _ _ | exact impl_IsFull.mono _ _ _ _ | exact laws_uSameRows.mono _ _ _ | exact spec_BorderDoors.mono _ _ _ | exact spec_DoorsOf.mono _ _ _ | exact spec_DoorsOfCell.mono _ _ _ _ | exact spec_DrawDoorsOf.mono _ _ | exact spec_DrawDoorsOfCell.mono _ _ | exact spec_DrawIsDoor.mono _ _ | exact spec_IsDoor.mono _ _ _ _ _ | exact spec_IsFull.mono _ _ _ _ | exact LeO.refl _ | exact LeO.none _ | refine LeO.ite ?_ ?_ | refine LeO.bind ?_ (fun _ => ?_)
   | exact LeO.none _ | refine LeO.ite ?_ ?_ | refine LeO.bind ?_ (fun _ => ?_)
  ·intro y0 y1 y2 y3 y4 y5 y6
   unfold laws_FnDoorsOfRooms.j4
   repeat' first
   | with_reducible first | exact ih0 _ _ _ _ _ _ _ | exact ih1 _ | exact ih2 _ _ _ _ _ _ _ | exact ih3 _ _ _ _ _ _ _ | exact ih4 _ _ _ _ _ | exact ih5 _ _ _ _ _ _ | exact impl_BorderDoors.mono _ _ _ | exact impl_DoorsOf.mono _ _ _ | exact impl_DoorsOfCell.mono _ _ _ _ | exact impl_IsDoor.mono _ _ _ _ _ | exact impl_IsFull.mono _ _ _ _ | exact laws_uSameRows.mono _ _ _ | exact spec_BorderDoors.mono _ _ _ | exact spec_DoorsOf.mono _ _ _ | exact spec_DoorsOfCell.mono _ _ _ _ | exact spec_DrawDoorsOf.mono _ _ | exact spec_DrawDoorsOfCell.mono _ _ | exact spec_DrawIsDoor.mono _ _ | exact spec_IsDoor.mono _ _ _ _ _ | exact spec_IsFull.mono _ _ _ _ | exact LeO.refl _ | exact LeO.none _ | refine LeO.ite ?_ ?_ | refine LeO.bind ?_ (fun _ => ?_)
   | exact LeO.none _ | refine LeO.ite ?_ ?_ | refine LeO.bind ?_ (fun _ => ?_)
  ·intro y0 y1 y2 y3 y4 y5 y6
   unfold laws_FnDoorsOfRooms.l1
   repeat' first
   | with_reducible first | exact ih0 _ _ _ _ _ _ _ | exact ih1 _ | exact ih2 _ _ _ _ _ _ _ | exact ih3 _ _ _ _ _ _ _ | exact ih4 _ _ _ _ _ | exact ih5 _ _ _ _ _ _ | exact impl_BorderDoors.mono _ _ _ | exact impl_DoorsOf.mono _ _ _ | exact impl_DoorsOfCell.mono _ _ _ _ | exact impl_IsDoor.mono _ _ _ _ _ | exact impl_IsFull.mono _ _ _ _ | exact laws_uSameRows.mono _ _ _ | exact spec_BorderDoors.mono _ _ _ | exact spec_DoorsOf.mono _ _ _ | exact spec_DoorsOfCell.mono _ _ _ _ | exact spec_DrawDoorsOf.mono _ _ | exact spec_DrawDoorsOfCell.mono _ _ | exact spec_DrawIsDoor.mono _ _ | exact spec_IsDoor.mono _ _ _ _ _ | exact spec_IsFull.mono _ _ _ _ | exact LeO.refl _ | exact LeO.none _ | refine LeO.ite ?_ ?_ | refine LeO.bind ?_ (fun _ => ?_)
   | exact LeO.none _ | refine LeO.ite ?_ ?_ | refine LeO.bind ?_ (fun _ => ?_)
  ·intro y0 y1 y2 y3 y4
   unfold laws_FnDoorsOfRooms.j1
   repeat' first
   | with_reducible first | exact ih0 _ _ _ _ _ _ _ | exact ih1 _ | exact ih2 _ _ _ _ _ _ _ | exact ih3 _ _ _ _ _ _ _ | exact ih4 _ _ _ _ _ | exact ih5 _ _ _ _ _ _ | exact impl_BorderDoors.mono _ _ _ | exact impl_DoorsOf.mono _ _ _ | exact impl_DoorsOfCell.mono _ _ _ _ | exact impl_IsDoor.mono _ _ _ _ _ | exact impl_IsFull.mono _ _ _ _ | exact laws_uSameRows.mono _ _ _ | exact spec_BorderDoors.mono _ _ _ | exact spec_DoorsOf.mono _ _ _ | exact spec_DoorsOfCell.mono _ _ _ _ | exact spec_DrawDoorsOf.mono _ _ | exact spec_DrawDoorsOfCell.mono _ _ | exact spec_DrawIsDoor.mono _ _ | exact spec_IsDoor.mono _ _ _ _ _ | exact spec_IsFull.mono _ _ _ _ | exact LeO.refl _ | exact LeO.none _ | refine LeO.ite ?_ ?_ | refine LeO.bind ?_ (fun _ => ?_)
   | exact LeO.none _ | refine LeO.ite ?_ ?_ | refine LeO.bind ?_ (fun _ => ?_)
  ·intro y0 y1 y2 y3 y4 y5
   unfold laws_FnDoorsOfRooms.l0
   repeat' first
   | with_reducible first | exact ih0 _ _ _ _ _ _ _ | exact ih1 _ | exact ih2 _ _ _ _ _ _ _ | exact ih3 _ _ _ _ _ _ _ | exact ih4 _ _ _ _ _ | exact ih5 _ _ _ _ _ _ | exact impl_BorderDoors.mono _ _ _ | exact impl_DoorsOf.mono _ _ _ | exact impl_DoorsOfCell.mono _ _ _ _ | exact impl_IsDoor.mono _ _ _ _ _ | exact impl_IsFull.mono _ _ _ _ | exact laws_uSameRows.mono _ _ _ | exact spec_BorderDoors.mono _ _ _ | exact spec_DoorsOf.mono _ _ _ | exact spec_DoorsOfCell.mono _ _ _ _ | exact spec_DrawDoorsOf.mono _ _ | exact spec_DrawDoorsOfCell.mono _ _ | exact spec_DrawIsDoor.mono _ _ | exact spec_IsDoor.mono _ _ _ _ _ | exact spec_IsFull.mono _ _ _ _ | exact LeO.refl _ | exact LeO.none _ | refine LeO.ite ?_ ?_ | refine LeO.bind ?_ (fun _ => ?_)
   | exact LeO.none _ | refine LeO.ite ?_ ?_ | refine LeO.bind ?_ (fun _ => ?_)
theorem laws_FnDoorsOfRooms.mono : ∀ a0 a1 k, LeO (laws_FnDoorsOfRooms.f k a0 a1) (laws_FnDoorsOfRooms.f (k + 1) a0 a1) := by
 intro a0 a1 k
 obtain ⟨ih0, ih1, ih2, ih3, ih4, ih5⟩ := laws_FnDoorsOfRooms.mono_l k
 unfold laws_FnDoorsOfRooms.f
 repeat' first
   | with_reducible first | exact ih0 _ _ _ _ _ _ _ | exact ih1 _ | exact ih2 _ _ _ _ _ _ _ | exact ih3 _ _ _ _ _ _ _ | exact ih4 _ _ _ _ _ | exact ih5 _ _ _ _ _ _ | exact impl_BorderDoors.mono _ _ _ | exact impl_DoorsOf.mono _ _ _ | exact impl_DoorsOfCell.mono _ _ _ _ | exact impl_IsDoor.mono _ _ _ _ _ | exact impl_IsFull.mono _ _ _ _ | exact laws_uSameRows.mono _ _ _ | exact spec_BorderDoors.mono _ _ _ | exact spec_DoorsOf.mono _ _ _ | exact spec_DoorsOfCell.mono _ _ _ _ | exact spec_DrawDoorsOf.mono _ _ | exact spec_DrawDoorsOfCell.mono _ _ | exact spec_DrawIsDoor.mono _ _ | exact spec_IsDoor.mono _ _ _ _ _ | exact spec_IsFull.mono _ _ _ _ | exact LeO.refl _ | exact LeO.none _ | refine LeO.ite ?_ ?_ | refine LeO.bind ?_ (fun _ => ?_)
   | exact LeO.none _ | refine LeO.ite ?_ ?_ | refine LeO.bind ?_ (fun _ => ?_)
def laws_FnDoorsOfRooms.T16 : Bool × List (List Nat × List Nat) := (true, [([], []), ([], []), ([], []), ([2], [2]), ([3], [3]), ([], []), ([5], [5]), ([6], [6]), ([0, 1, 4, 7], [0, 1, 4, 7]), ([8], [8]), ([9], [9]), ([9], [9]), ([10, 8, 0, 1, 2, 3, 4, 5, 6, 7, 8, 9, 10], [10]), ([11, 12, 0, 1, 2, 3, 4, 5, 6, 7, 8, 9, 10, 11, 12], [11])])
def laws_FnDoorsOfRooms.B16 : List Nat := [0, 0, 0, 4, 12, 0, 32, 96, 255, 511, 1023, 1023, 2047, 8191]
theorem laws_FnDoorsOfRooms.tab16 : rtab .any (opsOf Try.f3 16) = laws_FnDoorsOfRooms.T16 := by kernel_rfl
theorem laws_FnDoorsOfRooms.bits16 : waitsOk laws_FnDoorsOfRooms.T16.2 laws_FnDoorsOfRooms.B16 = true := by kernel_rfl
theorem laws_FnDoorsOfRooms.calls (k : Nat) (A0 : Option Addr) (c0 : Nat) (l0 : List Int) (A1 : Option Addr) (c1 : Nat) (l1 : List Int) (r : Bool) (w : World) (hr0 : Kd.C (Kd.int .u8) w A0 l0.length l0) (hc0 : l0.length ≤ c0) (hr1 : Kd.C (Kd.int .u8) w A1 l1.length l1) (hc1 : l1.length ≤ c1) (h : laws_FnDoorsOfRooms.f k l0 l1 = some r) :
  Calls Try.prog 3 #[.slice A0 l0.length c0, .slice A1 l1.length c1] w fun e w' => e = .returned (.bool r) ∧ Below w.heap.size w w' := by
 have HR0 := Aside0.mk hr0
 have HC0 := Aside0.mk hc0
 clear hr0 hc0
 have HR1 := Aside0.mk hr1
 have HC1 := Aside0.mk hc1
 clear hr1 hc1
 have HB := Aside0.mk (Below.refl w.heap.size w)
 have H : ((laws_big.f l0 l1).bind fun t620 => (if t620 = true then (some true) else ((spec_DrawDoorsOfCell.f k l0).bind fun bt621 => ((impl_DoorsOfCell.f k bt621.1 bt621.2.1 bt621.2.2).bind fun bt626 => ((spec_DoorsOfCell.f k bt621.1 bt621.2.1 bt621.2.2).bind fun bt630 => ((impl_IsFull.f k bt621.1 bt621.2.1 bt621.2.2).bind fun bt634 => ((spec_IsFull.f k bt621.1 bt621.2.1 bt621.2.2).bind fun bt636 => (if (bt626.2 != bt630.2) = true then (none) else ((laws_uSameRows.f k bt626.1 bt630.1).bind fun t638 => (if t638 = true then (if (bt634.2 != bt636.2) = true then (none) else (if (bt634.1 != bt636.1) = true then (none) else (laws_FnDoorsOfRooms.j0 k l1 bt621.1 bt621.2.1 bt626.1 bt626.2 bt634.1 (bt634.2 != bt626.2)))) else (none))))))))))) = some r := h
 clear h
 obtain ⟨t620, A30, H⟩ := Option.bind_eq_some_iff.mp H
 have A3 := Aside0.mk A30
 clear A30
 by_cases c4 : t620 = true
 ·subst c4
  replace H := IP H
  obtain rfl := Option.some.inj H
  go_enter Try.func3, Try.ntmps3
  go_wp2_with (first | ((with_reducible refine gate_callee (f := 5) rfl ?_); refine goesL_ (some 44) rfl rfl Try.func5 (by kernel_rfl) rfl #[.slice A0 l0.length c0, .slice A1 l1.length c1] rfl TA ?_; (with_reducible refine (laws_big.calls _ _ l0 _ _ l1 true _ ?side1 ?side2 ?side3 ?side4 A3.out).mono ?_); (case side1 => exact CW HR0.out); (case side2 => exact HC0.out); (case side3 => exact CW HR1.out); (case side4 => exact HC1.out); rintro e w' ⟨rfl, ⟨nd, rfl⟩⟩; refine ⟨_, rfl, ?_⟩))
  go_ret
  exact ⟨RE, BB⟩
 ·replace c4 := Bool.eq_false_iff.mpr c4
  subst c4
  replace H := IN H
  obtain ⟨⟨t621, t622, t623⟩, A50, H⟩ := Option.bind_eq_some_iff.mp H
  replace H : ((impl_DoorsOfCell.f k t621 t622 t623).bind fun bt626 => ((spec_DoorsOfCell.f k t621 t622 t623).bind fun bt630 => ((impl_IsFull.f k t621 t622 t623).bind fun bt634 => ((spec_IsFull.f k t621 t622 t623).bind fun bt636 => (if (bt626.2 != bt630.2) = true then (none) else ((laws_uSameRows.f k bt626.1 bt630.1).bind fun t638 => (if t638 = true then (if (bt634.2 != bt636.2) = true then (none) else (if (bt634.1 != bt636.1) = true then (none) else (laws_FnDoorsOfRooms.j0 k l1 t621 t622 bt626.1 bt626.2 bt634.1 (bt634.2 != bt626.2)))) else (none)))))))) = some r := H
  have A5 := Aside0.mk A50
  clear A50
  obtain ⟨⟨t626, t629⟩, A60, H⟩ := Option.bind_eq_some_iff.mp H
  replace H : ((spec_DoorsOfCell.f k t621 t622 t623).bind fun bt630 => ((impl_IsFull.f k t621 t622 t623).bind fun bt634 => ((spec_IsFull.f k t621 t622 t623).bind fun bt636 => (if (t629 != bt630.2) = true then (none) else ((laws_uSameRows.f k t626 bt630.1).bind fun t638 => (if t638 = true then (if (bt634.2 != bt636.2) = true then (none) else (if (bt634.1 != bt636.1) = true then (none) else (laws_FnDoorsOfRooms.j0 k l1 t621 t622 t626 t629 bt634.1 (bt634.2 != t629)))) else (none))))))) = some r := H
  have A6 := Aside0.mk A60
  clear A60
  obtain ⟨⟨t630, t631⟩, A70, H⟩ := Option.bind_eq_some_iff.mp H
  replace H : ((impl_IsFull.f k t621 t622 t623).bind fun bt634 => ((spec_IsFull.f k t621 t622 t623).bind fun bt636 => (if (t629 != t631) = true then (none) else ((laws_uSameRows.f k t626 t630).bind fun t638 => (if t638 = true then (if (bt634.2 != bt636.2) = true then (none) else (if (bt634.1 != bt636.1) = true then (none) else (laws_FnDoorsOfRooms.j0 k l1 t621 t622 t626 t629 bt634.1 (bt634.2 != t629)))) else (none)))))) = some r := H
  have A7 := Aside0.mk A70
  clear A70
  obtain ⟨⟨t634, t635⟩, A80, H⟩ := Option.bind_eq_some_iff.mp H
  replace H : ((spec_IsFull.f k t621 t622 t623).bind fun bt636 => (if (t629 != t631) = true then (none) else ((laws_uSameRows.f k t626 t630).bind fun t638 => (if t638 = true then (if (t635 != bt636.2) = true then (none) else (if (t634 != bt636.1) = true then (none) else (laws_FnDoorsOfRooms.j0 k l1 t621 t622 t626 t629 t634 (t635 != t629)))) else (none))))) = some r := H
  have A8 := Aside0.mk A80
  clear A80
  obtain ⟨⟨t636, t637⟩, A90, H⟩ := Option.bind_eq_some_iff.mp H
  replace H : (if (t629 != t631) = true then (none) else ((laws_uSameRows.f k t626 t630).bind fun t638 => (if t638 = true then (if (t635 != t637) = true then (none) else (if (t634 != t636) = true then (none) else (laws_FnDoorsOfRooms.j0 k l1 t621 t622 t626 t629 t634 (t635 != t629)))) else (none)))) = some r := H
  have A9 := Aside0.mk A90
  clear A90
  have HC10 := Aside0.mk H
  clear H
  go_enter Try.func3, Try.ntmps3
  go_upto_region 8 with (first | ((with_reducible refine gate_callee (f := 5) rfl ?_); refine goesL_ (some 44) rfl rfl Try.func5 (by kernel_rfl) rfl #[.slice A0 l0.length c0, .slice A1 l1.length c1] rfl TA ?_; (with_reducible refine (laws_big.calls _ _ l0 _ _ l1 false _ ?side1 ?side2 ?side3 ?side4 A3.out).mono ?_); (case side1 => exact CW HR0.out); (case side2 => exact HC0.out); (case side3 => exact CW HR1.out); (case side4 => exact HC1.out); rintro e w' ⟨rfl, ⟨nd, rfl⟩⟩; refine ⟨_, rfl, ?_⟩) | ((with_reducible refine gate_callee (f := 6) rfl ?_); refine goesL_ (some 47) rfl rfl Try.func6 (by kernel_rfl) rfl #[.slice A0 l0.length c0] rfl TA ?_; (with_reducible refine (spec_DrawDoorsOfCell.calls k _ _ l0 t621 t622 t623 _ ?side1 ?side2 A5.out).mono ?_); (case side1 => exact CW HR0.out); (case side2 => exact HC0.out); rintro e w11 ⟨v624, rfl, ho0, hb⟩; refine ⟨_, rfl, ?_⟩; have n0_ := Aside0.mk (Kd.R_lower ho0 (below_size BB)); have n1_ := Aside0.mk (below_step BB hb); clear HB; have HO625 := n0_; have HB := n1_; clear n0_ n1_; (try clear hb); (try clear hb2); (try clear hk); (try clear hi); (try clear ho0); obtain ⟨Ao12, co12, eo12⟩ := Kd.R_slice HO625.out; subst eo12) | ((with_reducible refine gate_callee (f := 7) rfl ?_); refine goesL_ (some 55) rfl rfl Try.func7 (by kernel_rfl) rfl #[.int .i64 t621, .slice Ao12 t622.length co12, .int .i64 t623] rfl TA ?_; (with_reducible refine (impl_DoorsOfCell.calls k t621 (fun k_ => some k_ = (.slice Ao12 t622.length co12 : Value).ownBlock) _ _ t622 t623 t626 t629 _ ?side1 A6.out).mono ?_); (case side1 => exact Kd.R_V (Kd.R_tight rfl (HO625.out))); rintro e w13 ⟨v627, rfl, ho0, hb⟩; refine ⟨_, rfl, ?_⟩; have n0_ := Aside0.mk (Kd.R_below (KR HO625) hb); have n1_ := Aside0.mk (Kd.N_lower (Kd.N_mono (ok' := fun k_ => True) ho0 (fun k_ hk_ => trivial)) (below_size BB)); have n2_ := Aside0.mk (below_step BB hb); clear HO625; clear HB; have HO625 := n0_; have HO628 := n1_; have HB := n2_; clear n0_ n1_ n2_; (try clear hb); (try clear hb2); (try clear hk); (try clear hi); (try clear ho0)) | ((with_reducible refine gate_callee (f := 8) rfl ?_); refine goesL_ (some 62) rfl rfl Try.func8 (by kernel_rfl) rfl #[.int .i64 t621, .slice Ao12 t622.length co12, .int .i64 t623] rfl TA ?_; (with_reducible refine (spec_DoorsOfCell.calls k t621 _ _ t622 t623 t630 t631 _ ?side1 ?side2 A7.out).mono ?_); (case side1 => exact CW (Kd.R_reads' HO625.out).2.2); (case side2 => exact (Kd.R_reads' HO625.out).2.1); rintro e w14 ⟨v632, rfl, ho0, hb⟩; refine ⟨_, rfl, ?_⟩; have n0_ := Aside0.mk (Kd.R_below (KR HO625) hb); have n1_ := Aside0.mk (Kd.N_elder' (KN HO628) (Kd.N_base (Kd.S_N ho0)) hb); have n2_ := Aside0.mk (Kd.N_lower (Kd.N_mono (ok' := fun k_ => some k_ ≠ (.slice Ao12 t622.length co12 : Value).ownBlock ∧ some k_ ≠ (v627 : Value).ownBlock) (Kd.S_N (Kd.S_bound ho0)) (fun k_ hk_ => ⟨(Kd.fresh' (Kd.R_lt (KR HO625)) k_ hk_.2.1), (Kd.fresh' (Kd.N_lt (KN HO628)) k_ hk_.2.1)⟩)) (below_size BB)); have n3_ := Aside0.mk (below_step BB hb); clear HO625; clear HO628; clear HB; have HO625 := n0_; have HO628 := n1_; have HO633 := n2_; have HB := n3_; clear n0_ n1_ n2_ n3_; (try clear hb); (try clear hb2); (try clear hk); (try clear hi); (try clear ho0)) | ((with_reducible refine gate_callee (f := 9) rfl ?_); refine goesL_ (some 69) rfl rfl Try.func9 (by kernel_rfl) rfl #[.int .i64 t621, .slice Ao12 t622.length co12, .int .i64 t623] rfl TA ?_; (with_reducible refine (impl_IsFull.calls k t621 _ _ t622 t623 t634 t635 _ ?side1 ?side2 A8.out).mono ?_); (case side1 => exact CW (Kd.R_reads' HO625.out).2.2); (case side2 => exact (Kd.R_reads' HO625.out).2.1); rintro e w15 ⟨rfl, hb⟩; refine ⟨_, rfl, ?_⟩; have n0_ := Aside0.mk (Kd.R_below (KR HO625) hb); have n1_ := Aside0.mk (Kd.N_below (KN HO628) hb); have n2_ := Aside0.mk (Kd.N_below (KN HO633) hb); have n3_ := Aside0.mk (below_step BB hb); clear HO625; clear HO628; clear HO633; clear HB; have HO625 := n0_; have HO628 := n1_; have HO633 := n2_; have HB := n3_; clear n0_ n1_ n2_ n3_; (try clear hb); (try clear hb2); (try clear hk); (try clear hi)) | ((with_reducible refine gate_callee (f := 10) rfl ?_); refine goesL_ (some 76) rfl rfl Try.func10 (by kernel_rfl) rfl #[.int .i64 t621, .slice Ao12 t622.length co12, .int .i64 t623] rfl TA ?_; (with_reducible refine (spec_IsFull.calls k t621 _ _ t622 t623 t636 t637 _ ?side1 ?side2 A9.out).mono ?_); (case side1 => exact CW (Kd.R_reads' HO625.out).2.2); (case side2 => exact (Kd.R_reads' HO625.out).2.1); rintro e w16 ⟨rfl, hb⟩; refine ⟨_, rfl, ?_⟩; have n0_ := Aside0.mk (Kd.R_below (KR HO625) hb); have n1_ := Aside0.mk (Kd.N_below (KN HO628) hb); have n2_ := Aside0.mk (Kd.N_below (KN HO633) hb); have n3_ := Aside0.mk (below_step BB hb); clear HO625; clear HO628; clear HO633; clear HB; have HO625 := n0_; have HO628 := n1_; have HO633 := n2_; have HB := n3_; clear n0_ n1_ n2_ n3_; (try clear hb); (try clear hb2); (try clear hk); (try clear hi)))
  (try simp only [Act.put, List.setIfInBounds_toArray, List.set_cons_zero, List.set_cons_succ])
  go_cut [102] (fun v102 wc => ∃ (kq : Nat) (x102_9 : Bool), v102 = .bool x102_9 ∧ Aside0 (laws_FnDoorsOfRooms.j0 kq l1 t621 t622 t626 t629 t634 x102_9 = some r) ∧ Aside0 (kq ≤ k) ∧ Aside0 (Kd.R (Kd.int .i64) 3 wc w.heap.size (fun _ => True) (.slice Ao12 t622.length co12) t622) ∧ Aside0 (Kd.N (Kd.slice 3 (Kd.int .i64)) 24 wc w.heap.size (fun _ => True) v627 t626) ∧ Aside0 (Below w.heap.size w wc))
  case first => as_aux_lemma =>
   have H := HC10.out
   clear HC10
   by_cases c17 : (t629 != t631) = true
   ·rw [if_pos c17] at H
    cases H
   ·rw [if_neg c17] at H
    have c17b0 : (t629 != t631) = false := by simpa using c17
    (try (have c17b1 : decide (t629 = t631) = true := by simpa using c17))
    (try (have c17b2 : (t629 == t631) = true := by simpa using c17))
    clear c17
    (first | rw [c17b0] | (simp only [i64_w, i32_w]; rw [c17b0]) | skip)
    obtain ⟨t638, A180, H⟩ := Option.bind_eq_some_iff.mp H
    have A18 := Aside0.mk A180
    clear A180
    by_cases c19 : t638 = true
    ·subst c19
     replace H := IP H
     by_cases c20 : (t635 != t637) = true
     ·rw [if_pos c20] at H
      cases H
     ·rw [if_neg c20] at H
      have c20b0 : (t635 != t637) = false := by simpa using c20
      (try (have c20b1 : decide (t635 = t637) = true := by simpa using c20))
      (try (have c20b2 : (t635 == t637) = true := by simpa using c20))
      clear c20
      by_cases c21 : (t634 != t636) = true
      ·rw [if_pos c21] at H
       cases H
      ·rw [if_neg c21] at H
       have c21b0 : (t634 != t636) = false := by simpa using c21
       (try (have c21b1 : decide (t634 = t636) = true := by simpa using c21))
       (try (have c21b2 : (t634 == t636) = true := by simpa using c21))
       clear c21
       have H' := Aside0.mk H
       clear H
       obtain ⟨Ao22, co22, eo22⟩ := Kd.N_slice HO628.out
       subst eo22
       obtain ⟨Ao23, co23, eo23⟩ := Kd.N_slice HO633.out
       subst eo23
       go_wp2_with (first | (go_at_call 11; (with_reducible refine (laws_uSameRows.calls k _ _ t626 _ _ t630 true _ ?side1 ?side2 ?side3 ?side4 A18.out).mono ?_); (case side1 => exact CW (Kd.N_reads' HO628.out).2.2); (case side2 => exact (Kd.N_reads' HO628.out).2.1); (case side3 => exact CW (Kd.N_reads' HO633.out).2.2); (case side4 => exact (Kd.N_reads' HO633.out).2.1); rintro e w' ⟨rfl, ⟨nd, rfl⟩⟩))
       go_meet
       case rel => exact ⟨_, ((t635 != t629)), RF, H', ⟨by first | omega | exact Nat.le_refl _⟩, ⟨KR HO625⟩, ⟨by (with_reducible repeat (first | apply Kd.N_alloc | apply Kd.N_drewN | apply Kd.N_drew)); exact Kd.N_mono HO628.out (fun _ hk => trivial)⟩, ⟨BB⟩⟩
    ·replace c19 := Bool.eq_false_iff.mpr c19
     subst c19
     replace H := IN H
     cases H
  case rest => as_aux_lemma =>
   clear HC10
   try clear c1
   try clear c2
   try clear p2
   try clear c3
   try clear c4
   try clear c5
   try clear c6
   try clear p6
   try clear c7
   try clear c8
   try clear c9
   try clear c10
   try clear c17
   try clear c17b0
   try clear c17b1
   try clear c17b2
   try clear c19
   try clear c20
   try clear c20b0
   try clear c20b1
   try clear c20b2
   try clear c21
   try clear c21b0
   try clear c21b1
   try clear c21b2
   obtain ⟨kq, x102_9, rfl, HA, HJ9, HO_6, HO_8, HB⟩ := hcut
   cases kq with
   | zero => exact absurd HA.out (by simp [laws_FnDoorsOfRooms.j0])
   | succ kj9 =>
    have H := HA.out
    clear HA
    simp only [laws_FnDoorsOfRooms.j0] at H
    by_cases c24 : x102_9 = true
    ·subst c24
     replace H := IP H
     cases H
    ·replace c24 := Bool.eq_false_iff.mpr c24
     subst c24
     replace H := IN H
     have HC25 := Aside0.mk H
     clear H
     go_upto_if 103 with (fail)
     go_cut [] (fun wc => ∃ (kq : Nat), Aside0 (laws_FnDoorsOfRooms.j3 kq l1 = some r) ∧ Aside0 (kq ≤ kj9) ∧ Aside0 (Below w.heap.size w wc))
     case first => as_aux_lemma =>
      have H := HC25.out
      clear HC25
      by_cases c26 : t629 = true
      ·subst c26
       replace H := IP H
       have HC27 := Aside0.mk H
       clear H
       go_upto_region 11 with (fail)
       go_cut [113] (fun v113 wc => ∃ (kq : Nat) (x113_26 : Bool), v113 = .bool x113_26 ∧ Aside0 (laws_FnDoorsOfRooms.j1 kq l1 t621 t622 t626 x113_26 = some r) ∧ Aside0 (kq ≤ kj9) ∧ Aside0 (Kd.R (Kd.int .i64) 3 wc w.heap.size (fun _ => True) (.slice Ao12 t622.length co12) t622) ∧ Aside0 (Kd.N (Kd.slice 3 (Kd.int .i64)) 24 wc w.heap.size (fun _ => True) v627 t626) ∧ Aside0 (Below w.heap.size w wc))
       case first => as_aux_lemma =>
        have H := HC27.out
        clear HC27
        by_cases c28 : (t634 != ((t626.length : Int) == 1)) = true
        ·rw [if_pos c28] at H
         cases H
        ·rw [if_neg c28] at H
         have c28b0 : (t634 != ((t626.length : Int) == 1)) = false := by simpa using c28
         (try (have c28b1 : decide (t634 = ((t626.length : Int) == 1)) = true := by simpa using c28))
         (try (have c28b2 : (t634 == ((t626.length : Int) == 1)) = true := by simpa using c28))
         clear c28
         (first | rw [c28b0] | (simp only [i64_w, i32_w]; rw [c28b0]) | skip)
         have H' := Aside0.mk H
         clear H
         obtain ⟨Ao29, co29, eo29⟩ := Kd.N_slice HO_8.out
         subst eo29
         go_wp2
         go_meet
         case rel => exact ⟨_, (decide ((t626.length : Int) > 2)), RF, H', ⟨by have := HJ9.out; first | omega | exact Nat.le_refl _⟩, ⟨KR HO_6⟩, ⟨KN HO_8⟩, ⟨BB⟩⟩
       case rest => as_aux_lemma =>
        clear HC27
        try clear c1
        try clear c2
        try clear p2
        try clear c3
        try clear c4
        try clear c5
        try clear c6
        try clear p6
        try clear c7
        try clear c8
        try clear c9
        try clear c10
        try clear c17
        try clear c17b0
        try clear c17b1
        try clear c17b2
        try clear c19
        try clear c20
        try clear c20b0
        try clear c20b1
        try clear c20b2
        try clear c21
        try clear c21b0
        try clear c21b1
        try clear c21b2
        try clear c24
        try clear c26
        try clear c28
        try clear c28b0
        try clear c28b1
        try clear c28b2
        try clear p2
        try clear p6
        obtain ⟨kq, x113_26, rfl, HA, HJ26, HO_6, HO_8, HB⟩ := hcut
        cases kq with
        | zero => exact absurd HA.out (by simp [laws_FnDoorsOfRooms.j1])
        | succ kj26 =>
         have H := HA.out
         clear HA
         simp only [laws_FnDoorsOfRooms.j1] at H
         by_cases c30 : x113_26 = true
         ·subst c30
          replace H := IP H
          cases H
         ·replace c30 := Bool.eq_false_iff.mpr c30
          subst c30
          replace H := IN H
          have H' := Aside0.mk H
          clear H
          obtain ⟨Ao31, co31, eo31⟩ := Kd.N_slice HO_8.out
          subst eo31
          go_wp2
          go_loopg [116] kj26 (fun kq v116 w' => ∃ (x116_3 : Int), v116 = .int .i64 x116_3 ∧ Aside0 (laws_FnDoorsOfRooms.l0 kq l1 t621 t622 t626 (t626.length : Int) x116_3 = some r) ∧ Aside0 (kq ≤ kj26) ∧ Aside0 (Kd.R (Kd.int .i64) 3 w' w.heap.size (fun _ => True) (.slice Ao12 t622.length co12) t622) ∧ Aside0 (Kd.N (Kd.slice 3 (Kd.int .i64)) 24 w' w.heap.size (fun _ => True) (.slice Ao31 t626.length co31) t626) ∧ Aside0 (Below w.heap.size w w'))
          case atStart => exact ⟨(0), RF, H', ⟨Nat.le_refl _⟩, ⟨KR HO_6⟩, ⟨KN HO_8⟩, ⟨BB⟩⟩
          case round => as_aux_lemma =>
           clear H'
           try clear c1
           try clear c2
           try clear p2
           try clear c3
           try clear c4
           try clear c5
           try clear c6
           try clear p6
           try clear c7
           try clear c8
           try clear c9
           try clear c10
           try clear c17
           try clear c17b0
           try clear c17b1
           try clear c17b2
           try clear c19
           try clear c20
           try clear c20b0
           try clear c20b1
           try clear c20b2
           try clear c21
           try clear c21b0
           try clear c21b1
           try clear c21b2
           try clear c24
           try clear c26
           try clear c28
           try clear c28b0
           try clear c28b1
           try clear c28b2
           try clear c30
           try clear p2
           try clear p6
           obtain ⟨x116_3, rfl, HA, HK3, HO_6, HO_114, HB⟩ := hrel
           cases gk with
           | zero => exact absurd HA.out (by simp [laws_FnDoorsOfRooms.l0])
           | succ k3 =>
            have H := HA.out
            clear HA
            simp only [laws_FnDoorsOfRooms.l0] at H
            by_cases c32 : x116_3 < (t626.length : Int)
            ·rw [if_pos c32] at H
             have c32b0 : decide (x116_3 < (t626.length : Int)) = true := decide_eq_true c32
             clear c32
             by_cases c33 : 0 ≤ x116_3
             ·rw [if_pos c33] at H
              have c33b0 : decide (0 ≤ x116_3) = true := decide_eq_true c33
              clear c33
              by_cases c34 : x116_3 < (t626.length : Int)
              ·rw [if_pos c34] at H
               have c34b0 : decide (x116_3 < (t626.length : Int)) = true := decide_eq_true c34
               clear c34
               by_cases c35 : 0 < ((rd_L2 t626 x116_3).length : Int)
               ·rw [if_pos c35] at H
                have c35b0 : decide (0 < ((rd_L2 t626 x116_3).length : Int)) = true := decide_eq_true c35
                have c35b1 : decide (0 < (rd_L2 t626 x116_3).length) = true := decide_eq_true (by omega)
                clear c35
                by_cases c36 : 1 < ((rd_L2 t626 x116_3).length : Int)
                ·rw [if_pos c36] at H
                 have c36b0 : decide (1 < ((rd_L2 t626 x116_3).length : Int)) = true := decide_eq_true c36
                 have c36b1 : decide (1 < (rd_L2 t626 x116_3).length) = true := decide_eq_true (by omega)
                 clear c36
                 obtain ⟨⟨t642, t643⟩, A370, H⟩ := Option.bind_eq_some_iff.mp H
                 replace H : (if t643 = true then (if t642 = true then (laws_FnDoorsOfRooms.l0 k3 l1 t621 t622 t626 (t626.length : Int) (wrap64 (x116_3 + 1))) else (none)) else (none)) = some r := H
                 have A37 := Aside0.mk A370
                 clear A370
                 by_cases c38 : t643 = true
                 ·subst c38
                  replace H := IP H
                  by_cases c39 : t642 = true
                  ·subst c39
                   replace H := IP H
                   have H' := Aside0.mk H
                   clear H
                   have p639 : 0 ≤ (x116_3 : Int) := of_decide_eq_true AS
                   have q639 : x116_3 < (t626.length : Int) := of_decide_eq_true AS
                   obtain ⟨ad639, A639_0, c639_0, e639, hx639_0, hl639_0, hi639_0⟩ := at_L2 (Kd.N_reads' HO_114.out).2.2 x116_3 p639 q639
                   cases e639
                   obtain ⟨ce639, hce639, hMe639, hcc639⟩ := Kd.N_get HO_114.out [] x116_3 p639 (by first | exact q639 | exact of_decide_eq_true AS | (have e_ := (Kd.N_reads' HO_114.out).1; omega))
                   obtain ⟨ua639_0, uc639_0, rfl, ul639_0, ge639_0⟩ := Kd.FK_slice_open hMe639
                   have hv639_0 := hcc639 0 _ rfl
                   rw [Nat.add_zero, show ((Kd.slice 3 (Kd.int .i64))).sz = 1 from rfl, Nat.mul_one] at hv639_0
                   replace hv639_0 := Option.some.inj (hv639_0.symm.trans hx639_0)
                   injection hv639_0 with hva_ hvn_ hvc_
                   rw [hva_] at ge639_0
                   rw [hvc_] at ul639_0
                   have HL639_0 := Aside0.mk (show Kd.V (Kd.int .i64) 3 _ w.heap.size _ _ (rd_L2 t626 x116_3) from Kd.V_mk ul639_0 ge639_0)
                   clear hva_ hvn_ hvc_ ge639_0 ul639_0
                   clear hcc639 hce639
                   have HR639_0 := Aside0.mk hi639_0
                   have HC639_0 := Aside0.mk hl639_0
                   clear hi639_0 hl639_0
                   replace p639 := eq_true p639
                   replace q639 := eq_true q639
                   try go_wp2
                   have n0_ := Aside0.mk (Kd.R_drew HO_6.out)
                   have n1_ := Aside0.mk (Kd.N_drew HO_114.out)
                   have n2_ := Aside0.mk (Kd.V_drew HL639_0.out)
                   have n3_ := Aside0.mk (Kd.C_drew HR639_0.out)
                   have n4_ := Aside0.mk (below_drew1 HB.out)
                   clear HO_6
                   clear HO_114
                   clear HL639_0
                   clear HR639_0
                   clear HB
                   have HO_6 := n0_
                   have HO_114 := n1_
                   have HL639_0 := n2_
                   have HR639_0 := n3_
                   have HB := n4_
                   clear n0_ n1_ n2_ n3_ n4_
                   have p640 : 0 ≤ (0 : Int) := (by omega)
                   have q640 : 0 < ((rd_L2 t626 x116_3).length : Int) := of_decide_eq_true AS
                   obtain ⟨ad640, e640, hx640_0⟩ := Kd.at_int (by repeat (first | (with_reducible exact HR639_0.out) | (with_reducible refine Kd.C_drewN ?_ _) | (with_reducible refine Kd.C_drew ?_) | (with_reducible refine Kd.C_alloc ?_ _) | exact HR639_0.out)) 0 p640 q640
                   cases e640
                   have qi640 : (0 < (rd_L2 t626 x116_3).length) = True := eq_true (by omega)
                   (try rw [show ((0 : Int)).toNat = 0 from rfl] at hx640_0)
                   (try rw [Addr.add_zero'] at hx640_0)
                   replace p640 := eq_true p640
                   replace q640 := eq_true q640
                   have p641 : 0 ≤ (1 : Int) := (by omega)
                   have q641 : 1 < ((rd_L2 t626 x116_3).length : Int) := of_decide_eq_true AS
                   obtain ⟨ad641, e641, hx641_0⟩ := Kd.at_int (by repeat (first | (with_reducible exact HR639_0.out) | (with_reducible refine Kd.C_drewN ?_ _) | (with_reducible refine Kd.C_drew ?_) | (with_reducible refine Kd.C_alloc ?_ _) | exact HR639_0.out)) 1 p641 q641
                   obtain rfl : ad640 = ad641 := (by injection e641)
                   (try simp only [show (1 : Int).toNat = 1 from rfl, Nat.reduceMul, Nat.reduceEqDiff, Go.Addr.add, ↓reduceIte] at hx641_0)
                   have qi641 : (1 < (rd_L2 t626 x116_3).length) = True := eq_true (by omega)
                   (try rw [show ((1 : Int)).toNat = 1 from rfl] at hx641_0)
                   replace p641 := eq_true p641
                   replace q641 := eq_true q641
                   refine start_ (n := 14) (S := fun w' => w'.cell? ad640 = some (.int .i64 (rd (rd_L2 t626 x116_3) 0)) ∧ w'.cell? ⟨ad640.block, ad640.off + 1, none⟩ = some (.int .i64 (rd (rd_L2 t626 x116_3) 1))) (ds := []) #[false, false, false, false, false, false, false, false, false, false, false, false, false, false] (by kernel_rfl) rfl rfl ⟨hx640_0, hx641_0⟩ (fun hHeld => ?_); refine with_tabW laws_FnDoorsOfRooms.tab16 laws_FnDoorsOfRooms.bits16 (fun HT_ HW_ => ?_)
                   generalize wr.drew = w40 at HO_6 HO_114 HL639_0 HR639_0 HB hx640_0 hx641_0 hHeld ⊢
                   refine pure_ (i := 0) (N := some 121) #[true, false, false, false, false, false, false, false, false, false, false, false, false, false] rfl rfl (any_of HT_.out (by kernel_rfl)) (fun _ _ _ h => h) (Or.inl ⟨by rfl, PW⟩) PU ?_
                   refine pure_ (i := 1) (N := some 122) #[true, true, false, false, false, false, false, false, false, false, false, false, false, false] rfl rfl (any_of HT_.out (by kernel_rfl)) (fun _ _ _ h => h) (Or.inl ⟨by rfl, PW⟩) PU ?_
                   refine pure_ (i := 2) (N := some 123) #[true, true, true, false, false, false, false, false, false, false, false, false, false, false] rfl rfl (any_of HT_.out (by kernel_rfl)) (fun _ _ _ h => h) (Or.inl ⟨by rfl, PW⟩) PU ?_
                   refine pure_ (i := 3) (N := some 124) #[true, true, true, true, false, false, false, false, false, false, false, false, false, false] rfl rfl (any_of HT_.out (by kernel_rfl)) (fun _ _ _ h => h) (Or.inl ⟨by rfl, PW⟩) PU ?_
                   refine pure_ (i := 5) (N := some 126) #[true, true, true, true, false, true, false, false, false, false, false, false, false, false] rfl rfl (any_of HT_.out (by kernel_rfl)) (fun _ _ _ h => h) (Or.inl ⟨by rfl, PW⟩) PU ?_
                   refine pure_ (i := 6) (N := some 127) #[true, true, true, true, false, true, true, false, false, false, false, false, false, false] rfl rfl (any_of HT_.out (by kernel_rfl)) (fun _ _ _ h => h) (Or.inl ⟨by rfl, PW⟩) PU ?_
                   refine take_ (i := 4) (N := some 125) #[true, true, true, true, true, true, true, false, false, false, false, false, false, false] rfl rfl (take_ofW HT_.out HW_.out (by kernel_rfl)) (fun _ _ _ h => h) (Or.inl ⟨by rfl, PT⟩) hHeld PU ?_
                   refine take_ (i := 7) (N := some 128) #[true, true, true, true, true, true, true, true, false, false, false, false, false, false] rfl rfl (take_ofW HT_.out HW_.out (by kernel_rfl)) (fun _ _ _ h => h) (Or.inl ⟨by rfl, PT⟩) hHeld PU ?_
                   refine one_ (i := 8) (N := some 129) #[true, true, true, true, true, true, true, true, true, false, false, false, false, false] rfl rfl (one_of HT_.out (by kernel_rfl)) (by decide) (fun K hK => ?_)
                   refine goes_ Try.func12 (by kernel_rfl) rfl #[.int .i64 t621, .slice Ao12 t622.length co12, .int .i64 (rd (rd_L2 t626 x116_3) 0), .int .i64 (rd (rd_L2 t626 x116_3) 1)] (by rfl) rfl rfl TA ?_
                   with_reducible refine (impl_IsDoor.calls k3 t621 _ _ t622 (rd (rd_L2 t626 x116_3) 0) (rd (rd_L2 t626 x116_3) 1) true true _ ?side1 ?side2 A37.out).mono ?_
                   (case side1 => exact CW (Kd.R_reads' HO_6.out).2.2)
                   (case side2 => exact (Kd.R_reads' HO_6.out).2.1)
                   rintro e w41 ⟨rfl, hb⟩
                   have HS0_ := (hb.cell (World.block_lt_of_cell? _ _ (hHeld.1))).trans (hHeld.1)
                   have HS1_ := (hb.cell (World.block_lt_of_cell? _ _ (hHeld.2))).trans (hHeld.2)
                   refine ⟨_, rfl, ?_⟩
                   have n0_ := Aside0.mk (Kd.R_below (KR HO_6) hb)
                   have n1_ := Aside0.mk (Kd.N_below (KN HO_114) hb)
                   have n2_ := Aside0.mk (Kd.V_below (by (with_reducible repeat (first | apply Kd.V_alloc | apply Kd.V_drewN | apply Kd.V_drew)); exact HL639_0.out) hb)
                   have n3_ := Aside0.mk (Kd.C_below (by repeat (first | (with_reducible exact HR639_0.out) | (with_reducible refine Kd.C_drewN ?_ _) | (with_reducible refine Kd.C_drew ?_) | (with_reducible refine Kd.C_alloc ?_ _) | exact HR639_0.out)) hb)
                   have n4_ := Aside0.mk (below_step BB hb)
                   clear HO_6
                   clear HO_114
                   clear HL639_0
                   clear HR639_0
                   clear HB
                   have HO_6 := n0_
                   have HO_114 := n1_
                   have HL639_0 := n2_
                   have HR639_0 := n3_
                   have HB := n4_
                   clear n0_ n1_ n2_ n3_ n4_
                   (try clear hb)
                   (try clear hb2)
                   (try clear hk)
                   (try clear hi)
                   refine hK.out _ _ ⟨HS0_, HS1_⟩ (fun hHeld => ?_)
                   clear hK K
                   refine norm_ (a' := ?_) ?_ ?_
                   rotate_left
                   ·show Act.put _ (some 129) _ = _
                    simp only [Act.put, List.setIfInBounds_toArray, List.set_cons_zero, List.set_cons_succ, i64_w, i32_w]
                    rfl
                   refine pure_ (i := 9) (N := some 120) #[true, true, true, true, true, true, true, true, true, true, false, false, false, false] rfl rfl (any_of HT_.out (by kernel_rfl)) (fun _ _ _ h => h) (Or.inl ⟨by rfl, PW⟩) PU ?_
                   refine pure_ (i := 10) (N := some 130) #[true, true, true, true, true, true, true, true, true, true, true, false, false, false] rfl rfl (any_of HT_.out (by kernel_rfl)) (fun _ _ _ h => h) (Or.inl ⟨by rfl, PW⟩) PU ?_
                   refine pure_ (i := 11) (N := some 131) #[true, true, true, true, true, true, true, true, true, true, true, true, false, false] rfl rfl (any_of HT_.out (by kernel_rfl)) (fun _ _ _ h => h) (Or.inl ⟨by rfl, PW⟩) PU ?_
                   refine pure_ (i := 12) (N := some 18) #[true, true, true, true, true, true, true, true, true, true, true, true, true, false] rfl rfl (any_of HT_.out (by kernel_rfl)) (fun _ _ _ h => h) (Or.inl ⟨by rfl, PW⟩) PU ?_
                   refine pure_ (i := 13) (N := some 19) #[true, true, true, true, true, true, true, true, true, true, true, true, true, true] rfl rfl (any_of HT_.out (by kernel_rfl)) (fun _ _ _ h => h) (Or.inl ⟨by rfl, PW⟩) PU ?_
                   refine done_ (done_of HT_.out (by kernel_rfl)) ?_
                   try go_wp2
                   go_roundg k3
                   case measure => have := HJ9.out; have := HJ26.out; have := HK3.out; omega
                   case rel => exact ⟨(wrap64 (x116_3 + 1)), RF, H', ⟨by have := HJ9.out; have := HJ26.out; have := HK3.out; omega⟩, ⟨KR HO_6⟩, ⟨KN HO_114⟩, ⟨BB⟩⟩
                  ·replace c39 := Bool.eq_false_iff.mpr c39
                   subst c39
                   replace H := IN H
                   cases H
                 ·replace c38 := Bool.eq_false_iff.mpr c38
                  subst c38
                  replace H := IN H
                  cases H
                ·rw [if_neg c36] at H
                 cases H
               ·rw [if_neg c35] at H
                cases H
              ·rw [if_neg c34] at H
               cases H
             ·rw [if_neg c33] at H
              cases H
            ·rw [if_neg c32] at H
             have c32b0 : decide (x116_3 < (t626.length : Int)) = false := decide_eq_false c32
             try (have c32bl := c32b0; rw [hl639_0] at c32bl)
             clear c32
             have H' := Aside0.mk H
             clear H
             go_wp2
             go_meet
             case rel => exact ⟨_, H', ⟨by have := HJ9.out; have := HJ26.out; have := HK3.out; first | omega | exact Nat.le_refl _⟩, ⟨BB⟩⟩
      ·replace c26 := Bool.eq_false_iff.mpr c26
       subst c26
       replace H := IN H
       have H' := Aside0.mk H
       clear H
       go_wp2
       go_meet
       case rel => exact ⟨_, H', ⟨by have := HJ9.out; first | omega | exact Nat.le_refl _⟩, ⟨BB⟩⟩
     case rest => as_aux_lemma =>
      clear HC25
      try clear c1
      try clear c2
      try clear p2
      try clear c3
      try clear c4
      try clear c5
      try clear c6
      try clear p6
      try clear q6
      try clear hx6
      try clear qi6
      try clear c7
      try clear c8
      try clear c9
      try clear c10
      try clear c12
      try clear c17
      try clear c17b0
      try clear c17b1
      try clear c17b2
      try clear c19
      try clear c20
      try clear c20b0
      try clear c20b1
      try clear c20b2
      try clear c21
      try clear c21b0
      try clear c21b1
      try clear c21b2
      try clear c24
      try clear c26
      try clear c28
      try clear c28b0
      try clear c28b1
      try clear c28b2
      try clear c30
      try clear c32
      try clear c32b0
      try clear c33
      try clear c33b0
      try clear c34
      try clear c34b0
      try clear c35
      try clear c35b0
      try clear c35b1
      try clear c36
      try clear c36b0
      try clear c36b1
      try clear c38
      try clear c39
      try clear hx639_0
      try clear hx640_0
      try clear hx641_0
      try clear p2
      try clear p6
      try clear p639
      try clear p640
      try clear p641
      try clear q639
      try clear q640
      try clear q641
      obtain ⟨kq, HA, HJ24, HB⟩ := hcut
      cases kq with
      | zero => exact absurd HA.out (by simp [laws_FnDoorsOfRooms.j3])
      | succ kj24 =>
       have H := HA.out
       clear HA
       simp only [laws_FnDoorsOfRooms.j3] at H
       obtain ⟨⟨t644, t645⟩, A420, H⟩ := Option.bind_eq_some_iff.mp H
       replace H : ((impl_DoorsOf.f kj24 t644 t645).bind fun bt648 => ((spec_DoorsOf.f kj24 t644 t645).bind fun bt652 => ((impl_BorderDoors.f kj24 t644 t645).bind fun bt656 => ((spec_BorderDoors.f kj24 t644 t645).bind fun bt660 => (if (bt648.2 != bt652.2) = true then (none) else ((laws_uSameRows.f kj24 bt648.1 bt652.1).bind fun t664 => (if t664 = true then (if (bt656.2 != bt660.2) = true then (none) else ((laws_uSameRows.f kj24 bt656.1 bt660.1).bind fun t665 => (if t665 = true then (laws_FnDoorsOfRooms.j4 kj24 l1 t644 t645 bt648.1 bt648.2 bt656.1 (bt656.2 != bt648.2)) else (none)))) else (none)))))))) = some r := H
       have A42 := Aside0.mk A420
       clear A420
       obtain ⟨⟨t648, t649⟩, A430, H⟩ := Option.bind_eq_some_iff.mp H
       replace H : ((spec_DoorsOf.f kj24 t644 t645).bind fun bt652 => ((impl_BorderDoors.f kj24 t644 t645).bind fun bt656 => ((spec_BorderDoors.f kj24 t644 t645).bind fun bt660 => (if (t649 != bt652.2) = true then (none) else ((laws_uSameRows.f kj24 t648 bt652.1).bind fun t664 => (if t664 = true then (if (bt656.2 != bt660.2) = true then (none) else ((laws_uSameRows.f kj24 bt656.1 bt660.1).bind fun t665 => (if t665 = true then (laws_FnDoorsOfRooms.j4 kj24 l1 t644 t645 t648 t649 bt656.1 (bt656.2 != t649)) else (none)))) else (none))))))) = some r := H
       have A43 := Aside0.mk A430
       clear A430
       obtain ⟨⟨t652, t653⟩, A440, H⟩ := Option.bind_eq_some_iff.mp H
       replace H : ((impl_BorderDoors.f kj24 t644 t645).bind fun bt656 => ((spec_BorderDoors.f kj24 t644 t645).bind fun bt660 => (if (t649 != t653) = true then (none) else ((laws_uSameRows.f kj24 t648 t652).bind fun t664 => (if t664 = true then (if (bt656.2 != bt660.2) = true then (none) else ((laws_uSameRows.f kj24 bt656.1 bt660.1).bind fun t665 => (if t665 = true then (laws_FnDoorsOfRooms.j4 kj24 l1 t644 t645 t648 t649 bt656.1 (bt656.2 != t649)) else (none)))) else (none)))))) = some r := H
       have A44 := Aside0.mk A440
       clear A440
       obtain ⟨⟨t656, t657⟩, A450, H⟩ := Option.bind_eq_some_iff.mp H
       replace H : ((spec_BorderDoors.f kj24 t644 t645).bind fun bt660 => (if (t649 != t653) = true then (none) else ((laws_uSameRows.f kj24 t648 t652).bind fun t664 => (if t664 = true then (if (t657 != bt660.2) = true then (none) else ((laws_uSameRows.f kj24 t656 bt660.1).bind fun t665 => (if t665 = true then (laws_FnDoorsOfRooms.j4 kj24 l1 t644 t645 t648 t649 t656 (t657 != t649)) else (none)))) else (none))))) = some r := H
       have A45 := Aside0.mk A450
       clear A450
       obtain ⟨⟨t660, t661⟩, A460, H⟩ := Option.bind_eq_some_iff.mp H
       replace H : (if (t649 != t653) = true then (none) else ((laws_uSameRows.f kj24 t648 t652).bind fun t664 => (if t664 = true then (if (t657 != t661) = true then (none) else ((laws_uSameRows.f kj24 t656 t660).bind fun t665 => (if t665 = true then (laws_FnDoorsOfRooms.j4 kj24 l1 t644 t645 t648 t649 t656 (t657 != t649)) else (none)))) else (none)))) = some r := H
       have A46 := Aside0.mk A460
       clear A460
       have HC47 := Aside0.mk H
       clear H
       go_upto_region 25 with (first | ((with_reducible refine gate_callee (f := 13) rfl ?_); refine goesL_ (some 141) rfl rfl Try.func13 (by kernel_rfl) rfl #[.slice A1 l1.length c1] rfl TA ?_; (with_reducible refine (spec_DrawDoorsOf.calls kj24 _ _ l1 t644 t645 _ ?side1 ?side2 A42.out).mono ?_); (case side1 => exact CW (Kd.C_below HR1.out HB.out)); (case side2 => exact HC1.out); rintro e w48 ⟨v646, rfl, ho0, hb⟩; refine ⟨_, rfl, ?_⟩; have n0_ := Aside0.mk (Kd.R_lower ho0 (below_size BB)); have n1_ := Aside0.mk (below_step BB hb); clear HB; have HO647 := n0_; have HB := n1_; clear n0_ n1_; (try clear hb); (try clear hb2); (try clear hk); (try clear hi); (try clear ho0); obtain ⟨Ao49, co49, eo49⟩ := Kd.R_slice HO647.out; subst eo49) | ((with_reducible refine gate_callee (f := 14) rfl ?_); refine goesL_ (some 147) rfl rfl Try.func14 (by kernel_rfl) rfl #[.int .i64 t644, .slice Ao49 t645.length co49] rfl TA ?_; (with_reducible refine (impl_DoorsOf.calls kj24 t644 _ _ t645 t648 t649 _ ?side1 ?side2 A43.out).mono ?_); (case side1 => exact CW (Kd.R_reads' HO647.out).2.2); (case side2 => exact (Kd.R_reads' HO647.out).2.1); rintro e w50 ⟨v650, rfl, ho0, hb⟩; refine ⟨_, rfl, ?_⟩; have n0_ := Aside0.mk (Kd.R_below (KR HO647) hb); have n1_ := Aside0.mk (Kd.N_lower (Kd.N_mono (ok' := fun k_ => some k_ ≠ (.slice Ao49 t645.length co49 : Value).ownBlock) (Kd.S_N (Kd.S_bound ho0)) (fun k_ hk_ => (Kd.fresh' (Kd.R_lt (KR HO647)) k_ hk_.2.1))) (below_size BB)); have n2_ := Aside0.mk (below_step BB hb); clear HO647; clear HB; have HO647 := n0_; have HO651 := n1_; have HB := n2_; clear n0_ n1_ n2_; (try clear hb); (try clear hb2); (try clear hk); (try clear hi); (try clear ho0)) | ((with_reducible refine gate_callee (f := 15) rfl ?_); refine goesL_ (some 153) rfl rfl Try.func15 (by kernel_rfl) rfl #[.int .i64 t644, .slice Ao49 t645.length co49] rfl TA ?_; (with_reducible refine (spec_DoorsOf.calls kj24 t644 _ _ t645 t652 t653 _ ?side1 ?side2 A44.out).mono ?_); (case side1 => exact CW (Kd.R_reads' HO647.out).2.2); (case side2 => exact (Kd.R_reads' HO647.out).2.1); rintro e w51 ⟨v654, rfl, ho0, hb⟩; refine ⟨_, rfl, ?_⟩; have n0_ := Aside0.mk (Kd.R_below (KR HO647) hb); have n1_ := Aside0.mk (Kd.N_elder' (KN HO651) (Kd.N_base (Kd.S_N ho0)) hb); have n2_ := Aside0.mk (Kd.N_lower (Kd.N_mono (ok' := fun k_ => some k_ ≠ (.slice Ao49 t645.length co49 : Value).ownBlock ∧ some k_ ≠ (v650 : Value).ownBlock) (Kd.S_N (Kd.S_bound ho0)) (fun k_ hk_ => ⟨(Kd.fresh' (Kd.R_lt (KR HO647)) k_ hk_.2.1), (Kd.fresh' (Kd.N_lt (KN HO651)) k_ hk_.2.1)⟩)) (below_size BB)); have n3_ := Aside0.mk (below_step BB hb); clear HO647; clear HO651; clear HB; have HO647 := n0_; have HO651 := n1_; have HO655 := n2_; have HB := n3_; clear n0_ n1_ n2_ n3_; (try clear hb); (try clear hb2); (try clear hk); (try clear hi); (try clear ho0)) | ((with_reducible refine gate_callee (f := 16) rfl ?_); refine goesL_ (some 159) rfl rfl Try.func16 (by kernel_rfl) rfl #[.int .i64 t644, .slice Ao49 t645.length co49] rfl TA ?_; (with_reducible refine (impl_BorderDoors.calls kj24 t644 _ _ t645 t656 t657 _ ?side1 ?side2 A45.out).mono ?_); (case side1 => exact CW (Kd.R_reads' HO647.out).2.2); (case side2 => exact (Kd.R_reads' HO647.out).2.1); rintro e w52 ⟨v658, rfl, ho0, hb⟩; refine ⟨_, rfl, ?_⟩; have n0_ := Aside0.mk (Kd.R_below (KR HO647) hb); have n1_ := Aside0.mk (Kd.N_elder' (KN HO651) (Kd.N_base (Kd.S_N ho0)) hb); have n2_ := Aside0.mk (Kd.N_elder' (KN HO655) (Kd.N_base (Kd.S_N ho0)) hb); have n3_ := Aside0.mk (Kd.N_lower (Kd.N_mono (ok' := fun k_ => some k_ ≠ (.slice Ao49 t645.length co49 : Value).ownBlock ∧ some k_ ≠ (v650 : Value).ownBlock ∧ some k_ ≠ (v654 : Value).ownBlock) (Kd.S_N (Kd.S_bound ho0)) (fun k_ hk_ => ⟨(Kd.fresh' (Kd.R_lt (KR HO647)) k_ hk_.2.1), (Kd.fresh' (Kd.N_lt (KN HO651)) k_ hk_.2.1), (Kd.fresh' (Kd.N_lt (KN HO655)) k_ hk_.2.1)⟩)) (below_size BB)); have n4_ := Aside0.mk (below_step BB hb); clear HO647; clear HO651; clear HO655; clear HB; have HO647 := n0_; have HO651 := n1_; have HO655 := n2_; have HO659 := n3_; have HB := n4_; clear n0_ n1_ n2_ n3_ n4_; (try clear hb); (try clear hb2); (try clear hk); (try clear hi); (try clear ho0)) | ((with_reducible refine gate_callee (f := 17) rfl ?_); refine goesL_ (some 165) rfl rfl Try.func17 (by kernel_rfl) rfl #[.int .i64 t644, .slice Ao49 t645.length co49] rfl TA ?_; (with_reducible refine (spec_BorderDoors.calls kj24 t644 _ _ t645 t660 t661 _ ?side1 ?side2 A46.out).mono ?_); (case side1 => exact CW (Kd.R_reads' HO647.out).2.2); (case side2 => exact (Kd.R_reads' HO647.out).2.1); rintro e w53 ⟨v662, rfl, ho0, hb⟩; refine ⟨_, rfl, ?_⟩; have n0_ := Aside0.mk (Kd.R_below (KR HO647) hb); have n1_ := Aside0.mk (Kd.N_elder' (KN HO651) (Kd.N_base (Kd.S_N ho0)) hb); have n2_ := Aside0.mk (Kd.N_elder' (KN HO655) (Kd.N_base (Kd.S_N ho0)) hb); have n3_ := Aside0.mk (Kd.N_elder' (KN HO659) (Kd.N_base (Kd.S_N ho0)) hb); have n4_ := Aside0.mk (Kd.N_lower (Kd.N_mono (ok' := fun k_ => some k_ ≠ (.slice Ao49 t645.length co49 : Value).ownBlock ∧ some k_ ≠ (v650 : Value).ownBlock ∧ some k_ ≠ (v654 : Value).ownBlock ∧ some k_ ≠ (v658 : Value).ownBlock) (Kd.S_N (Kd.S_bound ho0)) (fun k_ hk_ => ⟨(Kd.fresh' (Kd.R_lt (KR HO647)) k_ hk_.2.1), (Kd.fresh' (Kd.N_lt (KN HO651)) k_ hk_.2.1), (Kd.fresh' (Kd.N_lt (KN HO655)) k_ hk_.2.1), (Kd.fresh' (Kd.N_lt (KN HO659)) k_ hk_.2.1)⟩)) (below_size BB)); have n5_ := Aside0.mk (below_step BB hb); clear HO647; clear HO651; clear HO655; clear HO659; clear HB; have HO647 := n0_; have HO651 := n1_; have HO655 := n2_; have HO659 := n3_; have HO663 := n4_; have HB := n5_; clear n0_ n1_ n2_ n3_ n4_ n5_; (try clear hb); (try clear hb2); (try clear hk); (try clear hi); (try clear ho0)))
       (try simp only [Act.put, List.setIfInBounds_toArray, List.set_cons_zero, List.set_cons_succ])
       go_cut [192] (fun v192 wc => ∃ (kq : Nat) (x192_46 : Bool), v192 = .bool x192_46 ∧ Aside0 (laws_FnDoorsOfRooms.j4 kq l1 t644 t645 t648 t649 t656 x192_46 = some r) ∧ Aside0 (kq ≤ kj24) ∧ Aside0 (Kd.R (Kd.int .i64) 3 wc w.heap.size (fun _ => True) (.slice Ao49 t645.length co49) t645) ∧ Aside0 (Kd.N (Kd.slice 3 (Kd.int .i64)) 24 wc w.heap.size (fun k_ => some k_ ≠ ((.slice Ao49 t645.length co49) : Value).ownBlock ∧ some k_ ≠ (v658 : Value).ownBlock) v650 t648) ∧ Aside0 (Kd.N (Kd.slice 3 (Kd.int .i64)) 24 wc w.heap.size (fun k_ => some k_ ≠ ((.slice Ao49 t645.length co49) : Value).ownBlock ∧ some k_ ≠ (v650 : Value).ownBlock) v658 t656) ∧ Aside0 (Below w.heap.size w wc))
       case first => as_aux_lemma =>
        have H := HC47.out
        clear HC47
        by_cases c54 : (t649 != t653) = true
        ·rw [if_pos c54] at H
         cases H
        ·rw [if_neg c54] at H
         have c54b0 : (t649 != t653) = false := by simpa using c54
         (try (have c54b1 : decide (t649 = t653) = true := by simpa using c54))
         (try (have c54b2 : (t649 == t653) = true := by simpa using c54))
         clear c54
         (first | rw [c54b0] | (simp only [i64_w, i32_w]; rw [c54b0]) | skip)
         obtain ⟨t664, A550, H⟩ := Option.bind_eq_some_iff.mp H
         have A55 := Aside0.mk A550
         clear A550
         by_cases c56 : t664 = true
         ·subst c56
          replace H := IP H
          by_cases c57 : (t657 != t661) = true
          ·rw [if_pos c57] at H
           cases H
          ·rw [if_neg c57] at H
           have c57b0 : (t657 != t661) = false := by simpa using c57
           (try (have c57b1 : decide (t657 = t661) = true := by simpa using c57))
           (try (have c57b2 : (t657 == t661) = true := by simpa using c57))
           clear c57
           obtain ⟨t665, A580, H⟩ := Option.bind_eq_some_iff.mp H
           have A58 := Aside0.mk A580
           clear A580
           by_cases c59 : t665 = true
           ·subst c59
            replace H := IP H
            have H' := Aside0.mk H
            clear H
            obtain ⟨Ao60, co60, eo60⟩ := Kd.N_slice HO651.out
            subst eo60
            obtain ⟨Ao61, co61, eo61⟩ := Kd.N_slice HO655.out
            subst eo61
            go_wp2_with (first | (go_at_call 11; (with_reducible refine (laws_uSameRows.calls kj24 _ _ t648 _ _ t652 true _ ?side1 ?side2 ?side3 ?side4 A55.out).mono ?_); (case side1 => exact CW (Kd.N_reads' HO651.out).2.2); (case side2 => exact (Kd.N_reads' HO651.out).2.1); (case side3 => exact CW (Kd.N_reads' HO655.out).2.2); (case side4 => exact (Kd.N_reads' HO655.out).2.1); rintro e w' ⟨rfl, ⟨nd, rfl⟩⟩; obtain ⟨Ao62, co62, eo62⟩ := Kd.N_slice HO659.out; subst eo62; obtain ⟨Ao63, co63, eo63⟩ := Kd.N_slice HO663.out; subst eo63) | (go_at_call 11; (with_reducible refine (laws_uSameRows.calls kj24 _ _ t656 _ _ t660 true _ ?side1 ?side2 ?side3 ?side4 A58.out).mono ?_); (case side1 => exact CW (Kd.N_reads' HO659.out).2.2); (case side2 => exact (Kd.N_reads' HO659.out).2.1); (case side3 => exact CW (Kd.N_reads' HO663.out).2.2); (case side4 => exact (Kd.N_reads' HO663.out).2.1); rintro e w' ⟨rfl, ⟨nd, rfl⟩⟩))
            go_meet
            case rel => exact ⟨_, ((t657 != t649)), RF, H', ⟨by have := HJ9.out; have := HJ24.out; first | omega | exact Nat.le_refl _⟩, ⟨KR HO647⟩, ⟨by (with_reducible repeat (first | apply Kd.N_alloc | apply Kd.N_drewN | apply Kd.N_drew)); exact Kd.N_mono HO651.out (fun _ hk => ⟨hk.1.1.1, hk.1.2⟩)⟩, ⟨by (with_reducible repeat (first | apply Kd.N_alloc | apply Kd.N_drewN | apply Kd.N_drew)); exact Kd.N_mono HO659.out (fun _ hk => ⟨hk.1.1, hk.1.2.1⟩)⟩, ⟨BB⟩⟩
           ·replace c59 := Bool.eq_false_iff.mpr c59
            subst c59
            replace H := IN H
            cases H
         ·replace c56 := Bool.eq_false_iff.mpr c56
          subst c56
          replace H := IN H
          cases H
       case rest => as_aux_lemma =>
        clear HC47
        try clear c1
        try clear c2
        try clear p2
        try clear c3
        try clear c4
        try clear c5
        try clear c6
        try clear p6
        try clear q6
        try clear hx6
        try clear qi6
        try clear c7
        try clear c8
        try clear c9
        try clear c10
        try clear c12
        try clear c13
        try clear c14
        try clear c15
        try clear c16
        try clear c17
        try clear c17b0
        try clear c17b1
        try clear c17b2
        try clear c19
        try clear c20
        try clear c20b0
        try clear c20b1
        try clear c20b2
        try clear c21
        try clear c21b0
        try clear c21b1
        try clear c21b2
        try clear c24
        try clear c26
        try clear c28
        try clear c28b0
        try clear c28b1
        try clear c28b2
        try clear c30
        try clear c32
        try clear c32b0
        try clear c33
        try clear c33b0
        try clear c34
        try clear c34b0
        try clear c35
        try clear c35b0
        try clear c35b1
        try clear c36
        try clear c36b0
        try clear c36b1
        try clear c38
        try clear c39
        try clear c54
        try clear c54b0
        try clear c54b1
        try clear c54b2
        try clear c56
        try clear c57
        try clear c57b0
        try clear c57b1
        try clear c57b2
        try clear c59
        try clear c63
        try clear p63
        try clear q63
        try clear hx63
        try clear hx639_0
        try clear hx640_0
        try clear hx641_0
        try clear p2
        try clear p6
        try clear p639
        try clear p640
        try clear p641
        try clear q6
        try clear q639
        try clear q640
        try clear q641
        obtain ⟨kq, x192_46, rfl, HA, HJ46, HO_21, HO_22, HO_26, HB⟩ := hcut
        cases kq with
        | zero => exact absurd HA.out (by simp [laws_FnDoorsOfRooms.j4])
        | succ kj46 =>
         have H := HA.out
         clear HA
         simp only [laws_FnDoorsOfRooms.j4] at H
         by_cases c64 : x192_46 = true
         ·subst c64
          replace H := IP H
          cases H
         ·replace c64 := Bool.eq_false_iff.mpr c64
          subst c64
          replace H := IN H
          by_cases c65 : t649 = true
          ·subst c65
           replace H := IP H
           have H' := Aside0.mk H
           clear H
           go_wp2
           go_loopg [30, 31] kj46 (fun kq v30 v31 w' => ∃ (x30_4 : Int) (x31_4 : Int), v30 = .int .i64 x30_4 ∧ v31 = .int .i64 x31_4 ∧ Aside0 (laws_FnDoorsOfRooms.l1 kq l1 t644 t645 t648 t656 x30_4 x31_4 = some r) ∧ Aside0 (kq ≤ kj46) ∧ Aside0 (Kd.R (Kd.int .i64) 3 w' w.heap.size (fun _ => True) (.slice Ao49 t645.length co49) t645) ∧ Aside0 (Kd.N (Kd.slice 3 (Kd.int .i64)) 24 w' w.heap.size (fun k_ => some k_ ≠ ((.slice Ao49 t645.length co49) : Value).ownBlock ∧ some k_ ≠ (v658 : Value).ownBlock) v650 t648) ∧ Aside0 (Kd.N (Kd.slice 3 (Kd.int .i64)) 24 w' w.heap.size (fun k_ => some k_ ≠ ((.slice Ao49 t645.length co49) : Value).ownBlock ∧ some k_ ≠ (v650 : Value).ownBlock) v658 t656) ∧ Aside0 (Below w.heap.size w w'))
           case atStart => exact ⟨(0), (0), RF, RF, H', ⟨Nat.le_refl _⟩, ⟨KR HO_21⟩, ⟨KN HO_22⟩, ⟨KN HO_26⟩, ⟨BB⟩⟩
           case round => as_aux_lemma =>
            clear H'
            try clear c1
            try clear c2
            try clear p2
            try clear c3
            try clear c4
            try clear c5
            try clear c6
            try clear p6
            try clear q6
            try clear hx6
            try clear qi6
            try clear c7
            try clear c8
            try clear c9
            try clear c10
            try clear c12
            try clear c13
            try clear c14
            try clear c15
            try clear c16
            try clear c17
            try clear c17b0
            try clear c17b1
            try clear c17b2
            try clear c19
            try clear c20
            try clear c20b0
            try clear c20b1
            try clear c20b2
            try clear c21
            try clear c21b0
            try clear c21b1
            try clear c21b2
            try clear c24
            try clear c26
            try clear c28
            try clear c28b0
            try clear c28b1
            try clear c28b2
            try clear c30
            try clear c32
            try clear c32b0
            try clear c33
            try clear c33b0
            try clear c34
            try clear c34b0
            try clear c35
            try clear c35b0
            try clear c35b1
            try clear c36
            try clear c36b0
            try clear c36b1
            try clear c38
            try clear c39
            try clear c54
            try clear c54b0
            try clear c54b1
            try clear c54b2
            try clear c56
            try clear c57
            try clear c57b0
            try clear c57b1
            try clear c57b2
            try clear c59
            try clear c63
            try clear p63
            try clear q63
            try clear hx63
            try clear c64
            try clear p64
            try clear q64
            try clear hx64
            try clear qi64
            try clear c65
            try clear hx639_0
            try clear hx640_0
            try clear hx641_0
            try clear p2
            try clear p6
            try clear p63
            try clear p639
            try clear p640
            try clear p641
            try clear q6
            try clear q63
            try clear q639
            try clear q640
            try clear q641
            obtain ⟨x30_4, x31_4, rfl, rfl, HA, HK4, HO_21, HO_22, HO_26, HB⟩ := hrel
            cases gk with
            | zero => exact absurd HA.out (by simp [laws_FnDoorsOfRooms.l1])
            | succ k4 =>
             have H := HA.out
             clear HA
             simp only [laws_FnDoorsOfRooms.l1] at H
             by_cases c66 : x31_4 < (wrap64 (t644 * t644))
             ·rw [if_pos c66] at H
              have c66b0 : decide (x31_4 < (wrap64 (t644 * t644))) = true := decide_eq_true c66
              clear c66
              obtain ⟨⟨t666, t669⟩, A670, H⟩ := Option.bind_eq_some_iff.mp H
              replace H : (if t669 = true then (laws_FnDoorsOfRooms.l1 k4 l1 t644 t645 t648 t656 (wrap64 (x30_4 + (t666.length : Int))) (wrap64 (x31_4 + 1))) else (none)) = some r := H
              have A67 := Aside0.mk A670
              clear A670
              by_cases c68 : t669 = true
              ·subst c68
               replace H := IP H
               have H' := Aside0.mk H
               clear H
               go_wp2_with (first | ((with_reducible refine gate_callee (f := 7) rfl ?_); refine goesL_ (some 205) rfl rfl Try.func7 (by kernel_rfl) rfl #[.int .i64 t644, .slice Ao49 t645.length co49, .int .i64 x31_4] rfl TA ?_; (with_reducible refine (impl_DoorsOfCell.calls k4 t644 (fun k_ => some k_ = (.slice Ao49 t645.length co49 : Value).ownBlock) _ _ t645 x31_4 t666 true _ ?side1 A67.out).mono ?_); (case side1 => exact Kd.R_V (Kd.R_tight rfl (Kd.R_apart' (Kd.R_apart' (HO_21.out) (Kd.N_typed HO_22.out) (by decide)) (Kd.N_typed HO_26.out) (by decide)))); rintro e w69 ⟨v667, rfl, ho0, hb⟩; refine ⟨_, rfl, ?_⟩; have n0_ := Aside0.mk (Kd.R_below (KR HO_21) hb); have n1_ := Aside0.mk (Kd.N_elder' (KN HO_22) (Kd.N_base ho0) hb); have n2_ := Aside0.mk (Kd.N_elder' (KN HO_26) (Kd.N_base ho0) hb); have n3_ := Aside0.mk (Kd.N_lower (Kd.N_mono (ok' := fun k_ => some k_ ≠ (v650 : Value).ownBlock ∧ some k_ ≠ (v658 : Value).ownBlock) ho0 (fun k_ hk_ => ⟨Or.elim hk_ (fun hs_ => ((Kd.R_apart' (Kd.R_apart' (HO_21.out) (Kd.N_typed HO_22.out) (by decide)) (Kd.N_typed HO_26.out) (by decide)).1 k_ hs_.symm).1.2) (fun hn_ => (Kd.fresh' (Kd.N_lt (KN HO_22)) k_ hn_)), Or.elim hk_ (fun hs_ => ((Kd.R_apart' (Kd.R_apart' (HO_21.out) (Kd.N_typed HO_22.out) (by decide)) (Kd.N_typed HO_26.out) (by decide)).1 k_ hs_.symm).2) (fun hn_ => (Kd.fresh' (Kd.N_lt (KN HO_26)) k_ hn_))⟩)) (below_size BB)); have n4_ := Aside0.mk (below_step BB hb); clear HO_21; clear HO_22; clear HO_26; clear HB; have HO_21 := n0_; have HO_22 := n1_; have HO_26 := n2_; have HO668 := n3_; have HB := n4_; clear n0_ n1_ n2_ n3_ n4_; (try clear hb); (try clear hb2); (try clear hk); (try clear hi); (try clear ho0); obtain ⟨Ao70, co70, eo70⟩ := Kd.N_slice HO668.out; subst eo70))
               go_roundg k4
               case measure => have := HJ9.out; have := HJ24.out; have := HJ46.out; have := HK4.out; omega
               case rel => exact ⟨(wrap64 (x30_4 + (t666.length : Int))), (wrap64 (x31_4 + 1)), RF, RF, H', ⟨by have := HJ9.out; have := HJ24.out; have := HJ46.out; have := HK4.out; omega⟩, ⟨KR HO_21⟩, ⟨by (with_reducible repeat (first | apply Kd.N_alloc | apply Kd.N_drewN | apply Kd.N_drew)); exact Kd.N_mono HO_22.out (fun _ hk => ⟨hk.1.1, hk.1.2⟩)⟩, ⟨by (with_reducible repeat (first | apply Kd.N_alloc | apply Kd.N_drewN | apply Kd.N_drew)); exact Kd.N_mono HO_26.out (fun _ hk => ⟨hk.1.1, hk.1.2⟩)⟩, ⟨BB⟩⟩
              ·replace c68 := Bool.eq_false_iff.mpr c68
               subst c68
               replace H := IN H
               cases H
             ·rw [if_neg c66] at H
              have c66b0 : decide (x31_4 < (wrap64 (t644 * t644))) = false := decide_eq_false c66
              clear c66
              by_cases c71 : x30_4 = (wrap64 ((wrap64 (2 * (t648.length : Int))) - (t656.length : Int)))
              ·rw [if_pos c71] at H
               have c71b0 : (x30_4 == (wrap64 ((wrap64 (2 * (t648.length : Int))) - (t656.length : Int)))) = true := beq_iff_eq.mpr c71
               have c71b1 : (x30_4 != (wrap64 ((wrap64 (2 * (t648.length : Int))) - (t656.length : Int)))) = false := bne_eq_false_iff_eq.mpr c71
               clear c71
               obtain ⟨⟨t670, t671, t672, t673⟩, A720, H⟩ := Option.bind_eq_some_iff.mp H
               replace H : ((impl_IsDoor.f k4 t670 t671 t672 t673).bind fun bt676 => ((spec_IsDoor.f k4 t670 t671 t672 t673).bind fun bt678 => (if (bt676.2 == bt678.2) = true then (some (bt676.1 == bt678.1)) else (none)))) = some r := H
               have A72 := Aside0.mk A720
               clear A720
               obtain ⟨⟨t676, t677⟩, A730, H⟩ := Option.bind_eq_some_iff.mp H
               replace H : ((spec_IsDoor.f k4 t670 t671 t672 t673).bind fun bt678 => (if (t677 == bt678.2) = true then (some (t676 == bt678.1)) else (none))) = some r := H
               have A73 := Aside0.mk A730
               clear A730
               obtain ⟨⟨t678, t679⟩, A740, H⟩ := Option.bind_eq_some_iff.mp H
               replace H : (if (t677 == t679) = true then (some (t676 == t678)) else (none)) = some r := H
               have A74 := Aside0.mk A740
               clear A740
               by_cases c75 : (t677 == t679) = true
               ·rw [if_pos c75] at H
                have c75b0 : (t677 == t679) = true := c75
                (try (have c75b1 : decide (t677 = t679) = true := by simpa using c75))
                (try (have c75b2 : (t677 == t679) = true := by simpa using c75))
                clear c75
                obtain rfl := Option.some.inj H
                obtain ⟨Ao76, co76, eo76⟩ := Kd.N_slice HO_22.out
                subst eo76
                obtain ⟨Ao77, co77, eo77⟩ := Kd.N_slice HO_26.out
                subst eo77
                go_wp2_with (first | ((with_reducible refine gate_callee (f := 18) rfl ?_); refine goesL_ (some 224) rfl rfl Try.func18 (by kernel_rfl) rfl #[.slice A1 l1.length c1] rfl TA ?_; (with_reducible refine (spec_DrawIsDoor.calls k4 _ _ l1 t670 t671 t672 t673 _ ?side1 ?side2 A72.out).mono ?_); (case side1 => exact CW (Kd.C_below HR1.out HB.out)); (case side2 => exact HC1.out); rintro e w78 ⟨v674, rfl, ho0, hb⟩; refine ⟨_, rfl, ?_⟩; have n0_ := Aside0.mk (Kd.R_elder' (KR HO_21) (Kd.R_base ho0) hb); have n1_ := Aside0.mk (Kd.N_elder' (KN HO_22) (Kd.R_base ho0) hb); have n2_ := Aside0.mk (Kd.N_elder' (KN HO_26) (Kd.R_base ho0) hb); have n3_ := Aside0.mk (Kd.R_lower (Kd.R_new' ho0 (Kd.R_lt (KR HO_21))) (below_size BB)); have n4_ := Aside0.mk (below_step BB hb); clear HO_21; clear HO_22; clear HO_26; clear HB; have HO_21 := n0_; have HO_22 := n1_; have HO_26 := n2_; have HO675 := n3_; have HB := n4_; clear n0_ n1_ n2_ n3_ n4_; (try clear hb); (try clear hb2); (try clear hk); (try clear hi); (try clear ho0); obtain ⟨Ao79, co79, eo79⟩ := Kd.R_slice HO675.out; subst eo79) | ((with_reducible refine gate_callee (f := 12) rfl ?_); refine goesL_ (some 234) rfl rfl Try.func12 (by kernel_rfl) rfl #[.int .i64 t670, .slice Ao79 t671.length co79, .int .i64 t672, .int .i64 t673] rfl TA ?_; (with_reducible refine (impl_IsDoor.calls k4 t670 _ _ t671 t672 t673 t676 t677 _ ?side1 ?side2 A73.out).mono ?_); (case side1 => exact CW (Kd.R_reads' HO675.out).2.2); (case side2 => exact (Kd.R_reads' HO675.out).2.1); rintro e w80 ⟨rfl, hb⟩; refine ⟨_, rfl, ?_⟩; have n0_ := Aside0.mk (Kd.R_below (KR HO_21) hb); have n1_ := Aside0.mk (Kd.N_below (KN HO_22) hb); have n2_ := Aside0.mk (Kd.N_below (KN HO_26) hb); have n3_ := Aside0.mk (Kd.R_below (KR HO675) hb); have n4_ := Aside0.mk (below_step BB hb); clear HO_21; clear HO_22; clear HO_26; clear HO675; clear HB; have HO_21 := n0_; have HO_22 := n1_; have HO_26 := n2_; have HO675 := n3_; have HB := n4_; clear n0_ n1_ n2_ n3_ n4_; (try clear hb); (try clear hb2); (try clear hk); (try clear hi)) | ((with_reducible refine gate_callee (f := 19) rfl ?_); refine goesL_ (some 242) rfl rfl Try.func19 (by kernel_rfl) rfl #[.int .i64 t670, .slice Ao79 t671.length co79, .int .i64 t672, .int .i64 t673] rfl TA ?_; (with_reducible refine (spec_IsDoor.calls k4 t670 _ _ t671 t672 t673 t678 t679 _ ?side1 ?side2 A74.out).mono ?_); (case side1 => exact CW (Kd.R_reads' HO675.out).2.2); (case side2 => exact (Kd.R_reads' HO675.out).2.1); rintro e w81 ⟨rfl, hb⟩; refine ⟨_, rfl, ?_⟩; have n0_ := Aside0.mk (Kd.R_below (KR HO_21) hb); have n1_ := Aside0.mk (Kd.N_below (KN HO_22) hb); have n2_ := Aside0.mk (Kd.N_below (KN HO_26) hb); have n3_ := Aside0.mk (Kd.R_below (KR HO675) hb); have n4_ := Aside0.mk (below_step BB hb); clear HO_21; clear HO_22; clear HO_26; clear HO675; clear HB; have HO_21 := n0_; have HO_22 := n1_; have HO_26 := n2_; have HO675 := n3_; have HB := n4_; clear n0_ n1_ n2_ n3_ n4_; (try clear hb); (try clear hb2); (try clear hk); (try clear hi)))
                go_ret
                exact ⟨RE, BB⟩
               ·rw [if_neg c75] at H
                cases H
              ·rw [if_neg c71] at H
               cases H
          ·replace c65 := Bool.eq_false_iff.mpr c65
           subst c65
           replace H := IN H
           obtain ⟨⟨t680, t681, t682, t683⟩, A820, H⟩ := Option.bind_eq_some_iff.mp H
           replace H : ((impl_IsDoor.f kj46 t680 t681 t682 t683).bind fun bt686 => ((spec_IsDoor.f kj46 t680 t681 t682 t683).bind fun bt688 => (if (bt686.2 == bt688.2) = true then (some (bt686.1 == bt688.1)) else (none)))) = some r := H
           have A82 := Aside0.mk A820
           clear A820
           obtain ⟨⟨t686, t687⟩, A830, H⟩ := Option.bind_eq_some_iff.mp H
           replace H : ((spec_IsDoor.f kj46 t680 t681 t682 t683).bind fun bt688 => (if (t687 == bt688.2) = true then (some (t686 == bt688.1)) else (none))) = some r := H
           have A83 := Aside0.mk A830
           clear A830
           obtain ⟨⟨t688, t689⟩, A840, H⟩ := Option.bind_eq_some_iff.mp H
           replace H : (if (t687 == t689) = true then (some (t686 == t688)) else (none)) = some r := H
           have A84 := Aside0.mk A840
           clear A840
           by_cases c85 : (t687 == t689) = true
           ·rw [if_pos c85] at H
            have c85b0 : (t687 == t689) = true := c85
            (try (have c85b1 : decide (t687 = t689) = true := by simpa using c85))
            (try (have c85b2 : (t687 == t689) = true := by simpa using c85))
            clear c85
            obtain rfl := Option.some.inj H
            go_wp2_with (first | ((with_reducible refine gate_callee (f := 18) rfl ?_); refine goesL_ (some 224) rfl rfl Try.func18 (by kernel_rfl) rfl #[.slice A1 l1.length c1] rfl TA ?_; (with_reducible refine (spec_DrawIsDoor.calls kj46 _ _ l1 t680 t681 t682 t683 _ ?side1 ?side2 A82.out).mono ?_); (case side1 => exact CW (Kd.C_below HR1.out HB.out)); (case side2 => exact HC1.out); rintro e w86 ⟨v684, rfl, ho0, hb⟩; refine ⟨_, rfl, ?_⟩; have n0_ := Aside0.mk (Kd.R_elder' (KR HO_21) (Kd.R_base ho0) hb); have n1_ := Aside0.mk (Kd.N_elder' (KN HO_22) (Kd.R_base ho0) hb); have n2_ := Aside0.mk (Kd.N_elder' (KN HO_26) (Kd.R_base ho0) hb); have n3_ := Aside0.mk (Kd.R_lower (Kd.R_new' ho0 (Kd.R_lt (KR HO_21))) (below_size BB)); have n4_ := Aside0.mk (below_step BB hb); clear HO_21; clear HO_22; clear HO_26; clear HB; have HO_21 := n0_; have HO_22 := n1_; have HO_26 := n2_; have HO685 := n3_; have HB := n4_; clear n0_ n1_ n2_ n3_ n4_; (try clear hb); (try clear hb2); (try clear hk); (try clear hi); (try clear ho0); obtain ⟨Ao87, co87, eo87⟩ := Kd.R_slice HO685.out; subst eo87) | ((with_reducible refine gate_callee (f := 12) rfl ?_); refine goesL_ (some 234) rfl rfl Try.func12 (by kernel_rfl) rfl #[.int .i64 t680, .slice Ao87 t681.length co87, .int .i64 t682, .int .i64 t683] rfl TA ?_; (with_reducible refine (impl_IsDoor.calls kj46 t680 _ _ t681 t682 t683 t686 t687 _ ?side1 ?side2 A83.out).mono ?_); (case side1 => exact CW (Kd.R_reads' HO685.out).2.2); (case side2 => exact (Kd.R_reads' HO685.out).2.1); rintro e w88 ⟨rfl, hb⟩; refine ⟨_, rfl, ?_⟩; have n0_ := Aside0.mk (Kd.R_below (KR HO_21) hb); have n1_ := Aside0.mk (Kd.N_below (KN HO_22) hb); have n2_ := Aside0.mk (Kd.N_below (KN HO_26) hb); have n3_ := Aside0.mk (Kd.R_below (KR HO685) hb); have n4_ := Aside0.mk (below_step BB hb); clear HO_21; clear HO_22; clear HO_26; clear HO685; clear HB; have HO_21 := n0_; have HO_22 := n1_; have HO_26 := n2_; have HO685 := n3_; have HB := n4_; clear n0_ n1_ n2_ n3_ n4_; (try clear hb); (try clear hb2); (try clear hk); (try clear hi)) | ((with_reducible refine gate_callee (f := 19) rfl ?_); refine goesL_ (some 242) rfl rfl Try.func19 (by kernel_rfl) rfl #[.int .i64 t680, .slice Ao87 t681.length co87, .int .i64 t682, .int .i64 t683] rfl TA ?_; (with_reducible refine (spec_IsDoor.calls kj46 t680 _ _ t681 t682 t683 t688 t689 _ ?side1 ?side2 A84.out).mono ?_); (case side1 => exact CW (Kd.R_reads' HO685.out).2.2); (case side2 => exact (Kd.R_reads' HO685.out).2.1); rintro e w89 ⟨rfl, hb⟩; refine ⟨_, rfl, ?_⟩; have n0_ := Aside0.mk (Kd.R_below (KR HO_21) hb); have n1_ := Aside0.mk (Kd.N_below (KN HO_22) hb); have n2_ := Aside0.mk (Kd.N_below (KN HO_26) hb); have n3_ := Aside0.mk (Kd.R_below (KR HO685) hb); have n4_ := Aside0.mk (below_step BB hb); clear HO_21; clear HO_22; clear HO_26; clear HO685; clear HB; have HO_21 := n0_; have HO_22 := n1_; have HO_26 := n2_; have HO685 := n3_; have HB := n4_; clear n0_ n1_ n2_ n3_ n4_; (try clear hb); (try clear hb2); (try clear hk); (try clear hi)))
            go_ret
            exact ⟨RE, BB⟩
           ·rw [if_neg c85] at H
            cases H

/-- THE ONE PURE STATEMENT of laws_FnDoorsOfRooms: yours. -/
def laws_FnDoorsOfRooms.Pure : Prop := ∀ (l0 : List Int) (l1 : List Int), l0.length ≤ maxLen → l0.length * 1 ≤ 140737488351232 → (∀ x ∈ l0, (Lit.int .u8 x).wf = true) → l1.length ≤ maxLen → l1.length * 1 ≤ 140737488351232 → (∀ x ∈ l1, (Lit.int .u8 x).wf = true) → ∃ k, laws_FnDoorsOfRooms.f k l0 l1 = some true
theorem laws_FnDoorsOfRooms.walk (P : laws_FnDoorsOfRooms.Pure) (a0 : Option Addr) (len0 cap0 : Nat) (z0 : List Int) (a1 : Option Addr) (len1 cap1 : Nat) (z1 : List Int) (w : World) (w0 : (a0 = none ∧ len0 = 0 ∧ cap0 = 0 ∧ z0 = []) ∨ ∃ x, a0 = some x ∧ len0 ≤ cap0 ∧ cap0 ≤ maxLen ∧ z0.length = cap0 ∧ (∀ i, i < z0.length → w.cell? (x.add i) = some (.int .u8 (z0.getD i 0))) ∧ ∀ n ∈ z0, (Lit.int .u8 n).wf = true) (y0 : len0 * 1 ≤ 140737488351232) (w1 : (a1 = none ∧ len1 = 0 ∧ cap1 = 0 ∧ z1 = []) ∨ ∃ x, a1 = some x ∧ len1 ≤ cap1 ∧ cap1 ≤ maxLen ∧ z1.length = cap1 ∧ (∀ i, i < z1.length → w.cell? (x.add i) = some (.int .u8 (z1.getD i 0))) ∧ ∀ n ∈ z1, (Lit.int .u8 n).wf = true) (y1 : len1 * 1 ≤ 140737488351232) :
  Calls Try.prog 3 #[.slice a0 len0 cap0, .slice a1 len1 cap1] w fun e w' => e = .returned (.bool true) ∧ Below w.heap.size w w' := by
 obtain ⟨l0, rfl, hr0, hm0, hw0, hc0⟩ := ReadsInt.ofRowC w0
 obtain ⟨l1, rfl, hr1, hm1, hw1, hc1⟩ := ReadsInt.ofRowC w1
 obtain ⟨k, h⟩ := P l0 l1 hm0 y0 hw0 hm1 y1 hw1
 refine (laws_FnDoorsOfRooms.calls k _ _ l0 _ _ l1 true w (Kd.C_of_reads (d := (0 : Int)) (h1 := fun _ => rfl) hr0) hc0 (Kd.C_of_reads (d := (0 : Int)) (h1 := fun _ => rfl) hr1) hc1 h).mono ?_
 rintro e w' ⟨rfl, hd⟩
 exact ⟨rfl, hd⟩

end Go.Proofs.Ytafjjbkkcedgnab.PFnDoorsOfRooms
