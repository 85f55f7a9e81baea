-- Written by a program of this session (wip/tools/pp.sh) out of the translation; Lean checks it.
import Derived.Deep.CutRange
import Derived.Test.YthkdkgbcokpbaacGreatDoorPFnNecklacesSharedx0
import Derived.Test.YthkdkgbcokpbaacGreatDoorPFnNecklacesSharedx1
import Derived.Test.YthkdkgbcokpbaacGreatDoorPFnNecklacesSharedx2
import Derived.Test.YthkdkgbcokpbaacGreatDoorPFnNecklacesSharedx3
import Derived.Test.YthkdkgbcokpbaacGreatDoorPFnNecklacesSharedx5
import Derived.Test.YthkdkgbcokpbaacGreatDoorPFnNecklacesSharedx6
import Derived.Test.YthkdkgbcokpbaacGreatDoorPFnNecklacesSharedx7
import Derived.Test.YthkdkgbcokpbaacGreatDoorPFnNecklacesSharedx8
import Derived.Test.YthkdkgbcokpbaacGreatDoorPFnNecklacesSharedx9
namespace Go.Proofs.YthkdkgbcokpbaacGreatDoor.PFnNecklacesShared
open Go.RowKit Go.Proofs.YthkdkgbcokpbaacGreatDoorOwn Go.Proofs.YthkdkgbcokpbaacGreatDoorW.PrintWords Go.Proofs.YthkdkgbcokpbaacGreatDoorW.PrintLast Go.Proofs.YthkdkgbcokpbaacGreatDoorW.PrintMore
attribute [local go_sem] max2_int min2_int max_two min_two max_three min_three max_four min_four   -- for this text's walks alone
set_option linter.unusedVariables false
set_option maxHeartbeats 8000000
set_option maxRecDepth 100000
set_option linter.unusedSimpArgs false

/-! ### laws_FnNecklacesShared: function 3 -/
mutual
def laws_FnNecklacesShared.j0 : Nat → List Int → ByteArray → List Int → Bool → Int → List Int → Bool → Int → Bool → Option (Bool)
 | 0, _, _, _, _, _, _, _, _, _ => none
 | k + 1, x1, x5, x6, x7, x10, x14, x15, x18, x180 => if x180 = true then (none) else (if x15 = true then (laws_FnNecklacesShared.l0 k x1 x5 x6 x7 x10 x14 x18 true x14 (x14.length : Int) 0) else (laws_FnNecklacesShared.j2 k x1 x5 x6 x7 x10 x18))
def laws_FnNecklacesShared.j2 : Nat → List Int → ByteArray → List Int → Bool → Int → Int → Option (Bool)
 | 0, _, _, _, _, _, _ => none
 | k + 1, x1, x5, x6, x7, x10, x18 => if x7 = true then ((impl_IsFairSplit.f k x5 x6).bind fun bt440 => ((impl_ReverseBeads.f x5).bind fun bt442 => ((impl_FewestCuts.f k bt442.1).bind fun bt444 => ((impl_RenameBeads.f x5 (([2, 3, 1, 0] : List Int))).bind fun bt449 => ((impl_FirstSplit.f k bt449.1).bind fun bt451 => (if bt440.2 = true then (if bt440.1 = true then (if (x6.length : Int) = x10 then (if x10 > x18 then (none) else (if bt442.2 = true then (if bt444.2 = true then (if bt444.1 = x10 then (if bt449.2 = true then (if bt451.2 = true then ((laws_zSame.f k bt451.1 x6).bind fun t455 => (laws_FnNecklacesShared.j3 k x1 x5 x10 (!t455))) else (none)) else (none)) else (none)) else (none)) else (none))) else (none)) else (none)) else (none))))))) else (laws_FnNecklacesShared.j5 k x1)
def laws_FnNecklacesShared.j5 : Nat → List Int → Option (Bool)
 | 0, _ => none
 | k + 1, x1 => (spec_DrawCountSplits.f k x1).bind fun bt460 => ((impl_CountSplits.f k bt460.1 bt460.2).bind fun bt462 => ((spec_CountSplits.f k bt460.1 bt460.2).bind fun bt464 => (if (bt462.2 != bt464.2) = true then (none) else (laws_FnNecklacesShared.j6 k x1 bt460.1 bt460.2 bt462.1 bt462.2 (bt462.1 != bt464.1)))))
def laws_FnNecklacesShared.j6 : Nat → List Int → ByteArray → Int → Int → Bool → Bool → Option (Bool)
 | 0, _, _, _, _, _, _ => none
 | k + 1, x1, x40, x41, x42, x43, x330 => if x330 = true then (none) else (if x43 = true then ((impl_ReverseBeads.f x40).bind fun bt466 => ((impl_CountSplits.f k bt466.1 x41).bind fun bt468 => (if bt466.2 = true then (if bt468.2 = true then (if bt468.1 = x42 then (laws_FnNecklacesShared.j7 k x1) else (none)) else (none)) else (none)))) else (laws_FnNecklacesShared.j7 k x1))
def laws_FnNecklacesShared.j7 : Nat → List Int → Option (Bool)
 | 0, _ => none
 | k + 1, x1 => (spec_DrawSortedBeads.f x1).bind fun t470 => ((impl_SortedBeads.f k t470).bind fun bt473 => ((spec_SortedBeads.f k t470).bind fun bt475 => (if (bt473.2 != bt475.2) = true then (none) else (laws_FnNecklacesShared.j8 k x1 t470 bt473.1 bt473.2 (bt473.1.toList != bt475.1.toList)))))
def laws_FnNecklacesShared.j8 : Nat → List Int → List Int → ByteArray → Bool → Bool → Option (Bool)
 | 0, _, _, _, _, _ => none
 | k + 1, x1, x50, x51, x52, x373 => if x373 = true then (none) else (if x52 = true then ((impl_CountsOfBeads.f k x51).bind fun bt477 => ((impl_KindsOfBeads.f k x51).bind fun bt481 => ((impl_FewestCuts.f k x51).bind fun bt483 => (if bt477.2 = true then ((laws_zSame.f k bt477.1 x50).bind fun t485 => (if t485 = true then (if bt481.2 = true then (if bt483.2 = true then (if bt483.1 = bt481.1 then (laws_FnNecklacesShared.j9 k x1) else (none)) else (laws_FnNecklacesShared.j9 k x1)) else (none)) else (none))) else (none))))) else (laws_FnNecklacesShared.j9 k x1))
def laws_FnNecklacesShared.j9 : Nat → List Int → Option (Bool)
 | 0, _ => none
 | k + 1, x1 => (spec_DrawReverseBeads.f k x1).bind fun t486 => ((impl_ReverseBeads.f t486).bind fun bt487 => ((spec_ReverseBeads.f k t486).bind fun bt489 => ((spec_DrawRenameBeads.f k x1).bind fun bt491 => ((impl_RenameBeads.f bt491.1 bt491.2).bind fun bt495 => ((spec_RenameBeads.f k bt491.1 bt491.2).bind fun bt497 => (if (bt487.2 != bt489.2) = true then (none) else (if bt487.1.toList = bt489.1.toList then (if (bt495.2 != bt497.2) = true then (none) else (laws_FnNecklacesShared.j10 k t486 bt487.1 bt487.2 (bt495.1.toList != bt497.1.toList))) else (none))))))))
def laws_FnNecklacesShared.j10 : Nat → ByteArray → ByteArray → Bool → Bool → Option (Bool)
 | 0, _, _, _, _ => none
 | k + 1, x61, x62, x63, x456 => if x456 = true then (none) else (if x63 = true then ((impl_ReverseBeads.f x62).bind fun bt499 => (if bt499.2 = true then (some (bt499.1.toList == x61.toList)) else (none))) else (some true))
def laws_FnNecklacesShared.j3 : Nat → List Int → ByteArray → Int → Bool → Option (Bool)
 | 0, _, _, _, _ => none
 | k + 1, x1, x5, x10, x276 => if x276 = true then (none) else (laws_FnNecklacesShared.l1 k x1 x5 x10 0)
def laws_FnNecklacesShared.l1 : Nat → List Int → ByteArray → Int → Int → Option (Bool)
 | 0, _, _, _, _ => none
 | k + 1, x1, x5, x10, x35 => if x35 < x10 then ((impl_CountSplits.f k x5 x35).bind fun bt456 => (if bt456.2 = true then (if bt456.1 = 0 then (laws_FnNecklacesShared.l1 k x1 x5 x10 (wrap64 (x35 + 1))) else (none)) else (none))) else ((impl_CountSplits.f k x5 x10).bind fun bt458 => (if bt458.2 = true then (if bt458.1 < 1 then (none) else (laws_FnNecklacesShared.j5 k x1)) else (none)))
def laws_FnNecklacesShared.l0 : Nat → List Int → ByteArray → List Int → Bool → Int → List Int → Int → Bool → List Int → Int → Int → Option (Bool)
 | 0, _, _, _, _, _, _, _, _, _, _, _ => none
 | k + 1, x1, x5, x6, x7, x10, x14, x18, x22, x182, x183, x184 => if x184 < x183 then (if 0 ≤ x184 then (if x184 < (x182.length : Int) then (if x22 = true then (laws_FnNecklacesShared.l0 k x1 x5 x6 x7 x10 x14 x18 ((Int.tmod (rd x182 x184) 2) == 0) x182 x183 (wrap64 (x184 + 1))) else (laws_FnNecklacesShared.l0 k x1 x5 x6 x7 x10 x14 x18 false x182 x183 (wrap64 (x184 + 1)))) else (none)) else (none)) else (if (x22 != x7) = true then (none) else ((laws_zSum.f k x14).bind fun t439 => (if t439 = (x5.size : Int) then (laws_FnNecklacesShared.j2 k x1 x5 x6 x7 x10 x18) else (none))))
end
def laws_FnNecklacesShared.f (k : Nat) (l0 : List Int) (l1 : List Int) : Option (Bool) := (laws_big.f l0 l1).bind fun t408 => (if t408 = true then (some true) else ((spec_DrawFirstSplit.f k l0).bind fun t409 => ((impl_FirstSplit.f k t409).bind fun bt410 => ((spec_FirstSplit.f k t409).bind fun bt414 => ((impl_FewestCuts.f k t409).bind fun bt418 => ((spec_FewestCuts.f k t409).bind fun bt420 => ((impl_CountsOfBeads.f k t409).bind fun bt422 => ((spec_CountsOfBeads.f k t409).bind fun bt426 => ((impl_KindsOfBeads.f k t409).bind fun bt430 => ((spec_KindsOfBeads.f k t409).bind fun bt432 => (if (bt410.2 != bt414.2) = true then (none) else ((laws_zSame.f k bt410.1 bt414.1).bind fun t434 => (if t434 = true then (if (bt418.2 != bt420.2) = true then (none) else (if bt418.1 = bt420.1 then (if (bt422.2 != bt426.2) = true then (none) else ((laws_zSame.f k bt422.1 bt426.1).bind fun t435 => (if t435 = true then (if (bt430.2 != bt432.2) = true then (none) else (if bt430.1 = bt432.1 then (if (bt418.2 != bt410.2) = true then (none) else ((impl_IsNecklace.f t409).bind fun t436 => (if (bt422.2 != t436) = true then (none) else ((spec_IsNecklace.f k t409).bind fun t437 => (if (bt422.2 != t437) = true then (none) else (laws_FnNecklacesShared.j0 k l1 t409 bt410.1 bt410.2 bt418.1 bt422.1 bt422.2 bt430.1 (bt430.2 != bt422.2))))))) else (none))) else (none)))) else (none))) else (none))))))))))))))
theorem laws_FnNecklacesShared.mono_l : ∀ k, (∀ y0 y1 y2 y3 y4 y5 y6 y7 y8, LeO (laws_FnNecklacesShared.j0 k y0 y1 y2 y3 y4 y5 y6 y7 y8) (laws_FnNecklacesShared.j0 (k + 1) y0 y1 y2 y3 y4 y5 y6 y7 y8)) ∧ (∀ y0 y1 y2 y3 y4 y5, LeO (laws_FnNecklacesShared.j2 k y0 y1 y2 y3 y4 y5) (laws_FnNecklacesShared.j2 (k + 1) y0 y1 y2 y3 y4 y5)) ∧ (∀ y0, LeO (laws_FnNecklacesShared.j5 k y0) (laws_FnNecklacesShared.j5 (k + 1) y0)) ∧ (∀ y0 y1 y2 y3 y4 y5, LeO (laws_FnNecklacesShared.j6 k y0 y1 y2 y3 y4 y5) (laws_FnNecklacesShared.j6 (k + 1) y0 y1 y2 y3 y4 y5)) ∧ (∀ y0, LeO (laws_FnNecklacesShared.j7 k y0) (laws_FnNecklacesShared.j7 (k + 1) y0)) ∧ (∀ y0 y1 y2 y3 y4, LeO (laws_FnNecklacesShared.j8 k y0 y1 y2 y3 y4) (laws_FnNecklacesShared.j8 (k + 1) y0 y1 y2 y3 y4)) ∧ (∀ y0, LeO (laws_FnNecklacesShared.j9 k y0) (laws_FnNecklacesShared.j9 (k + 1) y0)) ∧ (∀ y0 y1 y2 y3, LeO (laws_FnNecklacesShared.j10 k y0 y1 y2 y3) (laws_FnNecklacesShared.j10 (k + 1) y0 y1 y2 y3)) ∧ (∀ y0 y1 y2 y3, LeO (laws_FnNecklacesShared.j3 k y0 y1 y2 y3) (laws_FnNecklacesShared.j3 (k + 1) y0 y1 y2 y3)) ∧ (∀ y0 y1 y2 y3, LeO (laws_FnNecklacesShared.l1 k y0 y1 y2 y3) (laws_FnNecklacesShared.l1 (k + 1) y0 y1 y2 y3)) ∧ (∀ y0 y1 y2 y3 y4 y5 y6 y7 y8 y9 y10, LeO (laws_FnNecklacesShared.l0 k y0 y1 y2 y3 y4 y5 y6 y7 y8 y9 y10) (laws_FnNecklacesShared.l0 (k + 1) y0 y1 y2 y3 y4 y5 y6 y7 y8 y9 y10))
 | 0 => ⟨fun _ _ _ _ _ _ _ _ _ r h => by simp [laws_FnNecklacesShared.j0] at h, fun _ _ _ _ _ _ r h => by simp [laws_FnNecklacesShared.j2] at h, fun _ r h => by simp [laws_FnNecklacesShared.j5] at h, fun _ _ _ _ _ _ r h => by simp [laws_FnNecklacesShared.j6] at h, fun _ r h => by simp [laws_FnNecklacesShared.j7] at h, fun _ _ _ _ _ r h => by simp [laws_FnNecklacesShared.j8] at h, fun _ r h => by simp [laws_FnNecklacesShared.j9] at h, fun _ _ _ _ r h => by simp [laws_FnNecklacesShared.j10] at h, fun _ _ _ _ r h => by simp [laws_FnNecklacesShared.j3] at h, fun _ _ _ _ r h => by simp [laws_FnNecklacesShared.l1] at h, fun _ _ _ _ _ _ _ _ _ _ _ r h => by simp [laws_FnNecklacesShared.l0] at h⟩
 | k + 1 => by
  obtain ⟨ih0, ih1, ih2, ih3, ih4, ih5, ih6, ih7, ih8, ih9, ih10⟩ := laws_FnNecklacesShared.mono_l k
  refine ⟨?_, ?_, ?_, ?_, ?_, ?_, ?_, ?_, ?_, ?_, ?_⟩
  ·intro y0 y1 y2 y3 y4 y5 y6 y7 y8
   unfold laws_FnNecklacesShared.j0
   repeat' first
   | with_reducible first | exact ih0 _ _ _ _ _ _ _ _ _ | exact ih1 _ _ _ _ _ _ | exact ih2 _ | exact ih3 _ _ _ _ _ _ | exact ih4 _ | exact ih5 _ _ _ _ _ | exact ih6 _ | exact ih7 _ _ _ _ | exact ih8 _ _ _ _ | exact ih9 _ _ _ _ | exact ih10 _ _ _ _ _ _ _ _ _ _ _ | exact impl_CountSplits.mono _ _ _ | exact impl_CountsOfBeads.mono _ _ | exact impl_FewestCuts.mono _ _ | exact impl_FirstSplit.mono _ _ | exact impl_IsFairSplit.mono _ _ _ | exact impl_KindsOfBeads.mono _ _ | exact impl_SortedBeads.mono _ _ | exact laws_zSame.mono _ _ _ | exact laws_zSum.mono _ _ | exact spec_CountSplits.mono _ _ _ | exact spec_CountsOfBeads.mono _ _ | exact spec_DrawCountSplits.mono _ _ | exact spec_DrawFirstSplit.mono _ _ | exact spec_DrawRenameBeads.mono _ _ | exact spec_DrawReverseBeads.mono _ _ | exact spec_FewestCuts.mono _ _ | exact spec_FirstSplit.mono _ _ | exact spec_IsNecklace.mono _ _ | exact spec_KindsOfBeads.mono _ _ | exact spec_RenameBeads.mono _ _ _ | exact spec_ReverseBeads.mono _ _ | exact spec_SortedBeads.mono _ _ | exact LeO.refl _ | exact LeO.none _ | refine LeO.ite ?_ ?_ | refine LeO.bind ?_ (fun _ => ?_)
   | exact LeO.none _ | refine LeO.ite ?_ ?_ | refine LeO.bind ?_ (fun _ => ?_)
  ·intro y0 y1 y2 y3 y4 y5
   unfold laws_FnNecklacesShared.j2
   repeat' first
   | with_reducible first | exact ih0 _ _ _ _ _ _ _ _ _ | exact ih1 _ _ _ _ _ _ | exact ih2 _ | exact ih3 _ _ _ _ _ _ | exact ih4 _ | exact ih5 _ _ _ _ _ | exact ih6 _ | exact ih7 _ _ _ _ | exact ih8 _ _ _ _ | exact ih9 _ _ _ _ | exact ih10 _ _ _ _ _ _ _ _ _ _ _ | exact impl_CountSplits.mono _ _ _ | exact impl_CountsOfBeads.mono _ _ | exact impl_FewestCuts.mono _ _ | exact impl_FirstSplit.mono _ _ | exact impl_IsFairSplit.mono _ _ _ | exact impl_KindsOfBeads.mono _ _ | exact impl_SortedBeads.mono _ _ | exact laws_zSame.mono _ _ _ | exact laws_zSum.mono _ _ | exact spec_CountSplits.mono _ _ _ | exact spec_CountsOfBeads.mono _ _ | exact spec_DrawCountSplits.mono _ _ | exact spec_DrawFirstSplit.mono _ _ | exact spec_DrawRenameBeads.mono _ _ | exact spec_DrawReverseBeads.mono _ _ | exact spec_FewestCuts.mono _ _ | exact spec_FirstSplit.mono _ _ | exact spec_IsNecklace.mono _ _ | exact spec_KindsOfBeads.mono _ _ | exact spec_RenameBeads.mono _ _ _ | exact spec_ReverseBeads.mono _ _ | exact spec_SortedBeads.mono _ _ | exact LeO.refl _ | exact LeO.none _ | refine LeO.ite ?_ ?_ | refine LeO.bind ?_ (fun _ => ?_)
   | exact LeO.none _ | refine LeO.ite ?_ ?_ | refine LeO.bind ?_ (fun _ => ?_)
  ·intro y0
   unfold laws_FnNecklacesShared.j5
   repeat' first
   | with_reducible first | exact ih0 _ _ _ _ _ _ _ _ _ | exact ih1 _ _ _ _ _ _ | exact ih2 _ | exact ih3 _ _ _ _ _ _ | exact ih4 _ | exact ih5 _ _ _ _ _ | exact ih6 _ | exact ih7 _ _ _ _ | exact ih8 _ _ _ _ | exact ih9 _ _ _ _ | exact ih10 _ _ _ _ _ _ _ _ _ _ _ | exact impl_CountSplits.mono _ _ _ | exact impl_CountsOfBeads.mono _ _ | exact impl_FewestCuts.mono _ _ | exact impl_FirstSplit.mono _ _ | exact impl_IsFairSplit.mono _ _ _ | exact impl_KindsOfBeads.mono _ _ | exact impl_SortedBeads.mono _ _ | exact laws_zSame.mono _ _ _ | exact laws_zSum.mono _ _ | exact spec_CountSplits.mono _ _ _ | exact spec_CountsOfBeads.mono _ _ | exact spec_DrawCountSplits.mono _ _ | exact spec_DrawFirstSplit.mono _ _ | exact spec_DrawRenameBeads.mono _ _ | exact spec_DrawReverseBeads.mono _ _ | exact spec_FewestCuts.mono _ _ | exact spec_FirstSplit.mono _ _ | exact spec_IsNecklace.mono _ _ | exact spec_KindsOfBeads.mono _ _ | exact spec_RenameBeads.mono _ _ _ | exact spec_ReverseBeads.mono _ _ | exact spec_SortedBeads.mono _ _ | exact LeO.refl _ | exact LeO.none _ | refine LeO.ite ?_ ?_ | refine LeO.bind ?_ (fun _ => ?_)
   | exact LeO.none _ | refine LeO.ite ?_ ?_ | refine LeO.bind ?_ (fun _ => ?_)
  ·intro y0 y1 y2 y3 y4 y5
   unfold laws_FnNecklacesShared.j6
   repeat' first
   | with_reducible first | exact ih0 _ _ _ _ _ _ _ _ _ | exact ih1 _ _ _ _ _ _ | exact ih2 _ | exact ih3 _ _ _ _ _ _ | exact ih4 _ | exact ih5 _ _ _ _ _ | exact ih6 _ | exact ih7 _ _ _ _ | exact ih8 _ _ _ _ | exact ih9 _ _ _ _ | exact ih10 _ _ _ _ _ _ _ _ _ _ _ | exact impl_CountSplits.mono _ _ _ | exact impl_CountsOfBeads.mono _ _ | exact impl_FewestCuts.mono _ _ | exact impl_FirstSplit.mono _ _ | exact impl_IsFairSplit.mono _ _ _ | exact impl_KindsOfBeads.mono _ _ | exact impl_SortedBeads.mono _ _ | exact laws_zSame.mono _ _ _ | exact laws_zSum.mono _ _ | exact spec_CountSplits.mono _ _ _ | exact spec_CountsOfBeads.mono _ _ | exact spec_DrawCountSplits.mono _ _ | exact spec_DrawFirstSplit.mono _ _ | exact spec_DrawRenameBeads.mono _ _ | exact spec_DrawReverseBeads.mono _ _ | exact spec_FewestCuts.mono _ _ | exact spec_FirstSplit.mono _ _ | exact spec_IsNecklace.mono _ _ | exact spec_KindsOfBeads.mono _ _ | exact spec_RenameBeads.mono _ _ _ | exact spec_ReverseBeads.mono _ _ | exact spec_SortedBeads.mono _ _ | exact LeO.refl _ | exact LeO.none _ | refine LeO.ite ?_ ?_ | refine LeO.bind ?_ (fun _ => ?_)
   | exact LeO.none _ | refine LeO.ite ?_ ?_ | refine LeO.bind ?_ (fun _ => ?_)
  ·intro y0
   unfold laws_FnNecklacesShared.j7
   repeat' first
   | with_reducible first | exact ih0 _ _ _ _ _ _ _ _ _ | exact ih1 _ _ _ _ _ _ | exact ih2 _ | exact ih3 _ _ _ _ _ _ | exact ih4 _ | exact ih5 _ _ _ _ _ | exact ih6 _ | exact ih7 _ _ _ _ | exact ih8 _ _ _ _ | exact ih9 _ _ _ _ | exact ih10 _ _ _ _ _ _ _ _ _ _ _ | exact impl_CountSplits.mono _ _ _ | exact impl_CountsOfBeads.mono _ _ | exact impl_FewestCuts.mono _ _ | exact impl_FirstSplit.mono _ _ | exact impl_IsFairSplit.mono _ _ _ | exact impl_KindsOfBeads.mono _ _ | exact impl_SortedBeads.mono _ _ | exact laws_zSame.mono _ _ _ | exact laws_zSum.mono _ _ | exact spec_CountSplits.mono _ _ _ | exact spec_CountsOfBeads.mono _ _ | exact spec_DrawCountSplits.mono _ _ | exact spec_DrawFirstSplit.mono _ _ | exact spec_DrawRenameBeads.mono _ _ | exact spec_DrawReverseBeads.mono _ _ | exact spec_FewestCuts.mono _ _ | exact spec_FirstSplit.mono _ _ | exact spec_IsNecklace.mono _ _ | exact spec_KindsOfBeads.mono _ _ | exact spec_RenameBeads.mono _ _ _ | exact spec_ReverseBeads.mono _ _ | exact spec_SortedBeads.mono _ _ | exact LeO.refl _ | exact LeO.none _ | refine LeO.ite ?_ ?_ | refine LeO.bind ?_ (fun _ => ?_)
   | exact LeO.none _ | refine LeO.ite ?_ ?_ | refine LeO.bind ?_ (fun _ => ?_)
  ·intro y0 y1 y2 y3 y4
   unfold laws_FnNecklacesShared.j8
   repeat' first
   | with_reducible first | exact ih0 _ _ _ _ _ _ _ _ _ | exact ih1 _ _ _ _ _ _ | exact ih2 _ | exact ih3 _ _ _ _ _ _ | exact ih4 _ | exact ih5 _ _ _ _ _ | exact ih6 _ | exact ih7 _ _ _ _ | exact ih8 _ _ _ _ | exact ih9 _ _ _ _ | exact ih10 _ _ _ _ _ _ _ _ _ _ _ | exact impl_CountSplits.mono _ _ _ | exact impl_CountsOfBeads.mono _ _ | exact impl_FewestCuts.mono _ _ | exact impl_FirstSplit.mono _ _ | exact impl_IsFairSplit.mono _ _ _ | exact impl_KindsOfBeads.mono _ _ | exact impl_SortedBeads.mono _ _ | exact laws_zSame.mono _ _ _ | exact laws_zSum.mono _ _ | exact spec_CountSplits.mono _ _ _ | exact spec_CountsOfBeads.mono _ _ | exact spec_DrawCountSplits.mono _ _ | exact spec_DrawFirstSplit.mono _ _ | exact spec_DrawRenameBeads.mono _ _ | exact spec_DrawReverseBeads.mono _ _ | exact spec_FewestCuts.mono _ _ | exact spec_FirstSplit.mono _ _ | exact spec_IsNecklace.mono _ _ | exact spec_KindsOfBeads.mono _ _ | exact spec_RenameBeads.mono _ _ _ | exact spec_ReverseBeads.mono _ _ | exact spec_SortedBeads.mono _ _ | exact LeO.refl _ | exact LeO.none _ | refine LeO.ite ?_ ?_ | refine LeO.bind ?_ (fun _ => ?_)
   | exact LeO.none _ | refine LeO.ite ?_ ?_ | refine LeO.bind ?_ (fun _ => ?_)
  ·intro y0
   unfold laws_FnNecklacesShared.j9
   repeat' first
   | with_reducible first | exact ih0 _ _ _ _ _ _ _ _ _ | exact ih1 _ _ _ _ _ _ | exact ih2 _ | exact ih3 _ _ _ _ _ _ | exact ih4 _ | exact ih5 _ _ _ _ _ | exact ih6 _ | exact ih7 _ _ _ _ | exact ih8 _ _ _ _ | exact ih9 _ _ _ _ | exact ih10 _ _ _ _ _ _ _ _ _ _ _ | exact impl_CountSplits.mono _ _ _ | exact impl_CountsOfBeads.mono _ _ | exact impl_FewestCuts.mono _ _ | exact impl_FirstSplit.mono _ _ | exact impl_IsFairSplit.mono _ _ _ | exact impl_KindsOfBeads.mono _ _ | exact impl_SortedBeads.mono _ _ | exact laws_zSame.mono _ _ _ | exact laws_zSum.mono _ _ | exact spec_CountSplits.mono _ _ _ | exact spec_CountsOfBeads.mono _ _ | exact spec_DrawCountSplits.mono _ _ | exact spec_DrawFirstSplit.mono _ _ | exact spec_DrawRenameBeads.mono _ _ | exact spec_DrawReverseBeads.mono _ _ | exact spec_FewestCuts.mono _ _ | exact spec_FirstSplit.mono _ _ | exact spec_IsNecklace.mono _ _ | exact spec_KindsOfBeads.mono _ _ | exact spec_RenameBeads.mono _ _ _ | exact spec_ReverseBeads.mono _ _ | exact spec_SortedBeads.mono _ _ | exact LeO.refl _ | exact LeO.none _ | refine LeO.ite ?_ ?_ | refine LeO.bind ?_ (fun _ => ?_)
   | exact LeO.none _ | refine LeO.ite ?_ ?_ | refine LeO.bind ?_ (fun _ => ?_)
  ·intro y0 y1 y2 y3
   unfold laws_FnNecklacesShared.j10
   repeat' first
   | with_reducible first | exact ih0 _ _ _ _ _ _ _ _ _ | exact ih1 _ _ _ _ _ _ | exact ih2 _ | exact ih3 _ _ _ _ _ _ | exact ih4 _ | exact ih5 _ _ _ _ _ | exact ih6 _ | exact ih7 _ _ _ _ | exact ih8 _ _ _ _ | exact ih9 _ _ _ _ | exact ih10 _ _ _ _ _ _ _ _ _ _ _ | exact impl_CountSplits.mono _ _ _ | exact impl_CountsOfBeads.mono _ _ | exact impl_FewestCuts.mono _ _ | exact impl_FirstSplit.mono _ _ | exact impl_IsFairSplit.mono _ _ _ | exact impl_KindsOfBeads.mono _ _ | exact impl_SortedBeads.mono _ _ | exact laws_zSame.mono _ _ _ | exact laws_zSum.mono _ _ | exact spec_CountSplits.mono _ _ _ | exact spec_CountsOfBeads.mono _ _ | exact spec_DrawCountSplits.mono _ _ | exact spec_DrawFirstSplit.mono _ _ | exact spec_DrawRenameBeads.mono _ _ | exact spec_DrawReverseBeads.mono _ _ | exact spec_FewestCuts.mono _ _ | exact spec_FirstSplit.mono _ _ | exact spec_IsNecklace.mono _ _ | exact spec_KindsOfBeads.mono _ _ | exact spec_RenameBeads.mono _ _ _ | exact spec_ReverseBeads.mono _ _ | exact spec_SortedBeads.mono _ _ | exact LeO.refl _ | exact LeO.none _ | refine LeO.ite ?_ ?_ | refine LeO.bind ?_ (fun _ => ?_)
   | exact LeO.none _ | refine LeO.ite ?_ ?_ | refine LeO.bind ?_ (fun _ => ?_)
  ·intro y0 y1 y2 y3
   unfold laws_FnNecklacesShared.j3
   repeat' first
   | with_reducible first | exact ih0 _ _ _ _ _ _ _ _ _ | exact ih1 _ _ _ _ _ _ | exact ih2 _ | exact ih3 _ _ _ _ _ _ | exact ih4 _ | exact ih5 _ _ _ _ _ | exact ih6 _ | exact ih7 _ _ _ _ | exact ih8 _ _ _ _ | exact ih9 _ _ _ _ | exact ih10 _ _ _ _ _ _ _ _ _ _ _ | exact impl_CountSplits.mono _ _ _ | exact impl_CountsOfBeads.mono _ _ | exact impl_FewestCuts.mono _ _ | exact impl_FirstSplit.mono _ _ | exact impl_IsFairSplit.mono _ _ _ | exact impl_KindsOfBeads.mono _ _ | exact impl_SortedBeads.mono _ _ | exact laws_zSame.mono _ _ _ | exact laws_zSum.mono _ _ | exact spec_CountSplits.mono _ _ _ | exact spec_CountsOfBeads.mono _ _ | exact spec_DrawCountSplits.mono _ _ | exact spec_DrawFirstSplit.mono _ _ | exact spec_DrawRenameBeads.mono _ _ | exact spec_DrawReverseBeads.mono _ _ | exact spec_FewestCuts.mono _ _ | exact spec_FirstSplit.mono _ _ | exact spec_IsNecklace.mono _ _ | exact spec_KindsOfBeads.mono _ _ | exact spec_RenameBeads.mono _ _ _ | exact spec_ReverseBeads.mono _ _ | exact spec_SortedBeads.mono _ _ | exact LeO.refl _ | exact LeO.none _ | refine LeO.ite ?_ ?_ | refine LeO.bind ?_ (fun _ => ?_)
   | exact LeO.none _ | refine LeO.ite ?_ ?_ | refine LeO.bind ?_ (fun _ => ?_)
  ·intro y0 y1 y2 y3
   unfold laws_FnNecklacesShared.l1
   repeat' first
   | with_reducible first | exact ih0 _ _ _ _ _ _ _ _ _ | exact ih1 _ _ _ _ _ _ | exact ih2 _ | exact ih3 _ _ _ _ _ _ | exact ih4 _ | exact ih5 _ _ _ _ _ | exact ih6 _ | exact ih7 _ _ _ _ | exact ih8 _ _ _ _ | exact ih9 _ _ _ _ | exact ih10 _ _ _ _ _ _ _ _ _ _ _ | exact impl_CountSplits.mono _ _ _ | exact impl_CountsOfBeads.mono _ _ | exact impl_FewestCuts.mono _ _ | exact impl_FirstSplit.mono _ _ | exact impl_IsFairSplit.mono _ _ _ | exact impl_KindsOfBeads.mono _ _ | exact impl_SortedBeads.mono _ _ | exact laws_zSame.mono _ _ _ | exact laws_zSum.mono _ _ | exact spec_CountSplits.mono _ _ _ | exact spec_CountsOfBeads.mono _ _ | exact spec_DrawCountSplits.mono _ _ | exact spec_DrawFirstSplit.mono _ _ | exact spec_DrawRenameBeads.mono _ _ | exact spec_DrawReverseBeads.mono _ _ | exact spec_FewestCuts.mono _ _ | exact spec_FirstSplit.mono _ _ | exact spec_IsNecklace.mono _ _ | exact spec_KindsOfBeads.mono _ _ | exact spec_RenameBeads.mono _ _ _ | exact spec_ReverseBeads.mono _ _ | exact spec_SortedBeads.mono _ _ | exact LeO.refl _ | exact LeO.none _ | refine LeO.ite ?_ ?_ | refine LeO.bind ?_ (fun _ => ?_)
   | exact LeO.none _ | refine LeO.ite ?_ ?_ | refine LeO.bind ?_ (fun _ => ?_)
  ·intro y0 y1 y2 y3 y4 y5 y6 y7 y8 y9 y10
   unfold laws_FnNecklacesShared.l0
   repeat' first
   | with_reducible first | exact ih0 _ _ _ _ _ _ _ _ _ | exact ih1 _ _ _ _ _ _ | exact ih2 _ | exact ih3 _ _ _ _ _ _ | exact ih4 _ | exact ih5 _ _ _ _ _ | exact ih6 _ | exact ih7 _ _ _ _ | exact ih8 _ _ _ _ | exact ih9 _ _ _ _ | exact ih10 _ _ _ _ _ _ _ _ _ _ _ | exact impl_CountSplits.mono _ _ _ | exact impl_CountsOfBeads.mono _ _ | exact impl_FewestCuts.mono _ _ | exact impl_FirstSplit.mono _ _ | exact impl_IsFairSplit.mono _ _ _ | exact impl_KindsOfBeads.mono _ _ | exact impl_SortedBeads.mono _ _ | exact laws_zSame.mono _ _ _ | exact laws_zSum.mono _ _ | exact spec_CountSplits.mono _ _ _ | exact spec_CountsOfBeads.mono _ _ | exact spec_DrawCountSplits.mono _ _ | exact spec_DrawFirstSplit.mono _ _ | exact spec_DrawRenameBeads.mono _ _ | exact spec_DrawReverseBeads.mono _ _ | exact spec_FewestCuts.mono _ _ | exact spec_FirstSplit.mono _ _ | exact spec_IsNecklace.mono _ _ | exact spec_KindsOfBeads.mono _ _ | exact spec_RenameBeads.mono _ _ _ | exact spec_ReverseBeads.mono _ _ | exact spec_SortedBeads.mono _ _ | exact LeO.refl _ | exact LeO.none _ | refine LeO.ite ?_ ?_ | refine LeO.bind ?_ (fun _ => ?_)
   | exact LeO.none _ | refine LeO.ite ?_ ?_ | refine LeO.bind ?_ (fun _ => ?_)
theorem laws_FnNecklacesShared.mono : ∀ a0 a1 k, LeO (laws_FnNecklacesShared.f k a0 a1) (laws_FnNecklacesShared.f (k + 1) a0 a1) := by
 intro a0 a1 k
 obtain ⟨ih0, ih1, ih2, ih3, ih4, ih5, ih6, ih7, ih8, ih9, ih10⟩ := laws_FnNecklacesShared.mono_l k
 unfold laws_FnNecklacesShared.f
 repeat' first
   | with_reducible first | exact ih0 _ _ _ _ _ _ _ _ _ | exact ih1 _ _ _ _ _ _ | exact ih2 _ | exact ih3 _ _ _ _ _ _ | exact ih4 _ | exact ih5 _ _ _ _ _ | exact ih6 _ | exact ih7 _ _ _ _ | exact ih8 _ _ _ _ | exact ih9 _ _ _ _ | exact ih10 _ _ _ _ _ _ _ _ _ _ _ | exact impl_CountSplits.mono _ _ _ | exact impl_CountsOfBeads.mono _ _ | exact impl_FewestCuts.mono _ _ | exact impl_FirstSplit.mono _ _ | exact impl_IsFairSplit.mono _ _ _ | exact impl_KindsOfBeads.mono _ _ | exact impl_SortedBeads.mono _ _ | exact laws_zSame.mono _ _ _ | exact laws_zSum.mono _ _ | exact spec_CountSplits.mono _ _ _ | exact spec_CountsOfBeads.mono _ _ | exact spec_DrawCountSplits.mono _ _ | exact spec_DrawFirstSplit.mono _ _ | exact spec_DrawRenameBeads.mono _ _ | exact spec_DrawReverseBeads.mono _ _ | exact spec_FewestCuts.mono _ _ | exact spec_FirstSplit.mono _ _ | exact spec_IsNecklace.mono _ _ | exact spec_KindsOfBeads.mono _ _ | exact spec_RenameBeads.mono _ _ _ | exact spec_ReverseBeads.mono _ _ | exact spec_SortedBeads.mono _ _ | exact LeO.refl _ | exact LeO.none _ | refine LeO.ite ?_ ?_ | refine LeO.bind ?_ (fun _ => ?_)
   | exact LeO.none _ | refine LeO.ite ?_ ?_ | refine LeO.bind ?_ (fun _ => ?_)
theorem laws_FnNecklacesShared.calls (k : Nat) (A0 : Option Addr) (c0 : Nat) (l0 : List Int) (A1 : Option Addr) (c1 : Nat) (l1 : List Int) (r : Bool) (w : World) (hr0 : Kd.C (Kd.int .u8) w A0 l0.length l0) (hc0 : l0.length ≤ c0) (hr1 : Kd.C (Kd.int .u8) w A1 l1.length l1) (hc1 : l1.length ≤ c1) (h : laws_FnNecklacesShared.f k l0 l1 = some r) :
  Calls Tryz.prog 3 #[.slice A0 l0.length c0, .slice A1 l1.length c1] w fun e w' => e = .returned (.bool r) ∧ Below w.heap.size w w' := by
 have HR0 := Aside0.mk hr0
 have HC0 := Aside0.mk hc0
 clear hr0 hc0
 have HR1 := Aside0.mk hr1
 have HC1 := Aside0.mk hc1
 clear hr1 hc1
 have HB := Aside0.mk (Below.refl w.heap.size w)
 have H : ((laws_big.f l0 l1).bind fun t408 => (if t408 = true then (some true) else ((spec_DrawFirstSplit.f k l0).bind fun t409 => ((impl_FirstSplit.f k t409).bind fun bt410 => ((spec_FirstSplit.f k t409).bind fun bt414 => ((impl_FewestCuts.f k t409).bind fun bt418 => ((spec_FewestCuts.f k t409).bind fun bt420 => ((impl_CountsOfBeads.f k t409).bind fun bt422 => ((spec_CountsOfBeads.f k t409).bind fun bt426 => ((impl_KindsOfBeads.f k t409).bind fun bt430 => ((spec_KindsOfBeads.f k t409).bind fun bt432 => (if (bt410.2 != bt414.2) = true then (none) else ((laws_zSame.f k bt410.1 bt414.1).bind fun t434 => (if t434 = true then (if (bt418.2 != bt420.2) = true then (none) else (if bt418.1 = bt420.1 then (if (bt422.2 != bt426.2) = true then (none) else ((laws_zSame.f k bt422.1 bt426.1).bind fun t435 => (if t435 = true then (if (bt430.2 != bt432.2) = true then (none) else (if bt430.1 = bt432.1 then (if (bt418.2 != bt410.2) = true then (none) else ((impl_IsNecklace.f t409).bind fun t436 => (if (bt422.2 != t436) = true then (none) else ((spec_IsNecklace.f k t409).bind fun t437 => (if (bt422.2 != t437) = true then (none) else (laws_FnNecklacesShared.j0 k l1 t409 bt410.1 bt410.2 bt418.1 bt422.1 bt422.2 bt430.1 (bt430.2 != bt422.2))))))) else (none))) else (none)))) else (none))) else (none))))))))))))))) = some r := h
 clear h
 replace H := EA H
 obtain ⟨t408, A3, H⟩ := H
 by_cases c4 : t408 = true
 ·subst c4
  replace H := IP H
  obtain rfl := Option.some.inj H
  go_enter Tryz.func3, Tryz.ntmps3
  go_wp2_with (first | ((with_reducible refine gate_callee (f := 4) rfl ?_); refine goesL_ (some 76) rfl rfl Tryz.func4 (by kernel_rfl) rfl #[.slice A0 l0.length c0, .slice A1 l1.length c1] rfl TA ?_; (with_reducible refine (laws_big.calls _ _ l0 _ _ l1 true _ ?side1 ?side2 ?side3 ?side4 A3.out).mono ?_); (case side1 => exact CW HR0.out); (case side2 => exact HC0.out); (case side3 => exact CW HR1.out); (case side4 => exact HC1.out); rintro e w' ⟨rfl, ⟨nd, rfl⟩⟩; refine ⟨_, rfl, ?_⟩))
  go_ret
  exact ⟨RE, BB⟩
 ·replace c4 := Bool.eq_false_iff.mpr c4
  subst c4
  replace H := IN H
  replace H := EA H
  obtain ⟨t409, A5, H⟩ := H
  replace H := EA H
  obtain ⟨⟨t410, t411⟩, A6, H⟩ := H
  try dsimp only at H
  replace H := EA H
  obtain ⟨⟨t414, t415⟩, A7, H⟩ := H
  try dsimp only at H
  replace H := EA H
  obtain ⟨⟨t418, t419⟩, A8, H⟩ := H
  try dsimp only at H
  replace H := EA H
  obtain ⟨⟨t420, t421⟩, A9, H⟩ := H
  try dsimp only at H
  replace H := EA H
  obtain ⟨⟨t422, t423⟩, A10, H⟩ := H
  try dsimp only at H
  replace H := EA H
  obtain ⟨⟨t426, t427⟩, A11, H⟩ := H
  try dsimp only at H
  replace H := EA H
  obtain ⟨⟨t430, t431⟩, A12, H⟩ := H
  try dsimp only at H
  replace H := EA H
  obtain ⟨⟨t432, t433⟩, A13, H⟩ := H
  try dsimp only at H
  have HC14 := Aside0.mk H
  clear H
  go_enter Tryz.func3, Tryz.ntmps3
  go_upto_region 12 with (first | ((with_reducible refine gate_callee (f := 4) rfl ?_); refine goesL_ (some 76) rfl rfl Tryz.func4 (by kernel_rfl) rfl #[.slice A0 l0.length c0, .slice A1 l1.length c1] rfl TA ?_; (with_reducible refine (laws_big.calls _ _ l0 _ _ l1 false _ ?side1 ?side2 ?side3 ?side4 A3.out).mono ?_); (case side1 => exact CW HR0.out); (case side2 => exact HC0.out); (case side3 => exact CW HR1.out); (case side4 => exact HC1.out); rintro e w' ⟨rfl, ⟨nd, rfl⟩⟩; refine ⟨_, rfl, ?_⟩) | ((with_reducible refine gate_callee (f := 5) rfl ?_); refine goesL_ (some 78) rfl rfl Tryz.func5 (by kernel_rfl) rfl #[.slice A0 l0.length c0] rfl TA ?_; (with_reducible refine (spec_DrawFirstSplit.calls k _ _ l0 t409 _ ?side1 ?side2 A5.out).mono ?_); (case side1 => exact CW HR0.out); (case side2 => exact HC0.out); rintro e w15 ⟨rfl, hb⟩; refine ⟨_, rfl, ?_⟩; have n0_ := Aside0.mk (below_step BB hb); clear HB; have HB := n0_; clear n0_; (try clear hb); (try clear hb2); (try clear hk); (try clear hi)) | ((with_reducible refine gate_callee (f := 6) rfl ?_); refine goesL_ (some 81) rfl rfl Tryz.func6 (by kernel_rfl) rfl #[.string t409] rfl TA ?_; (with_reducible refine (impl_FirstSplit.calls k t409 t410 t411 _ A6.out).mono ?_); rintro e w16 ⟨v412, rfl, ho0, hb⟩; refine ⟨_, rfl, ?_⟩; have n0_ := Aside0.mk (Kd.R_lower ho0 (below_size BB)); have n1_ := Aside0.mk (below_step BB hb); clear HB; have HO413 := n0_; have HB := n1_; clear n0_ n1_; (try clear hb); (try clear hb2); (try clear hk); (try clear hi); (try clear ho0)) | ((with_reducible refine gate_callee (f := 7) rfl ?_); refine goesL_ (some 86) rfl rfl Tryz.func7 (by kernel_rfl) rfl #[.string t409] rfl TA ?_; (with_reducible refine (spec_FirstSplit.calls k t409 t414 t415 _ A7.out).mono ?_); rintro e w17 ⟨v416, rfl, ho0, hb⟩; refine ⟨_, rfl, ?_⟩; have n0_ := Aside0.mk (Kd.R_elder' (KR HO413) (Kd.R_base ho0) hb); have n1_ := Aside0.mk (Kd.R_lower (Kd.R_new' ho0 (Kd.R_lt (KR HO413))) (below_size BB)); have n2_ := Aside0.mk (below_step BB hb); clear HO413; clear HB; have HO413 := n0_; have HO417 := n1_; have HB := n2_; clear n0_ n1_ n2_; (try clear hb); (try clear hb2); (try clear hk); (try clear hi); (try clear ho0)) | ((with_reducible refine gate_callee (f := 8) rfl ?_); refine goesL_ (some 91) rfl rfl Tryz.func8 (by kernel_rfl) rfl #[.string t409] rfl TA ?_; (with_reducible refine (impl_FewestCuts.calls k t409 t418 t419 _ A8.out).mono ?_); rintro e w18 ⟨rfl, hb⟩; refine ⟨_, rfl, ?_⟩; have n0_ := Aside0.mk (Kd.R_below (KR HO413) hb); have n1_ := Aside0.mk (Kd.R_below (KR HO417) hb); have n2_ := Aside0.mk (below_step BB hb); clear HO413; clear HO417; clear HB; have HO413 := n0_; have HO417 := n1_; have HB := n2_; clear n0_ n1_ n2_; (try clear hb); (try clear hb2); (try clear hk); (try clear hi)) | ((with_reducible refine gate_callee (f := 9) rfl ?_); refine goesL_ (some 96) rfl rfl Tryz.func9 (by kernel_rfl) rfl #[.string t409] rfl TA ?_; (with_reducible refine (spec_FewestCuts.calls k t409 t420 t421 _ A9.out).mono ?_); rintro e w19 ⟨rfl, hb⟩; refine ⟨_, rfl, ?_⟩; have n0_ := Aside0.mk (Kd.R_below (KR HO413) hb); have n1_ := Aside0.mk (Kd.R_below (KR HO417) hb); have n2_ := Aside0.mk (below_step BB hb); clear HO413; clear HO417; clear HB; have HO413 := n0_; have HO417 := n1_; have HB := n2_; clear n0_ n1_ n2_; (try clear hb); (try clear hb2); (try clear hk); (try clear hi)) | ((with_reducible refine gate_callee (f := 10) rfl ?_); refine goesL_ (some 101) rfl rfl Tryz.func10 (by kernel_rfl) rfl #[.string t409] rfl TA ?_; (with_reducible refine (impl_CountsOfBeads.calls k t409 t422 t423 _ A10.out).mono ?_); rintro e w20 ⟨v424, rfl, ho0, hb⟩; refine ⟨_, rfl, ?_⟩; have n0_ := Aside0.mk (Kd.R_elder' (KR HO413) (Kd.R_base ho0) hb); have n1_ := Aside0.mk (Kd.R_elder' (KR HO417) (Kd.R_base ho0) hb); have n2_ := Aside0.mk (Kd.R_lower (Kd.R_new' (Kd.R_new' ho0 (Kd.R_lt (KR HO413))) (Kd.R_lt (KR HO417))) (below_size BB)); have n3_ := Aside0.mk (below_step BB hb); clear HO413; clear HO417; clear HB; have HO413 := n0_; have HO417 := n1_; have HO425 := n2_; have HB := n3_; clear n0_ n1_ n2_ n3_; (try clear hb); (try clear hb2); (try clear hk); (try clear hi); (try clear ho0)) | ((with_reducible refine gate_callee (f := 11) rfl ?_); refine goesL_ (some 106) rfl rfl Tryz.func11 (by kernel_rfl) rfl #[.string t409] rfl TA ?_; (with_reducible refine (spec_CountsOfBeads.calls k t409 t426 t427 _ A11.out).mono ?_); rintro e w21 ⟨v428, rfl, ho0, hb⟩; refine ⟨_, rfl, ?_⟩; have n0_ := Aside0.mk (Kd.R_elder' (KR HO413) (Kd.R_base ho0) hb); have n1_ := Aside0.mk (Kd.R_elder' (KR HO417) (Kd.R_base ho0) hb); have n2_ := Aside0.mk (Kd.R_elder' (KR HO425) (Kd.R_base ho0) hb); have n3_ := Aside0.mk (Kd.R_lower (Kd.R_new' (Kd.R_new' (Kd.R_new' ho0 (Kd.R_lt (KR HO413))) (Kd.R_lt (KR HO417))) (Kd.R_lt (KR HO425))) (below_size BB)); have n4_ := Aside0.mk (below_step BB hb); clear HO413; clear HO417; clear HO425; clear HB; have HO413 := n0_; have HO417 := n1_; have HO425 := n2_; have HO429 := n3_; have HB := n4_; clear n0_ n1_ n2_ n3_ n4_; (try clear hb); (try clear hb2); (try clear hk); (try clear hi); (try clear ho0)) | ((with_reducible refine gate_callee (f := 12) rfl ?_); refine goesL_ (some 111) rfl rfl Tryz.func12 (by kernel_rfl) rfl #[.string t409] rfl TA ?_; (with_reducible refine (impl_KindsOfBeads.calls k t409 t430 t431 _ A12.out).mono ?_); rintro e w22 ⟨rfl, hb⟩; refine ⟨_, rfl, ?_⟩; have n0_ := Aside0.mk (Kd.R_below (KR HO413) hb); have n1_ := Aside0.mk (Kd.R_below (KR HO417) hb); have n2_ := Aside0.mk (Kd.R_below (KR HO425) hb); have n3_ := Aside0.mk (Kd.R_below (KR HO429) hb); have n4_ := Aside0.mk (below_step BB hb); clear HO413; clear HO417; clear HO425; clear HO429; clear HB; have HO413 := n0_; have HO417 := n1_; have HO425 := n2_; have HO429 := n3_; have HB := n4_; clear n0_ n1_ n2_ n3_ n4_; (try clear hb); (try clear hb2); (try clear hk); (try clear hi)) | ((with_reducible refine gate_callee (f := 13) rfl ?_); refine goesL_ (some 116) rfl rfl Tryz.func13 (by kernel_rfl) rfl #[.string t409] rfl TA ?_; (with_reducible refine (spec_KindsOfBeads.calls k t409 t432 t433 _ A13.out).mono ?_); rintro e w23 ⟨rfl, hb⟩; refine ⟨_, rfl, ?_⟩; have n0_ := Aside0.mk (Kd.R_below (KR HO413) hb); have n1_ := Aside0.mk (Kd.R_below (KR HO417) hb); have n2_ := Aside0.mk (Kd.R_below (KR HO425) hb); have n3_ := Aside0.mk (Kd.R_below (KR HO429) hb); have n4_ := Aside0.mk (below_step BB hb); clear HO413; clear HO417; clear HO425; clear HO429; clear HB; have HO413 := n0_; have HO417 := n1_; have HO425 := n2_; have HO429 := n3_; have HB := n4_; clear n0_ n1_ n2_ n3_ n4_; (try clear hb); (try clear hb2); (try clear hk); (try clear hi)))
  (try simp only [Act.put, List.setIfInBounds_toArray, List.set_cons_zero, List.set_cons_succ])
  go_cut [180] from 74 to 180 (fun v180 wc => ∃ (kq : Nat) (x180_13 : Bool), v180 = .bool x180_13 ∧ Aside0 (laws_FnNecklacesShared.j0 kq l1 t409 t410 t411 t418 t422 t423 t430 x180_13 = some r) ∧ Aside0 (kq ≤ k) ∧ Aside0 (Kd.R (Kd.int .i64) 3 wc w.heap.size (fun k_ => some k_ ≠ (v424 : Value).ownBlock) v412 t410) ∧ Aside0 (Kd.R (Kd.int .i64) 3 wc w.heap.size (fun k_ => some k_ ≠ (v412 : Value).ownBlock) v424 t422) ∧ Aside0 (Below w.heap.size w wc))
  case first => as_aux_lemma =>
   have H := HC14.out
   clear HC14
   by_cases c24 : (t411 != t415) = true
   ·rw [if_pos c24] at H
    cases H
   ·rw [if_neg c24] at H
    have c24b0 : (t411 != t415) = false := by simpa using c24
    (try (have c24b1 : decide (t411 = t415) = true := by simpa using c24))
    (try (have c24b2 : (t411 == t415) = true := by simpa using c24))
    clear c24
    (first | rw [c24b0] | (simp only [i64_w, i32_w]; rw [c24b0]) | skip)
    replace H := EA H
    obtain ⟨t434, A25, H⟩ := H
    by_cases c26 : t434 = true
    ·subst c26
     replace H := IP H
     by_cases c27 : (t419 != t421) = true
     ·rw [if_pos c27] at H
      cases H
     ·rw [if_neg c27] at H
      have c27b0 : (t419 != t421) = false := by simpa using c27
      (try (have c27b1 : decide (t419 = t421) = true := by simpa using c27))
      (try (have c27b2 : (t419 == t421) = true := by simpa using c27))
      clear c27
      by_cases c28 : t418 = t420
      ·rw [if_pos c28] at H
       have c28b0 : (t418 == t420) = true := beq_iff_eq.mpr c28
       have c28b1 : (t418 != t420) = false := bne_eq_false_iff_eq.mpr c28
       clear c28
       by_cases c29 : (t423 != t427) = true
       ·rw [if_pos c29] at H
        cases H
       ·rw [if_neg c29] at H
        have c29b0 : (t423 != t427) = false := by simpa using c29
        (try (have c29b1 : decide (t423 = t427) = true := by simpa using c29))
        (try (have c29b2 : (t423 == t427) = true := by simpa using c29))
        clear c29
        replace H := EA H
        obtain ⟨t435, A30, H⟩ := H
        by_cases c31 : t435 = true
        ·subst c31
         replace H := IP H
         by_cases c32 : (t431 != t433) = true
         ·rw [if_pos c32] at H
          cases H
         ·rw [if_neg c32] at H
          have c32b0 : (t431 != t433) = false := by simpa using c32
          (try (have c32b1 : decide (t431 = t433) = true := by simpa using c32))
          (try (have c32b2 : (t431 == t433) = true := by simpa using c32))
          clear c32
          by_cases c33 : t430 = t432
          ·rw [if_pos c33] at H
           have c33b0 : (t430 == t432) = true := beq_iff_eq.mpr c33
           have c33b1 : (t430 != t432) = false := bne_eq_false_iff_eq.mpr c33
           clear c33
           by_cases c34 : (t419 != t411) = true
           ·rw [if_pos c34] at H
            cases H
           ·rw [if_neg c34] at H
            have c34b0 : (t419 != t411) = false := by simpa using c34
            (try (have c34b1 : decide (t419 = t411) = true := by simpa using c34))
            (try (have c34b2 : (t419 == t411) = true := by simpa using c34))
            clear c34
            replace H := EA H
            obtain ⟨t436, A35, H⟩ := H
            by_cases c36 : (t423 != t436) = true
            ·rw [if_pos c36] at H
             cases H
            ·rw [if_neg c36] at H
             have c36b0 : (t423 != t436) = false := by simpa using c36
             (try (have c36b1 : decide (t423 = t436) = true := by simpa using c36))
             (try (have c36b2 : (t423 == t436) = true := by simpa using c36))
             clear c36
             replace H := EA H
             obtain ⟨t437, A37, H⟩ := H
             by_cases c38 : (t423 != t437) = true
             ·rw [if_pos c38] at H
              cases H
             ·rw [if_neg c38] at H
              have c38b0 : (t423 != t437) = false := by simpa using c38
              (try (have c38b1 : decide (t423 = t437) = true := by simpa using c38))
              (try (have c38b2 : (t423 == t437) = true := by simpa using c38))
              clear c38
              have H' := Aside0.mk H
              clear H
              obtain ⟨Ao39, co39, eo39⟩ := Kd.R_slice HO413.out
              subst eo39
              obtain ⟨Ao40, co40, eo40⟩ := Kd.R_slice HO417.out
              subst eo40
              go_wp2_with (first | (go_at_call 14; (with_reducible refine (laws_zSame.calls k _ _ t410 _ _ t414 true _ ?side1 ?side2 ?side3 ?side4 A25.out).mono ?_); (case side1 => exact CW (Kd.R_reads' HO413.out).2.2); (case side2 => exact (Kd.R_reads' HO413.out).2.1); (case side3 => exact CW (Kd.R_reads' HO417.out).2.2); (case side4 => exact (Kd.R_reads' HO417.out).2.1); rintro e w' ⟨rfl, ⟨nd, rfl⟩⟩; obtain ⟨Ao41, co41, eo41⟩ := Kd.R_slice HO425.out; subst eo41; obtain ⟨Ao42, co42, eo42⟩ := Kd.R_slice HO429.out; subst eo42) | (go_at_call 14; (with_reducible refine (laws_zSame.calls k _ _ t422 _ _ t426 true _ ?side1 ?side2 ?side3 ?side4 A30.out).mono ?_); (case side1 => exact CW (Kd.R_reads' HO425.out).2.2); (case side2 => exact (Kd.R_reads' HO425.out).2.1); (case side3 => exact CW (Kd.R_reads' HO429.out).2.2); (case side4 => exact (Kd.R_reads' HO429.out).2.1); rintro e w' ⟨rfl, ⟨nd, rfl⟩⟩) | (go_at_call 15; (with_reducible refine (impl_IsNecklace.calls t409 t436 _ A35.out).mono ?_); rintro e w43 ⟨rfl, hb⟩; have n0_ := Aside0.mk (Kd.R_below (KR HO413) hb); have n1_ := Aside0.mk (Kd.R_below (KR HO417) hb); have n2_ := Aside0.mk (Kd.R_below (KR HO425) hb); have n3_ := Aside0.mk (Kd.R_below (KR HO429) hb); have n4_ := Aside0.mk (below_step BB hb); clear HO413; clear HO417; clear HO425; clear HO429; clear HB; have HO413 := n0_; have HO417 := n1_; have HO425 := n2_; have HO429 := n3_; have HB := n4_; clear n0_ n1_ n2_ n3_ n4_; (try clear hb); (try clear hb2); (try clear hk); (try clear hi)) | (go_at_call 16; (with_reducible refine (spec_IsNecklace.calls k t409 t437 _ A37.out).mono ?_); rintro e w' ⟨rfl, ⟨nd, rfl⟩⟩))
              go_meet
              case rel => exact ⟨_, ((t431 != t423)), RF, H', ⟨by first | omega | exact Nat.le_refl _⟩, ⟨by (with_reducible repeat (first | apply Kd.R_alloc | apply Kd.R_drewN | apply Kd.R_drew)); exact Kd.R_mono HO413.out (fun _ hk => hk.1.2)⟩, ⟨by (with_reducible repeat (first | apply Kd.R_alloc | apply Kd.R_drewN | apply Kd.R_drew)); exact Kd.R_mono HO425.out (fun _ hk => hk.1.1.2)⟩, ⟨BB⟩⟩
          ·rw [if_neg c33] at H
           cases H
        ·replace c31 := Bool.eq_false_iff.mpr c31
         subst c31
         replace H := IN H
         cases H
      ·rw [if_neg c28] at H
       cases H
    ·replace c26 := Bool.eq_false_iff.mpr c26
     subst c26
     replace H := IN H
     cases H
  case rest => as_aux_lemma =>
   clear HC14
   try clear c1
   try clear c2
   try clear p2
   try clear c3
   try clear c4
   try clear c5
   try clear c6
   try clear p6
   try clear c7
   try clear c8
   try clear c9
   try clear c10
   try clear c11
   try clear c12
   try clear c13
   try clear c24
   try clear c24b0
   try clear c24b1
   try clear c24b2
   try clear c26
   try clear c27
   try clear c27b0
   try clear c27b1
   try clear c27b2
   try clear c28
   try clear c28b0
   try clear c28b1
   try clear c29
   try clear c29b0
   try clear c29b1
   try clear c29b2
   try clear c31
   try clear c32
   try clear c32b0
   try clear c32b1
   try clear c32b2
   try clear c33
   try clear c33b0
   try clear c33b1
   try clear c34
   try clear c34b0
   try clear c34b1
   try clear c34b2
   try clear c36
   try clear c36b0
   try clear c36b1
   try clear c36b2
   try clear c38
   try clear c38b0
   try clear c38b1
   try clear c38b2
   obtain ⟨kq, x180_13, rfl, HA, HJ13, HO_6, HO_14, HB⟩ := hcut
   cases kq with
   | zero => exact absurd HA.out (by simp [laws_FnNecklacesShared.j0])
   | succ kj13 =>
    have H := HA.out
    clear HA
    simp only [laws_FnNecklacesShared.j0] at H
    by_cases c44 : x180_13 = true
    ·subst c44
     replace H := IP H
     cases H
    ·replace c44 := Bool.eq_false_iff.mpr c44
     subst c44
     replace H := IN H
     have HC45 := Aside0.mk H
     clear H
     go_upto_if 181 with (fail)
     go_cut [] from 181 to 181 (fun wc => ∃ (kq : Nat), Aside0 (laws_FnNecklacesShared.j2 kq l1 t409 t410 t411 t418 t430 = some r) ∧ Aside0 (kq ≤ kj13) ∧ Aside0 (Kd.R (Kd.int .i64) 3 wc w.heap.size (fun _ => True) v412 t410) ∧ Aside0 (Below w.heap.size w wc))
     case first => as_aux_lemma =>
      have H := HC45.out
      clear HC45
      by_cases c46 : t423 = true
      ·subst c46
       replace H := IP H
       have H' := Aside0.mk H
       clear H
       obtain ⟨Ao47, co47, eo47⟩ := Kd.R_slice HO_14.out
       subst eo47
       go_wp2
       go_loopg [22, 184] kj13 (fun kq v22 v184 w' => ∃ (x22_2 : Bool) (x184_2 : Int), v22 = .bool x22_2 ∧ v184 = .int .i64 x184_2 ∧ Aside0 (laws_FnNecklacesShared.l0 kq l1 t409 t410 t411 t418 t422 t430 x22_2 t422 (t422.length : Int) x184_2 = some r) ∧ Aside0 (kq ≤ kj13) ∧ Aside0 (Kd.R (Kd.int .i64) 3 w' w.heap.size (fun k_ => some k_ ≠ ((.slice Ao47 t422.length co47) : Value).ownBlock ∧ some k_ ≠ ((.slice Ao47 t422.length co47) : Value).ownBlock) v412 t410) ∧ Aside0 (Kd.R (Kd.int .i64) 3 w' w.heap.size (fun k_ => some k_ ≠ (v412 : Value).ownBlock) (.slice Ao47 t422.length co47) t422) ∧ Aside0 (Kd.R (Kd.int .i64) 3 w' w.heap.size (fun k_ => some k_ ≠ (v412 : Value).ownBlock) (.slice Ao47 t422.length co47) t422) ∧ Aside0 (Below w.heap.size w w'))
       case atStart => exact ⟨(true), (0), RF, RF, H', ⟨Nat.le_refl _⟩, ⟨by (with_reducible repeat (first | apply Kd.R_alloc | apply Kd.R_drewN | apply Kd.R_drew)); exact Kd.R_mono HO_6.out (fun _ hk => ⟨hk, hk⟩)⟩, ⟨KR HO_14⟩, ⟨KR HO_14⟩, ⟨BB⟩⟩
       case round => as_aux_lemma =>
        clear H'
        try clear c1
        try clear c2
        try clear p2
        try clear c3
        try clear c4
        try clear c5
        try clear c6
        try clear p6
        try clear c7
        try clear c8
        try clear c9
        try clear c10
        try clear c11
        try clear c12
        try clear c13
        try clear c24
        try clear c24b0
        try clear c24b1
        try clear c24b2
        try clear c26
        try clear c27
        try clear c27b0
        try clear c27b1
        try clear c27b2
        try clear c28
        try clear c28b0
        try clear c28b1
        try clear c29
        try clear c29b0
        try clear c29b1
        try clear c29b2
        try clear c31
        try clear c32
        try clear c32b0
        try clear c32b1
        try clear c32b2
        try clear c33
        try clear c33b0
        try clear c33b1
        try clear c34
        try clear c34b0
        try clear c34b1
        try clear c34b2
        try clear c36
        try clear c36b0
        try clear c36b1
        try clear c36b2
        try clear c38
        try clear c38b0
        try clear c38b1
        try clear c38b2
        try clear c44
        try clear c46
        try clear p2
        try clear p6
        obtain ⟨x22_2, x184_2, rfl, rfl, HA, HK2, HO_6, HO_14, HO_182, HB⟩ := hrel
        cases gk with
        | zero => exact absurd HA.out (by simp [laws_FnNecklacesShared.l0])
        | succ k2 =>
         have H := HA.out
         clear HA
         simp only [laws_FnNecklacesShared.l0] at H
         by_cases c48 : x184_2 < (t422.length : Int)
         ·rw [if_pos c48] at H
          have c48b0 : decide (x184_2 < (t422.length : Int)) = true := decide_eq_true c48
          clear c48
          (first | rw [c48b0] | (simp only [i64_w, i32_w]; rw [c48b0]) | skip)
          by_cases c49 : 0 ≤ x184_2
          ·rw [if_pos c49] at H
           have c49b0 : decide (0 ≤ x184_2) = true := decide_eq_true c49
           clear c49
           by_cases c50 : x184_2 < (t422.length : Int)
           ·rw [if_pos c50] at H
            have c50b0 : decide (x184_2 < (t422.length : Int)) = true := decide_eq_true c50
            clear c50
            by_cases c51 : x22_2 = true
            ·subst c51
             replace H := IP H
             have H' := Aside0.mk H
             clear H
             have p438 : 0 ≤ (x184_2 : Int) := of_decide_eq_true AS
             have q438 : x184_2 < (t422.length : Int) := of_decide_eq_true AS
             obtain ⟨ad438, e438, hx438_0⟩ := Kd.at_int (Kd.R_reads' HO_182.out).2.2 x184_2 p438 q438
             cases e438
             replace p438 := eq_true p438
             replace q438 := eq_true q438
             go_wp2
             go_roundg k2
             case measure => have := HJ13.out; have := HK2.out; omega
             case rel => exact ⟨(((Int.tmod (rd t422 x184_2) 2) == 0)), (wrap64 (x184_2 + 1)), RF, RF, H', ⟨by have := HJ13.out; have := HK2.out; omega⟩, ⟨KR HO_6⟩, ⟨KR HO_14⟩, ⟨KR HO_182⟩, ⟨BB⟩⟩
            ·replace c51 := Bool.eq_false_iff.mpr c51
             subst c51
             replace H := IN H
             have H' := Aside0.mk H
             clear H
             have p438 : 0 ≤ (x184_2 : Int) := of_decide_eq_true AS
             have q438 : x184_2 < (t422.length : Int) := of_decide_eq_true AS
             obtain ⟨ad438, e438, hx438_0⟩ := Kd.at_int (Kd.R_reads' HO_182.out).2.2 x184_2 p438 q438
             cases e438
             replace p438 := eq_true p438
             replace q438 := eq_true q438
             go_wp2
             go_roundg k2
             case measure => have := HJ13.out; have := HK2.out; omega
             case rel => exact ⟨(false), (wrap64 (x184_2 + 1)), RF, RF, H', ⟨by have := HJ13.out; have := HK2.out; omega⟩, ⟨KR HO_6⟩, ⟨KR HO_14⟩, ⟨KR HO_182⟩, ⟨BB⟩⟩
           ·rw [if_neg c50] at H
            cases H
          ·rw [if_neg c49] at H
           cases H
         ·rw [if_neg c48] at H
          have c48b0 : decide (x184_2 < (t422.length : Int)) = false := decide_eq_false c48
          clear c48
          (first | rw [c48b0] | (simp only [i64_w, i32_w]; rw [c48b0]) | skip)
          by_cases c52 : (x22_2 != t411) = true
          ·rw [if_pos c52] at H
           cases H
          ·rw [if_neg c52] at H
           have c52b0 : (x22_2 != t411) = false := by simpa using c52
           (try (have c52b1 : decide (x22_2 = t411) = true := by simpa using c52))
           (try (have c52b2 : (x22_2 == t411) = true := by simpa using c52))
           clear c52
           replace H := EA H
           obtain ⟨t439, A53, H⟩ := H
           by_cases c54 : t439 = (t409.size : Int)
           ·rw [if_pos c54] at H
            have c54b0 : (t439 == (t409.size : Int)) = true := beq_iff_eq.mpr c54
            have c54b1 : (t439 != (t409.size : Int)) = false := bne_eq_false_iff_eq.mpr c54
            clear c54
            have H' := Aside0.mk H
            clear H
            go_wp2_with (first | (go_at_call 17; (with_reducible refine (laws_zSum.calls k2 _ _ t422 t439 _ ?side1 ?side2 A53.out).mono ?_); (case side1 => exact CW (Kd.R_reads' HO_14.out).2.2); (case side2 => exact (Kd.R_reads' HO_14.out).2.1); rintro e w' ⟨rfl, ⟨nd, rfl⟩⟩))
            go_meet
            case rel => exact ⟨_, H', ⟨by have := HJ13.out; have := HK2.out; first | omega | exact Nat.le_refl _⟩, ⟨by (with_reducible repeat (first | apply Kd.R_alloc | apply Kd.R_drewN | apply Kd.R_drew)); exact Kd.R_mono HO_6.out (fun _ hk => trivial)⟩, ⟨BB⟩⟩
           ·rw [if_neg c54] at H
            cases H
      ·replace c46 := Bool.eq_false_iff.mpr c46
       subst c46
       replace H := IN H
       have H' := Aside0.mk H
       clear H
       go_wp2
       go_meet
       case rel => exact ⟨_, H', ⟨by have := HJ13.out; first | omega | exact Nat.le_refl _⟩, ⟨by (with_reducible repeat (first | apply Kd.R_alloc | apply Kd.R_drewN | apply Kd.R_drew)); exact Kd.R_mono HO_6.out (fun _ hk => trivial)⟩, ⟨BB⟩⟩
     case rest => as_aux_lemma =>
      clear HC45
      try clear c1
      try clear c2
      try clear p2
      try clear c3
      try clear c4
      try clear p4
      try clear q4
      try clear hx4
      try clear c5
      try clear c6
      try clear p6
      try clear c7
      try clear c8
      try clear c9
      try clear c10
      try clear c11
      try clear c12
      try clear c13
      try clear c24
      try clear c24b0
      try clear c24b1
      try clear c24b2
      try clear c26
      try clear c27
      try clear c27b0
      try clear c27b1
      try clear c27b2
      try clear c28
      try clear c28b0
      try clear c28b1
      try clear c29
      try clear c29b0
      try clear c29b1
      try clear c29b2
      try clear c31
      try clear c32
      try clear c32b0
      try clear c32b1
      try clear c32b2
      try clear c33
      try clear c33b0
      try clear c33b1
      try clear c34
      try clear c34b0
      try clear c34b1
      try clear c34b2
      try clear c36
      try clear c36b0
      try clear c36b1
      try clear c36b2
      try clear c38
      try clear c38b0
      try clear c38b1
      try clear c38b2
      try clear p43
      try clear q43
      try clear hx43
      try clear c44
      try clear c46
      try clear c48
      try clear c48b0
      try clear c49
      try clear c49b0
      try clear c50
      try clear c50b0
      try clear c51
      try clear c52
      try clear c52b0
      try clear c52b1
      try clear c52b2
      try clear c54
      try clear c54b0
      try clear c54b1
      try clear hx438_0
      try clear p2
      try clear p438
      try clear p6
      try clear q438
      obtain ⟨kq, HA, HJ44, HO_6, HB⟩ := hcut
      cases kq with
      | zero => exact absurd HA.out (by simp [laws_FnNecklacesShared.j2])
      | succ kj44 =>
       have H := HA.out
       clear HA
       simp only [laws_FnNecklacesShared.j2] at H
       have HC55 := Aside0.mk H
       clear H
       go_upto_if 205 with (fail)
       go_cut [] from 182 to 205 (fun wc => ∃ (kq : Nat), Aside0 (laws_FnNecklacesShared.j5 kq l1 = some r) ∧ Aside0 (kq ≤ kj44) ∧ Aside0 (Below w.heap.size w wc))
       case first => as_aux_lemma =>
        have H := HC55.out
        clear HC55
        by_cases c56 : t411 = true
        ·subst c56
         replace H := IP H
         replace H := EA H
         obtain ⟨⟨t440, t441⟩, A57, H⟩ := H
         try dsimp only at H
         replace H := EA H
         obtain ⟨⟨t442, t443⟩, A58, H⟩ := H
         try dsimp only at H
         replace H := EA H
         obtain ⟨⟨t444, t445⟩, A59, H⟩ := H
         try dsimp only at H
         obtain ⟨y446, hy446⟩ : ∃ y_ : List Int, y_ = (([2, 3, 1, 0] : List Int)) := ⟨_, rfl⟩
         replace H : ((impl_RenameBeads.f t409 y446).bind fun bt449 => ((impl_FirstSplit.f kj44 bt449.1).bind fun bt451 => (if t441 = true then (if t440 = true then (if (t410.length : Int) = t418 then (if t418 > t430 then (none) else (if t443 = true then (if t445 = true then (if t444 = t418 then (if bt449.2 = true then (if bt451.2 = true then ((laws_zSame.f kj44 bt451.1 t410).bind fun t455 => (laws_FnNecklacesShared.j3 kj44 l1 t409 t418 (!t455))) else (none)) else (none)) else (none)) else (none)) else (none))) else (none)) else (none)) else (none)))) = some r := HY H hy446
         have Ny446 := Aside0.mk hy446
         clear hy446
         replace H := EA H
         obtain ⟨⟨t449, t450⟩, A60, H⟩ := H
         try dsimp only at H
         replace H := EA H
         obtain ⟨⟨t451, t452⟩, A61, H⟩ := H
         try dsimp only at H
         have HC62 := Aside0.mk H
         clear H
         obtain ⟨Ao63, co63, eo63⟩ := Kd.R_slice HO_6.out
         subst eo63
         go_upto_region 29 with (first | ((with_reducible refine gate_callee (f := 18) rfl ?_); refine goesL_ (some 209) rfl rfl Tryz.func18 (by kernel_rfl) rfl #[.string t409, .slice Ao63 t410.length co63] rfl TA ?_; (with_reducible refine (impl_IsFairSplit.calls kj44 t409 _ _ t410 t440 t441 _ ?side1 ?side2 A57.out).mono ?_); (case side1 => exact CW (Kd.R_reads' HO_6.out).2.2); (case side2 => exact (Kd.R_reads' HO_6.out).2.1); rintro e w64 ⟨rfl, hb⟩; refine ⟨_, rfl, ?_⟩; have n0_ := Aside0.mk (Kd.R_below (KR HO_6) hb); have n1_ := Aside0.mk (below_step BB hb); clear HO_6; clear HB; have HO_6 := n0_; have HB := n1_; clear n0_ n1_; (try clear hb); (try clear hb2); (try clear hk); (try clear hi)) | ((with_reducible refine gate_callee (f := 19) rfl ?_); refine goesL_ (some 214) rfl rfl Tryz.func19 (by kernel_rfl) rfl #[.string t409] rfl TA ?_; (with_reducible refine (impl_ReverseBeads.calls t409 t442 t443 _ A58.out).mono ?_); rintro e w65 ⟨rfl, hb⟩; refine ⟨_, rfl, ?_⟩; have n0_ := Aside0.mk (Kd.R_below (KR HO_6) hb); have n1_ := Aside0.mk (below_step BB hb); clear HO_6; clear HB; have HO_6 := n0_; have HB := n1_; clear n0_ n1_; (try clear hb); (try clear hb2); (try clear hk); (try clear hi)) | ((with_reducible refine gate_callee (f := 8) rfl ?_); refine goesL_ (some 219) rfl rfl Tryz.func8 (by kernel_rfl) rfl #[.string t442] rfl TA ?_; (with_reducible refine (impl_FewestCuts.calls kj44 t442 t444 t445 _ A59.out).mono ?_); rintro e w66 ⟨rfl, hb⟩; refine ⟨_, rfl, ?_⟩; have n0_ := Aside0.mk (Kd.R_below (KR HO_6) hb); have n1_ := Aside0.mk (below_step BB hb); clear HO_6; clear HB; have HO_6 := n0_; have HB := n1_; clear n0_ n1_; (try clear hb); (try clear hb2); (try clear hk); (try clear hi)) | ((with_reducible refine gate_dst (N := 224) rfl ?_); (try (refine gate_guard (by rfl) ?_; dsimp only)); refine Kd.R_lit (Kd.int .i64) _ 3 ?hg (N := 224) ?hd (xs := ([2, 3, 1, 0] : List Int)) (inner := [.int .i64 2, .int .i64 3, .int .i64 1, .int .i64 0]) (ok := fun _ => True) (okp := fun _ => True) ?hr ?hp (fun _ hk => hk) trivial (Below.refl _ _) (Nat.le_refl _) (by simp) ?_; (case hd => rfl); (case hg => rfl); (case hr => exact GS); (case hp => exact (Reps.one (show Kd.M (Kd.int .i64) _ _ _ 2 [.int .i64 2] from rfl) (Reps.one (show Kd.M (Kd.int .i64) _ _ _ 3 [.int .i64 3] from rfl) (Reps.one (show Kd.M (Kd.int .i64) _ _ _ 1 [.int .i64 1] from rfl) (Reps.one (show Kd.M (Kd.int .i64) _ _ _ 0 [.int .i64 0] from rfl) (Reps.none _ _)))))); intro v447 w67 ho68 hb hg_ hnew_; clear hg_ hnew_; (first | rw [← Ny446.out] at ho68 | (simp only [Int.reduceToNat] at ho68; rw [← Ny446.out] at ho68)); have n0_ := Aside0.mk (Kd.R_elder' (KR HO_6) (Kd.R_base ho68) hb); have n1_ := Aside0.mk (Kd.R_lower (Kd.R_new' ho68 (Kd.R_lt (KR HO_6))) (below_size BB)); have n2_ := Aside0.mk (below_step BB hb); clear HO_6; clear HB; have HO_6 := n0_; have HO448 := n1_; have HB := n2_; clear n0_ n1_ n2_; clear hb ho68; obtain ⟨Ao69, co69, eo69⟩ := Kd.R_slice HO448.out; subst eo69) | ((with_reducible refine gate_callee (f := 20) rfl ?_); refine goesL_ (some 225) rfl rfl Tryz.func20 (by kernel_rfl) rfl #[.string t409, .slice Ao69 y446.length co69] rfl TA ?_; (with_reducible refine (impl_RenameBeads.calls t409 _ _ y446 t449 t450 _ ?side1 ?side2 A60.out).mono ?_); (case side1 => exact CW (Kd.R_reads' HO448.out).2.2); (case side2 => exact (Kd.R_reads' HO448.out).2.1); rintro e w70 ⟨rfl, hb⟩; refine ⟨_, rfl, ?_⟩; have n0_ := Aside0.mk (Kd.R_below (KR HO_6) hb); have n1_ := Aside0.mk (Kd.R_below (KR HO448) hb); have n2_ := Aside0.mk (below_step BB hb); clear HO_6; clear HO448; clear HB; have HO_6 := n0_; have HO448 := n1_; have HB := n2_; clear n0_ n1_ n2_; (try clear hb); (try clear hb2); (try clear hk); (try clear hi)) | ((with_reducible refine gate_callee (f := 6) rfl ?_); refine goesL_ (some 230) rfl rfl Tryz.func6 (by kernel_rfl) rfl #[.string t449] rfl TA ?_; (with_reducible refine (impl_FirstSplit.calls kj44 t449 t451 t452 _ A61.out).mono ?_); rintro e w71 ⟨v453, rfl, ho0, hb⟩; refine ⟨_, rfl, ?_⟩; have n0_ := Aside0.mk (Kd.R_elder' (KR HO_6) (Kd.R_base ho0) hb); have n1_ := Aside0.mk (Kd.R_elder' (KR HO448) (Kd.R_base ho0) hb); have n2_ := Aside0.mk (Kd.R_lower (Kd.R_new' (Kd.R_new' ho0 (Kd.R_lt (KR HO_6))) (Kd.R_lt (KR HO448))) (below_size BB)); have n3_ := Aside0.mk (below_step BB hb); clear HO_6; clear HO448; clear HB; have HO_6 := n0_; have HO448 := n1_; have HO454 := n2_; have HB := n3_; clear n0_ n1_ n2_ n3_; (try clear hb); (try clear hb2); (try clear hk); (try clear hi); (try clear ho0)))
         (try simp only [Act.put, List.setIfInBounds_toArray, List.set_cons_zero, List.set_cons_succ])
         go_cut [276] from 206 to 276 (fun v276 wc => ∃ (kq : Nat) (x276_61 : Bool), v276 = .bool x276_61 ∧ Aside0 (laws_FnNecklacesShared.j3 kq l1 t409 t418 x276_61 = some r) ∧ Aside0 (kq ≤ kj44) ∧ Aside0 (Below w.heap.size w wc))
         case first => as_aux_lemma =>
          have H := HC62.out
          clear HC62
          by_cases c72 : t441 = true
          ·subst c72
           replace H := IP H
           by_cases c73 : t440 = true
           ·subst c73
            replace H := IP H
            by_cases c74 : (t410.length : Int) = t418
            ·rw [if_pos c74] at H
             have c74b0 : ((t410.length : Int) == t418) = true := beq_iff_eq.mpr c74
             have c74b1 : ((t410.length : Int) != t418) = false := bne_eq_false_iff_eq.mpr c74
             clear c74
             (first | rw [c74b0] | (simp only [i64_w, i32_w]; rw [c74b0]) | skip)
             by_cases c75 : t418 > t430
             ·rw [if_pos c75] at H
              cases H
             ·rw [if_neg c75] at H
              have c75b0 : decide (t430 < t418) = false := decide_eq_false c75
              clear c75
              by_cases c76 : t443 = true
              ·subst c76
               replace H := IP H
               by_cases c77 : t445 = true
               ·subst c77
                replace H := IP H
                by_cases c78 : t444 = t418
                ·rw [if_pos c78] at H
                 have c78b0 : (t444 == t418) = true := beq_iff_eq.mpr c78
                 have c78b1 : (t444 != t418) = false := bne_eq_false_iff_eq.mpr c78
                 clear c78
                 by_cases c79 : t450 = true
                 ·subst c79
                  replace H := IP H
                  by_cases c80 : t452 = true
                  ·subst c80
                   replace H := IP H
                   replace H := EA H
                   obtain ⟨t455, A81, H⟩ := H
                   have H' := Aside0.mk H
                   clear H
                   obtain ⟨Ao82, co82, eo82⟩ := Kd.R_slice HO454.out
                   subst eo82
                   go_wp2_with (first | (go_at_call 14; (with_reducible refine (laws_zSame.calls kj44 _ _ t451 _ _ t410 t455 _ ?side1 ?side2 ?side3 ?side4 A81.out).mono ?_); (case side1 => exact CW (Kd.R_reads' HO454.out).2.2); (case side2 => exact (Kd.R_reads' HO454.out).2.1); (case side3 => exact CW (Kd.R_reads' HO_6.out).2.2); (case side4 => exact (Kd.R_reads' HO_6.out).2.1); rintro e w' ⟨rfl, ⟨nd, rfl⟩⟩))
                   go_meet
                   case rel => exact ⟨_, (!t455), RF, H', ⟨by have := HJ13.out; have := HJ44.out; first | omega | exact Nat.le_refl _⟩, ⟨BB⟩⟩
                  ·replace c80 := Bool.eq_false_iff.mpr c80
                   subst c80
                   replace H := IN H
                   cases H
                 ·replace c79 := Bool.eq_false_iff.mpr c79
                  subst c79
                  replace H := IN H
                  cases H
                ·rw [if_neg c78] at H
                 cases H
               ·replace c77 := Bool.eq_false_iff.mpr c77
                subst c77
                replace H := IN H
                cases H
              ·replace c76 := Bool.eq_false_iff.mpr c76
               subst c76
               replace H := IN H
               cases H
            ·rw [if_neg c74] at H
             cases H
           ·replace c73 := Bool.eq_false_iff.mpr c73
            subst c73
            replace H := IN H
            cases H
          ·replace c72 := Bool.eq_false_iff.mpr c72
           subst c72
           replace H := IN H
           cases H
         case rest => as_aux_lemma =>
          clear HC62
          try clear c1
          try clear c2
          try clear p2
          try clear c3
          try clear c4
          try clear p4
          try clear q4
          try clear hx4
          try clear c5
          try clear c6
          try clear p6
          try clear c7
          try clear c8
          try clear c9
          try clear c10
          try clear c11
          try clear c12
          try clear c13
          try clear c18
          try clear c19
          try clear c20
          try clear c24
          try clear c24b0
          try clear c24b1
          try clear c24b2
          try clear c26
          try clear c27
          try clear c27b0
          try clear c27b1
          try clear c27b2
          try clear c28
          try clear c28b0
          try clear c28b1
          try clear c29
          try clear c29b0
          try clear c29b1
          try clear c29b2
          try clear c31
          try clear c32
          try clear c32b0
          try clear c32b1
          try clear c32b2
          try clear c33
          try clear c33b0
          try clear c33b1
          try clear c34
          try clear c34b0
          try clear c34b1
          try clear c34b2
          try clear c36
          try clear c36b0
          try clear c36b1
          try clear c36b2
          try clear c38
          try clear c38b0
          try clear c38b1
          try clear c38b2
          try clear p43
          try clear q43
          try clear hx43
          try clear c44
          try clear c46
          try clear c48
          try clear c48b0
          try clear c49
          try clear c49b0
          try clear c50
          try clear c50b0
          try clear c51
          try clear c52
          try clear c52b0
          try clear c52b1
          try clear c52b2
          try clear c54
          try clear c54b0
          try clear c54b1
          try clear c56
          try clear p64
          try clear c72
          try clear c73
          try clear c74
          try clear c74b0
          try clear c74b1
          try clear c75
          try clear c75b0
          try clear c76
          try clear c77
          try clear c78
          try clear c78b0
          try clear c78b1
          try clear c79
          try clear c80
          try clear hx438_0
          try clear p2
          try clear p4
          try clear p43
          try clear p438
          try clear p6
          try clear q4
          try clear q43
          try clear q438
          obtain ⟨kq, x276_61, rfl, HA, HJ61, HB⟩ := hcut
          cases kq with
          | zero => exact absurd HA.out (by simp [laws_FnNecklacesShared.j3])
          | succ kj61 =>
           have H := HA.out
           clear HA
           simp only [laws_FnNecklacesShared.j3] at H
           by_cases c83 : x276_61 = true
           ·subst c83
            replace H := IP H
            cases H
           ·replace c83 := Bool.eq_false_iff.mpr c83
            subst c83
            replace H := IN H
            have H' := Aside0.mk H
            clear H
            go_wp2
            go_loopg [35] kj61 (fun kq v35 w' => ∃ (x35_4 : Int), v35 = .int .i64 x35_4 ∧ Aside0 (laws_FnNecklacesShared.l1 kq l1 t409 t418 x35_4 = some r) ∧ Aside0 (kq ≤ kj61) ∧ Aside0 (Below w.heap.size w w'))
            case atStart => exact ⟨(0), RF, H', ⟨Nat.le_refl _⟩, ⟨BB⟩⟩
            case round => as_aux_lemma =>
             clear H'
             try clear c1
             try clear c2
             try clear p2
             try clear c3
             try clear c4
             try clear p4
             try clear q4
             try clear hx4
             try clear c5
             try clear c6
             try clear p6
             try clear c7
             try clear c8
             try clear c9
             try clear c10
             try clear c11
             try clear c12
             try clear c13
             try clear c18
             try clear c19
             try clear c20
             try clear c24
             try clear c24b0
             try clear c24b1
             try clear c24b2
             try clear c26
             try clear c27
             try clear c27b0
             try clear c27b1
             try clear c27b2
             try clear c28
             try clear c28b0
             try clear c28b1
             try clear c29
             try clear c29b0
             try clear c29b1
             try clear c29b2
             try clear c31
             try clear c32
             try clear c32b0
             try clear c32b1
             try clear c32b2
             try clear c33
             try clear c33b0
             try clear c33b1
             try clear c34
             try clear c34b0
             try clear c34b1
             try clear c34b2
             try clear c36
             try clear c36b0
             try clear c36b1
             try clear c36b2
             try clear c38
             try clear c38b0
             try clear c38b1
             try clear c38b2
             try clear p43
             try clear q43
             try clear hx43
             try clear c44
             try clear c46
             try clear c48
             try clear c48b0
             try clear c49
             try clear c49b0
             try clear c50
             try clear c50b0
             try clear c51
             try clear c52
             try clear c52b0
             try clear c52b1
             try clear c52b2
             try clear c54
             try clear c54b0
             try clear c54b1
             try clear c56
             try clear p64
             try clear c72
             try clear c73
             try clear c74
             try clear c74b0
             try clear c74b1
             try clear c75
             try clear c75b0
             try clear c76
             try clear c77
             try clear c78
             try clear c78b0
             try clear c78b1
             try clear c79
             try clear c80
             try clear c83
             try clear hx438_0
             try clear p2
             try clear p4
             try clear p43
             try clear p438
             try clear p6
             try clear p64
             try clear q4
             try clear q43
             try clear q438
             obtain ⟨x35_4, rfl, HA, HK4, HB⟩ := hrel
             cases gk with
             | zero => exact absurd HA.out (by simp [laws_FnNecklacesShared.l1])
             | succ k4 =>
              have H := HA.out
              clear HA
              simp only [laws_FnNecklacesShared.l1] at H
              by_cases c84 : x35_4 < t418
              ·rw [if_pos c84] at H
               have c84b0 : decide (x35_4 < t418) = true := decide_eq_true c84
               clear c84
               replace H := EA H
               obtain ⟨⟨t456, t457⟩, A85, H⟩ := H
               try dsimp only at H
               by_cases c86 : t457 = true
               ·subst c86
                replace H := IP H
                by_cases c87 : t456 = 0
                ·rw [if_pos c87] at H
                 have c87b0 : (t456 == 0) = true := beq_iff_eq.mpr c87
                 have c87b1 : (t456 != 0) = false := bne_eq_false_iff_eq.mpr c87
                 clear c87
                 have H' := Aside0.mk H
                 clear H
                 go_wp2_with (first | ((with_reducible refine gate_callee (f := 21) rfl ?_); refine goesL_ (some 285) rfl rfl Tryz.func21 (by kernel_rfl) rfl #[.string t409, .int .i64 x35_4] rfl TA ?_; (with_reducible refine (impl_CountSplits.calls k4 t409 x35_4 t456 true _ A85.out).mono ?_); rintro e w88 ⟨rfl, hb⟩; refine ⟨_, rfl, ?_⟩; have n0_ := Aside0.mk (below_step BB hb); clear HB; have HB := n0_; clear n0_; (try clear hb); (try clear hb2); (try clear hk); (try clear hi)))
                 go_roundg k4
                 case measure => have := HJ13.out; have := HJ44.out; have := HJ61.out; have := HK4.out; omega
                 case rel => exact ⟨(wrap64 (x35_4 + 1)), RF, H', ⟨by have := HJ13.out; have := HJ44.out; have := HJ61.out; have := HK4.out; omega⟩, ⟨BB⟩⟩
                ·rw [if_neg c87] at H
                 cases H
               ·replace c86 := Bool.eq_false_iff.mpr c86
                subst c86
                replace H := IN H
                cases H
              ·rw [if_neg c84] at H
               have c84b0 : decide (x35_4 < t418) = false := decide_eq_false c84
               clear c84
               replace H := EA H
               obtain ⟨⟨t458, t459⟩, A89, H⟩ := H
               try dsimp only at H
               by_cases c90 : t459 = true
               ·subst c90
                replace H := IP H
                by_cases c91 : t458 < 1
                ·rw [if_pos c91] at H
                 cases H
                ·rw [if_neg c91] at H
                 have c91b0 : decide (t458 < 1) = false := decide_eq_false c91
                 clear c91
                 have H' := Aside0.mk H
                 clear H
                 go_wp2_with (first | ((with_reducible refine gate_callee (f := 21) rfl ?_); refine goesL_ (some 297) rfl rfl Tryz.func21 (by kernel_rfl) rfl #[.string t409, .int .i64 t418] rfl TA ?_; (with_reducible refine (impl_CountSplits.calls k4 t409 t418 t458 true _ A89.out).mono ?_); rintro e w92 ⟨rfl, hb⟩; refine ⟨_, rfl, ?_⟩; have n0_ := Aside0.mk (below_step BB hb); clear HB; have HB := n0_; clear n0_; (try clear hb); (try clear hb2); (try clear hk); (try clear hi)))
                 go_meet
                 case rel => exact ⟨_, H', ⟨by have := HJ13.out; have := HJ44.out; have := HJ61.out; have := HK4.out; first | omega | exact Nat.le_refl _⟩, ⟨BB⟩⟩
               ·replace c90 := Bool.eq_false_iff.mpr c90
                subst c90
                replace H := IN H
                cases H
        ·replace c56 := Bool.eq_false_iff.mpr c56
         subst c56
         replace H := IN H
         have H' := Aside0.mk H
         clear H
         go_wp2
         go_meet
         case rel => exact ⟨_, H', ⟨by have := HJ13.out; have := HJ44.out; first | omega | exact Nat.le_refl _⟩, ⟨BB⟩⟩
       case rest => as_aux_lemma =>
        clear HC55
        try clear c1
        try clear c2
        try clear p2
        try clear c3
        try clear c4
        try clear p4
        try clear q4
        try clear hx4
        try clear c5
        try clear c6
        try clear p6
        try clear c7
        try clear c8
        try clear c9
        try clear c10
        try clear c11
        try clear c12
        try clear c13
        try clear c18
        try clear c19
        try clear c20
        try clear c21
        try clear c24
        try clear c24b0
        try clear c24b1
        try clear c24b2
        try clear c26
        try clear c27
        try clear c27b0
        try clear c27b1
        try clear c27b2
        try clear c28
        try clear c28b0
        try clear c28b1
        try clear c29
        try clear c29b0
        try clear c29b1
        try clear c29b2
        try clear c31
        try clear c32
        try clear c32b0
        try clear c32b1
        try clear c32b2
        try clear c33
        try clear c33b0
        try clear c33b1
        try clear c34
        try clear c34b0
        try clear c34b1
        try clear c34b2
        try clear c36
        try clear c36b0
        try clear c36b1
        try clear c36b2
        try clear c38
        try clear c38b0
        try clear c38b1
        try clear c38b2
        try clear p43
        try clear q43
        try clear hx43
        try clear c44
        try clear c46
        try clear c48
        try clear c48b0
        try clear c49
        try clear c49b0
        try clear c50
        try clear c50b0
        try clear c51
        try clear c52
        try clear c52b0
        try clear c52b1
        try clear c52b2
        try clear c54
        try clear c54b0
        try clear c54b1
        try clear c56
        try clear p64
        try clear c72
        try clear c73
        try clear c74
        try clear c74b0
        try clear c74b1
        try clear c75
        try clear c75b0
        try clear c76
        try clear c77
        try clear c78
        try clear c78b0
        try clear c78b1
        try clear c79
        try clear c80
        try clear c83
        try clear c84
        try clear c84b0
        try clear c86
        try clear c87
        try clear c87b0
        try clear c87b1
        try clear c90
        try clear c91
        try clear c91b0
        try clear hx438_0
        try clear p2
        try clear p4
        try clear p43
        try clear p438
        try clear p6
        try clear p64
        try clear q4
        try clear q43
        try clear q438
        obtain ⟨kq, HA, HJ54, HB⟩ := hcut
        cases kq with
        | zero => exact absurd HA.out (by simp [laws_FnNecklacesShared.j5])
        | succ kj54 =>
         have H := HA.out
         clear HA
         simp only [laws_FnNecklacesShared.j5] at H
         replace H := EA H
         obtain ⟨⟨t460, t461⟩, A93, H⟩ := H
         try dsimp only at H
         replace H := EA H
         obtain ⟨⟨t462, t463⟩, A94, H⟩ := H
         try dsimp only at H
         replace H := EA H
         obtain ⟨⟨t464, t465⟩, A95, H⟩ := H
         try dsimp only at H
         have HC96 := Aside0.mk H
         clear H
         go_upto_region 43 with (first | ((with_reducible refine gate_callee (f := 22) rfl ?_); refine goesL_ (some 308) rfl rfl Tryz.func22 (by kernel_rfl) rfl #[.slice A1 l1.length c1] rfl TA ?_; (with_reducible refine (spec_DrawCountSplits.calls kj54 _ _ l1 t460 t461 _ ?side1 ?side2 A93.out).mono ?_); (case side1 => exact CW (Kd.C_below HR1.out HB.out)); (case side2 => exact HC1.out); rintro e w97 ⟨rfl, hb⟩; refine ⟨_, rfl, ?_⟩; have n0_ := Aside0.mk (below_step BB hb); clear HB; have HB := n0_; clear n0_; (try clear hb); (try clear hb2); (try clear hk); (try clear hi)) | ((with_reducible refine gate_callee (f := 21) rfl ?_); refine goesL_ (some 314) rfl rfl Tryz.func21 (by kernel_rfl) rfl #[.string t460, .int .i64 t461] rfl TA ?_; (with_reducible refine (impl_CountSplits.calls kj54 t460 t461 t462 t463 _ A94.out).mono ?_); rintro e w98 ⟨rfl, hb⟩; refine ⟨_, rfl, ?_⟩; have n0_ := Aside0.mk (below_step BB hb); clear HB; have HB := n0_; clear n0_; (try clear hb); (try clear hb2); (try clear hk); (try clear hi)) | ((with_reducible refine gate_callee (f := 23) rfl ?_); refine goesL_ (some 320) rfl rfl Tryz.func23 (by kernel_rfl) rfl #[.string t460, .int .i64 t461] rfl TA ?_; (with_reducible refine (spec_CountSplits.calls kj54 t460 t461 t464 t465 _ A95.out).mono ?_); rintro e w99 ⟨rfl, hb⟩; refine ⟨_, rfl, ?_⟩; have n0_ := Aside0.mk (below_step BB hb); clear HB; have HB := n0_; clear n0_; (try clear hb); (try clear hb2); (try clear hk); (try clear hi)))
         (try simp only [Act.put, List.setIfInBounds_toArray, List.set_cons_zero, List.set_cons_succ])
         go_cut [330] from 277 to 330 (fun v330 wc => ∃ (kq : Nat) (x330_95 : Bool), v330 = .bool x330_95 ∧ Aside0 (laws_FnNecklacesShared.j6 kq l1 t460 t461 t462 t463 x330_95 = some r) ∧ Aside0 (kq ≤ kj54) ∧ Aside0 (Below w.heap.size w wc))
         case first => as_aux_lemma =>
          have H := HC96.out
          clear HC96
          by_cases c100 : (t463 != t465) = true
          ·rw [if_pos c100] at H
           cases H
          ·rw [if_neg c100] at H
           have c100b0 : (t463 != t465) = false := by simpa using c100
           (try (have c100b1 : decide (t463 = t465) = true := by simpa using c100))
           (try (have c100b2 : (t463 == t465) = true := by simpa using c100))
           clear c100
           (first | rw [c100b0] | (simp only [i64_w, i32_w]; rw [c100b0]) | skip)
           have H' := Aside0.mk H
           clear H
           go_wp2
           go_meet
           case rel => exact ⟨_, ((t462 != t464)), RF, H', ⟨by have := HJ13.out; have := HJ44.out; have := HJ54.out; first | omega | exact Nat.le_refl _⟩, ⟨BB⟩⟩
         case rest => as_aux_lemma =>
          clear HC96
          try clear c1
          try clear c2
          try clear p2
          try clear c3
          try clear c4
          try clear p4
          try clear q4
          try clear hx4
          try clear c5
          try clear c6
          try clear p6
          try clear c7
          try clear c8
          try clear c9
          try clear c10
          try clear c11
          try clear c12
          try clear c13
          try clear c18
          try clear c19
          try clear c20
          try clear c21
          try clear c22
          try clear c23
          try clear c24
          try clear c24b0
          try clear c24b1
          try clear c24b2
          try clear c26
          try clear c27
          try clear c27b0
          try clear c27b1
          try clear c27b2
          try clear c28
          try clear c28b0
          try clear c28b1
          try clear c29
          try clear c29b0
          try clear c29b1
          try clear c29b2
          try clear c31
          try clear c32
          try clear c32b0
          try clear c32b1
          try clear c32b2
          try clear c33
          try clear c33b0
          try clear c33b1
          try clear c34
          try clear c34b0
          try clear c34b1
          try clear c34b2
          try clear c36
          try clear c36b0
          try clear c36b1
          try clear c36b2
          try clear c38
          try clear c38b0
          try clear c38b1
          try clear c38b2
          try clear p43
          try clear q43
          try clear hx43
          try clear c44
          try clear c46
          try clear c48
          try clear c48b0
          try clear c49
          try clear c49b0
          try clear c50
          try clear c50b0
          try clear c51
          try clear c52
          try clear c52b0
          try clear c52b1
          try clear c52b2
          try clear c54
          try clear c54b0
          try clear c54b1
          try clear c56
          try clear p64
          try clear c72
          try clear c73
          try clear c74
          try clear c74b0
          try clear c74b1
          try clear c75
          try clear c75b0
          try clear c76
          try clear c77
          try clear c78
          try clear c78b0
          try clear c78b1
          try clear c79
          try clear c80
          try clear c83
          try clear c84
          try clear c84b0
          try clear c86
          try clear c87
          try clear c87b0
          try clear c87b1
          try clear c90
          try clear c91
          try clear c91b0
          try clear c100
          try clear c100b0
          try clear c100b1
          try clear c100b2
          try clear hx438_0
          try clear p2
          try clear p4
          try clear p43
          try clear p438
          try clear p6
          try clear p64
          try clear q4
          try clear q43
          try clear q438
          obtain ⟨kq, x330_95, rfl, HA, HJ95, HB⟩ := hcut
          cases kq with
          | zero => exact absurd HA.out (by simp [laws_FnNecklacesShared.j6])
          | succ kj95 =>
           have H := HA.out
           clear HA
           simp only [laws_FnNecklacesShared.j6] at H
           by_cases c101 : x330_95 = true
           ·subst c101
            replace H := IP H
            cases H
           ·replace c101 := Bool.eq_false_iff.mpr c101
            subst c101
            replace H := IN H
            have HC102 := Aside0.mk H
            clear H
            go_upto_if 331 with (fail)
            go_cut [] from 331 to 331 (fun wc => ∃ (kq : Nat), Aside0 (laws_FnNecklacesShared.j7 kq l1 = some r) ∧ Aside0 (kq ≤ kj95) ∧ Aside0 (Below w.heap.size w wc))
            case first => as_aux_lemma =>
             have H := HC102.out
             clear HC102
             by_cases c103 : t463 = true
             ·subst c103
              replace H := IP H
              replace H := EA H
              obtain ⟨⟨t466, t467⟩, A104, H⟩ := H
              try dsimp only at H
              replace H := EA H
              obtain ⟨⟨t468, t469⟩, A105, H⟩ := H
              try dsimp only at H
              by_cases c106 : t467 = true
              ·subst c106
               replace H := IP H
               by_cases c107 : t469 = true
               ·subst c107
                replace H := IP H
                by_cases c108 : t468 = t462
                ·rw [if_pos c108] at H
                 have c108b0 : (t468 == t462) = true := beq_iff_eq.mpr c108
                 have c108b1 : (t468 != t462) = false := bne_eq_false_iff_eq.mpr c108
                 clear c108
                 (first | rw [c108b0] | (simp only [i64_w, i32_w]; rw [c108b0]) | skip)
                 have H' := Aside0.mk H
                 clear H
                 go_wp2_with (first | ((with_reducible refine gate_callee (f := 19) rfl ?_); refine goesL_ (some 334) rfl rfl Tryz.func19 (by kernel_rfl) rfl #[.string t460] rfl TA ?_; (with_reducible refine (impl_ReverseBeads.calls t460 t466 true _ A104.out).mono ?_); rintro e w109 ⟨rfl, hb⟩; refine ⟨_, rfl, ?_⟩; have n0_ := Aside0.mk (below_step BB hb); clear HB; have HB := n0_; clear n0_; (try clear hb); (try clear hb2); (try clear hk); (try clear hi)) | ((with_reducible refine gate_callee (f := 21) rfl ?_); refine goesL_ (some 340) rfl rfl Tryz.func21 (by kernel_rfl) rfl #[.string t466, .int .i64 t461] rfl TA ?_; (with_reducible refine (impl_CountSplits.calls kj95 t466 t461 t468 true _ A105.out).mono ?_); rintro e w110 ⟨rfl, hb⟩; refine ⟨_, rfl, ?_⟩; have n0_ := Aside0.mk (below_step BB hb); clear HB; have HB := n0_; clear n0_; (try clear hb); (try clear hb2); (try clear hk); (try clear hi)))
                 go_meet
                 case rel => exact ⟨_, H', ⟨by have := HJ13.out; have := HJ44.out; have := HJ54.out; have := HJ95.out; first | omega | exact Nat.le_refl _⟩, ⟨BB⟩⟩
                ·rw [if_neg c108] at H
                 cases H
               ·replace c107 := Bool.eq_false_iff.mpr c107
                subst c107
                replace H := IN H
                cases H
              ·replace c106 := Bool.eq_false_iff.mpr c106
               subst c106
               replace H := IN H
               cases H
             ·replace c103 := Bool.eq_false_iff.mpr c103
              subst c103
              replace H := IN H
              have H' := Aside0.mk H
              clear H
              go_wp2
              go_meet
              case rel => exact ⟨_, H', ⟨by have := HJ13.out; have := HJ44.out; have := HJ54.out; have := HJ95.out; first | omega | exact Nat.le_refl _⟩, ⟨BB⟩⟩
            case rest => as_aux_lemma =>
             clear HC102
             try clear c1
             try clear c2
             try clear p2
             try clear c3
             try clear c4
             try clear p4
             try clear q4
             try clear hx4
             try clear c5
             try clear c6
             try clear p6
             try clear c7
             try clear c8
             try clear c9
             try clear c10
             try clear c11
             try clear c12
             try clear c13
             try clear c18
             try clear c19
             try clear c20
             try clear c21
             try clear c22
             try clear c23
             try clear c24
             try clear c24b0
             try clear c24b1
             try clear c24b2
             try clear c26
             try clear c27
             try clear c27b0
             try clear c27b1
             try clear c27b2
             try clear c28
             try clear c28b0
             try clear c28b1
             try clear c29
             try clear c29b0
             try clear c29b1
             try clear c29b2
             try clear c31
             try clear c32
             try clear c32b0
             try clear c32b1
             try clear c32b2
             try clear c33
             try clear c33b0
             try clear c33b1
             try clear c34
             try clear c34b0
             try clear c34b1
             try clear c34b2
             try clear c36
             try clear c36b0
             try clear c36b1
             try clear c36b2
             try clear c38
             try clear c38b0
             try clear c38b1
             try clear c38b2
             try clear p43
             try clear q43
             try clear hx43
             try clear c44
             try clear c46
             try clear c48
             try clear c48b0
             try clear c49
             try clear c49b0
             try clear c50
             try clear c50b0
             try clear c51
             try clear c52
             try clear c52b0
             try clear c52b1
             try clear c52b2
             try clear c54
             try clear c54b0
             try clear c54b1
             try clear c56
             try clear p64
             try clear c72
             try clear c73
             try clear c74
             try clear c74b0
             try clear c74b1
             try clear c75
             try clear c75b0
             try clear c76
             try clear c77
             try clear c78
             try clear c78b0
             try clear c78b1
             try clear c79
             try clear c80
             try clear c83
             try clear c84
             try clear c84b0
             try clear c86
             try clear c87
             try clear c87b0
             try clear c87b1
             try clear c90
             try clear c91
             try clear c91b0
             try clear c100
             try clear c100b0
             try clear c100b1
             try clear c100b2
             try clear c101
             try clear c103
             try clear c106
             try clear c107
             try clear c108
             try clear c108b0
             try clear c108b1
             try clear hx438_0
             try clear p2
             try clear p4
             try clear p43
             try clear p438
             try clear p6
             try clear p64
             try clear q4
             try clear q43
             try clear q438
             obtain ⟨kq, HA, HJ101, HB⟩ := hcut
             cases kq with
             | zero => exact absurd HA.out (by simp [laws_FnNecklacesShared.j7])
             | succ kj101 =>
              have H := HA.out
              clear HA
              simp only [laws_FnNecklacesShared.j7] at H
              replace H := EA H
              obtain ⟨t470, A111, H⟩ := H
              replace H := EA H
              obtain ⟨⟨t473, t474⟩, A112, H⟩ := H
              try dsimp only at H
              replace H := EA H
              obtain ⟨⟨t475, t476⟩, A113, H⟩ := H
              try dsimp only at H
              have HC114 := Aside0.mk H
              clear H
              go_upto_region 53 with (first | ((with_reducible refine gate_callee (f := 24) rfl ?_); refine goesL_ (some 355) rfl rfl Tryz.func24 (by kernel_rfl) rfl #[.slice A1 l1.length c1] rfl TA ?_; (with_reducible refine (spec_DrawSortedBeads.calls _ _ l1 t470 _ ?side1 ?side2 A111.out).mono ?_); (case side1 => exact CW (Kd.C_below HR1.out HB.out)); (case side2 => exact HC1.out); rintro e w115 ⟨v471, rfl, ho0, hb⟩; refine ⟨_, rfl, ?_⟩; have n0_ := Aside0.mk (Kd.R_lower ho0 (below_size BB)); have n1_ := Aside0.mk (below_step BB hb); clear HB; have HO472 := n0_; have HB := n1_; clear n0_ n1_; (try clear hb); (try clear hb2); (try clear hk); (try clear hi); (try clear ho0); obtain ⟨Ao116, co116, eo116⟩ := Kd.R_slice HO472.out; subst eo116) | ((with_reducible refine gate_callee (f := 25) rfl ?_); refine goesL_ (some 358) rfl rfl Tryz.func25 (by kernel_rfl) rfl #[.slice Ao116 t470.length co116] rfl TA ?_; (with_reducible refine (impl_SortedBeads.calls kj101 _ _ t470 t473 t474 _ ?side1 ?side2 A112.out).mono ?_); (case side1 => exact CW (Kd.R_reads' HO472.out).2.2); (case side2 => exact (Kd.R_reads' HO472.out).2.1); rintro e w117 ⟨rfl, hb⟩; refine ⟨_, rfl, ?_⟩; have n0_ := Aside0.mk (Kd.R_below (KR HO472) hb); have n1_ := Aside0.mk (below_step BB hb); clear HO472; clear HB; have HO472 := n0_; have HB := n1_; clear n0_ n1_; (try clear hb); (try clear hb2); (try clear hk); (try clear hi)) | ((with_reducible refine gate_callee (f := 26) rfl ?_); refine goesL_ (some 363) rfl rfl Tryz.func26 (by kernel_rfl) rfl #[.slice Ao116 t470.length co116] rfl TA ?_; (with_reducible refine (spec_SortedBeads.calls kj101 _ _ t470 t475 t476 _ ?side1 ?side2 A113.out).mono ?_); (case side1 => exact CW (Kd.R_reads' HO472.out).2.2); (case side2 => exact (Kd.R_reads' HO472.out).2.1); rintro e w' ⟨rfl, ⟨nd, rfl⟩⟩; refine ⟨_, rfl, ?_⟩))
              (try simp only [Act.put, List.setIfInBounds_toArray, List.set_cons_zero, List.set_cons_succ])
              go_cut [373] from 332 to 373 (fun v373 wc => ∃ (kq : Nat) (x373_113 : Bool), v373 = .bool x373_113 ∧ Aside0 (laws_FnNecklacesShared.j8 kq l1 t470 t473 t474 x373_113 = some r) ∧ Aside0 (kq ≤ kj101) ∧ Aside0 (Kd.R (Kd.int .i64) 3 wc w.heap.size (fun _ => True) (.slice Ao116 t470.length co116) t470) ∧ Aside0 (Below w.heap.size w wc))
              case first => as_aux_lemma =>
               have H := HC114.out
               clear HC114
               by_cases c118 : (t474 != t476) = true
               ·rw [if_pos c118] at H
                cases H
               ·rw [if_neg c118] at H
                have c118b0 : (t474 != t476) = false := by simpa using c118
                (try (have c118b1 : decide (t474 = t476) = true := by simpa using c118))
                (try (have c118b2 : (t474 == t476) = true := by simpa using c118))
                clear c118
                (first | rw [c118b0] | (simp only [i64_w, i32_w]; rw [c118b0]) | skip)
                have H' := Aside0.mk H
                clear H
                go_wp2
                go_meet
                case rel => exact ⟨_, ((t473.toList != t475.toList)), RF, H', ⟨by have := HJ13.out; have := HJ44.out; have := HJ54.out; have := HJ95.out; have := HJ101.out; first | omega | exact Nat.le_refl _⟩, ⟨KR HO472⟩, ⟨BB⟩⟩
              case rest => as_aux_lemma =>
               clear HC114
               try clear c1
               try clear c2
               try clear p2
               try clear c3
               try clear c4
               try clear p4
               try clear q4
               try clear hx4
               try clear c5
               try clear c6
               try clear p6
               try clear c7
               try clear c8
               try clear c9
               try clear c10
               try clear c11
               try clear c12
               try clear c13
               try clear c18
               try clear c19
               try clear c20
               try clear c21
               try clear c22
               try clear c23
               try clear c24
               try clear c24b0
               try clear c24b1
               try clear c24b2
               try clear c25
               try clear c26
               try clear c27
               try clear c27b0
               try clear c27b1
               try clear c27b2
               try clear c28
               try clear c28b0
               try clear c28b1
               try clear c29
               try clear c29b0
               try clear c29b1
               try clear c29b2
               try clear c31
               try clear c32
               try clear c32b0
               try clear c32b1
               try clear c32b2
               try clear c33
               try clear c33b0
               try clear c33b1
               try clear c34
               try clear c34b0
               try clear c34b1
               try clear c34b2
               try clear c36
               try clear c36b0
               try clear c36b1
               try clear c36b2
               try clear c38
               try clear c38b0
               try clear c38b1
               try clear c38b2
               try clear p43
               try clear q43
               try clear hx43
               try clear c44
               try clear c46
               try clear c48
               try clear c48b0
               try clear c49
               try clear c49b0
               try clear c50
               try clear c50b0
               try clear c51
               try clear c52
               try clear c52b0
               try clear c52b1
               try clear c52b2
               try clear c54
               try clear c54b0
               try clear c54b1
               try clear c56
               try clear p64
               try clear c72
               try clear c73
               try clear c74
               try clear c74b0
               try clear c74b1
               try clear c75
               try clear c75b0
               try clear c76
               try clear c77
               try clear c78
               try clear c78b0
               try clear c78b1
               try clear c79
               try clear c80
               try clear c83
               try clear c84
               try clear c84b0
               try clear c86
               try clear c87
               try clear c87b0
               try clear c87b1
               try clear c90
               try clear c91
               try clear c91b0
               try clear c100
               try clear c100b0
               try clear c100b1
               try clear c100b2
               try clear c101
               try clear c103
               try clear c106
               try clear c107
               try clear c108
               try clear c108b0
               try clear c108b1
               try clear c118
               try clear c118b0
               try clear c118b1
               try clear c118b2
               try clear hx438_0
               try clear p2
               try clear p4
               try clear p43
               try clear p438
               try clear p6
               try clear p64
               try clear q4
               try clear q43
               try clear q438
               obtain ⟨kq, x373_113, rfl, HA, HJ113, HO_50, HB⟩ := hcut
               cases kq with
               | zero => exact absurd HA.out (by simp [laws_FnNecklacesShared.j8])
               | succ kj113 =>
                have H := HA.out
                clear HA
                simp only [laws_FnNecklacesShared.j8] at H
                by_cases c119 : x373_113 = true
                ·subst c119
                 replace H := IP H
                 cases H
                ·replace c119 := Bool.eq_false_iff.mpr c119
                 subst c119
                 replace H := IN H
                 have HC120 := Aside0.mk H
                 clear H
                 go_upto_if 374 with (fail)
                 go_cut [] from 374 to 374 (fun wc => ∃ (kq : Nat), Aside0 (laws_FnNecklacesShared.j9 kq l1 = some r) ∧ Aside0 (kq ≤ kj113) ∧ Aside0 (Below w.heap.size w wc))
                 case first => as_aux_lemma =>
                  have H := HC120.out
                  clear HC120
                  by_cases c121 : t474 = true
                  ·subst c121
                   replace H := IP H
                   replace H := EA H
                   obtain ⟨⟨t477, t478⟩, A122, H⟩ := H
                   try dsimp only at H
                   replace H := EA H
                   obtain ⟨⟨t481, t482⟩, A123, H⟩ := H
                   try dsimp only at H
                   replace H := EA H
                   obtain ⟨⟨t483, t484⟩, A124, H⟩ := H
                   try dsimp only at H
                   by_cases c125 : t478 = true
                   ·subst c125
                    replace H := IP H
                    replace H := EA H
                    obtain ⟨t485, A126, H⟩ := H
                    by_cases c127 : t485 = true
                    ·subst c127
                     replace H := IP H
                     by_cases c128 : t482 = true
                     ·subst c128
                      replace H := IP H
                      by_cases c129 : t484 = true
                      ·subst c129
                       replace H := IP H
                       by_cases c130 : t483 = t481
                       ·rw [if_pos c130] at H
                        have c130b0 : (t483 == t481) = true := beq_iff_eq.mpr c130
                        have c130b1 : (t483 != t481) = false := bne_eq_false_iff_eq.mpr c130
                        clear c130
                        (first | rw [c130b0] | (simp only [i64_w, i32_w]; rw [c130b0]) | skip)
                        have H' := Aside0.mk H
                        clear H
                        go_wp2_with (first | ((with_reducible refine gate_callee (f := 10) rfl ?_); refine goesL_ (some 377) rfl rfl Tryz.func10 (by kernel_rfl) rfl #[.string t473] rfl TA ?_; (with_reducible refine (impl_CountsOfBeads.calls kj113 t473 t477 true _ A122.out).mono ?_); rintro e w131 ⟨v479, rfl, ho0, hb⟩; refine ⟨_, rfl, ?_⟩; have n0_ := Aside0.mk (Kd.R_elder' (KR HO_50) (Kd.R_base ho0) hb); have n1_ := Aside0.mk (Kd.R_lower (Kd.R_new' ho0 (Kd.R_lt (KR HO_50))) (below_size BB)); have n2_ := Aside0.mk (below_step BB hb); clear HO_50; clear HB; have HO_50 := n0_; have HO480 := n1_; have HB := n2_; clear n0_ n1_ n2_; (try clear hb); (try clear hb2); (try clear hk); (try clear hi); (try clear ho0)) | ((with_reducible refine gate_callee (f := 12) rfl ?_); refine goesL_ (some 382) rfl rfl Tryz.func12 (by kernel_rfl) rfl #[.string t473] rfl TA ?_; (with_reducible refine (impl_KindsOfBeads.calls kj113 t473 t481 true _ A123.out).mono ?_); rintro e w132 ⟨rfl, hb⟩; refine ⟨_, rfl, ?_⟩; have n0_ := Aside0.mk (Kd.R_below (KR HO_50) hb); have n1_ := Aside0.mk (Kd.R_below (KR HO480) hb); have n2_ := Aside0.mk (below_step BB hb); clear HO_50; clear HO480; clear HB; have HO_50 := n0_; have HO480 := n1_; have HB := n2_; clear n0_ n1_ n2_; (try clear hb); (try clear hb2); (try clear hk); (try clear hi)) | ((with_reducible refine gate_callee (f := 8) rfl ?_); refine goesL_ (some 387) rfl rfl Tryz.func8 (by kernel_rfl) rfl #[.string t473] rfl TA ?_; (with_reducible refine (impl_FewestCuts.calls kj113 t473 t483 true _ A124.out).mono ?_); rintro e w133 ⟨rfl, hb⟩; refine ⟨_, rfl, ?_⟩; have n0_ := Aside0.mk (Kd.R_below (KR HO_50) hb); have n1_ := Aside0.mk (Kd.R_below (KR HO480) hb); have n2_ := Aside0.mk (below_step BB hb); clear HO_50; clear HO480; clear HB; have HO_50 := n0_; have HO480 := n1_; have HB := n2_; clear n0_ n1_ n2_; (try clear hb); (try clear hb2); (try clear hk); (try clear hi); obtain ⟨Ao134, co134, eo134⟩ := Kd.R_slice HO480.out; subst eo134) | (go_at_call 14; (with_reducible refine (laws_zSame.calls kj113 _ _ t477 _ _ t470 true _ ?side1 ?side2 ?side3 ?side4 A126.out).mono ?_); (case side1 => exact CW (Kd.R_reads' HO480.out).2.2); (case side2 => exact (Kd.R_reads' HO480.out).2.1); (case side3 => exact CW (Kd.R_reads' HO_50.out).2.2); (case side4 => exact (Kd.R_reads' HO_50.out).2.1); rintro e w' ⟨rfl, ⟨nd, rfl⟩⟩))
                        go_meet
                        case rel => exact ⟨_, H', ⟨by have := HJ13.out; have := HJ44.out; have := HJ54.out; have := HJ95.out; have := HJ101.out; have := HJ113.out; first | omega | exact Nat.le_refl _⟩, ⟨BB⟩⟩
                       ·rw [if_neg c130] at H
                        cases H
                      ·replace c129 := Bool.eq_false_iff.mpr c129
                       subst c129
                       replace H := IN H
                       have H' := Aside0.mk H
                       clear H
                       go_wp2_with (first | ((with_reducible refine gate_callee (f := 10) rfl ?_); refine goesL_ (some 377) rfl rfl Tryz.func10 (by kernel_rfl) rfl #[.string t473] rfl TA ?_; (with_reducible refine (impl_CountsOfBeads.calls kj113 t473 t477 true _ A122.out).mono ?_); rintro e w135 ⟨v479, rfl, ho0, hb⟩; refine ⟨_, rfl, ?_⟩; have n0_ := Aside0.mk (Kd.R_elder' (KR HO_50) (Kd.R_base ho0) hb); have n1_ := Aside0.mk (Kd.R_lower (Kd.R_new' ho0 (Kd.R_lt (KR HO_50))) (below_size BB)); have n2_ := Aside0.mk (below_step BB hb); clear HO_50; clear HB; have HO_50 := n0_; have HO480 := n1_; have HB := n2_; clear n0_ n1_ n2_; (try clear hb); (try clear hb2); (try clear hk); (try clear hi); (try clear ho0)) | ((with_reducible refine gate_callee (f := 12) rfl ?_); refine goesL_ (some 382) rfl rfl Tryz.func12 (by kernel_rfl) rfl #[.string t473] rfl TA ?_; (with_reducible refine (impl_KindsOfBeads.calls kj113 t473 t481 true _ A123.out).mono ?_); rintro e w136 ⟨rfl, hb⟩; refine ⟨_, rfl, ?_⟩; have n0_ := Aside0.mk (Kd.R_below (KR HO_50) hb); have n1_ := Aside0.mk (Kd.R_below (KR HO480) hb); have n2_ := Aside0.mk (below_step BB hb); clear HO_50; clear HO480; clear HB; have HO_50 := n0_; have HO480 := n1_; have HB := n2_; clear n0_ n1_ n2_; (try clear hb); (try clear hb2); (try clear hk); (try clear hi)) | ((with_reducible refine gate_callee (f := 8) rfl ?_); refine goesL_ (some 387) rfl rfl Tryz.func8 (by kernel_rfl) rfl #[.string t473] rfl TA ?_; (with_reducible refine (impl_FewestCuts.calls kj113 t473 t483 false _ A124.out).mono ?_); rintro e w137 ⟨rfl, hb⟩; refine ⟨_, rfl, ?_⟩; have n0_ := Aside0.mk (Kd.R_below (KR HO_50) hb); have n1_ := Aside0.mk (Kd.R_below (KR HO480) hb); have n2_ := Aside0.mk (below_step BB hb); clear HO_50; clear HO480; clear HB; have HO_50 := n0_; have HO480 := n1_; have HB := n2_; clear n0_ n1_ n2_; (try clear hb); (try clear hb2); (try clear hk); (try clear hi); obtain ⟨Ao138, co138, eo138⟩ := Kd.R_slice HO480.out; subst eo138) | (go_at_call 14; (with_reducible refine (laws_zSame.calls kj113 _ _ t477 _ _ t470 true _ ?side1 ?side2 ?side3 ?side4 A126.out).mono ?_); (case side1 => exact CW (Kd.R_reads' HO480.out).2.2); (case side2 => exact (Kd.R_reads' HO480.out).2.1); (case side3 => exact CW (Kd.R_reads' HO_50.out).2.2); (case side4 => exact (Kd.R_reads' HO_50.out).2.1); rintro e w' ⟨rfl, ⟨nd, rfl⟩⟩))
                       go_meet
                       case rel => exact ⟨_, H', ⟨by have := HJ13.out; have := HJ44.out; have := HJ54.out; have := HJ95.out; have := HJ101.out; have := HJ113.out; first | omega | exact Nat.le_refl _⟩, ⟨BB⟩⟩
                     ·replace c128 := Bool.eq_false_iff.mpr c128
                      subst c128
                      replace H := IN H
                      cases H
                    ·replace c127 := Bool.eq_false_iff.mpr c127
                     subst c127
                     replace H := IN H
                     cases H
                   ·replace c125 := Bool.eq_false_iff.mpr c125
                    subst c125
                    replace H := IN H
                    cases H
                  ·replace c121 := Bool.eq_false_iff.mpr c121
                   subst c121
                   replace H := IN H
                   have H' := Aside0.mk H
                   clear H
                   go_wp2
                   go_meet
                   case rel => exact ⟨_, H', ⟨by have := HJ13.out; have := HJ44.out; have := HJ54.out; have := HJ95.out; have := HJ101.out; have := HJ113.out; first | omega | exact Nat.le_refl _⟩, ⟨BB⟩⟩
                 case rest => as_aux_lemma =>
                  clear HC120
                  try clear c1
                  try clear c2
                  try clear p2
                  try clear c3
                  try clear c4
                  try clear p4
                  try clear q4
                  try clear hx4
                  try clear c5
                  try clear c6
                  try clear p6
                  try clear c7
                  try clear c8
                  try clear c9
                  try clear c10
                  try clear c11
                  try clear c12
                  try clear c13
                  try clear c18
                  try clear c19
                  try clear c20
                  try clear c21
                  try clear c22
                  try clear c23
                  try clear c24
                  try clear c24b0
                  try clear c24b1
                  try clear c24b2
                  try clear c25
                  try clear c26
                  try clear c27
                  try clear c27b0
                  try clear c27b1
                  try clear c27b2
                  try clear c28
                  try clear c28b0
                  try clear c28b1
                  try clear c29
                  try clear c29b0
                  try clear c29b1
                  try clear c29b2
                  try clear c31
                  try clear c32
                  try clear c32b0
                  try clear c32b1
                  try clear c32b2
                  try clear c33
                  try clear c33b0
                  try clear c33b1
                  try clear c34
                  try clear c34b0
                  try clear c34b1
                  try clear c34b2
                  try clear c36
                  try clear c36b0
                  try clear c36b1
                  try clear c36b2
                  try clear c38
                  try clear c38b0
                  try clear c38b1
                  try clear c38b2
                  try clear p43
                  try clear q43
                  try clear hx43
                  try clear c44
                  try clear c46
                  try clear c48
                  try clear c48b0
                  try clear c49
                  try clear c49b0
                  try clear c50
                  try clear c50b0
                  try clear c51
                  try clear c52
                  try clear c52b0
                  try clear c52b1
                  try clear c52b2
                  try clear c54
                  try clear c54b0
                  try clear c54b1
                  try clear c56
                  try clear p64
                  try clear c72
                  try clear c73
                  try clear c74
                  try clear c74b0
                  try clear c74b1
                  try clear c75
                  try clear c75b0
                  try clear c76
                  try clear c77
                  try clear c78
                  try clear c78b0
                  try clear c78b1
                  try clear c79
                  try clear c80
                  try clear c83
                  try clear c84
                  try clear c84b0
                  try clear c86
                  try clear c87
                  try clear c87b0
                  try clear c87b1
                  try clear c90
                  try clear c91
                  try clear c91b0
                  try clear c100
                  try clear c100b0
                  try clear c100b1
                  try clear c100b2
                  try clear c101
                  try clear c103
                  try clear c106
                  try clear c107
                  try clear c108
                  try clear c108b0
                  try clear c108b1
                  try clear c118
                  try clear c118b0
                  try clear c118b1
                  try clear c118b2
                  try clear c119
                  try clear c121
                  try clear c125
                  try clear c127
                  try clear c128
                  try clear c129
                  try clear c130
                  try clear c130b0
                  try clear c130b1
                  try clear hx438_0
                  try clear p2
                  try clear p4
                  try clear p43
                  try clear p438
                  try clear p6
                  try clear p64
                  try clear q4
                  try clear q43
                  try clear q438
                  obtain ⟨kq, HA, HJ119, HB⟩ := hcut
                  cases kq with
                  | zero => exact absurd HA.out (by simp [laws_FnNecklacesShared.j9])
                  | succ kj119 =>
                   have H := HA.out
                   clear HA
                   simp only [laws_FnNecklacesShared.j9] at H
                   replace H := EA H
                   obtain ⟨t486, A139, H⟩ := H
                   replace H := EA H
                   obtain ⟨⟨t487, t488⟩, A140, H⟩ := H
                   try dsimp only at H
                   replace H := EA H
                   obtain ⟨⟨t489, t490⟩, A141, H⟩ := H
                   try dsimp only at H
                   replace H := EA H
                   obtain ⟨⟨t491, t492⟩, A142, H⟩ := H
                   try dsimp only at H
                   replace H := EA H
                   obtain ⟨⟨t495, t496⟩, A143, H⟩ := H
                   try dsimp only at H
                   replace H := EA H
                   obtain ⟨⟨t497, t498⟩, A144, H⟩ := H
                   try dsimp only at H
                   have HC145 := Aside0.mk H
                   clear H
                   go_upto_region 67 with (first | ((with_reducible refine gate_callee (f := 27) rfl ?_); refine goesL_ (some 411) rfl rfl Tryz.func27 (by kernel_rfl) rfl #[.slice A1 l1.length c1] rfl TA ?_; (with_reducible refine (spec_DrawReverseBeads.calls kj119 _ _ l1 t486 _ ?side1 ?side2 A139.out).mono ?_); (case side1 => exact CW (Kd.C_below HR1.out HB.out)); (case side2 => exact HC1.out); rintro e w146 ⟨rfl, hb⟩; refine ⟨_, rfl, ?_⟩; have n0_ := Aside0.mk (below_step BB hb); clear HB; have HB := n0_; clear n0_; (try clear hb); (try clear hb2); (try clear hk); (try clear hi)) | ((with_reducible refine gate_callee (f := 19) rfl ?_); refine goesL_ (some 414) rfl rfl Tryz.func19 (by kernel_rfl) rfl #[.string t486] rfl TA ?_; (with_reducible refine (impl_ReverseBeads.calls t486 t487 t488 _ A140.out).mono ?_); rintro e w147 ⟨rfl, hb⟩; refine ⟨_, rfl, ?_⟩; have n0_ := Aside0.mk (below_step BB hb); clear HB; have HB := n0_; clear n0_; (try clear hb); (try clear hb2); (try clear hk); (try clear hi)) | ((with_reducible refine gate_callee (f := 28) rfl ?_); refine goesL_ (some 419) rfl rfl Tryz.func28 (by kernel_rfl) rfl #[.string t486] rfl TA ?_; (with_reducible refine (spec_ReverseBeads.calls kj119 t486 t489 t490 _ A141.out).mono ?_); rintro e w' ⟨rfl, ⟨nd, rfl⟩⟩; refine ⟨_, rfl, ?_⟩) | ((with_reducible refine gate_callee (f := 29) rfl ?_); refine goesL_ (some 424) rfl rfl Tryz.func29 (by kernel_rfl) rfl #[.slice A1 l1.length c1] rfl TA ?_; (with_reducible refine (spec_DrawRenameBeads.calls kj119 _ _ l1 t491 t492 _ ?side1 ?side2 A142.out).mono ?_); (case side1 => exact CW (Kd.C_below HR1.out BB)); (case side2 => exact HC1.out); rintro e w148 ⟨v493, rfl, ho0, hb⟩; refine ⟨_, rfl, ?_⟩; have n0_ := Aside0.mk (Kd.V_lower (Kd.V_mono (ok' := fun k_ => True) ho0 (fun k_ hk_ => trivial)) (below_size BB)); have n1_ := Aside0.mk (below_step BB hb); clear HB; have HO494 := n0_; have HB := n1_; clear n0_ n1_; (try clear hb); (try clear hb2); (try clear hk); (try clear hi); (try clear ho0); obtain ⟨Ao149, co149, eo149⟩ := Kd.V_slice HO494.out; subst eo149) | ((with_reducible refine gate_callee (f := 20) rfl ?_); refine goesL_ (some 430) rfl rfl Tryz.func20 (by kernel_rfl) rfl #[.string t491, .slice Ao149 t492.length co149] rfl TA ?_; (with_reducible refine (impl_RenameBeads.calls t491 _ _ t492 t495 t496 _ ?side1 ?side2 A143.out).mono ?_); (case side1 => exact CW (Kd.V_reads' HO494.out).2.2); (case side2 => exact (Kd.V_reads' HO494.out).2.1); rintro e w150 ⟨rfl, hb⟩; refine ⟨_, rfl, ?_⟩; have n0_ := Aside0.mk (Kd.V_below (by (with_reducible repeat (first | apply Kd.V_alloc | apply Kd.V_drewN | apply Kd.V_drew)); exact HO494.out) hb); have n1_ := Aside0.mk (below_step BB hb); clear HO494; clear HB; have HO494 := n0_; have HB := n1_; clear n0_ n1_; (try clear hb); (try clear hb2); (try clear hk); (try clear hi)) | ((with_reducible refine gate_callee (f := 30) rfl ?_); refine goesL_ (some 436) rfl rfl Tryz.func30 (by kernel_rfl) rfl #[.string t491, .slice Ao149 t492.length co149] rfl TA ?_; (with_reducible refine (spec_RenameBeads.calls kj119 t491 _ _ t492 t497 t498 _ ?side1 ?side2 A144.out).mono ?_); (case side1 => exact CW (Kd.V_reads' HO494.out).2.2); (case side2 => exact (Kd.V_reads' HO494.out).2.1); rintro e w' ⟨rfl, ⟨nd, rfl⟩⟩; refine ⟨_, rfl, ?_⟩))
                   (try simp only [Act.put, List.setIfInBounds_toArray, List.set_cons_zero, List.set_cons_succ])
                   go_cut [456] from 375 to 456 (fun v456 wc => ∃ (kq : Nat) (x456_144 : Bool), v456 = .bool x456_144 ∧ Aside0 (laws_FnNecklacesShared.j10 kq t486 t487 t488 x456_144 = some r) ∧ Aside0 (kq ≤ kj119) ∧ Aside0 (Below w.heap.size w wc))
                   case first => as_aux_lemma =>
                    have H := HC145.out
                    clear HC145
                    by_cases c151 : (t488 != t490) = true
                    ·rw [if_pos c151] at H
                     cases H
                    ·rw [if_neg c151] at H
                     have c151b0 : (t488 != t490) = false := by simpa using c151
                     (try (have c151b1 : decide (t488 = t490) = true := by simpa using c151))
                     (try (have c151b2 : (t488 == t490) = true := by simpa using c151))
                     clear c151
                     (first | rw [c151b0] | (simp only [i64_w, i32_w]; rw [c151b0]) | skip)
                     by_cases c152 : t487.toList = t489.toList
                     ·rw [if_pos c152] at H
                      have c152b0 : (t487.toList == t489.toList) = true := beq_iff_eq.mpr c152
                      have c152b1 : (t487.toList != t489.toList) = false := bne_eq_false_iff_eq.mpr c152
                      clear c152
                      by_cases c153 : (t496 != t498) = true
                      ·rw [if_pos c153] at H
                       cases H
                      ·rw [if_neg c153] at H
                       have c153b0 : (t496 != t498) = false := by simpa using c153
                       (try (have c153b1 : decide (t496 = t498) = true := by simpa using c153))
                       (try (have c153b2 : (t496 == t498) = true := by simpa using c153))
                       clear c153
                       have H' := Aside0.mk H
                       clear H
                       go_wp2
                       go_meet
                       case rel => exact ⟨_, ((t495.toList != t497.toList)), RF, H', ⟨by have := HJ13.out; have := HJ44.out; have := HJ54.out; have := HJ95.out; have := HJ101.out; have := HJ113.out; have := HJ119.out; first | omega | exact Nat.le_refl _⟩, ⟨BB⟩⟩
                     ·rw [if_neg c152] at H
                      cases H
                   case rest => as_aux_lemma =>
                    clear HC145
                    try clear c1
                    try clear c2
                    try clear p2
                    try clear c3
                    try clear c4
                    try clear p4
                    try clear q4
                    try clear hx4
                    try clear c5
                    try clear c6
                    try clear p6
                    try clear c7
                    try clear c8
                    try clear c9
                    try clear c10
                    try clear c11
                    try clear c12
                    try clear c13
                    try clear c15
                    try clear c18
                    try clear c19
                    try clear c20
                    try clear c21
                    try clear c22
                    try clear c23
                    try clear c24
                    try clear c24b0
                    try clear c24b1
                    try clear c24b2
                    try clear c25
                    try clear c26
                    try clear c27
                    try clear c27b0
                    try clear c27b1
                    try clear c27b2
                    try clear c28
                    try clear c28b0
                    try clear c28b1
                    try clear c29
                    try clear c29b0
                    try clear c29b1
                    try clear c29b2
                    try clear c30
                    try clear c31
                    try clear c32
                    try clear c32b0
                    try clear c32b1
                    try clear c32b2
                    try clear c33
                    try clear c33b0
                    try clear c33b1
                    try clear c34
                    try clear c34b0
                    try clear c34b1
                    try clear c34b2
                    try clear c36
                    try clear c36b0
                    try clear c36b1
                    try clear c36b2
                    try clear c38
                    try clear c38b0
                    try clear c38b1
                    try clear c38b2
                    try clear p43
                    try clear q43
                    try clear hx43
                    try clear c44
                    try clear c46
                    try clear c48
                    try clear c48b0
                    try clear c49
                    try clear c49b0
                    try clear c50
                    try clear c50b0
                    try clear c51
                    try clear c52
                    try clear c52b0
                    try clear c52b1
                    try clear c52b2
                    try clear c54
                    try clear c54b0
                    try clear c54b1
                    try clear c56
                    try clear p64
                    try clear c72
                    try clear c73
                    try clear c74
                    try clear c74b0
                    try clear c74b1
                    try clear c75
                    try clear c75b0
                    try clear c76
                    try clear c77
                    try clear c78
                    try clear c78b0
                    try clear c78b1
                    try clear c79
                    try clear c80
                    try clear c83
                    try clear c84
                    try clear c84b0
                    try clear c86
                    try clear c87
                    try clear c87b0
                    try clear c87b1
                    try clear c90
                    try clear c91
                    try clear c91b0
                    try clear c100
                    try clear c100b0
                    try clear c100b1
                    try clear c100b2
                    try clear c101
                    try clear c103
                    try clear c106
                    try clear c107
                    try clear c108
                    try clear c108b0
                    try clear c108b1
                    try clear c118
                    try clear c118b0
                    try clear c118b1
                    try clear c118b2
                    try clear c119
                    try clear c121
                    try clear c125
                    try clear c127
                    try clear c128
                    try clear c129
                    try clear c130
                    try clear c130b0
                    try clear c130b1
                    try clear c151
                    try clear c151b0
                    try clear c151b1
                    try clear c151b2
                    try clear c152
                    try clear c152b0
                    try clear c152b1
                    try clear c153
                    try clear c153b0
                    try clear c153b1
                    try clear c153b2
                    try clear hx438_0
                    try clear p2
                    try clear p4
                    try clear p43
                    try clear p438
                    try clear p6
                    try clear p64
                    try clear q4
                    try clear q43
                    try clear q438
                    obtain ⟨kq, x456_144, rfl, HA, HJ144, HB⟩ := hcut
                    cases kq with
                    | zero => exact absurd HA.out (by simp [laws_FnNecklacesShared.j10])
                    | succ kj144 =>
                     have H := HA.out
                     clear HA
                     simp only [laws_FnNecklacesShared.j10] at H
                     by_cases c154 : x456_144 = true
                     ·subst c154
                      replace H := IP H
                      cases H
                     ·replace c154 := Bool.eq_false_iff.mpr c154
                      subst c154
                      replace H := IN H
                      by_cases c155 : t488 = true
                      ·subst c155
                       replace H := IP H
                       replace H := EA H
                       obtain ⟨⟨t499, t500⟩, A156, H⟩ := H
                       try dsimp only at H
                       by_cases c157 : t500 = true
                       ·subst c157
                        replace H := IP H
                        obtain rfl := Option.some.inj H
                        go_wp2_with (first | ((with_reducible refine gate_callee (f := 19) rfl ?_); refine goesL_ (some 460) rfl rfl Tryz.func19 (by kernel_rfl) rfl #[.string t487] rfl TA ?_; (with_reducible refine (impl_ReverseBeads.calls t487 t499 true _ A156.out).mono ?_); rintro e w158 ⟨rfl, hb⟩; refine ⟨_, rfl, ?_⟩; have n0_ := Aside0.mk (below_step BB hb); clear HB; have HB := n0_; clear n0_; (try clear hb); (try clear hb2); (try clear hk); (try clear hi)))
                        go_ret
                        exact ⟨RE, BB⟩
                       ·replace c157 := Bool.eq_false_iff.mpr c157
                        subst c157
                        replace H := IN H
                        cases H
                      ·replace c155 := Bool.eq_false_iff.mpr c155
                       subst c155
                       replace H := IN H
                       obtain rfl := Option.some.inj H
                       go_wp2
                       go_ret
                       exact ⟨RE, BB⟩

/-- THE ONE PURE STATEMENT of laws_FnNecklacesShared: yours. -/
def laws_FnNecklacesShared.Pure : Prop := ∀ (l0 : List Int) (l1 : List Int), l0.length ≤ maxLen → l0.length * 1 ≤ 140737488351232 → (∀ x ∈ l0, (Lit.int .u8 x).wf = true) → l1.length ≤ maxLen → l1.length * 1 ≤ 140737488351232 → (∀ x ∈ l1, (Lit.int .u8 x).wf = true) → ∃ k, laws_FnNecklacesShared.f k l0 l1 = some true
theorem laws_FnNecklacesShared.walk (P : laws_FnNecklacesShared.Pure) (a0 : Option Addr) (len0 cap0 : Nat) (z0 : List Int) (a1 : Option Addr) (len1 cap1 : Nat) (z1 : List Int) (w : World) (w0 : (a0 = none ∧ len0 = 0 ∧ cap0 = 0 ∧ z0 = []) ∨ ∃ x, a0 = some x ∧ len0 ≤ cap0 ∧ cap0 ≤ maxLen ∧ z0.length = cap0 ∧ (∀ i, i < z0.length → w.cell? (x.add i) = some (.int .u8 (z0.getD i 0))) ∧ ∀ n ∈ z0, (Lit.int .u8 n).wf = true) (y0 : len0 * 1 ≤ 140737488351232) (w1 : (a1 = none ∧ len1 = 0 ∧ cap1 = 0 ∧ z1 = []) ∨ ∃ x, a1 = some x ∧ len1 ≤ cap1 ∧ cap1 ≤ maxLen ∧ z1.length = cap1 ∧ (∀ i, i < z1.length → w.cell? (x.add i) = some (.int .u8 (z1.getD i 0))) ∧ ∀ n ∈ z1, (Lit.int .u8 n).wf = true) (y1 : len1 * 1 ≤ 140737488351232) :
  Calls Tryz.prog 3 #[.slice a0 len0 cap0, .slice a1 len1 cap1] w fun e w' => e = .returned (.bool true) ∧ Below w.heap.size w w' := by
 obtain ⟨l0, rfl, hr0, hm0, hw0, hc0⟩ := ReadsInt.ofRowC w0
 obtain ⟨l1, rfl, hr1, hm1, hw1, hc1⟩ := ReadsInt.ofRowC w1
 obtain ⟨k, h⟩ := P l0 l1 hm0 y0 hw0 hm1 y1 hw1
 refine (laws_FnNecklacesShared.calls k _ _ l0 _ _ l1 true w (Kd.C_of_reads (d := (0 : Int)) (h1 := fun _ => rfl) hr0) hc0 (Kd.C_of_reads (d := (0 : Int)) (h1 := fun _ => rfl) hr1) hc1 h).mono ?_
 rintro e w' ⟨rfl, hd⟩
 exact ⟨rfl, hd⟩

end Go.Proofs.YthkdkgbcokpbaacGreatDoor.PFnNecklacesShared
