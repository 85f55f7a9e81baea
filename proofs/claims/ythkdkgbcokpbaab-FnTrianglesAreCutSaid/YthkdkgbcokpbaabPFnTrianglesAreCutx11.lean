-- Written by a program of this session (wip/tools/pp.sh) out of the translation; Lean checks it.
import Derived.Test.YthkdkgbcokpbaabPFnTrianglesAreCutx0
import Derived.Test.YthkdkgbcokpbaabPFnTrianglesAreCutx1
import Derived.Test.YthkdkgbcokpbaabPFnTrianglesAreCutx2
import Derived.Test.YthkdkgbcokpbaabPFnTrianglesAreCutx3
import Derived.Test.YthkdkgbcokpbaabPFnTrianglesAreCutx4
import Derived.Test.YthkdkgbcokpbaabPFnTrianglesAreCutx5
import Derived.Test.YthkdkgbcokpbaabPFnTrianglesAreCutx7
import Derived.Test.YthkdkgbcokpbaabPFnTrianglesAreCutx8
import Derived.Test.YthkdkgbcokpbaabPFnTrianglesAreCutx9
import Derived.Test.YthkdkgbcokpbaabPFnTrianglesAreCutx10
namespace Go.Proofs.Ythkdkgbcokpbaab.PFnTrianglesAreCut
open Go.RowKit Go.Proofs.YthkdkgbcokpbaabOwn Go.Proofs.YthkdkgbcokpbaabW.PrintWords Go.Proofs.YthkdkgbcokpbaabW.PrintLast Go.Proofs.YthkdkgbcokpbaabW.PrintMore
attribute [local go_sem] max2_int min2_int max_two min_two max_three min_three max_four min_four   -- for this text's walks alone
set_option linter.unusedVariables false
set_option maxHeartbeats 8000000
set_option maxRecDepth 100000
set_option linter.unusedSimpArgs false

/-! ### laws_FnTrianglesAreCut: function 3 -/
mutual
def laws_FnTrianglesAreCut.j0 : Nat → List Int → List Int → Int → Int → List Int → Bool → List Int → List Int → Bool → Option (Bool)
 | 0, _, _, _, _, _, _, _, _, _ => none
 | k + 1, x0, x1, x5, x6, x7, x8, x11, x15, x144 => if x144 = true then (none) else (if x8 = true then ((impl_IndexOfPoint.f k x5 x7).bind fun bt459 => (if bt459.2 = true then (if bt459.1 = x6 then ((laws_uSum.f k x7).bind fun t461 => (laws_FnTrianglesAreCut.j1 k x0 x1 x5 x6 x11 x15 (t461 != x5))) else (none)) else (none))) else (laws_FnTrianglesAreCut.j4 k x0 x1))
def laws_FnTrianglesAreCut.j4 : Nat → List Int → List Int → Option (Bool)
 | 0, _, _ => none
 | k + 1, x0, x1 => (spec_DrawIndexOfPoint.f k x1).bind fun bt477 => ((impl_IndexOfPoint.f k bt477.1 bt477.2).bind fun bt481 => ((spec_IndexOfPoint.f k bt477.1 bt477.2).bind fun bt483 => (if (bt481.2 != bt483.2) = true then (none) else (laws_FnTrianglesAreCut.j5 k x0 x1 (bt481.1 != bt483.1)))))
def laws_FnTrianglesAreCut.j5 : Nat → List Int → List Int → Bool → Option (Bool)
 | 0, _, _, _ => none
 | k + 1, x0, x1, x247 => if x247 = true then (none) else ((spec_DrawCellsOf.f x1).bind fun t485 => ((impl_CellsOf.f k t485).bind fun bt486 => ((spec_CellsOf.f k t485).bind fun bt490 => (if (bt486.2 != bt490.2) = true then (none) else ((laws_uSameRows.f k bt486.1 bt490.1).bind fun t494 => (laws_FnTrianglesAreCut.j6 k x0 t485 bt486.1 bt486.2 (!t494)))))))
def laws_FnTrianglesAreCut.j6 : Nat → List Int → Int → List (List Int) → Bool → Bool → Option (Bool)
 | 0, _, _, _, _, _ => none
 | k + 1, x0, x35, x36, x37, x268 => if x268 = true then (none) else (if x37 = true then (laws_FnTrianglesAreCut.l1 k x0 x35 x36 0 x36 (x36.length : Int) 0) else (laws_FnTrianglesAreCut.j9 k x0))
def laws_FnTrianglesAreCut.j9 : Nat → List Int → Option (Bool)
 | 0, _ => none
 | k + 1, x0 => (spec_DrawCellsWith.f x0).bind fun bt502 => ((impl_CellsWith.f k bt502.1 bt502.2.1 bt502.2.2).bind fun bt505 => ((spec_CellsWith.f k bt502.1 bt502.2.1 bt502.2.2).bind fun bt509 => ((spec_DrawIsUpCell.f x0).bind fun bt513 => ((impl_IsUpCell.f k bt513.1 bt513.2).bind fun bt515 => ((spec_IsUpCell.f k bt513.1 bt513.2).bind fun bt517 => (if (bt505.2 == bt509.2) = true then ((laws_uSame.f k bt505.1 bt509.1).bind fun t519 => (if t519 = true then (if (bt515.2 == bt517.2) = true then (some (bt515.1 == bt517.1)) else (none)) else (none))) else (none)))))))
def laws_FnTrianglesAreCut.l1 : Nat → List Int → Int → List (List Int) → Int → List (List Int) → Int → Int → Option (Bool)
 | 0, _, _, _, _, _, _, _ => none
 | k + 1, x0, x35, x36, x40, x270, x271, x272 => if x272 < x271 then (if 0 ≤ x272 then (if x272 < (x270.length : Int) then ((impl_IsUpCell.f k x35 x272).bind fun bt498 => (if bt498.2 = true then (if x272 > 0 then (if 0 ≤ (wrap64 (x272 - 1)) then (if (wrap64 (x272 - 1)) < (x36.length : Int) then ((laws_uLess.f k (rd_L3 x36 (wrap64 (x272 - 1))) (rd_L3 x270 x272)).bind fun t501 => (laws_FnTrianglesAreCut.j8 k x0 x35 x36 x40 bt498.1 x270 x271 x272 (!t501))) else (none)) else (none)) else (laws_FnTrianglesAreCut.j8 k x0 x35 x36 x40 bt498.1 x270 x271 x272 false)) else (none))) else (none)) else (none)) else ((impl_CountPoints.f x35).bind fun bt495 => (if (x36.length : Int) = (wrap64 (x35 * x35)) then (if x40 = (wrap64 (Int.tdiv (wrap64 (x35 * (wrap64 (x35 + 1)))) 2)) then (if bt495.2 = true then (if bt495.1 = (wrap64 (Int.tdiv (wrap64 ((wrap64 (x35 + 1)) * (wrap64 (x35 + 2)))) 2)) then (laws_FnTrianglesAreCut.j9 k x0) else (none)) else (none)) else (none)) else (none)))
def laws_FnTrianglesAreCut.j8 : Nat → List Int → Int → List (List Int) → Int → Bool → List (List Int) → Int → Int → Bool → Option (Bool)
 | 0, _, _, _, _, _, _, _, _, _ => none
 | k + 1, x0, x35, x36, x40, x43, x270, x271, x272, x298 => if x298 = true then (none) else (if x43 = true then (laws_FnTrianglesAreCut.l1 k x0 x35 x36 (wrap64 (x40 + 1)) x270 x271 (wrap64 (x272 + 1))) else (laws_FnTrianglesAreCut.l1 k x0 x35 x36 x40 x270 x271 (wrap64 (x272 + 1))))
def laws_FnTrianglesAreCut.j1 : Nat → List Int → List Int → Int → Int → List Int → List Int → Bool → Option (Bool)
 | 0, _, _, _, _, _, _, _ => none
 | k + 1, x0, x1, x5, x6, x11, x15, x164 => if x164 = true then (none) else ((impl_BorderOf.f k x5).bind fun bt462 => (if bt462.2 = true then ((laws_uHas.f k bt462.1 x6).bind fun t466 => (laws_FnTrianglesAreCut.j2 k x0 x1 x5 x6 x11 (t466 != (decide ((x15.length : Int) > 0))))) else (none)))
def laws_FnTrianglesAreCut.j2 : Nat → List Int → List Int → Int → Int → List Int → Bool → Option (Bool)
 | 0, _, _, _, _, _, _ => none
 | k + 1, x0, x1, x5, x6, x11, x180 => if x180 = true then (none) else (laws_FnTrianglesAreCut.l0 k x0 x1 x5 x6 x11 (x11.length : Int) 0)
def laws_FnTrianglesAreCut.l0 : Nat → List Int → List Int → Int → Int → List Int → Int → Int → Option (Bool)
 | 0, _, _, _, _, _, _, _ => none
 | k + 1, x0, x1, x5, x6, x181, x182, x183 => if x183 < x182 then (if 0 ≤ x183 then (if x183 < (x181.length : Int) then ((impl_NeighboursOf.f k x5 (rd x181 x183)).bind fun bt468 => ((impl_CellsWith.f k x5 x6 (rd x181 x183)).bind fun bt472 => (if bt468.2 = true then ((laws_uHas.f k bt468.1 x6).bind fun t476 => (if t476 = true then (if bt472.2 = true then (if (bt472.1.length : Int) < 1 then (none) else (if (bt472.1.length : Int) > 2 then (none) else (laws_FnTrianglesAreCut.l0 k x0 x1 x5 x6 x181 x182 (wrap64 (x183 + 1))))) else (none)) else (none))) else (none)))) else (none)) else (none)) else (laws_FnTrianglesAreCut.j4 k x0 x1)
end
def laws_FnTrianglesAreCut.f (k : Nat) (l0 : List Int) (l1 : List Int) : Option (Bool) := (laws_big.f l0 l1).bind fun t429 => (if t429 = true then (some true) else ((spec_DrawPointAt.f l0).bind fun bt430 => ((impl_PointAt.f k bt430.1 bt430.2).bind fun bt432 => ((spec_PointAt.f k bt430.1 bt430.2).bind fun bt436 => ((impl_NeighboursOf.f k bt430.1 bt430.2).bind fun bt440 => ((spec_NeighboursOf.f k bt430.1 bt430.2).bind fun bt444 => ((impl_SidesOf.f k bt430.1 bt430.2).bind fun bt448 => ((spec_SidesOf.f k bt430.1 bt430.2).bind fun bt452 => (if (bt432.2 != bt436.2) = true then (none) else ((laws_uSame.f k bt432.1 bt436.1).bind fun t456 => (if t456 = true then (if (bt440.2 != bt444.2) = true then (none) else ((laws_uSame.f k bt440.1 bt444.1).bind fun t457 => (if t457 = true then (if (bt448.2 != bt452.2) = true then (none) else ((laws_uSame.f k bt448.1 bt452.1).bind fun t458 => (if t458 = true then (if (bt440.2 != bt432.2) = true then (none) else (laws_FnTrianglesAreCut.j0 k l0 l1 bt430.1 bt430.2 bt432.1 bt432.2 bt440.1 bt448.1 (bt448.2 != bt432.2))) else (none)))) else (none)))) else (none))))))))))))
theorem laws_FnTrianglesAreCut.mono_l : ∀ k, (∀ y0 y1 y2 y3 y4 y5 y6 y7 y8, LeO (laws_FnTrianglesAreCut.j0 k y0 y1 y2 y3 y4 y5 y6 y7 y8) (laws_FnTrianglesAreCut.j0 (k + 1) y0 y1 y2 y3 y4 y5 y6 y7 y8)) ∧ (∀ y0 y1, LeO (laws_FnTrianglesAreCut.j4 k y0 y1) (laws_FnTrianglesAreCut.j4 (k + 1) y0 y1)) ∧ (∀ y0 y1 y2, LeO (laws_FnTrianglesAreCut.j5 k y0 y1 y2) (laws_FnTrianglesAreCut.j5 (k + 1) y0 y1 y2)) ∧ (∀ y0 y1 y2 y3 y4, LeO (laws_FnTrianglesAreCut.j6 k y0 y1 y2 y3 y4) (laws_FnTrianglesAreCut.j6 (k + 1) y0 y1 y2 y3 y4)) ∧ (∀ y0, LeO (laws_FnTrianglesAreCut.j9 k y0) (laws_FnTrianglesAreCut.j9 (k + 1) y0)) ∧ (∀ y0 y1 y2 y3 y4 y5 y6, LeO (laws_FnTrianglesAreCut.l1 k y0 y1 y2 y3 y4 y5 y6) (laws_FnTrianglesAreCut.l1 (k + 1) y0 y1 y2 y3 y4 y5 y6)) ∧ (∀ y0 y1 y2 y3 y4 y5 y6 y7 y8, LeO (laws_FnTrianglesAreCut.j8 k y0 y1 y2 y3 y4 y5 y6 y7 y8) (laws_FnTrianglesAreCut.j8 (k + 1) y0 y1 y2 y3 y4 y5 y6 y7 y8)) ∧ (∀ y0 y1 y2 y3 y4 y5 y6, LeO (laws_FnTrianglesAreCut.j1 k y0 y1 y2 y3 y4 y5 y6) (laws_FnTrianglesAreCut.j1 (k + 1) y0 y1 y2 y3 y4 y5 y6)) ∧ (∀ y0 y1 y2 y3 y4 y5, LeO (laws_FnTrianglesAreCut.j2 k y0 y1 y2 y3 y4 y5) (laws_FnTrianglesAreCut.j2 (k + 1) y0 y1 y2 y3 y4 y5)) ∧ (∀ y0 y1 y2 y3 y4 y5 y6, LeO (laws_FnTrianglesAreCut.l0 k y0 y1 y2 y3 y4 y5 y6) (laws_FnTrianglesAreCut.l0 (k + 1) y0 y1 y2 y3 y4 y5 y6))
 | 0 => ⟨fun _ _ _ _ _ _ _ _ _ r h => by simp [laws_FnTrianglesAreCut.j0] at h, fun _ _ r h => by simp [laws_FnTrianglesAreCut.j4] at h, fun _ _ _ r h => by simp [laws_FnTrianglesAreCut.j5] at h, fun _ _ _ _ _ r h => by simp [laws_FnTrianglesAreCut.j6] at h, fun _ r h => by simp [laws_FnTrianglesAreCut.j9] at h, fun _ _ _ _ _ _ _ r h => by simp [laws_FnTrianglesAreCut.l1] at h, fun _ _ _ _ _ _ _ _ _ r h => by simp [laws_FnTrianglesAreCut.j8] at h, fun _ _ _ _ _ _ _ r h => by simp [laws_FnTrianglesAreCut.j1] at h, fun _ _ _ _ _ _ r h => by simp [laws_FnTrianglesAreCut.j2] at h, fun _ _ _ _ _ _ _ r h => by simp [laws_FnTrianglesAreCut.l0] at h⟩
 | k + 1 => by
  obtain ⟨ih0, ih1, ih2, ih3, ih4, ih5, ih6, ih7, ih8, ih9⟩ := laws_FnTrianglesAreCut.mono_l k
  refine ⟨?_, ?_, ?_, ?_, ?_, ?_, ?_, ?_, ?_, ?_⟩
  ·intro y0 y1 y2 y3 y4 y5 y6 y7 y8
   unfold laws_FnTrianglesAreCut.j0
   repeat' first
   | with_reducible first | exact ih0 _ _ _ _ _ _ _ _ _ | exact ih1 _ _ | exact ih2 _ _ _ | exact ih3 _ _ _ _ _ | exact ih4 _ | exact ih5 _ _ _ _ _ _ _ | exact ih6 _ _ _ _ _ _ _ _ _ | exact ih7 _ _ _ _ _ _ _ | exact ih8 _ _ _ _ _ _ | exact ih9 _ _ _ _ _ _ _ | exact impl_BorderOf.mono _ _ | exact impl_CellsOf.mono _ _ | exact impl_CellsWith.mono _ _ _ _ | exact impl_IndexOfPoint.mono _ _ _ | exact impl_IsUpCell.mono _ _ _ | exact impl_NeighboursOf.mono _ _ _ | exact impl_PointAt.mono _ _ _ | exact impl_SidesOf.mono _ _ _ | exact laws_uHas.mono _ _ _ | exact laws_uLess.mono _ _ _ | exact laws_uSame.mono _ _ _ | exact laws_uSameRows.mono _ _ _ | exact laws_uSum.mono _ _ | exact spec_CellsOf.mono _ _ | exact spec_CellsWith.mono _ _ _ _ | exact spec_DrawIndexOfPoint.mono _ _ | exact spec_IndexOfPoint.mono _ _ _ | exact spec_IsUpCell.mono _ _ _ | exact spec_NeighboursOf.mono _ _ _ | exact spec_PointAt.mono _ _ _ | exact spec_SidesOf.mono _ _ _ | exact LeO.refl _ | exact LeO.none _ | refine LeO.ite ?_ ?_ | refine LeO.bind ?_ (fun _ => ?_)
   | exact LeO.none _ | refine LeO.ite ?_ ?_ | refine LeO.bind ?_ (fun _ => ?_)
  ·intro y0 y1
   unfold laws_FnTrianglesAreCut.j4
   repeat' first
   | with_reducible first | exact ih0 _ _ _ _ _ _ _ _ _ | exact ih1 _ _ | exact ih2 _ _ _ | exact ih3 _ _ _ _ _ | exact ih4 _ | exact ih5 _ _ _ _ _ _ _ | exact ih6 _ _ _ _ _ _ _ _ _ | exact ih7 _ _ _ _ _ _ _ | exact ih8 _ _ _ _ _ _ | exact ih9 _ _ _ _ _ _ _ | exact impl_BorderOf.mono _ _ | exact impl_CellsOf.mono _ _ | exact impl_CellsWith.mono _ _ _ _ | exact impl_IndexOfPoint.mono _ _ _ | exact impl_IsUpCell.mono _ _ _ | exact impl_NeighboursOf.mono _ _ _ | exact impl_PointAt.mono _ _ _ | exact impl_SidesOf.mono _ _ _ | exact laws_uHas.mono _ _ _ | exact laws_uLess.mono _ _ _ | exact laws_uSame.mono _ _ _ | exact laws_uSameRows.mono _ _ _ | exact laws_uSum.mono _ _ | exact spec_CellsOf.mono _ _ | exact spec_CellsWith.mono _ _ _ _ | exact spec_DrawIndexOfPoint.mono _ _ | exact spec_IndexOfPoint.mono _ _ _ | exact spec_IsUpCell.mono _ _ _ | exact spec_NeighboursOf.mono _ _ _ | exact spec_PointAt.mono _ _ _ | exact spec_SidesOf.mono _ _ _ | exact LeO.refl _ | exact LeO.none _ | refine LeO.ite ?_ ?_ | refine LeO.bind ?_ (fun _ => ?_)
   | exact LeO.none _ | refine LeO.ite ?_ ?_ | refine LeO.bind ?_ (fun _ => ?_)
  ·intro y0 y1 y2
   unfold laws_FnTrianglesAreCut.j5
   repeat' first
   | with_reducible first | exact ih0 _ _ _ _ _ _ _ _ _ | exact ih1 _ _ | exact ih2 _ _ _ | exact ih3 _ _ _ _ _ | exact ih4 _ | exact ih5 _ _ _ _ _ _ _ | exact ih6 _ _ _ _ _ _ _ _ _ | exact ih7 _ _ _ _ _ _ _ | exact ih8 _ _ _ _ _ _ | exact ih9 _ _ _ _ _ _ _ | exact impl_BorderOf.mono _ _ | exact impl_CellsOf.mono _ _ | exact impl_CellsWith.mono _ _ _ _ | exact impl_IndexOfPoint.mono _ _ _ | exact impl_IsUpCell.mono _ _ _ | exact impl_NeighboursOf.mono _ _ _ | exact impl_PointAt.mono _ _ _ | exact impl_SidesOf.mono _ _ _ | exact laws_uHas.mono _ _ _ | exact laws_uLess.mono _ _ _ | exact laws_uSame.mono _ _ _ | exact laws_uSameRows.mono _ _ _ | exact laws_uSum.mono _ _ | exact spec_CellsOf.mono _ _ | exact spec_CellsWith.mono _ _ _ _ | exact spec_DrawIndexOfPoint.mono _ _ | exact spec_IndexOfPoint.mono _ _ _ | exact spec_IsUpCell.mono _ _ _ | exact spec_NeighboursOf.mono _ _ _ | exact spec_PointAt.mono _ _ _ | exact spec_SidesOf.mono _ _ _ | exact LeO.refl _ | exact LeO.none _ | refine LeO.ite ?_ ?_ | refine LeO.bind ?_ (fun _ => ?_)
   | exact LeO.none _ | refine LeO.ite ?_ ?_ | refine LeO.bind ?_ (fun _ => ?_)
  ·intro y0 y1 y2 y3 y4
   unfold laws_FnTrianglesAreCut.j6
   repeat' first
   | with_reducible first | exact ih0 _ _ _ _ _ _ _ _ _ | exact ih1 _ _ | exact ih2 _ _ _ | exact ih3 _ _ _ _ _ | exact ih4 _ | exact ih5 _ _ _ _ _ _ _ | exact ih6 _ _ _ _ _ _ _ _ _ | exact ih7 _ _ _ _ _ _ _ | exact ih8 _ _ _ _ _ _ | exact ih9 _ _ _ _ _ _ _ | exact impl_BorderOf.mono _ _ | exact impl_CellsOf.mono _ _ | exact impl_CellsWith.mono _ _ _ _ | exact impl_IndexOfPoint.mono _ _ _ | exact impl_IsUpCell.mono _ _ _ | exact impl_NeighboursOf.mono _ _ _ | exact impl_PointAt.mono _ _ _ | exact impl_SidesOf.mono _ _ _ | exact laws_uHas.mono _ _ _ | exact laws_uLess.mono _ _ _ | exact laws_uSame.mono _ _ _ | exact laws_uSameRows.mono _ _ _ | exact laws_uSum.mono _ _ | exact spec_CellsOf.mono _ _ | exact spec_CellsWith.mono _ _ _ _ | exact spec_DrawIndexOfPoint.mono _ _ | exact spec_IndexOfPoint.mono _ _ _ | exact spec_IsUpCell.mono _ _ _ | exact spec_NeighboursOf.mono _ _ _ | exact spec_PointAt.mono _ _ _ | exact spec_SidesOf.mono _ _ _ | exact LeO.refl _ | exact LeO.none _ | refine LeO.ite ?_ ?_ | refine LeO.bind ?_ (fun _ => ?_)
   | exact LeO.none _ | refine LeO.ite ?_ ?_ | refine LeO.bind ?_ (fun _ => ?_)
  ·intro y0
   unfold laws_FnTrianglesAreCut.j9
   repeat' first
   | with_reducible first | exact ih0 _ _ _ _ _ _ _ _ _ | exact ih1 _ _ | exact ih2 _ _ _ | exact ih3 _ _ _ _ _ | exact ih4 _ | exact ih5 _ _ _ _ _ _ _ | exact ih6 _ _ _ _ _ _ _ _ _ | exact ih7 _ _ _ _ _ _ _ | exact ih8 _ _ _ _ _ _ | exact ih9 _ _ _ _ _ _ _ | exact impl_BorderOf.mono _ _ | exact impl_CellsOf.mono _ _ | exact impl_CellsWith.mono _ _ _ _ | exact impl_IndexOfPoint.mono _ _ _ | exact impl_IsUpCell.mono _ _ _ | exact impl_NeighboursOf.mono _ _ _ | exact impl_PointAt.mono _ _ _ | exact impl_SidesOf.mono _ _ _ | exact laws_uHas.mono _ _ _ | exact laws_uLess.mono _ _ _ | exact laws_uSame.mono _ _ _ | exact laws_uSameRows.mono _ _ _ | exact laws_uSum.mono _ _ | exact spec_CellsOf.mono _ _ | exact spec_CellsWith.mono _ _ _ _ | exact spec_DrawIndexOfPoint.mono _ _ | exact spec_IndexOfPoint.mono _ _ _ | exact spec_IsUpCell.mono _ _ _ | exact spec_NeighboursOf.mono _ _ _ | exact spec_PointAt.mono _ _ _ | exact spec_SidesOf.mono _ _ _ | exact LeO.refl _ | exact LeO.none _ | refine LeO.ite ?_ ?_ | refine LeO.bind ?_ (fun _ => ?_)
   | exact LeO.none _ | refine LeO.ite ?_ ?_ | refine LeO.bind ?_ (fun _ => ?_)
  ·intro y0 y1 y2 y3 y4 y5 y6
   unfold laws_FnTrianglesAreCut.l1
   repeat' first
   | with_reducible first | exact ih0 _ _ _ _ _ _ _ _ _ | exact ih1 _ _ | exact ih2 _ _ _ | exact ih3 _ _ _ _ _ | exact ih4 _ | exact ih5 _ _ _ _ _ _ _ | exact ih6 _ _ _ _ _ _ _ _ _ | exact ih7 _ _ _ _ _ _ _ | exact ih8 _ _ _ _ _ _ | exact ih9 _ _ _ _ _ _ _ | exact impl_BorderOf.mono _ _ | exact impl_CellsOf.mono _ _ | exact impl_CellsWith.mono _ _ _ _ | exact impl_IndexOfPoint.mono _ _ _ | exact impl_IsUpCell.mono _ _ _ | exact impl_NeighboursOf.mono _ _ _ | exact impl_PointAt.mono _ _ _ | exact impl_SidesOf.mono _ _ _ | exact laws_uHas.mono _ _ _ | exact laws_uLess.mono _ _ _ | exact laws_uSame.mono _ _ _ | exact laws_uSameRows.mono _ _ _ | exact laws_uSum.mono _ _ | exact spec_CellsOf.mono _ _ | exact spec_CellsWith.mono _ _ _ _ | exact spec_DrawIndexOfPoint.mono _ _ | exact spec_IndexOfPoint.mono _ _ _ | exact spec_IsUpCell.mono _ _ _ | exact spec_NeighboursOf.mono _ _ _ | exact spec_PointAt.mono _ _ _ | exact spec_SidesOf.mono _ _ _ | exact LeO.refl _ | exact LeO.none _ | refine LeO.ite ?_ ?_ | refine LeO.bind ?_ (fun _ => ?_)
   | exact LeO.none _ | refine LeO.ite ?_ ?_ | refine LeO.bind ?_ (fun _ => ?_)
  ·intro y0 y1 y2 y3 y4 y5 y6 y7 y8
   unfold laws_FnTrianglesAreCut.j8
   repeat' first
   | with_reducible first | exact ih0 _ _ _ _ _ _ _ _ _ | exact ih1 _ _ | exact ih2 _ _ _ | exact ih3 _ _ _ _ _ | exact ih4 _ | exact ih5 _ _ _ _ _ _ _ | exact ih6 _ _ _ _ _ _ _ _ _ | exact ih7 _ _ _ _ _ _ _ | exact ih8 _ _ _ _ _ _ | exact ih9 _ _ _ _ _ _ _ | exact impl_BorderOf.mono _ _ | exact impl_CellsOf.mono _ _ | exact impl_CellsWith.mono _ _ _ _ | exact impl_IndexOfPoint.mono _ _ _ | exact impl_IsUpCell.mono _ _ _ | exact impl_NeighboursOf.mono _ _ _ | exact impl_PointAt.mono _ _ _ | exact impl_SidesOf.mono _ _ _ | exact laws_uHas.mono _ _ _ | exact laws_uLess.mono _ _ _ | exact laws_uSame.mono _ _ _ | exact laws_uSameRows.mono _ _ _ | exact laws_uSum.mono _ _ | exact spec_CellsOf.mono _ _ | exact spec_CellsWith.mono _ _ _ _ | exact spec_DrawIndexOfPoint.mono _ _ | exact spec_IndexOfPoint.mono _ _ _ | exact spec_IsUpCell.mono _ _ _ | exact spec_NeighboursOf.mono _ _ _ | exact spec_PointAt.mono _ _ _ | exact spec_SidesOf.mono _ _ _ | exact LeO.refl _ | exact LeO.none _ | refine LeO.ite ?_ ?_ | refine LeO.bind ?_ (fun _ => ?_)
   | exact LeO.none _ | refine LeO.ite ?_ ?_ | refine LeO.bind ?_ (fun _ => ?_)
  ·intro y0 y1 y2 y3 y4 y5 y6
   unfold laws_FnTrianglesAreCut.j1
   repeat' first
   | with_reducible first | exact ih0 _ _ _ _ _ _ _ _ _ | exact ih1 _ _ | exact ih2 _ _ _ | exact ih3 _ _ _ _ _ | exact ih4 _ | exact ih5 _ _ _ _ _ _ _ | exact ih6 _ _ _ _ _ _ _ _ _ | exact ih7 _ _ _ _ _ _ _ | exact ih8 _ _ _ _ _ _ | exact ih9 _ _ _ _ _ _ _ | exact impl_BorderOf.mono _ _ | exact impl_CellsOf.mono _ _ | exact impl_CellsWith.mono _ _ _ _ | exact impl_IndexOfPoint.mono _ _ _ | exact impl_IsUpCell.mono _ _ _ | exact impl_NeighboursOf.mono _ _ _ | exact impl_PointAt.mono _ _ _ | exact impl_SidesOf.mono _ _ _ | exact laws_uHas.mono _ _ _ | exact laws_uLess.mono _ _ _ | exact laws_uSame.mono _ _ _ | exact laws_uSameRows.mono _ _ _ | exact laws_uSum.mono _ _ | exact spec_CellsOf.mono _ _ | exact spec_CellsWith.mono _ _ _ _ | exact spec_DrawIndexOfPoint.mono _ _ | exact spec_IndexOfPoint.mono _ _ _ | exact spec_IsUpCell.mono _ _ _ | exact spec_NeighboursOf.mono _ _ _ | exact spec_PointAt.mono _ _ _ | exact spec_SidesOf.mono _ _ _ | exact LeO.refl _ | exact LeO.none _ | refine LeO.ite ?_ ?_ | refine LeO.bind ?_ (fun _ => ?_)
   | exact LeO.none _ | refine LeO.ite ?_ ?_ | refine LeO.bind ?_ (fun _ => ?_)
  ·intro y0 y1 y2 y3 y4 y5
   unfold laws_FnTrianglesAreCut.j2
   repeat' first
   | with_reducible first | exact ih0 _ _ _ _ _ _ _ _ _ | exact ih1 _ _ | exact ih2 _ _ _ | exact ih3 _ _ _ _ _ | exact ih4 _ | exact ih5 _ _ _ _ _ _ _ | exact ih6 _ _ _ _ _ _ _ _ _ | exact ih7 _ _ _ _ _ _ _ | exact ih8 _ _ _ _ _ _ | exact ih9 _ _ _ _ _ _ _ | exact impl_BorderOf.mono _ _ | exact impl_CellsOf.mono _ _ | exact impl_CellsWith.mono _ _ _ _ | exact impl_IndexOfPoint.mono _ _ _ | exact impl_IsUpCell.mono _ _ _ | exact impl_NeighboursOf.mono _ _ _ | exact impl_PointAt.mono _ _ _ | exact impl_SidesOf.mono _ _ _ | exact laws_uHas.mono _ _ _ | exact laws_uLess.mono _ _ _ | exact laws_uSame.mono _ _ _ | exact laws_uSameRows.mono _ _ _ | exact laws_uSum.mono _ _ | exact spec_CellsOf.mono _ _ | exact spec_CellsWith.mono _ _ _ _ | exact spec_DrawIndexOfPoint.mono _ _ | exact spec_IndexOfPoint.mono _ _ _ | exact spec_IsUpCell.mono _ _ _ | exact spec_NeighboursOf.mono _ _ _ | exact spec_PointAt.mono _ _ _ | exact spec_SidesOf.mono _ _ _ | exact LeO.refl _ | exact LeO.none _ | refine LeO.ite ?_ ?_ | refine LeO.bind ?_ (fun _ => ?_)
   | exact LeO.none _ | refine LeO.ite ?_ ?_ | refine LeO.bind ?_ (fun _ => ?_)
  ·intro y0 y1 y2 y3 y4 y5 y6
   unfold laws_FnTrianglesAreCut.l0
   repeat' first
   | with_reducible first | exact ih0 _ _ _ _ _ _ _ _ _ | exact ih1 _ _ | exact ih2 _ _ _ | exact ih3 _ _ _ _ _ | exact ih4 _ | exact ih5 _ _ _ _ _ _ _ | exact ih6 _ _ _ _ _ _ _ _ _ | exact ih7 _ _ _ _ _ _ _ | exact ih8 _ _ _ _ _ _ | exact ih9 _ _ _ _ _ _ _ | exact impl_BorderOf.mono _ _ | exact impl_CellsOf.mono _ _ | exact impl_CellsWith.mono _ _ _ _ | exact impl_IndexOfPoint.mono _ _ _ | exact impl_IsUpCell.mono _ _ _ | exact impl_NeighboursOf.mono _ _ _ | exact impl_PointAt.mono _ _ _ | exact impl_SidesOf.mono _ _ _ | exact laws_uHas.mono _ _ _ | exact laws_uLess.mono _ _ _ | exact laws_uSame.mono _ _ _ | exact laws_uSameRows.mono _ _ _ | exact laws_uSum.mono _ _ | exact spec_CellsOf.mono _ _ | exact spec_CellsWith.mono _ _ _ _ | exact spec_DrawIndexOfPoint.mono _ _ | exact spec_IndexOfPoint.mono _ _ _ | exact spec_IsUpCell.mono _ _ _ | exact spec_NeighboursOf.mono _ _ _ | exact spec_PointAt.mono _ _ _ | exact spec_SidesOf.mono _ _ _ | exact LeO.refl _ | exact LeO.none _ | refine LeO.ite ?_ ?_ | refine LeO.bind ?_ (fun _ => ?_)
   | exact LeO.none _ | refine LeO.ite ?_ ?_ | refine LeO.bind ?_ (fun _ => ?_)
theorem laws_FnTrianglesAreCut.mono : ∀ a0 a1 k, LeO (laws_FnTrianglesAreCut.f k a0 a1) (laws_FnTrianglesAreCut.f (k + 1) a0 a1) := by
 intro a0 a1 k
 obtain ⟨ih0, ih1, ih2, ih3, ih4, ih5, ih6, ih7, ih8, ih9⟩ := laws_FnTrianglesAreCut.mono_l k
 unfold laws_FnTrianglesAreCut.f
 repeat' first
   | with_reducible first | exact ih0 _ _ _ _ _ _ _ _ _ | exact ih1 _ _ | exact ih2 _ _ _ | exact ih3 _ _ _ _ _ | exact ih4 _ | exact ih5 _ _ _ _ _ _ _ | exact ih6 _ _ _ _ _ _ _ _ _ | exact ih7 _ _ _ _ _ _ _ | exact ih8 _ _ _ _ _ _ | exact ih9 _ _ _ _ _ _ _ | exact impl_BorderOf.mono _ _ | exact impl_CellsOf.mono _ _ | exact impl_CellsWith.mono _ _ _ _ | exact impl_IndexOfPoint.mono _ _ _ | exact impl_IsUpCell.mono _ _ _ | exact impl_NeighboursOf.mono _ _ _ | exact impl_PointAt.mono _ _ _ | exact impl_SidesOf.mono _ _ _ | exact laws_uHas.mono _ _ _ | exact laws_uLess.mono _ _ _ | exact laws_uSame.mono _ _ _ | exact laws_uSameRows.mono _ _ _ | exact laws_uSum.mono _ _ | exact spec_CellsOf.mono _ _ | exact spec_CellsWith.mono _ _ _ _ | exact spec_DrawIndexOfPoint.mono _ _ | exact spec_IndexOfPoint.mono _ _ _ | exact spec_IsUpCell.mono _ _ _ | exact spec_NeighboursOf.mono _ _ _ | exact spec_PointAt.mono _ _ _ | exact spec_SidesOf.mono _ _ _ | exact LeO.refl _ | exact LeO.none _ | refine LeO.ite ?_ ?_ | refine LeO.bind ?_ (fun _ => ?_)
   | exact LeO.none _ | refine LeO.ite ?_ ?_ | refine LeO.bind ?_ (fun _ => ?_)
theorem laws_FnTrianglesAreCut.calls (k : Nat) (A0 : Option Addr) (c0 : Nat) (l0 : List Int) (A1 : Option Addr) (c1 : Nat) (l1 : List Int) (r : Bool) (w : World) (hr0 : Kd.C (Kd.int .u8) w A0 l0.length l0) (hc0 : l0.length ≤ c0) (hr1 : Kd.C (Kd.int .u8) w A1 l1.length l1) (hc1 : l1.length ≤ c1) (h : laws_FnTrianglesAreCut.f k l0 l1 = some r) :
  Calls Try.prog 3 #[.slice A0 l0.length c0, .slice A1 l1.length c1] w fun e w' => e = .returned (.bool r) ∧ Below w.heap.size w w' := by
 have HR0 := Aside0.mk hr0
 have HC0 := Aside0.mk hc0
 clear hr0 hc0
 have HR1 := Aside0.mk hr1
 have HC1 := Aside0.mk hc1
 clear hr1 hc1
 have HB := Aside0.mk (Below.refl w.heap.size w)
 have H : ((laws_big.f l0 l1).bind fun t429 => (if t429 = true then (some true) else ((spec_DrawPointAt.f l0).bind fun bt430 => ((impl_PointAt.f k bt430.1 bt430.2).bind fun bt432 => ((spec_PointAt.f k bt430.1 bt430.2).bind fun bt436 => ((impl_NeighboursOf.f k bt430.1 bt430.2).bind fun bt440 => ((spec_NeighboursOf.f k bt430.1 bt430.2).bind fun bt444 => ((impl_SidesOf.f k bt430.1 bt430.2).bind fun bt448 => ((spec_SidesOf.f k bt430.1 bt430.2).bind fun bt452 => (if (bt432.2 != bt436.2) = true then (none) else ((laws_uSame.f k bt432.1 bt436.1).bind fun t456 => (if t456 = true then (if (bt440.2 != bt444.2) = true then (none) else ((laws_uSame.f k bt440.1 bt444.1).bind fun t457 => (if t457 = true then (if (bt448.2 != bt452.2) = true then (none) else ((laws_uSame.f k bt448.1 bt452.1).bind fun t458 => (if t458 = true then (if (bt440.2 != bt432.2) = true then (none) else (laws_FnTrianglesAreCut.j0 k l0 l1 bt430.1 bt430.2 bt432.1 bt432.2 bt440.1 bt448.1 (bt448.2 != bt432.2))) else (none)))) else (none)))) else (none))))))))))))) = some r := h
 clear h
 replace H := EA H
 obtain ⟨t429, A3, H⟩ := H
 by_cases c4 : t429 = true
 ·subst c4
  replace H := IP H
  obtain rfl := Option.some.inj H
  go_enter Try.func3, Try.ntmps3
  go_wp2_with (first | ((with_reducible refine gate_callee (f := 4) rfl ?_); refine goesL_ (some 62) rfl rfl Try.func4 (by kernel_rfl) rfl #[.slice A0 l0.length c0, .slice A1 l1.length c1] rfl TA ?_; (with_reducible refine (laws_big.calls _ _ l0 _ _ l1 true _ ?side1 ?side2 ?side3 ?side4 A3.out).mono ?_); (case side1 => exact CW HR0.out); (case side2 => exact HC0.out); (case side3 => exact CW HR1.out); (case side4 => exact HC1.out); rintro e w' ⟨rfl, ⟨nd, rfl⟩⟩; refine ⟨_, rfl, ?_⟩))
  go_ret
  exact ⟨RE, BB⟩
 ·replace c4 := Bool.eq_false_iff.mpr c4
  subst c4
  replace H := IN H
  replace H := EA H
  obtain ⟨⟨t430, t431⟩, A5, H⟩ := H
  try dsimp only at H
  replace H := EA H
  obtain ⟨⟨t432, t435⟩, A6, H⟩ := H
  try dsimp only at H
  replace H := EA H
  obtain ⟨⟨t436, t437⟩, A7, H⟩ := H
  try dsimp only at H
  replace H := EA H
  obtain ⟨⟨t440, t441⟩, A8, H⟩ := H
  try dsimp only at H
  replace H := EA H
  obtain ⟨⟨t444, t445⟩, A9, H⟩ := H
  try dsimp only at H
  replace H := EA H
  obtain ⟨⟨t448, t449⟩, A10, H⟩ := H
  try dsimp only at H
  replace H := EA H
  obtain ⟨⟨t452, t453⟩, A11, H⟩ := H
  try dsimp only at H
  have HC12 := Aside0.mk H
  clear H
  go_enter Try.func3, Try.ntmps3
  go_upto_region 10 with (first | ((with_reducible refine gate_callee (f := 4) rfl ?_); refine goesL_ (some 62) rfl rfl Try.func4 (by kernel_rfl) rfl #[.slice A0 l0.length c0, .slice A1 l1.length c1] rfl TA ?_; (with_reducible refine (laws_big.calls _ _ l0 _ _ l1 false _ ?side1 ?side2 ?side3 ?side4 A3.out).mono ?_); (case side1 => exact CW HR0.out); (case side2 => exact HC0.out); (case side3 => exact CW HR1.out); (case side4 => exact HC1.out); rintro e w' ⟨rfl, ⟨nd, rfl⟩⟩; refine ⟨_, rfl, ?_⟩) | ((with_reducible refine gate_callee (f := 5) rfl ?_); refine goesL_ (some 65) rfl rfl Try.func5 (by kernel_rfl) rfl #[.slice A0 l0.length c0] rfl TA ?_; (with_reducible refine (spec_DrawPointAt.calls _ _ l0 t430 t431 _ ?side1 ?side2 A5.out).mono ?_); (case side1 => exact CW HR0.out); (case side2 => exact HC0.out); rintro e w13 ⟨rfl, hb⟩; refine ⟨_, rfl, ?_⟩; have n0_ := Aside0.mk (below_step BB hb); clear HB; have HB := n0_; clear n0_; (try clear hb); (try clear hb2); (try clear hk); (try clear hi)) | ((with_reducible refine gate_callee (f := 6) rfl ?_); refine goesL_ (some 71) rfl rfl Try.func6 (by kernel_rfl) rfl #[.int .i64 t430, .int .i64 t431] rfl TA ?_; (with_reducible refine (impl_PointAt.calls k t430 t431 t432 t435 _ A6.out).mono ?_); rintro e w14 ⟨v433, rfl, ho0, hb⟩; refine ⟨_, rfl, ?_⟩; have n0_ := Aside0.mk (Kd.V_lower (Kd.V_mono (ok' := fun k_ => True) ho0 (fun k_ hk_ => trivial)) (below_size BB)); have n1_ := Aside0.mk (below_step BB hb); clear HB; have HO434 := n0_; have HB := n1_; clear n0_ n1_; (try clear hb); (try clear hb2); (try clear hk); (try clear hi); (try clear ho0)) | ((with_reducible refine gate_callee (f := 7) rfl ?_); refine goesL_ (some 77) rfl rfl Try.func7 (by kernel_rfl) rfl #[.int .i64 t430, .int .i64 t431] rfl TA ?_; (with_reducible refine (spec_PointAt.calls k t430 t431 t436 t437 _ A7.out).mono ?_); rintro e w15 ⟨v438, rfl, ho0, hb⟩; refine ⟨_, rfl, ?_⟩; have n0_ := Aside0.mk (Kd.V_elder' (by (with_reducible repeat (first | apply Kd.V_alloc | apply Kd.V_drewN | apply Kd.V_drew)); exact HO434.out) (Kd.R_base ho0) hb); have n1_ := Aside0.mk (Kd.R_lower ho0 (below_size BB)); have n2_ := Aside0.mk (below_step BB hb); clear HO434; clear HB; have HO434 := n0_; have HO439 := n1_; have HB := n2_; clear n0_ n1_ n2_; (try clear hb); (try clear hb2); (try clear hk); (try clear hi); (try clear ho0)) | ((with_reducible refine gate_callee (f := 8) rfl ?_); refine goesL_ (some 83) rfl rfl Try.func8 (by kernel_rfl) rfl #[.int .i64 t430, .int .i64 t431] rfl TA ?_; (with_reducible refine (impl_NeighboursOf.calls k t430 t431 t440 t441 _ A8.out).mono ?_); rintro e w16 ⟨v442, rfl, ho0, hb⟩; refine ⟨_, rfl, ?_⟩; have n0_ := Aside0.mk (Kd.V_elder' (by (with_reducible repeat (first | apply Kd.V_alloc | apply Kd.V_drewN | apply Kd.V_drew)); exact HO434.out) (Kd.R_base ho0) hb); have n1_ := Aside0.mk (Kd.R_elder' (KR HO439) (Kd.R_base ho0) hb); have n2_ := Aside0.mk (Kd.R_lower (Kd.R_new' ho0 (Kd.R_lt (KR HO439))) (below_size BB)); have n3_ := Aside0.mk (below_step BB hb); clear HO434; clear HO439; clear HB; have HO434 := n0_; have HO439 := n1_; have HO443 := n2_; have HB := n3_; clear n0_ n1_ n2_ n3_; (try clear hb); (try clear hb2); (try clear hk); (try clear hi); (try clear ho0)) | ((with_reducible refine gate_callee (f := 9) rfl ?_); refine goesL_ (some 89) rfl rfl Try.func9 (by kernel_rfl) rfl #[.int .i64 t430, .int .i64 t431] rfl TA ?_; (with_reducible refine (spec_NeighboursOf.calls k t430 t431 t444 t445 _ A9.out).mono ?_); rintro e w17 ⟨v446, rfl, ho0, hb⟩; refine ⟨_, rfl, ?_⟩; have n0_ := Aside0.mk (Kd.V_elder' (by (with_reducible repeat (first | apply Kd.V_alloc | apply Kd.V_drewN | apply Kd.V_drew)); exact HO434.out) (Kd.R_base ho0) hb); have n1_ := Aside0.mk (Kd.R_elder' (KR HO439) (Kd.R_base ho0) hb); have n2_ := Aside0.mk (Kd.R_elder' (KR HO443) (Kd.R_base ho0) hb); have n3_ := Aside0.mk (Kd.R_lower (Kd.R_new' (Kd.R_new' ho0 (Kd.R_lt (KR HO439))) (Kd.R_lt (KR HO443))) (below_size BB)); have n4_ := Aside0.mk (below_step BB hb); clear HO434; clear HO439; clear HO443; clear HB; have HO434 := n0_; have HO439 := n1_; have HO443 := n2_; have HO447 := n3_; have HB := n4_; clear n0_ n1_ n2_ n3_ n4_; (try clear hb); (try clear hb2); (try clear hk); (try clear hi); (try clear ho0)) | ((with_reducible refine gate_callee (f := 10) rfl ?_); refine goesL_ (some 95) rfl rfl Try.func10 (by kernel_rfl) rfl #[.int .i64 t430, .int .i64 t431] rfl TA ?_; (with_reducible refine (impl_SidesOf.calls k t430 t431 t448 t449 _ A10.out).mono ?_); rintro e w18 ⟨v450, rfl, ho0, hb⟩; refine ⟨_, rfl, ?_⟩; have n0_ := Aside0.mk (Kd.V_elder' (by (with_reducible repeat (first | apply Kd.V_alloc | apply Kd.V_drewN | apply Kd.V_drew)); exact HO434.out) (Kd.R_base ho0) hb); have n1_ := Aside0.mk (Kd.R_elder' (KR HO439) (Kd.R_base ho0) hb); have n2_ := Aside0.mk (Kd.R_elder' (KR HO443) (Kd.R_base ho0) hb); have n3_ := Aside0.mk (Kd.R_elder' (KR HO447) (Kd.R_base ho0) hb); have n4_ := Aside0.mk (Kd.R_lower (Kd.R_new' (Kd.R_new' (Kd.R_new' ho0 (Kd.R_lt (KR HO439))) (Kd.R_lt (KR HO443))) (Kd.R_lt (KR HO447))) (below_size BB)); have n5_ := Aside0.mk (below_step BB hb); clear HO434; clear HO439; clear HO443; clear HO447; clear HB; have HO434 := n0_; have HO439 := n1_; have HO443 := n2_; have HO447 := n3_; have HO451 := n4_; have HB := n5_; clear n0_ n1_ n2_ n3_ n4_ n5_; (try clear hb); (try clear hb2); (try clear hk); (try clear hi); (try clear ho0)) | ((with_reducible refine gate_callee (f := 11) rfl ?_); refine goesL_ (some 101) rfl rfl Try.func11 (by kernel_rfl) rfl #[.int .i64 t430, .int .i64 t431] rfl TA ?_; (with_reducible refine (spec_SidesOf.calls k t430 t431 t452 t453 _ A11.out).mono ?_); rintro e w19 ⟨v454, rfl, ho0, hb⟩; refine ⟨_, rfl, ?_⟩; have n0_ := Aside0.mk (Kd.V_elder' (by (with_reducible repeat (first | apply Kd.V_alloc | apply Kd.V_drewN | apply Kd.V_drew)); exact HO434.out) (Kd.R_base ho0) hb); have n1_ := Aside0.mk (Kd.R_elder' (KR HO439) (Kd.R_base ho0) hb); have n2_ := Aside0.mk (Kd.R_elder' (KR HO443) (Kd.R_base ho0) hb); have n3_ := Aside0.mk (Kd.R_elder' (KR HO447) (Kd.R_base ho0) hb); have n4_ := Aside0.mk (Kd.R_elder' (KR HO451) (Kd.R_base ho0) hb); have n5_ := Aside0.mk (Kd.R_lower (Kd.R_new' (Kd.R_new' (Kd.R_new' (Kd.R_new' ho0 (Kd.R_lt (KR HO439))) (Kd.R_lt (KR HO443))) (Kd.R_lt (KR HO447))) (Kd.R_lt (KR HO451))) (below_size BB)); have n6_ := Aside0.mk (below_step BB hb); clear HO434; clear HO439; clear HO443; clear HO447; clear HO451; clear HB; have HO434 := n0_; have HO439 := n1_; have HO443 := n2_; have HO447 := n3_; have HO451 := n4_; have HO455 := n5_; have HB := n6_; clear n0_ n1_ n2_ n3_ n4_ n5_ n6_; (try clear hb); (try clear hb2); (try clear hk); (try clear hi); (try clear ho0)))
  (try simp only [Act.put, List.setIfInBounds_toArray, List.set_cons_zero, List.set_cons_succ])
  go_cut [144] (fun v144 wc => ∃ (kq : Nat) (x144_11 : Bool), v144 = .bool x144_11 ∧ Aside0 (laws_FnTrianglesAreCut.j0 kq l0 l1 t430 t431 t432 t435 t440 t448 x144_11 = some r) ∧ Aside0 (kq ≤ k) ∧ Aside0 (Kd.V (Kd.int .i64) 3 wc w.heap.size (fun k_ => some k_ ≠ (v442 : Value).ownBlock ∧ some k_ ≠ (v450 : Value).ownBlock) v433 t432) ∧ Aside0 (Kd.R (Kd.int .i64) 3 wc w.heap.size (fun k_ => some k_ ≠ (v450 : Value).ownBlock) v442 t440) ∧ Aside0 (Kd.R (Kd.int .i64) 3 wc w.heap.size (fun k_ => some k_ ≠ (v442 : Value).ownBlock) v450 t448) ∧ Aside0 (Below w.heap.size w wc))
  case first => as_aux_lemma =>
   have H := HC12.out
   clear HC12
   by_cases c20 : (t435 != t437) = true
   ·rw [if_pos c20] at H
    cases H
   ·rw [if_neg c20] at H
    have c20b0 : (t435 != t437) = false := by simpa using c20
    (try (have c20b1 : decide (t435 = t437) = true := by simpa using c20))
    (try (have c20b2 : (t435 == t437) = true := by simpa using c20))
    clear c20
    (first | rw [c20b0] | (simp only [i64_w, i32_w]; rw [c20b0]) | skip)
    replace H := EA H
    obtain ⟨t456, A21, H⟩ := H
    by_cases c22 : t456 = true
    ·subst c22
     replace H := IP H
     by_cases c23 : (t441 != t445) = true
     ·rw [if_pos c23] at H
      cases H
     ·rw [if_neg c23] at H
      have c23b0 : (t441 != t445) = false := by simpa using c23
      (try (have c23b1 : decide (t441 = t445) = true := by simpa using c23))
      (try (have c23b2 : (t441 == t445) = true := by simpa using c23))
      clear c23
      replace H := EA H
      obtain ⟨t457, A24, H⟩ := H
      by_cases c25 : t457 = true
      ·subst c25
       replace H := IP H
       by_cases c26 : (t449 != t453) = true
       ·rw [if_pos c26] at H
        cases H
       ·rw [if_neg c26] at H
        have c26b0 : (t449 != t453) = false := by simpa using c26
        (try (have c26b1 : decide (t449 = t453) = true := by simpa using c26))
        (try (have c26b2 : (t449 == t453) = true := by simpa using c26))
        clear c26
        replace H := EA H
        obtain ⟨t458, A27, H⟩ := H
        by_cases c28 : t458 = true
        ·subst c28
         replace H := IP H
         by_cases c29 : (t441 != t435) = true
         ·rw [if_pos c29] at H
          cases H
         ·rw [if_neg c29] at H
          have c29b0 : (t441 != t435) = false := by simpa using c29
          (try (have c29b1 : decide (t441 = t435) = true := by simpa using c29))
          (try (have c29b2 : (t441 == t435) = true := by simpa using c29))
          clear c29
          have H' := Aside0.mk H
          clear H
          obtain ⟨Ao30, co30, eo30⟩ := Kd.V_slice HO434.out
          subst eo30
          obtain ⟨Ao31, co31, eo31⟩ := Kd.R_slice HO439.out
          subst eo31
          go_wp2_with (first | (go_at_call 12; (with_reducible refine (laws_uSame.calls k _ _ t432 _ _ t436 true _ ?side1 ?side2 ?side3 ?side4 A21.out).mono ?_); (case side1 => exact CW (Kd.V_reads' HO434.out).2.2); (case side2 => exact (Kd.V_reads' HO434.out).2.1); (case side3 => exact CW (Kd.R_reads' HO439.out).2.2); (case side4 => exact (Kd.R_reads' HO439.out).2.1); rintro e w' ⟨rfl, ⟨nd, rfl⟩⟩; obtain ⟨Ao32, co32, eo32⟩ := Kd.R_slice HO443.out; subst eo32; obtain ⟨Ao33, co33, eo33⟩ := Kd.R_slice HO447.out; subst eo33) | (go_at_call 12; (with_reducible refine (laws_uSame.calls k _ _ t440 _ _ t444 true _ ?side1 ?side2 ?side3 ?side4 A24.out).mono ?_); (case side1 => exact CW (Kd.R_reads' HO443.out).2.2); (case side2 => exact (Kd.R_reads' HO443.out).2.1); (case side3 => exact CW (Kd.R_reads' HO447.out).2.2); (case side4 => exact (Kd.R_reads' HO447.out).2.1); rintro e w' ⟨rfl, ⟨nd, rfl⟩⟩; obtain ⟨Ao34, co34, eo34⟩ := Kd.R_slice HO451.out; subst eo34; obtain ⟨Ao35, co35, eo35⟩ := Kd.R_slice HO455.out; subst eo35) | (go_at_call 12; (with_reducible refine (laws_uSame.calls k _ _ t448 _ _ t452 true _ ?side1 ?side2 ?side3 ?side4 A27.out).mono ?_); (case side1 => exact CW (Kd.R_reads' HO451.out).2.2); (case side2 => exact (Kd.R_reads' HO451.out).2.1); (case side3 => exact CW (Kd.R_reads' HO455.out).2.2); (case side4 => exact (Kd.R_reads' HO455.out).2.1); rintro e w' ⟨rfl, ⟨nd, rfl⟩⟩))
          go_meet
          case rel => exact ⟨_, ((t449 != t435)), RF, H', ⟨by first | omega | exact Nat.le_refl _⟩, ⟨by (with_reducible repeat (first | apply Kd.V_alloc | apply Kd.V_drewN | apply Kd.V_drew)); exact Kd.V_mono HO434.out (fun _ hk => ⟨hk.1.1.1.2, hk.1.2⟩)⟩, ⟨by (with_reducible repeat (first | apply Kd.R_alloc | apply Kd.R_drewN | apply Kd.R_drew)); exact Kd.R_mono HO443.out (fun _ hk => hk.1.2)⟩, ⟨by (with_reducible repeat (first | apply Kd.R_alloc | apply Kd.R_drewN | apply Kd.R_drew)); exact Kd.R_mono HO451.out (fun _ hk => hk.1.1.2)⟩, ⟨BB⟩⟩
        ·replace c28 := Bool.eq_false_iff.mpr c28
         subst c28
         replace H := IN H
         cases H
      ·replace c25 := Bool.eq_false_iff.mpr c25
       subst c25
       replace H := IN H
       cases H
    ·replace c22 := Bool.eq_false_iff.mpr c22
     subst c22
     replace H := IN H
     cases H
  case rest => as_aux_lemma =>
   clear HC12
   try clear c1
   try clear c2
   try clear p2
   try clear c3
   try clear c4
   try clear c5
   try clear c6
   try clear p6
   try clear c7
   try clear c8
   try clear c9
   try clear c10
   try clear c11
   try clear c20
   try clear c20b0
   try clear c20b1
   try clear c20b2
   try clear c22
   try clear c23
   try clear c23b0
   try clear c23b1
   try clear c23b2
   try clear c25
   try clear c26
   try clear c26b0
   try clear c26b1
   try clear c26b2
   try clear c28
   try clear c29
   try clear c29b0
   try clear c29b1
   try clear c29b2
   obtain ⟨kq, x144_11, rfl, HA, HJ11, HO_7, HO_11, HO_15, HB⟩ := hcut
   cases kq with
   | zero => exact absurd HA.out (by simp [laws_FnTrianglesAreCut.j0])
   | succ kj11 =>
    have H := HA.out
    clear HA
    simp only [laws_FnTrianglesAreCut.j0] at H
    by_cases c36 : x144_11 = true
    ·subst c36
     replace H := IP H
     cases H
    ·replace c36 := Bool.eq_false_iff.mpr c36
     subst c36
     replace H := IN H
     have HC37 := Aside0.mk H
     clear H
     go_upto_if 145 with (fail)
     go_cut [] (fun wc => ∃ (kq : Nat), Aside0 (laws_FnTrianglesAreCut.j4 kq l0 l1 = some r) ∧ Aside0 (kq ≤ kj11) ∧ Aside0 (Below w.heap.size w wc))
     case first => as_aux_lemma =>
      have H := HC37.out
      clear HC37
      by_cases c38 : t435 = true
      ·subst c38
       replace H := IP H
       replace H := EA H
       obtain ⟨⟨t459, t460⟩, A39, H⟩ := H
       try dsimp only at H
       have HC40 := Aside0.mk H
       clear H
       obtain ⟨Ao41, co41, eo41⟩ := Kd.V_slice HO_7.out
       subst eo41
       go_upto_region 14 with (first | ((with_reducible refine gate_callee (f := 13) rfl ?_); refine goesL_ (some 149) rfl rfl Try.func13 (by kernel_rfl) rfl #[.int .i64 t430, .slice Ao41 t432.length co41] rfl TA ?_; (with_reducible refine (impl_IndexOfPoint.calls kj11 t430 _ _ t432 t459 t460 _ ?side1 ?side2 A39.out).mono ?_); (case side1 => exact CW (Kd.V_reads' HO_7.out).2.2); (case side2 => exact (Kd.V_reads' HO_7.out).2.1); rintro e w42 ⟨rfl, hb⟩; refine ⟨_, rfl, ?_⟩; have n0_ := Aside0.mk (Kd.V_below (by (with_reducible repeat (first | apply Kd.V_alloc | apply Kd.V_drewN | apply Kd.V_drew)); exact HO_7.out) hb); have n1_ := Aside0.mk (Kd.R_below (KR HO_11) hb); have n2_ := Aside0.mk (Kd.R_below (KR HO_15) hb); have n3_ := Aside0.mk (below_step BB hb); clear HO_7; clear HO_11; clear HO_15; clear HB; have HO_7 := n0_; have HO_11 := n1_; have HO_15 := n2_; have HB := n3_; clear n0_ n1_ n2_ n3_; (try clear hb); (try clear hb2); (try clear hk); (try clear hi)))
       (try simp only [Act.put, List.setIfInBounds_toArray, List.set_cons_zero, List.set_cons_succ])
       go_cut [164] (fun v164 wc => ∃ (kq : Nat) (x164_39 : Bool), v164 = .bool x164_39 ∧ Aside0 (laws_FnTrianglesAreCut.j1 kq l0 l1 t430 t431 t440 t448 x164_39 = some r) ∧ Aside0 (kq ≤ kj11) ∧ Aside0 (Kd.R (Kd.int .i64) 3 wc w.heap.size (fun k_ => some k_ ≠ (v450 : Value).ownBlock) v442 t440) ∧ Aside0 (Kd.R (Kd.int .i64) 3 wc w.heap.size (fun k_ => some k_ ≠ (v442 : Value).ownBlock) v450 t448) ∧ Aside0 (Below w.heap.size w wc))
       case first => as_aux_lemma =>
        have H := HC40.out
        clear HC40
        by_cases c43 : t460 = true
        ·subst c43
         replace H := IP H
         by_cases c44 : t459 = t431
         ·rw [if_pos c44] at H
          have c44b0 : (t459 == t431) = true := beq_iff_eq.mpr c44
          have c44b1 : (t459 != t431) = false := bne_eq_false_iff_eq.mpr c44
          clear c44
          (first | rw [c44b0] | (simp only [i64_w, i32_w]; rw [c44b0]) | skip)
          replace H := EA H
          obtain ⟨t461, A45, H⟩ := H
          have H' := Aside0.mk H
          clear H
          go_wp2_with (first | (go_at_call 14; (with_reducible refine (laws_uSum.calls kj11 _ _ t432 t461 _ ?side1 ?side2 A45.out).mono ?_); (case side1 => exact CW (Kd.V_reads' HO_7.out).2.2); (case side2 => exact (Kd.V_reads' HO_7.out).2.1); rintro e w' ⟨rfl, ⟨nd, rfl⟩⟩))
          go_meet
          case rel => exact ⟨_, ((t461 != t430)), RF, H', ⟨by have := HJ11.out; first | omega | exact Nat.le_refl _⟩, ⟨KR HO_11⟩, ⟨KR HO_15⟩, ⟨BB⟩⟩
         ·rw [if_neg c44] at H
          cases H
        ·replace c43 := Bool.eq_false_iff.mpr c43
         subst c43
         replace H := IN H
         cases H
       case rest => as_aux_lemma =>
        clear HC40
        try clear c1
        try clear c2
        try clear p2
        try clear c3
        try clear c4
        try clear c5
        try clear c6
        try clear p6
        try clear c7
        try clear c8
        try clear c9
        try clear c10
        try clear c11
        try clear c13
        try clear c20
        try clear c20b0
        try clear c20b1
        try clear c20b2
        try clear c22
        try clear c23
        try clear c23b0
        try clear c23b1
        try clear c23b2
        try clear c25
        try clear c26
        try clear c26b0
        try clear c26b1
        try clear c26b2
        try clear c28
        try clear c29
        try clear c29b0
        try clear c29b1
        try clear c29b2
        try clear c36
        try clear c38
        try clear c43
        try clear c44
        try clear c44b0
        try clear c44b1
        try clear p2
        try clear p6
        obtain ⟨kq, x164_39, rfl, HA, HJ39, HO_11, HO_15, HB⟩ := hcut
        cases kq with
        | zero => exact absurd HA.out (by simp [laws_FnTrianglesAreCut.j1])
        | succ kj39 =>
         have H := HA.out
         clear HA
         simp only [laws_FnTrianglesAreCut.j1] at H
         by_cases c46 : x164_39 = true
         ·subst c46
          replace H := IP H
          cases H
         ·replace c46 := Bool.eq_false_iff.mpr c46
          subst c46
          replace H := IN H
          replace H := EA H
          obtain ⟨⟨t462, t463⟩, A47, H⟩ := H
          try dsimp only at H
          have HC48 := Aside0.mk H
          clear H
          go_upto_region 17 with (first | ((with_reducible refine gate_callee (f := 15) rfl ?_); refine goesL_ (some 167) rfl rfl Try.func15 (by kernel_rfl) rfl #[.int .i64 t430] rfl TA ?_; (with_reducible refine (impl_BorderOf.calls kj39 t430 t462 t463 _ A47.out).mono ?_); rintro e w49 ⟨v464, rfl, ho0, hb⟩; refine ⟨_, rfl, ?_⟩; have n0_ := Aside0.mk (Kd.R_elder' (KR HO_11) (Kd.R_base ho0) hb); have n1_ := Aside0.mk (Kd.R_elder' (KR HO_15) (Kd.R_base ho0) hb); have n2_ := Aside0.mk (Kd.R_lower (Kd.R_new' (Kd.R_new' ho0 (Kd.R_lt (KR HO_11))) (Kd.R_lt (KR HO_15))) (below_size BB)); have n3_ := Aside0.mk (below_step BB hb); clear HO_11; clear HO_15; clear HB; have HO_11 := n0_; have HO_15 := n1_; have HO465 := n2_; have HB := n3_; clear n0_ n1_ n2_ n3_; (try clear hb); (try clear hb2); (try clear hk); (try clear hi); (try clear ho0)))
          (try simp only [Act.put, List.setIfInBounds_toArray, List.set_cons_zero, List.set_cons_succ])
          go_cut [180] (fun v180 wc => ∃ (kq : Nat) (x180_47 : Bool), v180 = .bool x180_47 ∧ Aside0 (laws_FnTrianglesAreCut.j2 kq l0 l1 t430 t431 t440 x180_47 = some r) ∧ Aside0 (kq ≤ kj39) ∧ Aside0 (Kd.R (Kd.int .i64) 3 wc w.heap.size (fun _ => True) v442 t440) ∧ Aside0 (Below w.heap.size w wc))
          case first => as_aux_lemma =>
           have H := HC48.out
           clear HC48
           by_cases c50 : t463 = true
           ·subst c50
            replace H := IP H
            replace H := EA H
            obtain ⟨t466, A51, H⟩ := H
            have H' := Aside0.mk H
            clear H
            obtain ⟨Ao52, co52, eo52⟩ := Kd.R_slice HO465.out
            subst eo52
            go_wp2_with (first | (go_at_call 16; (with_reducible refine (laws_uHas.calls kj39 _ _ t462 t431 t466 _ ?side1 ?side2 A51.out).mono ?_); (case side1 => exact CW (Kd.R_reads' HO465.out).2.2); (case side2 => exact (Kd.R_reads' HO465.out).2.1); rintro e w' ⟨rfl, ⟨nd, rfl⟩⟩; obtain ⟨Ao53, co53, eo53⟩ := Kd.R_slice HO_15.out; subst eo53))
            go_meet
            case rel => exact ⟨_, ((t466 != (decide ((t448.length : Int) > 0)))), RF, H', ⟨by have := HJ11.out; have := HJ39.out; first | omega | exact Nat.le_refl _⟩, ⟨by (with_reducible repeat (first | apply Kd.R_alloc | apply Kd.R_drewN | apply Kd.R_drew)); exact Kd.R_mono HO_11.out (fun _ hk => trivial)⟩, ⟨BB⟩⟩
           ·replace c50 := Bool.eq_false_iff.mpr c50
            subst c50
            replace H := IN H
            cases H
          case rest => as_aux_lemma =>
           clear HC48
           try clear c1
           try clear c2
           try clear p2
           try clear c3
           try clear c4
           try clear c5
           try clear c6
           try clear p6
           try clear c7
           try clear c8
           try clear c9
           try clear c10
           try clear c11
           try clear c13
           try clear c15
           try clear c20
           try clear c20b0
           try clear c20b1
           try clear c20b2
           try clear c22
           try clear c23
           try clear c23b0
           try clear c23b1
           try clear c23b2
           try clear c25
           try clear c26
           try clear c26b0
           try clear c26b1
           try clear c26b2
           try clear c28
           try clear c29
           try clear c29b0
           try clear c29b1
           try clear c29b2
           try clear c36
           try clear c38
           try clear c43
           try clear c44
           try clear c44b0
           try clear c44b1
           try clear c46
           try clear c50
           try clear p2
           try clear p6
           obtain ⟨kq, x180_47, rfl, HA, HJ47, HO_11, HB⟩ := hcut
           cases kq with
           | zero => exact absurd HA.out (by simp [laws_FnTrianglesAreCut.j2])
           | succ kj47 =>
            have H := HA.out
            clear HA
            simp only [laws_FnTrianglesAreCut.j2] at H
            by_cases c54 : x180_47 = true
            ·subst c54
             replace H := IP H
             cases H
            ·replace c54 := Bool.eq_false_iff.mpr c54
             subst c54
             replace H := IN H
             have H' := Aside0.mk H
             clear H
             obtain ⟨Ao55, co55, eo55⟩ := Kd.R_slice HO_11.out
             subst eo55
             go_wp2
             go_loopg [183] kj47 (fun kq v183 w' => ∃ (x183_4 : Int), v183 = .int .i64 x183_4 ∧ Aside0 (laws_FnTrianglesAreCut.l0 kq l0 l1 t430 t431 t440 (t440.length : Int) x183_4 = some r) ∧ Aside0 (kq ≤ kj47) ∧ Aside0 (Kd.R (Kd.int .i64) 3 w' w.heap.size (fun _ => True) (.slice Ao55 t440.length co55) t440) ∧ Aside0 (Below w.heap.size w w'))
             case atStart => exact ⟨(0), RF, H', ⟨Nat.le_refl _⟩, ⟨KR HO_11⟩, ⟨BB⟩⟩
             case round => as_aux_lemma =>
              clear H'
              try clear c1
              try clear c2
              try clear p2
              try clear c3
              try clear c4
              try clear c5
              try clear c6
              try clear p6
              try clear c7
              try clear c8
              try clear c9
              try clear c10
              try clear c11
              try clear c13
              try clear c15
              try clear c20
              try clear c20b0
              try clear c20b1
              try clear c20b2
              try clear c22
              try clear c23
              try clear c23b0
              try clear c23b1
              try clear c23b2
              try clear c25
              try clear c26
              try clear c26b0
              try clear c26b1
              try clear c26b2
              try clear c28
              try clear c29
              try clear c29b0
              try clear c29b1
              try clear c29b2
              try clear c36
              try clear c38
              try clear c43
              try clear c44
              try clear c44b0
              try clear c44b1
              try clear c46
              try clear c50
              try clear c54
              try clear p2
              try clear p6
              obtain ⟨x183_4, rfl, HA, HK4, HO_181, HB⟩ := hrel
              cases gk with
              | zero => exact absurd HA.out (by simp [laws_FnTrianglesAreCut.l0])
              | succ k4 =>
               have H := HA.out
               clear HA
               simp only [laws_FnTrianglesAreCut.l0] at H
               by_cases c56 : x183_4 < (t440.length : Int)
               ·rw [if_pos c56] at H
                have c56b0 : decide (x183_4 < (t440.length : Int)) = true := decide_eq_true c56
                clear c56
                by_cases c57 : 0 ≤ x183_4
                ·rw [if_pos c57] at H
                 have c57b0 : decide (0 ≤ x183_4) = true := decide_eq_true c57
                 clear c57
                 by_cases c58 : x183_4 < (t440.length : Int)
                 ·rw [if_pos c58] at H
                  have c58b0 : decide (x183_4 < (t440.length : Int)) = true := decide_eq_true c58
                  clear c58
                  replace H := EA H
                  obtain ⟨⟨t468, t469⟩, A59, H⟩ := H
                  try dsimp only at H
                  replace H := EA H
                  obtain ⟨⟨t472, t473⟩, A60, H⟩ := H
                  try dsimp only at H
                  by_cases c61 : t469 = true
                  ·subst c61
                   replace H := IP H
                   replace H := EA H
                   obtain ⟨t476, A62, H⟩ := H
                   by_cases c63 : t476 = true
                   ·subst c63
                    replace H := IP H
                    by_cases c64 : t473 = true
                    ·subst c64
                     replace H := IP H
                     by_cases c65 : (t472.length : Int) < 1
                     ·rw [if_pos c65] at H
                      cases H
                     ·rw [if_neg c65] at H
                      have c65b0 : decide ((t472.length : Int) < 1) = false := decide_eq_false c65
                      have c65b1 : decide (t472.length < 1) = false := decide_eq_false (by omega)
                      clear c65
                      by_cases c66 : (t472.length : Int) > 2
                      ·rw [if_pos c66] at H
                       cases H
                      ·rw [if_neg c66] at H
                       have c66b0 : decide (2 < (t472.length : Int)) = false := decide_eq_false c66
                       have c66b1 : decide (2 < t472.length) = false := decide_eq_false (by omega)
                       clear c66
                       have H' := Aside0.mk H
                       clear H
                       have p467 : 0 ≤ (x183_4 : Int) := of_decide_eq_true AS
                       have q467 : x183_4 < (t440.length : Int) := of_decide_eq_true AS
                       obtain ⟨ad467, e467, hx467_0⟩ := Kd.at_int (Kd.R_reads' HO_181.out).2.2 x183_4 p467 q467
                       cases e467
                       replace p467 := eq_true p467
                       replace q467 := eq_true q467
                       go_wp2_with (first | ((with_reducible refine gate_callee (f := 8) rfl ?_); refine goesL_ (some 190) rfl rfl Try.func8 (by kernel_rfl) rfl #[.int .i64 t430, .int .i64 (rd t440 x183_4)] rfl TA ?_; (with_reducible refine (impl_NeighboursOf.calls k4 t430 (rd t440 x183_4) t468 true _ A59.out).mono ?_); rintro e w67 ⟨v470, rfl, ho0, hb⟩; refine ⟨_, rfl, ?_⟩; have n0_ := Aside0.mk (Kd.R_elder' (KR HO_181) (Kd.R_base ho0) hb); have n1_ := Aside0.mk (Kd.R_lower (Kd.R_new' ho0 (Kd.R_lt (KR HO_181))) (below_size BB)); have n2_ := Aside0.mk (below_step BB hb); clear HO_181; clear HB; have HO_181 := n0_; have HO471 := n1_; have HB := n2_; clear n0_ n1_ n2_; (try clear hb); (try clear hb2); (try clear hk); (try clear hi); (try clear ho0)) | ((with_reducible refine gate_callee (f := 17) rfl ?_); refine goesL_ (some 197) rfl rfl Try.func17 (by kernel_rfl) rfl #[.int .i64 t430, .int .i64 t431, .int .i64 (rd t440 x183_4)] rfl TA ?_; (with_reducible refine (impl_CellsWith.calls k4 t430 t431 (rd t440 x183_4) t472 true _ A60.out).mono ?_); rintro e w68 ⟨v474, rfl, ho0, hb⟩; refine ⟨_, rfl, ?_⟩; have n0_ := Aside0.mk (Kd.R_elder' (KR HO_181) (Kd.R_base ho0) hb); have n1_ := Aside0.mk (Kd.R_elder' (KR HO471) (Kd.R_base ho0) hb); have n2_ := Aside0.mk (Kd.R_lower (Kd.R_new' (Kd.R_new' ho0 (Kd.R_lt (KR HO_181))) (Kd.R_lt (KR HO471))) (below_size BB)); have n3_ := Aside0.mk (below_step BB hb); clear HO_181; clear HO471; clear HB; have HO_181 := n0_; have HO471 := n1_; have HO475 := n2_; have HB := n3_; clear n0_ n1_ n2_ n3_; (try clear hb); (try clear hb2); (try clear hk); (try clear hi); (try clear ho0); obtain ⟨Ao69, co69, eo69⟩ := Kd.R_slice HO471.out; subst eo69) | (go_at_call 16; (with_reducible refine (laws_uHas.calls k4 _ _ t468 t431 true _ ?side1 ?side2 A62.out).mono ?_); (case side1 => exact CW (Kd.R_reads' HO471.out).2.2); (case side2 => exact (Kd.R_reads' HO471.out).2.1); rintro e w' ⟨rfl, ⟨nd, rfl⟩⟩; obtain ⟨Ao70, co70, eo70⟩ := Kd.R_slice HO475.out; subst eo70))
                       go_roundg k4
                       case measure => have := HJ11.out; have := HJ39.out; have := HJ47.out; have := HK4.out; omega
                       case rel => exact ⟨(wrap64 (x183_4 + 1)), RF, H', ⟨by have := HJ11.out; have := HJ39.out; have := HJ47.out; have := HK4.out; omega⟩, ⟨by (with_reducible repeat (first | apply Kd.R_alloc | apply Kd.R_drewN | apply Kd.R_drew)); exact Kd.R_mono HO_181.out (fun _ hk => trivial)⟩, ⟨BB⟩⟩
                    ·replace c64 := Bool.eq_false_iff.mpr c64
                     subst c64
                     replace H := IN H
                     cases H
                   ·replace c63 := Bool.eq_false_iff.mpr c63
                    subst c63
                    replace H := IN H
                    cases H
                  ·replace c61 := Bool.eq_false_iff.mpr c61
                   subst c61
                   replace H := IN H
                   cases H
                 ·rw [if_neg c58] at H
                  cases H
                ·rw [if_neg c57] at H
                 cases H
               ·rw [if_neg c56] at H
                have c56b0 : decide (x183_4 < (t440.length : Int)) = false := decide_eq_false c56
                try (have c56bl := c56b0; rw [hl497_0] at c56bl)
                clear c56
                have H' := Aside0.mk H
                clear H
                go_wp2
                go_meet
                case rel => exact ⟨_, H', ⟨by have := HJ11.out; have := HJ39.out; have := HJ47.out; have := HK4.out; first | omega | exact Nat.le_refl _⟩, ⟨BB⟩⟩
      ·replace c38 := Bool.eq_false_iff.mpr c38
       subst c38
       replace H := IN H
       have H' := Aside0.mk H
       clear H
       go_wp2
       go_meet
       case rel => exact ⟨_, H', ⟨by have := HJ11.out; first | omega | exact Nat.le_refl _⟩, ⟨BB⟩⟩
     case rest => as_aux_lemma =>
      clear HC37
      try clear c1
      try clear c2
      try clear p2
      try clear c3
      try clear c4
      try clear p4
      try clear q4
      try clear hx4
      try clear c5
      try clear c6
      try clear p6
      try clear c7
      try clear c8
      try clear c9
      try clear c10
      try clear c11
      try clear c13
      try clear c15
      try clear c17
      try clear c20
      try clear c20b0
      try clear c20b1
      try clear c20b2
      try clear c22
      try clear c23
      try clear c23b0
      try clear c23b1
      try clear c23b2
      try clear c25
      try clear c26
      try clear c26b0
      try clear c26b1
      try clear c26b2
      try clear c28
      try clear c29
      try clear c29b0
      try clear c29b1
      try clear c29b2
      try clear c36
      try clear c38
      try clear c43
      try clear c44
      try clear c44b0
      try clear c44b1
      try clear c46
      try clear p46
      try clear q46
      try clear hx46
      try clear c50
      try clear c54
      try clear c56
      try clear c56b0
      try clear c57
      try clear c57b0
      try clear c58
      try clear c58b0
      try clear c61
      try clear c63
      try clear c64
      try clear p64
      try clear c65
      try clear c65b0
      try clear c65b1
      try clear c66
      try clear c66b0
      try clear c66b1
      try clear hx467_0
      try clear p2
      try clear p467
      try clear p6
      try clear q467
      obtain ⟨kq, HA, HJ36, HB⟩ := hcut
      cases kq with
      | zero => exact absurd HA.out (by simp [laws_FnTrianglesAreCut.j4])
      | succ kj36 =>
       have H := HA.out
       clear HA
       simp only [laws_FnTrianglesAreCut.j4] at H
       replace H := EA H
       obtain ⟨⟨t477, t478⟩, A71, H⟩ := H
       try dsimp only at H
       replace H := EA H
       obtain ⟨⟨t481, t482⟩, A72, H⟩ := H
       try dsimp only at H
       replace H := EA H
       obtain ⟨⟨t483, t484⟩, A73, H⟩ := H
       try dsimp only at H
       have HC74 := Aside0.mk H
       clear H
       go_upto_region 30 with (first | ((with_reducible refine gate_callee (f := 18) rfl ?_); refine goesL_ (some 225) rfl rfl Try.func18 (by kernel_rfl) rfl #[.slice A1 l1.length c1] rfl TA ?_; (with_reducible refine (spec_DrawIndexOfPoint.calls kj36 _ _ l1 t477 t478 _ ?side1 ?side2 A71.out).mono ?_); (case side1 => exact CW (Kd.C_below HR1.out HB.out)); (case side2 => exact HC1.out); rintro e w75 ⟨v479, rfl, ho0, hb⟩; refine ⟨_, rfl, ?_⟩; have n0_ := Aside0.mk (Kd.R_lower ho0 (below_size BB)); have n1_ := Aside0.mk (below_step BB hb); clear HB; have HO480 := n0_; have HB := n1_; clear n0_ n1_; (try clear hb); (try clear hb2); (try clear hk); (try clear hi); (try clear ho0); obtain ⟨Ao76, co76, eo76⟩ := Kd.R_slice HO480.out; subst eo76) | ((with_reducible refine gate_callee (f := 13) rfl ?_); refine goesL_ (some 231) rfl rfl Try.func13 (by kernel_rfl) rfl #[.int .i64 t477, .slice Ao76 t478.length co76] rfl TA ?_; (with_reducible refine (impl_IndexOfPoint.calls kj36 t477 _ _ t478 t481 t482 _ ?side1 ?side2 A72.out).mono ?_); (case side1 => exact CW (Kd.R_reads' HO480.out).2.2); (case side2 => exact (Kd.R_reads' HO480.out).2.1); rintro e w77 ⟨rfl, hb⟩; refine ⟨_, rfl, ?_⟩; have n0_ := Aside0.mk (Kd.R_below (KR HO480) hb); have n1_ := Aside0.mk (below_step BB hb); clear HO480; clear HB; have HO480 := n0_; have HB := n1_; clear n0_ n1_; (try clear hb); (try clear hb2); (try clear hk); (try clear hi)) | ((with_reducible refine gate_callee (f := 19) rfl ?_); refine goesL_ (some 237) rfl rfl Try.func19 (by kernel_rfl) rfl #[.int .i64 t477, .slice Ao76 t478.length co76] rfl TA ?_; (with_reducible refine (spec_IndexOfPoint.calls kj36 t477 _ _ t478 t483 t484 _ ?side1 ?side2 A73.out).mono ?_); (case side1 => exact CW (Kd.R_reads' HO480.out).2.2); (case side2 => exact (Kd.R_reads' HO480.out).2.1); rintro e w' ⟨rfl, ⟨nd, rfl⟩⟩; refine ⟨_, rfl, ?_⟩))
       (try simp only [Act.put, List.setIfInBounds_toArray, List.set_cons_zero, List.set_cons_succ])
       go_cut [247] (fun v247 wc => ∃ (kq : Nat) (x247_73 : Bool), v247 = .bool x247_73 ∧ Aside0 (laws_FnTrianglesAreCut.j5 kq l0 l1 x247_73 = some r) ∧ Aside0 (kq ≤ kj36) ∧ Aside0 (Below w.heap.size w wc))
       case first => as_aux_lemma =>
        have H := HC74.out
        clear HC74
        by_cases c78 : (t482 != t484) = true
        ·rw [if_pos c78] at H
         cases H
        ·rw [if_neg c78] at H
         have c78b0 : (t482 != t484) = false := by simpa using c78
         (try (have c78b1 : decide (t482 = t484) = true := by simpa using c78))
         (try (have c78b2 : (t482 == t484) = true := by simpa using c78))
         clear c78
         (first | rw [c78b0] | (simp only [i64_w, i32_w]; rw [c78b0]) | skip)
         have H' := Aside0.mk H
         clear H
         go_wp2
         go_meet
         case rel => exact ⟨_, ((t481 != t483)), RF, H', ⟨by have := HJ11.out; have := HJ36.out; first | omega | exact Nat.le_refl _⟩, ⟨BB⟩⟩
       case rest => as_aux_lemma =>
        clear HC74
        try clear c1
        try clear c2
        try clear p2
        try clear c3
        try clear c4
        try clear p4
        try clear q4
        try clear hx4
        try clear c5
        try clear c6
        try clear p6
        try clear c7
        try clear c8
        try clear c9
        try clear c10
        try clear c11
        try clear c13
        try clear c15
        try clear c17
        try clear c18
        try clear c19
        try clear c20
        try clear c20b0
        try clear c20b1
        try clear c20b2
        try clear c22
        try clear c23
        try clear c23b0
        try clear c23b1
        try clear c23b2
        try clear c25
        try clear c26
        try clear c26b0
        try clear c26b1
        try clear c26b2
        try clear c28
        try clear c29
        try clear c29b0
        try clear c29b1
        try clear c29b2
        try clear c36
        try clear c38
        try clear c43
        try clear c44
        try clear c44b0
        try clear c44b1
        try clear c46
        try clear p46
        try clear q46
        try clear hx46
        try clear c50
        try clear c54
        try clear c56
        try clear c56b0
        try clear c57
        try clear c57b0
        try clear c58
        try clear c58b0
        try clear c61
        try clear c63
        try clear c64
        try clear p64
        try clear c65
        try clear c65b0
        try clear c65b1
        try clear c66
        try clear c66b0
        try clear c66b1
        try clear c78
        try clear c78b0
        try clear c78b1
        try clear c78b2
        try clear hx467_0
        try clear p2
        try clear p4
        try clear p46
        try clear p467
        try clear p6
        try clear p64
        try clear q4
        try clear q46
        try clear q467
        obtain ⟨kq, x247_73, rfl, HA, HJ73, HB⟩ := hcut
        cases kq with
        | zero => exact absurd HA.out (by simp [laws_FnTrianglesAreCut.j5])
        | succ kj73 =>
         have H := HA.out
         clear HA
         simp only [laws_FnTrianglesAreCut.j5] at H
         by_cases c79 : x247_73 = true
         ·subst c79
          replace H := IP H
          cases H
         ·replace c79 := Bool.eq_false_iff.mpr c79
          subst c79
          replace H := IN H
          replace H := EA H
          obtain ⟨t485, A80, H⟩ := H
          replace H := EA H
          obtain ⟨⟨t486, t487⟩, A81, H⟩ := H
          try dsimp only at H
          replace H := EA H
          obtain ⟨⟨t490, t491⟩, A82, H⟩ := H
          try dsimp only at H
          have HC83 := Aside0.mk H
          clear H
          go_upto_region 35 with (first | ((with_reducible refine gate_callee (f := 20) rfl ?_); refine goesL_ (some 249) rfl rfl Try.func20 (by kernel_rfl) rfl #[.slice A1 l1.length c1] rfl TA ?_; (with_reducible refine (spec_DrawCellsOf.calls _ _ l1 t485 _ ?side1 ?side2 A80.out).mono ?_); (case side1 => exact CW (Kd.C_below HR1.out HB.out)); (case side2 => exact HC1.out); rintro e w84 ⟨rfl, hb⟩; refine ⟨_, rfl, ?_⟩; have n0_ := Aside0.mk (below_step BB hb); clear HB; have HB := n0_; clear n0_; (try clear hb); (try clear hb2); (try clear hk); (try clear hi)) | ((with_reducible refine gate_callee (f := 21) rfl ?_); refine goesL_ (some 252) rfl rfl Try.func21 (by kernel_rfl) rfl #[.int .i64 t485] rfl TA ?_; (with_reducible refine (impl_CellsOf.calls kj73 t485 t486 t487 _ A81.out).mono ?_); rintro e w85 ⟨v488, rfl, ho0, hb⟩; refine ⟨_, rfl, ?_⟩; have n0_ := Aside0.mk (Kd.S_lower ho0 (below_size BB)); have n1_ := Aside0.mk (below_step BB hb); clear HB; have HO489 := n0_; have HB := n1_; clear n0_ n1_; (try clear hb); (try clear hb2); (try clear hk); (try clear hi); (try clear ho0)) | ((with_reducible refine gate_callee (f := 22) rfl ?_); refine goesL_ (some 257) rfl rfl Try.func22 (by kernel_rfl) rfl #[.int .i64 t485] rfl TA ?_; (with_reducible refine (spec_CellsOf.calls kj73 t485 t490 t491 _ A82.out).mono ?_); rintro e w86 ⟨v492, rfl, ho0, hb⟩; refine ⟨_, rfl, ?_⟩; have n0_ := Aside0.mk (Kd.S_elder' (KS HO489) (Kd.S_base ho0) hb); have n1_ := Aside0.mk (Kd.S_lower (Kd.S_new' ho0 (Kd.S_lt (KS HO489))) (below_size BB)); have n2_ := Aside0.mk (below_step BB hb); clear HO489; clear HB; have HO489 := n0_; have HO493 := n1_; have HB := n2_; clear n0_ n1_ n2_; (try clear hb); (try clear hb2); (try clear hk); (try clear hi); (try clear ho0)))
          (try simp only [Act.put, List.setIfInBounds_toArray, List.set_cons_zero, List.set_cons_succ])
          go_cut [268] (fun v268 wc => ∃ (kq : Nat) (x268_82 : Bool), v268 = .bool x268_82 ∧ Aside0 (laws_FnTrianglesAreCut.j6 kq l0 t485 t486 t487 x268_82 = some r) ∧ Aside0 (kq ≤ kj73) ∧ Aside0 (Kd.S (Kd.slice 3 (Kd.int .i64)) 26 wc w.heap.size (fun _ => True) v488 t486) ∧ Aside0 (Below w.heap.size w wc))
          case first => as_aux_lemma =>
           have H := HC83.out
           clear HC83
           by_cases c87 : (t487 != t491) = true
           ·rw [if_pos c87] at H
            cases H
           ·rw [if_neg c87] at H
            have c87b0 : (t487 != t491) = false := by simpa using c87
            (try (have c87b1 : decide (t487 = t491) = true := by simpa using c87))
            (try (have c87b2 : (t487 == t491) = true := by simpa using c87))
            clear c87
            (first | rw [c87b0] | (simp only [i64_w, i32_w]; rw [c87b0]) | skip)
            replace H := EA H
            obtain ⟨t494, A88, H⟩ := H
            have H' := Aside0.mk H
            clear H
            obtain ⟨Ao89, co89, eo89⟩ := Kd.S_slice HO489.out
            subst eo89
            obtain ⟨Ao90, co90, eo90⟩ := Kd.S_slice HO493.out
            subst eo90
            go_wp2_with (first | (go_at_call 23; (with_reducible refine (laws_uSameRows.calls kj73 _ _ t486 _ _ t490 t494 _ ?side1 ?side2 ?side3 ?side4 A88.out).mono ?_); (case side1 => exact CW (Kd.S_reads' HO489.out).2.2); (case side2 => exact (Kd.S_reads' HO489.out).2.1); (case side3 => exact CW (Kd.S_reads' HO493.out).2.2); (case side4 => exact (Kd.S_reads' HO493.out).2.1); rintro e w' ⟨rfl, ⟨nd, rfl⟩⟩))
            go_meet
            case rel => exact ⟨_, (!t494), RF, H', ⟨by have := HJ11.out; have := HJ36.out; have := HJ73.out; first | omega | exact Nat.le_refl _⟩, ⟨by (with_reducible repeat (first | apply Kd.S_alloc | apply Kd.S_drewN | apply Kd.S_drew)); exact Kd.S_mono HO489.out (fun _ hk => trivial)⟩, ⟨BB⟩⟩
          case rest => as_aux_lemma =>
           clear HC83
           try clear c1
           try clear c2
           try clear p2
           try clear c3
           try clear c4
           try clear p4
           try clear q4
           try clear hx4
           try clear c5
           try clear c6
           try clear p6
           try clear c7
           try clear c8
           try clear c9
           try clear c10
           try clear c11
           try clear c13
           try clear c15
           try clear c17
           try clear c18
           try clear c19
           try clear c20
           try clear c20b0
           try clear c20b1
           try clear c20b2
           try clear c21
           try clear c22
           try clear c23
           try clear c23b0
           try clear c23b1
           try clear c23b2
           try clear c25
           try clear c26
           try clear c26b0
           try clear c26b1
           try clear c26b2
           try clear c28
           try clear c29
           try clear c29b0
           try clear c29b1
           try clear c29b2
           try clear c36
           try clear c38
           try clear c43
           try clear c44
           try clear c44b0
           try clear c44b1
           try clear c46
           try clear p46
           try clear q46
           try clear hx46
           try clear c50
           try clear c54
           try clear c56
           try clear c56b0
           try clear c57
           try clear c57b0
           try clear c58
           try clear c58b0
           try clear c61
           try clear c63
           try clear c64
           try clear p64
           try clear c65
           try clear c65b0
           try clear c65b1
           try clear c66
           try clear c66b0
           try clear c66b1
           try clear c78
           try clear c78b0
           try clear c78b1
           try clear c78b2
           try clear c79
           try clear c87
           try clear c87b0
           try clear c87b1
           try clear c87b2
           try clear hx467_0
           try clear p2
           try clear p4
           try clear p46
           try clear p467
           try clear p6
           try clear p64
           try clear q4
           try clear q46
           try clear q467
           obtain ⟨kq, x268_82, rfl, HA, HJ82, HO_36, HB⟩ := hcut
           cases kq with
           | zero => exact absurd HA.out (by simp [laws_FnTrianglesAreCut.j6])
           | succ kj82 =>
            have H := HA.out
            clear HA
            simp only [laws_FnTrianglesAreCut.j6] at H
            by_cases c91 : x268_82 = true
            ·subst c91
             replace H := IP H
             cases H
            ·replace c91 := Bool.eq_false_iff.mpr c91
             subst c91
             replace H := IN H
             have HC92 := Aside0.mk H
             clear H
             go_upto_if 269 with (fail)
             go_cut [] (fun wc => ∃ (kq : Nat), Aside0 (laws_FnTrianglesAreCut.j9 kq l0 = some r) ∧ Aside0 (kq ≤ kj82) ∧ Aside0 (Below w.heap.size w wc))
             case first => as_aux_lemma =>
              have H := HC92.out
              clear HC92
              by_cases c93 : t487 = true
              ·subst c93
               replace H := IP H
               have H' := Aside0.mk H
               clear H
               obtain ⟨Ao94, co94, eo94⟩ := Kd.S_slice HO_36.out
               subst eo94
               go_wp2
               go_loopg [40, 272] kj82 (fun kq v40 v272 w' => ∃ (x40_5 : Int) (x272_5 : Int), v40 = .int .i64 x40_5 ∧ v272 = .int .i64 x272_5 ∧ Aside0 (laws_FnTrianglesAreCut.l1 kq l0 t485 t486 x40_5 t486 (t486.length : Int) x272_5 = some r) ∧ Aside0 (kq ≤ kj82) ∧ Aside0 (Kd.S (Kd.slice 3 (Kd.int .i64)) 26 w' w.heap.size (fun _ => True) (.slice Ao94 t486.length co94) t486) ∧ Aside0 (Kd.S (Kd.slice 3 (Kd.int .i64)) 26 w' w.heap.size (fun _ => True) (.slice Ao94 t486.length co94) t486) ∧ Aside0 (Below w.heap.size w w'))
               case atStart => exact ⟨(0), (0), RF, RF, H', ⟨Nat.le_refl _⟩, ⟨KS HO_36⟩, ⟨KS HO_36⟩, ⟨BB⟩⟩
               case round => as_aux_lemma =>
                clear H'
                try clear c1
                try clear c2
                try clear p2
                try clear c3
                try clear c4
                try clear p4
                try clear q4
                try clear hx4
                try clear c5
                try clear c6
                try clear p6
                try clear c7
                try clear c8
                try clear c9
                try clear c10
                try clear c11
                try clear c13
                try clear c15
                try clear c17
                try clear c18
                try clear c19
                try clear c20
                try clear c20b0
                try clear c20b1
                try clear c20b2
                try clear c21
                try clear c22
                try clear c23
                try clear c23b0
                try clear c23b1
                try clear c23b2
                try clear c25
                try clear c26
                try clear c26b0
                try clear c26b1
                try clear c26b2
                try clear c28
                try clear c29
                try clear c29b0
                try clear c29b1
                try clear c29b2
                try clear c36
                try clear c38
                try clear c43
                try clear c44
                try clear c44b0
                try clear c44b1
                try clear c46
                try clear p46
                try clear q46
                try clear hx46
                try clear c50
                try clear c54
                try clear c56
                try clear c56b0
                try clear c57
                try clear c57b0
                try clear c58
                try clear c58b0
                try clear c61
                try clear c63
                try clear c64
                try clear p64
                try clear c65
                try clear c65b0
                try clear c65b1
                try clear c66
                try clear c66b0
                try clear c66b1
                try clear c78
                try clear c78b0
                try clear c78b1
                try clear c78b2
                try clear c79
                try clear c87
                try clear c87b0
                try clear c87b1
                try clear c87b2
                try clear c91
                try clear c93
                try clear hx467_0
                try clear p2
                try clear p4
                try clear p46
                try clear p467
                try clear p6
                try clear p64
                try clear q4
                try clear q46
                try clear q467
                obtain ⟨x40_5, x272_5, rfl, rfl, HA, HK5, HO_36, HO_270, HB⟩ := hrel
                cases gk with
                | zero => exact absurd HA.out (by simp [laws_FnTrianglesAreCut.l1])
                | succ k5 =>
                 have H := HA.out
                 clear HA
                 simp only [laws_FnTrianglesAreCut.l1] at H
                 by_cases c95 : x272_5 < (t486.length : Int)
                 ·rw [if_pos c95] at H
                  have c95b0 : decide (x272_5 < (t486.length : Int)) = true := decide_eq_true c95
                  clear c95
                  (first | rw [c95b0] | (simp only [i64_w, i32_w]; rw [c95b0]) | skip)
                  by_cases c96 : 0 ≤ x272_5
                  ·rw [if_pos c96] at H
                   have c96b0 : decide (0 ≤ x272_5) = true := decide_eq_true c96
                   clear c96
                   by_cases c97 : x272_5 < (t486.length : Int)
                   ·rw [if_pos c97] at H
                    have c97b0 : decide (x272_5 < (t486.length : Int)) = true := decide_eq_true c97
                    clear c97
                    replace H := EA H
                    obtain ⟨⟨t498, t499⟩, A98, H⟩ := H
                    try dsimp only at H
                    have HC99 := Aside0.mk H
                    clear H
                    have p497 : 0 ≤ (x272_5 : Int) := of_decide_eq_true AS
                    have q497 : x272_5 < (t486.length : Int) := of_decide_eq_true AS
                    obtain ⟨ad497, A497_0, c497_0, e497, hx497_0, hl497_0, hi497_0⟩ := at_L3 (Kd.S_reads' HO_270.out).2.2 x272_5 p497 q497
                    cases e497
                    obtain ⟨ce497, hce497, hMe497, hcc497⟩ := Kd.S_get HO_270.out [] x272_5 p497 (by first | exact q497 | exact of_decide_eq_true AS | (have e_ := (Kd.S_reads' HO_270.out).1; omega))
                    obtain ⟨ve497_0, rfl, ge497_0⟩ := hMe497
                    have hv497_0 := hcc497 0 _ rfl
                    rw [Nat.add_zero, show ((Kd.slice 3 (Kd.int .i64))).sz = 1 from rfl, Nat.mul_one] at hv497_0
                    replace hv497_0 := Option.some.inj (hv497_0.symm.trans hx497_0)
                    rw [hv497_0] at ge497_0
                    have HL497_0 := Aside0.mk (show Kd.R (Kd.int .i64) 3 _ _ _ _ (rd_L3 t486 x272_5) from ge497_0)
                    clear hv497_0 ge497_0
                    clear hcc497 hce497
                    have HR497_0 := Aside0.mk hi497_0
                    have HC497_0 := Aside0.mk hl497_0
                    clear hi497_0 hl497_0
                    replace p497 := eq_true p497
                    replace q497 := eq_true q497
                    go_upto_region 43 with (first | ((with_reducible refine gate_callee (f := 24) rfl ?_); refine goesL_ (some 280) rfl rfl Try.func24 (by kernel_rfl) rfl #[.int .i64 t485, .int .i64 x272_5] rfl TA ?_; (with_reducible refine (impl_IsUpCell.calls k5 t485 x272_5 t498 t499 _ A98.out).mono ?_); rintro e w100 ⟨rfl, hb⟩; refine ⟨_, rfl, ?_⟩; have n0_ := Aside0.mk (Kd.S_below (KS HO_36) hb); have n1_ := Aside0.mk (Kd.S_below (KS HO_270) hb); have n2_ := Aside0.mk (Kd.R_below (KR HL497_0) hb); have n3_ := Aside0.mk (Kd.C_below (by repeat (first | (with_reducible exact HR497_0.out) | (with_reducible refine Kd.C_drewN ?_ _) | (with_reducible refine Kd.C_drew ?_) | (with_reducible refine Kd.C_alloc ?_ _) | exact HR497_0.out)) hb); have n4_ := Aside0.mk (below_step BB hb); clear HO_36; clear HO_270; clear HL497_0; clear HR497_0; clear HB; have HO_36 := n0_; have HO_270 := n1_; have HL497_0 := n2_; have HR497_0 := n3_; have HB := n4_; clear n0_ n1_ n2_ n3_ n4_; (try clear hb); (try clear hb2); (try clear hk); (try clear hi)))
                    (try simp only [Act.put, List.setIfInBounds_toArray, List.set_cons_zero, List.set_cons_succ])
                    go_cut [298] (fun v298 wc => ∃ (kq : Nat) (x298_98 : Bool), v298 = .bool x298_98 ∧ Aside0 (laws_FnTrianglesAreCut.j8 kq l0 t485 t486 x40_5 t498 t486 (t486.length : Int) x272_5 x298_98 = some r) ∧ Aside0 (kq ≤ k5) ∧ Aside0 (Kd.S (Kd.slice 3 (Kd.int .i64)) 26 wc w.heap.size (fun _ => True) (.slice (some ad497) t486.length co94) t486) ∧ Aside0 (Kd.S (Kd.slice 3 (Kd.int .i64)) 26 wc w.heap.size (fun _ => True) (.slice (some ad497) t486.length co94) t486) ∧ Aside0 (Kd.C (Kd.int .i64) wc A497_0 (rd_L3 t486 x272_5).length (rd_L3 t486 x272_5)) ∧ Aside0 (Below w.heap.size w wc))
                    case first => as_aux_lemma =>
                     have H := HC99.out
                     clear HC99
                     by_cases c101 : t499 = true
                     ·subst c101
                      replace H := IP H
                      by_cases c102 : x272_5 > 0
                      ·rw [if_pos c102] at H
                       have c102b0 : decide (0 < x272_5) = true := decide_eq_true c102
                       clear c102
                       (first | rw [c102b0] | (simp only [i64_w, i32_w]; rw [c102b0]) | skip)
                       obtain ⟨ji103, hji103⟩ : ∃ j_ : Int, (wrap64 (x272_5 - 1)) = j_ := ⟨_, rfl⟩
                       replace H : (if 0 ≤ (ji103) then (if (ji103) < (t486.length : Int) then ((laws_uLess.f k5 (rd_L3 t486 (ji103)) (rd_L3 t486 x272_5)).bind fun t501 => (laws_FnTrianglesAreCut.j8 k5 l0 t485 t486 x40_5 t498 t486 (t486.length : Int) x272_5 (!t501))) else (none)) else (none)) = some r := by first | (rw [hji103] at H; exact H) | (simp only [hji103] at H ⊢; exact H)
                       have hji103w : (IntKind.i64.wrap (x272_5 - 1)) = ji103 := (i64_w _).trans hji103
                       by_cases c104 : 0 ≤ (ji103)
                       ·rw [if_pos c104] at H
                        have c104b0 : decide (0 ≤ (ji103)) = true := decide_eq_true c104
                        clear c104
                        by_cases c105 : (ji103) < (t486.length : Int)
                        ·rw [if_pos c105] at H
                         have c105b0 : decide ((ji103) < (t486.length : Int)) = true := decide_eq_true c105
                         clear c105
                         replace H := EA H
                         obtain ⟨t501, A106, H⟩ := H
                         have H' := Aside0.mk H
                         clear H
                         have p500 : 0 ≤ ((ji103) : Int) := of_decide_eq_true AS
                         have q500 : (ji103) < (t486.length : Int) := of_decide_eq_true AS
                         obtain ⟨ad500, A500_0, c500_0, e500, hx500_0, hl500_0, hi500_0⟩ := at_L3 (Kd.S_reads' HO_36.out).2.2 (ji103) p500 q500
                         obtain rfl : ad497 = ad500 := (by injection e500)
                         obtain ⟨ce500, hce500, hMe500, hcc500⟩ := Kd.S_get HO_36.out [] (ji103) p500 (by first | exact q500 | exact of_decide_eq_true AS | (have e_ := (Kd.S_reads' HO_36.out).1; omega))
                         obtain ⟨ve500_0, rfl, ge500_0⟩ := hMe500
                         have hv500_0 := hcc500 0 _ rfl
                         rw [Nat.add_zero, show ((Kd.slice 3 (Kd.int .i64))).sz = 1 from rfl, Nat.mul_one] at hv500_0
                         replace hv500_0 := Option.some.inj (hv500_0.symm.trans hx500_0)
                         rw [hv500_0] at ge500_0
                         have HL500_0 := Aside0.mk (show Kd.R (Kd.int .i64) 3 _ _ _ _ (rd_L3 t486 (ji103)) from ge500_0)
                         clear hv500_0 ge500_0
                         clear hcc500 hce500
                         have HR500_0 := Aside0.mk hi500_0
                         have HC500_0 := Aside0.mk hl500_0
                         clear hi500_0 hl500_0
                         replace p500 := eq_true p500
                         replace q500 := eq_true q500
                         go_wp2_with (first | (go_at_call 25; (with_reducible refine (laws_uLess.calls k5 _ _ (rd_L3 t486 (ji103)) _ _ (rd_L3 t486 x272_5) t501 _ ?side1 ?side2 ?side3 ?side4 A106.out).mono ?_); (case side1 => exact CW (by repeat (first | (with_reducible exact HR500_0.out) | (with_reducible refine Kd.C_drewN ?_ _) | (with_reducible refine Kd.C_drew ?_) | (with_reducible refine Kd.C_alloc ?_ _) | exact HR500_0.out))); (case side2 => exact HC500_0.out); (case side3 => exact CW (by repeat (first | (with_reducible exact HR497_0.out) | (with_reducible refine Kd.C_drewN ?_ _) | (with_reducible refine Kd.C_drew ?_) | (with_reducible refine Kd.C_alloc ?_ _) | exact HR497_0.out))); (case side4 => exact HC497_0.out); rintro e w' ⟨rfl, ⟨nd, rfl⟩⟩))
                         go_meet
                         case rel => exact ⟨_, (!t501), RF, H', ⟨by have := HJ11.out; have := HJ36.out; have := HJ73.out; have := HJ82.out; have := HK5.out; first | omega | exact Nat.le_refl _⟩, ⟨KS HO_36⟩, ⟨KS HO_270⟩, ⟨by repeat (first | (with_reducible exact HR497_0.out) | (with_reducible refine Kd.C_drewN ?_ _) | (with_reducible refine Kd.C_drew ?_) | (with_reducible refine Kd.C_alloc ?_ _) | exact HR497_0.out)⟩, ⟨BB⟩⟩
                        ·rw [if_neg c105] at H
                         cases H
                       ·rw [if_neg c104] at H
                        cases H
                      ·rw [if_neg c102] at H
                       have c102b0 : decide (0 < x272_5) = false := decide_eq_false c102
                       clear c102
                       (first | rw [c102b0] | (simp only [i64_w, i32_w]; rw [c102b0]) | skip)
                       have H' := Aside0.mk H
                       clear H
                       go_wp2
                       go_meet
                       case rel => exact ⟨_, (false), RF, H', ⟨by have := HJ11.out; have := HJ36.out; have := HJ73.out; have := HJ82.out; have := HK5.out; first | omega | exact Nat.le_refl _⟩, ⟨KS HO_36⟩, ⟨KS HO_270⟩, ⟨by repeat (first | (with_reducible exact HR497_0.out) | (with_reducible refine Kd.C_drewN ?_ _) | (with_reducible refine Kd.C_drew ?_) | (with_reducible refine Kd.C_alloc ?_ _) | exact HR497_0.out)⟩, ⟨BB⟩⟩
                     ·replace c101 := Bool.eq_false_iff.mpr c101
                      subst c101
                      replace H := IN H
                      cases H
                    case rest => as_aux_lemma =>
                     clear HC99
                     try clear c1
                     try clear c2
                     try clear p2
                     try clear c3
                     try clear c4
                     try clear p4
                     try clear q4
                     try clear hx4
                     try clear c5
                     try clear p5
                     try clear q5
                     try clear hx5
                     try clear c6
                     try clear p6
                     try clear c7
                     try clear c8
                     try clear c9
                     try clear c10
                     try clear c11
                     try clear c13
                     try clear c15
                     try clear c17
                     try clear c18
                     try clear c19
                     try clear c20
                     try clear c20b0
                     try clear c20b1
                     try clear c20b2
                     try clear c21
                     try clear c22
                     try clear c23
                     try clear c23b0
                     try clear c23b1
                     try clear c23b2
                     try clear c24
                     try clear c25
                     try clear c26
                     try clear c26b0
                     try clear c26b1
                     try clear c26b2
                     try clear c28
                     try clear c29
                     try clear c29b0
                     try clear c29b1
                     try clear c29b2
                     try clear c36
                     try clear c38
                     try clear c43
                     try clear c44
                     try clear c44b0
                     try clear c44b1
                     try clear c46
                     try clear p46
                     try clear q46
                     try clear hx46
                     try clear c49
                     try clear p49
                     try clear q49
                     try clear hx49
                     try clear c50
                     try clear p50
                     try clear q50
                     try clear hx50
                     try clear c54
                     try clear c56
                     try clear c56b0
                     try clear c57
                     try clear c57b0
                     try clear c58
                     try clear c58b0
                     try clear c61
                     try clear c63
                     try clear c64
                     try clear p64
                     try clear c65
                     try clear c65b0
                     try clear c65b1
                     try clear c66
                     try clear c66b0
                     try clear c66b1
                     try clear c78
                     try clear c78b0
                     try clear c78b1
                     try clear c78b2
                     try clear c79
                     try clear c87
                     try clear c87b0
                     try clear c87b1
                     try clear c87b2
                     try clear c91
                     try clear c93
                     try clear c95
                     try clear c95b0
                     try clear c96
                     try clear c96b0
                     try clear c97
                     try clear c97b0
                     try clear c101
                     try clear c102
                     try clear c102b0
                     try clear c104
                     try clear c104b0
                     try clear c105
                     try clear c105b0
                     try clear hx467_0
                     try clear hx497_0
                     try clear hx500_0
                     try clear p2
                     try clear p4
                     try clear p46
                     try clear p467
                     try clear p497
                     try clear p500
                     try clear p6
                     try clear p64
                     try clear q4
                     try clear q46
                     try clear q467
                     try clear q497
                     try clear q500
                     obtain ⟨kq, x298_98, rfl, HA, HJ98, HO_36, HO_270, HR497_0, HB⟩ := hcut
                     cases kq with
                     | zero => exact absurd HA.out (by simp [laws_FnTrianglesAreCut.j8])
                     | succ kj98 =>
                      have H := HA.out
                      clear HA
                      simp only [laws_FnTrianglesAreCut.j8] at H
                      by_cases c107 : x298_98 = true
                      ·subst c107
                       replace H := IP H
                       cases H
                      ·replace c107 := Bool.eq_false_iff.mpr c107
                       subst c107
                       replace H := IN H
                       by_cases c108 : t498 = true
                       ·subst c108
                        replace H := IP H
                        have H' := Aside0.mk H
                        clear H
                        go_wp2
                        go_roundg kj98
                        case measure => have := HJ11.out; have := HJ36.out; have := HJ73.out; have := HJ82.out; have := HK5.out; have := HJ98.out; omega
                        case rel => exact ⟨(wrap64 (x40_5 + 1)), (wrap64 (x272_5 + 1)), RF, RF, H', ⟨by have := HJ11.out; have := HJ36.out; have := HJ73.out; have := HJ82.out; have := HK5.out; have := HJ98.out; omega⟩, ⟨KS HO_36⟩, ⟨KS HO_270⟩, ⟨BB⟩⟩
                       ·replace c108 := Bool.eq_false_iff.mpr c108
                        subst c108
                        replace H := IN H
                        have H' := Aside0.mk H
                        clear H
                        go_wp2
                        go_roundg kj98
                        case measure => have := HJ11.out; have := HJ36.out; have := HJ73.out; have := HJ82.out; have := HK5.out; have := HJ98.out; omega
                        case rel => exact ⟨(x40_5), (wrap64 (x272_5 + 1)), RF, RF, H', ⟨by have := HJ11.out; have := HJ36.out; have := HJ73.out; have := HJ82.out; have := HK5.out; have := HJ98.out; omega⟩, ⟨KS HO_36⟩, ⟨KS HO_270⟩, ⟨BB⟩⟩
                   ·rw [if_neg c97] at H
                    cases H
                  ·rw [if_neg c96] at H
                   cases H
                 ·rw [if_neg c95] at H
                  have c95b0 : decide (x272_5 < (t486.length : Int)) = false := decide_eq_false c95
                  try (have c95bl := c95b0; rw [hl497_0] at c95bl)
                  clear c95
                  (first | rw [c95b0] | (simp only [i64_w, i32_w]; rw [c95b0]) | skip)
                  replace H := EA H
                  obtain ⟨⟨t495, t496⟩, A109, H⟩ := H
                  try dsimp only at H
                  by_cases c110 : (t486.length : Int) = (wrap64 (t485 * t485))
                  ·rw [if_pos c110] at H
                   have c110b0 : ((t486.length : Int) == (wrap64 (t485 * t485))) = true := beq_iff_eq.mpr c110
                   have c110b1 : ((t486.length : Int) != (wrap64 (t485 * t485))) = false := bne_eq_false_iff_eq.mpr c110
                   clear c110
                   by_cases c111 : x40_5 = (wrap64 (Int.tdiv (wrap64 (t485 * (wrap64 (t485 + 1)))) 2))
                   ·rw [if_pos c111] at H
                    have c111b0 : (x40_5 == (wrap64 (Int.tdiv (wrap64 (t485 * (wrap64 (t485 + 1)))) 2))) = true := beq_iff_eq.mpr c111
                    have c111b1 : (x40_5 != (wrap64 (Int.tdiv (wrap64 (t485 * (wrap64 (t485 + 1)))) 2))) = false := bne_eq_false_iff_eq.mpr c111
                    clear c111
                    by_cases c112 : t496 = true
                    ·subst c112
                     replace H := IP H
                     by_cases c113 : t495 = (wrap64 (Int.tdiv (wrap64 ((wrap64 (t485 + 1)) * (wrap64 (t485 + 2)))) 2))
                     ·rw [if_pos c113] at H
                      have c113b0 : (t495 == (wrap64 (Int.tdiv (wrap64 ((wrap64 (t485 + 1)) * (wrap64 (t485 + 2)))) 2))) = true := beq_iff_eq.mpr c113
                      have c113b1 : (t495 != (wrap64 (Int.tdiv (wrap64 ((wrap64 (t485 + 1)) * (wrap64 (t485 + 2)))) 2))) = false := bne_eq_false_iff_eq.mpr c113
                      clear c113
                      have H' := Aside0.mk H
                      clear H
                      go_wp2_with (first | ((with_reducible refine gate_callee (f := 26) rfl ?_); refine goesL_ (some 305) rfl rfl Try.func26 (by kernel_rfl) rfl #[.int .i64 t485] rfl TA ?_; (with_reducible refine (impl_CountPoints.calls t485 t495 true _ A109.out).mono ?_); rintro e w' ⟨rfl, ⟨nd, rfl⟩⟩; refine ⟨_, rfl, ?_⟩))
                      go_meet
                      case rel => exact ⟨_, H', ⟨by have := HJ11.out; have := HJ36.out; have := HJ73.out; have := HJ82.out; have := HK5.out; first | omega | exact Nat.le_refl _⟩, ⟨BB⟩⟩
                     ·rw [if_neg c113] at H
                      cases H
                    ·replace c112 := Bool.eq_false_iff.mpr c112
                     subst c112
                     replace H := IN H
                     cases H
                   ·rw [if_neg c111] at H
                    cases H
                  ·rw [if_neg c110] at H
                   cases H
              ·replace c93 := Bool.eq_false_iff.mpr c93
               subst c93
               replace H := IN H
               have H' := Aside0.mk H
               clear H
               go_wp2
               go_meet
               case rel => exact ⟨_, H', ⟨by have := HJ11.out; have := HJ36.out; have := HJ73.out; have := HJ82.out; first | omega | exact Nat.le_refl _⟩, ⟨BB⟩⟩
             case rest => as_aux_lemma =>
              clear HC92
              try clear c1
              try clear c2
              try clear p2
              try clear c3
              try clear c4
              try clear p4
              try clear q4
              try clear hx4
              try clear c5
              try clear p5
              try clear q5
              try clear hx5
              try clear c6
              try clear p6
              try clear c7
              try clear c8
              try clear c9
              try clear c10
              try clear c11
              try clear c13
              try clear c15
              try clear c17
              try clear c18
              try clear c19
              try clear c20
              try clear c20b0
              try clear c20b1
              try clear c20b2
              try clear c21
              try clear c22
              try clear c23
              try clear c23b0
              try clear c23b1
              try clear c23b2
              try clear c24
              try clear c25
              try clear c26
              try clear c26b0
              try clear c26b1
              try clear c26b2
              try clear c28
              try clear c29
              try clear c29b0
              try clear c29b1
              try clear c29b2
              try clear c36
              try clear c38
              try clear c43
              try clear c44
              try clear c44b0
              try clear c44b1
              try clear c46
              try clear p46
              try clear q46
              try clear hx46
              try clear c49
              try clear p49
              try clear q49
              try clear hx49
              try clear c50
              try clear p50
              try clear q50
              try clear hx50
              try clear c54
              try clear c56
              try clear c56b0
              try clear c57
              try clear c57b0
              try clear c58
              try clear c58b0
              try clear c61
              try clear c63
              try clear c64
              try clear p64
              try clear c65
              try clear c65b0
              try clear c65b1
              try clear c66
              try clear c66b0
              try clear c66b1
              try clear c78
              try clear c78b0
              try clear c78b1
              try clear c78b2
              try clear c79
              try clear c87
              try clear c87b0
              try clear c87b1
              try clear c87b2
              try clear c91
              try clear c93
              try clear c95
              try clear c95b0
              try clear c96
              try clear c96b0
              try clear c97
              try clear c97b0
              try clear c101
              try clear c102
              try clear c102b0
              try clear c104
              try clear c104b0
              try clear c105
              try clear c105b0
              try clear c107
              try clear c108
              try clear c110
              try clear c110b0
              try clear c110b1
              try clear c111
              try clear c111b0
              try clear c111b1
              try clear c112
              try clear c113
              try clear c113b0
              try clear c113b1
              try clear hx467_0
              try clear hx497_0
              try clear hx500_0
              try clear p2
              try clear p4
              try clear p46
              try clear p467
              try clear p49
              try clear p497
              try clear p5
              try clear p50
              try clear p500
              try clear p6
              try clear p64
              try clear q4
              try clear q46
              try clear q467
              try clear q49
              try clear q497
              try clear q5
              try clear q50
              try clear q500
              obtain ⟨kq, HA, HJ91, HB⟩ := hcut
              cases kq with
              | zero => exact absurd HA.out (by simp [laws_FnTrianglesAreCut.j9])
              | succ kj91 =>
               have H := HA.out
               clear HA
               simp only [laws_FnTrianglesAreCut.j9] at H
               replace H := EA H
               obtain ⟨⟨t502, t503, t504⟩, A114, H⟩ := H
               try dsimp only at H
               replace H := EA H
               obtain ⟨⟨t505, t506⟩, A115, H⟩ := H
               try dsimp only at H
               replace H := EA H
               obtain ⟨⟨t509, t510⟩, A116, H⟩ := H
               try dsimp only at H
               replace H := EA H
               obtain ⟨⟨t513, t514⟩, A117, H⟩ := H
               try dsimp only at H
               replace H := EA H
               obtain ⟨⟨t515, t516⟩, A118, H⟩ := H
               try dsimp only at H
               replace H := EA H
               obtain ⟨⟨t517, t518⟩, A119, H⟩ := H
               try dsimp only at H
               by_cases c120 : (t506 == t510) = true
               ·rw [if_pos c120] at H
                have c120b0 : (t506 == t510) = true := c120
                (try (have c120b1 : decide (t506 = t510) = true := by simpa using c120))
                (try (have c120b2 : (t506 == t510) = true := by simpa using c120))
                clear c120
                replace H := EA H
                obtain ⟨t519, A121, H⟩ := H
                by_cases c122 : t519 = true
                ·subst c122
                 replace H := IP H
                 by_cases c123 : (t516 == t518) = true
                 ·rw [if_pos c123] at H
                  have c123b0 : (t516 == t518) = true := c123
                  (try (have c123b1 : decide (t516 = t518) = true := by simpa using c123))
                  (try (have c123b2 : (t516 == t518) = true := by simpa using c123))
                  clear c123
                  obtain rfl := Option.some.inj H
                  go_wp2_with (first | ((with_reducible refine gate_callee (f := 27) rfl ?_); refine goesL_ (some 339) rfl rfl Try.func27 (by kernel_rfl) rfl #[.slice A0 l0.length c0] rfl TA ?_; (with_reducible refine (spec_DrawCellsWith.calls _ _ l0 t502 t503 t504 _ ?side1 ?side2 A114.out).mono ?_); (case side1 => exact CW (Kd.C_below HR0.out HB.out)); (case side2 => exact HC0.out); rintro e w124 ⟨rfl, hb⟩; refine ⟨_, rfl, ?_⟩; have n0_ := Aside0.mk (below_step BB hb); clear HB; have HB := n0_; clear n0_; (try clear hb); (try clear hb2); (try clear hk); (try clear hi)) | ((with_reducible refine gate_callee (f := 17) rfl ?_); refine goesL_ (some 347) rfl rfl Try.func17 (by kernel_rfl) rfl #[.int .i64 t502, .int .i64 t503, .int .i64 t504] rfl TA ?_; (with_reducible refine (impl_CellsWith.calls kj91 t502 t503 t504 t505 t506 _ A115.out).mono ?_); rintro e w125 ⟨v507, rfl, ho0, hb⟩; refine ⟨_, rfl, ?_⟩; have n0_ := Aside0.mk (Kd.R_lower ho0 (below_size BB)); have n1_ := Aside0.mk (below_step BB hb); clear HB; have HO508 := n0_; have HB := n1_; clear n0_ n1_; (try clear hb); (try clear hb2); (try clear hk); (try clear hi); (try clear ho0)) | ((with_reducible refine gate_callee (f := 28) rfl ?_); refine goesL_ (some 354) rfl rfl Try.func28 (by kernel_rfl) rfl #[.int .i64 t502, .int .i64 t503, .int .i64 t504] rfl TA ?_; (with_reducible refine (spec_CellsWith.calls kj91 t502 t503 t504 t509 t510 _ A116.out).mono ?_); rintro e w126 ⟨v511, rfl, ho0, hb⟩; refine ⟨_, rfl, ?_⟩; have n0_ := Aside0.mk (Kd.R_elder' (KR HO508) (Kd.R_base ho0) hb); have n1_ := Aside0.mk (Kd.R_lower (Kd.R_new' ho0 (Kd.R_lt (KR HO508))) (below_size BB)); have n2_ := Aside0.mk (below_step BB hb); clear HO508; clear HB; have HO508 := n0_; have HO512 := n1_; have HB := n2_; clear n0_ n1_ n2_; (try clear hb); (try clear hb2); (try clear hk); (try clear hi); (try clear ho0)) | ((with_reducible refine gate_callee (f := 29) rfl ?_); refine goesL_ (some 359) rfl rfl Try.func29 (by kernel_rfl) rfl #[.slice A0 l0.length c0] rfl TA ?_; (with_reducible refine (spec_DrawIsUpCell.calls _ _ l0 t513 t514 _ ?side1 ?side2 A117.out).mono ?_); (case side1 => exact CW (Kd.C_below HR0.out HB.out)); (case side2 => exact HC0.out); rintro e w127 ⟨rfl, hb⟩; refine ⟨_, rfl, ?_⟩; have n0_ := Aside0.mk (Kd.R_below (KR HO508) hb); have n1_ := Aside0.mk (Kd.R_below (KR HO512) hb); have n2_ := Aside0.mk (below_step BB hb); clear HO508; clear HO512; clear HB; have HO508 := n0_; have HO512 := n1_; have HB := n2_; clear n0_ n1_ n2_; (try clear hb); (try clear hb2); (try clear hk); (try clear hi)) | ((with_reducible refine gate_callee (f := 24) rfl ?_); refine goesL_ (some 365) rfl rfl Try.func24 (by kernel_rfl) rfl #[.int .i64 t513, .int .i64 t514] rfl TA ?_; (with_reducible refine (impl_IsUpCell.calls kj91 t513 t514 t515 t516 _ A118.out).mono ?_); rintro e w128 ⟨rfl, hb⟩; refine ⟨_, rfl, ?_⟩; have n0_ := Aside0.mk (Kd.R_below (KR HO508) hb); have n1_ := Aside0.mk (Kd.R_below (KR HO512) hb); have n2_ := Aside0.mk (below_step BB hb); clear HO508; clear HO512; clear HB; have HO508 := n0_; have HO512 := n1_; have HB := n2_; clear n0_ n1_ n2_; (try clear hb); (try clear hb2); (try clear hk); (try clear hi)) | ((with_reducible refine gate_callee (f := 30) rfl ?_); refine goesL_ (some 371) rfl rfl Try.func30 (by kernel_rfl) rfl #[.int .i64 t513, .int .i64 t514] rfl TA ?_; (with_reducible refine (spec_IsUpCell.calls kj91 t513 t514 t517 t518 _ A119.out).mono ?_); rintro e w129 ⟨rfl, hb⟩; refine ⟨_, rfl, ?_⟩; have n0_ := Aside0.mk (Kd.R_below (KR HO508) hb); have n1_ := Aside0.mk (Kd.R_below (KR HO512) hb); have n2_ := Aside0.mk (below_step BB hb); clear HO508; clear HO512; clear HB; have HO508 := n0_; have HO512 := n1_; have HB := n2_; clear n0_ n1_ n2_; (try clear hb); (try clear hb2); (try clear hk); (try clear hi); obtain ⟨Ao130, co130, eo130⟩ := Kd.R_slice HO508.out; subst eo130; obtain ⟨Ao131, co131, eo131⟩ := Kd.R_slice HO512.out; subst eo131) | (go_at_call 12; (with_reducible refine (laws_uSame.calls kj91 _ _ t505 _ _ t509 true _ ?side1 ?side2 ?side3 ?side4 A121.out).mono ?_); (case side1 => exact CW (Kd.R_reads' HO508.out).2.2); (case side2 => exact (Kd.R_reads' HO508.out).2.1); (case side3 => exact CW (Kd.R_reads' HO512.out).2.2); (case side4 => exact (Kd.R_reads' HO512.out).2.1); rintro e w' ⟨rfl, ⟨nd, rfl⟩⟩))
                  go_ret
                  exact ⟨RE, BB⟩
                 ·rw [if_neg c123] at H
                  cases H
                ·replace c122 := Bool.eq_false_iff.mpr c122
                 subst c122
                 replace H := IN H
                 cases H
               ·rw [if_neg c120] at H
                cases H

/-- THE ONE PURE STATEMENT of laws_FnTrianglesAreCut: yours. -/
def laws_FnTrianglesAreCut.Pure : Prop := ∀ (l0 : List Int) (l1 : List Int), l0.length ≤ maxLen → l0.length * 1 ≤ 140737488351232 → (∀ x ∈ l0, (Lit.int .u8 x).wf = true) → l1.length ≤ maxLen → l1.length * 1 ≤ 140737488351232 → (∀ x ∈ l1, (Lit.int .u8 x).wf = true) → ∃ k, laws_FnTrianglesAreCut.f k l0 l1 = some true
theorem laws_FnTrianglesAreCut.walk (P : laws_FnTrianglesAreCut.Pure) (a0 : Option Addr) (len0 cap0 : Nat) (z0 : List Int) (a1 : Option Addr) (len1 cap1 : Nat) (z1 : List Int) (w : World) (w0 : (a0 = none ∧ len0 = 0 ∧ cap0 = 0 ∧ z0 = []) ∨ ∃ x, a0 = some x ∧ len0 ≤ cap0 ∧ cap0 ≤ maxLen ∧ z0.length = cap0 ∧ (∀ i, i < z0.length → w.cell? (x.add i) = some (.int .u8 (z0.getD i 0))) ∧ ∀ n ∈ z0, (Lit.int .u8 n).wf = true) (y0 : len0 * 1 ≤ 140737488351232) (w1 : (a1 = none ∧ len1 = 0 ∧ cap1 = 0 ∧ z1 = []) ∨ ∃ x, a1 = some x ∧ len1 ≤ cap1 ∧ cap1 ≤ maxLen ∧ z1.length = cap1 ∧ (∀ i, i < z1.length → w.cell? (x.add i) = some (.int .u8 (z1.getD i 0))) ∧ ∀ n ∈ z1, (Lit.int .u8 n).wf = true) (y1 : len1 * 1 ≤ 140737488351232) :
  Calls Try.prog 3 #[.slice a0 len0 cap0, .slice a1 len1 cap1] w fun e w' => e = .returned (.bool true) ∧ Below w.heap.size w w' := by
 obtain ⟨l0, rfl, hr0, hm0, hw0, hc0⟩ := ReadsInt.ofRowC w0
 obtain ⟨l1, rfl, hr1, hm1, hw1, hc1⟩ := ReadsInt.ofRowC w1
 obtain ⟨k, h⟩ := P l0 l1 hm0 y0 hw0 hm1 y1 hw1
 refine (laws_FnTrianglesAreCut.calls k _ _ l0 _ _ l1 true w (Kd.C_of_reads (d := (0 : Int)) (h1 := fun _ => rfl) hr0) hc0 (Kd.C_of_reads (d := (0 : Int)) (h1 := fun _ => rfl) hr1) hc1 h).mono ?_
 rintro e w' ⟨rfl, hd⟩
 exact ⟨rfl, hd⟩

end Go.Proofs.Ythkdkgbcokpbaab.PFnTrianglesAreCut
