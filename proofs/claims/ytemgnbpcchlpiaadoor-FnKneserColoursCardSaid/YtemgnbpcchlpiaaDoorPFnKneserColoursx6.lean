-- Written by a program of this session (wip/tools/pp.sh) out of the translation; Lean checks it.
import Derived.Test.YtemgnbpcchlpiaaDoorPFnKneserColoursx0
import Derived.Test.YtemgnbpcchlpiaaDoorPFnKneserColoursx1
import Derived.Test.YtemgnbpcchlpiaaDoorPFnKneserColoursx2
import Derived.Test.YtemgnbpcchlpiaaDoorPFnKneserColoursx3
import Derived.Test.YtemgnbpcchlpiaaDoorPFnKneserColoursx4
import Derived.Test.YtemgnbpcchlpiaaDoorPFnKneserColoursx5
namespace Go.Proofs.YtemgnbpcchlpiaaDoor.PFnKneserColours
open Go.RowKit Go.Proofs.YtemgnbpcchlpiaaDoorOwn Go.Proofs.YtemgnbpcchlpiaaDoorW.PrintWords Go.Proofs.YtemgnbpcchlpiaaDoorW.PrintLast Go.Proofs.YtemgnbpcchlpiaaDoorW.PrintMore
attribute [local go_sem] max2_int min2_int max_two min_two max_three min_three max_four min_four   -- for this text's walks alone
set_option linter.unusedVariables false
set_option maxHeartbeats 8000000
set_option maxRecDepth 100000
set_option linter.unusedSimpArgs false

/-! ### laws_FnKneserColours: function 3 -/
mutual
def laws_FnKneserColours.j0 : Nat → List Int → Int → Int → List Int → Bool → Int → List Int → Int → Int → Bool → Option (Bool)
 | 0, _, _, _, _, _, _, _, _, _, _ => none
 | k + 1, x1, x5, x6, x7, x8, x11, x15, x19, x23, x193 => if x193 = true then (none) else (if x8 = true then ((impl_IsColouring.f k x5 x6 x7).bind fun bt353 => (if bt353.2 = true then (if bt353.1 = true then (if (x15.length : Int) = x19 then (laws_FnKneserColours.j1 k x1 x7 x11 x15 x23 ((x7.length : Int) != x19)) else (none)) else (none)) else (none))) else (laws_FnKneserColours.j5 k x1))
def laws_FnKneserColours.j5 : Nat → List Int → Option (Bool)
 | 0, _ => none
 | k + 1, x1 => (spec_DrawFirstApart.f k x1).bind fun bt362 => ((impl_FirstApart.f k bt362.1 bt362.2.1 bt362.2.2).bind fun bt367 => ((spec_FirstApart.f k bt362.1 bt362.2.1 bt362.2.2).bind fun bt371 => ((impl_IsColouring.f k bt362.1 bt362.2.1 bt362.2.2).bind fun bt375 => ((spec_IsColouring.f k bt362.1 bt362.2.1 bt362.2.2).bind fun bt377 => ((spec_DrawAreApart.f x1).bind fun bt379 => ((impl_AreApart.f bt379.1 bt379.2).bind fun bt381 => ((spec_AreApart.f bt379.1 bt379.2).bind fun bt383 => (if (bt367.2 == bt371.2) = true then ((laws_uSame.f k bt367.1 bt371.1).bind fun t385 => (if t385 = true then (if (bt375.2 == bt377.2) = true then (if (bt375.1 == bt377.1) = true then (if (bt381.2 == bt383.2) = true then (if (bt381.1 == bt383.1) = true then (if bt367.2 = true then (if bt375.1 = true then (none) else (if 0 < (bt367.1.length : Int) then (if 1 < (bt367.1.length : Int) then (some ((Go.bits .and .i64 (rd bt367.1 0) (rd bt367.1 1)) == 0)) else (none)) else (none))) else (some true)) else (none)) else (none)) else (none)) else (none)) else (none))) else (none)))))))))
def laws_FnKneserColours.j1 : Nat → List Int → List Int → Int → List Int → Int → Bool → Option (Bool)
 | 0, _, _, _, _, _, _ => none
 | k + 1, x1, x7, x11, x15, x23, x219 => if x219 = true then (none) else (laws_FnKneserColours.l0 k x1 x11 x15 x23 0 x7 (x7.length : Int) 0)
def laws_FnKneserColours.l0 : Nat → List Int → Int → List Int → Int → Int → List Int → Int → Int → Option (Bool)
 | 0, _, _, _, _, _, _, _, _ => none
 | k + 1, x1, x11, x15, x23, x29, x220, x221, x222 => if x222 < x221 then (if 0 ≤ x222 then (if x222 < (x220.length : Int) then (if 0 ≤ (rd x220 x222) then (if (rd x220 x222) < 0 then (none) else (if (rd x220 x222) ≥ x11 then (none) else (if x222 > 0 then (if 0 ≤ (wrap64 (x222 - 1)) then (if (wrap64 (x222 - 1)) < (x15.length : Int) then (if x222 < (x15.length : Int) then (if (rd x15 (wrap64 (x222 - 1))) ≥ (rd x15 x222) then (none) else (laws_FnKneserColours.l0 k x1 x11 x15 x23 (Go.bits .or .i64 x29 (shl .i64 1 (rd x220 x222))) x220 x221 (wrap64 (x222 + 1)))) else (none)) else (none)) else (none)) else (laws_FnKneserColours.l0 k x1 x11 x15 x23 (Go.bits .or .i64 x29 (shl .i64 1 (rd x220 x222))) x220 x221 (wrap64 (x222 + 1)))))) else (none)) else (none)) else (none)) else (if 0 ≤ x11 then (if x29 = (wrap64 ((shl .i64 1 x11) - 1)) then (laws_FnKneserColours.l1 k x1 x15 x23 x15 (x15.length : Int) 0) else (none)) else (none))
def laws_FnKneserColours.l1 : Nat → List Int → List Int → Int → List Int → Int → Int → Option (Bool)
 | 0, _, _, _, _, _, _ => none
 | k + 1, x1, x15, x23, x260, x261, x262 => if x262 < x261 then (if 0 ≤ x262 then (if x262 < (x260.length : Int) then (laws_FnKneserColours.l2 k x1 x15 x23 (rd x260 x262) 0 x260 x261 x262 x15 (x15.length : Int) 0) else (none)) else (none)) else (laws_FnKneserColours.j5 k x1)
def laws_FnKneserColours.l2 : Nat → List Int → List Int → Int → Int → Int → List Int → Int → Int → List Int → Int → Int → Option (Bool)
 | 0, _, _, _, _, _, _, _, _, _, _, _ => none
 | k + 1, x1, x15, x23, x33, x34, x260, x261, x262, x266, x267, x268 => if x268 < x267 then (if 0 ≤ x268 then (if x268 < (x266.length : Int) then ((impl_AreApart.f x33 (rd x266 x268)).bind fun bt360 => (if bt360.2 = true then (if bt360.1 = true then (laws_FnKneserColours.l2 k x1 x15 x23 x33 (wrap64 (x34 + 1)) x260 x261 x262 x266 x267 (wrap64 (x268 + 1))) else (laws_FnKneserColours.l2 k x1 x15 x23 x33 x34 x260 x261 x262 x266 x267 (wrap64 (x268 + 1)))) else (none))) else (none)) else (none)) else (if x34 = x23 then (laws_FnKneserColours.l1 k x1 x15 x23 x260 x261 (wrap64 (x262 + 1))) else (none))
end
def laws_FnKneserColours.f (k : Nat) (l0 : List Int) (l1 : List Int) : Option (Bool) := (laws_big.f l0 l1).bind fun t320 => (if t320 = true then (some true) else ((spec_DrawColoursOf.f l0).bind fun bt321 => ((impl_ColoursOf.f k bt321.1 bt321.2).bind fun bt323 => ((spec_ColoursOf.f k bt321.1 bt321.2).bind fun bt327 => ((impl_FewestColours.f bt321.1 bt321.2).bind fun bt331 => ((spec_FewestColours.f bt321.1 bt321.2).bind fun bt333 => ((impl_SetsOf.f k bt321.1 bt321.2).bind fun bt335 => ((spec_SetsOf.f k bt321.1 bt321.2).bind fun bt339 => ((impl_CountSets.f k bt321.1 bt321.2).bind fun bt343 => ((spec_CountSets.f k bt321.1 bt321.2).bind fun bt345 => ((impl_DegreeOfSet.f k bt321.1 bt321.2).bind fun bt347 => ((spec_DegreeOfSet.f k bt321.1 bt321.2).bind fun bt349 => (if (bt323.2 != bt327.2) = true then (none) else ((laws_uSame.f k bt323.1 bt327.1).bind fun t351 => (if t351 = true then (if (bt331.2 != bt333.2) = true then (none) else (if bt331.1 = bt333.1 then (if (bt335.2 != bt339.2) = true then (none) else ((laws_uSame.f k bt335.1 bt339.1).bind fun t352 => (if t352 = true then (if (bt343.2 != bt345.2) = true then (none) else (if bt343.1 = bt345.1 then (if (bt347.2 != bt349.2) = true then (none) else (if bt347.1 = bt349.1 then (if (bt331.2 != bt323.2) = true then (none) else (if (bt335.2 != bt323.2) = true then (none) else (if (bt343.2 != bt323.2) = true then (none) else (laws_FnKneserColours.j0 k l1 bt321.1 bt321.2 bt323.1 bt323.2 bt331.1 bt335.1 bt343.1 bt347.1 (bt347.2 != bt323.2))))) else (none))) else (none))) else (none)))) else (none))) else (none))))))))))))))))
theorem laws_FnKneserColours.mono_l : ∀ k, (∀ y0 y1 y2 y3 y4 y5 y6 y7 y8 y9, LeO (laws_FnKneserColours.j0 k y0 y1 y2 y3 y4 y5 y6 y7 y8 y9) (laws_FnKneserColours.j0 (k + 1) y0 y1 y2 y3 y4 y5 y6 y7 y8 y9)) ∧ (∀ y0, LeO (laws_FnKneserColours.j5 k y0) (laws_FnKneserColours.j5 (k + 1) y0)) ∧ (∀ y0 y1 y2 y3 y4 y5, LeO (laws_FnKneserColours.j1 k y0 y1 y2 y3 y4 y5) (laws_FnKneserColours.j1 (k + 1) y0 y1 y2 y3 y4 y5)) ∧ (∀ y0 y1 y2 y3 y4 y5 y6 y7, LeO (laws_FnKneserColours.l0 k y0 y1 y2 y3 y4 y5 y6 y7) (laws_FnKneserColours.l0 (k + 1) y0 y1 y2 y3 y4 y5 y6 y7)) ∧ (∀ y0 y1 y2 y3 y4 y5, LeO (laws_FnKneserColours.l1 k y0 y1 y2 y3 y4 y5) (laws_FnKneserColours.l1 (k + 1) y0 y1 y2 y3 y4 y5)) ∧ (∀ y0 y1 y2 y3 y4 y5 y6 y7 y8 y9 y10, LeO (laws_FnKneserColours.l2 k y0 y1 y2 y3 y4 y5 y6 y7 y8 y9 y10) (laws_FnKneserColours.l2 (k + 1) y0 y1 y2 y3 y4 y5 y6 y7 y8 y9 y10))
 | 0 => ⟨fun _ _ _ _ _ _ _ _ _ _ r h => by simp [laws_FnKneserColours.j0] at h, fun _ r h => by simp [laws_FnKneserColours.j5] at h, fun _ _ _ _ _ _ r h => by simp [laws_FnKneserColours.j1] at h, fun _ _ _ _ _ _ _ _ r h => by simp [laws_FnKneserColours.l0] at h, fun _ _ _ _ _ _ r h => by simp [laws_FnKneserColours.l1] at h, fun _ _ _ _ _ _ _ _ _ _ _ r h => by simp [laws_FnKneserColours.l2] at h⟩
 | k + 1 => by
  obtain ⟨ih0, ih1, ih2, ih3, ih4, ih5⟩ := laws_FnKneserColours.mono_l k
  refine ⟨?_, ?_, ?_, ?_, ?_, ?_⟩
  ·intro y0 y1 y2 y3 y4 y5 y6 y7 y8 y9
   unfold laws_FnKneserColours.j0
   repeat' first
   | with_reducible first | exact ih0 _ _ _ _ _ _ _ _ _ _ | exact ih1 _ | exact ih2 _ _ _ _ _ _ | exact ih3 _ _ _ _ _ _ _ _ | exact ih4 _ _ _ _ _ _ | exact ih5 _ _ _ _ _ _ _ _ _ _ _ | exact impl_ColoursOf.mono _ _ _ | exact impl_CountSets.mono _ _ _ | exact impl_DegreeOfSet.mono _ _ _ | exact impl_FirstApart.mono _ _ _ _ | exact impl_IsColouring.mono _ _ _ _ | exact impl_SetsOf.mono _ _ _ | exact laws_uSame.mono _ _ _ | exact spec_ColoursOf.mono _ _ _ | exact spec_CountSets.mono _ _ _ | exact spec_DegreeOfSet.mono _ _ _ | exact spec_DrawFirstApart.mono _ _ | exact spec_FirstApart.mono _ _ _ _ | exact spec_IsColouring.mono _ _ _ _ | exact spec_SetsOf.mono _ _ _ | exact LeO.refl _ | exact LeO.none _ | refine LeO.ite ?_ ?_ | refine LeO.bind ?_ (fun _ => ?_)
   | exact LeO.none _ | refine LeO.ite ?_ ?_ | refine LeO.bind ?_ (fun _ => ?_)
  ·intro y0
   unfold laws_FnKneserColours.j5
   repeat' first
   | with_reducible first | exact ih0 _ _ _ _ _ _ _ _ _ _ | exact ih1 _ | exact ih2 _ _ _ _ _ _ | exact ih3 _ _ _ _ _ _ _ _ | exact ih4 _ _ _ _ _ _ | exact ih5 _ _ _ _ _ _ _ _ _ _ _ | exact impl_ColoursOf.mono _ _ _ | exact impl_CountSets.mono _ _ _ | exact impl_DegreeOfSet.mono _ _ _ | exact impl_FirstApart.mono _ _ _ _ | exact impl_IsColouring.mono _ _ _ _ | exact impl_SetsOf.mono _ _ _ | exact laws_uSame.mono _ _ _ | exact spec_ColoursOf.mono _ _ _ | exact spec_CountSets.mono _ _ _ | exact spec_DegreeOfSet.mono _ _ _ | exact spec_DrawFirstApart.mono _ _ | exact spec_FirstApart.mono _ _ _ _ | exact spec_IsColouring.mono _ _ _ _ | exact spec_SetsOf.mono _ _ _ | exact LeO.refl _ | exact LeO.none _ | refine LeO.ite ?_ ?_ | refine LeO.bind ?_ (fun _ => ?_)
   | exact LeO.none _ | refine LeO.ite ?_ ?_ | refine LeO.bind ?_ (fun _ => ?_)
  ·intro y0 y1 y2 y3 y4 y5
   unfold laws_FnKneserColours.j1
   repeat' first
   | with_reducible first | exact ih0 _ _ _ _ _ _ _ _ _ _ | exact ih1 _ | exact ih2 _ _ _ _ _ _ | exact ih3 _ _ _ _ _ _ _ _ | exact ih4 _ _ _ _ _ _ | exact ih5 _ _ _ _ _ _ _ _ _ _ _ | exact impl_ColoursOf.mono _ _ _ | exact impl_CountSets.mono _ _ _ | exact impl_DegreeOfSet.mono _ _ _ | exact impl_FirstApart.mono _ _ _ _ | exact impl_IsColouring.mono _ _ _ _ | exact impl_SetsOf.mono _ _ _ | exact laws_uSame.mono _ _ _ | exact spec_ColoursOf.mono _ _ _ | exact spec_CountSets.mono _ _ _ | exact spec_DegreeOfSet.mono _ _ _ | exact spec_DrawFirstApart.mono _ _ | exact spec_FirstApart.mono _ _ _ _ | exact spec_IsColouring.mono _ _ _ _ | exact spec_SetsOf.mono _ _ _ | exact LeO.refl _ | exact LeO.none _ | refine LeO.ite ?_ ?_ | refine LeO.bind ?_ (fun _ => ?_)
   | exact LeO.none _ | refine LeO.ite ?_ ?_ | refine LeO.bind ?_ (fun _ => ?_)
  ·intro y0 y1 y2 y3 y4 y5 y6 y7
   unfold laws_FnKneserColours.l0
   repeat' first
   | with_reducible first | exact ih0 _ _ _ _ _ _ _ _ _ _ | exact ih1 _ | exact ih2 _ _ _ _ _ _ | exact ih3 _ _ _ _ _ _ _ _ | exact ih4 _ _ _ _ _ _ | exact ih5 _ _ _ _ _ _ _ _ _ _ _ | exact impl_ColoursOf.mono _ _ _ | exact impl_CountSets.mono _ _ _ | exact impl_DegreeOfSet.mono _ _ _ | exact impl_FirstApart.mono _ _ _ _ | exact impl_IsColouring.mono _ _ _ _ | exact impl_SetsOf.mono _ _ _ | exact laws_uSame.mono _ _ _ | exact spec_ColoursOf.mono _ _ _ | exact spec_CountSets.mono _ _ _ | exact spec_DegreeOfSet.mono _ _ _ | exact spec_DrawFirstApart.mono _ _ | exact spec_FirstApart.mono _ _ _ _ | exact spec_IsColouring.mono _ _ _ _ | exact spec_SetsOf.mono _ _ _ | exact LeO.refl _ | exact LeO.none _ | refine LeO.ite ?_ ?_ | refine LeO.bind ?_ (fun _ => ?_)
   | exact LeO.none _ | refine LeO.ite ?_ ?_ | refine LeO.bind ?_ (fun _ => ?_)
  ·intro y0 y1 y2 y3 y4 y5
   unfold laws_FnKneserColours.l1
   repeat' first
   | with_reducible first | exact ih0 _ _ _ _ _ _ _ _ _ _ | exact ih1 _ | exact ih2 _ _ _ _ _ _ | exact ih3 _ _ _ _ _ _ _ _ | exact ih4 _ _ _ _ _ _ | exact ih5 _ _ _ _ _ _ _ _ _ _ _ | exact impl_ColoursOf.mono _ _ _ | exact impl_CountSets.mono _ _ _ | exact impl_DegreeOfSet.mono _ _ _ | exact impl_FirstApart.mono _ _ _ _ | exact impl_IsColouring.mono _ _ _ _ | exact impl_SetsOf.mono _ _ _ | exact laws_uSame.mono _ _ _ | exact spec_ColoursOf.mono _ _ _ | exact spec_CountSets.mono _ _ _ | exact spec_DegreeOfSet.mono _ _ _ | exact spec_DrawFirstApart.mono _ _ | exact spec_FirstApart.mono _ _ _ _ | exact spec_IsColouring.mono _ _ _ _ | exact spec_SetsOf.mono _ _ _ | exact LeO.refl _ | exact LeO.none _ | refine LeO.ite ?_ ?_ | refine LeO.bind ?_ (fun _ => ?_)
   | exact LeO.none _ | refine LeO.ite ?_ ?_ | refine LeO.bind ?_ (fun _ => ?_)
  ·intro y0 y1 y2 y3 y4 y5 y6 y7 y8 y9 y10
   unfold laws_FnKneserColours.l2
   repeat' first
   | with_reducible first | exact ih0 _ _ _ _ _ _ _ _ _ _ | exact ih1 _ | exact ih2 _ _ _ _ _ _ | exact ih3 _ _ _ _ _ _ _ _ | exact ih4 _ _ _ _ _ _ | exact ih5 _ _ _ _ _ _ _ _ _ _ _ | exact impl_ColoursOf.mono _ _ _ | exact impl_CountSets.mono _ _ _ | exact impl_DegreeOfSet.mono _ _ _ | exact impl_FirstApart.mono _ _ _ _ | exact impl_IsColouring.mono _ _ _ _ | exact impl_SetsOf.mono _ _ _ | exact laws_uSame.mono _ _ _ | exact spec_ColoursOf.mono _ _ _ | exact spec_CountSets.mono _ _ _ | exact spec_DegreeOfSet.mono _ _ _ | exact spec_DrawFirstApart.mono _ _ | exact spec_FirstApart.mono _ _ _ _ | exact spec_IsColouring.mono _ _ _ _ | exact spec_SetsOf.mono _ _ _ | exact LeO.refl _ | exact LeO.none _ | refine LeO.ite ?_ ?_ | refine LeO.bind ?_ (fun _ => ?_)
   | exact LeO.none _ | refine LeO.ite ?_ ?_ | refine LeO.bind ?_ (fun _ => ?_)
theorem laws_FnKneserColours.mono : ∀ a0 a1 k, LeO (laws_FnKneserColours.f k a0 a1) (laws_FnKneserColours.f (k + 1) a0 a1) := by
 intro a0 a1 k
 obtain ⟨ih0, ih1, ih2, ih3, ih4, ih5⟩ := laws_FnKneserColours.mono_l k
 unfold laws_FnKneserColours.f
 repeat' first
   | with_reducible first | exact ih0 _ _ _ _ _ _ _ _ _ _ | exact ih1 _ | exact ih2 _ _ _ _ _ _ | exact ih3 _ _ _ _ _ _ _ _ | exact ih4 _ _ _ _ _ _ | exact ih5 _ _ _ _ _ _ _ _ _ _ _ | exact impl_ColoursOf.mono _ _ _ | exact impl_CountSets.mono _ _ _ | exact impl_DegreeOfSet.mono _ _ _ | exact impl_FirstApart.mono _ _ _ _ | exact impl_IsColouring.mono _ _ _ _ | exact impl_SetsOf.mono _ _ _ | exact laws_uSame.mono _ _ _ | exact spec_ColoursOf.mono _ _ _ | exact spec_CountSets.mono _ _ _ | exact spec_DegreeOfSet.mono _ _ _ | exact spec_DrawFirstApart.mono _ _ | exact spec_FirstApart.mono _ _ _ _ | exact spec_IsColouring.mono _ _ _ _ | exact spec_SetsOf.mono _ _ _ | exact LeO.refl _ | exact LeO.none _ | refine LeO.ite ?_ ?_ | refine LeO.bind ?_ (fun _ => ?_)
   | exact LeO.none _ | refine LeO.ite ?_ ?_ | refine LeO.bind ?_ (fun _ => ?_)
def laws_FnKneserColours.T25 : Bool × List (List Nat × List Nat) := (true, [([], []), ([0], [0]), ([1], [1]), ([2], [2]), ([2], [2]), ([3, 4, 2], [2, 3, 4]), ([2, 5], [2, 5]), ([6, 2], [6]), ([7], [7]), ([8, 7], [7, 8]), ([9, 7, 7], [7, 9]), ([10], [10]), ([10], [10]), ([12, 10], [10, 12]), ([11, 13, 10], [10, 11, 13]), ([14, 10], [10, 14]), ([10], [10]), ([10], [10]), ([16, 17, 10], [10, 16, 17]), ([18, 10], [10, 18]), ([15, 19, 10], [10, 15, 19]), ([10, 20, 7], [7, 10, 20]), ([7, 21], [7, 21])])
def laws_FnKneserColours.B25 : List Nat := [0, 1, 3, 7, 7, 31, 63, 127, 255, 511, 1023, 2047, 2047, 6143, 16383, 32767, 2047, 2047, 198655, 460799, 1048575, 2097151, 4194303]
theorem laws_FnKneserColours.tab25 : rtab .any (opsOf Tryd.f3 25) = laws_FnKneserColours.T25 := by kernel_rfl
theorem laws_FnKneserColours.bits25 : waitsOk laws_FnKneserColours.T25.2 laws_FnKneserColours.B25 = true := by kernel_rfl
def laws_FnKneserColours.T54 : Bool × List (List Nat × List Nat) := (true, [([], []), ([], []), ([0, 1], [0, 1]), ([2], [2]), ([3], [3]), ([3], [3]), ([4, 5, 3, 3], [3, 4, 5]), ([3, 6], [3, 6]), ([7, 6], [7]), ([8], [8]), ([8], [8]), ([9, 10, 8], [8, 9, 10]), ([8, 11], [8, 11]), ([12, 8], [12]), ([13], [13]), ([13], [13]), ([14, 15, 13], [13, 14, 15]), ([13, 16], [13, 16]), ([17, 13], [17]), ([18], [18]), ([18], [18]), ([19, 20, 18], [18, 19, 20]), ([18, 21], [18, 21]), ([22, 18], [22]), ([23], [23]), ([23], [23]), ([24, 25, 23], [23, 24, 25]), ([23, 26], [23, 26]), ([27, 23], [27]), ([28], [28]), ([29, 28], [28, 29]), ([30, 28, 28], [28, 30]), ([31], [31]), ([32, 31], [31, 32]), ([33, 31, 31], [31, 33]), ([34], [34]), ([35, 34], [34, 35]), ([36, 34], [34, 36]), ([34], [34]), ([38, 34], [34, 38]), ([39, 34], [34, 39]), ([37, 40, 34], [34, 37, 40]), ([41, 34], [34, 41]), ([34, 42, 31], [31, 34, 42]), ([31, 43, 28], [28, 31, 43]), ([28, 44], [28, 44]), ([45, 34, 0, 1, 2, 3, 4, 5, 6, 7, 8, 9, 10, 11, 12, 13, 14, 15, 16, 17, 18, 19, 20, 21, 22, 23, 24, 25, 26, 27, 28, 29, 30, 31, 32, 33, 34, 35, 36, 37, 38, 39, 40, 41, 42, 43, 44, 45], [45])])
def laws_FnKneserColours.B54 : List Nat := [0, 0, 3, 7, 15, 15, 63, 127, 255, 511, 511, 2047, 4095, 8191, 16383, 16383, 65535, 131071, 262143, 524287, 524287, 2097151, 4194303, 8388607, 16777215, 16777215, 67108863, 134217727, 268435455, 536870911, 1073741823, 2147483647, 4294967295, 8589934591, 17179869183, 34359738367, 68719476735, 137438953471, 34359738367, 309237645311, 858993459199, 2199023255551, 4398046511103, 8796093022207, 17592186044415, 35184372088831, 70368744177663]
theorem laws_FnKneserColours.tab54 : rtab .any (opsOf Tryd.f3 54) = laws_FnKneserColours.T54 := by kernel_rfl
theorem laws_FnKneserColours.bits54 : waitsOk laws_FnKneserColours.T54.2 laws_FnKneserColours.B54 = true := by kernel_rfl
theorem laws_FnKneserColours.calls (k : Nat) (A0 : Option Addr) (c0 : Nat) (l0 : List Int) (A1 : Option Addr) (c1 : Nat) (l1 : List Int) (r : Bool) (w : World) (hT : TabW w) (hr0 : Kd.C (Kd.int .u8) w A0 l0.length l0) (hc0 : l0.length ≤ c0) (hr1 : Kd.C (Kd.int .u8) w A1 l1.length l1) (hc1 : l1.length ≤ c1) (h : laws_FnKneserColours.f k l0 l1 = some r) :
  Calls Tryd.prog 3 #[.slice A0 l0.length c0, .slice A1 l1.length c1] w fun e w' => e = .returned (.bool r) ∧ Below w.heap.size w w' := by
 have HR0 := Aside0.mk hr0
 have HC0 := Aside0.mk hc0
 clear hr0 hc0
 have HR1 := Aside0.mk hr1
 have HC1 := Aside0.mk hc1
 clear hr1 hc1
 have HTB := Aside0.mk hT
 clear hT
 have HB := Aside0.mk (Below.refl w.heap.size w)
 have H : ((laws_big.f l0 l1).bind fun t320 => (if t320 = true then (some true) else ((spec_DrawColoursOf.f l0).bind fun bt321 => ((impl_ColoursOf.f k bt321.1 bt321.2).bind fun bt323 => ((spec_ColoursOf.f k bt321.1 bt321.2).bind fun bt327 => ((impl_FewestColours.f bt321.1 bt321.2).bind fun bt331 => ((spec_FewestColours.f bt321.1 bt321.2).bind fun bt333 => ((impl_SetsOf.f k bt321.1 bt321.2).bind fun bt335 => ((spec_SetsOf.f k bt321.1 bt321.2).bind fun bt339 => ((impl_CountSets.f k bt321.1 bt321.2).bind fun bt343 => ((spec_CountSets.f k bt321.1 bt321.2).bind fun bt345 => ((impl_DegreeOfSet.f k bt321.1 bt321.2).bind fun bt347 => ((spec_DegreeOfSet.f k bt321.1 bt321.2).bind fun bt349 => (if (bt323.2 != bt327.2) = true then (none) else ((laws_uSame.f k bt323.1 bt327.1).bind fun t351 => (if t351 = true then (if (bt331.2 != bt333.2) = true then (none) else (if bt331.1 = bt333.1 then (if (bt335.2 != bt339.2) = true then (none) else ((laws_uSame.f k bt335.1 bt339.1).bind fun t352 => (if t352 = true then (if (bt343.2 != bt345.2) = true then (none) else (if bt343.1 = bt345.1 then (if (bt347.2 != bt349.2) = true then (none) else (if bt347.1 = bt349.1 then (if (bt331.2 != bt323.2) = true then (none) else (if (bt335.2 != bt323.2) = true then (none) else (if (bt343.2 != bt323.2) = true then (none) else (laws_FnKneserColours.j0 k l1 bt321.1 bt321.2 bt323.1 bt323.2 bt331.1 bt335.1 bt343.1 bt347.1 (bt347.2 != bt323.2))))) else (none))) else (none))) else (none)))) else (none))) else (none))))))))))))))))) = some r := h
 clear h
 obtain ⟨t320, A30, H⟩ := Option.bind_eq_some_iff.mp H
 have A3 := Aside0.mk A30
 clear A30
 by_cases c4 : t320 = true
 ·subst c4
  replace H := IP H
  obtain rfl := Option.some.inj H
  go_enter Tryd.func3, Tryd.ntmps3
  go_wp2_with (first | ((with_reducible refine gate_callee (f := 4) rfl ?_); refine goesL_ (some 58) rfl rfl Tryd.func4 (by kernel_rfl) rfl #[.slice A0 l0.length c0, .slice A1 l1.length c1] rfl TA ?_; (with_reducible refine (laws_big.calls _ _ l0 _ _ l1 true _ ?side1 ?side2 ?side3 ?side4 A3.out).mono ?_); (case side1 => exact CW HR0.out); (case side2 => exact HC0.out); (case side3 => exact CW HR1.out); (case side4 => exact HC1.out); rintro e w' ⟨rfl, ⟨nd, rfl⟩⟩; refine ⟨_, rfl, ?_⟩))
  go_ret
  exact ⟨RE, BB⟩
 ·replace c4 := Bool.eq_false_iff.mpr c4
  subst c4
  replace H := IN H
  obtain ⟨⟨t321, t322⟩, A50, H⟩ := Option.bind_eq_some_iff.mp H
  replace H : ((impl_ColoursOf.f k t321 t322).bind fun bt323 => ((spec_ColoursOf.f k t321 t322).bind fun bt327 => ((impl_FewestColours.f t321 t322).bind fun bt331 => ((spec_FewestColours.f t321 t322).bind fun bt333 => ((impl_SetsOf.f k t321 t322).bind fun bt335 => ((spec_SetsOf.f k t321 t322).bind fun bt339 => ((impl_CountSets.f k t321 t322).bind fun bt343 => ((spec_CountSets.f k t321 t322).bind fun bt345 => ((impl_DegreeOfSet.f k t321 t322).bind fun bt347 => ((spec_DegreeOfSet.f k t321 t322).bind fun bt349 => (if (bt323.2 != bt327.2) = true then (none) else ((laws_uSame.f k bt323.1 bt327.1).bind fun t351 => (if t351 = true then (if (bt331.2 != bt333.2) = true then (none) else (if bt331.1 = bt333.1 then (if (bt335.2 != bt339.2) = true then (none) else ((laws_uSame.f k bt335.1 bt339.1).bind fun t352 => (if t352 = true then (if (bt343.2 != bt345.2) = true then (none) else (if bt343.1 = bt345.1 then (if (bt347.2 != bt349.2) = true then (none) else (if bt347.1 = bt349.1 then (if (bt331.2 != bt323.2) = true then (none) else (if (bt335.2 != bt323.2) = true then (none) else (if (bt343.2 != bt323.2) = true then (none) else (laws_FnKneserColours.j0 k l1 t321 t322 bt323.1 bt323.2 bt331.1 bt335.1 bt343.1 bt347.1 (bt347.2 != bt323.2))))) else (none))) else (none))) else (none)))) else (none))) else (none)))))))))))))) = some r := H
  have A5 := Aside0.mk A50
  clear A50
  obtain ⟨⟨t323, t324⟩, A60, H⟩ := Option.bind_eq_some_iff.mp H
  replace H : ((spec_ColoursOf.f k t321 t322).bind fun bt327 => ((impl_FewestColours.f t321 t322).bind fun bt331 => ((spec_FewestColours.f t321 t322).bind fun bt333 => ((impl_SetsOf.f k t321 t322).bind fun bt335 => ((spec_SetsOf.f k t321 t322).bind fun bt339 => ((impl_CountSets.f k t321 t322).bind fun bt343 => ((spec_CountSets.f k t321 t322).bind fun bt345 => ((impl_DegreeOfSet.f k t321 t322).bind fun bt347 => ((spec_DegreeOfSet.f k t321 t322).bind fun bt349 => (if (t324 != bt327.2) = true then (none) else ((laws_uSame.f k t323 bt327.1).bind fun t351 => (if t351 = true then (if (bt331.2 != bt333.2) = true then (none) else (if bt331.1 = bt333.1 then (if (bt335.2 != bt339.2) = true then (none) else ((laws_uSame.f k bt335.1 bt339.1).bind fun t352 => (if t352 = true then (if (bt343.2 != bt345.2) = true then (none) else (if bt343.1 = bt345.1 then (if (bt347.2 != bt349.2) = true then (none) else (if bt347.1 = bt349.1 then (if (bt331.2 != t324) = true then (none) else (if (bt335.2 != t324) = true then (none) else (if (bt343.2 != t324) = true then (none) else (laws_FnKneserColours.j0 k l1 t321 t322 t323 t324 bt331.1 bt335.1 bt343.1 bt347.1 (bt347.2 != t324))))) else (none))) else (none))) else (none)))) else (none))) else (none))))))))))))) = some r := H
  have A6 := Aside0.mk A60
  clear A60
  obtain ⟨⟨t327, t328⟩, A70, H⟩ := Option.bind_eq_some_iff.mp H
  replace H : ((impl_FewestColours.f t321 t322).bind fun bt331 => ((spec_FewestColours.f t321 t322).bind fun bt333 => ((impl_SetsOf.f k t321 t322).bind fun bt335 => ((spec_SetsOf.f k t321 t322).bind fun bt339 => ((impl_CountSets.f k t321 t322).bind fun bt343 => ((spec_CountSets.f k t321 t322).bind fun bt345 => ((impl_DegreeOfSet.f k t321 t322).bind fun bt347 => ((spec_DegreeOfSet.f k t321 t322).bind fun bt349 => (if (t324 != t328) = true then (none) else ((laws_uSame.f k t323 t327).bind fun t351 => (if t351 = true then (if (bt331.2 != bt333.2) = true then (none) else (if bt331.1 = bt333.1 then (if (bt335.2 != bt339.2) = true then (none) else ((laws_uSame.f k bt335.1 bt339.1).bind fun t352 => (if t352 = true then (if (bt343.2 != bt345.2) = true then (none) else (if bt343.1 = bt345.1 then (if (bt347.2 != bt349.2) = true then (none) else (if bt347.1 = bt349.1 then (if (bt331.2 != t324) = true then (none) else (if (bt335.2 != t324) = true then (none) else (if (bt343.2 != t324) = true then (none) else (laws_FnKneserColours.j0 k l1 t321 t322 t323 t324 bt331.1 bt335.1 bt343.1 bt347.1 (bt347.2 != t324))))) else (none))) else (none))) else (none)))) else (none))) else (none)))))))))))) = some r := H
  have A7 := Aside0.mk A70
  clear A70
  obtain ⟨⟨t331, t332⟩, A80, H⟩ := Option.bind_eq_some_iff.mp H
  replace H : ((spec_FewestColours.f t321 t322).bind fun bt333 => ((impl_SetsOf.f k t321 t322).bind fun bt335 => ((spec_SetsOf.f k t321 t322).bind fun bt339 => ((impl_CountSets.f k t321 t322).bind fun bt343 => ((spec_CountSets.f k t321 t322).bind fun bt345 => ((impl_DegreeOfSet.f k t321 t322).bind fun bt347 => ((spec_DegreeOfSet.f k t321 t322).bind fun bt349 => (if (t324 != t328) = true then (none) else ((laws_uSame.f k t323 t327).bind fun t351 => (if t351 = true then (if (t332 != bt333.2) = true then (none) else (if t331 = bt333.1 then (if (bt335.2 != bt339.2) = true then (none) else ((laws_uSame.f k bt335.1 bt339.1).bind fun t352 => (if t352 = true then (if (bt343.2 != bt345.2) = true then (none) else (if bt343.1 = bt345.1 then (if (bt347.2 != bt349.2) = true then (none) else (if bt347.1 = bt349.1 then (if (t332 != t324) = true then (none) else (if (bt335.2 != t324) = true then (none) else (if (bt343.2 != t324) = true then (none) else (laws_FnKneserColours.j0 k l1 t321 t322 t323 t324 t331 bt335.1 bt343.1 bt347.1 (bt347.2 != t324))))) else (none))) else (none))) else (none)))) else (none))) else (none))))))))))) = some r := H
  have A8 := Aside0.mk A80
  clear A80
  obtain ⟨⟨t333, t334⟩, A90, H⟩ := Option.bind_eq_some_iff.mp H
  replace H : ((impl_SetsOf.f k t321 t322).bind fun bt335 => ((spec_SetsOf.f k t321 t322).bind fun bt339 => ((impl_CountSets.f k t321 t322).bind fun bt343 => ((spec_CountSets.f k t321 t322).bind fun bt345 => ((impl_DegreeOfSet.f k t321 t322).bind fun bt347 => ((spec_DegreeOfSet.f k t321 t322).bind fun bt349 => (if (t324 != t328) = true then (none) else ((laws_uSame.f k t323 t327).bind fun t351 => (if t351 = true then (if (t332 != t334) = true then (none) else (if t331 = t333 then (if (bt335.2 != bt339.2) = true then (none) else ((laws_uSame.f k bt335.1 bt339.1).bind fun t352 => (if t352 = true then (if (bt343.2 != bt345.2) = true then (none) else (if bt343.1 = bt345.1 then (if (bt347.2 != bt349.2) = true then (none) else (if bt347.1 = bt349.1 then (if (t332 != t324) = true then (none) else (if (bt335.2 != t324) = true then (none) else (if (bt343.2 != t324) = true then (none) else (laws_FnKneserColours.j0 k l1 t321 t322 t323 t324 t331 bt335.1 bt343.1 bt347.1 (bt347.2 != t324))))) else (none))) else (none))) else (none)))) else (none))) else (none)))))))))) = some r := H
  have A9 := Aside0.mk A90
  clear A90
  obtain ⟨⟨t335, t336⟩, A100, H⟩ := Option.bind_eq_some_iff.mp H
  replace H : ((spec_SetsOf.f k t321 t322).bind fun bt339 => ((impl_CountSets.f k t321 t322).bind fun bt343 => ((spec_CountSets.f k t321 t322).bind fun bt345 => ((impl_DegreeOfSet.f k t321 t322).bind fun bt347 => ((spec_DegreeOfSet.f k t321 t322).bind fun bt349 => (if (t324 != t328) = true then (none) else ((laws_uSame.f k t323 t327).bind fun t351 => (if t351 = true then (if (t332 != t334) = true then (none) else (if t331 = t333 then (if (t336 != bt339.2) = true then (none) else ((laws_uSame.f k t335 bt339.1).bind fun t352 => (if t352 = true then (if (bt343.2 != bt345.2) = true then (none) else (if bt343.1 = bt345.1 then (if (bt347.2 != bt349.2) = true then (none) else (if bt347.1 = bt349.1 then (if (t332 != t324) = true then (none) else (if (t336 != t324) = true then (none) else (if (bt343.2 != t324) = true then (none) else (laws_FnKneserColours.j0 k l1 t321 t322 t323 t324 t331 t335 bt343.1 bt347.1 (bt347.2 != t324))))) else (none))) else (none))) else (none)))) else (none))) else (none))))))))) = some r := H
  have A10 := Aside0.mk A100
  clear A100
  obtain ⟨⟨t339, t340⟩, A110, H⟩ := Option.bind_eq_some_iff.mp H
  replace H : ((impl_CountSets.f k t321 t322).bind fun bt343 => ((spec_CountSets.f k t321 t322).bind fun bt345 => ((impl_DegreeOfSet.f k t321 t322).bind fun bt347 => ((spec_DegreeOfSet.f k t321 t322).bind fun bt349 => (if (t324 != t328) = true then (none) else ((laws_uSame.f k t323 t327).bind fun t351 => (if t351 = true then (if (t332 != t334) = true then (none) else (if t331 = t333 then (if (t336 != t340) = true then (none) else ((laws_uSame.f k t335 t339).bind fun t352 => (if t352 = true then (if (bt343.2 != bt345.2) = true then (none) else (if bt343.1 = bt345.1 then (if (bt347.2 != bt349.2) = true then (none) else (if bt347.1 = bt349.1 then (if (t332 != t324) = true then (none) else (if (t336 != t324) = true then (none) else (if (bt343.2 != t324) = true then (none) else (laws_FnKneserColours.j0 k l1 t321 t322 t323 t324 t331 t335 bt343.1 bt347.1 (bt347.2 != t324))))) else (none))) else (none))) else (none)))) else (none))) else (none)))))))) = some r := H
  have A11 := Aside0.mk A110
  clear A110
  obtain ⟨⟨t343, t344⟩, A120, H⟩ := Option.bind_eq_some_iff.mp H
  replace H : ((spec_CountSets.f k t321 t322).bind fun bt345 => ((impl_DegreeOfSet.f k t321 t322).bind fun bt347 => ((spec_DegreeOfSet.f k t321 t322).bind fun bt349 => (if (t324 != t328) = true then (none) else ((laws_uSame.f k t323 t327).bind fun t351 => (if t351 = true then (if (t332 != t334) = true then (none) else (if t331 = t333 then (if (t336 != t340) = true then (none) else ((laws_uSame.f k t335 t339).bind fun t352 => (if t352 = true then (if (t344 != bt345.2) = true then (none) else (if t343 = bt345.1 then (if (bt347.2 != bt349.2) = true then (none) else (if bt347.1 = bt349.1 then (if (t332 != t324) = true then (none) else (if (t336 != t324) = true then (none) else (if (t344 != t324) = true then (none) else (laws_FnKneserColours.j0 k l1 t321 t322 t323 t324 t331 t335 t343 bt347.1 (bt347.2 != t324))))) else (none))) else (none))) else (none)))) else (none))) else (none))))))) = some r := H
  have A12 := Aside0.mk A120
  clear A120
  obtain ⟨⟨t345, t346⟩, A130, H⟩ := Option.bind_eq_some_iff.mp H
  replace H : ((impl_DegreeOfSet.f k t321 t322).bind fun bt347 => ((spec_DegreeOfSet.f k t321 t322).bind fun bt349 => (if (t324 != t328) = true then (none) else ((laws_uSame.f k t323 t327).bind fun t351 => (if t351 = true then (if (t332 != t334) = true then (none) else (if t331 = t333 then (if (t336 != t340) = true then (none) else ((laws_uSame.f k t335 t339).bind fun t352 => (if t352 = true then (if (t344 != t346) = true then (none) else (if t343 = t345 then (if (bt347.2 != bt349.2) = true then (none) else (if bt347.1 = bt349.1 then (if (t332 != t324) = true then (none) else (if (t336 != t324) = true then (none) else (if (t344 != t324) = true then (none) else (laws_FnKneserColours.j0 k l1 t321 t322 t323 t324 t331 t335 t343 bt347.1 (bt347.2 != t324))))) else (none))) else (none))) else (none)))) else (none))) else (none)))))) = some r := H
  have A13 := Aside0.mk A130
  clear A130
  obtain ⟨⟨t347, t348⟩, A140, H⟩ := Option.bind_eq_some_iff.mp H
  replace H : ((spec_DegreeOfSet.f k t321 t322).bind fun bt349 => (if (t324 != t328) = true then (none) else ((laws_uSame.f k t323 t327).bind fun t351 => (if t351 = true then (if (t332 != t334) = true then (none) else (if t331 = t333 then (if (t336 != t340) = true then (none) else ((laws_uSame.f k t335 t339).bind fun t352 => (if t352 = true then (if (t344 != t346) = true then (none) else (if t343 = t345 then (if (t348 != bt349.2) = true then (none) else (if t347 = bt349.1 then (if (t332 != t324) = true then (none) else (if (t336 != t324) = true then (none) else (if (t344 != t324) = true then (none) else (laws_FnKneserColours.j0 k l1 t321 t322 t323 t324 t331 t335 t343 t347 (t348 != t324))))) else (none))) else (none))) else (none)))) else (none))) else (none))))) = some r := H
  have A14 := Aside0.mk A140
  clear A140
  obtain ⟨⟨t349, t350⟩, A150, H⟩ := Option.bind_eq_some_iff.mp H
  replace H : (if (t324 != t328) = true then (none) else ((laws_uSame.f k t323 t327).bind fun t351 => (if t351 = true then (if (t332 != t334) = true then (none) else (if t331 = t333 then (if (t336 != t340) = true then (none) else ((laws_uSame.f k t335 t339).bind fun t352 => (if t352 = true then (if (t344 != t346) = true then (none) else (if t343 = t345 then (if (t348 != t350) = true then (none) else (if t347 = t349 then (if (t332 != t324) = true then (none) else (if (t336 != t324) = true then (none) else (if (t344 != t324) = true then (none) else (laws_FnKneserColours.j0 k l1 t321 t322 t323 t324 t331 t335 t343 t347 (t348 != t324))))) else (none))) else (none))) else (none)))) else (none))) else (none)))) = some r := H
  have A15 := Aside0.mk A150
  clear A150
  have HC16 := Aside0.mk H
  clear H
  go_enter Tryd.func3, Tryd.ntmps3
  go_upto_region 14 with (first | ((with_reducible refine gate_callee (f := 4) rfl ?_); refine goesL_ (some 58) rfl rfl Tryd.func4 (by kernel_rfl) rfl #[.slice A0 l0.length c0, .slice A1 l1.length c1] rfl TA ?_; (with_reducible refine (laws_big.calls _ _ l0 _ _ l1 false _ ?side1 ?side2 ?side3 ?side4 A3.out).mono ?_); (case side1 => exact CW HR0.out); (case side2 => exact HC0.out); (case side3 => exact CW HR1.out); (case side4 => exact HC1.out); rintro e w' ⟨rfl, ⟨nd, rfl⟩⟩; refine ⟨_, rfl, ?_⟩) | ((with_reducible refine gate_callee (f := 5) rfl ?_); refine goesL_ (some 61) rfl rfl Tryd.func5 (by kernel_rfl) rfl #[.slice A0 l0.length c0] rfl TA ?_; (with_reducible refine (spec_DrawColoursOf.calls _ _ l0 t321 t322 _ ?side1 ?side2 A5.out).mono ?_); (case side1 => exact CW HR0.out); (case side2 => exact HC0.out); rintro e w17 ⟨rfl, hb⟩; refine ⟨_, rfl, ?_⟩; have n0_ := Aside0.mk (below_step BB hb); clear HB; have HB := n0_; clear n0_; (try clear hb); (try clear hb2); (try clear hk); (try clear hi)) | ((with_reducible refine gate_callee (f := 6) rfl ?_); refine goesL_ (some 67) rfl rfl Tryd.func6 (by kernel_rfl) rfl #[.int .i64 t321, .int .i64 t322] rfl TA ?_; (with_reducible refine (impl_ColoursOf.calls k t321 t322 t323 t324 _ (tab_below HTB.out (Nat.le_refl _) (by repeat (first | (with_reducible first | exact HB.out | apply below_alloc | apply pw_below_drewN | apply below_drew1) | exact HB.out))) A6.out).mono ?_); rintro e w18 ⟨v325, rfl, ho0, hb⟩; refine ⟨_, rfl, ?_⟩; have n0_ := Aside0.mk (Kd.R_lower ho0 (below_size BB)); have n1_ := Aside0.mk (below_step BB hb); clear HB; have HO326 := n0_; have HB := n1_; clear n0_ n1_; (try clear hb); (try clear hb2); (try clear hk); (try clear hi); (try clear ho0)) | ((with_reducible refine gate_callee (f := 7) rfl ?_); refine goesL_ (some 73) rfl rfl Tryd.func7 (by kernel_rfl) rfl #[.int .i64 t321, .int .i64 t322] rfl TA ?_; (with_reducible refine (spec_ColoursOf.calls k t321 t322 t327 t328 _ A7.out).mono ?_); rintro e w19 ⟨v329, rfl, ho0, hb⟩; refine ⟨_, rfl, ?_⟩; have n0_ := Aside0.mk (Kd.R_elder' (KR HO326) (Kd.R_base ho0) hb); have n1_ := Aside0.mk (Kd.R_lower (Kd.R_new' ho0 (Kd.R_lt (KR HO326))) (below_size BB)); have n2_ := Aside0.mk (below_step BB hb); clear HO326; clear HB; have HO326 := n0_; have HO330 := n1_; have HB := n2_; clear n0_ n1_ n2_; (try clear hb); (try clear hb2); (try clear hk); (try clear hi); (try clear ho0)) | ((with_reducible refine gate_callee (f := 8) rfl ?_); refine goesL_ (some 79) rfl rfl Tryd.func8 (by kernel_rfl) rfl #[.int .i64 t321, .int .i64 t322] rfl TA ?_; (with_reducible refine (impl_FewestColours.calls t321 t322 t331 t332 _ A8.out).mono ?_); rintro e w' ⟨rfl, ⟨nd, rfl⟩⟩; refine ⟨_, rfl, ?_⟩) | ((with_reducible refine gate_callee (f := 9) rfl ?_); refine goesL_ (some 85) rfl rfl Tryd.func9 (by kernel_rfl) rfl #[.int .i64 t321, .int .i64 t322] rfl TA ?_; (with_reducible refine (spec_FewestColours.calls t321 t322 t333 t334 _ A9.out).mono ?_); rintro e w' ⟨rfl, ⟨nd, rfl⟩⟩; refine ⟨_, rfl, ?_⟩) | ((with_reducible refine gate_callee (f := 10) rfl ?_); refine goesL_ (some 91) rfl rfl Tryd.func10 (by kernel_rfl) rfl #[.int .i64 t321, .int .i64 t322] rfl TA ?_; (with_reducible refine (impl_SetsOf.calls k t321 t322 t335 t336 _ A10.out).mono ?_); rintro e w20 ⟨v337, rfl, ho0, hb⟩; refine ⟨_, rfl, ?_⟩; have n0_ := Aside0.mk (Kd.R_elder' (KR HO326) (Kd.R_base ho0) hb); have n1_ := Aside0.mk (Kd.R_elder' (KR HO330) (Kd.R_base ho0) hb); have n2_ := Aside0.mk (Kd.R_lower (Kd.R_new' (Kd.R_new' ho0 (Kd.R_lt (KR HO326))) (Kd.R_lt (KR HO330))) (below_size BB)); have n3_ := Aside0.mk (below_step BB hb); clear HO326; clear HO330; clear HB; have HO326 := n0_; have HO330 := n1_; have HO338 := n2_; have HB := n3_; clear n0_ n1_ n2_ n3_; (try clear hb); (try clear hb2); (try clear hk); (try clear hi); (try clear ho0)) | ((with_reducible refine gate_callee (f := 11) rfl ?_); refine goesL_ (some 97) rfl rfl Tryd.func11 (by kernel_rfl) rfl #[.int .i64 t321, .int .i64 t322] rfl TA ?_; (with_reducible refine (spec_SetsOf.calls k t321 t322 t339 t340 _ A11.out).mono ?_); rintro e w21 ⟨v341, rfl, ho0, hb⟩; refine ⟨_, rfl, ?_⟩; have n0_ := Aside0.mk (Kd.R_elder' (KR HO326) (Kd.R_base ho0) hb); have n1_ := Aside0.mk (Kd.R_elder' (KR HO330) (Kd.R_base ho0) hb); have n2_ := Aside0.mk (Kd.R_elder' (KR HO338) (Kd.R_base ho0) hb); have n3_ := Aside0.mk (Kd.R_lower (Kd.R_new' (Kd.R_new' (Kd.R_new' ho0 (Kd.R_lt (KR HO326))) (Kd.R_lt (KR HO330))) (Kd.R_lt (KR HO338))) (below_size BB)); have n4_ := Aside0.mk (below_step BB hb); clear HO326; clear HO330; clear HO338; clear HB; have HO326 := n0_; have HO330 := n1_; have HO338 := n2_; have HO342 := n3_; have HB := n4_; clear n0_ n1_ n2_ n3_ n4_; (try clear hb); (try clear hb2); (try clear hk); (try clear hi); (try clear ho0)) | ((with_reducible refine gate_callee (f := 12) rfl ?_); refine goesL_ (some 103) rfl rfl Tryd.func12 (by kernel_rfl) rfl #[.int .i64 t321, .int .i64 t322] rfl TA ?_; (with_reducible refine (impl_CountSets.calls k t321 t322 t343 t344 _ A12.out).mono ?_); rintro e w' ⟨rfl, ⟨nd, rfl⟩⟩; refine ⟨_, rfl, ?_⟩) | ((with_reducible refine gate_callee (f := 13) rfl ?_); refine goesL_ (some 109) rfl rfl Tryd.func13 (by kernel_rfl) rfl #[.int .i64 t321, .int .i64 t322] rfl TA ?_; (with_reducible refine (spec_CountSets.calls k t321 t322 t345 t346 _ A13.out).mono ?_); rintro e w' ⟨rfl, ⟨nd, rfl⟩⟩; refine ⟨_, rfl, ?_⟩) | ((with_reducible refine gate_callee (f := 14) rfl ?_); refine goesL_ (some 115) rfl rfl Tryd.func14 (by kernel_rfl) rfl #[.int .i64 t321, .int .i64 t322] rfl TA ?_; (with_reducible refine (impl_DegreeOfSet.calls k t321 t322 t347 t348 _ A14.out).mono ?_); rintro e w' ⟨rfl, ⟨nd, rfl⟩⟩; refine ⟨_, rfl, ?_⟩) | ((with_reducible refine gate_callee (f := 15) rfl ?_); refine goesL_ (some 121) rfl rfl Tryd.func15 (by kernel_rfl) rfl #[.int .i64 t321, .int .i64 t322] rfl TA ?_; (with_reducible refine (spec_DegreeOfSet.calls k t321 t322 t349 t350 _ A15.out).mono ?_); rintro e w' ⟨rfl, ⟨nd, rfl⟩⟩; refine ⟨_, rfl, ?_⟩))
  (try simp only [Act.put, List.setIfInBounds_toArray, List.set_cons_zero, List.set_cons_succ])
  go_cut [193] (fun v193 wc => ∃ (kq : Nat) (x193_15 : Bool), v193 = .bool x193_15 ∧ Aside0 (laws_FnKneserColours.j0 kq l1 t321 t322 t323 t324 t331 t335 t343 t347 x193_15 = some r) ∧ Aside0 (kq ≤ k) ∧ Aside0 (Kd.R (Kd.int .i64) 3 wc w.heap.size (fun k_ => some k_ ≠ (v337 : Value).ownBlock) v325 t323) ∧ Aside0 (Kd.R (Kd.int .i64) 3 wc w.heap.size (fun k_ => some k_ ≠ (v325 : Value).ownBlock) v337 t335) ∧ Aside0 (Below w.heap.size w wc))
  case first => as_aux_lemma =>
   have H := HC16.out
   clear HC16
   by_cases c22 : (t324 != t328) = true
   ·rw [if_pos c22] at H
    cases H
   ·rw [if_neg c22] at H
    have c22b0 : (t324 != t328) = false := by simpa using c22
    (try (have c22b1 : decide (t324 = t328) = true := by simpa using c22))
    (try (have c22b2 : (t324 == t328) = true := by simpa using c22))
    clear c22
    (first | rw [c22b0] | (simp only [i64_w, i32_w]; rw [c22b0]) | skip)
    obtain ⟨t351, A230, H⟩ := Option.bind_eq_some_iff.mp H
    have A23 := Aside0.mk A230
    clear A230
    by_cases c24 : t351 = true
    ·subst c24
     replace H := IP H
     by_cases c25 : (t332 != t334) = true
     ·rw [if_pos c25] at H
      cases H
     ·rw [if_neg c25] at H
      have c25b0 : (t332 != t334) = false := by simpa using c25
      (try (have c25b1 : decide (t332 = t334) = true := by simpa using c25))
      (try (have c25b2 : (t332 == t334) = true := by simpa using c25))
      clear c25
      by_cases c26 : t331 = t333
      ·rw [if_pos c26] at H
       have c26b0 : (t331 == t333) = true := beq_iff_eq.mpr c26
       have c26b1 : (t331 != t333) = false := bne_eq_false_iff_eq.mpr c26
       clear c26
       by_cases c27 : (t336 != t340) = true
       ·rw [if_pos c27] at H
        cases H
       ·rw [if_neg c27] at H
        have c27b0 : (t336 != t340) = false := by simpa using c27
        (try (have c27b1 : decide (t336 = t340) = true := by simpa using c27))
        (try (have c27b2 : (t336 == t340) = true := by simpa using c27))
        clear c27
        obtain ⟨t352, A280, H⟩ := Option.bind_eq_some_iff.mp H
        have A28 := Aside0.mk A280
        clear A280
        by_cases c29 : t352 = true
        ·subst c29
         replace H := IP H
         by_cases c30 : (t344 != t346) = true
         ·rw [if_pos c30] at H
          cases H
         ·rw [if_neg c30] at H
          have c30b0 : (t344 != t346) = false := by simpa using c30
          (try (have c30b1 : decide (t344 = t346) = true := by simpa using c30))
          (try (have c30b2 : (t344 == t346) = true := by simpa using c30))
          clear c30
          by_cases c31 : t343 = t345
          ·rw [if_pos c31] at H
           have c31b0 : (t343 == t345) = true := beq_iff_eq.mpr c31
           have c31b1 : (t343 != t345) = false := bne_eq_false_iff_eq.mpr c31
           clear c31
           by_cases c32 : (t348 != t350) = true
           ·rw [if_pos c32] at H
            cases H
           ·rw [if_neg c32] at H
            have c32b0 : (t348 != t350) = false := by simpa using c32
            (try (have c32b1 : decide (t348 = t350) = true := by simpa using c32))
            (try (have c32b2 : (t348 == t350) = true := by simpa using c32))
            clear c32
            by_cases c33 : t347 = t349
            ·rw [if_pos c33] at H
             have c33b0 : (t347 == t349) = true := beq_iff_eq.mpr c33
             have c33b1 : (t347 != t349) = false := bne_eq_false_iff_eq.mpr c33
             clear c33
             by_cases c34 : (t332 != t324) = true
             ·rw [if_pos c34] at H
              cases H
             ·rw [if_neg c34] at H
              have c34b0 : (t332 != t324) = false := by simpa using c34
              (try (have c34b1 : decide (t332 = t324) = true := by simpa using c34))
              (try (have c34b2 : (t332 == t324) = true := by simpa using c34))
              clear c34
              by_cases c35 : (t336 != t324) = true
              ·rw [if_pos c35] at H
               cases H
              ·rw [if_neg c35] at H
               have c35b0 : (t336 != t324) = false := by simpa using c35
               (try (have c35b1 : decide (t336 = t324) = true := by simpa using c35))
               (try (have c35b2 : (t336 == t324) = true := by simpa using c35))
               clear c35
               by_cases c36 : (t344 != t324) = true
               ·rw [if_pos c36] at H
                cases H
               ·rw [if_neg c36] at H
                have c36b0 : (t344 != t324) = false := by simpa using c36
                (try (have c36b1 : decide (t344 = t324) = true := by simpa using c36))
                (try (have c36b2 : (t344 == t324) = true := by simpa using c36))
                clear c36
                have H' := Aside0.mk H
                clear H
                obtain ⟨Ao37, co37, eo37⟩ := Kd.R_slice HO326.out
                subst eo37
                obtain ⟨Ao38, co38, eo38⟩ := Kd.R_slice HO330.out
                subst eo38
                go_wp2_with (first | (go_at_call 16; (with_reducible refine (laws_uSame.calls k _ _ t323 _ _ t327 true _ ?side1 ?side2 ?side3 ?side4 A23.out).mono ?_); (case side1 => exact CW (Kd.R_reads' HO326.out).2.2); (case side2 => exact (Kd.R_reads' HO326.out).2.1); (case side3 => exact CW (Kd.R_reads' HO330.out).2.2); (case side4 => exact (Kd.R_reads' HO330.out).2.1); rintro e w' ⟨rfl, ⟨nd, rfl⟩⟩; obtain ⟨Ao39, co39, eo39⟩ := Kd.R_slice HO338.out; subst eo39; obtain ⟨Ao40, co40, eo40⟩ := Kd.R_slice HO342.out; subst eo40) | (go_at_call 16; (with_reducible refine (laws_uSame.calls k _ _ t335 _ _ t339 true _ ?side1 ?side2 ?side3 ?side4 A28.out).mono ?_); (case side1 => exact CW (Kd.R_reads' HO338.out).2.2); (case side2 => exact (Kd.R_reads' HO338.out).2.1); (case side3 => exact CW (Kd.R_reads' HO342.out).2.2); (case side4 => exact (Kd.R_reads' HO342.out).2.1); rintro e w' ⟨rfl, ⟨nd, rfl⟩⟩))
                go_meet
                case rel => exact ⟨_, ((t348 != t324)), RF, H', ⟨by first | omega | exact Nat.le_refl _⟩, ⟨by (with_reducible repeat (first | apply Kd.R_alloc | apply Kd.R_drewN | apply Kd.R_drew)); exact Kd.R_mono HO326.out (fun _ hk => hk.1.2)⟩, ⟨by (with_reducible repeat (first | apply Kd.R_alloc | apply Kd.R_drewN | apply Kd.R_drew)); exact Kd.R_mono HO338.out (fun _ hk => hk.1.1.2)⟩, ⟨BB⟩⟩
            ·rw [if_neg c33] at H
             cases H
          ·rw [if_neg c31] at H
           cases H
        ·replace c29 := Bool.eq_false_iff.mpr c29
         subst c29
         replace H := IN H
         cases H
      ·rw [if_neg c26] at H
       cases H
    ·replace c24 := Bool.eq_false_iff.mpr c24
     subst c24
     replace H := IN H
     cases H
  case rest => as_aux_lemma =>
   clear HC16
   try clear c1
   try clear c2
   try clear p2
   try clear c3
   try clear c4
   try clear c5
   try clear c6
   try clear p6
   try clear c7
   try clear c8
   try clear c9
   try clear c10
   try clear c11
   try clear c12
   try clear c13
   try clear c14
   try clear c15
   try clear c22
   try clear c22b0
   try clear c22b1
   try clear c22b2
   try clear c24
   try clear c25
   try clear c25b0
   try clear c25b1
   try clear c25b2
   try clear c26
   try clear c26b0
   try clear c26b1
   try clear c27
   try clear c27b0
   try clear c27b1
   try clear c27b2
   try clear c29
   try clear c30
   try clear c30b0
   try clear c30b1
   try clear c30b2
   try clear c31
   try clear c31b0
   try clear c31b1
   try clear c32
   try clear c32b0
   try clear c32b1
   try clear c32b2
   try clear c33
   try clear c33b0
   try clear c33b1
   try clear c34
   try clear c34b0
   try clear c34b1
   try clear c34b2
   try clear c35
   try clear c35b0
   try clear c35b1
   try clear c35b2
   try clear c36
   try clear c36b0
   try clear c36b1
   try clear c36b2
   obtain ⟨kq, x193_15, rfl, HA, HJ15, HO_7, HO_15, HB⟩ := hcut
   cases kq with
   | zero => exact absurd HA.out (by simp [laws_FnKneserColours.j0])
   | succ kj15 =>
    have H := HA.out
    clear HA
    simp only [laws_FnKneserColours.j0] at H
    by_cases c41 : x193_15 = true
    ·subst c41
     replace H := IP H
     cases H
    ·replace c41 := Bool.eq_false_iff.mpr c41
     subst c41
     replace H := IN H
     have HC42 := Aside0.mk H
     clear H
     go_upto_if 194 with (fail)
     go_cut [] (fun wc => ∃ (kq : Nat), Aside0 (laws_FnKneserColours.j5 kq l1 = some r) ∧ Aside0 (kq ≤ kj15) ∧ Aside0 (Below w.heap.size w wc))
     case first => as_aux_lemma =>
      have H := HC42.out
      clear HC42
      by_cases c43 : t324 = true
      ·subst c43
       replace H := IP H
       obtain ⟨⟨t353, t354⟩, A440, H⟩ := Option.bind_eq_some_iff.mp H
       replace H : (if t354 = true then (if t353 = true then (if (t335.length : Int) = t343 then (laws_FnKneserColours.j1 kj15 l1 t323 t331 t335 t347 ((t323.length : Int) != t343)) else (none)) else (none)) else (none)) = some r := H
       have A44 := Aside0.mk A440
       clear A440
       have HC45 := Aside0.mk H
       clear H
       obtain ⟨Ao46, co46, eo46⟩ := Kd.R_slice HO_7.out
       subst eo46
       go_upto_region 18 with (first | ((with_reducible refine gate_callee (f := 17) rfl ?_); refine goesL_ (some 199) rfl rfl Tryd.func17 (by kernel_rfl) rfl #[.int .i64 t321, .int .i64 t322, .slice Ao46 t323.length co46] rfl TA ?_; (with_reducible refine (impl_IsColouring.calls kj15 t321 t322 _ _ t323 t353 t354 _ ?side1 ?side2 A44.out).mono ?_); (case side1 => exact CW (Kd.R_reads' HO_7.out).2.2); (case side2 => exact (Kd.R_reads' HO_7.out).2.1); rintro e w47 ⟨rfl, hb⟩; refine ⟨_, rfl, ?_⟩; have n0_ := Aside0.mk (Kd.R_below (KR HO_7) hb); have n1_ := Aside0.mk (Kd.R_below (KR HO_15) hb); have n2_ := Aside0.mk (below_step BB hb); clear HO_7; clear HO_15; clear HB; have HO_7 := n0_; have HO_15 := n1_; have HB := n2_; clear n0_ n1_ n2_; (try clear hb); (try clear hb2); (try clear hk); (try clear hi)))
       (try simp only [Act.put, List.setIfInBounds_toArray, List.set_cons_zero, List.set_cons_succ])
       go_cut [219] (fun v219 wc => ∃ (kq : Nat) (x219_44 : Bool), v219 = .bool x219_44 ∧ Aside0 (laws_FnKneserColours.j1 kq l1 t323 t331 t335 t347 x219_44 = some r) ∧ Aside0 (kq ≤ kj15) ∧ Aside0 (Kd.R (Kd.int .i64) 3 wc w.heap.size (fun k_ => some k_ ≠ (v337 : Value).ownBlock) (.slice Ao46 t323.length co46) t323) ∧ Aside0 (Kd.R (Kd.int .i64) 3 wc w.heap.size (fun k_ => some k_ ≠ ((.slice Ao46 t323.length co46) : Value).ownBlock) v337 t335) ∧ Aside0 (Below w.heap.size w wc))
       case first => as_aux_lemma =>
        have H := HC45.out
        clear HC45
        by_cases c48 : t354 = true
        ·subst c48
         replace H := IP H
         by_cases c49 : t353 = true
         ·subst c49
          replace H := IP H
          by_cases c50 : (t335.length : Int) = t343
          ·rw [if_pos c50] at H
           have c50b0 : ((t335.length : Int) == t343) = true := beq_iff_eq.mpr c50
           have c50b1 : ((t335.length : Int) != t343) = false := bne_eq_false_iff_eq.mpr c50
           clear c50
           (first | rw [c50b0] | (simp only [i64_w, i32_w]; rw [c50b0]) | skip)
           have H' := Aside0.mk H
           clear H
           obtain ⟨Ao51, co51, eo51⟩ := Kd.R_slice HO_15.out
           subst eo51
           go_wp2
           go_meet
           case rel => exact ⟨_, (((t323.length : Int) != t343)), RF, H', ⟨by have := HJ15.out; first | omega | exact Nat.le_refl _⟩, ⟨KR HO_7⟩, ⟨KR HO_15⟩, ⟨BB⟩⟩
          ·rw [if_neg c50] at H
           cases H
         ·replace c49 := Bool.eq_false_iff.mpr c49
          subst c49
          replace H := IN H
          cases H
        ·replace c48 := Bool.eq_false_iff.mpr c48
         subst c48
         replace H := IN H
         cases H
       case rest => as_aux_lemma =>
        clear HC45
        try clear c1
        try clear c2
        try clear p2
        try clear c3
        try clear c4
        try clear c5
        try clear c6
        try clear p6
        try clear c7
        try clear c8
        try clear c9
        try clear c10
        try clear c11
        try clear c12
        try clear c13
        try clear c14
        try clear c15
        try clear c17
        try clear c22
        try clear c22b0
        try clear c22b1
        try clear c22b2
        try clear c24
        try clear c25
        try clear c25b0
        try clear c25b1
        try clear c25b2
        try clear c26
        try clear c26b0
        try clear c26b1
        try clear c27
        try clear c27b0
        try clear c27b1
        try clear c27b2
        try clear c29
        try clear c30
        try clear c30b0
        try clear c30b1
        try clear c30b2
        try clear c31
        try clear c31b0
        try clear c31b1
        try clear c32
        try clear c32b0
        try clear c32b1
        try clear c32b2
        try clear c33
        try clear c33b0
        try clear c33b1
        try clear c34
        try clear c34b0
        try clear c34b1
        try clear c34b2
        try clear c35
        try clear c35b0
        try clear c35b1
        try clear c35b2
        try clear c36
        try clear c36b0
        try clear c36b1
        try clear c36b2
        try clear c41
        try clear c43
        try clear c48
        try clear c49
        try clear c50
        try clear c50b0
        try clear c50b1
        try clear p2
        try clear p6
        obtain ⟨kq, x219_44, rfl, HA, HJ44, HO_7, HO_15, HB⟩ := hcut
        cases kq with
        | zero => exact absurd HA.out (by simp [laws_FnKneserColours.j1])
        | succ kj44 =>
         have H := HA.out
         clear HA
         simp only [laws_FnKneserColours.j1] at H
         by_cases c52 : x219_44 = true
         ·subst c52
          replace H := IP H
          cases H
         ·replace c52 := Bool.eq_false_iff.mpr c52
          subst c52
          replace H := IN H
          have H' := Aside0.mk H
          clear H
          go_wp2
          go_loopg [29, 222] kj44 (fun kq v29 v222 w' => ∃ (x29_3 : Int) (x222_3 : Int), v29 = .int .i64 x29_3 ∧ v222 = .int .i64 x222_3 ∧ Aside0 (laws_FnKneserColours.l0 kq l1 t331 t335 t347 x29_3 t323 (t323.length : Int) x222_3 = some r) ∧ Aside0 (kq ≤ kj44) ∧ Aside0 (Kd.R (Kd.int .i64) 3 w' w.heap.size (fun k_ => some k_ ≠ ((.slice Ao46 t323.length co46) : Value).ownBlock) v337 t335) ∧ Aside0 (Kd.R (Kd.int .i64) 3 w' w.heap.size (fun k_ => some k_ ≠ (v337 : Value).ownBlock) (.slice Ao46 t323.length co46) t323) ∧ Aside0 (Below w.heap.size w w'))
          case atStart => exact ⟨(0), (0), RF, RF, H', ⟨Nat.le_refl _⟩, ⟨KR HO_15⟩, ⟨KR HO_7⟩, ⟨BB⟩⟩
          case round => as_aux_lemma =>
           clear H'
           try clear c1
           try clear c2
           try clear p2
           try clear c3
           try clear c4
           try clear c5
           try clear c6
           try clear p6
           try clear c7
           try clear c8
           try clear c9
           try clear c10
           try clear c11
           try clear c12
           try clear c13
           try clear c14
           try clear c15
           try clear c17
           try clear c22
           try clear c22b0
           try clear c22b1
           try clear c22b2
           try clear c24
           try clear c25
           try clear c25b0
           try clear c25b1
           try clear c25b2
           try clear c26
           try clear c26b0
           try clear c26b1
           try clear c27
           try clear c27b0
           try clear c27b1
           try clear c27b2
           try clear c29
           try clear c30
           try clear c30b0
           try clear c30b1
           try clear c30b2
           try clear c31
           try clear c31b0
           try clear c31b1
           try clear c32
           try clear c32b0
           try clear c32b1
           try clear c32b2
           try clear c33
           try clear c33b0
           try clear c33b1
           try clear c34
           try clear c34b0
           try clear c34b1
           try clear c34b2
           try clear c35
           try clear c35b0
           try clear c35b1
           try clear c35b2
           try clear c36
           try clear c36b0
           try clear c36b1
           try clear c36b2
           try clear c41
           try clear c43
           try clear c48
           try clear c49
           try clear c50
           try clear c50b0
           try clear c50b1
           try clear c52
           try clear p2
           try clear p6
           obtain ⟨x29_3, x222_3, rfl, rfl, HA, HK3, HO_15, HO_220, HB⟩ := hrel
           cases gk with
           | zero => exact absurd HA.out (by simp [laws_FnKneserColours.l0])
           | succ k3 =>
            have H := HA.out
            clear HA
            simp only [laws_FnKneserColours.l0] at H
            by_cases c53 : x222_3 < (t323.length : Int)
            ·rw [if_pos c53] at H
             have c53b0 : decide (x222_3 < (t323.length : Int)) = true := decide_eq_true c53
             clear c53
             by_cases c54 : 0 ≤ x222_3
             ·rw [if_pos c54] at H
              have c54b0 : decide (0 ≤ x222_3) = true := decide_eq_true c54
              clear c54
              by_cases c55 : x222_3 < (t323.length : Int)
              ·rw [if_pos c55] at H
               have c55b0 : decide (x222_3 < (t323.length : Int)) = true := decide_eq_true c55
               clear c55
               by_cases c56 : 0 ≤ (rd t323 x222_3)
               ·rw [if_pos c56] at H
                have c56b0 := eq_true c56
                have c56b1 : decide (0 ≤ (rd t323 x222_3)) = true := decide_eq_true c56
                clear c56
                obtain ⟨ji57, hji57⟩ : ∃ j_ : Int, (shl .i64 1 (rd t323 x222_3)) = j_ := ⟨_, rfl⟩
                replace H : (if (rd t323 x222_3) < 0 then (none) else (if (rd t323 x222_3) ≥ t331 then (none) else (if x222_3 > 0 then (if 0 ≤ (wrap64 (x222_3 - 1)) then (if (wrap64 (x222_3 - 1)) < (t335.length : Int) then (if x222_3 < (t335.length : Int) then (if (rd t335 (wrap64 (x222_3 - 1))) ≥ (rd t335 x222_3) then (none) else (laws_FnKneserColours.l0 k3 l1 t331 t335 t347 (Go.bits .or .i64 x29_3 (ji57)) t323 (t323.length : Int) (wrap64 (x222_3 + 1)))) else (none)) else (none)) else (none)) else (laws_FnKneserColours.l0 k3 l1 t331 t335 t347 (Go.bits .or .i64 x29_3 (ji57)) t323 (t323.length : Int) (wrap64 (x222_3 + 1)))))) = some r := by first | (rw [hji57] at H; exact H) | (simp only [hji57] at H ⊢; exact H)
                have hji57_ : (IntKind.i64.wrap (1 * 2 ^ min (rd t323 x222_3).toNat 64)) = ji57 := hji57
                have hji57z : (rd t323 x222_3) ≤ 64 → (IntKind.i64.wrap (1 * 2 ^ (rd t323 x222_3).toNat)) = ji57 := shl_small hji57
                have hji57u : (IntKind.i64.wrap (2 ^ min (rd t323 x222_3).toNat 64)) = ji57 := by have h_ := hji57_; rw [Int.one_mul] at h_; exact h_
                have hji57v : (rd t323 x222_3) ≤ 64 → (IntKind.i64.wrap (2 ^ (rd t323 x222_3).toNat)) = ji57 := fun hle_ => by have h_ := hji57z hle_; rw [Int.one_mul] at h_; exact h_
                have hji57y : (wrap64 (1 * 2 ^ min (rd t323 x222_3).toNat 64)) = ji57 := (i64_w _).symm.trans hji57_
                have hji57x : (rd t323 x222_3) ≤ 64 → (wrap64 (1 * 2 ^ (rd t323 x222_3).toNat)) = ji57 := fun h_ => (i64_w _).symm.trans (hji57z h_)
                by_cases c58 : (rd t323 x222_3) < 0
                ·rw [if_pos c58] at H
                 cases H
                ·rw [if_neg c58] at H
                 have c58b0 : decide ((rd t323 x222_3) < 0) = false := decide_eq_false c58
                 clear c58
                 by_cases c59 : (rd t323 x222_3) ≥ t331
                 ·rw [if_pos c59] at H
                  cases H
                 ·rw [if_neg c59] at H
                  have c59b0 : decide (t331 ≤ (rd t323 x222_3)) = false := decide_eq_false c59
                  clear c59
                  by_cases c60 : x222_3 > 0
                  ·rw [if_pos c60] at H
                   have c60b0 : decide (0 < x222_3) = true := decide_eq_true c60
                   clear c60
                   obtain ⟨ji61, hji61⟩ : ∃ j_ : Int, (wrap64 (x222_3 - 1)) = j_ := ⟨_, rfl⟩
                   replace H : (if 0 ≤ (ji61) then (if (ji61) < (t335.length : Int) then (if x222_3 < (t335.length : Int) then (if (rd t335 (ji61)) ≥ (rd t335 x222_3) then (none) else (laws_FnKneserColours.l0 k3 l1 t331 t335 t347 (Go.bits .or .i64 x29_3 (ji57)) t323 (t323.length : Int) (wrap64 (x222_3 + 1)))) else (none)) else (none)) else (none)) = some r := by first | (rw [hji61] at H; exact H) | (simp only [hji61] at H ⊢; exact H)
                   have hji61w : (IntKind.i64.wrap (x222_3 - 1)) = ji61 := (i64_w _).trans hji61
                   by_cases c62 : 0 ≤ (ji61)
                   ·rw [if_pos c62] at H
                    have c62b0 : decide (0 ≤ (ji61)) = true := decide_eq_true c62
                    clear c62
                    by_cases c63 : (ji61) < (t335.length : Int)
                    ·rw [if_pos c63] at H
                     have c63b0 : decide ((ji61) < (t335.length : Int)) = true := decide_eq_true c63
                     clear c63
                     by_cases c64 : x222_3 < (t335.length : Int)
                     ·rw [if_pos c64] at H
                      have c64b0 : decide (x222_3 < (t335.length : Int)) = true := decide_eq_true c64
                      clear c64
                      by_cases c65 : (rd t335 (ji61)) ≥ (rd t335 x222_3)
                      ·rw [if_pos c65] at H
                       cases H
                      ·rw [if_neg c65] at H
                       have c65b0 : decide ((rd t335 x222_3) ≤ (rd t335 (ji61))) = false := decide_eq_false c65
                       clear c65
                       have H' := Aside0.mk H
                       clear H
                       have p355 : 0 ≤ (x222_3 : Int) := of_decide_eq_true AS
                       have q355 : x222_3 < (t323.length : Int) := of_decide_eq_true AS
                       obtain ⟨ad355, e355, hx355_0⟩ := Kd.at_int (Kd.R_reads' HO_220.out).2.2 x222_3 p355 q355
                       cases e355
                       replace p355 := eq_true p355
                       replace q355 := eq_true q355
                       try go_wp2
                       have n0_ := Aside0.mk (Kd.R_drew HO_15.out)
                       have n1_ := Aside0.mk (Kd.R_drew HO_220.out)
                       have n2_ := Aside0.mk (below_drew1 HB.out)
                       clear HO_15
                       clear HO_220
                       clear HB
                       have HO_15 := n0_
                       have HO_220 := n1_
                       have HB := n2_
                       clear n0_ n1_ n2_
                       obtain ⟨Ao67, co67, eo67⟩ := Kd.R_slice HO_15.out
                       (first | subst eo67 | (injection eo67 with f1_ f2_ f3_; have f4_ := f1_.symm; have f5_ := f3_.symm; clear f1_ f2_ f3_; subst f4_; subst f5_))
                       have p356 : 0 ≤ ((ji61) : Int) := of_decide_eq_true AS
                       have q356 : (ji61) < (t335.length : Int) := of_decide_eq_true AS
                       obtain ⟨ad356, e356, hx356_0⟩ := Kd.at_int (Kd.R_reads' HO_15.out).2.2 (ji61) p356 q356
                       cases e356
                       replace p356 := eq_true p356
                       replace q356 := eq_true q356
                       have p357 : 0 ≤ (x222_3 : Int) := of_decide_eq_true AS
                       have q357 : x222_3 < (t335.length : Int) := of_decide_eq_true AS
                       obtain ⟨ad357, e357, hx357_0⟩ := Kd.at_int (Kd.R_reads' HO_15.out).2.2 x222_3 p357 q357
                       obtain rfl : ad356 = ad357 := (by injection e357)
                       replace p357 := eq_true p357
                       replace q357 := eq_true q357
                       refine start_ (n := 23) (S := fun w' => w'.cell? (ad356.add ((ji61)).toNat) = some (.int .i64 (rd t335 (ji61))) ∧ w'.cell? (ad356.add (x222_3).toNat) = some (.int .i64 (rd t335 x222_3))) (ds := []) #[false, false, false, false, false, false, false, false, false, false, false, false, false, false, false, false, false, false, false, false, false, false, false] (by kernel_rfl) rfl rfl ⟨hx356_0, hx357_0⟩ (fun hHeld => ?_); refine with_tabW laws_FnKneserColours.tab25 laws_FnKneserColours.bits25 (fun HT_ HW_ => ?_)
                       generalize wr.drew = w66 at HO_15 HO_220 HB hx356_0 hx357_0 hHeld ⊢
                       refine pure_ (i := 0) (N := some 231) #[true, false, false, false, false, false, false, false, false, false, false, false, false, false, false, false, false, false, false, false, false, false, false] rfl rfl (any_of HT_.out (by kernel_rfl)) (fun _ _ _ h => h) (Or.inl ⟨by rfl, PW⟩) PU ?_
                       refine pure_ (i := 1) (N := some 232) #[true, true, false, false, false, false, false, false, false, false, false, false, false, false, false, false, false, false, false, false, false, false, false] rfl rfl (any_of HT_.out (by kernel_rfl)) (fun _ _ _ h => h) (Or.inl ⟨by rfl, PW⟩) PU ?_
                       refine pure_ (i := 2) (N := some 233) #[true, true, true, false, false, false, false, false, false, false, false, false, false, false, false, false, false, false, false, false, false, false, false] rfl rfl (any_of HT_.out (by kernel_rfl)) (fun _ _ _ h => h) (Or.inl ⟨by rfl, PW⟩) PU ?_
                       refine pure_ (i := 3) (N := some 234) #[true, true, true, true, false, false, false, false, false, false, false, false, false, false, false, false, false, false, false, false, false, false, false] rfl rfl (any_of HT_.out (by kernel_rfl)) (fun _ _ _ h => h) (Or.inl ⟨by rfl, PW⟩) PU ?_
                       refine pure_ (i := 4) (N := some 235) #[true, true, true, true, true, false, false, false, false, false, false, false, false, false, false, false, false, false, false, false, false, false, false] rfl rfl (any_of HT_.out (by kernel_rfl)) (fun _ _ _ h => h) (Or.inl ⟨by rfl, PW⟩) PU ?_
                       refine pure_ (i := 5) (N := some 236) #[true, true, true, true, true, true, false, false, false, false, false, false, false, false, false, false, false, false, false, false, false, false, false] rfl rfl (any_of HT_.out (by kernel_rfl)) (fun _ _ _ h => h) (Or.inl ⟨by rfl, PW⟩) PU ?_
                       refine pure_ (i := 6) (N := some 237) #[true, true, true, true, true, true, true, false, false, false, false, false, false, false, false, false, false, false, false, false, false, false, false] rfl rfl (any_of HT_.out (by kernel_rfl)) (fun _ _ _ h => h) (Or.inl ⟨by rfl, PW⟩) PU ?_
                       refine pure_ (i := 7) (N := some 238) #[true, true, true, true, true, true, true, true, false, false, false, false, false, false, false, false, false, false, false, false, false, false, false] rfl rfl (any_of HT_.out (by kernel_rfl)) (fun _ _ _ h => h) (Or.inl ⟨by rfl, PW⟩) PU ?_
                       refine pure_ (i := 8) (N := some 239) #[true, true, true, true, true, true, true, true, true, false, false, false, false, false, false, false, false, false, false, false, false, false, false] rfl rfl (any_of HT_.out (by kernel_rfl)) (fun _ _ _ h => h) (Or.inl ⟨by rfl, PW⟩) PU ?_
                       refine pure_ (i := 9) (N := some 240) #[true, true, true, true, true, true, true, true, true, true, false, false, false, false, false, false, false, false, false, false, false, false, false] rfl rfl (any_of HT_.out (by kernel_rfl)) (fun _ _ _ h => h) (Or.inl ⟨by rfl, PW⟩) PU ?_
                       refine pure_ (i := 10) (N := some 241) #[true, true, true, true, true, true, true, true, true, true, true, false, false, false, false, false, false, false, false, false, false, false, false] rfl rfl (any_of HT_.out (by kernel_rfl)) (fun _ _ _ h => h) (Or.inl ⟨by rfl, PW⟩) PU ?_
                       refine pure_ (i := 11) (N := some 242) #[true, true, true, true, true, true, true, true, true, true, true, true, false, false, false, false, false, false, false, false, false, false, false] rfl rfl (any_of HT_.out (by kernel_rfl)) (fun _ _ _ h => h) (Or.inl ⟨by rfl, PW⟩) PU ?_
                       refine pure_ (i := 12) (N := some 243) #[true, true, true, true, true, true, true, true, true, true, true, true, true, false, false, false, false, false, false, false, false, false, false] rfl rfl (any_of HT_.out (by kernel_rfl)) (fun _ _ _ h => h) (Or.inl ⟨by rfl, PW⟩) PU ?_
                       refine pure_ (i := 13) (N := some 244) #[true, true, true, true, true, true, true, true, true, true, true, true, true, true, false, false, false, false, false, false, false, false, false] rfl rfl (any_of HT_.out (by kernel_rfl)) (fun _ _ _ h => h) (Or.inl ⟨by rfl, PW⟩) PU ?_
                       refine pure_ (i := 14) (N := some 245) #[true, true, true, true, true, true, true, true, true, true, true, true, true, true, true, false, false, false, false, false, false, false, false] rfl rfl (any_of HT_.out (by kernel_rfl)) (fun _ _ _ h => h) (Or.inl ⟨by rfl, PW⟩) PU ?_
                       refine pure_ (i := 16) (N := some 247) #[true, true, true, true, true, true, true, true, true, true, true, true, true, true, true, false, true, false, false, false, false, false, false] rfl rfl (any_of HT_.out (by kernel_rfl)) (fun _ _ _ h => h) (Or.inl ⟨by rfl, PW⟩) PU ?_
                       refine pure_ (i := 17) (N := some 248) #[true, true, true, true, true, true, true, true, true, true, true, true, true, true, true, false, true, true, false, false, false, false, false] rfl rfl (any_of HT_.out (by kernel_rfl)) (fun _ _ _ h => h) (Or.inl ⟨by rfl, PW⟩) PU ?_
                       refine pure_ (i := 18) (N := some 249) #[true, true, true, true, true, true, true, true, true, true, true, true, true, true, true, false, true, true, true, false, false, false, false] rfl rfl (any_of HT_.out (by kernel_rfl)) (fun _ _ _ h => h) (Or.inl ⟨by rfl, PW⟩) PU ?_
                       refine take_ (i := 15) (N := some 246) #[true, true, true, true, true, true, true, true, true, true, true, true, true, true, true, true, true, true, true, false, false, false, false] rfl rfl (take_ofW HT_.out HW_.out (by kernel_rfl)) (fun _ _ _ h => h) (Or.inl ⟨by rfl, PT⟩) hHeld PU ?_
                       refine take_ (i := 19) (N := some 250) #[true, true, true, true, true, true, true, true, true, true, true, true, true, true, true, true, true, true, true, true, false, false, false] rfl rfl (take_ofW HT_.out HW_.out (by kernel_rfl)) (fun _ _ _ h => h) (Or.inl ⟨by rfl, PT⟩) hHeld PU ?_
                       refine pure_ (i := 20) (N := some 251) #[true, true, true, true, true, true, true, true, true, true, true, true, true, true, true, true, true, true, true, true, true, false, false] rfl rfl (any_of HT_.out (by kernel_rfl)) (fun _ _ _ h => h) (Or.inl ⟨by rfl, PW⟩) PU ?_
                       refine pure_ (i := 21) (N := some 252) #[true, true, true, true, true, true, true, true, true, true, true, true, true, true, true, true, true, true, true, true, true, true, false] rfl rfl (any_of HT_.out (by kernel_rfl)) (fun _ _ _ h => h) (Or.inl ⟨by rfl, PW⟩) PU ?_
                       refine pure_ (i := 22) (N := some 253) #[true, true, true, true, true, true, true, true, true, true, true, true, true, true, true, true, true, true, true, true, true, true, true] rfl rfl (any_of HT_.out (by kernel_rfl)) (fun _ _ _ h => h) (Or.inl ⟨by rfl, PW⟩) PU ?_
                       refine done_ (done_of HT_.out (by kernel_rfl)) ?_
                       try go_wp2
                       go_roundg k3
                       case measure => have := HJ15.out; have := HJ44.out; have := HK3.out; omega
                       case rel => exact ⟨(Go.bits .or .i64 x29_3 (ji57)), (wrap64 (x222_3 + 1)), (by first | rfl | (simp; done) | (simp only [← hji57] <;> (first | rfl | simp)) | (simp [*]; done) | (simp [*, wrap64]; done)), RF, H', ⟨by have := HJ15.out; have := HJ44.out; have := HK3.out; omega⟩, ⟨KR HO_15⟩, ⟨KR HO_220⟩, ⟨BB⟩⟩
                     ·rw [if_neg c64] at H
                      cases H
                    ·rw [if_neg c63] at H
                     cases H
                   ·rw [if_neg c62] at H
                    cases H
                  ·rw [if_neg c60] at H
                   have c60b0 : decide (0 < x222_3) = false := decide_eq_false c60
                   clear c60
                   have H' := Aside0.mk H
                   clear H
                   have p355 : 0 ≤ (x222_3 : Int) := of_decide_eq_true AS
                   have q355 : x222_3 < (t323.length : Int) := of_decide_eq_true AS
                   obtain ⟨ad355, e355, hx355_0⟩ := Kd.at_int (Kd.R_reads' HO_220.out).2.2 x222_3 p355 q355
                   cases e355
                   replace p355 := eq_true p355
                   replace q355 := eq_true q355
                   try go_wp2
                   have n0_ := Aside0.mk (Kd.R_drew HO_15.out)
                   have n1_ := Aside0.mk (Kd.R_drew HO_220.out)
                   have n2_ := Aside0.mk (below_drew1 HB.out)
                   clear HO_15
                   clear HO_220
                   clear HB
                   have HO_15 := n0_
                   have HO_220 := n1_
                   have HB := n2_
                   clear n0_ n1_ n2_
                   refine start_ (n := 23) (S := fun w' => True) (ds := []) #[false, false, false, false, false, false, false, false, false, false, false, false, false, false, false, false, false, false, false, false, false, false, false] (by kernel_rfl) rfl rfl trivial (fun hHeld => ?_); refine with_tabW laws_FnKneserColours.tab25 laws_FnKneserColours.bits25 (fun HT_ HW_ => ?_)
                   generalize wr.drew = w68 at HO_15 HO_220 HB hHeld ⊢
                   refine pure_ (i := 0) (N := some 231) #[true, false, false, false, false, false, false, false, false, false, false, false, false, false, false, false, false, false, false, false, false, false, false] rfl rfl (any_of HT_.out (by kernel_rfl)) (fun _ _ _ h => h) (Or.inl ⟨by rfl, PW⟩) PU ?_
                   refine pure_ (i := 1) (N := some 232) #[true, true, false, false, false, false, false, false, false, false, false, false, false, false, false, false, false, false, false, false, false, false, false] rfl rfl (any_of HT_.out (by kernel_rfl)) (fun _ _ _ h => h) (Or.inl ⟨by rfl, PW⟩) PU ?_
                   refine pure_ (i := 2) (N := some 233) #[true, true, true, false, false, false, false, false, false, false, false, false, false, false, false, false, false, false, false, false, false, false, false] rfl rfl (any_of HT_.out (by kernel_rfl)) (fun _ _ _ h => h) (Or.inl ⟨by rfl, PW⟩) PU ?_
                   refine pure_ (i := 3) (N := some 234) #[true, true, true, true, false, false, false, false, false, false, false, false, false, false, false, false, false, false, false, false, false, false, false] rfl rfl (any_of HT_.out (by kernel_rfl)) (fun _ _ _ h => h) (Or.inl ⟨by rfl, PW⟩) PU ?_
                   refine pure_ (i := 4) (N := some 235) #[true, true, true, true, true, false, false, false, false, false, false, false, false, false, false, false, false, false, false, false, false, false, false] rfl rfl (any_of HT_.out (by kernel_rfl)) (fun _ _ _ h => h) (Or.inl ⟨by rfl, PW⟩) PU ?_
                   refine pure_ (i := 5) (N := some 236) #[true, true, true, true, true, true, false, false, false, false, false, false, false, false, false, false, false, false, false, false, false, false, false] rfl rfl (any_of HT_.out (by kernel_rfl)) (fun _ _ _ h => h) (Or.inl ⟨by rfl, PW⟩) PU ?_
                   refine pure_ (i := 6) (N := some 237) #[true, true, true, true, true, true, true, false, false, false, false, false, false, false, false, false, false, false, false, false, false, false, false] rfl rfl (any_of HT_.out (by kernel_rfl)) (fun _ _ _ h => h) (Or.inl ⟨by rfl, PW⟩) PU ?_
                   refine pure_ (i := 7) (N := some 238) #[true, true, true, true, true, true, true, true, false, false, false, false, false, false, false, false, false, false, false, false, false, false, false] rfl rfl (any_of HT_.out (by kernel_rfl)) (fun _ _ _ h => h) (Or.inl ⟨by rfl, PW⟩) PU ?_
                   refine pure_ (i := 8) (N := some 239) #[true, true, true, true, true, true, true, true, true, false, false, false, false, false, false, false, false, false, false, false, false, false, false] rfl rfl (any_of HT_.out (by kernel_rfl)) (fun _ _ _ h => h) (Or.inl ⟨by rfl, PW⟩) PU ?_
                   refine pure_ (i := 9) (N := some 240) #[true, true, true, true, true, true, true, true, true, true, false, false, false, false, false, false, false, false, false, false, false, false, false] rfl rfl (any_of HT_.out (by kernel_rfl)) (fun _ _ _ h => h) (Or.inl ⟨by rfl, PW⟩) PU ?_
                   refine pure_ (i := 10) (N := some 241) #[true, true, true, true, true, true, true, true, true, true, true, false, false, false, false, false, false, false, false, false, false, false, false] rfl rfl (any_of HT_.out (by kernel_rfl)) (fun _ _ _ h => h) (Or.inl ⟨by rfl, PW⟩) PU ?_
                   refine pure_ (i := 11) (N := some 242) (v := undef) (a' := ?_) #[true, true, true, true, true, true, true, true, true, true, true, true, false, false, false, false, false, false, false, false, false, false, false] rfl rfl (any_of HT_.out (by kernel_rfl)) (fun _ _ _ h => h) (Or.inr ⟨by rfl, rfl⟩) ?_ ?_
                   rotate_left
                   ·exact PU
                   refine pure_ (i := 12) (N := some 243) (v := undef) (a' := ?_) #[true, true, true, true, true, true, true, true, true, true, true, true, true, false, false, false, false, false, false, false, false, false, false] rfl rfl (any_of HT_.out (by kernel_rfl)) (fun _ _ _ h => h) (Or.inr ⟨by rfl, rfl⟩) ?_ ?_
                   rotate_left
                   ·exact PU
                   refine pure_ (i := 13) (N := some 244) (v := undef) (a' := ?_) #[true, true, true, true, true, true, true, true, true, true, true, true, true, true, false, false, false, false, false, false, false, false, false] rfl rfl (any_of HT_.out (by kernel_rfl)) (fun _ _ _ h => h) (Or.inr ⟨by rfl, rfl⟩) ?_ ?_
                   rotate_left
                   ·exact PU
                   refine pure_ (i := 14) (N := some 245) (v := undef) (a' := ?_) #[true, true, true, true, true, true, true, true, true, true, true, true, true, true, true, false, false, false, false, false, false, false, false] rfl rfl (any_of HT_.out (by kernel_rfl)) (fun _ _ _ h => h) (Or.inr ⟨by rfl, rfl⟩) ?_ ?_
                   rotate_left
                   ·exact PU
                   refine pure_ (i := 15) (N := some 246) (v := undef) (a' := ?_) #[true, true, true, true, true, true, true, true, true, true, true, true, true, true, true, true, false, false, false, false, false, false, false] rfl rfl (any_of HT_.out (by kernel_rfl)) (fun _ _ _ h => h) (Or.inr ⟨by rfl, rfl⟩) ?_ ?_
                   rotate_left
                   ·exact PU
                   refine pure_ (i := 16) (N := some 247) (v := undef) (a' := ?_) #[true, true, true, true, true, true, true, true, true, true, true, true, true, true, true, true, true, false, false, false, false, false, false] rfl rfl (any_of HT_.out (by kernel_rfl)) (fun _ _ _ h => h) (Or.inr ⟨by rfl, rfl⟩) ?_ ?_
                   rotate_left
                   ·exact PU
                   refine pure_ (i := 17) (N := some 248) (v := undef) (a' := ?_) #[true, true, true, true, true, true, true, true, true, true, true, true, true, true, true, true, true, true, false, false, false, false, false] rfl rfl (any_of HT_.out (by kernel_rfl)) (fun _ _ _ h => h) (Or.inr ⟨by rfl, rfl⟩) ?_ ?_
                   rotate_left
                   ·exact PU
                   refine pure_ (i := 18) (N := some 249) (v := undef) (a' := ?_) #[true, true, true, true, true, true, true, true, true, true, true, true, true, true, true, true, true, true, true, false, false, false, false] rfl rfl (any_of HT_.out (by kernel_rfl)) (fun _ _ _ h => h) (Or.inr ⟨by rfl, rfl⟩) ?_ ?_
                   rotate_left
                   ·exact PU
                   refine pure_ (i := 19) (N := some 250) (v := undef) (a' := ?_) #[true, true, true, true, true, true, true, true, true, true, true, true, true, true, true, true, true, true, true, true, false, false, false] rfl rfl (any_of HT_.out (by kernel_rfl)) (fun _ _ _ h => h) (Or.inr ⟨by rfl, rfl⟩) ?_ ?_
                   rotate_left
                   ·exact PU
                   refine pure_ (i := 20) (N := some 251) (v := undef) (a' := ?_) #[true, true, true, true, true, true, true, true, true, true, true, true, true, true, true, true, true, true, true, true, true, false, false] rfl rfl (any_of HT_.out (by kernel_rfl)) (fun _ _ _ h => h) (Or.inr ⟨by rfl, rfl⟩) ?_ ?_
                   rotate_left
                   ·exact PU
                   refine pure_ (i := 21) (N := some 252) #[true, true, true, true, true, true, true, true, true, true, true, true, true, true, true, true, true, true, true, true, true, true, false] rfl rfl (any_of HT_.out (by kernel_rfl)) (fun _ _ _ h => h) (Or.inl ⟨by rfl, PW⟩) PU ?_
                   refine pure_ (i := 22) (N := some 253) #[true, true, true, true, true, true, true, true, true, true, true, true, true, true, true, true, true, true, true, true, true, true, true] rfl rfl (any_of HT_.out (by kernel_rfl)) (fun _ _ _ h => h) (Or.inl ⟨by rfl, PW⟩) PU ?_
                   refine done_ (done_of HT_.out (by kernel_rfl)) ?_
                   try go_wp2
                   go_roundg k3
                   case measure => have := HJ15.out; have := HJ44.out; have := HK3.out; omega
                   case rel => exact ⟨(Go.bits .or .i64 x29_3 (ji57)), (wrap64 (x222_3 + 1)), (by first | rfl | (simp; done) | (simp only [← hji57] <;> (first | rfl | simp)) | (simp [*]; done) | (simp [*, wrap64]; done)), RF, H', ⟨by have := HJ15.out; have := HJ44.out; have := HK3.out; omega⟩, ⟨KR HO_15⟩, ⟨KR HO_220⟩, ⟨BB⟩⟩
               ·rw [if_neg c56] at H
                cases H
              ·rw [if_neg c55] at H
               cases H
             ·rw [if_neg c54] at H
              cases H
            ·rw [if_neg c53] at H
             have c53b0 : decide (x222_3 < (t323.length : Int)) = false := decide_eq_false c53
             clear c53
             by_cases c69 : 0 ≤ t331
             ·rw [if_pos c69] at H
              have c69b0 := eq_true c69
              have c69b1 : decide (0 ≤ t331) = true := decide_eq_true c69
              clear c69
              obtain ⟨ji70, hji70⟩ : ∃ j_ : Int, (shl .i64 1 t331) = j_ := ⟨_, rfl⟩
              replace H : (if x29_3 = (wrap64 ((ji70) - 1)) then (laws_FnKneserColours.l1 k3 l1 t335 t347 t335 (t335.length : Int) 0) else (none)) = some r := by first | (rw [hji70] at H; exact H) | (simp only [hji70] at H ⊢; exact H)
              have hji70_ : (IntKind.i64.wrap (1 * 2 ^ min t331.toNat 64)) = ji70 := hji70
              have hji70z : t331 ≤ 64 → (IntKind.i64.wrap (1 * 2 ^ t331.toNat)) = ji70 := shl_small hji70
              have hji70u : (IntKind.i64.wrap (2 ^ min t331.toNat 64)) = ji70 := by have h_ := hji70_; rw [Int.one_mul] at h_; exact h_
              have hji70v : t331 ≤ 64 → (IntKind.i64.wrap (2 ^ t331.toNat)) = ji70 := fun hle_ => by have h_ := hji70z hle_; rw [Int.one_mul] at h_; exact h_
              have hji70y : (wrap64 (1 * 2 ^ min t331.toNat 64)) = ji70 := (i64_w _).symm.trans hji70_
              have hji70x : t331 ≤ 64 → (wrap64 (1 * 2 ^ t331.toNat)) = ji70 := fun h_ => (i64_w _).symm.trans (hji70z h_)
              by_cases c71 : x29_3 = (wrap64 ((ji70) - 1))
              ·rw [if_pos c71] at H
               have c71b0 : (x29_3 == (wrap64 ((ji70) - 1))) = true := beq_iff_eq.mpr c71
               have c71b1 : (x29_3 != (wrap64 ((ji70) - 1))) = false := bne_eq_false_iff_eq.mpr c71
               clear c71
               have H' := Aside0.mk H
               clear H
               obtain ⟨Ao72, co72, eo72⟩ := Kd.R_slice HO_15.out
               subst eo72
               go_wp2
               go_loopg [262] k3 (fun kq v262 w' => ∃ (x262_4 : Int), v262 = .int .i64 x262_4 ∧ Aside0 (laws_FnKneserColours.l1 kq l1 t335 t347 t335 (t335.length : Int) x262_4 = some r) ∧ Aside0 (kq ≤ k3) ∧ Aside0 (Kd.R (Kd.int .i64) 3 w' w.heap.size (fun _ => True) (.slice Ao72 t335.length co72) t335) ∧ Aside0 (Kd.R (Kd.int .i64) 3 w' w.heap.size (fun _ => True) (.slice Ao72 t335.length co72) t335) ∧ Aside0 (Below w.heap.size w w'))
               case atStart => exact ⟨(0), RF, H', ⟨Nat.le_refl _⟩, ⟨by (with_reducible repeat (first | apply Kd.R_alloc | apply Kd.R_drewN | apply Kd.R_drew)); exact Kd.R_mono HO_15.out (fun _ hk => trivial)⟩, ⟨by (with_reducible repeat (first | apply Kd.R_alloc | apply Kd.R_drewN | apply Kd.R_drew)); exact Kd.R_mono HO_15.out (fun _ hk => trivial)⟩, ⟨BB⟩⟩
               case round => as_aux_lemma =>
                clear H'
                try clear c1
                try clear c2
                try clear p2
                try clear c3
                try clear p3
                try clear q3
                try clear hx3
                try clear c4
                try clear c5
                try clear c6
                try clear p6
                try clear c7
                try clear c8
                try clear c9
                try clear c10
                try clear c11
                try clear c12
                try clear c13
                try clear c14
                try clear c15
                try clear c17
                try clear c22
                try clear c22b0
                try clear c22b1
                try clear c22b2
                try clear c24
                try clear c25
                try clear c25b0
                try clear c25b1
                try clear c25b2
                try clear c26
                try clear c26b0
                try clear c26b1
                try clear c27
                try clear c27b0
                try clear c27b1
                try clear c27b2
                try clear c29
                try clear c30
                try clear c30b0
                try clear c30b1
                try clear c30b2
                try clear c31
                try clear c31b0
                try clear c31b1
                try clear c32
                try clear c32b0
                try clear c32b1
                try clear c32b2
                try clear c33
                try clear c33b0
                try clear c33b1
                try clear c34
                try clear c34b0
                try clear c34b1
                try clear c34b2
                try clear c35
                try clear c35b0
                try clear c35b1
                try clear c35b2
                try clear p35
                try clear q35
                try clear hx35
                try clear c36
                try clear c36b0
                try clear c36b1
                try clear c36b2
                try clear c41
                try clear c43
                try clear c48
                try clear c49
                try clear c50
                try clear c50b0
                try clear c50b1
                try clear c52
                try clear c53
                try clear c53b0
                try clear c54
                try clear c54b0
                try clear c55
                try clear c55b0
                try clear c56
                try clear c56b0
                try clear c56b1
                try clear c58
                try clear c58b0
                try clear c59
                try clear c59b0
                try clear c60
                try clear c60b0
                try clear c62
                try clear c62b0
                try clear c63
                try clear c63b0
                try clear c64
                try clear c64b0
                try clear p64
                try clear c65
                try clear c65b0
                try clear c69
                try clear c69b0
                try clear c69b1
                try clear c71
                try clear c71b0
                try clear c71b1
                try clear hx355_0
                try clear hx356_0
                try clear hx357_0
                try clear p2
                try clear p355
                try clear p356
                try clear p357
                try clear p6
                try clear q355
                try clear q356
                try clear q357
                obtain ⟨x262_4, rfl, HA, HK4, HO_15, HO_260, HB⟩ := hrel
                cases gk with
                | zero => exact absurd HA.out (by simp [laws_FnKneserColours.l1])
                | succ k4 =>
                 have H := HA.out
                 clear HA
                 simp only [laws_FnKneserColours.l1] at H
                 by_cases c73 : x262_4 < (t335.length : Int)
                 ·rw [if_pos c73] at H
                  have c73b0 : decide (x262_4 < (t335.length : Int)) = true := decide_eq_true c73
                  clear c73
                  by_cases c74 : 0 ≤ x262_4
                  ·rw [if_pos c74] at H
                   have c74b0 : decide (0 ≤ x262_4) = true := decide_eq_true c74
                   clear c74
                   by_cases c75 : x262_4 < (t335.length : Int)
                   ·rw [if_pos c75] at H
                    have c75b0 : decide (x262_4 < (t335.length : Int)) = true := decide_eq_true c75
                    clear c75
                    have H' := Aside0.mk H
                    clear H
                    have p358 : 0 ≤ (x262_4 : Int) := of_decide_eq_true AS
                    have q358 : x262_4 < (t335.length : Int) := of_decide_eq_true AS
                    obtain ⟨ad358, e358, hx358_0⟩ := Kd.at_int (Kd.R_reads' HO_260.out).2.2 x262_4 p358 q358
                    cases e358
                    replace p358 := eq_true p358
                    replace q358 := eq_true q358
                    go_wp2
                    go_loopg [34, 268] k4 (fun kq v34 v268 w' => ∃ (x34_5 : Int) (x268_5 : Int), v34 = .int .i64 x34_5 ∧ v268 = .int .i64 x268_5 ∧ Aside0 (laws_FnKneserColours.l2 kq l1 t335 t347 (rd t335 x262_4) x34_5 t335 (t335.length : Int) x262_4 t335 (t335.length : Int) x268_5 = some r) ∧ Aside0 (kq ≤ k4) ∧ Aside0 (Kd.R (Kd.int .i64) 3 w' w.heap.size (fun _ => True) (.slice (some ad358) t335.length co72) t335) ∧ Aside0 (Kd.R (Kd.int .i64) 3 w' w.heap.size (fun _ => True) (.slice (some ad358) t335.length co72) t335) ∧ Aside0 (Kd.R (Kd.int .i64) 3 w' w.heap.size (fun _ => True) (.slice (some ad358) t335.length co72) t335) ∧ Aside0 (Below w.heap.size w w'))
                    case atStart => exact ⟨(0), (0), RF, RF, H', ⟨Nat.le_refl _⟩, ⟨KR HO_15⟩, ⟨KR HO_260⟩, ⟨KR HO_15⟩, ⟨BB⟩⟩
                    case round => as_aux_lemma =>
                     clear H'
                     try clear c1
                     try clear c2
                     try clear p2
                     try clear c3
                     try clear p3
                     try clear q3
                     try clear hx3
                     try clear c4
                     try clear c5
                     try clear c6
                     try clear p6
                     try clear c7
                     try clear c8
                     try clear c9
                     try clear c10
                     try clear c11
                     try clear c12
                     try clear c13
                     try clear c14
                     try clear c15
                     try clear c17
                     try clear c22
                     try clear c22b0
                     try clear c22b1
                     try clear c22b2
                     try clear c24
                     try clear c25
                     try clear c25b0
                     try clear c25b1
                     try clear c25b2
                     try clear c26
                     try clear c26b0
                     try clear c26b1
                     try clear c27
                     try clear c27b0
                     try clear c27b1
                     try clear c27b2
                     try clear c29
                     try clear c30
                     try clear c30b0
                     try clear c30b1
                     try clear c30b2
                     try clear c31
                     try clear c31b0
                     try clear c31b1
                     try clear c32
                     try clear c32b0
                     try clear c32b1
                     try clear c32b2
                     try clear c33
                     try clear c33b0
                     try clear c33b1
                     try clear c34
                     try clear c34b0
                     try clear c34b1
                     try clear c34b2
                     try clear c35
                     try clear c35b0
                     try clear c35b1
                     try clear c35b2
                     try clear p35
                     try clear q35
                     try clear hx35
                     try clear c36
                     try clear c36b0
                     try clear c36b1
                     try clear c36b2
                     try clear c41
                     try clear c43
                     try clear c48
                     try clear c49
                     try clear c50
                     try clear c50b0
                     try clear c50b1
                     try clear c52
                     try clear c53
                     try clear c53b0
                     try clear c54
                     try clear c54b0
                     try clear c55
                     try clear c55b0
                     try clear c56
                     try clear c56b0
                     try clear c56b1
                     try clear c58
                     try clear c58b0
                     try clear c59
                     try clear c59b0
                     try clear c60
                     try clear c60b0
                     try clear c62
                     try clear c62b0
                     try clear c63
                     try clear c63b0
                     try clear c64
                     try clear c64b0
                     try clear p64
                     try clear c65
                     try clear c65b0
                     try clear c69
                     try clear c69b0
                     try clear c69b1
                     try clear c71
                     try clear c71b0
                     try clear c71b1
                     try clear c73
                     try clear c73b0
                     try clear c74
                     try clear c74b0
                     try clear c75
                     try clear c75b0
                     try clear hx355_0
                     try clear hx356_0
                     try clear hx357_0
                     try clear hx358_0
                     try clear p2
                     try clear p3
                     try clear p35
                     try clear p355
                     try clear p356
                     try clear p357
                     try clear p358
                     try clear p6
                     try clear p64
                     try clear q3
                     try clear q35
                     try clear q355
                     try clear q356
                     try clear q357
                     try clear q358
                     obtain ⟨x34_5, x268_5, rfl, rfl, HA, HK5, HO_15, HO_260, HO_266, HB⟩ := hrel
                     cases gk with
                     | zero => exact absurd HA.out (by simp [laws_FnKneserColours.l2])
                     | succ k5 =>
                      have H := HA.out
                      clear HA
                      simp only [laws_FnKneserColours.l2] at H
                      by_cases c76 : x268_5 < (t335.length : Int)
                      ·rw [if_pos c76] at H
                       have c76b0 : decide (x268_5 < (t335.length : Int)) = true := decide_eq_true c76
                       clear c76
                       by_cases c77 : 0 ≤ x268_5
                       ·rw [if_pos c77] at H
                        have c77b0 : decide (0 ≤ x268_5) = true := decide_eq_true c77
                        clear c77
                        by_cases c78 : x268_5 < (t335.length : Int)
                        ·rw [if_pos c78] at H
                         have c78b0 : decide (x268_5 < (t335.length : Int)) = true := decide_eq_true c78
                         clear c78
                         obtain ⟨⟨t360, t361⟩, A790, H⟩ := Option.bind_eq_some_iff.mp H
                         replace H : (if t361 = true then (if t360 = true then (laws_FnKneserColours.l2 k5 l1 t335 t347 (rd t335 x262_4) (wrap64 (x34_5 + 1)) t335 (t335.length : Int) x262_4 t335 (t335.length : Int) (wrap64 (x268_5 + 1))) else (laws_FnKneserColours.l2 k5 l1 t335 t347 (rd t335 x262_4) x34_5 t335 (t335.length : Int) x262_4 t335 (t335.length : Int) (wrap64 (x268_5 + 1)))) else (none)) = some r := H
                         have A79 := Aside0.mk A790
                         clear A790
                         by_cases c80 : t361 = true
                         ·subst c80
                          replace H := IP H
                          by_cases c81 : t360 = true
                          ·subst c81
                           replace H := IP H
                           have H' := Aside0.mk H
                           clear H
                           have p359 : 0 ≤ (x268_5 : Int) := of_decide_eq_true AS
                           have q359 : x268_5 < (t335.length : Int) := of_decide_eq_true AS
                           obtain ⟨ad359, e359, hx359_0⟩ := Kd.at_int (Kd.R_reads' HO_266.out).2.2 x268_5 p359 q359
                           obtain rfl : ad358 = ad359 := (by injection e359)
                           replace p359 := eq_true p359
                           replace q359 := eq_true q359
                           go_wp2_with (first | ((with_reducible refine gate_callee (f := 18) rfl ?_); refine goesL_ (some 275) rfl rfl Tryd.func18 (by kernel_rfl) rfl #[.int .i64 (rd t335 x262_4), .int .i64 (rd t335 x268_5)] rfl TA ?_; (with_reducible refine (impl_AreApart.calls (rd t335 x262_4) (rd t335 x268_5) true true _ A79.out).mono ?_); rintro e w' ⟨rfl, ⟨nd, rfl⟩⟩; refine ⟨_, rfl, ?_⟩))
                           go_roundg k5
                           case measure => have := HJ15.out; have := HJ44.out; have := HK3.out; have := HK4.out; have := HK5.out; omega
                           case rel => exact ⟨(wrap64 (x34_5 + 1)), (wrap64 (x268_5 + 1)), RF, RF, H', ⟨by have := HJ15.out; have := HJ44.out; have := HK3.out; have := HK4.out; have := HK5.out; omega⟩, ⟨KR HO_15⟩, ⟨KR HO_260⟩, ⟨KR HO_266⟩, ⟨BB⟩⟩
                          ·replace c81 := Bool.eq_false_iff.mpr c81
                           subst c81
                           replace H := IN H
                           have H' := Aside0.mk H
                           clear H
                           have p359 : 0 ≤ (x268_5 : Int) := of_decide_eq_true AS
                           have q359 : x268_5 < (t335.length : Int) := of_decide_eq_true AS
                           obtain ⟨ad359, e359, hx359_0⟩ := Kd.at_int (Kd.R_reads' HO_266.out).2.2 x268_5 p359 q359
                           obtain rfl : ad358 = ad359 := (by injection e359)
                           replace p359 := eq_true p359
                           replace q359 := eq_true q359
                           go_wp2_with (first | ((with_reducible refine gate_callee (f := 18) rfl ?_); refine goesL_ (some 275) rfl rfl Tryd.func18 (by kernel_rfl) rfl #[.int .i64 (rd t335 x262_4), .int .i64 (rd t335 x268_5)] rfl TA ?_; (with_reducible refine (impl_AreApart.calls (rd t335 x262_4) (rd t335 x268_5) false true _ A79.out).mono ?_); rintro e w' ⟨rfl, ⟨nd, rfl⟩⟩; refine ⟨_, rfl, ?_⟩))
                           go_roundg k5
                           case measure => have := HJ15.out; have := HJ44.out; have := HK3.out; have := HK4.out; have := HK5.out; omega
                           case rel => exact ⟨(x34_5), (wrap64 (x268_5 + 1)), RF, RF, H', ⟨by have := HJ15.out; have := HJ44.out; have := HK3.out; have := HK4.out; have := HK5.out; omega⟩, ⟨KR HO_15⟩, ⟨KR HO_260⟩, ⟨KR HO_266⟩, ⟨BB⟩⟩
                         ·replace c80 := Bool.eq_false_iff.mpr c80
                          subst c80
                          replace H := IN H
                          cases H
                        ·rw [if_neg c78] at H
                         cases H
                       ·rw [if_neg c77] at H
                        cases H
                      ·rw [if_neg c76] at H
                       have c76b0 : decide (x268_5 < (t335.length : Int)) = false := decide_eq_false c76
                       clear c76
                       by_cases c82 : x34_5 = t347
                       ·rw [if_pos c82] at H
                        have c82b0 : (x34_5 == t347) = true := beq_iff_eq.mpr c82
                        have c82b1 : (x34_5 != t347) = false := bne_eq_false_iff_eq.mpr c82
                        clear c82
                        have H' := Aside0.mk H
                        clear H
                        go_wp2
                        go_roundg k5
                        case measure => have := HJ15.out; have := HJ44.out; have := HK3.out; have := HK4.out; have := HK5.out; omega
                        case rel => exact ⟨(wrap64 (x262_4 + 1)), RF, H', ⟨by have := HJ15.out; have := HJ44.out; have := HK3.out; have := HK4.out; have := HK5.out; omega⟩, ⟨KR HO_15⟩, ⟨KR HO_260⟩, ⟨BB⟩⟩
                       ·rw [if_neg c82] at H
                        cases H
                   ·rw [if_neg c75] at H
                    cases H
                  ·rw [if_neg c74] at H
                   cases H
                 ·rw [if_neg c73] at H
                  have c73b0 : decide (x262_4 < (t335.length : Int)) = false := decide_eq_false c73
                  clear c73
                  have H' := Aside0.mk H
                  clear H
                  go_wp2
                  go_meet
                  case rel => exact ⟨_, H', ⟨by have := HJ15.out; have := HJ44.out; have := HK3.out; have := HK4.out; first | omega | exact Nat.le_refl _⟩, ⟨BB⟩⟩
              ·rw [if_neg c71] at H
               cases H
             ·rw [if_neg c69] at H
              cases H
      ·replace c43 := Bool.eq_false_iff.mpr c43
       subst c43
       replace H := IN H
       have H' := Aside0.mk H
       clear H
       go_wp2
       go_meet
       case rel => exact ⟨_, H', ⟨by have := HJ15.out; first | omega | exact Nat.le_refl _⟩, ⟨BB⟩⟩
     case rest => as_aux_lemma =>
      clear HC42
      try clear c1
      try clear c2
      try clear p2
      try clear c3
      try clear p3
      try clear q3
      try clear hx3
      try clear c4
      try clear c5
      try clear c6
      try clear p6
      try clear c7
      try clear c8
      try clear c9
      try clear c10
      try clear c11
      try clear c12
      try clear c13
      try clear c14
      try clear c15
      try clear c17
      try clear c18
      try clear c22
      try clear c22b0
      try clear c22b1
      try clear c22b2
      try clear c24
      try clear c25
      try clear c25b0
      try clear c25b1
      try clear c25b2
      try clear c26
      try clear c26b0
      try clear c26b1
      try clear c27
      try clear c27b0
      try clear c27b1
      try clear c27b2
      try clear c29
      try clear c30
      try clear c30b0
      try clear c30b1
      try clear c30b2
      try clear c31
      try clear c31b0
      try clear c31b1
      try clear c32
      try clear c32b0
      try clear c32b1
      try clear c32b2
      try clear c33
      try clear c33b0
      try clear c33b1
      try clear c34
      try clear c34b0
      try clear c34b1
      try clear c34b2
      try clear c35
      try clear c35b0
      try clear c35b1
      try clear c35b2
      try clear p35
      try clear q35
      try clear hx35
      try clear c36
      try clear c36b0
      try clear c36b1
      try clear c36b2
      try clear c41
      try clear c43
      try clear c48
      try clear c49
      try clear c50
      try clear c50b0
      try clear c50b1
      try clear c52
      try clear c53
      try clear c53b0
      try clear c54
      try clear c54b0
      try clear c55
      try clear c55b0
      try clear c56
      try clear c56b0
      try clear c56b1
      try clear c58
      try clear c58b0
      try clear c59
      try clear c59b0
      try clear c60
      try clear c60b0
      try clear c62
      try clear c62b0
      try clear c63
      try clear c63b0
      try clear c64
      try clear c64b0
      try clear p64
      try clear c65
      try clear c65b0
      try clear c69
      try clear c69b0
      try clear c69b1
      try clear c71
      try clear c71b0
      try clear c71b1
      try clear c73
      try clear c73b0
      try clear c74
      try clear c74b0
      try clear c75
      try clear c75b0
      try clear c76
      try clear c76b0
      try clear c77
      try clear c77b0
      try clear c78
      try clear c78b0
      try clear c80
      try clear c81
      try clear c82
      try clear c82b0
      try clear c82b1
      try clear hx355_0
      try clear hx356_0
      try clear hx357_0
      try clear hx358_0
      try clear hx359_0
      try clear p2
      try clear p3
      try clear p35
      try clear p355
      try clear p356
      try clear p357
      try clear p358
      try clear p359
      try clear p6
      try clear p64
      try clear q3
      try clear q35
      try clear q355
      try clear q356
      try clear q357
      try clear q358
      try clear q359
      obtain ⟨kq, HA, HJ41, HB⟩ := hcut
      cases kq with
      | zero => exact absurd HA.out (by simp [laws_FnKneserColours.j5])
      | succ kj41 =>
       have H := HA.out
       clear HA
       simp only [laws_FnKneserColours.j5] at H
       obtain ⟨⟨t362, t363, t364⟩, A830, H⟩ := Option.bind_eq_some_iff.mp H
       replace H : ((impl_FirstApart.f kj41 t362 t363 t364).bind fun bt367 => ((spec_FirstApart.f kj41 t362 t363 t364).bind fun bt371 => ((impl_IsColouring.f kj41 t362 t363 t364).bind fun bt375 => ((spec_IsColouring.f kj41 t362 t363 t364).bind fun bt377 => ((spec_DrawAreApart.f l1).bind fun bt379 => ((impl_AreApart.f bt379.1 bt379.2).bind fun bt381 => ((spec_AreApart.f bt379.1 bt379.2).bind fun bt383 => (if (bt367.2 == bt371.2) = true then ((laws_uSame.f kj41 bt367.1 bt371.1).bind fun t385 => (if t385 = true then (if (bt375.2 == bt377.2) = true then (if (bt375.1 == bt377.1) = true then (if (bt381.2 == bt383.2) = true then (if (bt381.1 == bt383.1) = true then (if bt367.2 = true then (if bt375.1 = true then (none) else (if 0 < (bt367.1.length : Int) then (if 1 < (bt367.1.length : Int) then (some ((Go.bits .and .i64 (rd bt367.1 0) (rd bt367.1 1)) == 0)) else (none)) else (none))) else (some true)) else (none)) else (none)) else (none)) else (none)) else (none))) else (none))))))))) = some r := H
       have A83 := Aside0.mk A830
       clear A830
       obtain ⟨⟨t367, t368⟩, A840, H⟩ := Option.bind_eq_some_iff.mp H
       replace H : ((spec_FirstApart.f kj41 t362 t363 t364).bind fun bt371 => ((impl_IsColouring.f kj41 t362 t363 t364).bind fun bt375 => ((spec_IsColouring.f kj41 t362 t363 t364).bind fun bt377 => ((spec_DrawAreApart.f l1).bind fun bt379 => ((impl_AreApart.f bt379.1 bt379.2).bind fun bt381 => ((spec_AreApart.f bt379.1 bt379.2).bind fun bt383 => (if (t368 == bt371.2) = true then ((laws_uSame.f kj41 t367 bt371.1).bind fun t385 => (if t385 = true then (if (bt375.2 == bt377.2) = true then (if (bt375.1 == bt377.1) = true then (if (bt381.2 == bt383.2) = true then (if (bt381.1 == bt383.1) = true then (if t368 = true then (if bt375.1 = true then (none) else (if 0 < (t367.length : Int) then (if 1 < (t367.length : Int) then (some ((Go.bits .and .i64 (rd t367 0) (rd t367 1)) == 0)) else (none)) else (none))) else (some true)) else (none)) else (none)) else (none)) else (none)) else (none))) else (none)))))))) = some r := H
       have A84 := Aside0.mk A840
       clear A840
       obtain ⟨⟨t371, t372⟩, A850, H⟩ := Option.bind_eq_some_iff.mp H
       replace H : ((impl_IsColouring.f kj41 t362 t363 t364).bind fun bt375 => ((spec_IsColouring.f kj41 t362 t363 t364).bind fun bt377 => ((spec_DrawAreApart.f l1).bind fun bt379 => ((impl_AreApart.f bt379.1 bt379.2).bind fun bt381 => ((spec_AreApart.f bt379.1 bt379.2).bind fun bt383 => (if (t368 == t372) = true then ((laws_uSame.f kj41 t367 t371).bind fun t385 => (if t385 = true then (if (bt375.2 == bt377.2) = true then (if (bt375.1 == bt377.1) = true then (if (bt381.2 == bt383.2) = true then (if (bt381.1 == bt383.1) = true then (if t368 = true then (if bt375.1 = true then (none) else (if 0 < (t367.length : Int) then (if 1 < (t367.length : Int) then (some ((Go.bits .and .i64 (rd t367 0) (rd t367 1)) == 0)) else (none)) else (none))) else (some true)) else (none)) else (none)) else (none)) else (none)) else (none))) else (none))))))) = some r := H
       have A85 := Aside0.mk A850
       clear A850
       obtain ⟨⟨t375, t376⟩, A860, H⟩ := Option.bind_eq_some_iff.mp H
       replace H : ((spec_IsColouring.f kj41 t362 t363 t364).bind fun bt377 => ((spec_DrawAreApart.f l1).bind fun bt379 => ((impl_AreApart.f bt379.1 bt379.2).bind fun bt381 => ((spec_AreApart.f bt379.1 bt379.2).bind fun bt383 => (if (t368 == t372) = true then ((laws_uSame.f kj41 t367 t371).bind fun t385 => (if t385 = true then (if (t376 == bt377.2) = true then (if (t375 == bt377.1) = true then (if (bt381.2 == bt383.2) = true then (if (bt381.1 == bt383.1) = true then (if t368 = true then (if t375 = true then (none) else (if 0 < (t367.length : Int) then (if 1 < (t367.length : Int) then (some ((Go.bits .and .i64 (rd t367 0) (rd t367 1)) == 0)) else (none)) else (none))) else (some true)) else (none)) else (none)) else (none)) else (none)) else (none))) else (none)))))) = some r := H
       have A86 := Aside0.mk A860
       clear A860
       obtain ⟨⟨t377, t378⟩, A870, H⟩ := Option.bind_eq_some_iff.mp H
       replace H : ((spec_DrawAreApart.f l1).bind fun bt379 => ((impl_AreApart.f bt379.1 bt379.2).bind fun bt381 => ((spec_AreApart.f bt379.1 bt379.2).bind fun bt383 => (if (t368 == t372) = true then ((laws_uSame.f kj41 t367 t371).bind fun t385 => (if t385 = true then (if (t376 == t378) = true then (if (t375 == t377) = true then (if (bt381.2 == bt383.2) = true then (if (bt381.1 == bt383.1) = true then (if t368 = true then (if t375 = true then (none) else (if 0 < (t367.length : Int) then (if 1 < (t367.length : Int) then (some ((Go.bits .and .i64 (rd t367 0) (rd t367 1)) == 0)) else (none)) else (none))) else (some true)) else (none)) else (none)) else (none)) else (none)) else (none))) else (none))))) = some r := H
       have A87 := Aside0.mk A870
       clear A870
       obtain ⟨⟨t379, t380⟩, A880, H⟩ := Option.bind_eq_some_iff.mp H
       replace H : ((impl_AreApart.f t379 t380).bind fun bt381 => ((spec_AreApart.f t379 t380).bind fun bt383 => (if (t368 == t372) = true then ((laws_uSame.f kj41 t367 t371).bind fun t385 => (if t385 = true then (if (t376 == t378) = true then (if (t375 == t377) = true then (if (bt381.2 == bt383.2) = true then (if (bt381.1 == bt383.1) = true then (if t368 = true then (if t375 = true then (none) else (if 0 < (t367.length : Int) then (if 1 < (t367.length : Int) then (some ((Go.bits .and .i64 (rd t367 0) (rd t367 1)) == 0)) else (none)) else (none))) else (some true)) else (none)) else (none)) else (none)) else (none)) else (none))) else (none)))) = some r := H
       have A88 := Aside0.mk A880
       clear A880
       obtain ⟨⟨t381, t382⟩, A890, H⟩ := Option.bind_eq_some_iff.mp H
       replace H : ((spec_AreApart.f t379 t380).bind fun bt383 => (if (t368 == t372) = true then ((laws_uSame.f kj41 t367 t371).bind fun t385 => (if t385 = true then (if (t376 == t378) = true then (if (t375 == t377) = true then (if (t382 == bt383.2) = true then (if (t381 == bt383.1) = true then (if t368 = true then (if t375 = true then (none) else (if 0 < (t367.length : Int) then (if 1 < (t367.length : Int) then (some ((Go.bits .and .i64 (rd t367 0) (rd t367 1)) == 0)) else (none)) else (none))) else (some true)) else (none)) else (none)) else (none)) else (none)) else (none))) else (none))) = some r := H
       have A89 := Aside0.mk A890
       clear A890
       obtain ⟨⟨t383, t384⟩, A900, H⟩ := Option.bind_eq_some_iff.mp H
       replace H : (if (t368 == t372) = true then ((laws_uSame.f kj41 t367 t371).bind fun t385 => (if t385 = true then (if (t376 == t378) = true then (if (t375 == t377) = true then (if (t382 == t384) = true then (if (t381 == t383) = true then (if t368 = true then (if t375 = true then (none) else (if 0 < (t367.length : Int) then (if 1 < (t367.length : Int) then (some ((Go.bits .and .i64 (rd t367 0) (rd t367 1)) == 0)) else (none)) else (none))) else (some true)) else (none)) else (none)) else (none)) else (none)) else (none))) else (none)) = some r := H
       have A90 := Aside0.mk A900
       clear A900
       by_cases c91 : (t368 == t372) = true
       ·rw [if_pos c91] at H
        have c91b0 : (t368 == t372) = true := c91
        (try (have c91b1 : decide (t368 = t372) = true := by simpa using c91))
        (try (have c91b2 : (t368 == t372) = true := by simpa using c91))
        clear c91
        obtain ⟨t385, A920, H⟩ := Option.bind_eq_some_iff.mp H
        have A92 := Aside0.mk A920
        clear A920
        by_cases c93 : t385 = true
        ·subst c93
         replace H := IP H
         by_cases c94 : (t376 == t378) = true
         ·rw [if_pos c94] at H
          have c94b0 : (t376 == t378) = true := c94
          (try (have c94b1 : decide (t376 = t378) = true := by simpa using c94))
          (try (have c94b2 : (t376 == t378) = true := by simpa using c94))
          clear c94
          by_cases c95 : (t375 == t377) = true
          ·rw [if_pos c95] at H
           have c95b0 : (t375 == t377) = true := c95
           (try (have c95b1 : decide (t375 = t377) = true := by simpa using c95))
           (try (have c95b2 : (t375 == t377) = true := by simpa using c95))
           clear c95
           by_cases c96 : (t382 == t384) = true
           ·rw [if_pos c96] at H
            have c96b0 : (t382 == t384) = true := c96
            (try (have c96b1 : decide (t382 = t384) = true := by simpa using c96))
            (try (have c96b2 : (t382 == t384) = true := by simpa using c96))
            clear c96
            by_cases c97 : (t381 == t383) = true
            ·rw [if_pos c97] at H
             have c97b0 : (t381 == t383) = true := c97
             (try (have c97b1 : decide (t381 = t383) = true := by simpa using c97))
             (try (have c97b2 : (t381 == t383) = true := by simpa using c97))
             clear c97
             by_cases c98 : t368 = true
             ·subst c98
              replace H := IP H
              by_cases c99 : t375 = true
              ·subst c99
               replace H := IP H
               cases H
              ·replace c99 := Bool.eq_false_iff.mpr c99
               subst c99
               replace H := IN H
               by_cases c100 : 0 < (t367.length : Int)
               ·rw [if_pos c100] at H
                have c100b0 : decide (0 < (t367.length : Int)) = true := decide_eq_true c100
                have c100b1 : decide (0 < t367.length) = true := decide_eq_true (by omega)
                clear c100
                by_cases c101 : 1 < (t367.length : Int)
                ·rw [if_pos c101] at H
                 have c101b0 : decide (1 < (t367.length : Int)) = true := decide_eq_true c101
                 have c101b1 : decide (1 < t367.length) = true := decide_eq_true (by omega)
                 clear c101
                 obtain rfl := Option.some.inj H
                 try go_wp2_with (first | ((with_reducible refine gate_callee (f := 19) rfl ?_); refine goesL_ (some 290) rfl rfl Tryd.func19 (by kernel_rfl) rfl #[.slice A1 l1.length c1] rfl TA ?_; (with_reducible refine (spec_DrawFirstApart.calls kj41 _ _ l1 t362 t363 t364 _ ?side1 ?side2 A83.out).mono ?_); (case side1 => exact CW (Kd.C_below HR1.out HB.out)); (case side2 => exact HC1.out); rintro e w102 ⟨v365, rfl, ho0, hb⟩; refine ⟨_, rfl, ?_⟩; have n0_ := Aside0.mk (Kd.R_lower ho0 (below_size BB)); have n1_ := Aside0.mk (below_step BB hb); clear HB; have HO366 := n0_; have HB := n1_; clear n0_ n1_; (try clear hb); (try clear hb2); (try clear hk); (try clear hi); (try clear ho0); obtain ⟨Ao103, co103, eo103⟩ := Kd.R_slice HO366.out; subst eo103) | ((with_reducible refine gate_callee (f := 20) rfl ?_); refine goesL_ (some 298) rfl rfl Tryd.func20 (by kernel_rfl) rfl #[.int .i64 t362, .int .i64 t363, .slice Ao103 t364.length co103] rfl TA ?_; (with_reducible refine (impl_FirstApart.calls kj41 t362 t363 _ _ t364 t367 true _ ?side1 ?side2 A84.out).mono ?_); (case side1 => exact CW (Kd.R_reads' HO366.out).2.2); (case side2 => exact (Kd.R_reads' HO366.out).2.1); rintro e w104 ⟨v369, rfl, ho0, hb⟩; refine ⟨_, rfl, ?_⟩; have n0_ := Aside0.mk (Kd.R_elder' (KR HO366) (Kd.R_base ho0) hb); have n1_ := Aside0.mk (Kd.R_lower (Kd.R_new' ho0 (Kd.R_lt (KR HO366))) (below_size BB)); have n2_ := Aside0.mk (below_step BB hb); clear HO366; clear HB; have HO366 := n0_; have HO370 := n1_; have HB := n2_; clear n0_ n1_ n2_; (try clear hb); (try clear hb2); (try clear hk); (try clear hi); (try clear ho0)) | ((with_reducible refine gate_callee (f := 21) rfl ?_); refine goesL_ (some 305) rfl rfl Tryd.func21 (by kernel_rfl) rfl #[.int .i64 t362, .int .i64 t363, .slice Ao103 t364.length co103] rfl TA ?_; (with_reducible refine (spec_FirstApart.calls kj41 t362 t363 _ _ t364 t371 t372 _ ?side1 ?side2 A85.out).mono ?_); (case side1 => exact CW (Kd.R_reads' HO366.out).2.2); (case side2 => exact (Kd.R_reads' HO366.out).2.1); rintro e w105 ⟨v373, rfl, ho0, hb⟩; refine ⟨_, rfl, ?_⟩; have n0_ := Aside0.mk (Kd.R_elder' (KR HO366) (Kd.R_base ho0) hb); have n1_ := Aside0.mk (Kd.R_elder' (KR HO370) (Kd.R_base ho0) hb); have n2_ := Aside0.mk (Kd.R_lower (Kd.R_new' (Kd.R_new' ho0 (Kd.R_lt (KR HO366))) (Kd.R_lt (KR HO370))) (below_size BB)); have n3_ := Aside0.mk (below_step BB hb); clear HO366; clear HO370; clear HB; have HO366 := n0_; have HO370 := n1_; have HO374 := n2_; have HB := n3_; clear n0_ n1_ n2_ n3_; (try clear hb); (try clear hb2); (try clear hk); (try clear hi); (try clear ho0)) | ((with_reducible refine gate_callee (f := 17) rfl ?_); refine goesL_ (some 312) rfl rfl Tryd.func17 (by kernel_rfl) rfl #[.int .i64 t362, .int .i64 t363, .slice Ao103 t364.length co103] rfl TA ?_; (with_reducible refine (impl_IsColouring.calls kj41 t362 t363 _ _ t364 false t376 _ ?side1 ?side2 A86.out).mono ?_); (case side1 => exact CW (Kd.R_reads' HO366.out).2.2); (case side2 => exact (Kd.R_reads' HO366.out).2.1); rintro e w106 ⟨rfl, hb⟩; refine ⟨_, rfl, ?_⟩; have n0_ := Aside0.mk (Kd.R_below (KR HO366) hb); have n1_ := Aside0.mk (Kd.R_below (KR HO370) hb); have n2_ := Aside0.mk (Kd.R_below (KR HO374) hb); have n3_ := Aside0.mk (below_step BB hb); clear HO366; clear HO370; clear HO374; clear HB; have HO366 := n0_; have HO370 := n1_; have HO374 := n2_; have HB := n3_; clear n0_ n1_ n2_ n3_; (try clear hb); (try clear hb2); (try clear hk); (try clear hi)) | ((with_reducible refine gate_callee (f := 22) rfl ?_); refine goesL_ (some 319) rfl rfl Tryd.func22 (by kernel_rfl) rfl #[.int .i64 t362, .int .i64 t363, .slice Ao103 t364.length co103] rfl TA ?_; (with_reducible refine (spec_IsColouring.calls kj41 t362 t363 _ _ t364 t377 t378 _ ?side1 ?side2 A87.out).mono ?_); (case side1 => exact CW (Kd.R_reads' HO366.out).2.2); (case side2 => exact (Kd.R_reads' HO366.out).2.1); rintro e w107 ⟨rfl, hb⟩; refine ⟨_, rfl, ?_⟩; have n0_ := Aside0.mk (Kd.R_below (KR HO366) hb); have n1_ := Aside0.mk (Kd.R_below (KR HO370) hb); have n2_ := Aside0.mk (Kd.R_below (KR HO374) hb); have n3_ := Aside0.mk (below_step BB hb); clear HO366; clear HO370; clear HO374; clear HB; have HO366 := n0_; have HO370 := n1_; have HO374 := n2_; have HB := n3_; clear n0_ n1_ n2_ n3_; (try clear hb); (try clear hb2); (try clear hk); (try clear hi)) | ((with_reducible refine gate_callee (f := 23) rfl ?_); refine goesL_ (some 324) rfl rfl Tryd.func23 (by kernel_rfl) rfl #[.slice A1 l1.length c1] rfl TA ?_; (with_reducible refine (spec_DrawAreApart.calls _ _ l1 t379 t380 _ ?side1 ?side2 A88.out).mono ?_); (case side1 => exact CW (Kd.C_below HR1.out HB.out)); (case side2 => exact HC1.out); rintro e w108 ⟨rfl, hb⟩; refine ⟨_, rfl, ?_⟩; have n0_ := Aside0.mk (Kd.R_below (KR HO366) hb); have n1_ := Aside0.mk (Kd.R_below (KR HO370) hb); have n2_ := Aside0.mk (Kd.R_below (KR HO374) hb); have n3_ := Aside0.mk (below_step BB hb); clear HO366; clear HO370; clear HO374; clear HB; have HO366 := n0_; have HO370 := n1_; have HO374 := n2_; have HB := n3_; clear n0_ n1_ n2_ n3_; (try clear hb); (try clear hb2); (try clear hk); (try clear hi)) | ((with_reducible refine gate_callee (f := 18) rfl ?_); refine goesL_ (some 330) rfl rfl Tryd.func18 (by kernel_rfl) rfl #[.int .i64 t379, .int .i64 t380] rfl TA ?_; (with_reducible refine (impl_AreApart.calls t379 t380 t381 t382 _ A89.out).mono ?_); rintro e w' ⟨rfl, ⟨nd, rfl⟩⟩; refine ⟨_, rfl, ?_⟩) | ((with_reducible refine gate_callee (f := 24) rfl ?_); refine goesL_ (some 336) rfl rfl Tryd.func24 (by kernel_rfl) rfl #[.int .i64 t379, .int .i64 t380] rfl TA ?_; (with_reducible refine (spec_AreApart.calls t379 t380 t383 t384 _ A90.out).mono ?_); rintro e w' ⟨rfl, ⟨nd, rfl⟩⟩; refine ⟨_, rfl, ?_⟩))
                 (try (rw [drewN_self w108]; generalize hq_ : World.drewN w108 _ = w108; have n0_ : Aside0 (Kd.R (Kd.int .i64) 3 w108 w.heap.size (fun k_ => some k_ ≠ (v369 : Value).ownBlock ∧ some k_ ≠ (v373 : Value).ownBlock) (.slice Ao103 t364.length co103) t364) := ⟨by rw [← hq_]; exact (by (with_reducible repeat (first | apply Kd.R_alloc | apply Kd.R_drewN | apply Kd.R_drew)); exact Kd.R_mono HO366.out (fun _ hk => ⟨hk.1.2, hk.2⟩))⟩; have n1_ : Aside0 (Kd.R (Kd.int .i64) 3 w108 w.heap.size (fun k_ => some k_ ≠ (.slice Ao103 t364.length co103 : Value).ownBlock ∧ some k_ ≠ (v373 : Value).ownBlock) v369 t367) := ⟨by rw [← hq_]; exact (by (with_reducible repeat (first | apply Kd.R_alloc | apply Kd.R_drewN | apply Kd.R_drew)); exact Kd.R_mono HO370.out (fun _ hk => ⟨hk.1.2, hk.2⟩))⟩; have n2_ : Aside0 (Kd.R (Kd.int .i64) 3 w108 w.heap.size (fun k_ => some k_ ≠ (.slice Ao103 t364.length co103 : Value).ownBlock ∧ some k_ ≠ (v369 : Value).ownBlock) v373 t371) := ⟨by rw [← hq_]; exact (by (with_reducible repeat (first | apply Kd.R_alloc | apply Kd.R_drewN | apply Kd.R_drew)); exact Kd.R_mono HO374.out (fun _ hk => ⟨hk.1.2, hk.2⟩))⟩; have n3_ : Aside0 (Below w.heap.size w w108) := ⟨by rw [← hq_]; exact BB⟩; clear HO366 HO370 HO374 HB hq_; have HO366 := n0_; have HO370 := n1_; have HO374 := n2_; have HB := n3_; clear n0_ n1_ n2_ n3_))
                 have n0_ := Aside0.mk (Kd.R_drew HO366.out)
                 have n1_ := Aside0.mk (Kd.R_drew HO370.out)
                 have n2_ := Aside0.mk (Kd.R_drew HO374.out)
                 have n3_ := Aside0.mk (below_drew1 HB.out)
                 clear HO366
                 clear HO370
                 clear HO374
                 clear HB
                 have HO366 := n0_
                 have HO370 := n1_
                 have HO374 := n2_
                 have HB := n3_
                 clear n0_ n1_ n2_ n3_
                 obtain ⟨Ao110, co110, eo110⟩ := Kd.R_slice HO370.out
                 (first | subst eo110 | (injection eo110 with f1_ f2_ f3_; have f4_ := f1_.symm; have f5_ := f3_.symm; clear f1_ f2_ f3_; subst f4_; subst f5_))
                 obtain ⟨Ao111, co111, eo111⟩ := Kd.R_slice HO374.out
                 (first | subst eo111 | (injection eo111 with f1_ f2_ f3_; have f4_ := f1_.symm; have f5_ := f3_.symm; clear f1_ f2_ f3_; subst f4_; subst f5_))
                 have p386 : 0 ≤ (0 : Int) := (by omega)
                 have q386 : 0 < (t367.length : Int) := of_decide_eq_true AS
                 obtain ⟨ad386, e386, hx386_0⟩ := Kd.at_int (Kd.R_reads' HO370.out).2.2 0 p386 q386
                 cases e386
                 have qi386 : (0 < t367.length) = True := eq_true (by omega)
                 (try rw [show ((0 : Int)).toNat = 0 from rfl] at hx386_0)
                 (try rw [Addr.add_zero'] at hx386_0)
                 replace p386 := eq_true p386
                 replace q386 := eq_true q386
                 have p387 : 0 ≤ (1 : Int) := (by omega)
                 have q387 : 1 < (t367.length : Int) := of_decide_eq_true AS
                 obtain ⟨ad387, e387, hx387_0⟩ := Kd.at_int (Kd.R_reads' HO370.out).2.2 1 p387 q387
                 obtain rfl : ad386 = ad387 := (by injection e387)
                 (try simp only [show (1 : Int).toNat = 1 from rfl, Nat.reduceMul, Nat.reduceEqDiff, Go.Addr.add, ↓reduceIte] at hx387_0)
                 have qi387 : (1 < t367.length) = True := eq_true (by omega)
                 (try rw [show ((1 : Int)).toNat = 1 from rfl] at hx387_0)
                 replace p387 := eq_true p387
                 replace q387 := eq_true q387
                 refine start_ (n := 47) (S := fun w' => w'.cell? ad386 = some (.int .i64 (rd t367 0)) ∧ w'.cell? ⟨ad386.block, ad386.off + 1, none⟩ = some (.int .i64 (rd t367 1))) (ds := []) #[false, false, false, false, false, false, false, false, false, false, false, false, false, false, false, false, false, false, false, false, false, false, false, false, false, false, false, false, false, false, false, false, false, false, false, false, false, false, false, false, false, false, false, false, false, false, false] (by kernel_rfl) rfl rfl ⟨hx386_0, hx387_0⟩ (fun hHeld => ?_); refine with_tabW laws_FnKneserColours.tab54 laws_FnKneserColours.bits54 (fun HT_ HW_ => ?_)
                 generalize w108.drew = w109 at HO366 HO370 HO374 HB hx386_0 hx387_0 hHeld ⊢
                 refine pure_ (i := 0) (N := some 339) #[true, false, false, false, false, false, false, false, false, false, false, false, false, false, false, false, false, false, false, false, false, false, false, false, false, false, false, false, false, false, false, false, false, false, false, false, false, false, false, false, false, false, false, false, false, false, false] rfl rfl (any_of HT_.out (by kernel_rfl)) (fun _ _ _ h => h) (Or.inl ⟨by rfl, PW⟩) PU ?_
                 refine pure_ (i := 1) (N := some 340) #[true, true, false, false, false, false, false, false, false, false, false, false, false, false, false, false, false, false, false, false, false, false, false, false, false, false, false, false, false, false, false, false, false, false, false, false, false, false, false, false, false, false, false, false, false, false, false] rfl rfl (any_of HT_.out (by kernel_rfl)) (fun _ _ _ h => h) (Or.inl ⟨by rfl, PW⟩) PU ?_
                 refine pure_ (i := 2) (N := some 341) #[true, true, true, false, false, false, false, false, false, false, false, false, false, false, false, false, false, false, false, false, false, false, false, false, false, false, false, false, false, false, false, false, false, false, false, false, false, false, false, false, false, false, false, false, false, false, false] rfl rfl (any_of HT_.out (by kernel_rfl)) (fun _ _ _ h => h) (Or.inl ⟨by rfl, PW⟩) PU ?_
                 refine pure_ (i := 3) (N := some 342) #[true, true, true, true, false, false, false, false, false, false, false, false, false, false, false, false, false, false, false, false, false, false, false, false, false, false, false, false, false, false, false, false, false, false, false, false, false, false, false, false, false, false, false, false, false, false, false] rfl rfl (any_of HT_.out (by kernel_rfl)) (fun _ _ _ h => h) (Or.inl ⟨by rfl, PW⟩) PU ?_
                 refine pure_ (i := 4) (N := some 343) #[true, true, true, true, true, false, false, false, false, false, false, false, false, false, false, false, false, false, false, false, false, false, false, false, false, false, false, false, false, false, false, false, false, false, false, false, false, false, false, false, false, false, false, false, false, false, false] rfl rfl (any_of HT_.out (by kernel_rfl)) (fun _ _ _ h => h) (Or.inl ⟨by rfl, PW⟩) PU ?_
                 refine pure_ (i := 5) (N := some 344) #[true, true, true, true, true, true, false, false, false, false, false, false, false, false, false, false, false, false, false, false, false, false, false, false, false, false, false, false, false, false, false, false, false, false, false, false, false, false, false, false, false, false, false, false, false, false, false] rfl rfl (any_of HT_.out (by kernel_rfl)) (fun _ _ _ h => h) (Or.inl ⟨by rfl, PW⟩) PU ?_
                 refine one_ (i := 6) (N := some 345) #[true, true, true, true, true, true, true, false, false, false, false, false, false, false, false, false, false, false, false, false, false, false, false, false, false, false, false, false, false, false, false, false, false, false, false, false, false, false, false, false, false, false, false, false, false, false, false] rfl rfl (one_of HT_.out (by kernel_rfl)) (by decide) (fun K hK => ?_)
                 refine goes_ Tryd.func16 (by kernel_rfl) rfl #[.slice (some ad386) t367.length co110, .slice Ao111 t371.length co111] (by rfl) rfl rfl TA ?_
                 with_reducible refine (laws_uSame.calls kj41 _ _ t367 _ _ t371 true _ ?side1 ?side2 ?side3 ?side4 A92.out).mono ?_
                 (case side1 => exact CW (Kd.R_reads' HO370.out).2.2)
                 (case side2 => exact (Kd.R_reads' HO370.out).2.1)
                 (case side3 => exact CW (Kd.R_reads' HO374.out).2.2)
                 (case side4 => exact (Kd.R_reads' HO374.out).2.1)
                 rintro e w' ⟨rfl, ⟨nd, rfl⟩⟩
                 refine ⟨_, rfl, ?_⟩
                 refine hK.out _ _ ⟨hHeld.1, hHeld.2⟩ (fun hHeld => ?_)
                 clear hK K
                 refine norm_ (a' := ?_) ?_ ?_
                 rotate_left
                 ·show Act.put _ (some 345) _ = _
                  simp only [Act.put, List.setIfInBounds_toArray, List.set_cons_zero, List.set_cons_succ, i64_w, i32_w]
                  rfl
                 refine pure_ (i := 7) (N := some 346) #[true, true, true, true, true, true, true, true, false, false, false, false, false, false, false, false, false, false, false, false, false, false, false, false, false, false, false, false, false, false, false, false, false, false, false, false, false, false, false, false, false, false, false, false, false, false, false] rfl rfl (any_of HT_.out (by kernel_rfl)) (fun _ _ _ h => h) (Or.inl ⟨by rfl, PW⟩) PU ?_
                 refine pure_ (i := 8) (N := some 347) #[true, true, true, true, true, true, true, true, true, false, false, false, false, false, false, false, false, false, false, false, false, false, false, false, false, false, false, false, false, false, false, false, false, false, false, false, false, false, false, false, false, false, false, false, false, false, false] rfl rfl (any_of HT_.out (by kernel_rfl)) (fun _ _ _ h => h) (Or.inl ⟨by rfl, PW⟩) PU ?_
                 refine pure_ (i := 9) (N := some 348) #[true, true, true, true, true, true, true, true, true, true, false, false, false, false, false, false, false, false, false, false, false, false, false, false, false, false, false, false, false, false, false, false, false, false, false, false, false, false, false, false, false, false, false, false, false, false, false] rfl rfl (any_of HT_.out (by kernel_rfl)) (fun _ _ _ h => h) (Or.inl ⟨by rfl, PW⟩) PU ?_
                 refine pure_ (i := 10) (N := some 349) #[true, true, true, true, true, true, true, true, true, true, true, false, false, false, false, false, false, false, false, false, false, false, false, false, false, false, false, false, false, false, false, false, false, false, false, false, false, false, false, false, false, false, false, false, false, false, false] rfl rfl (any_of HT_.out (by kernel_rfl)) (fun _ _ _ h => h) (Or.inl ⟨by rfl, PW⟩) PU ?_
                 refine pure_ (i := 11) (N := some 350) #[true, true, true, true, true, true, true, true, true, true, true, true, false, false, false, false, false, false, false, false, false, false, false, false, false, false, false, false, false, false, false, false, false, false, false, false, false, false, false, false, false, false, false, false, false, false, false] rfl rfl (any_of HT_.out (by kernel_rfl)) (fun _ _ _ h => h) (Or.inl ⟨by rfl, PW⟩) PU ?_
                 refine pure_ (i := 12) (N := some 351) #[true, true, true, true, true, true, true, true, true, true, true, true, true, false, false, false, false, false, false, false, false, false, false, false, false, false, false, false, false, false, false, false, false, false, false, false, false, false, false, false, false, false, false, false, false, false, false] rfl rfl (any_of HT_.out (by kernel_rfl)) (fun _ _ _ h => h) (Or.inl ⟨by rfl, PW⟩) PU ?_
                 refine pure_ (i := 13) (N := some 352) #[true, true, true, true, true, true, true, true, true, true, true, true, true, true, false, false, false, false, false, false, false, false, false, false, false, false, false, false, false, false, false, false, false, false, false, false, false, false, false, false, false, false, false, false, false, false, false] rfl rfl (any_of HT_.out (by kernel_rfl)) (fun _ _ _ h => h) (Or.inl ⟨by rfl, PW⟩) PU ?_
                 refine pure_ (i := 14) (N := some 353) #[true, true, true, true, true, true, true, true, true, true, true, true, true, true, true, false, false, false, false, false, false, false, false, false, false, false, false, false, false, false, false, false, false, false, false, false, false, false, false, false, false, false, false, false, false, false, false] rfl rfl (any_of HT_.out (by kernel_rfl)) (fun _ _ _ h => h) (Or.inl ⟨by rfl, PW⟩) PU ?_
                 refine pure_ (i := 15) (N := some 354) #[true, true, true, true, true, true, true, true, true, true, true, true, true, true, true, true, false, false, false, false, false, false, false, false, false, false, false, false, false, false, false, false, false, false, false, false, false, false, false, false, false, false, false, false, false, false, false] rfl rfl (any_of HT_.out (by kernel_rfl)) (fun _ _ _ h => h) (Or.inl ⟨by rfl, PW⟩) PU ?_
                 refine pure_ (i := 16) (N := some 355) #[true, true, true, true, true, true, true, true, true, true, true, true, true, true, true, true, true, false, false, false, false, false, false, false, false, false, false, false, false, false, false, false, false, false, false, false, false, false, false, false, false, false, false, false, false, false, false] rfl rfl (any_of HT_.out (by kernel_rfl)) (fun _ _ _ h => h) (Or.inl ⟨by rfl, PW⟩) PU ?_
                 refine pure_ (i := 17) (N := some 356) #[true, true, true, true, true, true, true, true, true, true, true, true, true, true, true, true, true, true, false, false, false, false, false, false, false, false, false, false, false, false, false, false, false, false, false, false, false, false, false, false, false, false, false, false, false, false, false] rfl rfl (any_of HT_.out (by kernel_rfl)) (fun _ _ _ h => h) (Or.inl ⟨by rfl, PW⟩) PU ?_
                 refine pure_ (i := 18) (N := some 357) #[true, true, true, true, true, true, true, true, true, true, true, true, true, true, true, true, true, true, true, false, false, false, false, false, false, false, false, false, false, false, false, false, false, false, false, false, false, false, false, false, false, false, false, false, false, false, false] rfl rfl (any_of HT_.out (by kernel_rfl)) (fun _ _ _ h => h) (Or.inl ⟨by rfl, PW⟩) PU ?_
                 refine pure_ (i := 19) (N := some 358) #[true, true, true, true, true, true, true, true, true, true, true, true, true, true, true, true, true, true, true, true, false, false, false, false, false, false, false, false, false, false, false, false, false, false, false, false, false, false, false, false, false, false, false, false, false, false, false] rfl rfl (any_of HT_.out (by kernel_rfl)) (fun _ _ _ h => h) (Or.inl ⟨by rfl, PW⟩) PU ?_
                 refine pure_ (i := 20) (N := some 359) #[true, true, true, true, true, true, true, true, true, true, true, true, true, true, true, true, true, true, true, true, true, false, false, false, false, false, false, false, false, false, false, false, false, false, false, false, false, false, false, false, false, false, false, false, false, false, false] rfl rfl (any_of HT_.out (by kernel_rfl)) (fun _ _ _ h => h) (Or.inl ⟨by rfl, PW⟩) PU ?_
                 refine pure_ (i := 21) (N := some 360) #[true, true, true, true, true, true, true, true, true, true, true, true, true, true, true, true, true, true, true, true, true, true, false, false, false, false, false, false, false, false, false, false, false, false, false, false, false, false, false, false, false, false, false, false, false, false, false] rfl rfl (any_of HT_.out (by kernel_rfl)) (fun _ _ _ h => h) (Or.inl ⟨by rfl, PW⟩) PU ?_
                 refine pure_ (i := 22) (N := some 361) #[true, true, true, true, true, true, true, true, true, true, true, true, true, true, true, true, true, true, true, true, true, true, true, false, false, false, false, false, false, false, false, false, false, false, false, false, false, false, false, false, false, false, false, false, false, false, false] rfl rfl (any_of HT_.out (by kernel_rfl)) (fun _ _ _ h => h) (Or.inl ⟨by rfl, PW⟩) PU ?_
                 refine pure_ (i := 23) (N := some 362) #[true, true, true, true, true, true, true, true, true, true, true, true, true, true, true, true, true, true, true, true, true, true, true, true, false, false, false, false, false, false, false, false, false, false, false, false, false, false, false, false, false, false, false, false, false, false, false] rfl rfl (any_of HT_.out (by kernel_rfl)) (fun _ _ _ h => h) (Or.inl ⟨by rfl, PW⟩) PU ?_
                 refine pure_ (i := 24) (N := some 363) #[true, true, true, true, true, true, true, true, true, true, true, true, true, true, true, true, true, true, true, true, true, true, true, true, true, false, false, false, false, false, false, false, false, false, false, false, false, false, false, false, false, false, false, false, false, false, false] rfl rfl (any_of HT_.out (by kernel_rfl)) (fun _ _ _ h => h) (Or.inl ⟨by rfl, PW⟩) PU ?_
                 refine pure_ (i := 25) (N := some 364) #[true, true, true, true, true, true, true, true, true, true, true, true, true, true, true, true, true, true, true, true, true, true, true, true, true, true, false, false, false, false, false, false, false, false, false, false, false, false, false, false, false, false, false, false, false, false, false] rfl rfl (any_of HT_.out (by kernel_rfl)) (fun _ _ _ h => h) (Or.inl ⟨by rfl, PW⟩) PU ?_
                 refine pure_ (i := 26) (N := some 365) #[true, true, true, true, true, true, true, true, true, true, true, true, true, true, true, true, true, true, true, true, true, true, true, true, true, true, true, false, false, false, false, false, false, false, false, false, false, false, false, false, false, false, false, false, false, false, false] rfl rfl (any_of HT_.out (by kernel_rfl)) (fun _ _ _ h => h) (Or.inl ⟨by rfl, PW⟩) PU ?_
                 refine pure_ (i := 27) (N := some 366) #[true, true, true, true, true, true, true, true, true, true, true, true, true, true, true, true, true, true, true, true, true, true, true, true, true, true, true, true, false, false, false, false, false, false, false, false, false, false, false, false, false, false, false, false, false, false, false] rfl rfl (any_of HT_.out (by kernel_rfl)) (fun _ _ _ h => h) (Or.inl ⟨by rfl, PW⟩) PU ?_
                 refine pure_ (i := 28) (N := some 367) #[true, true, true, true, true, true, true, true, true, true, true, true, true, true, true, true, true, true, true, true, true, true, true, true, true, true, true, true, true, false, false, false, false, false, false, false, false, false, false, false, false, false, false, false, false, false, false] rfl rfl (any_of HT_.out (by kernel_rfl)) (fun _ _ _ h => h) (Or.inl ⟨by rfl, PW⟩) PU ?_
                 refine pure_ (i := 29) (N := some 368) #[true, true, true, true, true, true, true, true, true, true, true, true, true, true, true, true, true, true, true, true, true, true, true, true, true, true, true, true, true, true, false, false, false, false, false, false, false, false, false, false, false, false, false, false, false, false, false] rfl rfl (any_of HT_.out (by kernel_rfl)) (fun _ _ _ h => h) (Or.inl ⟨by rfl, PW⟩) PU ?_
                 refine pure_ (i := 30) (N := some 369) #[true, true, true, true, true, true, true, true, true, true, true, true, true, true, true, true, true, true, true, true, true, true, true, true, true, true, true, true, true, true, true, false, false, false, false, false, false, false, false, false, false, false, false, false, false, false, false] rfl rfl (any_of HT_.out (by kernel_rfl)) (fun _ _ _ h => h) (Or.inl ⟨by rfl, PW⟩) PU ?_
                 refine pure_ (i := 31) (N := some 370) #[true, true, true, true, true, true, true, true, true, true, true, true, true, true, true, true, true, true, true, true, true, true, true, true, true, true, true, true, true, true, true, true, false, false, false, false, false, false, false, false, false, false, false, false, false, false, false] rfl rfl (any_of HT_.out (by kernel_rfl)) (fun _ _ _ h => h) (Or.inl ⟨by rfl, PW⟩) PU ?_
                 refine pure_ (i := 32) (N := some 371) #[true, true, true, true, true, true, true, true, true, true, true, true, true, true, true, true, true, true, true, true, true, true, true, true, true, true, true, true, true, true, true, true, true, false, false, false, false, false, false, false, false, false, false, false, false, false, false] rfl rfl (any_of HT_.out (by kernel_rfl)) (fun _ _ _ h => h) (Or.inl ⟨by rfl, PW⟩) PU ?_
                 refine pure_ (i := 33) (N := some 372) #[true, true, true, true, true, true, true, true, true, true, true, true, true, true, true, true, true, true, true, true, true, true, true, true, true, true, true, true, true, true, true, true, true, true, false, false, false, false, false, false, false, false, false, false, false, false, false] rfl rfl (any_of HT_.out (by kernel_rfl)) (fun _ _ _ h => h) (Or.inl ⟨by rfl, PW⟩) PU ?_
                 refine pure_ (i := 34) (N := some 373) #[true, true, true, true, true, true, true, true, true, true, true, true, true, true, true, true, true, true, true, true, true, true, true, true, true, true, true, true, true, true, true, true, true, true, true, false, false, false, false, false, false, false, false, false, false, false, false] rfl rfl (any_of HT_.out (by kernel_rfl)) (fun _ _ _ h => h) (Or.inl ⟨by rfl, PW⟩) PU ?_
                 refine pure_ (i := 35) (N := some 374) #[true, true, true, true, true, true, true, true, true, true, true, true, true, true, true, true, true, true, true, true, true, true, true, true, true, true, true, true, true, true, true, true, true, true, true, true, false, false, false, false, false, false, false, false, false, false, false] rfl rfl (any_of HT_.out (by kernel_rfl)) (fun _ _ _ h => h) (Or.inl ⟨by rfl, PW⟩) PU ?_
                 refine pure_ (i := 36) (N := some 375) #[true, true, true, true, true, true, true, true, true, true, true, true, true, true, true, true, true, true, true, true, true, true, true, true, true, true, true, true, true, true, true, true, true, true, true, true, true, false, false, false, false, false, false, false, false, false, false] rfl rfl (any_of HT_.out (by kernel_rfl)) (fun _ _ _ h => h) (Or.inl ⟨by rfl, PW⟩) PU ?_
                 refine pure_ (i := 38) (N := some 377) #[true, true, true, true, true, true, true, true, true, true, true, true, true, true, true, true, true, true, true, true, true, true, true, true, true, true, true, true, true, true, true, true, true, true, true, true, true, false, true, false, false, false, false, false, false, false, false] rfl rfl (any_of HT_.out (by kernel_rfl)) (fun _ _ _ h => h) (Or.inl ⟨by rfl, PW⟩) PU ?_
                 refine pure_ (i := 39) (N := some 378) #[true, true, true, true, true, true, true, true, true, true, true, true, true, true, true, true, true, true, true, true, true, true, true, true, true, true, true, true, true, true, true, true, true, true, true, true, true, false, true, true, false, false, false, false, false, false, false] rfl rfl (any_of HT_.out (by kernel_rfl)) (fun _ _ _ h => h) (Or.inl ⟨by rfl, PW⟩) PU ?_
                 refine take_ (i := 37) (N := some 376) #[true, true, true, true, true, true, true, true, true, true, true, true, true, true, true, true, true, true, true, true, true, true, true, true, true, true, true, true, true, true, true, true, true, true, true, true, true, true, true, true, false, false, false, false, false, false, false] rfl rfl (take_ofW HT_.out HW_.out (by kernel_rfl)) (fun _ _ _ h => h) (Or.inl ⟨by rfl, PT⟩) hHeld PU ?_
                 refine take_ (i := 40) (N := some 379) #[true, true, true, true, true, true, true, true, true, true, true, true, true, true, true, true, true, true, true, true, true, true, true, true, true, true, true, true, true, true, true, true, true, true, true, true, true, true, true, true, true, false, false, false, false, false, false] rfl rfl (take_ofW HT_.out HW_.out (by kernel_rfl)) (fun _ _ _ h => h) (Or.inl ⟨by rfl, PT⟩) hHeld PU ?_
                 refine pure_ (i := 41) (N := some 380) #[true, true, true, true, true, true, true, true, true, true, true, true, true, true, true, true, true, true, true, true, true, true, true, true, true, true, true, true, true, true, true, true, true, true, true, true, true, true, true, true, true, true, false, false, false, false, false] rfl rfl (any_of HT_.out (by kernel_rfl)) (fun _ _ _ h => h) (Or.inl ⟨by rfl, PW⟩) PU ?_
                 refine pure_ (i := 42) (N := some 381) #[true, true, true, true, true, true, true, true, true, true, true, true, true, true, true, true, true, true, true, true, true, true, true, true, true, true, true, true, true, true, true, true, true, true, true, true, true, true, true, true, true, true, true, false, false, false, false] rfl rfl (any_of HT_.out (by kernel_rfl)) (fun _ _ _ h => h) (Or.inl ⟨by rfl, PW⟩) PU ?_
                 refine pure_ (i := 43) (N := some 382) #[true, true, true, true, true, true, true, true, true, true, true, true, true, true, true, true, true, true, true, true, true, true, true, true, true, true, true, true, true, true, true, true, true, true, true, true, true, true, true, true, true, true, true, true, false, false, false] rfl rfl (any_of HT_.out (by kernel_rfl)) (fun _ _ _ h => h) (Or.inl ⟨by rfl, PW⟩) PU ?_
                 refine pure_ (i := 44) (N := some 383) #[true, true, true, true, true, true, true, true, true, true, true, true, true, true, true, true, true, true, true, true, true, true, true, true, true, true, true, true, true, true, true, true, true, true, true, true, true, true, true, true, true, true, true, true, true, false, false] rfl rfl (any_of HT_.out (by kernel_rfl)) (fun _ _ _ h => h) (Or.inl ⟨by rfl, PW⟩) PU ?_
                 refine pure_ (i := 45) (N := some 384) #[true, true, true, true, true, true, true, true, true, true, true, true, true, true, true, true, true, true, true, true, true, true, true, true, true, true, true, true, true, true, true, true, true, true, true, true, true, true, true, true, true, true, true, true, true, true, false] rfl rfl (any_of HT_.out (by kernel_rfl)) (fun _ _ _ h => h) (Or.inl ⟨by rfl, PW⟩) PU ?_
                 refine pure_ (i := 46) (N := some 4) #[true, true, true, true, true, true, true, true, true, true, true, true, true, true, true, true, true, true, true, true, true, true, true, true, true, true, true, true, true, true, true, true, true, true, true, true, true, true, true, true, true, true, true, true, true, true, true] rfl rfl (any_of HT_.out (by kernel_rfl)) (fun _ _ _ h => h) (Or.inl ⟨by rfl, PW⟩) PU ?_
                 refine done_ (done_of HT_.out (by kernel_rfl)) ?_
                 try go_wp2
                 go_ret
                 exact ⟨RE, BB⟩
                ·rw [if_neg c101] at H
                 cases H
               ·rw [if_neg c100] at H
                cases H
             ·replace c98 := Bool.eq_false_iff.mpr c98
              subst c98
              replace H := IN H
              obtain rfl := Option.some.inj H
              try go_wp2_with (first | ((with_reducible refine gate_callee (f := 19) rfl ?_); refine goesL_ (some 290) rfl rfl Tryd.func19 (by kernel_rfl) rfl #[.slice A1 l1.length c1] rfl TA ?_; (with_reducible refine (spec_DrawFirstApart.calls kj41 _ _ l1 t362 t363 t364 _ ?side1 ?side2 A83.out).mono ?_); (case side1 => exact CW (Kd.C_below HR1.out HB.out)); (case side2 => exact HC1.out); rintro e w112 ⟨v365, rfl, ho0, hb⟩; refine ⟨_, rfl, ?_⟩; have n0_ := Aside0.mk (Kd.R_lower ho0 (below_size BB)); have n1_ := Aside0.mk (below_step BB hb); clear HB; have HO366 := n0_; have HB := n1_; clear n0_ n1_; (try clear hb); (try clear hb2); (try clear hk); (try clear hi); (try clear ho0); obtain ⟨Ao113, co113, eo113⟩ := Kd.R_slice HO366.out; subst eo113) | ((with_reducible refine gate_callee (f := 20) rfl ?_); refine goesL_ (some 298) rfl rfl Tryd.func20 (by kernel_rfl) rfl #[.int .i64 t362, .int .i64 t363, .slice Ao113 t364.length co113] rfl TA ?_; (with_reducible refine (impl_FirstApart.calls kj41 t362 t363 _ _ t364 t367 false _ ?side1 ?side2 A84.out).mono ?_); (case side1 => exact CW (Kd.R_reads' HO366.out).2.2); (case side2 => exact (Kd.R_reads' HO366.out).2.1); rintro e w114 ⟨v369, rfl, ho0, hb⟩; refine ⟨_, rfl, ?_⟩; have n0_ := Aside0.mk (Kd.R_elder' (KR HO366) (Kd.R_base ho0) hb); have n1_ := Aside0.mk (Kd.R_lower (Kd.R_new' ho0 (Kd.R_lt (KR HO366))) (below_size BB)); have n2_ := Aside0.mk (below_step BB hb); clear HO366; clear HB; have HO366 := n0_; have HO370 := n1_; have HB := n2_; clear n0_ n1_ n2_; (try clear hb); (try clear hb2); (try clear hk); (try clear hi); (try clear ho0)) | ((with_reducible refine gate_callee (f := 21) rfl ?_); refine goesL_ (some 305) rfl rfl Tryd.func21 (by kernel_rfl) rfl #[.int .i64 t362, .int .i64 t363, .slice Ao113 t364.length co113] rfl TA ?_; (with_reducible refine (spec_FirstApart.calls kj41 t362 t363 _ _ t364 t371 t372 _ ?side1 ?side2 A85.out).mono ?_); (case side1 => exact CW (Kd.R_reads' HO366.out).2.2); (case side2 => exact (Kd.R_reads' HO366.out).2.1); rintro e w115 ⟨v373, rfl, ho0, hb⟩; refine ⟨_, rfl, ?_⟩; have n0_ := Aside0.mk (Kd.R_elder' (KR HO366) (Kd.R_base ho0) hb); have n1_ := Aside0.mk (Kd.R_elder' (KR HO370) (Kd.R_base ho0) hb); have n2_ := Aside0.mk (Kd.R_lower (Kd.R_new' (Kd.R_new' ho0 (Kd.R_lt (KR HO366))) (Kd.R_lt (KR HO370))) (below_size BB)); have n3_ := Aside0.mk (below_step BB hb); clear HO366; clear HO370; clear HB; have HO366 := n0_; have HO370 := n1_; have HO374 := n2_; have HB := n3_; clear n0_ n1_ n2_ n3_; (try clear hb); (try clear hb2); (try clear hk); (try clear hi); (try clear ho0)) | ((with_reducible refine gate_callee (f := 17) rfl ?_); refine goesL_ (some 312) rfl rfl Tryd.func17 (by kernel_rfl) rfl #[.int .i64 t362, .int .i64 t363, .slice Ao113 t364.length co113] rfl TA ?_; (with_reducible refine (impl_IsColouring.calls kj41 t362 t363 _ _ t364 t375 t376 _ ?side1 ?side2 A86.out).mono ?_); (case side1 => exact CW (Kd.R_reads' HO366.out).2.2); (case side2 => exact (Kd.R_reads' HO366.out).2.1); rintro e w116 ⟨rfl, hb⟩; refine ⟨_, rfl, ?_⟩; have n0_ := Aside0.mk (Kd.R_below (KR HO366) hb); have n1_ := Aside0.mk (Kd.R_below (KR HO370) hb); have n2_ := Aside0.mk (Kd.R_below (KR HO374) hb); have n3_ := Aside0.mk (below_step BB hb); clear HO366; clear HO370; clear HO374; clear HB; have HO366 := n0_; have HO370 := n1_; have HO374 := n2_; have HB := n3_; clear n0_ n1_ n2_ n3_; (try clear hb); (try clear hb2); (try clear hk); (try clear hi)) | ((with_reducible refine gate_callee (f := 22) rfl ?_); refine goesL_ (some 319) rfl rfl Tryd.func22 (by kernel_rfl) rfl #[.int .i64 t362, .int .i64 t363, .slice Ao113 t364.length co113] rfl TA ?_; (with_reducible refine (spec_IsColouring.calls kj41 t362 t363 _ _ t364 t377 t378 _ ?side1 ?side2 A87.out).mono ?_); (case side1 => exact CW (Kd.R_reads' HO366.out).2.2); (case side2 => exact (Kd.R_reads' HO366.out).2.1); rintro e w117 ⟨rfl, hb⟩; refine ⟨_, rfl, ?_⟩; have n0_ := Aside0.mk (Kd.R_below (KR HO366) hb); have n1_ := Aside0.mk (Kd.R_below (KR HO370) hb); have n2_ := Aside0.mk (Kd.R_below (KR HO374) hb); have n3_ := Aside0.mk (below_step BB hb); clear HO366; clear HO370; clear HO374; clear HB; have HO366 := n0_; have HO370 := n1_; have HO374 := n2_; have HB := n3_; clear n0_ n1_ n2_ n3_; (try clear hb); (try clear hb2); (try clear hk); (try clear hi)) | ((with_reducible refine gate_callee (f := 23) rfl ?_); refine goesL_ (some 324) rfl rfl Tryd.func23 (by kernel_rfl) rfl #[.slice A1 l1.length c1] rfl TA ?_; (with_reducible refine (spec_DrawAreApart.calls _ _ l1 t379 t380 _ ?side1 ?side2 A88.out).mono ?_); (case side1 => exact CW (Kd.C_below HR1.out HB.out)); (case side2 => exact HC1.out); rintro e w118 ⟨rfl, hb⟩; refine ⟨_, rfl, ?_⟩; have n0_ := Aside0.mk (Kd.R_below (KR HO366) hb); have n1_ := Aside0.mk (Kd.R_below (KR HO370) hb); have n2_ := Aside0.mk (Kd.R_below (KR HO374) hb); have n3_ := Aside0.mk (below_step BB hb); clear HO366; clear HO370; clear HO374; clear HB; have HO366 := n0_; have HO370 := n1_; have HO374 := n2_; have HB := n3_; clear n0_ n1_ n2_ n3_; (try clear hb); (try clear hb2); (try clear hk); (try clear hi)) | ((with_reducible refine gate_callee (f := 18) rfl ?_); refine goesL_ (some 330) rfl rfl Tryd.func18 (by kernel_rfl) rfl #[.int .i64 t379, .int .i64 t380] rfl TA ?_; (with_reducible refine (impl_AreApart.calls t379 t380 t381 t382 _ A89.out).mono ?_); rintro e w' ⟨rfl, ⟨nd, rfl⟩⟩; refine ⟨_, rfl, ?_⟩) | ((with_reducible refine gate_callee (f := 24) rfl ?_); refine goesL_ (some 336) rfl rfl Tryd.func24 (by kernel_rfl) rfl #[.int .i64 t379, .int .i64 t380] rfl TA ?_; (with_reducible refine (spec_AreApart.calls t379 t380 t383 t384 _ A90.out).mono ?_); rintro e w' ⟨rfl, ⟨nd, rfl⟩⟩; refine ⟨_, rfl, ?_⟩))
              (try (rw [drewN_self w118]; generalize hq_ : World.drewN w118 _ = w118; have n0_ : Aside0 (Kd.R (Kd.int .i64) 3 w118 w.heap.size (fun k_ => some k_ ≠ (v369 : Value).ownBlock ∧ some k_ ≠ (v373 : Value).ownBlock) (.slice Ao113 t364.length co113) t364) := ⟨by rw [← hq_]; exact (by (with_reducible repeat (first | apply Kd.R_alloc | apply Kd.R_drewN | apply Kd.R_drew)); exact Kd.R_mono HO366.out (fun _ hk => ⟨hk.1.2, hk.2⟩))⟩; have n1_ : Aside0 (Kd.R (Kd.int .i64) 3 w118 w.heap.size (fun k_ => some k_ ≠ (.slice Ao113 t364.length co113 : Value).ownBlock ∧ some k_ ≠ (v373 : Value).ownBlock) v369 t367) := ⟨by rw [← hq_]; exact (by (with_reducible repeat (first | apply Kd.R_alloc | apply Kd.R_drewN | apply Kd.R_drew)); exact Kd.R_mono HO370.out (fun _ hk => ⟨hk.1.2, hk.2⟩))⟩; have n2_ : Aside0 (Kd.R (Kd.int .i64) 3 w118 w.heap.size (fun k_ => some k_ ≠ (.slice Ao113 t364.length co113 : Value).ownBlock ∧ some k_ ≠ (v369 : Value).ownBlock) v373 t371) := ⟨by rw [← hq_]; exact (by (with_reducible repeat (first | apply Kd.R_alloc | apply Kd.R_drewN | apply Kd.R_drew)); exact Kd.R_mono HO374.out (fun _ hk => ⟨hk.1.2, hk.2⟩))⟩; have n3_ : Aside0 (Below w.heap.size w w118) := ⟨by rw [← hq_]; exact BB⟩; clear HO366 HO370 HO374 HB hq_; have HO366 := n0_; have HO370 := n1_; have HO374 := n2_; have HB := n3_; clear n0_ n1_ n2_ n3_))
              have n0_ := Aside0.mk (Kd.R_drew HO366.out)
              have n1_ := Aside0.mk (Kd.R_drew HO370.out)
              have n2_ := Aside0.mk (Kd.R_drew HO374.out)
              have n3_ := Aside0.mk (below_drew1 HB.out)
              clear HO366
              clear HO370
              clear HO374
              clear HB
              have HO366 := n0_
              have HO370 := n1_
              have HO374 := n2_
              have HB := n3_
              clear n0_ n1_ n2_ n3_
              obtain ⟨Ao120, co120, eo120⟩ := Kd.R_slice HO370.out
              (first | subst eo120 | (injection eo120 with f1_ f2_ f3_; have f4_ := f1_.symm; have f5_ := f3_.symm; clear f1_ f2_ f3_; subst f4_; subst f5_))
              obtain ⟨Ao121, co121, eo121⟩ := Kd.R_slice HO374.out
              (first | subst eo121 | (injection eo121 with f1_ f2_ f3_; have f4_ := f1_.symm; have f5_ := f3_.symm; clear f1_ f2_ f3_; subst f4_; subst f5_))
              refine start_ (n := 47) (S := fun w' => True) (ds := []) #[false, false, false, false, false, false, false, false, false, false, false, false, false, false, false, false, false, false, false, false, false, false, false, false, false, false, false, false, false, false, false, false, false, false, false, false, false, false, false, false, false, false, false, false, false, false, false] (by kernel_rfl) rfl rfl trivial (fun hHeld => ?_); refine with_tabW laws_FnKneserColours.tab54 laws_FnKneserColours.bits54 (fun HT_ HW_ => ?_)
              generalize w118.drew = w119 at HO366 HO370 HO374 HB hHeld ⊢
              refine pure_ (i := 0) (N := some 339) #[true, false, false, false, false, false, false, false, false, false, false, false, false, false, false, false, false, false, false, false, false, false, false, false, false, false, false, false, false, false, false, false, false, false, false, false, false, false, false, false, false, false, false, false, false, false, false] rfl rfl (any_of HT_.out (by kernel_rfl)) (fun _ _ _ h => h) (Or.inl ⟨by rfl, PW⟩) PU ?_
              refine pure_ (i := 1) (N := some 340) #[true, true, false, false, false, false, false, false, false, false, false, false, false, false, false, false, false, false, false, false, false, false, false, false, false, false, false, false, false, false, false, false, false, false, false, false, false, false, false, false, false, false, false, false, false, false, false] rfl rfl (any_of HT_.out (by kernel_rfl)) (fun _ _ _ h => h) (Or.inl ⟨by rfl, PW⟩) PU ?_
              refine pure_ (i := 2) (N := some 341) #[true, true, true, false, false, false, false, false, false, false, false, false, false, false, false, false, false, false, false, false, false, false, false, false, false, false, false, false, false, false, false, false, false, false, false, false, false, false, false, false, false, false, false, false, false, false, false] rfl rfl (any_of HT_.out (by kernel_rfl)) (fun _ _ _ h => h) (Or.inl ⟨by rfl, PW⟩) PU ?_
              refine pure_ (i := 3) (N := some 342) #[true, true, true, true, false, false, false, false, false, false, false, false, false, false, false, false, false, false, false, false, false, false, false, false, false, false, false, false, false, false, false, false, false, false, false, false, false, false, false, false, false, false, false, false, false, false, false] rfl rfl (any_of HT_.out (by kernel_rfl)) (fun _ _ _ h => h) (Or.inl ⟨by rfl, PW⟩) PU ?_
              refine pure_ (i := 4) (N := some 343) #[true, true, true, true, true, false, false, false, false, false, false, false, false, false, false, false, false, false, false, false, false, false, false, false, false, false, false, false, false, false, false, false, false, false, false, false, false, false, false, false, false, false, false, false, false, false, false] rfl rfl (any_of HT_.out (by kernel_rfl)) (fun _ _ _ h => h) (Or.inl ⟨by rfl, PW⟩) PU ?_
              refine pure_ (i := 5) (N := some 344) #[true, true, true, true, true, true, false, false, false, false, false, false, false, false, false, false, false, false, false, false, false, false, false, false, false, false, false, false, false, false, false, false, false, false, false, false, false, false, false, false, false, false, false, false, false, false, false] rfl rfl (any_of HT_.out (by kernel_rfl)) (fun _ _ _ h => h) (Or.inl ⟨by rfl, PW⟩) PU ?_
              refine one_ (i := 6) (N := some 345) #[true, true, true, true, true, true, true, false, false, false, false, false, false, false, false, false, false, false, false, false, false, false, false, false, false, false, false, false, false, false, false, false, false, false, false, false, false, false, false, false, false, false, false, false, false, false, false] rfl rfl (one_of HT_.out (by kernel_rfl)) (by decide) (fun K hK => ?_)
              refine goes_ Tryd.func16 (by kernel_rfl) rfl #[.slice Ao120 t367.length co120, .slice Ao121 t371.length co121] (by rfl) rfl rfl TA ?_
              with_reducible refine (laws_uSame.calls kj41 _ _ t367 _ _ t371 true _ ?side1 ?side2 ?side3 ?side4 A92.out).mono ?_
              (case side1 => exact CW (Kd.R_reads' HO370.out).2.2)
              (case side2 => exact (Kd.R_reads' HO370.out).2.1)
              (case side3 => exact CW (Kd.R_reads' HO374.out).2.2)
              (case side4 => exact (Kd.R_reads' HO374.out).2.1)
              rintro e w' ⟨rfl, ⟨nd, rfl⟩⟩
              refine ⟨_, rfl, ?_⟩
              refine hK.out _ _ trivial (fun hHeld => ?_)
              clear hK K
              refine norm_ (a' := ?_) ?_ ?_
              rotate_left
              ·show Act.put _ (some 345) _ = _
               simp only [Act.put, List.setIfInBounds_toArray, List.set_cons_zero, List.set_cons_succ, i64_w, i32_w]
               rfl
              refine pure_ (i := 7) (N := some 346) #[true, true, true, true, true, true, true, true, false, false, false, false, false, false, false, false, false, false, false, false, false, false, false, false, false, false, false, false, false, false, false, false, false, false, false, false, false, false, false, false, false, false, false, false, false, false, false] rfl rfl (any_of HT_.out (by kernel_rfl)) (fun _ _ _ h => h) (Or.inl ⟨by rfl, PW⟩) PU ?_
              refine pure_ (i := 8) (N := some 347) #[true, true, true, true, true, true, true, true, true, false, false, false, false, false, false, false, false, false, false, false, false, false, false, false, false, false, false, false, false, false, false, false, false, false, false, false, false, false, false, false, false, false, false, false, false, false, false] rfl rfl (any_of HT_.out (by kernel_rfl)) (fun _ _ _ h => h) (Or.inl ⟨by rfl, PW⟩) PU ?_
              refine pure_ (i := 9) (N := some 348) #[true, true, true, true, true, true, true, true, true, true, false, false, false, false, false, false, false, false, false, false, false, false, false, false, false, false, false, false, false, false, false, false, false, false, false, false, false, false, false, false, false, false, false, false, false, false, false] rfl rfl (any_of HT_.out (by kernel_rfl)) (fun _ _ _ h => h) (Or.inl ⟨by rfl, PW⟩) PU ?_
              refine pure_ (i := 10) (N := some 349) #[true, true, true, true, true, true, true, true, true, true, true, false, false, false, false, false, false, false, false, false, false, false, false, false, false, false, false, false, false, false, false, false, false, false, false, false, false, false, false, false, false, false, false, false, false, false, false] rfl rfl (any_of HT_.out (by kernel_rfl)) (fun _ _ _ h => h) (Or.inl ⟨by rfl, PW⟩) PU ?_
              refine pure_ (i := 11) (N := some 350) #[true, true, true, true, true, true, true, true, true, true, true, true, false, false, false, false, false, false, false, false, false, false, false, false, false, false, false, false, false, false, false, false, false, false, false, false, false, false, false, false, false, false, false, false, false, false, false] rfl rfl (any_of HT_.out (by kernel_rfl)) (fun _ _ _ h => h) (Or.inl ⟨by rfl, PW⟩) PU ?_
              refine pure_ (i := 12) (N := some 351) #[true, true, true, true, true, true, true, true, true, true, true, true, true, false, false, false, false, false, false, false, false, false, false, false, false, false, false, false, false, false, false, false, false, false, false, false, false, false, false, false, false, false, false, false, false, false, false] rfl rfl (any_of HT_.out (by kernel_rfl)) (fun _ _ _ h => h) (Or.inl ⟨by rfl, PW⟩) PU ?_
              refine pure_ (i := 13) (N := some 352) #[true, true, true, true, true, true, true, true, true, true, true, true, true, true, false, false, false, false, false, false, false, false, false, false, false, false, false, false, false, false, false, false, false, false, false, false, false, false, false, false, false, false, false, false, false, false, false] rfl rfl (any_of HT_.out (by kernel_rfl)) (fun _ _ _ h => h) (Or.inl ⟨by rfl, PW⟩) PU ?_
              refine pure_ (i := 14) (N := some 353) #[true, true, true, true, true, true, true, true, true, true, true, true, true, true, true, false, false, false, false, false, false, false, false, false, false, false, false, false, false, false, false, false, false, false, false, false, false, false, false, false, false, false, false, false, false, false, false] rfl rfl (any_of HT_.out (by kernel_rfl)) (fun _ _ _ h => h) (Or.inl ⟨by rfl, PW⟩) PU ?_
              refine pure_ (i := 15) (N := some 354) #[true, true, true, true, true, true, true, true, true, true, true, true, true, true, true, true, false, false, false, false, false, false, false, false, false, false, false, false, false, false, false, false, false, false, false, false, false, false, false, false, false, false, false, false, false, false, false] rfl rfl (any_of HT_.out (by kernel_rfl)) (fun _ _ _ h => h) (Or.inl ⟨by rfl, PW⟩) PU ?_
              refine pure_ (i := 16) (N := some 355) #[true, true, true, true, true, true, true, true, true, true, true, true, true, true, true, true, true, false, false, false, false, false, false, false, false, false, false, false, false, false, false, false, false, false, false, false, false, false, false, false, false, false, false, false, false, false, false] rfl rfl (any_of HT_.out (by kernel_rfl)) (fun _ _ _ h => h) (Or.inl ⟨by rfl, PW⟩) PU ?_
              refine pure_ (i := 17) (N := some 356) #[true, true, true, true, true, true, true, true, true, true, true, true, true, true, true, true, true, true, false, false, false, false, false, false, false, false, false, false, false, false, false, false, false, false, false, false, false, false, false, false, false, false, false, false, false, false, false] rfl rfl (any_of HT_.out (by kernel_rfl)) (fun _ _ _ h => h) (Or.inl ⟨by rfl, PW⟩) PU ?_
              refine pure_ (i := 18) (N := some 357) #[true, true, true, true, true, true, true, true, true, true, true, true, true, true, true, true, true, true, true, false, false, false, false, false, false, false, false, false, false, false, false, false, false, false, false, false, false, false, false, false, false, false, false, false, false, false, false] rfl rfl (any_of HT_.out (by kernel_rfl)) (fun _ _ _ h => h) (Or.inl ⟨by rfl, PW⟩) PU ?_
              refine pure_ (i := 19) (N := some 358) #[true, true, true, true, true, true, true, true, true, true, true, true, true, true, true, true, true, true, true, true, false, false, false, false, false, false, false, false, false, false, false, false, false, false, false, false, false, false, false, false, false, false, false, false, false, false, false] rfl rfl (any_of HT_.out (by kernel_rfl)) (fun _ _ _ h => h) (Or.inl ⟨by rfl, PW⟩) PU ?_
              refine pure_ (i := 20) (N := some 359) #[true, true, true, true, true, true, true, true, true, true, true, true, true, true, true, true, true, true, true, true, true, false, false, false, false, false, false, false, false, false, false, false, false, false, false, false, false, false, false, false, false, false, false, false, false, false, false] rfl rfl (any_of HT_.out (by kernel_rfl)) (fun _ _ _ h => h) (Or.inl ⟨by rfl, PW⟩) PU ?_
              refine pure_ (i := 21) (N := some 360) #[true, true, true, true, true, true, true, true, true, true, true, true, true, true, true, true, true, true, true, true, true, true, false, false, false, false, false, false, false, false, false, false, false, false, false, false, false, false, false, false, false, false, false, false, false, false, false] rfl rfl (any_of HT_.out (by kernel_rfl)) (fun _ _ _ h => h) (Or.inl ⟨by rfl, PW⟩) PU ?_
              refine pure_ (i := 22) (N := some 361) #[true, true, true, true, true, true, true, true, true, true, true, true, true, true, true, true, true, true, true, true, true, true, true, false, false, false, false, false, false, false, false, false, false, false, false, false, false, false, false, false, false, false, false, false, false, false, false] rfl rfl (any_of HT_.out (by kernel_rfl)) (fun _ _ _ h => h) (Or.inl ⟨by rfl, PW⟩) PU ?_
              refine pure_ (i := 23) (N := some 362) #[true, true, true, true, true, true, true, true, true, true, true, true, true, true, true, true, true, true, true, true, true, true, true, true, false, false, false, false, false, false, false, false, false, false, false, false, false, false, false, false, false, false, false, false, false, false, false] rfl rfl (any_of HT_.out (by kernel_rfl)) (fun _ _ _ h => h) (Or.inl ⟨by rfl, PW⟩) PU ?_
              refine pure_ (i := 24) (N := some 363) #[true, true, true, true, true, true, true, true, true, true, true, true, true, true, true, true, true, true, true, true, true, true, true, true, true, false, false, false, false, false, false, false, false, false, false, false, false, false, false, false, false, false, false, false, false, false, false] rfl rfl (any_of HT_.out (by kernel_rfl)) (fun _ _ _ h => h) (Or.inl ⟨by rfl, PW⟩) PU ?_
              refine pure_ (i := 25) (N := some 364) #[true, true, true, true, true, true, true, true, true, true, true, true, true, true, true, true, true, true, true, true, true, true, true, true, true, true, false, false, false, false, false, false, false, false, false, false, false, false, false, false, false, false, false, false, false, false, false] rfl rfl (any_of HT_.out (by kernel_rfl)) (fun _ _ _ h => h) (Or.inl ⟨by rfl, PW⟩) PU ?_
              refine pure_ (i := 26) (N := some 365) #[true, true, true, true, true, true, true, true, true, true, true, true, true, true, true, true, true, true, true, true, true, true, true, true, true, true, true, false, false, false, false, false, false, false, false, false, false, false, false, false, false, false, false, false, false, false, false] rfl rfl (any_of HT_.out (by kernel_rfl)) (fun _ _ _ h => h) (Or.inl ⟨by rfl, PW⟩) PU ?_
              refine pure_ (i := 27) (N := some 366) #[true, true, true, true, true, true, true, true, true, true, true, true, true, true, true, true, true, true, true, true, true, true, true, true, true, true, true, true, false, false, false, false, false, false, false, false, false, false, false, false, false, false, false, false, false, false, false] rfl rfl (any_of HT_.out (by kernel_rfl)) (fun _ _ _ h => h) (Or.inl ⟨by rfl, PW⟩) PU ?_
              refine pure_ (i := 28) (N := some 367) #[true, true, true, true, true, true, true, true, true, true, true, true, true, true, true, true, true, true, true, true, true, true, true, true, true, true, true, true, true, false, false, false, false, false, false, false, false, false, false, false, false, false, false, false, false, false, false] rfl rfl (any_of HT_.out (by kernel_rfl)) (fun _ _ _ h => h) (Or.inl ⟨by rfl, PW⟩) PU ?_
              refine pure_ (i := 29) (N := some 368) #[true, true, true, true, true, true, true, true, true, true, true, true, true, true, true, true, true, true, true, true, true, true, true, true, true, true, true, true, true, true, false, false, false, false, false, false, false, false, false, false, false, false, false, false, false, false, false] rfl rfl (any_of HT_.out (by kernel_rfl)) (fun _ _ _ h => h) (Or.inl ⟨by rfl, PW⟩) PU ?_
              refine pure_ (i := 30) (N := some 369) #[true, true, true, true, true, true, true, true, true, true, true, true, true, true, true, true, true, true, true, true, true, true, true, true, true, true, true, true, true, true, true, false, false, false, false, false, false, false, false, false, false, false, false, false, false, false, false] rfl rfl (any_of HT_.out (by kernel_rfl)) (fun _ _ _ h => h) (Or.inl ⟨by rfl, PW⟩) PU ?_
              refine pure_ (i := 31) (N := some 370) #[true, true, true, true, true, true, true, true, true, true, true, true, true, true, true, true, true, true, true, true, true, true, true, true, true, true, true, true, true, true, true, true, false, false, false, false, false, false, false, false, false, false, false, false, false, false, false] rfl rfl (any_of HT_.out (by kernel_rfl)) (fun _ _ _ h => h) (Or.inl ⟨by rfl, PW⟩) PU ?_
              refine pure_ (i := 32) (N := some 371) (v := undef) (a' := ?_) #[true, true, true, true, true, true, true, true, true, true, true, true, true, true, true, true, true, true, true, true, true, true, true, true, true, true, true, true, true, true, true, true, true, false, false, false, false, false, false, false, false, false, false, false, false, false, false] rfl rfl (any_of HT_.out (by kernel_rfl)) (fun _ _ _ h => h) (Or.inr ⟨by rfl, rfl⟩) ?_ ?_
              rotate_left
              ·exact PU
              refine pure_ (i := 33) (N := some 372) (v := undef) (a' := ?_) #[true, true, true, true, true, true, true, true, true, true, true, true, true, true, true, true, true, true, true, true, true, true, true, true, true, true, true, true, true, true, true, true, true, true, false, false, false, false, false, false, false, false, false, false, false, false, false] rfl rfl (any_of HT_.out (by kernel_rfl)) (fun _ _ _ h => h) (Or.inr ⟨by rfl, rfl⟩) ?_ ?_
              rotate_left
              ·exact PU
              refine pure_ (i := 34) (N := some 373) (v := undef) (a' := ?_) #[true, true, true, true, true, true, true, true, true, true, true, true, true, true, true, true, true, true, true, true, true, true, true, true, true, true, true, true, true, true, true, true, true, true, true, false, false, false, false, false, false, false, false, false, false, false, false] rfl rfl (any_of HT_.out (by kernel_rfl)) (fun _ _ _ h => h) (Or.inr ⟨by rfl, rfl⟩) ?_ ?_
              rotate_left
              ·exact PU
              refine pure_ (i := 35) (N := some 374) (v := undef) (a' := ?_) #[true, true, true, true, true, true, true, true, true, true, true, true, true, true, true, true, true, true, true, true, true, true, true, true, true, true, true, true, true, true, true, true, true, true, true, true, false, false, false, false, false, false, false, false, false, false, false] rfl rfl (any_of HT_.out (by kernel_rfl)) (fun _ _ _ h => h) (Or.inr ⟨by rfl, rfl⟩) ?_ ?_
              rotate_left
              ·exact PU
              refine pure_ (i := 36) (N := some 375) (v := undef) (a' := ?_) #[true, true, true, true, true, true, true, true, true, true, true, true, true, true, true, true, true, true, true, true, true, true, true, true, true, true, true, true, true, true, true, true, true, true, true, true, true, false, false, false, false, false, false, false, false, false, false] rfl rfl (any_of HT_.out (by kernel_rfl)) (fun _ _ _ h => h) (Or.inr ⟨by rfl, rfl⟩) ?_ ?_
              rotate_left
              ·exact PU
              refine pure_ (i := 37) (N := some 376) (v := undef) (a' := ?_) #[true, true, true, true, true, true, true, true, true, true, true, true, true, true, true, true, true, true, true, true, true, true, true, true, true, true, true, true, true, true, true, true, true, true, true, true, true, true, false, false, false, false, false, false, false, false, false] rfl rfl (any_of HT_.out (by kernel_rfl)) (fun _ _ _ h => h) (Or.inr ⟨by rfl, rfl⟩) ?_ ?_
              rotate_left
              ·exact PU
              refine pure_ (i := 38) (N := some 377) (v := undef) (a' := ?_) #[true, true, true, true, true, true, true, true, true, true, true, true, true, true, true, true, true, true, true, true, true, true, true, true, true, true, true, true, true, true, true, true, true, true, true, true, true, true, true, false, false, false, false, false, false, false, false] rfl rfl (any_of HT_.out (by kernel_rfl)) (fun _ _ _ h => h) (Or.inr ⟨by rfl, rfl⟩) ?_ ?_
              rotate_left
              ·exact PU
              refine pure_ (i := 39) (N := some 378) (v := undef) (a' := ?_) #[true, true, true, true, true, true, true, true, true, true, true, true, true, true, true, true, true, true, true, true, true, true, true, true, true, true, true, true, true, true, true, true, true, true, true, true, true, true, true, true, false, false, false, false, false, false, false] rfl rfl (any_of HT_.out (by kernel_rfl)) (fun _ _ _ h => h) (Or.inr ⟨by rfl, rfl⟩) ?_ ?_
              rotate_left
              ·exact PU
              refine pure_ (i := 40) (N := some 379) (v := undef) (a' := ?_) #[true, true, true, true, true, true, true, true, true, true, true, true, true, true, true, true, true, true, true, true, true, true, true, true, true, true, true, true, true, true, true, true, true, true, true, true, true, true, true, true, true, false, false, false, false, false, false] rfl rfl (any_of HT_.out (by kernel_rfl)) (fun _ _ _ h => h) (Or.inr ⟨by rfl, rfl⟩) ?_ ?_
              rotate_left
              ·exact PU
              refine pure_ (i := 41) (N := some 380) (v := undef) (a' := ?_) #[true, true, true, true, true, true, true, true, true, true, true, true, true, true, true, true, true, true, true, true, true, true, true, true, true, true, true, true, true, true, true, true, true, true, true, true, true, true, true, true, true, true, false, false, false, false, false] rfl rfl (any_of HT_.out (by kernel_rfl)) (fun _ _ _ h => h) (Or.inr ⟨by rfl, rfl⟩) ?_ ?_
              rotate_left
              ·exact PU
              refine pure_ (i := 42) (N := some 381) (v := undef) (a' := ?_) #[true, true, true, true, true, true, true, true, true, true, true, true, true, true, true, true, true, true, true, true, true, true, true, true, true, true, true, true, true, true, true, true, true, true, true, true, true, true, true, true, true, true, true, false, false, false, false] rfl rfl (any_of HT_.out (by kernel_rfl)) (fun _ _ _ h => h) (Or.inr ⟨by rfl, rfl⟩) ?_ ?_
              rotate_left
              ·exact PU
              refine pure_ (i := 43) (N := some 382) (v := undef) (a' := ?_) #[true, true, true, true, true, true, true, true, true, true, true, true, true, true, true, true, true, true, true, true, true, true, true, true, true, true, true, true, true, true, true, true, true, true, true, true, true, true, true, true, true, true, true, true, false, false, false] rfl rfl (any_of HT_.out (by kernel_rfl)) (fun _ _ _ h => h) (Or.inr ⟨by rfl, rfl⟩) ?_ ?_
              rotate_left
              ·exact PU
              refine pure_ (i := 44) (N := some 383) #[true, true, true, true, true, true, true, true, true, true, true, true, true, true, true, true, true, true, true, true, true, true, true, true, true, true, true, true, true, true, true, true, true, true, true, true, true, true, true, true, true, true, true, true, true, false, false] rfl rfl (any_of HT_.out (by kernel_rfl)) (fun _ _ _ h => h) (Or.inl ⟨by rfl, PW⟩) PU ?_
              refine pure_ (i := 45) (N := some 384) #[true, true, true, true, true, true, true, true, true, true, true, true, true, true, true, true, true, true, true, true, true, true, true, true, true, true, true, true, true, true, true, true, true, true, true, true, true, true, true, true, true, true, true, true, true, true, false] rfl rfl (any_of HT_.out (by kernel_rfl)) (fun _ _ _ h => h) (Or.inl ⟨by rfl, PW⟩) PU ?_
              refine pure_ (i := 46) (N := some 4) #[true, true, true, true, true, true, true, true, true, true, true, true, true, true, true, true, true, true, true, true, true, true, true, true, true, true, true, true, true, true, true, true, true, true, true, true, true, true, true, true, true, true, true, true, true, true, true] rfl rfl (any_of HT_.out (by kernel_rfl)) (fun _ _ _ h => h) (Or.inl ⟨by rfl, PW⟩) PU ?_
              refine done_ (done_of HT_.out (by kernel_rfl)) ?_
              try go_wp2
              go_ret
              exact ⟨RE, BB⟩
            ·rw [if_neg c97] at H
             cases H
           ·rw [if_neg c96] at H
            cases H
          ·rw [if_neg c95] at H
           cases H
         ·rw [if_neg c94] at H
          cases H
        ·replace c93 := Bool.eq_false_iff.mpr c93
         subst c93
         replace H := IN H
         cases H
       ·rw [if_neg c91] at H
        cases H

/-- THE ONE PURE STATEMENT of laws_FnKneserColours: yours. -/
def laws_FnKneserColours.Pure : Prop := ∀ (l0 : List Int) (l1 : List Int), l0.length ≤ maxLen → l0.length * 1 ≤ 140737488351232 → (∀ x ∈ l0, (Lit.int .u8 x).wf = true) → l1.length ≤ maxLen → l1.length * 1 ≤ 140737488351232 → (∀ x ∈ l1, (Lit.int .u8 x).wf = true) → ∃ k, laws_FnKneserColours.f k l0 l1 = some true
theorem laws_FnKneserColours.walk (P : laws_FnKneserColours.Pure) (a0 : Option Addr) (len0 cap0 : Nat) (z0 : List Int) (a1 : Option Addr) (len1 cap1 : Nat) (z1 : List Int) (w : World) (hT : TabW w) (w0 : (a0 = none ∧ len0 = 0 ∧ cap0 = 0 ∧ z0 = []) ∨ ∃ x, a0 = some x ∧ len0 ≤ cap0 ∧ cap0 ≤ maxLen ∧ z0.length = cap0 ∧ (∀ i, i < z0.length → w.cell? (x.add i) = some (.int .u8 (z0.getD i 0))) ∧ ∀ n ∈ z0, (Lit.int .u8 n).wf = true) (y0 : len0 * 1 ≤ 140737488351232) (w1 : (a1 = none ∧ len1 = 0 ∧ cap1 = 0 ∧ z1 = []) ∨ ∃ x, a1 = some x ∧ len1 ≤ cap1 ∧ cap1 ≤ maxLen ∧ z1.length = cap1 ∧ (∀ i, i < z1.length → w.cell? (x.add i) = some (.int .u8 (z1.getD i 0))) ∧ ∀ n ∈ z1, (Lit.int .u8 n).wf = true) (y1 : len1 * 1 ≤ 140737488351232) :
  Calls Tryd.prog 3 #[.slice a0 len0 cap0, .slice a1 len1 cap1] w fun e w' => e = .returned (.bool true) ∧ Below w.heap.size w w' := by
 obtain ⟨l0, rfl, hr0, hm0, hw0, hc0⟩ := ReadsInt.ofRowC w0
 obtain ⟨l1, rfl, hr1, hm1, hw1, hc1⟩ := ReadsInt.ofRowC w1
 obtain ⟨k, h⟩ := P l0 l1 hm0 y0 hw0 hm1 y1 hw1
 refine (laws_FnKneserColours.calls k _ _ l0 _ _ l1 true w hT (Kd.C_of_reads (d := (0 : Int)) (h1 := fun _ => rfl) hr0) hc0 (Kd.C_of_reads (d := (0 : Int)) (h1 := fun _ => rfl) hr1) hc1 h).mono ?_
 rintro e w' ⟨rfl, hd⟩
 exact ⟨rfl, hd⟩

end Go.Proofs.YtemgnbpcchlpiaaDoor.PFnKneserColours
