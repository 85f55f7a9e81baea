-- Written by a program of this session (wip/tools/pp.sh) out of the translation; Lean checks it.
import Derived.Test.YtemgnbpcchlpiaaPFnColouringsAreLeastx0
import Derived.Test.YtemgnbpcchlpiaaPFnColouringsAreLeastx1
import Derived.Test.YtemgnbpcchlpiaaPFnColouringsAreLeastx2
import Derived.Test.YtemgnbpcchlpiaaPFnColouringsAreLeastx3
import Derived.Test.YtemgnbpcchlpiaaPFnColouringsAreLeastx4
import Derived.Test.YtemgnbpcchlpiaaPFnColouringsAreLeastx5
namespace Go.Proofs.Ytemgnbpcchlpiaa.PFnColouringsAreLeast
open Go.RowKit Go.Proofs.YtemgnbpcchlpiaaOwn Go.Proofs.YtemgnbpcchlpiaaW.PrintWords Go.Proofs.YtemgnbpcchlpiaaW.PrintLast Go.Proofs.YtemgnbpcchlpiaaW.PrintMore
attribute [local go_sem] max2_int min2_int max_two min_two max_three min_three max_four min_four   -- for this text's walks alone
set_option linter.unusedVariables false
set_option maxHeartbeats 8000000
set_option maxRecDepth 100000
set_option linter.unusedSimpArgs false

/-! ### laws_FnColouringsAreLeast: function 4 -/
mutual
def laws_FnColouringsAreLeast.j0 : Nat → List Int → Int → Int → Int → List Int → Bool → Bool → Option (Bool)
 | 0, _, _, _, _, _, _, _ => none
 | k + 1, x1, x5, x6, x7, x8, x9, x71 => if x71 = true then (none) else ((impl_FewestColours.f x5 x6).bind fun bt292 => (if bt292.2 = true then (if x5 ≤ 6 then (if x7 ≥ 1 then (laws_FnColouringsAreLeast.j1 k x1 x5 x6 x7 x8 x9 bt292.1 (decide (x7 ≤ 8))) else (laws_FnColouringsAreLeast.j1 k x1 x5 x6 x7 x8 x9 bt292.1 false)) else (laws_FnColouringsAreLeast.j1 k x1 x5 x6 x7 x8 x9 bt292.1 false)) else (laws_FnColouringsAreLeast.j1 k x1 x5 x6 x7 x8 x9 bt292.1 false)))
def laws_FnColouringsAreLeast.j1 : Nat → List Int → Int → Int → Int → List Int → Bool → Int → Bool → Option (Bool)
 | 0, _, _, _, _, _, _, _, _ => none
 | k + 1, x1, x5, x6, x7, x8, x9, x12, x90 => if x90 = true then (if (x9 != (decide (x7 ≥ x12))) = true then (none) else (if x9 = true then ((impl_IsColouring.f k x5 x6 x8).bind fun bt294 => (if bt294.2 = true then (if bt294.1 = true then (laws_FnColouringsAreLeast.j2 k x1) else (none)) else (none))) else (laws_FnColouringsAreLeast.j2 k x1))) else (laws_FnColouringsAreLeast.j2 k x1)
def laws_FnColouringsAreLeast.j2 : Nat → List Int → Option (Bool)
 | 0, _ => none
 | k + 1, x1 => (spec_DrawColourStableWith.f x1).bind fun bt296 => ((impl_ColourStableWith.f k bt296.1 bt296.2.1 bt296.2.2).bind fun bt299 => ((spec_ColourStableWith.f k bt296.1 bt296.2.1 bt296.2.2).bind fun bt303 => ((impl_StableSets.f k bt296.1 bt296.2.1).bind fun bt307 => ((spec_StableSets.f k bt296.1 bt296.2.1).bind fun bt311 => ((impl_CountStable.f k bt296.1 bt296.2.1).bind fun bt315 => ((spec_CountStable.f k bt296.1 bt296.2.1).bind fun bt317 => (if (bt299.2 != bt303.2) = true then (none) else ((laws_uSame.f k bt299.1 bt303.1).bind fun t319 => (if t319 = true then (if (bt307.2 != bt311.2) = true then (none) else ((laws_uSame.f k bt307.1 bt311.1).bind fun t320 => (if t320 = true then (if (bt315.2 != bt317.2) = true then (none) else (if bt315.1 = bt317.1 then (if (bt315.2 != bt307.2) = true then (none) else (if bt307.2 = true then (laws_FnColouringsAreLeast.j3 k bt296.1 bt296.2.1 bt296.2.2 bt299.1 bt299.2 bt307.1 bt307.2 ((bt307.1.length : Int) != bt315.1)) else (laws_FnColouringsAreLeast.j3 k bt296.1 bt296.2.1 bt296.2.2 bt299.1 bt299.2 bt307.1 bt307.2 false))) else (none))) else (none)))) else (none))))))))))
def laws_FnColouringsAreLeast.j3 : Nat → Int → Int → Int → List Int → Bool → List Int → Bool → Bool → Option (Bool)
 | 0, _, _, _, _, _, _, _, _ => none
 | k + 1, x16, x17, x18, x19, x20, x23, x24, x197 => if x197 = true then (none) else ((impl_FewestColours.f x16 x17).bind fun bt321 => (if x24 = true then (if x16 ≤ 7 then (if x18 ≥ 1 then (laws_FnColouringsAreLeast.j4 k x16 x17 x18 x19 x20 x23 bt321.1 bt321.2 (decide (x18 ≤ 8))) else (laws_FnColouringsAreLeast.j4 k x16 x17 x18 x19 x20 x23 bt321.1 bt321.2 false)) else (laws_FnColouringsAreLeast.j4 k x16 x17 x18 x19 x20 x23 bt321.1 bt321.2 false)) else (laws_FnColouringsAreLeast.j4 k x16 x17 x18 x19 x20 x23 bt321.1 bt321.2 false)))
def laws_FnColouringsAreLeast.j4 : Nat → Int → Int → Int → List Int → Bool → List Int → Int → Bool → Bool → Option (Bool)
 | 0, _, _, _, _, _, _, _, _, _ => none
 | k + 1, x16, x17, x18, x19, x20, x23, x31, x32, x216 => if x216 = true then (if x32 = true then (if (x23.length : Int) = 0 then (laws_FnColouringsAreLeast.j5 k x16 x17 x19 x23 (x20 != true)) else (laws_FnColouringsAreLeast.j5 k x16 x17 x19 x23 (x20 != (decide (x18 ≥ x31))))) else (none)) else (laws_FnColouringsAreLeast.j8 k x16 x17 x23)
def laws_FnColouringsAreLeast.j8 : Nat → Int → Int → List Int → Option (Bool)
 | 0, _, _, _ => none
 | k + 1, x16, x17, x23 => laws_FnColouringsAreLeast.l2 k x16 x17 x23 (x23.length : Int) 0
def laws_FnColouringsAreLeast.l2 : Nat → Int → Int → List Int → Int → Int → Option (Bool)
 | 0, _, _, _, _, _ => none
 | k + 1, x16, x17, x264, x265, x266 => if x266 < x265 then (if 0 ≤ x266 then (if x266 < (x264.length : Int) then (laws_FnColouringsAreLeast.l3 k x16 x17 (rd x264 x266) 0 x264 x265 x266) else (none)) else (none)) else (some true)
def laws_FnColouringsAreLeast.l3 : Nat → Int → Int → Int → Int → List Int → Int → Int → Option (Bool)
 | 0, _, _, _, _, _, _, _ => none
 | k + 1, x16, x17, x38, x39, x264, x265, x266 => if x39 < x16 then (if x17 > 1 then (if 0 ≤ x39 then (if (Int.tmod (shr .i64 x38 x39) 2) = 1 then (if x16 = 0 then (none) else (if 0 ≤ (Int.tmod (wrap64 (x39 + 1)) x16) then (if (Int.tmod (shr .i64 x38 (Int.tmod (wrap64 (x39 + 1)) x16)) 2) = 1 then (none) else (laws_FnColouringsAreLeast.l3 k x16 x17 x38 (wrap64 (x39 + 1)) x264 x265 x266)) else (none))) else (laws_FnColouringsAreLeast.l3 k x16 x17 x38 (wrap64 (x39 + 1)) x264 x265 x266)) else (none)) else (laws_FnColouringsAreLeast.l3 k x16 x17 x38 (wrap64 (x39 + 1)) x264 x265 x266)) else (laws_FnColouringsAreLeast.l2 k x16 x17 x264 x265 (wrap64 (x266 + 1)))
def laws_FnColouringsAreLeast.j5 : Nat → Int → Int → List Int → List Int → Bool → Option (Bool)
 | 0, _, _, _, _, _ => none
 | k + 1, x16, x17, x19, x23, x230 => if x230 = true then (none) else (laws_FnColouringsAreLeast.l0 k x16 x17 x19 x23 x19 (x19.length : Int) 0)
def laws_FnColouringsAreLeast.l0 : Nat → Int → Int → List Int → List Int → List Int → Int → Int → Option (Bool)
 | 0, _, _, _, _, _, _, _ => none
 | k + 1, x16, x17, x19, x23, x231, x232, x233 => if x233 < x232 then (if 0 ≤ x233 then (if x233 < (x231.length : Int) then (if x233 ≤ (x19.length : Int) then ((some (x19.take (x233 : Int).toNat : List Int)).bind fun y324 => (laws_FnColouringsAreLeast.l1 k x16 x17 x19 x23 x233 (rd x231 x233) x231 x232 x233 y324 (y324.length : Int) 0)) else (none)) else (none)) else (none)) else (laws_FnColouringsAreLeast.j8 k x16 x17 x23)
def laws_FnColouringsAreLeast.l1 : Nat → Int → Int → List Int → List Int → Int → Int → List Int → Int → Int → List Int → Int → Int → Option (Bool)
 | 0, _, _, _, _, _, _, _, _, _, _, _, _ => none
 | k + 1, x16, x17, x19, x23, x33, x34, x231, x232, x233, x240, x241, x242 => if x242 < x241 then (if 0 ≤ x242 then (if x242 < (x240.length : Int) then (if x34 = (rd x240 x242) then (if 0 ≤ x33 then (if x33 < (x23.length : Int) then (if x242 < (x23.length : Int) then (if (Go.bits .and .i64 (rd x23 x33) (rd x23 x242)) = 0 then (none) else (laws_FnColouringsAreLeast.l1 k x16 x17 x19 x23 x33 x34 x231 x232 x233 x240 x241 (wrap64 (x242 + 1)))) else (none)) else (none)) else (none)) else (laws_FnColouringsAreLeast.l1 k x16 x17 x19 x23 x33 x34 x231 x232 x233 x240 x241 (wrap64 (x242 + 1)))) else (none)) else (none)) else (laws_FnColouringsAreLeast.l0 k x16 x17 x19 x23 x231 x232 (wrap64 (x233 + 1)))
end
def laws_FnColouringsAreLeast.f (k : Nat) (l0 : List Int) (l1 : List Int) : Option (Bool) := (laws_big.f l0 l1).bind fun t279 => (if t279 = true then (some true) else ((spec_DrawColourWith.f l0).bind fun bt280 => ((impl_ColourWith.f k bt280.1 bt280.2.1 bt280.2.2).bind fun bt283 => ((spec_ColourWith.f k bt280.1 bt280.2.1 bt280.2.2).bind fun bt287 => (if (bt283.2 != bt287.2) = true then (none) else ((laws_uSame.f k bt283.1 bt287.1).bind fun t291 => (laws_FnColouringsAreLeast.j0 k l1 bt280.1 bt280.2.1 bt280.2.2 bt283.1 bt283.2 (!t291))))))))
theorem laws_FnColouringsAreLeast.mono_l : ∀ k, (∀ y0 y1 y2 y3 y4 y5 y6, LeO (laws_FnColouringsAreLeast.j0 k y0 y1 y2 y3 y4 y5 y6) (laws_FnColouringsAreLeast.j0 (k + 1) y0 y1 y2 y3 y4 y5 y6)) ∧ (∀ y0 y1 y2 y3 y4 y5 y6 y7, LeO (laws_FnColouringsAreLeast.j1 k y0 y1 y2 y3 y4 y5 y6 y7) (laws_FnColouringsAreLeast.j1 (k + 1) y0 y1 y2 y3 y4 y5 y6 y7)) ∧ (∀ y0, LeO (laws_FnColouringsAreLeast.j2 k y0) (laws_FnColouringsAreLeast.j2 (k + 1) y0)) ∧ (∀ y0 y1 y2 y3 y4 y5 y6 y7, LeO (laws_FnColouringsAreLeast.j3 k y0 y1 y2 y3 y4 y5 y6 y7) (laws_FnColouringsAreLeast.j3 (k + 1) y0 y1 y2 y3 y4 y5 y6 y7)) ∧ (∀ y0 y1 y2 y3 y4 y5 y6 y7 y8, LeO (laws_FnColouringsAreLeast.j4 k y0 y1 y2 y3 y4 y5 y6 y7 y8) (laws_FnColouringsAreLeast.j4 (k + 1) y0 y1 y2 y3 y4 y5 y6 y7 y8)) ∧ (∀ y0 y1 y2, LeO (laws_FnColouringsAreLeast.j8 k y0 y1 y2) (laws_FnColouringsAreLeast.j8 (k + 1) y0 y1 y2)) ∧ (∀ y0 y1 y2 y3 y4, LeO (laws_FnColouringsAreLeast.l2 k y0 y1 y2 y3 y4) (laws_FnColouringsAreLeast.l2 (k + 1) y0 y1 y2 y3 y4)) ∧ (∀ y0 y1 y2 y3 y4 y5 y6, LeO (laws_FnColouringsAreLeast.l3 k y0 y1 y2 y3 y4 y5 y6) (laws_FnColouringsAreLeast.l3 (k + 1) y0 y1 y2 y3 y4 y5 y6)) ∧ (∀ y0 y1 y2 y3 y4, LeO (laws_FnColouringsAreLeast.j5 k y0 y1 y2 y3 y4) (laws_FnColouringsAreLeast.j5 (k + 1) y0 y1 y2 y3 y4)) ∧ (∀ y0 y1 y2 y3 y4 y5 y6, LeO (laws_FnColouringsAreLeast.l0 k y0 y1 y2 y3 y4 y5 y6) (laws_FnColouringsAreLeast.l0 (k + 1) y0 y1 y2 y3 y4 y5 y6)) ∧ (∀ y0 y1 y2 y3 y4 y5 y6 y7 y8 y9 y10 y11, LeO (laws_FnColouringsAreLeast.l1 k y0 y1 y2 y3 y4 y5 y6 y7 y8 y9 y10 y11) (laws_FnColouringsAreLeast.l1 (k + 1) y0 y1 y2 y3 y4 y5 y6 y7 y8 y9 y10 y11))
 | 0 => ⟨fun _ _ _ _ _ _ _ r h => by simp [laws_FnColouringsAreLeast.j0] at h, fun _ _ _ _ _ _ _ _ r h => by simp [laws_FnColouringsAreLeast.j1] at h, fun _ r h => by simp [laws_FnColouringsAreLeast.j2] at h, fun _ _ _ _ _ _ _ _ r h => by simp [laws_FnColouringsAreLeast.j3] at h, fun _ _ _ _ _ _ _ _ _ r h => by simp [laws_FnColouringsAreLeast.j4] at h, fun _ _ _ r h => by simp [laws_FnColouringsAreLeast.j8] at h, fun _ _ _ _ _ r h => by simp [laws_FnColouringsAreLeast.l2] at h, fun _ _ _ _ _ _ _ r h => by simp [laws_FnColouringsAreLeast.l3] at h, fun _ _ _ _ _ r h => by simp [laws_FnColouringsAreLeast.j5] at h, fun _ _ _ _ _ _ _ r h => by simp [laws_FnColouringsAreLeast.l0] at h, fun _ _ _ _ _ _ _ _ _ _ _ _ r h => by simp [laws_FnColouringsAreLeast.l1] at h⟩
 | k + 1 => by
  obtain ⟨ih0, ih1, ih2, ih3, ih4, ih5, ih6, ih7, ih8, ih9, ih10⟩ := laws_FnColouringsAreLeast.mono_l k
  refine ⟨?_, ?_, ?_, ?_, ?_, ?_, ?_, ?_, ?_, ?_, ?_⟩
  ·intro y0 y1 y2 y3 y4 y5 y6
   unfold laws_FnColouringsAreLeast.j0
   repeat' first
   | with_reducible first | exact ih0 _ _ _ _ _ _ _ | exact ih1 _ _ _ _ _ _ _ _ | exact ih2 _ | exact ih3 _ _ _ _ _ _ _ _ | exact ih4 _ _ _ _ _ _ _ _ _ | exact ih5 _ _ _ | exact ih6 _ _ _ _ _ | exact ih7 _ _ _ _ _ _ _ | exact ih8 _ _ _ _ _ | exact ih9 _ _ _ _ _ _ _ | exact ih10 _ _ _ _ _ _ _ _ _ _ _ _ | exact impl_ColourStableWith.mono _ _ _ _ | exact impl_ColourWith.mono _ _ _ _ | exact impl_CountStable.mono _ _ _ | exact impl_IsColouring.mono _ _ _ _ | exact impl_StableSets.mono _ _ _ | exact laws_uSame.mono _ _ _ | exact spec_ColourStableWith.mono _ _ _ _ | exact spec_ColourWith.mono _ _ _ _ | exact spec_CountStable.mono _ _ _ | exact spec_StableSets.mono _ _ _ | exact LeO.refl _ | exact LeO.none _ | refine LeO.ite ?_ ?_ | refine LeO.bind ?_ (fun _ => ?_)
   | exact LeO.none _ | refine LeO.ite ?_ ?_ | refine LeO.bind ?_ (fun _ => ?_)
  ·intro y0 y1 y2 y3 y4 y5 y6 y7
   unfold laws_FnColouringsAreLeast.j1
   repeat' first
   | with_reducible first | exact ih0 _ _ _ _ _ _ _ | exact ih1 _ _ _ _ _ _ _ _ | exact ih2 _ | exact ih3 _ _ _ _ _ _ _ _ | exact ih4 _ _ _ _ _ _ _ _ _ | exact ih5 _ _ _ | exact ih6 _ _ _ _ _ | exact ih7 _ _ _ _ _ _ _ | exact ih8 _ _ _ _ _ | exact ih9 _ _ _ _ _ _ _ | exact ih10 _ _ _ _ _ _ _ _ _ _ _ _ | exact impl_ColourStableWith.mono _ _ _ _ | exact impl_ColourWith.mono _ _ _ _ | exact impl_CountStable.mono _ _ _ | exact impl_IsColouring.mono _ _ _ _ | exact impl_StableSets.mono _ _ _ | exact laws_uSame.mono _ _ _ | exact spec_ColourStableWith.mono _ _ _ _ | exact spec_ColourWith.mono _ _ _ _ | exact spec_CountStable.mono _ _ _ | exact spec_StableSets.mono _ _ _ | exact LeO.refl _ | exact LeO.none _ | refine LeO.ite ?_ ?_ | refine LeO.bind ?_ (fun _ => ?_)
   | exact LeO.none _ | refine LeO.ite ?_ ?_ | refine LeO.bind ?_ (fun _ => ?_)
  ·intro y0
   unfold laws_FnColouringsAreLeast.j2
   repeat' first
   | with_reducible first | exact ih0 _ _ _ _ _ _ _ | exact ih1 _ _ _ _ _ _ _ _ | exact ih2 _ | exact ih3 _ _ _ _ _ _ _ _ | exact ih4 _ _ _ _ _ _ _ _ _ | exact ih5 _ _ _ | exact ih6 _ _ _ _ _ | exact ih7 _ _ _ _ _ _ _ | exact ih8 _ _ _ _ _ | exact ih9 _ _ _ _ _ _ _ | exact ih10 _ _ _ _ _ _ _ _ _ _ _ _ | exact impl_ColourStableWith.mono _ _ _ _ | exact impl_ColourWith.mono _ _ _ _ | exact impl_CountStable.mono _ _ _ | exact impl_IsColouring.mono _ _ _ _ | exact impl_StableSets.mono _ _ _ | exact laws_uSame.mono _ _ _ | exact spec_ColourStableWith.mono _ _ _ _ | exact spec_ColourWith.mono _ _ _ _ | exact spec_CountStable.mono _ _ _ | exact spec_StableSets.mono _ _ _ | exact LeO.refl _ | exact LeO.none _ | refine LeO.ite ?_ ?_ | refine LeO.bind ?_ (fun _ => ?_)
   | exact LeO.none _ | refine LeO.ite ?_ ?_ | refine LeO.bind ?_ (fun _ => ?_)
  ·intro y0 y1 y2 y3 y4 y5 y6 y7
   unfold laws_FnColouringsAreLeast.j3
   repeat' first
   | with_reducible first | exact ih0 _ _ _ _ _ _ _ | exact ih1 _ _ _ _ _ _ _ _ | exact ih2 _ | exact ih3 _ _ _ _ _ _ _ _ | exact ih4 _ _ _ _ _ _ _ _ _ | exact ih5 _ _ _ | exact ih6 _ _ _ _ _ | exact ih7 _ _ _ _ _ _ _ | exact ih8 _ _ _ _ _ | exact ih9 _ _ _ _ _ _ _ | exact ih10 _ _ _ _ _ _ _ _ _ _ _ _ | exact impl_ColourStableWith.mono _ _ _ _ | exact impl_ColourWith.mono _ _ _ _ | exact impl_CountStable.mono _ _ _ | exact impl_IsColouring.mono _ _ _ _ | exact impl_StableSets.mono _ _ _ | exact laws_uSame.mono _ _ _ | exact spec_ColourStableWith.mono _ _ _ _ | exact spec_ColourWith.mono _ _ _ _ | exact spec_CountStable.mono _ _ _ | exact spec_StableSets.mono _ _ _ | exact LeO.refl _ | exact LeO.none _ | refine LeO.ite ?_ ?_ | refine LeO.bind ?_ (fun _ => ?_)
   | exact LeO.none _ | refine LeO.ite ?_ ?_ | refine LeO.bind ?_ (fun _ => ?_)
  ·intro y0 y1 y2 y3 y4 y5 y6 y7 y8
   unfold laws_FnColouringsAreLeast.j4
   repeat' first
   | with_reducible first | exact ih0 _ _ _ _ _ _ _ | exact ih1 _ _ _ _ _ _ _ _ | exact ih2 _ | exact ih3 _ _ _ _ _ _ _ _ | exact ih4 _ _ _ _ _ _ _ _ _ | exact ih5 _ _ _ | exact ih6 _ _ _ _ _ | exact ih7 _ _ _ _ _ _ _ | exact ih8 _ _ _ _ _ | exact ih9 _ _ _ _ _ _ _ | exact ih10 _ _ _ _ _ _ _ _ _ _ _ _ | exact impl_ColourStableWith.mono _ _ _ _ | exact impl_ColourWith.mono _ _ _ _ | exact impl_CountStable.mono _ _ _ | exact impl_IsColouring.mono _ _ _ _ | exact impl_StableSets.mono _ _ _ | exact laws_uSame.mono _ _ _ | exact spec_ColourStableWith.mono _ _ _ _ | exact spec_ColourWith.mono _ _ _ _ | exact spec_CountStable.mono _ _ _ | exact spec_StableSets.mono _ _ _ | exact LeO.refl _ | exact LeO.none _ | refine LeO.ite ?_ ?_ | refine LeO.bind ?_ (fun _ => ?_)
   | exact LeO.none _ | refine LeO.ite ?_ ?_ | refine LeO.bind ?_ (fun _ => ?_)
  ·intro y0 y1 y2
   unfold laws_FnColouringsAreLeast.j8
   repeat' first
   | with_reducible first | exact ih0 _ _ _ _ _ _ _ | exact ih1 _ _ _ _ _ _ _ _ | exact ih2 _ | exact ih3 _ _ _ _ _ _ _ _ | exact ih4 _ _ _ _ _ _ _ _ _ | exact ih5 _ _ _ | exact ih6 _ _ _ _ _ | exact ih7 _ _ _ _ _ _ _ | exact ih8 _ _ _ _ _ | exact ih9 _ _ _ _ _ _ _ | exact ih10 _ _ _ _ _ _ _ _ _ _ _ _ | exact impl_ColourStableWith.mono _ _ _ _ | exact impl_ColourWith.mono _ _ _ _ | exact impl_CountStable.mono _ _ _ | exact impl_IsColouring.mono _ _ _ _ | exact impl_StableSets.mono _ _ _ | exact laws_uSame.mono _ _ _ | exact spec_ColourStableWith.mono _ _ _ _ | exact spec_ColourWith.mono _ _ _ _ | exact spec_CountStable.mono _ _ _ | exact spec_StableSets.mono _ _ _ | exact LeO.refl _ | exact LeO.none _ | refine LeO.ite ?_ ?_ | refine LeO.bind ?_ (fun _ => ?_)
   | exact LeO.none _ | refine LeO.ite ?_ ?_ | refine LeO.bind ?_ (fun _ => ?_)
  ·intro y0 y1 y2 y3 y4
   unfold laws_FnColouringsAreLeast.l2
   repeat' first
   | with_reducible first | exact ih0 _ _ _ _ _ _ _ | exact ih1 _ _ _ _ _ _ _ _ | exact ih2 _ | exact ih3 _ _ _ _ _ _ _ _ | exact ih4 _ _ _ _ _ _ _ _ _ | exact ih5 _ _ _ | exact ih6 _ _ _ _ _ | exact ih7 _ _ _ _ _ _ _ | exact ih8 _ _ _ _ _ | exact ih9 _ _ _ _ _ _ _ | exact ih10 _ _ _ _ _ _ _ _ _ _ _ _ | exact impl_ColourStableWith.mono _ _ _ _ | exact impl_ColourWith.mono _ _ _ _ | exact impl_CountStable.mono _ _ _ | exact impl_IsColouring.mono _ _ _ _ | exact impl_StableSets.mono _ _ _ | exact laws_uSame.mono _ _ _ | exact spec_ColourStableWith.mono _ _ _ _ | exact spec_ColourWith.mono _ _ _ _ | exact spec_CountStable.mono _ _ _ | exact spec_StableSets.mono _ _ _ | exact LeO.refl _ | exact LeO.none _ | refine LeO.ite ?_ ?_ | refine LeO.bind ?_ (fun _ => ?_)
   | exact LeO.none _ | refine LeO.ite ?_ ?_ | refine LeO.bind ?_ (fun _ => ?_)
  ·intro y0 y1 y2 y3 y4 y5 y6
   unfold laws_FnColouringsAreLeast.l3
   repeat' first
   | with_reducible first | exact ih0 _ _ _ _ _ _ _ | exact ih1 _ _ _ _ _ _ _ _ | exact ih2 _ | exact ih3 _ _ _ _ _ _ _ _ | exact ih4 _ _ _ _ _ _ _ _ _ | exact ih5 _ _ _ | exact ih6 _ _ _ _ _ | exact ih7 _ _ _ _ _ _ _ | exact ih8 _ _ _ _ _ | exact ih9 _ _ _ _ _ _ _ | exact ih10 _ _ _ _ _ _ _ _ _ _ _ _ | exact impl_ColourStableWith.mono _ _ _ _ | exact impl_ColourWith.mono _ _ _ _ | exact impl_CountStable.mono _ _ _ | exact impl_IsColouring.mono _ _ _ _ | exact impl_StableSets.mono _ _ _ | exact laws_uSame.mono _ _ _ | exact spec_ColourStableWith.mono _ _ _ _ | exact spec_ColourWith.mono _ _ _ _ | exact spec_CountStable.mono _ _ _ | exact spec_StableSets.mono _ _ _ | exact LeO.refl _ | exact LeO.none _ | refine LeO.ite ?_ ?_ | refine LeO.bind ?_ (fun _ => ?_)
   | exact LeO.none _ | refine LeO.ite ?_ ?_ | refine LeO.bind ?_ (fun _ => ?_)
  ·intro y0 y1 y2 y3 y4
   unfold laws_FnColouringsAreLeast.j5
   repeat' first
   | with_reducible first | exact ih0 _ _ _ _ _ _ _ | exact ih1 _ _ _ _ _ _ _ _ | exact ih2 _ | exact ih3 _ _ _ _ _ _ _ _ | exact ih4 _ _ _ _ _ _ _ _ _ | exact ih5 _ _ _ | exact ih6 _ _ _ _ _ | exact ih7 _ _ _ _ _ _ _ | exact ih8 _ _ _ _ _ | exact ih9 _ _ _ _ _ _ _ | exact ih10 _ _ _ _ _ _ _ _ _ _ _ _ | exact impl_ColourStableWith.mono _ _ _ _ | exact impl_ColourWith.mono _ _ _ _ | exact impl_CountStable.mono _ _ _ | exact impl_IsColouring.mono _ _ _ _ | exact impl_StableSets.mono _ _ _ | exact laws_uSame.mono _ _ _ | exact spec_ColourStableWith.mono _ _ _ _ | exact spec_ColourWith.mono _ _ _ _ | exact spec_CountStable.mono _ _ _ | exact spec_StableSets.mono _ _ _ | exact LeO.refl _ | exact LeO.none _ | refine LeO.ite ?_ ?_ | refine LeO.bind ?_ (fun _ => ?_)
   | exact LeO.none _ | refine LeO.ite ?_ ?_ | refine LeO.bind ?_ (fun _ => ?_)
  ·intro y0 y1 y2 y3 y4 y5 y6
   unfold laws_FnColouringsAreLeast.l0
   repeat' first
   | with_reducible first | exact ih0 _ _ _ _ _ _ _ | exact ih1 _ _ _ _ _ _ _ _ | exact ih2 _ | exact ih3 _ _ _ _ _ _ _ _ | exact ih4 _ _ _ _ _ _ _ _ _ | exact ih5 _ _ _ | exact ih6 _ _ _ _ _ | exact ih7 _ _ _ _ _ _ _ | exact ih8 _ _ _ _ _ | exact ih9 _ _ _ _ _ _ _ | exact ih10 _ _ _ _ _ _ _ _ _ _ _ _ | exact impl_ColourStableWith.mono _ _ _ _ | exact impl_ColourWith.mono _ _ _ _ | exact impl_CountStable.mono _ _ _ | exact impl_IsColouring.mono _ _ _ _ | exact impl_StableSets.mono _ _ _ | exact laws_uSame.mono _ _ _ | exact spec_ColourStableWith.mono _ _ _ _ | exact spec_ColourWith.mono _ _ _ _ | exact spec_CountStable.mono _ _ _ | exact spec_StableSets.mono _ _ _ | exact LeO.refl _ | exact LeO.none _ | refine LeO.ite ?_ ?_ | refine LeO.bind ?_ (fun _ => ?_)
   | exact LeO.none _ | refine LeO.ite ?_ ?_ | refine LeO.bind ?_ (fun _ => ?_)
  ·intro y0 y1 y2 y3 y4 y5 y6 y7 y8 y9 y10 y11
   unfold laws_FnColouringsAreLeast.l1
   repeat' first
   | with_reducible first | exact ih0 _ _ _ _ _ _ _ | exact ih1 _ _ _ _ _ _ _ _ | exact ih2 _ | exact ih3 _ _ _ _ _ _ _ _ | exact ih4 _ _ _ _ _ _ _ _ _ | exact ih5 _ _ _ | exact ih6 _ _ _ _ _ | exact ih7 _ _ _ _ _ _ _ | exact ih8 _ _ _ _ _ | exact ih9 _ _ _ _ _ _ _ | exact ih10 _ _ _ _ _ _ _ _ _ _ _ _ | exact impl_ColourStableWith.mono _ _ _ _ | exact impl_ColourWith.mono _ _ _ _ | exact impl_CountStable.mono _ _ _ | exact impl_IsColouring.mono _ _ _ _ | exact impl_StableSets.mono _ _ _ | exact laws_uSame.mono _ _ _ | exact spec_ColourStableWith.mono _ _ _ _ | exact spec_ColourWith.mono _ _ _ _ | exact spec_CountStable.mono _ _ _ | exact spec_StableSets.mono _ _ _ | exact LeO.refl _ | exact LeO.none _ | refine LeO.ite ?_ ?_ | refine LeO.bind ?_ (fun _ => ?_)
   | exact LeO.none _ | refine LeO.ite ?_ ?_ | refine LeO.bind ?_ (fun _ => ?_)
theorem laws_FnColouringsAreLeast.mono : ∀ a0 a1 k, LeO (laws_FnColouringsAreLeast.f k a0 a1) (laws_FnColouringsAreLeast.f (k + 1) a0 a1) := by
 intro a0 a1 k
 obtain ⟨ih0, ih1, ih2, ih3, ih4, ih5, ih6, ih7, ih8, ih9, ih10⟩ := laws_FnColouringsAreLeast.mono_l k
 unfold laws_FnColouringsAreLeast.f
 repeat' first
   | with_reducible first | exact ih0 _ _ _ _ _ _ _ | exact ih1 _ _ _ _ _ _ _ _ | exact ih2 _ | exact ih3 _ _ _ _ _ _ _ _ | exact ih4 _ _ _ _ _ _ _ _ _ | exact ih5 _ _ _ | exact ih6 _ _ _ _ _ | exact ih7 _ _ _ _ _ _ _ | exact ih8 _ _ _ _ _ | exact ih9 _ _ _ _ _ _ _ | exact ih10 _ _ _ _ _ _ _ _ _ _ _ _ | exact impl_ColourStableWith.mono _ _ _ _ | exact impl_ColourWith.mono _ _ _ _ | exact impl_CountStable.mono _ _ _ | exact impl_IsColouring.mono _ _ _ _ | exact impl_StableSets.mono _ _ _ | exact laws_uSame.mono _ _ _ | exact spec_ColourStableWith.mono _ _ _ _ | exact spec_ColourWith.mono _ _ _ _ | exact spec_CountStable.mono _ _ _ | exact spec_StableSets.mono _ _ _ | exact LeO.refl _ | exact LeO.none _ | refine LeO.ite ?_ ?_ | refine LeO.bind ?_ (fun _ => ?_)
   | exact LeO.none _ | refine LeO.ite ?_ ?_ | refine LeO.bind ?_ (fun _ => ?_)
theorem laws_FnColouringsAreLeast.calls (k : Nat) (A0 : Option Addr) (c0 : Nat) (l0 : List Int) (A1 : Option Addr) (c1 : Nat) (l1 : List Int) (r : Bool) (w : World) (hr0 : Kd.C (Kd.int .u8) w A0 l0.length l0) (hc0 : l0.length ≤ c0) (hr1 : Kd.C (Kd.int .u8) w A1 l1.length l1) (hc1 : l1.length ≤ c1) (h : laws_FnColouringsAreLeast.f k l0 l1 = some r) :
  Calls Try.prog 4 #[.slice A0 l0.length c0, .slice A1 l1.length c1] w fun e w' => e = .returned (.bool r) ∧ Below w.heap.size w w' := by
 have HR0 := Aside0.mk hr0
 have HC0 := Aside0.mk hc0
 clear hr0 hc0
 have HR1 := Aside0.mk hr1
 have HC1 := Aside0.mk hc1
 clear hr1 hc1
 have HB := Aside0.mk (Below.refl w.heap.size w)
 have H : ((laws_big.f l0 l1).bind fun t279 => (if t279 = true then (some true) else ((spec_DrawColourWith.f l0).bind fun bt280 => ((impl_ColourWith.f k bt280.1 bt280.2.1 bt280.2.2).bind fun bt283 => ((spec_ColourWith.f k bt280.1 bt280.2.1 bt280.2.2).bind fun bt287 => (if (bt283.2 != bt287.2) = true then (none) else ((laws_uSame.f k bt283.1 bt287.1).bind fun t291 => (laws_FnColouringsAreLeast.j0 k l1 bt280.1 bt280.2.1 bt280.2.2 bt283.1 bt283.2 (!t291))))))))) = some r := h
 clear h
 obtain ⟨t279, A30, H⟩ := Option.bind_eq_some_iff.mp H
 have A3 := Aside0.mk A30
 clear A30
 by_cases c4 : t279 = true
 ·subst c4
  replace H := IP H
  obtain rfl := Option.some.inj H
  go_enter Try.func4, Try.ntmps4
  go_wp2_with (first | (go_at_call 6; (with_reducible refine (laws_big.calls _ _ l0 _ _ l1 true _ ?side1 ?side2 ?side3 ?side4 A3.out).mono ?_); (case side1 => exact CW HR0.out); (case side2 => exact HC0.out); (case side3 => exact CW HR1.out); (case side4 => exact HC1.out); rintro e w' ⟨rfl, ⟨nd, rfl⟩⟩; (try first | exact ⟨rfl, _, World.drewN_drewN _ _ _⟩ | exact ⟨rfl, _, Eq.trans (World.drewN_drewN _ _ _) (congrArg (World.drewN _) (Nat.add_assoc _ _ _))⟩)))
  repeat (go_quiet (first | (go_at_call 6; (with_reducible refine (laws_big.calls _ _ l0 _ _ l1 true _ ?side1 ?side2 ?side3 ?side4 A3.out).mono ?_); (case side1 => exact CW HR0.out); (case side2 => exact HC0.out); (case side3 => exact CW HR1.out); (case side4 => exact HC1.out); rintro e w' ⟨rfl, ⟨nd, rfl⟩⟩; (try first | exact ⟨rfl, _, World.drewN_drewN _ _ _⟩ | exact ⟨rfl, _, Eq.trans (World.drewN_drewN _ _ _) (congrArg (World.drewN _) (Nat.add_assoc _ _ _))⟩))); try go_wp2_with (first | (go_at_call 6; (with_reducible refine (laws_big.calls _ _ l0 _ _ l1 true _ ?side1 ?side2 ?side3 ?side4 A3.out).mono ?_); (case side1 => exact CW HR0.out); (case side2 => exact HC0.out); (case side3 => exact CW HR1.out); (case side4 => exact HC1.out); rintro e w' ⟨rfl, ⟨nd, rfl⟩⟩; (try first | exact ⟨rfl, _, World.drewN_drewN _ _ _⟩ | exact ⟨rfl, _, Eq.trans (World.drewN_drewN _ _ _) (congrArg (World.drewN _) (Nat.add_assoc _ _ _))⟩))))
  go_ret
  exact ⟨RE, BB⟩
 ·replace c4 := Bool.eq_false_iff.mpr c4
  subst c4
  replace H := IN H
  obtain ⟨⟨t280, t281, t282⟩, A50, H⟩ := Option.bind_eq_some_iff.mp H
  replace H : ((impl_ColourWith.f k t280 t281 t282).bind fun bt283 => ((spec_ColourWith.f k t280 t281 t282).bind fun bt287 => (if (bt283.2 != bt287.2) = true then (none) else ((laws_uSame.f k bt283.1 bt287.1).bind fun t291 => (laws_FnColouringsAreLeast.j0 k l1 t280 t281 t282 bt283.1 bt283.2 (!t291)))))) = some r := H
  have A5 := Aside0.mk A50
  clear A50
  obtain ⟨⟨t283, t284⟩, A60, H⟩ := Option.bind_eq_some_iff.mp H
  replace H : ((spec_ColourWith.f k t280 t281 t282).bind fun bt287 => (if (t284 != bt287.2) = true then (none) else ((laws_uSame.f k t283 bt287.1).bind fun t291 => (laws_FnColouringsAreLeast.j0 k l1 t280 t281 t282 t283 t284 (!t291))))) = some r := H
  have A6 := Aside0.mk A60
  clear A60
  obtain ⟨⟨t287, t288⟩, A70, H⟩ := Option.bind_eq_some_iff.mp H
  replace H : (if (t284 != t288) = true then (none) else ((laws_uSame.f k t283 t287).bind fun t291 => (laws_FnColouringsAreLeast.j0 k l1 t280 t281 t282 t283 t284 (!t291)))) = some r := H
  have A7 := Aside0.mk A70
  clear A70
  have HC8 := Aside0.mk H
  clear H
  go_enter Try.func4, Try.ntmps4
  go_upto_region 6 with (first | (go_at_call 6; (with_reducible refine (laws_big.calls _ _ l0 _ _ l1 false _ ?side1 ?side2 ?side3 ?side4 A3.out).mono ?_); (case side1 => exact CW HR0.out); (case side2 => exact HC0.out); (case side3 => exact CW HR1.out); (case side4 => exact HC1.out); rintro e w' ⟨rfl, ⟨nd, rfl⟩⟩; (try first | exact ⟨rfl, _, World.drewN_drewN _ _ _⟩ | exact ⟨rfl, _, Eq.trans (World.drewN_drewN _ _ _) (congrArg (World.drewN _) (Nat.add_assoc _ _ _))⟩)) | (go_at_call 16; (with_reducible refine (spec_DrawColourWith.calls _ _ l0 t280 t281 t282 _ ?side1 ?side2 A5.out).mono ?_); (case side1 => exact CW HR0.out); (case side2 => exact HC0.out); rintro e w9 ⟨rfl, hb⟩; have n0_ := Aside0.mk (below_step BB hb); clear HB; have HB := n0_; clear n0_; (try clear hb); (try clear hb2); (try clear hk); (try clear hi)) | (go_at_call 17; (with_reducible refine (impl_ColourWith.calls k t280 t281 t282 t283 t284 _ A6.out).mono ?_); rintro e w10 ⟨v285, rfl, ho0, hb⟩; have n0_ := Aside0.mk (Kd.R_lower ho0 (below_size BB)); have n1_ := Aside0.mk (below_step BB hb); clear HB; have HO286 := n0_; have HB := n1_; clear n0_ n1_; (try clear hb); (try clear hb2); (try clear hk); (try clear hi); (try clear ho0)) | (go_at_call 18; (with_reducible refine (spec_ColourWith.calls k t280 t281 t282 t287 t288 _ A7.out).mono ?_); rintro e w11 ⟨v289, rfl, ho0, hb⟩; have n0_ := Aside0.mk (Kd.R_elder' (KR HO286) (Kd.R_base ho0) hb); have n1_ := Aside0.mk (Kd.R_lower (Kd.R_new' ho0 (Kd.R_lt (KR HO286))) (below_size BB)); have n2_ := Aside0.mk (below_step BB hb); clear HO286; clear HB; have HO286 := n0_; have HO290 := n1_; have HB := n2_; clear n0_ n1_ n2_; (try clear hb); (try clear hb2); (try clear hk); (try clear hi); (try clear ho0)))
  repeat (go_quiet (first | (go_at_call 6; (with_reducible refine (laws_big.calls _ _ l0 _ _ l1 false _ ?side1 ?side2 ?side3 ?side4 A3.out).mono ?_); (case side1 => exact CW HR0.out); (case side2 => exact HC0.out); (case side3 => exact CW HR1.out); (case side4 => exact HC1.out); rintro e w' ⟨rfl, ⟨nd, rfl⟩⟩; (try first | exact ⟨rfl, _, World.drewN_drewN _ _ _⟩ | exact ⟨rfl, _, Eq.trans (World.drewN_drewN _ _ _) (congrArg (World.drewN _) (Nat.add_assoc _ _ _))⟩)) | (go_at_call 16; (with_reducible refine (spec_DrawColourWith.calls _ _ l0 t280 t281 t282 _ ?side1 ?side2 A5.out).mono ?_); (case side1 => exact CW HR0.out); (case side2 => exact HC0.out); rintro e w9 ⟨rfl, hb⟩; have n0_ := Aside0.mk (below_step BB hb); clear HB; have HB := n0_; clear n0_; (try clear hb); (try clear hb2); (try clear hk); (try clear hi)) | (go_at_call 17; (with_reducible refine (impl_ColourWith.calls k t280 t281 t282 t283 t284 _ A6.out).mono ?_); rintro e w10 ⟨v285, rfl, ho0, hb⟩; have n0_ := Aside0.mk (Kd.R_lower ho0 (below_size BB)); have n1_ := Aside0.mk (below_step BB hb); clear HB; have HO286 := n0_; have HB := n1_; clear n0_ n1_; (try clear hb); (try clear hb2); (try clear hk); (try clear hi); (try clear ho0)) | (go_at_call 18; (with_reducible refine (spec_ColourWith.calls k t280 t281 t282 t287 t288 _ A7.out).mono ?_); rintro e w11 ⟨v289, rfl, ho0, hb⟩; have n0_ := Aside0.mk (Kd.R_elder' (KR HO286) (Kd.R_base ho0) hb); have n1_ := Aside0.mk (Kd.R_lower (Kd.R_new' ho0 (Kd.R_lt (KR HO286))) (below_size BB)); have n2_ := Aside0.mk (below_step BB hb); clear HO286; clear HB; have HO286 := n0_; have HO290 := n1_; have HB := n2_; clear n0_ n1_ n2_; (try clear hb); (try clear hb2); (try clear hk); (try clear hi); (try clear ho0))); go_upto_region 6 with (first | (go_at_call 6; (with_reducible refine (laws_big.calls _ _ l0 _ _ l1 false _ ?side1 ?side2 ?side3 ?side4 A3.out).mono ?_); (case side1 => exact CW HR0.out); (case side2 => exact HC0.out); (case side3 => exact CW HR1.out); (case side4 => exact HC1.out); rintro e w' ⟨rfl, ⟨nd, rfl⟩⟩; (try first | exact ⟨rfl, _, World.drewN_drewN _ _ _⟩ | exact ⟨rfl, _, Eq.trans (World.drewN_drewN _ _ _) (congrArg (World.drewN _) (Nat.add_assoc _ _ _))⟩)) | (go_at_call 16; (with_reducible refine (spec_DrawColourWith.calls _ _ l0 t280 t281 t282 _ ?side1 ?side2 A5.out).mono ?_); (case side1 => exact CW HR0.out); (case side2 => exact HC0.out); rintro e w9 ⟨rfl, hb⟩; have n0_ := Aside0.mk (below_step BB hb); clear HB; have HB := n0_; clear n0_; (try clear hb); (try clear hb2); (try clear hk); (try clear hi)) | (go_at_call 17; (with_reducible refine (impl_ColourWith.calls k t280 t281 t282 t283 t284 _ A6.out).mono ?_); rintro e w10 ⟨v285, rfl, ho0, hb⟩; have n0_ := Aside0.mk (Kd.R_lower ho0 (below_size BB)); have n1_ := Aside0.mk (below_step BB hb); clear HB; have HO286 := n0_; have HB := n1_; clear n0_ n1_; (try clear hb); (try clear hb2); (try clear hk); (try clear hi); (try clear ho0)) | (go_at_call 18; (with_reducible refine (spec_ColourWith.calls k t280 t281 t282 t287 t288 _ A7.out).mono ?_); rintro e w11 ⟨v289, rfl, ho0, hb⟩; have n0_ := Aside0.mk (Kd.R_elder' (KR HO286) (Kd.R_base ho0) hb); have n1_ := Aside0.mk (Kd.R_lower (Kd.R_new' ho0 (Kd.R_lt (KR HO286))) (below_size BB)); have n2_ := Aside0.mk (below_step BB hb); clear HO286; clear HB; have HO286 := n0_; have HO290 := n1_; have HB := n2_; clear n0_ n1_ n2_; (try clear hb); (try clear hb2); (try clear hk); (try clear hi); (try clear ho0))))
  (try simp only [Act.put, List.setIfInBounds_toArray, List.set_cons_zero, List.set_cons_succ])
  go_cut [71] (fun v71 wc => ∃ (kq : Nat) (x71_7 : Bool), v71 = .bool x71_7 ∧ Aside0 (laws_FnColouringsAreLeast.j0 kq l1 t280 t281 t282 t283 t284 x71_7 = some r) ∧ Aside0 (kq ≤ k) ∧ Aside0 (Kd.R (Kd.int .i64) 3 wc w.heap.size (fun _ => True) v285 t283) ∧ Aside0 (Below w.heap.size w wc))
  case first => as_aux_lemma =>
   have H := HC8.out
   clear HC8
   by_cases c12 : (t284 != t288) = true
   ·rw [if_pos c12] at H
    cases H
   ·rw [if_neg c12] at H
    have c12b0 : (t284 != t288) = false := by simpa using c12
    (try (have c12b1 : decide (t284 = t288) = true := by simpa using c12))
    (try (have c12b2 : (t284 == t288) = true := by simpa using c12))
    clear c12
    (first | rw [c12b0] | (simp only [i64_w, i32_w]; rw [c12b0]) | skip)
    obtain ⟨t291, A130, H⟩ := Option.bind_eq_some_iff.mp H
    have A13 := Aside0.mk A130
    clear A130
    have H' := Aside0.mk H
    clear H
    obtain ⟨Ao14, co14, eo14⟩ := Kd.R_slice HO286.out
    subst eo14
    obtain ⟨Ao15, co15, eo15⟩ := Kd.R_slice HO290.out
    subst eo15
    go_wp2_with (first | (go_at_call 12; (with_reducible refine (laws_uSame.calls k _ _ t283 _ _ t287 t291 _ ?side1 ?side2 ?side3 ?side4 A13.out).mono ?_); (case side1 => exact CW (Kd.R_reads' HO286.out).2.2); (case side2 => exact (Kd.R_reads' HO286.out).2.1); (case side3 => exact CW (Kd.R_reads' HO290.out).2.2); (case side4 => exact (Kd.R_reads' HO290.out).2.1); rintro e w' ⟨rfl, ⟨nd, rfl⟩⟩; (try first | exact ⟨rfl, _, World.drewN_drewN _ _ _⟩ | exact ⟨rfl, _, Eq.trans (World.drewN_drewN _ _ _) (congrArg (World.drewN _) (Nat.add_assoc _ _ _))⟩)))
    repeat (go_quiet (first | (go_at_call 12; (with_reducible refine (laws_uSame.calls k _ _ t283 _ _ t287 t291 _ ?side1 ?side2 ?side3 ?side4 A13.out).mono ?_); (case side1 => exact CW (Kd.R_reads' HO286.out).2.2); (case side2 => exact (Kd.R_reads' HO286.out).2.1); (case side3 => exact CW (Kd.R_reads' HO290.out).2.2); (case side4 => exact (Kd.R_reads' HO290.out).2.1); rintro e w' ⟨rfl, ⟨nd, rfl⟩⟩; (try first | exact ⟨rfl, _, World.drewN_drewN _ _ _⟩ | exact ⟨rfl, _, Eq.trans (World.drewN_drewN _ _ _) (congrArg (World.drewN _) (Nat.add_assoc _ _ _))⟩))); try go_wp2_with (first | (go_at_call 12; (with_reducible refine (laws_uSame.calls k _ _ t283 _ _ t287 t291 _ ?side1 ?side2 ?side3 ?side4 A13.out).mono ?_); (case side1 => exact CW (Kd.R_reads' HO286.out).2.2); (case side2 => exact (Kd.R_reads' HO286.out).2.1); (case side3 => exact CW (Kd.R_reads' HO290.out).2.2); (case side4 => exact (Kd.R_reads' HO290.out).2.1); rintro e w' ⟨rfl, ⟨nd, rfl⟩⟩; (try first | exact ⟨rfl, _, World.drewN_drewN _ _ _⟩ | exact ⟨rfl, _, Eq.trans (World.drewN_drewN _ _ _) (congrArg (World.drewN _) (Nat.add_assoc _ _ _))⟩))))
    go_meet
    case rel => exact ⟨_, (!t291), RF, H', ⟨by first | omega | exact Nat.le_refl _⟩, ⟨by (with_reducible repeat (first | apply Kd.R_alloc | apply Kd.R_drewN | apply Kd.R_drew)); exact Kd.R_mono HO286.out (fun _ hk => trivial)⟩, ⟨BB⟩⟩
  case rest => as_aux_lemma =>
   clear HC8
   try clear c1
   try clear p2
   try clear c4
   try clear p6
   try clear c12
   try clear c12b0
   try clear c12b1
   try clear c12b2
   obtain ⟨kq, x71_7, rfl, HA, HJ7, HO_8, HB⟩ := hcut
   cases kq with
   | zero => exact absurd HA.out (by simp [laws_FnColouringsAreLeast.j0])
   | succ kj7 =>
    have H := HA.out
    clear HA
    simp only [laws_FnColouringsAreLeast.j0] at H
    by_cases c16 : x71_7 = true
    ·subst c16
     replace H := IP H
     cases H
    ·replace c16 := Bool.eq_false_iff.mpr c16
     subst c16
     replace H := IN H
     obtain ⟨⟨t292, t293⟩, A170, H⟩ := Option.bind_eq_some_iff.mp H
     replace H : (if t293 = true then (if t280 ≤ 6 then (if t282 ≥ 1 then (laws_FnColouringsAreLeast.j1 kj7 l1 t280 t281 t282 t283 t284 t292 (decide (t282 ≤ 8))) else (laws_FnColouringsAreLeast.j1 kj7 l1 t280 t281 t282 t283 t284 t292 false)) else (laws_FnColouringsAreLeast.j1 kj7 l1 t280 t281 t282 t283 t284 t292 false)) else (laws_FnColouringsAreLeast.j1 kj7 l1 t280 t281 t282 t283 t284 t292 false)) = some r := H
     have A17 := Aside0.mk A170
     clear A170
     have HC18 := Aside0.mk H
     clear H
     go_upto_region 9 with (first | (go_at_call 19; (with_reducible refine (impl_FewestColours.calls t280 t281 t292 t293 _ A17.out).mono ?_); rintro e w' ⟨rfl, ⟨nd, rfl⟩⟩; (try first | exact ⟨rfl, _, World.drewN_drewN _ _ _⟩ | exact ⟨rfl, _, Eq.trans (World.drewN_drewN _ _ _) (congrArg (World.drewN _) (Nat.add_assoc _ _ _))⟩)))
     repeat (go_quiet (first | (go_at_call 19; (with_reducible refine (impl_FewestColours.calls t280 t281 t292 t293 _ A17.out).mono ?_); rintro e w' ⟨rfl, ⟨nd, rfl⟩⟩; (try first | exact ⟨rfl, _, World.drewN_drewN _ _ _⟩ | exact ⟨rfl, _, Eq.trans (World.drewN_drewN _ _ _) (congrArg (World.drewN _) (Nat.add_assoc _ _ _))⟩))); go_upto_region 9 with (first | (go_at_call 19; (with_reducible refine (impl_FewestColours.calls t280 t281 t292 t293 _ A17.out).mono ?_); rintro e w' ⟨rfl, ⟨nd, rfl⟩⟩; (try first | exact ⟨rfl, _, World.drewN_drewN _ _ _⟩ | exact ⟨rfl, _, Eq.trans (World.drewN_drewN _ _ _) (congrArg (World.drewN _) (Nat.add_assoc _ _ _))⟩))))
     (try simp only [Act.put, List.setIfInBounds_toArray, List.set_cons_zero, List.set_cons_succ])
     go_cut [90] (fun v90 wc => ∃ (kq : Nat) (x90_17 : Bool), v90 = .bool x90_17 ∧ Aside0 (laws_FnColouringsAreLeast.j1 kq l1 t280 t281 t282 t283 t284 t292 x90_17 = some r) ∧ Aside0 (kq ≤ kj7) ∧ Aside0 (Kd.R (Kd.int .i64) 3 wc w.heap.size (fun _ => True) v285 t283) ∧ Aside0 (Below w.heap.size w wc))
     case first => as_aux_lemma =>
      have H := HC18.out
      clear HC18
      by_cases c19 : t293 = true
      ·subst c19
       replace H := IP H
       by_cases c20 : t280 ≤ 6
       ·rw [if_pos c20] at H
        have c20b0 : decide (t280 ≤ 6) = true := decide_eq_true c20
        clear c20
        (first | rw [c20b0] | (simp only [i64_w, i32_w]; rw [c20b0]) | skip)
        by_cases c21 : t282 ≥ 1
        ·rw [if_pos c21] at H
         have c21b0 : decide (1 ≤ t282) = true := decide_eq_true c21
         clear c21
         have H' := Aside0.mk H
         clear H
         go_wp2
         repeat (go_quiet (fail); try go_wp2)
         go_meet
         case rel => exact ⟨_, (decide (t282 ≤ 8)), RF, H', ⟨by have := HJ7.out; first | omega | exact Nat.le_refl _⟩, ⟨KR HO_8⟩, ⟨BB⟩⟩
        ·rw [if_neg c21] at H
         have c21b0 : decide (1 ≤ t282) = false := decide_eq_false c21
         clear c21
         have H' := Aside0.mk H
         clear H
         go_wp2
         repeat (go_quiet (fail); try go_wp2)
         go_meet
         case rel => exact ⟨_, (false), RF, H', ⟨by have := HJ7.out; first | omega | exact Nat.le_refl _⟩, ⟨KR HO_8⟩, ⟨BB⟩⟩
       ·rw [if_neg c20] at H
        have c20b0 : decide (t280 ≤ 6) = false := decide_eq_false c20
        clear c20
        (first | rw [c20b0] | (simp only [i64_w, i32_w]; rw [c20b0]) | skip)
        have H' := Aside0.mk H
        clear H
        go_wp2
        repeat (go_quiet (fail); try go_wp2)
        go_meet
        case rel => exact ⟨_, (false), RF, H', ⟨by have := HJ7.out; first | omega | exact Nat.le_refl _⟩, ⟨KR HO_8⟩, ⟨BB⟩⟩
      ·replace c19 := Bool.eq_false_iff.mpr c19
       subst c19
       replace H := IN H
       have H' := Aside0.mk H
       clear H
       go_wp2
       repeat (go_quiet (fail); try go_wp2)
       go_meet
       case rel => exact ⟨_, (false), RF, H', ⟨by have := HJ7.out; first | omega | exact Nat.le_refl _⟩, ⟨KR HO_8⟩, ⟨BB⟩⟩
     case rest => as_aux_lemma =>
      clear HC18
      try clear c1
      try clear c2
      try clear p2
      try clear c4
      try clear p6
      try clear c12
      try clear c12b0
      try clear c12b1
      try clear c12b2
      try clear c16
      try clear c19
      try clear c20
      try clear c20b0
      try clear c21
      try clear c21b0
      try clear p2
      try clear p6
      obtain ⟨kq, x90_17, rfl, HA, HJ17, HO_8, HB⟩ := hcut
      cases kq with
      | zero => exact absurd HA.out (by simp [laws_FnColouringsAreLeast.j1])
      | succ kj17 =>
       have H := HA.out
       clear HA
       simp only [laws_FnColouringsAreLeast.j1] at H
       have HC22 := Aside0.mk H
       clear H
       go_upto_if 90 with (fail)
       repeat (go_quiet (fail); go_upto_if 90 with (fail))
       go_cut [] (fun wc => ∃ (kq : Nat), Aside0 (laws_FnColouringsAreLeast.j2 kq l1 = some r) ∧ Aside0 (kq ≤ kj17) ∧ Aside0 (Below w.heap.size w wc))
       case first => as_aux_lemma =>
        have H := HC22.out
        clear HC22
        by_cases c23 : x90_17 = true
        ·subst c23
         replace H := IP H
         by_cases c24 : (t284 != (decide (t282 ≥ t292))) = true
         ·rw [if_pos c24] at H
          cases H
         ·rw [if_neg c24] at H
          have c24b0 : (t284 != (decide (t282 ≥ t292))) = false := by simpa using c24
          (try (have c24b1 : decide (t284 = (decide (t282 ≥ t292))) = true := by simpa using c24))
          (try (have c24b2 : (t284 == (decide (t282 ≥ t292))) = true := by simpa using c24))
          clear c24
          (first | rw [c24b0] | (simp only [i64_w, i32_w]; rw [c24b0]) | skip)
          by_cases c25 : t284 = true
          ·subst c25
           replace H := IP H
           obtain ⟨⟨t294, t295⟩, A260, H⟩ := Option.bind_eq_some_iff.mp H
           replace H : (if t295 = true then (if t294 = true then (laws_FnColouringsAreLeast.j2 kj17 l1) else (none)) else (none)) = some r := H
           have A26 := Aside0.mk A260
           clear A260
           by_cases c27 : t295 = true
           ·subst c27
            replace H := IP H
            by_cases c28 : t294 = true
            ·subst c28
             replace H := IP H
             have H' := Aside0.mk H
             clear H
             obtain ⟨Ao29, co29, eo29⟩ := Kd.R_slice HO_8.out
             subst eo29
             go_wp2_with (first | (go_at_call 15; (with_reducible refine (impl_IsColouring.calls kj17 t280 t281 _ _ t283 true true _ ?side1 ?side2 A26.out).mono ?_); (case side1 => exact CW (Kd.R_reads' HO_8.out).2.2); (case side2 => exact (Kd.R_reads' HO_8.out).2.1); rintro e w30 ⟨rfl, hb⟩; have n0_ := Aside0.mk (Kd.R_below (KR HO_8) hb); have n1_ := Aside0.mk (below_step BB hb); clear HO_8; clear HB; have HO_8 := n0_; have HB := n1_; clear n0_ n1_; (try clear hb); (try clear hb2); (try clear hk); (try clear hi)))
             repeat (go_quiet (first | (go_at_call 15; (with_reducible refine (impl_IsColouring.calls kj17 t280 t281 _ _ t283 true true _ ?side1 ?side2 A26.out).mono ?_); (case side1 => exact CW (Kd.R_reads' HO_8.out).2.2); (case side2 => exact (Kd.R_reads' HO_8.out).2.1); rintro e w30 ⟨rfl, hb⟩; have n0_ := Aside0.mk (Kd.R_below (KR HO_8) hb); have n1_ := Aside0.mk (below_step BB hb); clear HO_8; clear HB; have HO_8 := n0_; have HB := n1_; clear n0_ n1_; (try clear hb); (try clear hb2); (try clear hk); (try clear hi))); try go_wp2_with (first | (go_at_call 15; (with_reducible refine (impl_IsColouring.calls kj17 t280 t281 _ _ t283 true true _ ?side1 ?side2 A26.out).mono ?_); (case side1 => exact CW (Kd.R_reads' HO_8.out).2.2); (case side2 => exact (Kd.R_reads' HO_8.out).2.1); rintro e w30 ⟨rfl, hb⟩; have n0_ := Aside0.mk (Kd.R_below (KR HO_8) hb); have n1_ := Aside0.mk (below_step BB hb); clear HO_8; clear HB; have HO_8 := n0_; have HB := n1_; clear n0_ n1_; (try clear hb); (try clear hb2); (try clear hk); (try clear hi))))
             go_meet
             case rel => exact ⟨_, H', ⟨by have := HJ7.out; have := HJ17.out; first | omega | exact Nat.le_refl _⟩, ⟨BB⟩⟩
            ·replace c28 := Bool.eq_false_iff.mpr c28
             subst c28
             replace H := IN H
             cases H
           ·replace c27 := Bool.eq_false_iff.mpr c27
            subst c27
            replace H := IN H
            cases H
          ·replace c25 := Bool.eq_false_iff.mpr c25
           subst c25
           replace H := IN H
           have H' := Aside0.mk H
           clear H
           go_wp2
           repeat (go_quiet (fail); try go_wp2)
           go_meet
           case rel => exact ⟨_, H', ⟨by have := HJ7.out; have := HJ17.out; first | omega | exact Nat.le_refl _⟩, ⟨BB⟩⟩
        ·replace c23 := Bool.eq_false_iff.mpr c23
         subst c23
         replace H := IN H
         have H' := Aside0.mk H
         clear H
         go_wp2
         repeat (go_quiet (fail); try go_wp2)
         go_meet
         case rel => exact ⟨_, H', ⟨by have := HJ7.out; have := HJ17.out; first | omega | exact Nat.le_refl _⟩, ⟨BB⟩⟩
       case rest => as_aux_lemma =>
        clear HC22
        try clear c1
        try clear c2
        try clear p2
        try clear c4
        try clear p6
        try clear c12
        try clear c12b0
        try clear c12b1
        try clear c12b2
        try clear c16
        try clear c19
        try clear c20
        try clear c20b0
        try clear c21
        try clear c21b0
        try clear c23
        try clear c24
        try clear c24b0
        try clear c24b1
        try clear c24b2
        try clear c25
        try clear c27
        try clear c28
        try clear p2
        try clear p6
        obtain ⟨kq, HA, HJ21, HB⟩ := hcut
        cases kq with
        | zero => exact absurd HA.out (by simp [laws_FnColouringsAreLeast.j2])
        | succ kj21 =>
         have H := HA.out
         clear HA
         simp only [laws_FnColouringsAreLeast.j2] at H
         obtain ⟨⟨t296, t297, t298⟩, A310, H⟩ := Option.bind_eq_some_iff.mp H
         replace H : ((impl_ColourStableWith.f kj21 t296 t297 t298).bind fun bt299 => ((spec_ColourStableWith.f kj21 t296 t297 t298).bind fun bt303 => ((impl_StableSets.f kj21 t296 t297).bind fun bt307 => ((spec_StableSets.f kj21 t296 t297).bind fun bt311 => ((impl_CountStable.f kj21 t296 t297).bind fun bt315 => ((spec_CountStable.f kj21 t296 t297).bind fun bt317 => (if (bt299.2 != bt303.2) = true then (none) else ((laws_uSame.f kj21 bt299.1 bt303.1).bind fun t319 => (if t319 = true then (if (bt307.2 != bt311.2) = true then (none) else ((laws_uSame.f kj21 bt307.1 bt311.1).bind fun t320 => (if t320 = true then (if (bt315.2 != bt317.2) = true then (none) else (if bt315.1 = bt317.1 then (if (bt315.2 != bt307.2) = true then (none) else (if bt307.2 = true then (laws_FnColouringsAreLeast.j3 kj21 t296 t297 t298 bt299.1 bt299.2 bt307.1 bt307.2 ((bt307.1.length : Int) != bt315.1)) else (laws_FnColouringsAreLeast.j3 kj21 t296 t297 t298 bt299.1 bt299.2 bt307.1 bt307.2 false))) else (none))) else (none)))) else (none)))))))))) = some r := H
         have A31 := Aside0.mk A310
         clear A310
         obtain ⟨⟨t299, t300⟩, A320, H⟩ := Option.bind_eq_some_iff.mp H
         replace H : ((spec_ColourStableWith.f kj21 t296 t297 t298).bind fun bt303 => ((impl_StableSets.f kj21 t296 t297).bind fun bt307 => ((spec_StableSets.f kj21 t296 t297).bind fun bt311 => ((impl_CountStable.f kj21 t296 t297).bind fun bt315 => ((spec_CountStable.f kj21 t296 t297).bind fun bt317 => (if (t300 != bt303.2) = true then (none) else ((laws_uSame.f kj21 t299 bt303.1).bind fun t319 => (if t319 = true then (if (bt307.2 != bt311.2) = true then (none) else ((laws_uSame.f kj21 bt307.1 bt311.1).bind fun t320 => (if t320 = true then (if (bt315.2 != bt317.2) = true then (none) else (if bt315.1 = bt317.1 then (if (bt315.2 != bt307.2) = true then (none) else (if bt307.2 = true then (laws_FnColouringsAreLeast.j3 kj21 t296 t297 t298 t299 t300 bt307.1 bt307.2 ((bt307.1.length : Int) != bt315.1)) else (laws_FnColouringsAreLeast.j3 kj21 t296 t297 t298 t299 t300 bt307.1 bt307.2 false))) else (none))) else (none)))) else (none))))))))) = some r := H
         have A32 := Aside0.mk A320
         clear A320
         obtain ⟨⟨t303, t304⟩, A330, H⟩ := Option.bind_eq_some_iff.mp H
         replace H : ((impl_StableSets.f kj21 t296 t297).bind fun bt307 => ((spec_StableSets.f kj21 t296 t297).bind fun bt311 => ((impl_CountStable.f kj21 t296 t297).bind fun bt315 => ((spec_CountStable.f kj21 t296 t297).bind fun bt317 => (if (t300 != t304) = true then (none) else ((laws_uSame.f kj21 t299 t303).bind fun t319 => (if t319 = true then (if (bt307.2 != bt311.2) = true then (none) else ((laws_uSame.f kj21 bt307.1 bt311.1).bind fun t320 => (if t320 = true then (if (bt315.2 != bt317.2) = true then (none) else (if bt315.1 = bt317.1 then (if (bt315.2 != bt307.2) = true then (none) else (if bt307.2 = true then (laws_FnColouringsAreLeast.j3 kj21 t296 t297 t298 t299 t300 bt307.1 bt307.2 ((bt307.1.length : Int) != bt315.1)) else (laws_FnColouringsAreLeast.j3 kj21 t296 t297 t298 t299 t300 bt307.1 bt307.2 false))) else (none))) else (none)))) else (none)))))))) = some r := H
         have A33 := Aside0.mk A330
         clear A330
         obtain ⟨⟨t307, t308⟩, A340, H⟩ := Option.bind_eq_some_iff.mp H
         replace H : ((spec_StableSets.f kj21 t296 t297).bind fun bt311 => ((impl_CountStable.f kj21 t296 t297).bind fun bt315 => ((spec_CountStable.f kj21 t296 t297).bind fun bt317 => (if (t300 != t304) = true then (none) else ((laws_uSame.f kj21 t299 t303).bind fun t319 => (if t319 = true then (if (t308 != bt311.2) = true then (none) else ((laws_uSame.f kj21 t307 bt311.1).bind fun t320 => (if t320 = true then (if (bt315.2 != bt317.2) = true then (none) else (if bt315.1 = bt317.1 then (if (bt315.2 != t308) = true then (none) else (if t308 = true then (laws_FnColouringsAreLeast.j3 kj21 t296 t297 t298 t299 t300 t307 t308 ((t307.length : Int) != bt315.1)) else (laws_FnColouringsAreLeast.j3 kj21 t296 t297 t298 t299 t300 t307 t308 false))) else (none))) else (none)))) else (none))))))) = some r := H
         have A34 := Aside0.mk A340
         clear A340
         obtain ⟨⟨t311, t312⟩, A350, H⟩ := Option.bind_eq_some_iff.mp H
         replace H : ((impl_CountStable.f kj21 t296 t297).bind fun bt315 => ((spec_CountStable.f kj21 t296 t297).bind fun bt317 => (if (t300 != t304) = true then (none) else ((laws_uSame.f kj21 t299 t303).bind fun t319 => (if t319 = true then (if (t308 != t312) = true then (none) else ((laws_uSame.f kj21 t307 t311).bind fun t320 => (if t320 = true then (if (bt315.2 != bt317.2) = true then (none) else (if bt315.1 = bt317.1 then (if (bt315.2 != t308) = true then (none) else (if t308 = true then (laws_FnColouringsAreLeast.j3 kj21 t296 t297 t298 t299 t300 t307 t308 ((t307.length : Int) != bt315.1)) else (laws_FnColouringsAreLeast.j3 kj21 t296 t297 t298 t299 t300 t307 t308 false))) else (none))) else (none)))) else (none)))))) = some r := H
         have A35 := Aside0.mk A350
         clear A350
         obtain ⟨⟨t315, t316⟩, A360, H⟩ := Option.bind_eq_some_iff.mp H
         replace H : ((spec_CountStable.f kj21 t296 t297).bind fun bt317 => (if (t300 != t304) = true then (none) else ((laws_uSame.f kj21 t299 t303).bind fun t319 => (if t319 = true then (if (t308 != t312) = true then (none) else ((laws_uSame.f kj21 t307 t311).bind fun t320 => (if t320 = true then (if (t316 != bt317.2) = true then (none) else (if t315 = bt317.1 then (if (t316 != t308) = true then (none) else (if t308 = true then (laws_FnColouringsAreLeast.j3 kj21 t296 t297 t298 t299 t300 t307 t308 ((t307.length : Int) != t315)) else (laws_FnColouringsAreLeast.j3 kj21 t296 t297 t298 t299 t300 t307 t308 false))) else (none))) else (none)))) else (none))))) = some r := H
         have A36 := Aside0.mk A360
         clear A360
         obtain ⟨⟨t317, t318⟩, A370, H⟩ := Option.bind_eq_some_iff.mp H
         replace H : (if (t300 != t304) = true then (none) else ((laws_uSame.f kj21 t299 t303).bind fun t319 => (if t319 = true then (if (t308 != t312) = true then (none) else ((laws_uSame.f kj21 t307 t311).bind fun t320 => (if t320 = true then (if (t316 != t318) = true then (none) else (if t315 = t317 then (if (t316 != t308) = true then (none) else (if t308 = true then (laws_FnColouringsAreLeast.j3 kj21 t296 t297 t298 t299 t300 t307 t308 ((t307.length : Int) != t315)) else (laws_FnColouringsAreLeast.j3 kj21 t296 t297 t298 t299 t300 t307 t308 false))) else (none))) else (none)))) else (none)))) = some r := H
         have A37 := Aside0.mk A370
         clear A370
         have HC38 := Aside0.mk H
         clear H
         go_upto_region 23 with (first | (go_at_call 20; (with_reducible refine (spec_DrawColourStableWith.calls _ _ l1 t296 t297 t298 _ ?side1 ?side2 A31.out).mono ?_); (case side1 => exact CW (Kd.C_below HR1.out HB.out)); (case side2 => exact HC1.out); rintro e w39 ⟨rfl, hb⟩; have n0_ := Aside0.mk (below_step BB hb); clear HB; have HB := n0_; clear n0_; (try clear hb); (try clear hb2); (try clear hk); (try clear hi)) | (go_at_call 21; (with_reducible refine (impl_ColourStableWith.calls kj21 t296 t297 t298 t299 t300 _ A32.out).mono ?_); rintro e w40 ⟨v301, rfl, ho0, hb⟩; have n0_ := Aside0.mk (Kd.R_lower ho0 (below_size BB)); have n1_ := Aside0.mk (below_step BB hb); clear HB; have HO302 := n0_; have HB := n1_; clear n0_ n1_; (try clear hb); (try clear hb2); (try clear hk); (try clear hi); (try clear ho0)) | (go_at_call 22; (with_reducible refine (spec_ColourStableWith.calls kj21 t296 t297 t298 t303 t304 _ A33.out).mono ?_); rintro e w41 ⟨v305, rfl, ho0, hb⟩; have n0_ := Aside0.mk (Kd.R_elder' (KR HO302) (Kd.R_base ho0) hb); have n1_ := Aside0.mk (Kd.R_lower (Kd.R_new' ho0 (Kd.R_lt (KR HO302))) (below_size BB)); have n2_ := Aside0.mk (below_step BB hb); clear HO302; clear HB; have HO302 := n0_; have HO306 := n1_; have HB := n2_; clear n0_ n1_ n2_; (try clear hb); (try clear hb2); (try clear hk); (try clear hi); (try clear ho0)) | (go_at_call 23; (with_reducible refine (impl_StableSets.calls kj21 t296 t297 t307 t308 _ A34.out).mono ?_); rintro e w42 ⟨v309, rfl, ho0, hb⟩; have n0_ := Aside0.mk (Kd.R_elder' (KR HO302) (Kd.R_base ho0) hb); have n1_ := Aside0.mk (Kd.R_elder' (KR HO306) (Kd.R_base ho0) hb); have n2_ := Aside0.mk (Kd.R_lower (Kd.R_new' (Kd.R_new' ho0 (Kd.R_lt (KR HO302))) (Kd.R_lt (KR HO306))) (below_size BB)); have n3_ := Aside0.mk (below_step BB hb); clear HO302; clear HO306; clear HB; have HO302 := n0_; have HO306 := n1_; have HO310 := n2_; have HB := n3_; clear n0_ n1_ n2_ n3_; (try clear hb); (try clear hb2); (try clear hk); (try clear hi); (try clear ho0)) | (go_at_call 24; (with_reducible refine (spec_StableSets.calls kj21 t296 t297 t311 t312 _ A35.out).mono ?_); rintro e w43 ⟨v313, rfl, ho0, hb⟩; have n0_ := Aside0.mk (Kd.R_elder' (KR HO302) (Kd.R_base ho0) hb); have n1_ := Aside0.mk (Kd.R_elder' (KR HO306) (Kd.R_base ho0) hb); have n2_ := Aside0.mk (Kd.R_elder' (KR HO310) (Kd.R_base ho0) hb); have n3_ := Aside0.mk (Kd.R_lower (Kd.R_new' (Kd.R_new' (Kd.R_new' ho0 (Kd.R_lt (KR HO302))) (Kd.R_lt (KR HO306))) (Kd.R_lt (KR HO310))) (below_size BB)); have n4_ := Aside0.mk (below_step BB hb); clear HO302; clear HO306; clear HO310; clear HB; have HO302 := n0_; have HO306 := n1_; have HO310 := n2_; have HO314 := n3_; have HB := n4_; clear n0_ n1_ n2_ n3_ n4_; (try clear hb); (try clear hb2); (try clear hk); (try clear hi); (try clear ho0)) | (go_at_call 25; (with_reducible refine (impl_CountStable.calls kj21 t296 t297 t315 t316 _ A36.out).mono ?_); rintro e w44 ⟨rfl, hb⟩; have n0_ := Aside0.mk (Kd.R_below (KR HO302) hb); have n1_ := Aside0.mk (Kd.R_below (KR HO306) hb); have n2_ := Aside0.mk (Kd.R_below (KR HO310) hb); have n3_ := Aside0.mk (Kd.R_below (KR HO314) hb); have n4_ := Aside0.mk (below_step BB hb); clear HO302; clear HO306; clear HO310; clear HO314; clear HB; have HO302 := n0_; have HO306 := n1_; have HO310 := n2_; have HO314 := n3_; have HB := n4_; clear n0_ n1_ n2_ n3_ n4_; (try clear hb); (try clear hb2); (try clear hk); (try clear hi)) | (go_at_call 26; (with_reducible refine (spec_CountStable.calls kj21 t296 t297 t317 t318 _ A37.out).mono ?_); rintro e w' ⟨rfl, ⟨nd, rfl⟩⟩; (try first | exact ⟨rfl, _, World.drewN_drewN _ _ _⟩ | exact ⟨rfl, _, Eq.trans (World.drewN_drewN _ _ _) (congrArg (World.drewN _) (Nat.add_assoc _ _ _))⟩)))
         repeat (go_quiet (first | (go_at_call 20; (with_reducible refine (spec_DrawColourStableWith.calls _ _ l1 t296 t297 t298 _ ?side1 ?side2 A31.out).mono ?_); (case side1 => exact CW (Kd.C_below HR1.out HB.out)); (case side2 => exact HC1.out); rintro e w39 ⟨rfl, hb⟩; have n0_ := Aside0.mk (below_step BB hb); clear HB; have HB := n0_; clear n0_; (try clear hb); (try clear hb2); (try clear hk); (try clear hi)) | (go_at_call 21; (with_reducible refine (impl_ColourStableWith.calls kj21 t296 t297 t298 t299 t300 _ A32.out).mono ?_); rintro e w40 ⟨v301, rfl, ho0, hb⟩; have n0_ := Aside0.mk (Kd.R_lower ho0 (below_size BB)); have n1_ := Aside0.mk (below_step BB hb); clear HB; have HO302 := n0_; have HB := n1_; clear n0_ n1_; (try clear hb); (try clear hb2); (try clear hk); (try clear hi); (try clear ho0)) | (go_at_call 22; (with_reducible refine (spec_ColourStableWith.calls kj21 t296 t297 t298 t303 t304 _ A33.out).mono ?_); rintro e w41 ⟨v305, rfl, ho0, hb⟩; have n0_ := Aside0.mk (Kd.R_elder' (KR HO302) (Kd.R_base ho0) hb); have n1_ := Aside0.mk (Kd.R_lower (Kd.R_new' ho0 (Kd.R_lt (KR HO302))) (below_size BB)); have n2_ := Aside0.mk (below_step BB hb); clear HO302; clear HB; have HO302 := n0_; have HO306 := n1_; have HB := n2_; clear n0_ n1_ n2_; (try clear hb); (try clear hb2); (try clear hk); (try clear hi); (try clear ho0)) | (go_at_call 23; (with_reducible refine (impl_StableSets.calls kj21 t296 t297 t307 t308 _ A34.out).mono ?_); rintro e w42 ⟨v309, rfl, ho0, hb⟩; have n0_ := Aside0.mk (Kd.R_elder' (KR HO302) (Kd.R_base ho0) hb); have n1_ := Aside0.mk (Kd.R_elder' (KR HO306) (Kd.R_base ho0) hb); have n2_ := Aside0.mk (Kd.R_lower (Kd.R_new' (Kd.R_new' ho0 (Kd.R_lt (KR HO302))) (Kd.R_lt (KR HO306))) (below_size BB)); have n3_ := Aside0.mk (below_step BB hb); clear HO302; clear HO306; clear HB; have HO302 := n0_; have HO306 := n1_; have HO310 := n2_; have HB := n3_; clear n0_ n1_ n2_ n3_; (try clear hb); (try clear hb2); (try clear hk); (try clear hi); (try clear ho0)) | (go_at_call 24; (with_reducible refine (spec_StableSets.calls kj21 t296 t297 t311 t312 _ A35.out).mono ?_); rintro e w43 ⟨v313, rfl, ho0, hb⟩; have n0_ := Aside0.mk (Kd.R_elder' (KR HO302) (Kd.R_base ho0) hb); have n1_ := Aside0.mk (Kd.R_elder' (KR HO306) (Kd.R_base ho0) hb); have n2_ := Aside0.mk (Kd.R_elder' (KR HO310) (Kd.R_base ho0) hb); have n3_ := Aside0.mk (Kd.R_lower (Kd.R_new' (Kd.R_new' (Kd.R_new' ho0 (Kd.R_lt (KR HO302))) (Kd.R_lt (KR HO306))) (Kd.R_lt (KR HO310))) (below_size BB)); have n4_ := Aside0.mk (below_step BB hb); clear HO302; clear HO306; clear HO310; clear HB; have HO302 := n0_; have HO306 := n1_; have HO310 := n2_; have HO314 := n3_; have HB := n4_; clear n0_ n1_ n2_ n3_ n4_; (try clear hb); (try clear hb2); (try clear hk); (try clear hi); (try clear ho0)) | (go_at_call 25; (with_reducible refine (impl_CountStable.calls kj21 t296 t297 t315 t316 _ A36.out).mono ?_); rintro e w44 ⟨rfl, hb⟩; have n0_ := Aside0.mk (Kd.R_below (KR HO302) hb); have n1_ := Aside0.mk (Kd.R_below (KR HO306) hb); have n2_ := Aside0.mk (Kd.R_below (KR HO310) hb); have n3_ := Aside0.mk (Kd.R_below (KR HO314) hb); have n4_ := Aside0.mk (below_step BB hb); clear HO302; clear HO306; clear HO310; clear HO314; clear HB; have HO302 := n0_; have HO306 := n1_; have HO310 := n2_; have HO314 := n3_; have HB := n4_; clear n0_ n1_ n2_ n3_ n4_; (try clear hb); (try clear hb2); (try clear hk); (try clear hi)) | (go_at_call 26; (with_reducible refine (spec_CountStable.calls kj21 t296 t297 t317 t318 _ A37.out).mono ?_); rintro e w' ⟨rfl, ⟨nd, rfl⟩⟩; (try first | exact ⟨rfl, _, World.drewN_drewN _ _ _⟩ | exact ⟨rfl, _, Eq.trans (World.drewN_drewN _ _ _) (congrArg (World.drewN _) (Nat.add_assoc _ _ _))⟩))); go_upto_region 23 with (first | (go_at_call 20; (with_reducible refine (spec_DrawColourStableWith.calls _ _ l1 t296 t297 t298 _ ?side1 ?side2 A31.out).mono ?_); (case side1 => exact CW (Kd.C_below HR1.out HB.out)); (case side2 => exact HC1.out); rintro e w39 ⟨rfl, hb⟩; have n0_ := Aside0.mk (below_step BB hb); clear HB; have HB := n0_; clear n0_; (try clear hb); (try clear hb2); (try clear hk); (try clear hi)) | (go_at_call 21; (with_reducible refine (impl_ColourStableWith.calls kj21 t296 t297 t298 t299 t300 _ A32.out).mono ?_); rintro e w40 ⟨v301, rfl, ho0, hb⟩; have n0_ := Aside0.mk (Kd.R_lower ho0 (below_size BB)); have n1_ := Aside0.mk (below_step BB hb); clear HB; have HO302 := n0_; have HB := n1_; clear n0_ n1_; (try clear hb); (try clear hb2); (try clear hk); (try clear hi); (try clear ho0)) | (go_at_call 22; (with_reducible refine (spec_ColourStableWith.calls kj21 t296 t297 t298 t303 t304 _ A33.out).mono ?_); rintro e w41 ⟨v305, rfl, ho0, hb⟩; have n0_ := Aside0.mk (Kd.R_elder' (KR HO302) (Kd.R_base ho0) hb); have n1_ := Aside0.mk (Kd.R_lower (Kd.R_new' ho0 (Kd.R_lt (KR HO302))) (below_size BB)); have n2_ := Aside0.mk (below_step BB hb); clear HO302; clear HB; have HO302 := n0_; have HO306 := n1_; have HB := n2_; clear n0_ n1_ n2_; (try clear hb); (try clear hb2); (try clear hk); (try clear hi); (try clear ho0)) | (go_at_call 23; (with_reducible refine (impl_StableSets.calls kj21 t296 t297 t307 t308 _ A34.out).mono ?_); rintro e w42 ⟨v309, rfl, ho0, hb⟩; have n0_ := Aside0.mk (Kd.R_elder' (KR HO302) (Kd.R_base ho0) hb); have n1_ := Aside0.mk (Kd.R_elder' (KR HO306) (Kd.R_base ho0) hb); have n2_ := Aside0.mk (Kd.R_lower (Kd.R_new' (Kd.R_new' ho0 (Kd.R_lt (KR HO302))) (Kd.R_lt (KR HO306))) (below_size BB)); have n3_ := Aside0.mk (below_step BB hb); clear HO302; clear HO306; clear HB; have HO302 := n0_; have HO306 := n1_; have HO310 := n2_; have HB := n3_; clear n0_ n1_ n2_ n3_; (try clear hb); (try clear hb2); (try clear hk); (try clear hi); (try clear ho0)) | (go_at_call 24; (with_reducible refine (spec_StableSets.calls kj21 t296 t297 t311 t312 _ A35.out).mono ?_); rintro e w43 ⟨v313, rfl, ho0, hb⟩; have n0_ := Aside0.mk (Kd.R_elder' (KR HO302) (Kd.R_base ho0) hb); have n1_ := Aside0.mk (Kd.R_elder' (KR HO306) (Kd.R_base ho0) hb); have n2_ := Aside0.mk (Kd.R_elder' (KR HO310) (Kd.R_base ho0) hb); have n3_ := Aside0.mk (Kd.R_lower (Kd.R_new' (Kd.R_new' (Kd.R_new' ho0 (Kd.R_lt (KR HO302))) (Kd.R_lt (KR HO306))) (Kd.R_lt (KR HO310))) (below_size BB)); have n4_ := Aside0.mk (below_step BB hb); clear HO302; clear HO306; clear HO310; clear HB; have HO302 := n0_; have HO306 := n1_; have HO310 := n2_; have HO314 := n3_; have HB := n4_; clear n0_ n1_ n2_ n3_ n4_; (try clear hb); (try clear hb2); (try clear hk); (try clear hi); (try clear ho0)) | (go_at_call 25; (with_reducible refine (impl_CountStable.calls kj21 t296 t297 t315 t316 _ A36.out).mono ?_); rintro e w44 ⟨rfl, hb⟩; have n0_ := Aside0.mk (Kd.R_below (KR HO302) hb); have n1_ := Aside0.mk (Kd.R_below (KR HO306) hb); have n2_ := Aside0.mk (Kd.R_below (KR HO310) hb); have n3_ := Aside0.mk (Kd.R_below (KR HO314) hb); have n4_ := Aside0.mk (below_step BB hb); clear HO302; clear HO306; clear HO310; clear HO314; clear HB; have HO302 := n0_; have HO306 := n1_; have HO310 := n2_; have HO314 := n3_; have HB := n4_; clear n0_ n1_ n2_ n3_ n4_; (try clear hb); (try clear hb2); (try clear hk); (try clear hi)) | (go_at_call 26; (with_reducible refine (spec_CountStable.calls kj21 t296 t297 t317 t318 _ A37.out).mono ?_); rintro e w' ⟨rfl, ⟨nd, rfl⟩⟩; (try first | exact ⟨rfl, _, World.drewN_drewN _ _ _⟩ | exact ⟨rfl, _, Eq.trans (World.drewN_drewN _ _ _) (congrArg (World.drewN _) (Nat.add_assoc _ _ _))⟩))))
         (try simp only [Act.put, List.setIfInBounds_toArray, List.set_cons_zero, List.set_cons_succ])
         go_cut [197] (fun v197 wc => ∃ (kq : Nat) (x197_37 : Bool), v197 = .bool x197_37 ∧ Aside0 (laws_FnColouringsAreLeast.j3 kq t296 t297 t298 t299 t300 t307 t308 x197_37 = some r) ∧ Aside0 (kq ≤ kj21) ∧ Aside0 (Kd.R (Kd.int .i64) 3 wc w.heap.size (fun k_ => some k_ ≠ (v309 : Value).ownBlock) v301 t299) ∧ Aside0 (Kd.R (Kd.int .i64) 3 wc w.heap.size (fun k_ => some k_ ≠ (v301 : Value).ownBlock) v309 t307) ∧ Aside0 (Below w.heap.size w wc))
         case first => as_aux_lemma =>
          have H := HC38.out
          clear HC38
          by_cases c45 : (t300 != t304) = true
          ·rw [if_pos c45] at H
           cases H
          ·rw [if_neg c45] at H
           have c45b0 : (t300 != t304) = false := by simpa using c45
           (try (have c45b1 : decide (t300 = t304) = true := by simpa using c45))
           (try (have c45b2 : (t300 == t304) = true := by simpa using c45))
           clear c45
           (first | rw [c45b0] | (simp only [i64_w, i32_w]; rw [c45b0]) | skip)
           obtain ⟨t319, A460, H⟩ := Option.bind_eq_some_iff.mp H
           have A46 := Aside0.mk A460
           clear A460
           by_cases c47 : t319 = true
           ·subst c47
            replace H := IP H
            by_cases c48 : (t308 != t312) = true
            ·rw [if_pos c48] at H
             cases H
            ·rw [if_neg c48] at H
             have c48b0 : (t308 != t312) = false := by simpa using c48
             (try (have c48b1 : decide (t308 = t312) = true := by simpa using c48))
             (try (have c48b2 : (t308 == t312) = true := by simpa using c48))
             clear c48
             obtain ⟨t320, A490, H⟩ := Option.bind_eq_some_iff.mp H
             have A49 := Aside0.mk A490
             clear A490
             by_cases c50 : t320 = true
             ·subst c50
              replace H := IP H
              by_cases c51 : (t316 != t318) = true
              ·rw [if_pos c51] at H
               cases H
              ·rw [if_neg c51] at H
               have c51b0 : (t316 != t318) = false := by simpa using c51
               (try (have c51b1 : decide (t316 = t318) = true := by simpa using c51))
               (try (have c51b2 : (t316 == t318) = true := by simpa using c51))
               clear c51
               by_cases c52 : t315 = t317
               ·rw [if_pos c52] at H
                have c52b0 : (t315 == t317) = true := beq_iff_eq.mpr c52
                have c52b1 : (t315 != t317) = false := bne_eq_false_iff_eq.mpr c52
                clear c52
                by_cases c53 : (t316 != t308) = true
                ·rw [if_pos c53] at H
                 cases H
                ·rw [if_neg c53] at H
                 have c53b0 : (t316 != t308) = false := by simpa using c53
                 (try (have c53b1 : decide (t316 = t308) = true := by simpa using c53))
                 (try (have c53b2 : (t316 == t308) = true := by simpa using c53))
                 clear c53
                 by_cases c54 : t308 = true
                 ·subst c54
                  replace H := IP H
                  have H' := Aside0.mk H
                  clear H
                  obtain ⟨Ao55, co55, eo55⟩ := Kd.R_slice HO302.out
                  subst eo55
                  obtain ⟨Ao56, co56, eo56⟩ := Kd.R_slice HO306.out
                  subst eo56
                  go_wp2_with (first | (go_at_call 12; (with_reducible refine (laws_uSame.calls kj21 _ _ t299 _ _ t303 true _ ?side1 ?side2 ?side3 ?side4 A46.out).mono ?_); (case side1 => exact CW (Kd.R_reads' HO302.out).2.2); (case side2 => exact (Kd.R_reads' HO302.out).2.1); (case side3 => exact CW (Kd.R_reads' HO306.out).2.2); (case side4 => exact (Kd.R_reads' HO306.out).2.1); rintro e w' ⟨rfl, ⟨nd, rfl⟩⟩; (first | exact ⟨rfl, _, World.drewN_drewN _ _ _⟩ | exact ⟨rfl, _, Eq.trans (World.drewN_drewN _ _ _) (congrArg (World.drewN _) (Nat.add_assoc _ _ _))⟩)) | (go_at_call 12; (with_reducible refine (laws_uSame.calls kj21 _ _ t299 _ _ t303 true _ ?side1 ?side2 ?side3 ?side4 A46.out).mono ?_); (case side1 => exact CW (Kd.R_reads' HO302.out).2.2); (case side2 => exact (Kd.R_reads' HO302.out).2.1); (case side3 => exact CW (Kd.R_reads' HO306.out).2.2); (case side4 => exact (Kd.R_reads' HO306.out).2.1); rintro e w' ⟨rfl, ⟨nd, rfl⟩⟩; obtain ⟨Ao57, co57, eo57⟩ := Kd.R_slice HO310.out; subst eo57; obtain ⟨Ao58, co58, eo58⟩ := Kd.R_slice HO314.out; subst eo58) | (go_at_call 12; (with_reducible refine (laws_uSame.calls kj21 _ _ t307 _ _ t311 true _ ?side1 ?side2 ?side3 ?side4 A49.out).mono ?_); (case side1 => exact CW (Kd.R_reads' HO310.out).2.2); (case side2 => exact (Kd.R_reads' HO310.out).2.1); (case side3 => exact CW (Kd.R_reads' HO314.out).2.2); (case side4 => exact (Kd.R_reads' HO314.out).2.1); rintro e w' ⟨rfl, ⟨nd, rfl⟩⟩; (try first | exact ⟨rfl, _, World.drewN_drewN _ _ _⟩ | exact ⟨rfl, _, Eq.trans (World.drewN_drewN _ _ _) (congrArg (World.drewN _) (Nat.add_assoc _ _ _))⟩)))
                  repeat (go_quiet (first | (go_at_call 12; (with_reducible refine (laws_uSame.calls kj21 _ _ t299 _ _ t303 true _ ?side1 ?side2 ?side3 ?side4 A46.out).mono ?_); (case side1 => exact CW (Kd.R_reads' HO302.out).2.2); (case side2 => exact (Kd.R_reads' HO302.out).2.1); (case side3 => exact CW (Kd.R_reads' HO306.out).2.2); (case side4 => exact (Kd.R_reads' HO306.out).2.1); rintro e w' ⟨rfl, ⟨nd, rfl⟩⟩; (first | exact ⟨rfl, _, World.drewN_drewN _ _ _⟩ | exact ⟨rfl, _, Eq.trans (World.drewN_drewN _ _ _) (congrArg (World.drewN _) (Nat.add_assoc _ _ _))⟩)) | (go_at_call 12; (with_reducible refine (laws_uSame.calls kj21 _ _ t299 _ _ t303 true _ ?side1 ?side2 ?side3 ?side4 A46.out).mono ?_); (case side1 => exact CW (Kd.R_reads' HO302.out).2.2); (case side2 => exact (Kd.R_reads' HO302.out).2.1); (case side3 => exact CW (Kd.R_reads' HO306.out).2.2); (case side4 => exact (Kd.R_reads' HO306.out).2.1); rintro e w' ⟨rfl, ⟨nd, rfl⟩⟩; obtain ⟨Ao57, co57, eo57⟩ := Kd.R_slice HO310.out; subst eo57; obtain ⟨Ao58, co58, eo58⟩ := Kd.R_slice HO314.out; subst eo58) | (go_at_call 12; (with_reducible refine (laws_uSame.calls kj21 _ _ t307 _ _ t311 true _ ?side1 ?side2 ?side3 ?side4 A49.out).mono ?_); (case side1 => exact CW (Kd.R_reads' HO310.out).2.2); (case side2 => exact (Kd.R_reads' HO310.out).2.1); (case side3 => exact CW (Kd.R_reads' HO314.out).2.2); (case side4 => exact (Kd.R_reads' HO314.out).2.1); rintro e w' ⟨rfl, ⟨nd, rfl⟩⟩; (try first | exact ⟨rfl, _, World.drewN_drewN _ _ _⟩ | exact ⟨rfl, _, Eq.trans (World.drewN_drewN _ _ _) (congrArg (World.drewN _) (Nat.add_assoc _ _ _))⟩))); try go_wp2_with (first | (go_at_call 12; (with_reducible refine (laws_uSame.calls kj21 _ _ t299 _ _ t303 true _ ?side1 ?side2 ?side3 ?side4 A46.out).mono ?_); (case side1 => exact CW (Kd.R_reads' HO302.out).2.2); (case side2 => exact (Kd.R_reads' HO302.out).2.1); (case side3 => exact CW (Kd.R_reads' HO306.out).2.2); (case side4 => exact (Kd.R_reads' HO306.out).2.1); rintro e w' ⟨rfl, ⟨nd, rfl⟩⟩; (first | exact ⟨rfl, _, World.drewN_drewN _ _ _⟩ | exact ⟨rfl, _, Eq.trans (World.drewN_drewN _ _ _) (congrArg (World.drewN _) (Nat.add_assoc _ _ _))⟩)) | (go_at_call 12; (with_reducible refine (laws_uSame.calls kj21 _ _ t299 _ _ t303 true _ ?side1 ?side2 ?side3 ?side4 A46.out).mono ?_); (case side1 => exact CW (Kd.R_reads' HO302.out).2.2); (case side2 => exact (Kd.R_reads' HO302.out).2.1); (case side3 => exact CW (Kd.R_reads' HO306.out).2.2); (case side4 => exact (Kd.R_reads' HO306.out).2.1); rintro e w' ⟨rfl, ⟨nd, rfl⟩⟩; obtain ⟨Ao57, co57, eo57⟩ := Kd.R_slice HO310.out; subst eo57; obtain ⟨Ao58, co58, eo58⟩ := Kd.R_slice HO314.out; subst eo58) | (go_at_call 12; (with_reducible refine (laws_uSame.calls kj21 _ _ t307 _ _ t311 true _ ?side1 ?side2 ?side3 ?side4 A49.out).mono ?_); (case side1 => exact CW (Kd.R_reads' HO310.out).2.2); (case side2 => exact (Kd.R_reads' HO310.out).2.1); (case side3 => exact CW (Kd.R_reads' HO314.out).2.2); (case side4 => exact (Kd.R_reads' HO314.out).2.1); rintro e w' ⟨rfl, ⟨nd, rfl⟩⟩; (try first | exact ⟨rfl, _, World.drewN_drewN _ _ _⟩ | exact ⟨rfl, _, Eq.trans (World.drewN_drewN _ _ _) (congrArg (World.drewN _) (Nat.add_assoc _ _ _))⟩))))
                  go_meet
                  case rel => exact ⟨_, (((t307.length : Int) != t315)), RF, H', ⟨by have := HJ7.out; have := HJ17.out; have := HJ21.out; first | omega | exact Nat.le_refl _⟩, ⟨by (with_reducible repeat (first | apply Kd.R_alloc | apply Kd.R_drewN | apply Kd.R_drew)); exact Kd.R_mono HO302.out (fun _ hk => hk.1.2)⟩, ⟨by (with_reducible repeat (first | apply Kd.R_alloc | apply Kd.R_drewN | apply Kd.R_drew)); exact Kd.R_mono HO310.out (fun _ hk => hk.1.1.2)⟩, ⟨BB⟩⟩
                 ·replace c54 := Bool.eq_false_iff.mpr c54
                  subst c54
                  replace H := IN H
                  have H' := Aside0.mk H
                  clear H
                  obtain ⟨Ao59, co59, eo59⟩ := Kd.R_slice HO302.out
                  subst eo59
                  obtain ⟨Ao60, co60, eo60⟩ := Kd.R_slice HO306.out
                  subst eo60
                  go_wp2_with (first | (go_at_call 12; (with_reducible refine (laws_uSame.calls kj21 _ _ t299 _ _ t303 true _ ?side1 ?side2 ?side3 ?side4 A46.out).mono ?_); (case side1 => exact CW (Kd.R_reads' HO302.out).2.2); (case side2 => exact (Kd.R_reads' HO302.out).2.1); (case side3 => exact CW (Kd.R_reads' HO306.out).2.2); (case side4 => exact (Kd.R_reads' HO306.out).2.1); rintro e w' ⟨rfl, ⟨nd, rfl⟩⟩; (first | exact ⟨rfl, _, World.drewN_drewN _ _ _⟩ | exact ⟨rfl, _, Eq.trans (World.drewN_drewN _ _ _) (congrArg (World.drewN _) (Nat.add_assoc _ _ _))⟩)) | (go_at_call 12; (with_reducible refine (laws_uSame.calls kj21 _ _ t299 _ _ t303 true _ ?side1 ?side2 ?side3 ?side4 A46.out).mono ?_); (case side1 => exact CW (Kd.R_reads' HO302.out).2.2); (case side2 => exact (Kd.R_reads' HO302.out).2.1); (case side3 => exact CW (Kd.R_reads' HO306.out).2.2); (case side4 => exact (Kd.R_reads' HO306.out).2.1); rintro e w' ⟨rfl, ⟨nd, rfl⟩⟩; obtain ⟨Ao61, co61, eo61⟩ := Kd.R_slice HO310.out; subst eo61; obtain ⟨Ao62, co62, eo62⟩ := Kd.R_slice HO314.out; subst eo62) | (go_at_call 12; (with_reducible refine (laws_uSame.calls kj21 _ _ t307 _ _ t311 true _ ?side1 ?side2 ?side3 ?side4 A49.out).mono ?_); (case side1 => exact CW (Kd.R_reads' HO310.out).2.2); (case side2 => exact (Kd.R_reads' HO310.out).2.1); (case side3 => exact CW (Kd.R_reads' HO314.out).2.2); (case side4 => exact (Kd.R_reads' HO314.out).2.1); rintro e w' ⟨rfl, ⟨nd, rfl⟩⟩; (try first | exact ⟨rfl, _, World.drewN_drewN _ _ _⟩ | exact ⟨rfl, _, Eq.trans (World.drewN_drewN _ _ _) (congrArg (World.drewN _) (Nat.add_assoc _ _ _))⟩)))
                  repeat (go_quiet (first | (go_at_call 12; (with_reducible refine (laws_uSame.calls kj21 _ _ t299 _ _ t303 true _ ?side1 ?side2 ?side3 ?side4 A46.out).mono ?_); (case side1 => exact CW (Kd.R_reads' HO302.out).2.2); (case side2 => exact (Kd.R_reads' HO302.out).2.1); (case side3 => exact CW (Kd.R_reads' HO306.out).2.2); (case side4 => exact (Kd.R_reads' HO306.out).2.1); rintro e w' ⟨rfl, ⟨nd, rfl⟩⟩; (first | exact ⟨rfl, _, World.drewN_drewN _ _ _⟩ | exact ⟨rfl, _, Eq.trans (World.drewN_drewN _ _ _) (congrArg (World.drewN _) (Nat.add_assoc _ _ _))⟩)) | (go_at_call 12; (with_reducible refine (laws_uSame.calls kj21 _ _ t299 _ _ t303 true _ ?side1 ?side2 ?side3 ?side4 A46.out).mono ?_); (case side1 => exact CW (Kd.R_reads' HO302.out).2.2); (case side2 => exact (Kd.R_reads' HO302.out).2.1); (case side3 => exact CW (Kd.R_reads' HO306.out).2.2); (case side4 => exact (Kd.R_reads' HO306.out).2.1); rintro e w' ⟨rfl, ⟨nd, rfl⟩⟩; obtain ⟨Ao61, co61, eo61⟩ := Kd.R_slice HO310.out; subst eo61; obtain ⟨Ao62, co62, eo62⟩ := Kd.R_slice HO314.out; subst eo62) | (go_at_call 12; (with_reducible refine (laws_uSame.calls kj21 _ _ t307 _ _ t311 true _ ?side1 ?side2 ?side3 ?side4 A49.out).mono ?_); (case side1 => exact CW (Kd.R_reads' HO310.out).2.2); (case side2 => exact (Kd.R_reads' HO310.out).2.1); (case side3 => exact CW (Kd.R_reads' HO314.out).2.2); (case side4 => exact (Kd.R_reads' HO314.out).2.1); rintro e w' ⟨rfl, ⟨nd, rfl⟩⟩; (try first | exact ⟨rfl, _, World.drewN_drewN _ _ _⟩ | exact ⟨rfl, _, Eq.trans (World.drewN_drewN _ _ _) (congrArg (World.drewN _) (Nat.add_assoc _ _ _))⟩))); try go_wp2_with (first | (go_at_call 12; (with_reducible refine (laws_uSame.calls kj21 _ _ t299 _ _ t303 true _ ?side1 ?side2 ?side3 ?side4 A46.out).mono ?_); (case side1 => exact CW (Kd.R_reads' HO302.out).2.2); (case side2 => exact (Kd.R_reads' HO302.out).2.1); (case side3 => exact CW (Kd.R_reads' HO306.out).2.2); (case side4 => exact (Kd.R_reads' HO306.out).2.1); rintro e w' ⟨rfl, ⟨nd, rfl⟩⟩; (first | exact ⟨rfl, _, World.drewN_drewN _ _ _⟩ | exact ⟨rfl, _, Eq.trans (World.drewN_drewN _ _ _) (congrArg (World.drewN _) (Nat.add_assoc _ _ _))⟩)) | (go_at_call 12; (with_reducible refine (laws_uSame.calls kj21 _ _ t299 _ _ t303 true _ ?side1 ?side2 ?side3 ?side4 A46.out).mono ?_); (case side1 => exact CW (Kd.R_reads' HO302.out).2.2); (case side2 => exact (Kd.R_reads' HO302.out).2.1); (case side3 => exact CW (Kd.R_reads' HO306.out).2.2); (case side4 => exact (Kd.R_reads' HO306.out).2.1); rintro e w' ⟨rfl, ⟨nd, rfl⟩⟩; obtain ⟨Ao61, co61, eo61⟩ := Kd.R_slice HO310.out; subst eo61; obtain ⟨Ao62, co62, eo62⟩ := Kd.R_slice HO314.out; subst eo62) | (go_at_call 12; (with_reducible refine (laws_uSame.calls kj21 _ _ t307 _ _ t311 true _ ?side1 ?side2 ?side3 ?side4 A49.out).mono ?_); (case side1 => exact CW (Kd.R_reads' HO310.out).2.2); (case side2 => exact (Kd.R_reads' HO310.out).2.1); (case side3 => exact CW (Kd.R_reads' HO314.out).2.2); (case side4 => exact (Kd.R_reads' HO314.out).2.1); rintro e w' ⟨rfl, ⟨nd, rfl⟩⟩; (try first | exact ⟨rfl, _, World.drewN_drewN _ _ _⟩ | exact ⟨rfl, _, Eq.trans (World.drewN_drewN _ _ _) (congrArg (World.drewN _) (Nat.add_assoc _ _ _))⟩))))
                  go_meet
                  case rel => exact ⟨_, (false), RF, H', ⟨by have := HJ7.out; have := HJ17.out; have := HJ21.out; first | omega | exact Nat.le_refl _⟩, ⟨by (with_reducible repeat (first | apply Kd.R_alloc | apply Kd.R_drewN | apply Kd.R_drew)); exact Kd.R_mono HO302.out (fun _ hk => hk.1.2)⟩, ⟨by (with_reducible repeat (first | apply Kd.R_alloc | apply Kd.R_drewN | apply Kd.R_drew)); exact Kd.R_mono HO310.out (fun _ hk => hk.1.1.2)⟩, ⟨BB⟩⟩
               ·rw [if_neg c52] at H
                cases H
             ·replace c50 := Bool.eq_false_iff.mpr c50
              subst c50
              replace H := IN H
              cases H
           ·replace c47 := Bool.eq_false_iff.mpr c47
            subst c47
            replace H := IN H
            cases H
         case rest => as_aux_lemma =>
          clear HC38
          try clear c1
          try clear c2
          try clear p2
          try clear c4
          try clear c5
          try clear p6
          try clear c12
          try clear c12b0
          try clear c12b1
          try clear c12b2
          try clear c16
          try clear c19
          try clear c20
          try clear c20b0
          try clear c21
          try clear c21b0
          try clear c23
          try clear c24
          try clear c24b0
          try clear c24b1
          try clear c24b2
          try clear c25
          try clear c27
          try clear c28
          try clear c45
          try clear c45b0
          try clear c45b1
          try clear c45b2
          try clear c47
          try clear c48
          try clear c48b0
          try clear c48b1
          try clear c48b2
          try clear c50
          try clear c51
          try clear c51b0
          try clear c51b1
          try clear c51b2
          try clear c52
          try clear c52b0
          try clear c52b1
          try clear c53
          try clear c53b0
          try clear c53b1
          try clear c53b2
          try clear c54
          try clear p2
          try clear p6
          obtain ⟨kq, x197_37, rfl, HA, HJ37, HO_19, HO_23, HB⟩ := hcut
          cases kq with
          | zero => exact absurd HA.out (by simp [laws_FnColouringsAreLeast.j3])
          | succ kj37 =>
           have H := HA.out
           clear HA
           simp only [laws_FnColouringsAreLeast.j3] at H
           by_cases c63 : x197_37 = true
           ·subst c63
            replace H := IP H
            cases H
           ·replace c63 := Bool.eq_false_iff.mpr c63
            subst c63
            replace H := IN H
            obtain ⟨⟨t321, t322⟩, A640, H⟩ := Option.bind_eq_some_iff.mp H
            replace H : (if t308 = true then (if t296 ≤ 7 then (if t298 ≥ 1 then (laws_FnColouringsAreLeast.j4 kj37 t296 t297 t298 t299 t300 t307 t321 t322 (decide (t298 ≤ 8))) else (laws_FnColouringsAreLeast.j4 kj37 t296 t297 t298 t299 t300 t307 t321 t322 false)) else (laws_FnColouringsAreLeast.j4 kj37 t296 t297 t298 t299 t300 t307 t321 t322 false)) else (laws_FnColouringsAreLeast.j4 kj37 t296 t297 t298 t299 t300 t307 t321 t322 false)) = some r := H
            have A64 := Aside0.mk A640
            clear A640
            have HC65 := Aside0.mk H
            clear H
            go_upto_region 26 with (first | (go_at_call 19; (with_reducible refine (impl_FewestColours.calls t296 t297 t321 t322 _ A64.out).mono ?_); rintro e w' ⟨rfl, ⟨nd, rfl⟩⟩; (try first | exact ⟨rfl, _, World.drewN_drewN _ _ _⟩ | exact ⟨rfl, _, Eq.trans (World.drewN_drewN _ _ _) (congrArg (World.drewN _) (Nat.add_assoc _ _ _))⟩)))
            repeat (go_quiet (first | (go_at_call 19; (with_reducible refine (impl_FewestColours.calls t296 t297 t321 t322 _ A64.out).mono ?_); rintro e w' ⟨rfl, ⟨nd, rfl⟩⟩; (try first | exact ⟨rfl, _, World.drewN_drewN _ _ _⟩ | exact ⟨rfl, _, Eq.trans (World.drewN_drewN _ _ _) (congrArg (World.drewN _) (Nat.add_assoc _ _ _))⟩))); go_upto_region 26 with (first | (go_at_call 19; (with_reducible refine (impl_FewestColours.calls t296 t297 t321 t322 _ A64.out).mono ?_); rintro e w' ⟨rfl, ⟨nd, rfl⟩⟩; (try first | exact ⟨rfl, _, World.drewN_drewN _ _ _⟩ | exact ⟨rfl, _, Eq.trans (World.drewN_drewN _ _ _) (congrArg (World.drewN _) (Nat.add_assoc _ _ _))⟩))))
            (try simp only [Act.put, List.setIfInBounds_toArray, List.set_cons_zero, List.set_cons_succ])
            go_cut [216] (fun v216 wc => ∃ (kq : Nat) (x216_64 : Bool), v216 = .bool x216_64 ∧ Aside0 (laws_FnColouringsAreLeast.j4 kq t296 t297 t298 t299 t300 t307 t321 t322 x216_64 = some r) ∧ Aside0 (kq ≤ kj37) ∧ Aside0 (Kd.R (Kd.int .i64) 3 wc w.heap.size (fun k_ => some k_ ≠ (v309 : Value).ownBlock) v301 t299) ∧ Aside0 (Kd.R (Kd.int .i64) 3 wc w.heap.size (fun k_ => some k_ ≠ (v301 : Value).ownBlock) v309 t307) ∧ Aside0 (Below w.heap.size w wc))
            case first => as_aux_lemma =>
             have H := HC65.out
             clear HC65
             by_cases c66 : t308 = true
             ·subst c66
              replace H := IP H
              by_cases c67 : t296 ≤ 7
              ·rw [if_pos c67] at H
               have c67b0 : decide (t296 ≤ 7) = true := decide_eq_true c67
               clear c67
               (first | rw [c67b0] | (simp only [i64_w, i32_w]; rw [c67b0]) | skip)
               by_cases c68 : t298 ≥ 1
               ·rw [if_pos c68] at H
                have c68b0 : decide (1 ≤ t298) = true := decide_eq_true c68
                clear c68
                have H' := Aside0.mk H
                clear H
                go_wp2
                repeat (go_quiet (fail); try go_wp2)
                go_meet
                case rel => exact ⟨_, (decide (t298 ≤ 8)), RF, H', ⟨by have := HJ7.out; have := HJ17.out; have := HJ21.out; have := HJ37.out; first | omega | exact Nat.le_refl _⟩, ⟨KR HO_19⟩, ⟨KR HO_23⟩, ⟨BB⟩⟩
               ·rw [if_neg c68] at H
                have c68b0 : decide (1 ≤ t298) = false := decide_eq_false c68
                clear c68
                have H' := Aside0.mk H
                clear H
                go_wp2
                repeat (go_quiet (fail); try go_wp2)
                go_meet
                case rel => exact ⟨_, (false), RF, H', ⟨by have := HJ7.out; have := HJ17.out; have := HJ21.out; have := HJ37.out; first | omega | exact Nat.le_refl _⟩, ⟨KR HO_19⟩, ⟨KR HO_23⟩, ⟨BB⟩⟩
              ·rw [if_neg c67] at H
               have c67b0 : decide (t296 ≤ 7) = false := decide_eq_false c67
               clear c67
               (first | rw [c67b0] | (simp only [i64_w, i32_w]; rw [c67b0]) | skip)
               have H' := Aside0.mk H
               clear H
               go_wp2
               repeat (go_quiet (fail); try go_wp2)
               go_meet
               case rel => exact ⟨_, (false), RF, H', ⟨by have := HJ7.out; have := HJ17.out; have := HJ21.out; have := HJ37.out; first | omega | exact Nat.le_refl _⟩, ⟨KR HO_19⟩, ⟨KR HO_23⟩, ⟨BB⟩⟩
             ·replace c66 := Bool.eq_false_iff.mpr c66
              subst c66
              replace H := IN H
              have H' := Aside0.mk H
              clear H
              go_wp2
              repeat (go_quiet (fail); try go_wp2)
              go_meet
              case rel => exact ⟨_, (false), RF, H', ⟨by have := HJ7.out; have := HJ17.out; have := HJ21.out; have := HJ37.out; first | omega | exact Nat.le_refl _⟩, ⟨KR HO_19⟩, ⟨KR HO_23⟩, ⟨BB⟩⟩
            case rest => as_aux_lemma =>
             clear HC65
             try clear c1
             try clear c2
             try clear p2
             try clear c4
             try clear c5
             try clear c6
             try clear p6
             try clear c12
             try clear c12b0
             try clear c12b1
             try clear c12b2
             try clear c16
             try clear c19
             try clear c20
             try clear c20b0
             try clear c21
             try clear c21b0
             try clear c23
             try clear c24
             try clear c24b0
             try clear c24b1
             try clear c24b2
             try clear c25
             try clear c27
             try clear c28
             try clear c45
             try clear c45b0
             try clear c45b1
             try clear c45b2
             try clear c47
             try clear c48
             try clear c48b0
             try clear c48b1
             try clear c48b2
             try clear c50
             try clear c51
             try clear c51b0
             try clear c51b1
             try clear c51b2
             try clear c52
             try clear c52b0
             try clear c52b1
             try clear c53
             try clear c53b0
             try clear c53b1
             try clear c53b2
             try clear c54
             try clear c63
             try clear p64
             try clear c66
             try clear c67
             try clear c67b0
             try clear c68
             try clear c68b0
             try clear p2
             try clear p6
             obtain ⟨kq, x216_64, rfl, HA, HJ64, HO_19, HO_23, HB⟩ := hcut
             cases kq with
             | zero => exact absurd HA.out (by simp [laws_FnColouringsAreLeast.j4])
             | succ kj64 =>
              have H := HA.out
              clear HA
              simp only [laws_FnColouringsAreLeast.j4] at H
              have HC69 := Aside0.mk H
              clear H
              go_upto_if 216 with (fail)
              repeat (go_quiet (fail); go_upto_if 216 with (fail))
              go_cut [] (fun wc => ∃ (kq : Nat), Aside0 (laws_FnColouringsAreLeast.j8 kq t296 t297 t307 = some r) ∧ Aside0 (kq ≤ kj64) ∧ Aside0 (Kd.R (Kd.int .i64) 3 wc w.heap.size (fun _ => True) v309 t307) ∧ Aside0 (Below w.heap.size w wc))
              case first => as_aux_lemma =>
               have H := HC69.out
               clear HC69
               by_cases c70 : x216_64 = true
               ·subst c70
                replace H := IP H
                have HC71 := Aside0.mk H
                clear H
                go_upto_region 27 with (fail)
                repeat (go_quiet (fail); go_upto_region 27 with (fail))
                go_cut [230] (fun v230 wc => ∃ (kq : Nat) (x230_70 : Bool), v230 = .bool x230_70 ∧ Aside0 (laws_FnColouringsAreLeast.j5 kq t296 t297 t299 t307 x230_70 = some r) ∧ Aside0 (kq ≤ kj64) ∧ Aside0 (Kd.R (Kd.int .i64) 3 wc w.heap.size (fun k_ => some k_ ≠ (v309 : Value).ownBlock) v301 t299) ∧ Aside0 (Kd.R (Kd.int .i64) 3 wc w.heap.size (fun k_ => some k_ ≠ (v301 : Value).ownBlock) v309 t307) ∧ Aside0 (Below w.heap.size w wc))
                case first => as_aux_lemma =>
                 have H := HC71.out
                 clear HC71
                 by_cases c72 : t322 = true
                 ·subst c72
                  replace H := IP H
                  by_cases c73 : (t307.length : Int) = 0
                  ·rw [if_pos c73] at H
                   have c73b0 : ((t307.length : Int) == 0) = true := beq_iff_eq.mpr c73
                   have c73b1 : ((t307.length : Int) != 0) = false := bne_eq_false_iff_eq.mpr c73
                   clear c73
                   (first | rw [c73b0] | (simp only [i64_w, i32_w]; rw [c73b0]) | skip)
                   have H' := Aside0.mk H
                   clear H
                   obtain ⟨Ao74, co74, eo74⟩ := Kd.R_slice HO_23.out
                   subst eo74
                   go_wp2
                   repeat (go_quiet (fail); try go_wp2)
                   go_meet
                   case rel => exact ⟨_, ((t300 != true)), RF, H', ⟨by have := HJ7.out; have := HJ17.out; have := HJ21.out; have := HJ37.out; have := HJ64.out; first | omega | exact Nat.le_refl _⟩, ⟨KR HO_19⟩, ⟨KR HO_23⟩, ⟨BB⟩⟩
                  ·rw [if_neg c73] at H
                   have c73b0 : ((t307.length : Int) == 0) = false := beq_eq_false_iff_ne.mpr c73
                   have c73b1 : ((t307.length : Int) != 0) = true := bne_iff_ne.mpr c73
                   have c73b2 : ¬ (t307 = []) := fun h_ => c73 (by rw [h_]; rfl)
                   (first | rw [c73b0] | (simp only [i64_w, i32_w]; rw [c73b0]) | skip)
                   have H' := Aside0.mk H
                   clear H
                   obtain ⟨Ao75, co75, eo75⟩ := Kd.R_slice HO_23.out
                   subst eo75
                   go_wp2
                   repeat (go_quiet (fail); try go_wp2)
                   go_meet
                   case rel => exact ⟨_, ((t300 != (decide (t298 ≥ t321)))), RF, H', ⟨by have := HJ7.out; have := HJ17.out; have := HJ21.out; have := HJ37.out; have := HJ64.out; first | omega | exact Nat.le_refl _⟩, ⟨KR HO_19⟩, ⟨KR HO_23⟩, ⟨BB⟩⟩
                 ·replace c72 := Bool.eq_false_iff.mpr c72
                  subst c72
                  replace H := IN H
                  cases H
                case rest => as_aux_lemma =>
                 clear HC71
                 try clear c1
                 try clear c2
                 try clear p2
                 try clear c4
                 try clear c5
                 try clear c6
                 try clear p6
                 try clear c7
                 try clear c12
                 try clear c12b0
                 try clear c12b1
                 try clear c12b2
                 try clear c16
                 try clear c19
                 try clear c20
                 try clear c20b0
                 try clear c21
                 try clear c21b0
                 try clear c23
                 try clear c24
                 try clear c24b0
                 try clear c24b1
                 try clear c24b2
                 try clear c25
                 try clear c27
                 try clear c28
                 try clear c45
                 try clear c45b0
                 try clear c45b1
                 try clear c45b2
                 try clear c47
                 try clear c48
                 try clear c48b0
                 try clear c48b1
                 try clear c48b2
                 try clear c50
                 try clear c51
                 try clear c51b0
                 try clear c51b1
                 try clear c51b2
                 try clear c52
                 try clear c52b0
                 try clear c52b1
                 try clear c53
                 try clear c53b0
                 try clear c53b1
                 try clear c53b2
                 try clear c54
                 try clear c63
                 try clear p64
                 try clear c66
                 try clear c67
                 try clear c67b0
                 try clear c68
                 try clear c68b0
                 try clear c70
                 try clear c72
                 try clear c73
                 try clear c73b0
                 try clear c73b1
                 try clear c73b2
                 try clear p2
                 try clear p6
                 try clear p64
                 obtain ⟨kq, x230_70, rfl, HA, HJ70, HO_19, HO_23, HB⟩ := hcut
                 cases kq with
                 | zero => exact absurd HA.out (by simp [laws_FnColouringsAreLeast.j5])
                 | succ kj70 =>
                  have H := HA.out
                  clear HA
                  simp only [laws_FnColouringsAreLeast.j5] at H
                  by_cases c76 : x230_70 = true
                  ·subst c76
                   replace H := IP H
                   cases H
                  ·replace c76 := Bool.eq_false_iff.mpr c76
                   subst c76
                   replace H := IN H
                   have H' := Aside0.mk H
                   clear H
                   obtain ⟨Ao77, co77, eo77⟩ := Kd.R_slice HO_19.out
                   subst eo77
                   go_wp2
                   repeat (go_quiet (fail); try go_wp2)
                   go_loopg [233] kj70 (fun kq v233 w' => ∃ (x233_7 : Int), v233 = .int .i64 x233_7 ∧ Aside0 (laws_FnColouringsAreLeast.l0 kq t296 t297 t299 t307 t299 (t299.length : Int) x233_7 = some r) ∧ Aside0 (kq ≤ kj70) ∧ Aside0 (Kd.R (Kd.int .i64) 3 w' w.heap.size (fun k_ => some k_ ≠ (v309 : Value).ownBlock) (.slice Ao77 t299.length co77) t299) ∧ Aside0 (Kd.R (Kd.int .i64) 3 w' w.heap.size (fun k_ => some k_ ≠ ((.slice Ao77 t299.length co77) : Value).ownBlock ∧ some k_ ≠ ((.slice Ao77 t299.length co77) : Value).ownBlock) v309 t307) ∧ Aside0 (Kd.R (Kd.int .i64) 3 w' w.heap.size (fun k_ => some k_ ≠ (v309 : Value).ownBlock) (.slice Ao77 t299.length co77) t299) ∧ Aside0 (Below w.heap.size w w'))
                   case atStart => exact ⟨(0), RF, H', ⟨Nat.le_refl _⟩, ⟨KR HO_19⟩, ⟨by (with_reducible repeat (first | apply Kd.R_alloc | apply Kd.R_drewN | apply Kd.R_drew)); exact Kd.R_mono HO_23.out (fun _ hk => ⟨hk, hk⟩)⟩, ⟨KR HO_19⟩, ⟨BB⟩⟩
                   case round => as_aux_lemma =>
                    clear H'
                    try clear c1
                    try clear c2
                    try clear p2
                    try clear c4
                    try clear c5
                    try clear c6
                    try clear p6
                    try clear c7
                    try clear c12
                    try clear c12b0
                    try clear c12b1
                    try clear c12b2
                    try clear c16
                    try clear c19
                    try clear c20
                    try clear c20b0
                    try clear c21
                    try clear c21b0
                    try clear c23
                    try clear c24
                    try clear c24b0
                    try clear c24b1
                    try clear c24b2
                    try clear c25
                    try clear c27
                    try clear c28
                    try clear c45
                    try clear c45b0
                    try clear c45b1
                    try clear c45b2
                    try clear c47
                    try clear c48
                    try clear c48b0
                    try clear c48b1
                    try clear c48b2
                    try clear c50
                    try clear c51
                    try clear c51b0
                    try clear c51b1
                    try clear c51b2
                    try clear c52
                    try clear c52b0
                    try clear c52b1
                    try clear c53
                    try clear c53b0
                    try clear c53b1
                    try clear c53b2
                    try clear c54
                    try clear c63
                    try clear p64
                    try clear c66
                    try clear c67
                    try clear c67b0
                    try clear c68
                    try clear c68b0
                    try clear c70
                    try clear c72
                    try clear c73
                    try clear c73b0
                    try clear c73b1
                    try clear c73b2
                    try clear c76
                    try clear p2
                    try clear p6
                    try clear p64
                    obtain ⟨x233_7, rfl, HA, HK7, HO_19, HO_23, HO_231, HB⟩ := hrel
                    cases gk with
                    | zero => exact absurd HA.out (by simp [laws_FnColouringsAreLeast.l0])
                    | succ k7 =>
                     have H := HA.out
                     clear HA
                     simp only [laws_FnColouringsAreLeast.l0] at H
                     by_cases c78 : x233_7 < (t299.length : Int)
                     ·rw [if_pos c78] at H
                      have c78b0 : decide (x233_7 < (t299.length : Int)) = true := decide_eq_true c78
                      clear c78
                      by_cases c79 : 0 ≤ x233_7
                      ·rw [if_pos c79] at H
                       have c79b0 : decide (0 ≤ x233_7) = true := decide_eq_true c79
                       clear c79
                       by_cases c80 : x233_7 < (t299.length : Int)
                       ·rw [if_pos c80] at H
                        have c80b0 : decide (x233_7 < (t299.length : Int)) = true := decide_eq_true c80
                        clear c80
                        have c81b0 := eq_true (of_decide_eq_true AS : 0 ≤ x233_7)
                        by_cases c82 : x233_7 ≤ (t299.length : Int)
                        ·rw [if_pos c82] at H
                         have c82b0 := eq_true c82
                         have c82b1 : decide (x233_7 ≤ (t299.length : Int)) = true := decide_eq_true c82
                         clear c82
                         obtain ⟨y324, hy324⟩ : ∃ y_ : List Int, y_ = (t299.take (x233_7 : Int).toNat) := ⟨_, rfl⟩
                         replace H : (laws_FnColouringsAreLeast.l1 k7 t296 t297 t299 t307 x233_7 (rd t299 x233_7) t299 (t299.length : Int) x233_7 y324 (y324.length : Int) 0) = some r := HY H hy324
                         have Ny324 := Aside0.mk hy324
                         clear hy324
                         have H' := Aside0.mk H
                         clear H
                         have p323 : 0 ≤ (x233_7 : Int) := of_decide_eq_true AS
                         have q323 : x233_7 < (t299.length : Int) := of_decide_eq_true AS
                         obtain ⟨ad323, e323, hx323_0⟩ := Kd.at_int (Kd.R_reads' HO_231.out).2.2 x233_7 p323 q323
                         cases e323
                         replace p323 := eq_true p323
                         replace q323 := eq_true q323
                         have q83 : (x233_7 : Int) ≤ ((t299.length : Int) : Int) := of_decide_eq_true AS
                         obtain ⟨i083, hi083, _, hsz83, _⟩ := info_parts info3
                         have hroom83 : t299.length ≤ co77 := (Kd.R_reads' HO_19.out).2.1
                         have hC83 : Kd.C (Kd.int .i64) _ (some ad323) t299.length t299 := (Kd.R_reads' HO_19.out).2.2
                         have hcut83 := cut_to (P := Try.prog) 26 3 .i64 Try.underlying26 hi083 (some ad323) t299.length co77 x233_7 (of_decide_eq_true AS) q83 hroom83
                         have hr83 := Kd.C_take (m := (x233_7 : Int).toNat) hC83 (by omega)
                         have hy83 : y324.length = (x233_7 : Int).toNat := (by rw [Ny324.out, List.length_take]; omega)
                         rw [← Ny324.out] at hr83
                         rw [← hy83] at hcut83
                         have HR327 := Aside0.mk hr83
                         have HC327 := Aside0.mk (show y324.length ≤ co77 from by omega)
                         clear hr83 hC83 hroom83 hi083 hsz83
                         have KY83 := Aside0.mk hy83
                         clear hy83
                         have KL83 := Aside0.mk (show (x233_7 : Int).toNat ≤ t299.length from by omega)
                         replace q83 := eq_true q83
                         go_wp2
                         repeat (go_quiet (fail); try go_wp2)
                         go_loopg [242] k7 (fun kq v242 w' => ∃ (x242_8 : Int), v242 = .int .i64 x242_8 ∧ Aside0 (laws_FnColouringsAreLeast.l1 kq t296 t297 t299 t307 x233_7 (rd t299 x233_7) t299 (t299.length : Int) x233_7 y324 (y324.length : Int) x242_8 = some r) ∧ Aside0 (kq ≤ k7) ∧ Aside0 (Kd.R (Kd.int .i64) 3 w' w.heap.size (fun k_ => some k_ ≠ (v309 : Value).ownBlock) (.slice (some ad323) t299.length co77) t299) ∧ Aside0 (Kd.R (Kd.int .i64) 3 w' w.heap.size (fun k_ => some k_ ≠ ((.slice (some ad323) t299.length co77) : Value).ownBlock ∧ some k_ ≠ ((.slice (some ad323) t299.length co77) : Value).ownBlock) v309 t307) ∧ Aside0 (Kd.R (Kd.int .i64) 3 w' w.heap.size (fun k_ => some k_ ≠ (v309 : Value).ownBlock) (.slice (some ad323) t299.length co77) t299) ∧ Aside0 (Kd.C (Kd.int .i64) w' (some ad323) y324.length y324) ∧ Aside0 (Below w.heap.size w w'))
                         case atStart => exact ⟨(0), RF, H', ⟨Nat.le_refl _⟩, ⟨KR HO_19⟩, ⟨KR HO_23⟩, ⟨KR HO_231⟩, ⟨by repeat (first | (with_reducible exact HR327.out) | (with_reducible refine Kd.C_drewN ?_ _) | (with_reducible refine Kd.C_drew ?_) | (with_reducible refine Kd.C_alloc ?_ _) | exact HR327.out)⟩, ⟨BB⟩⟩
                         case round => as_aux_lemma =>
                          clear H'
                          try clear c1
                          try clear c2
                          try clear p2
                          try clear p3
                          try clear q3
                          try clear hx3
                          try clear c4
                          try clear c5
                          try clear c6
                          try clear p6
                          try clear c7
                          try clear c8
                          try clear q8
                          try clear c12
                          try clear c12b0
                          try clear c12b1
                          try clear c12b2
                          try clear c16
                          try clear c19
                          try clear c20
                          try clear c20b0
                          try clear c21
                          try clear c21b0
                          try clear c23
                          try clear c24
                          try clear c24b0
                          try clear c24b1
                          try clear c24b2
                          try clear c25
                          try clear c27
                          try clear c28
                          try clear p32
                          try clear q32
                          try clear hx32
                          try clear c45
                          try clear c45b0
                          try clear c45b1
                          try clear c45b2
                          try clear c47
                          try clear c48
                          try clear c48b0
                          try clear c48b1
                          try clear c48b2
                          try clear c50
                          try clear c51
                          try clear c51b0
                          try clear c51b1
                          try clear c51b2
                          try clear c52
                          try clear c52b0
                          try clear c52b1
                          try clear c53
                          try clear c53b0
                          try clear c53b1
                          try clear c53b2
                          try clear c54
                          try clear c63
                          try clear p64
                          try clear c66
                          try clear c67
                          try clear c67b0
                          try clear c68
                          try clear c68b0
                          try clear c70
                          try clear c72
                          try clear c73
                          try clear c73b0
                          try clear c73b1
                          try clear c73b2
                          try clear c76
                          try clear c78
                          try clear c78b0
                          try clear c79
                          try clear c79b0
                          try clear c80
                          try clear c80b0
                          try clear c81
                          try clear c81b0
                          try clear c82
                          try clear c82b0
                          try clear c82b1
                          try clear q83
                          try clear hx323_0
                          try clear p2
                          try clear p323
                          try clear p6
                          try clear p64
                          try clear q323
                          try clear q83
                          obtain ⟨x242_8, rfl, HA, HK8, HO_19, HO_23, HO_231, HR327, HB⟩ := hrel
                          cases gk with
                          | zero => exact absurd HA.out (by simp [laws_FnColouringsAreLeast.l1])
                          | succ k8 =>
                           have H := HA.out
                           clear HA
                           simp only [laws_FnColouringsAreLeast.l1] at H
                           by_cases c84 : x242_8 < (y324.length : Int)
                           ·rw [if_pos c84] at H
                            have c84b0 : decide (x242_8 < (y324.length : Int)) = true := decide_eq_true c84
                            clear c84
                            by_cases c85 : 0 ≤ x242_8
                            ·rw [if_pos c85] at H
                             have c85b0 : decide (0 ≤ x242_8) = true := decide_eq_true c85
                             clear c85
                             by_cases c86 : x242_8 < (y324.length : Int)
                             ·rw [if_pos c86] at H
                              have c86b0 : decide (x242_8 < (y324.length : Int)) = true := decide_eq_true c86
                              clear c86
                              by_cases c87 : (rd t299 x233_7) = (rd y324 x242_8)
                              ·rw [if_pos c87] at H
                               have c87b0 : ((rd t299 x233_7) == (rd y324 x242_8)) = true := beq_iff_eq.mpr c87
                               have c87b1 : ((rd t299 x233_7) != (rd y324 x242_8)) = false := bne_eq_false_iff_eq.mpr c87
                               clear c87
                               by_cases c88 : 0 ≤ x233_7
                               ·rw [if_pos c88] at H
                                have c88b0 : decide (0 ≤ x233_7) = true := decide_eq_true c88
                                clear c88
                                by_cases c89 : x233_7 < (t307.length : Int)
                                ·rw [if_pos c89] at H
                                 have c89b0 : decide (x233_7 < (t307.length : Int)) = true := decide_eq_true c89
                                 clear c89
                                 by_cases c90 : x242_8 < (t307.length : Int)
                                 ·rw [if_pos c90] at H
                                  have c90b0 : decide (x242_8 < (t307.length : Int)) = true := decide_eq_true c90
                                  clear c90
                                  by_cases c91 : (Go.bits .and .i64 (rd t307 x233_7) (rd t307 x242_8)) = 0
                                  ·rw [if_pos c91] at H
                                   cases H
                                  ·rw [if_neg c91] at H
                                   have c91b0 : ((Go.bits .and .i64 (rd t307 x233_7) (rd t307 x242_8)) == 0) = false := beq_eq_false_iff_ne.mpr c91
                                   have c91b1 : ((Go.bits .and .i64 (rd t307 x233_7) (rd t307 x242_8)) != 0) = true := bne_iff_ne.mpr c91
                                   have H' := Aside0.mk H
                                   clear H
                                   have p328 : 0 ≤ (x242_8 : Int) := of_decide_eq_true AS
                                   have q328 : x242_8 < (y324.length : Int) := of_decide_eq_true AS
                                   obtain ⟨ad328, e328, hx328_0⟩ := Kd.at_int HR327.out x242_8 p328 q328
                                   obtain rfl : ad323 = ad328 := (by injection e328)
                                   try (replace hx328_0 := (HB.out.cell (World.block_lt_of_cell? w _ hx328_0)).trans hx328_0)
                                   replace p328 := eq_true p328
                                   replace q328 := eq_true q328
                                   obtain ⟨Ao92, co92, eo92⟩ := Kd.R_slice HO_23.out
                                   subst eo92
                                   have p329 : 0 ≤ (x233_7 : Int) := of_decide_eq_true AS
                                   have q329 : x233_7 < (t307.length : Int) := of_decide_eq_true AS
                                   obtain ⟨ad329, e329, hx329_0⟩ := Kd.at_int (Kd.R_reads' HO_23.out).2.2 x233_7 p329 q329
                                   cases e329
                                   replace p329 := eq_true p329
                                   replace q329 := eq_true q329
                                   have p330 : 0 ≤ (x242_8 : Int) := of_decide_eq_true AS
                                   have q330 : x242_8 < (t307.length : Int) := of_decide_eq_true AS
                                   obtain ⟨ad330, e330, hx330_0⟩ := Kd.at_int (Kd.R_reads' HO_23.out).2.2 x242_8 p330 q330
                                   obtain rfl : ad329 = ad330 := (by injection e330)
                                   replace p330 := eq_true p330
                                   replace q330 := eq_true q330
                                   go_wp2
                                   repeat (go_quiet (fail); try go_wp2)
                                   go_roundg k8
                                   case measure => have := HJ7.out; have := HJ17.out; have := HJ21.out; have := HJ37.out; have := HJ64.out; have := HJ70.out; have := HK7.out; have := HK8.out; omega
                                   case rel => exact ⟨(wrap64 (x242_8 + 1)), RF, H', ⟨by have := HJ7.out; have := HJ17.out; have := HJ21.out; have := HJ37.out; have := HJ64.out; have := HJ70.out; have := HK7.out; have := HK8.out; omega⟩, ⟨KR HO_19⟩, ⟨KR HO_23⟩, ⟨KR HO_231⟩, ⟨by repeat (first | (with_reducible exact HR327.out) | (with_reducible refine Kd.C_drewN ?_ _) | (with_reducible refine Kd.C_drew ?_) | (with_reducible refine Kd.C_alloc ?_ _) | exact HR327.out)⟩, ⟨BB⟩⟩
                                 ·rw [if_neg c90] at H
                                  cases H
                                ·rw [if_neg c89] at H
                                 cases H
                               ·rw [if_neg c88] at H
                                cases H
                              ·rw [if_neg c87] at H
                               have c87b0 : ((rd t299 x233_7) == (rd y324 x242_8)) = false := beq_eq_false_iff_ne.mpr c87
                               have c87b1 : ((rd t299 x233_7) != (rd y324 x242_8)) = true := bne_iff_ne.mpr c87
                               have H' := Aside0.mk H
                               clear H
                               have p328 : 0 ≤ (x242_8 : Int) := of_decide_eq_true AS
                               have q328 : x242_8 < (y324.length : Int) := of_decide_eq_true AS
                               obtain ⟨ad328, e328, hx328_0⟩ := Kd.at_int HR327.out x242_8 p328 q328
                               obtain rfl : ad323 = ad328 := (by injection e328)
                               try (replace hx328_0 := (HB.out.cell (World.block_lt_of_cell? w _ hx328_0)).trans hx328_0)
                               replace p328 := eq_true p328
                               replace q328 := eq_true q328
                               go_wp2
                               repeat (go_quiet (fail); try go_wp2)
                               go_roundg k8
                               case measure => have := HJ7.out; have := HJ17.out; have := HJ21.out; have := HJ37.out; have := HJ64.out; have := HJ70.out; have := HK7.out; have := HK8.out; omega
                               case rel => exact ⟨(wrap64 (x242_8 + 1)), RF, H', ⟨by have := HJ7.out; have := HJ17.out; have := HJ21.out; have := HJ37.out; have := HJ64.out; have := HJ70.out; have := HK7.out; have := HK8.out; omega⟩, ⟨KR HO_19⟩, ⟨KR HO_23⟩, ⟨KR HO_231⟩, ⟨by repeat (first | (with_reducible exact HR327.out) | (with_reducible refine Kd.C_drewN ?_ _) | (with_reducible refine Kd.C_drew ?_) | (with_reducible refine Kd.C_alloc ?_ _) | exact HR327.out)⟩, ⟨BB⟩⟩
                             ·rw [if_neg c86] at H
                              cases H
                            ·rw [if_neg c85] at H
                             cases H
                           ·rw [if_neg c84] at H
                            have c84b0 : decide (x242_8 < (y324.length : Int)) = false := decide_eq_false c84
                            clear c84
                            have H' := Aside0.mk H
                            clear H
                            go_wp2
                            repeat (go_quiet (fail); try go_wp2)
                            go_roundg k8
                            case measure => have := HJ7.out; have := HJ17.out; have := HJ21.out; have := HJ37.out; have := HJ64.out; have := HJ70.out; have := HK7.out; have := HK8.out; omega
                            case rel => exact ⟨(wrap64 (x233_7 + 1)), RF, H', ⟨by have := HJ7.out; have := HJ17.out; have := HJ21.out; have := HJ37.out; have := HJ64.out; have := HJ70.out; have := HK7.out; have := HK8.out; omega⟩, ⟨KR HO_19⟩, ⟨KR HO_23⟩, ⟨KR HO_231⟩, ⟨BB⟩⟩
                        ·rw [if_neg c82] at H
                         cases H
                       ·rw [if_neg c80] at H
                        cases H
                      ·rw [if_neg c79] at H
                       cases H
                     ·rw [if_neg c78] at H
                      have c78b0 : decide (x233_7 < (t299.length : Int)) = false := decide_eq_false c78
                      clear c78
                      have H' := Aside0.mk H
                      clear H
                      go_wp2
                      repeat (go_quiet (fail); try go_wp2)
                      go_meet
                      case rel => exact ⟨_, H', ⟨by have := HJ7.out; have := HJ17.out; have := HJ21.out; have := HJ37.out; have := HJ64.out; have := HJ70.out; have := HK7.out; first | omega | exact Nat.le_refl _⟩, ⟨by (with_reducible repeat (first | apply Kd.R_alloc | apply Kd.R_drewN | apply Kd.R_drew)); exact Kd.R_mono HO_23.out (fun _ hk => trivial)⟩, ⟨BB⟩⟩
               ·replace c70 := Bool.eq_false_iff.mpr c70
                subst c70
                replace H := IN H
                have H' := Aside0.mk H
                clear H
                go_wp2
                repeat (go_quiet (fail); try go_wp2)
                go_meet
                case rel => exact ⟨_, H', ⟨by have := HJ7.out; have := HJ17.out; have := HJ21.out; have := HJ37.out; have := HJ64.out; first | omega | exact Nat.le_refl _⟩, ⟨by (with_reducible repeat (first | apply Kd.R_alloc | apply Kd.R_drewN | apply Kd.R_drew)); exact Kd.R_mono HO_23.out (fun _ hk => trivial)⟩, ⟨BB⟩⟩
              case rest => as_aux_lemma =>
               clear HC69
               try clear c1
               try clear c2
               try clear p2
               try clear p3
               try clear q3
               try clear hx3
               try clear c4
               try clear c5
               try clear c6
               try clear p6
               try clear c7
               try clear c8
               try clear q8
               try clear c9
               try clear c12
               try clear c12b0
               try clear c12b1
               try clear c12b2
               try clear c16
               try clear c19
               try clear c20
               try clear c20b0
               try clear c21
               try clear c21b0
               try clear c23
               try clear c24
               try clear c24b0
               try clear c24b1
               try clear c24b2
               try clear c25
               try clear c27
               try clear c28
               try clear p32
               try clear q32
               try clear hx32
               try clear p33
               try clear q33
               try clear hx33
               try clear c45
               try clear c45b0
               try clear c45b1
               try clear c45b2
               try clear c47
               try clear c48
               try clear c48b0
               try clear c48b1
               try clear c48b2
               try clear c50
               try clear c51
               try clear c51b0
               try clear c51b1
               try clear c51b2
               try clear c52
               try clear c52b0
               try clear c52b1
               try clear c53
               try clear c53b0
               try clear c53b1
               try clear c53b2
               try clear c54
               try clear c63
               try clear p64
               try clear c66
               try clear c67
               try clear c67b0
               try clear c68
               try clear c68b0
               try clear c70
               try clear c72
               try clear c73
               try clear c73b0
               try clear c73b1
               try clear c73b2
               try clear c76
               try clear c78
               try clear c78b0
               try clear c79
               try clear c79b0
               try clear c80
               try clear c80b0
               try clear c81
               try clear c81b0
               try clear c82
               try clear c82b0
               try clear c82b1
               try clear q83
               try clear c84
               try clear c84b0
               try clear c85
               try clear c85b0
               try clear c86
               try clear c86b0
               try clear c87
               try clear c87b0
               try clear c87b1
               try clear c88
               try clear c88b0
               try clear c89
               try clear c89b0
               try clear c90
               try clear c90b0
               try clear c91
               try clear c91b0
               try clear c91b1
               try clear hx323_0
               try clear hx328_0
               try clear hx329_0
               try clear hx330_0
               try clear p2
               try clear p3
               try clear p32
               try clear p323
               try clear p328
               try clear p329
               try clear p330
               try clear p6
               try clear p64
               try clear q3
               try clear q32
               try clear q323
               try clear q328
               try clear q329
               try clear q330
               try clear q8
               try clear q83
               obtain ⟨kq, HA, HJ68, HO_23, HB⟩ := hcut
               cases kq with
               | zero => exact absurd HA.out (by simp [laws_FnColouringsAreLeast.j8])
               | succ kj68 =>
                have H := HA.out
                clear HA
                simp only [laws_FnColouringsAreLeast.j8] at H
                have H' := Aside0.mk H
                clear H
                obtain ⟨Ao93, co93, eo93⟩ := Kd.R_slice HO_23.out
                subst eo93
                go_wp2
                repeat (go_quiet (fail); try go_wp2)
                go_loopg [266] kj68 (fun kq v266 w' => ∃ (x266_7 : Int), v266 = .int .i64 x266_7 ∧ Aside0 (laws_FnColouringsAreLeast.l2 kq t296 t297 t307 (t307.length : Int) x266_7 = some r) ∧ Aside0 (kq ≤ kj68) ∧ Aside0 (Kd.R (Kd.int .i64) 3 w' w.heap.size (fun _ => True) (.slice Ao93 t307.length co93) t307) ∧ Aside0 (Below w.heap.size w w'))
                case atStart => exact ⟨(0), RF, H', ⟨Nat.le_refl _⟩, ⟨KR HO_23⟩, ⟨BB⟩⟩
                case round => as_aux_lemma =>
                 clear H'
                 try clear c1
                 try clear c2
                 try clear p2
                 try clear p3
                 try clear q3
                 try clear hx3
                 try clear c4
                 try clear c5
                 try clear c6
                 try clear p6
                 try clear c7
                 try clear c8
                 try clear q8
                 try clear c9
                 try clear c12
                 try clear c12b0
                 try clear c12b1
                 try clear c12b2
                 try clear c16
                 try clear c19
                 try clear c20
                 try clear c20b0
                 try clear c21
                 try clear c21b0
                 try clear c23
                 try clear c24
                 try clear c24b0
                 try clear c24b1
                 try clear c24b2
                 try clear c25
                 try clear c27
                 try clear c28
                 try clear p32
                 try clear q32
                 try clear hx32
                 try clear p33
                 try clear q33
                 try clear hx33
                 try clear c45
                 try clear c45b0
                 try clear c45b1
                 try clear c45b2
                 try clear c47
                 try clear c48
                 try clear c48b0
                 try clear c48b1
                 try clear c48b2
                 try clear c50
                 try clear c51
                 try clear c51b0
                 try clear c51b1
                 try clear c51b2
                 try clear c52
                 try clear c52b0
                 try clear c52b1
                 try clear c53
                 try clear c53b0
                 try clear c53b1
                 try clear c53b2
                 try clear c54
                 try clear c63
                 try clear p64
                 try clear c66
                 try clear c67
                 try clear c67b0
                 try clear c68
                 try clear c68b0
                 try clear c70
                 try clear c72
                 try clear c73
                 try clear c73b0
                 try clear c73b1
                 try clear c73b2
                 try clear c76
                 try clear c78
                 try clear c78b0
                 try clear c79
                 try clear c79b0
                 try clear c80
                 try clear c80b0
                 try clear c81
                 try clear c81b0
                 try clear c82
                 try clear c82b0
                 try clear c82b1
                 try clear q83
                 try clear c84
                 try clear c84b0
                 try clear c85
                 try clear c85b0
                 try clear c86
                 try clear c86b0
                 try clear c87
                 try clear c87b0
                 try clear c87b1
                 try clear c88
                 try clear c88b0
                 try clear c89
                 try clear c89b0
                 try clear c90
                 try clear c90b0
                 try clear c91
                 try clear c91b0
                 try clear c91b1
                 try clear hx323_0
                 try clear hx328_0
                 try clear hx329_0
                 try clear hx330_0
                 try clear p2
                 try clear p3
                 try clear p32
                 try clear p323
                 try clear p328
                 try clear p329
                 try clear p33
                 try clear p330
                 try clear p6
                 try clear p64
                 try clear q3
                 try clear q32
                 try clear q323
                 try clear q328
                 try clear q329
                 try clear q33
                 try clear q330
                 try clear q8
                 try clear q83
                 obtain ⟨x266_7, rfl, HA, HK7, HO_264, HB⟩ := hrel
                 cases gk with
                 | zero => exact absurd HA.out (by simp [laws_FnColouringsAreLeast.l2])
                 | succ k7 =>
                  have H := HA.out
                  clear HA
                  simp only [laws_FnColouringsAreLeast.l2] at H
                  by_cases c94 : x266_7 < (t307.length : Int)
                  ·rw [if_pos c94] at H
                   have c94b0 : decide (x266_7 < (t307.length : Int)) = true := decide_eq_true c94
                   clear c94
                   by_cases c95 : 0 ≤ x266_7
                   ·rw [if_pos c95] at H
                    have c95b0 : decide (0 ≤ x266_7) = true := decide_eq_true c95
                    clear c95
                    by_cases c96 : x266_7 < (t307.length : Int)
                    ·rw [if_pos c96] at H
                     have c96b0 : decide (x266_7 < (t307.length : Int)) = true := decide_eq_true c96
                     clear c96
                     have H' := Aside0.mk H
                     clear H
                     have p331 : 0 ≤ (x266_7 : Int) := of_decide_eq_true AS
                     have q331 : x266_7 < (t307.length : Int) := of_decide_eq_true AS
                     obtain ⟨ad331, e331, hx331_0⟩ := Kd.at_int (Kd.R_reads' HO_264.out).2.2 x266_7 p331 q331
                     cases e331
                     replace p331 := eq_true p331
                     replace q331 := eq_true q331
                     go_wp2
                     repeat (go_quiet (fail); try go_wp2)
                     go_loopg [39] k7 (fun kq v39 w' => ∃ (x39_8 : Int), v39 = .int .i64 x39_8 ∧ Aside0 (laws_FnColouringsAreLeast.l3 kq t296 t297 (rd t307 x266_7) x39_8 t307 (t307.length : Int) x266_7 = some r) ∧ Aside0 (kq ≤ k7) ∧ Aside0 (Kd.R (Kd.int .i64) 3 w' w.heap.size (fun _ => True) (.slice (some ad331) t307.length co93) t307) ∧ Aside0 (Below w.heap.size w w'))
                     case atStart => exact ⟨(0), RF, H', ⟨Nat.le_refl _⟩, ⟨KR HO_264⟩, ⟨BB⟩⟩
                     case round => as_aux_lemma =>
                      clear H'
                      try clear c1
                      try clear c2
                      try clear p2
                      try clear p3
                      try clear q3
                      try clear hx3
                      try clear c4
                      try clear c5
                      try clear c6
                      try clear p6
                      try clear c7
                      try clear c8
                      try clear q8
                      try clear c9
                      try clear c12
                      try clear c12b0
                      try clear c12b1
                      try clear c12b2
                      try clear c16
                      try clear c19
                      try clear c20
                      try clear c20b0
                      try clear c21
                      try clear c21b0
                      try clear c23
                      try clear c24
                      try clear c24b0
                      try clear c24b1
                      try clear c24b2
                      try clear c25
                      try clear c27
                      try clear c28
                      try clear p32
                      try clear q32
                      try clear hx32
                      try clear p33
                      try clear q33
                      try clear hx33
                      try clear c45
                      try clear c45b0
                      try clear c45b1
                      try clear c45b2
                      try clear c47
                      try clear c48
                      try clear c48b0
                      try clear c48b1
                      try clear c48b2
                      try clear c50
                      try clear c51
                      try clear c51b0
                      try clear c51b1
                      try clear c51b2
                      try clear c52
                      try clear c52b0
                      try clear c52b1
                      try clear c53
                      try clear c53b0
                      try clear c53b1
                      try clear c53b2
                      try clear c54
                      try clear c63
                      try clear p64
                      try clear c66
                      try clear c67
                      try clear c67b0
                      try clear c68
                      try clear c68b0
                      try clear c70
                      try clear c72
                      try clear c73
                      try clear c73b0
                      try clear c73b1
                      try clear c73b2
                      try clear c76
                      try clear c78
                      try clear c78b0
                      try clear c79
                      try clear c79b0
                      try clear c80
                      try clear c80b0
                      try clear c81
                      try clear c81b0
                      try clear c82
                      try clear c82b0
                      try clear c82b1
                      try clear q83
                      try clear c84
                      try clear c84b0
                      try clear c85
                      try clear c85b0
                      try clear c86
                      try clear c86b0
                      try clear c87
                      try clear c87b0
                      try clear c87b1
                      try clear c88
                      try clear c88b0
                      try clear c89
                      try clear c89b0
                      try clear c90
                      try clear c90b0
                      try clear c91
                      try clear c91b0
                      try clear c91b1
                      try clear c94
                      try clear c94b0
                      try clear c95
                      try clear c95b0
                      try clear c96
                      try clear c96b0
                      try clear hx323_0
                      try clear hx328_0
                      try clear hx329_0
                      try clear hx330_0
                      try clear hx331_0
                      try clear p2
                      try clear p3
                      try clear p32
                      try clear p323
                      try clear p328
                      try clear p329
                      try clear p33
                      try clear p330
                      try clear p331
                      try clear p6
                      try clear p64
                      try clear q3
                      try clear q32
                      try clear q323
                      try clear q328
                      try clear q329
                      try clear q33
                      try clear q330
                      try clear q331
                      try clear q8
                      try clear q83
                      obtain ⟨x39_8, rfl, HA, HK8, HO_264, HB⟩ := hrel
                      cases gk with
                      | zero => exact absurd HA.out (by simp [laws_FnColouringsAreLeast.l3])
                      | succ k8 =>
                       have H := HA.out
                       clear HA
                       simp only [laws_FnColouringsAreLeast.l3] at H
                       by_cases c97 : x39_8 < t296
                       ·rw [if_pos c97] at H
                        have c97b0 : decide (x39_8 < t296) = true := decide_eq_true c97
                        clear c97
                        by_cases c98 : t297 > 1
                        ·rw [if_pos c98] at H
                         have c98b0 : decide (1 < t297) = true := decide_eq_true c98
                         clear c98
                         by_cases c99 : 0 ≤ x39_8
                         ·rw [if_pos c99] at H
                          have c99b0 := eq_true c99
                          have c99b1 : decide (0 ≤ x39_8) = true := decide_eq_true c99
                          clear c99
                          obtain ⟨ji100, hji100⟩ : ∃ j_ : Int, (shr .i64 (rd t307 x266_7) x39_8) = j_ := ⟨_, rfl⟩
                          replace H : (if (Int.tmod (ji100) 2) = 1 then (if t296 = 0 then (none) else (if 0 ≤ (Int.tmod (wrap64 (x39_8 + 1)) t296) then (if (Int.tmod (shr .i64 (rd t307 x266_7) (Int.tmod (wrap64 (x39_8 + 1)) t296)) 2) = 1 then (none) else (laws_FnColouringsAreLeast.l3 k8 t296 t297 (rd t307 x266_7) (wrap64 (x39_8 + 1)) t307 (t307.length : Int) x266_7)) else (none))) else (laws_FnColouringsAreLeast.l3 k8 t296 t297 (rd t307 x266_7) (wrap64 (x39_8 + 1)) t307 (t307.length : Int) x266_7)) = some r := by first | (rw [hji100] at H; exact H) | (simp only [hji100] at H ⊢; exact H)
                          have hji100_ : ((rd t307 x266_7) / 2 ^ min x39_8.toNat 64) = ji100 := hji100
                          have hji100z : x39_8 ≤ 64 → ((rd t307 x266_7) / 2 ^ x39_8.toNat) = ji100 := shr_small hji100
                          by_cases c101 : (Int.tmod (ji100) 2) = 1
                          ·rw [if_pos c101] at H
                           have c101b0 : ((Int.tmod (ji100) 2) == 1) = true := beq_iff_eq.mpr c101
                           have c101b1 : ((Int.tmod (ji100) 2) != 1) = false := bne_eq_false_iff_eq.mpr c101
                           clear c101
                           by_cases c102 : t296 = 0
                           ·rw [if_pos c102] at H
                            cases H
                           ·rw [if_neg c102] at H
                            have c102b0 : (t296 == 0) = false := beq_eq_false_iff_ne.mpr c102
                            have c102b1 : (t296 != 0) = true := bne_iff_ne.mpr c102
                            obtain ⟨ji103, hji103⟩ : ∃ j_ : Int, (Int.tmod (wrap64 (x39_8 + 1)) t296) = j_ := ⟨_, rfl⟩
                            replace H : (if 0 ≤ (ji103) then (if (Int.tmod (shr .i64 (rd t307 x266_7) (ji103)) 2) = 1 then (none) else (laws_FnColouringsAreLeast.l3 k8 t296 t297 (rd t307 x266_7) (wrap64 (x39_8 + 1)) t307 (t307.length : Int) x266_7)) else (none)) = some r := by first | (rw [hji103] at H; exact H) | (simp only [hji103] at H ⊢; exact H)
                            by_cases c104 : 0 ≤ (ji103)
                            ·rw [if_pos c104] at H
                             have c104b0 := eq_true c104
                             have c104b1 : decide (0 ≤ (ji103)) = true := decide_eq_true c104
                             clear c104
                             obtain ⟨ji105, hji105⟩ : ∃ j_ : Int, (shr .i64 (rd t307 x266_7) (ji103)) = j_ := ⟨_, rfl⟩
                             replace H : (if (Int.tmod (ji105) 2) = 1 then (none) else (laws_FnColouringsAreLeast.l3 k8 t296 t297 (rd t307 x266_7) (wrap64 (x39_8 + 1)) t307 (t307.length : Int) x266_7)) = some r := by first | (rw [hji105] at H; exact H) | (simp only [hji105] at H ⊢; exact H)
                             have hji105_ : ((rd t307 x266_7) / 2 ^ min (ji103).toNat 64) = ji105 := hji105
                             have hji105z : (ji103) ≤ 64 → ((rd t307 x266_7) / 2 ^ (ji103).toNat) = ji105 := shr_small hji105
                             by_cases c106 : (Int.tmod (ji105) 2) = 1
                             ·rw [if_pos c106] at H
                              cases H
                             ·rw [if_neg c106] at H
                              have c106b0 : ((Int.tmod (ji105) 2) == 1) = false := beq_eq_false_iff_ne.mpr c106
                              have c106b1 : ((Int.tmod (ji105) 2) != 1) = true := bne_iff_ne.mpr c106
                              have H' := Aside0.mk H
                              clear H
                              go_wp2
                              repeat (go_quiet (fail); try go_wp2)
                              go_roundg k8
                              case measure => have := HJ7.out; have := HJ17.out; have := HJ21.out; have := HJ37.out; have := HJ64.out; have := HJ68.out; have := HK7.out; have := HK8.out; omega
                              case rel => exact ⟨(wrap64 (x39_8 + 1)), RF, H', ⟨by have := HJ7.out; have := HJ17.out; have := HJ21.out; have := HJ37.out; have := HJ64.out; have := HJ68.out; have := HK7.out; have := HK8.out; omega⟩, ⟨KR HO_264⟩, ⟨BB⟩⟩
                            ·rw [if_neg c104] at H
                             cases H
                          ·rw [if_neg c101] at H
                           have c101b0 : ((Int.tmod (ji100) 2) == 1) = false := beq_eq_false_iff_ne.mpr c101
                           have c101b1 : ((Int.tmod (ji100) 2) != 1) = true := bne_iff_ne.mpr c101
                           have H' := Aside0.mk H
                           clear H
                           go_wp2
                           repeat (go_quiet (fail); try go_wp2)
                           go_roundg k8
                           case measure => have := HJ7.out; have := HJ17.out; have := HJ21.out; have := HJ37.out; have := HJ64.out; have := HJ68.out; have := HK7.out; have := HK8.out; omega
                           case rel => exact ⟨(wrap64 (x39_8 + 1)), RF, H', ⟨by have := HJ7.out; have := HJ17.out; have := HJ21.out; have := HJ37.out; have := HJ64.out; have := HJ68.out; have := HK7.out; have := HK8.out; omega⟩, ⟨KR HO_264⟩, ⟨BB⟩⟩
                         ·rw [if_neg c99] at H
                          cases H
                        ·rw [if_neg c98] at H
                         have c98b0 : decide (1 < t297) = false := decide_eq_false c98
                         clear c98
                         have H' := Aside0.mk H
                         clear H
                         go_wp2
                         repeat (go_quiet (fail); try go_wp2)
                         go_roundg k8
                         case measure => have := HJ7.out; have := HJ17.out; have := HJ21.out; have := HJ37.out; have := HJ64.out; have := HJ68.out; have := HK7.out; have := HK8.out; omega
                         case rel => exact ⟨(wrap64 (x39_8 + 1)), RF, H', ⟨by have := HJ7.out; have := HJ17.out; have := HJ21.out; have := HJ37.out; have := HJ64.out; have := HJ68.out; have := HK7.out; have := HK8.out; omega⟩, ⟨KR HO_264⟩, ⟨BB⟩⟩
                       ·rw [if_neg c97] at H
                        have c97b0 : decide (x39_8 < t296) = false := decide_eq_false c97
                        clear c97
                        have H' := Aside0.mk H
                        clear H
                        go_wp2
                        repeat (go_quiet (fail); try go_wp2)
                        go_roundg k8
                        case measure => have := HJ7.out; have := HJ17.out; have := HJ21.out; have := HJ37.out; have := HJ64.out; have := HJ68.out; have := HK7.out; have := HK8.out; omega
                        case rel => exact ⟨(wrap64 (x266_7 + 1)), RF, H', ⟨by have := HJ7.out; have := HJ17.out; have := HJ21.out; have := HJ37.out; have := HJ64.out; have := HJ68.out; have := HK7.out; have := HK8.out; omega⟩, ⟨KR HO_264⟩, ⟨BB⟩⟩
                    ·rw [if_neg c96] at H
                     cases H
                   ·rw [if_neg c95] at H
                    cases H
                  ·rw [if_neg c94] at H
                   have c94b0 : decide (x266_7 < (t307.length : Int)) = false := decide_eq_false c94
                   clear c94
                   obtain rfl := Option.some.inj H
                   go_wp2
                   repeat (go_quiet (fail); try go_wp2)
                   go_ret
                   exact ⟨RE, BB⟩

/-- THE ONE PURE STATEMENT of laws_FnColouringsAreLeast: yours. -/
def laws_FnColouringsAreLeast.Pure : Prop := ∀ (l0 : List Int) (l1 : List Int), l0.length ≤ maxLen → l0.length * 1 ≤ 140737488351232 → (∀ x ∈ l0, (Lit.int .u8 x).wf = true) → l1.length ≤ maxLen → l1.length * 1 ≤ 140737488351232 → (∀ x ∈ l1, (Lit.int .u8 x).wf = true) → ∃ k, laws_FnColouringsAreLeast.f k l0 l1 = some true
theorem laws_FnColouringsAreLeast.walk (P : laws_FnColouringsAreLeast.Pure) (a0 : Option Addr) (len0 cap0 : Nat) (z0 : List Int) (a1 : Option Addr) (len1 cap1 : Nat) (z1 : List Int) (w : World) (w0 : (a0 = none ∧ len0 = 0 ∧ cap0 = 0 ∧ z0 = []) ∨ ∃ x, a0 = some x ∧ len0 ≤ cap0 ∧ cap0 ≤ maxLen ∧ z0.length = cap0 ∧ (∀ i, i < z0.length → w.cell? (x.add i) = some (.int .u8 (z0.getD i 0))) ∧ ∀ n ∈ z0, (Lit.int .u8 n).wf = true) (y0 : len0 * 1 ≤ 140737488351232) (w1 : (a1 = none ∧ len1 = 0 ∧ cap1 = 0 ∧ z1 = []) ∨ ∃ x, a1 = some x ∧ len1 ≤ cap1 ∧ cap1 ≤ maxLen ∧ z1.length = cap1 ∧ (∀ i, i < z1.length → w.cell? (x.add i) = some (.int .u8 (z1.getD i 0))) ∧ ∀ n ∈ z1, (Lit.int .u8 n).wf = true) (y1 : len1 * 1 ≤ 140737488351232) :
  Calls Try.prog 4 #[.slice a0 len0 cap0, .slice a1 len1 cap1] w fun e w' => e = .returned (.bool true) ∧ Below w.heap.size w w' := by
 obtain ⟨l0, rfl, hr0, hm0, hw0, hc0⟩ := ReadsInt.ofRowC w0
 obtain ⟨l1, rfl, hr1, hm1, hw1, hc1⟩ := ReadsInt.ofRowC w1
 obtain ⟨k, h⟩ := P l0 l1 hm0 y0 hw0 hm1 y1 hw1
 refine (laws_FnColouringsAreLeast.calls k _ _ l0 _ _ l1 true w (Kd.C_of_reads (d := (0 : Int)) (h1 := fun _ => rfl) hr0) hc0 (Kd.C_of_reads (d := (0 : Int)) (h1 := fun _ => rfl) hr1) hc1 h).mono ?_
 rintro e w' ⟨rfl, hd⟩
 exact ⟨rfl, hd⟩

end Go.Proofs.Ytemgnbpcchlpiaa.PFnColouringsAreLeast
