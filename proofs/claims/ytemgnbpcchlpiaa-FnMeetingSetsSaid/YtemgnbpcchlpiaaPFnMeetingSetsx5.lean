-- Written by a program of this session (wip/tools/pp.sh) out of the translation; Lean checks it.
import Derived.Test.YtemgnbpcchlpiaaPFnMeetingSetsx0
import Derived.Test.YtemgnbpcchlpiaaPFnMeetingSetsx1
import Derived.Test.YtemgnbpcchlpiaaPFnMeetingSetsx2
import Derived.Test.YtemgnbpcchlpiaaPFnMeetingSetsx3
import Derived.Test.YtemgnbpcchlpiaaPFnMeetingSetsx4
namespace Go.Proofs.Ytemgnbpcchlpiaa.PFnMeetingSets
open Go.RowKit Go.Proofs.YtemgnbpcchlpiaaOwn Go.Proofs.YtemgnbpcchlpiaaW.PrintWords Go.Proofs.YtemgnbpcchlpiaaW.PrintLast Go.Proofs.YtemgnbpcchlpiaaW.PrintMore
attribute [local go_sem] max2_int min2_int max_two min_two max_three min_three max_four min_four   -- for this text's walks alone
set_option linter.unusedVariables false
set_option linter.unusedSimpArgs false

/-! ### laws_FnMeetingSets: function 3 -/
mutual
def laws_FnMeetingSets.j0 : Nat → List Int → List Int → Bool → Int → Bool → Option (Bool)
  | 0, _, _, _, _, _ => none
  | k + 1, x1, x7, x10, x11, x88 => if x88 = true then (some false) else (if x10 = true then (if (x7.length : Int) = x11 then (laws_FnMeetingSets.l0 k x1 x7 x7 (x7.length : Int) 0) else (some false)) else (some true))
def laws_FnMeetingSets.l0 : Nat → List Int → List Int → List Int → Int → Int → Option (Bool)
  | 0, _, _, _, _, _ => none
  | k + 1, x1, x7, x95, x96, x97 => if x97 < x96 then (if 0 ≤ x97 then (if x97 < (x95.length : Int) then (if x97 ≤ (x7.length : Int) then ((some (x7.take (x97 : Int).toNat : List Int)).bind fun y269 => (laws_FnMeetingSets.l1 k x1 x7 (rd x95 x97) x95 x96 x97 y269 (y269.length : Int) 0)) else (none)) else (none)) else (none)) else ((spec_DrawIsColouring.f k x1).bind fun bt276 => ((impl_IsColouring.f k bt276.1 bt276.2.1 bt276.2.2).bind fun bt281 => ((impl_MostMeeting.f k bt276.1 bt276.2.1).bind fun bt283 => (if bt281.2 = true then (if bt281.1 = true then (laws_FnMeetingSets.j3 k bt276.2.2 bt283.1 (!bt283.2)) else (laws_FnMeetingSets.j3 k bt276.2.2 bt283.1 true)) else (laws_FnMeetingSets.j3 k bt276.2.2 bt283.1 true)))))
def laws_FnMeetingSets.l1 : Nat → List Int → List Int → Int → List Int → Int → Int → List Int → Int → Int → Option (Bool)
  | 0, _, _, _, _, _, _, _, _, _ => none
  | k + 1, x1, x7, x16, x95, x96, x97, x104, x105, x106 => if x106 < x105 then (if 0 ≤ x106 then (if x106 < (x104.length : Int) then ((impl_AreApart.f x16 (rd x104 x106)).bind fun bt274 => (if bt274.2 = true then (if bt274.1 = true then (some false) else (laws_FnMeetingSets.l1 k x1 x7 x16 x95 x96 x97 x104 x105 (wrap64 (x106 + 1)))) else (some false))) else (none)) else (none)) else (laws_FnMeetingSets.l0 k x1 x7 x95 x96 (wrap64 (x97 + 1)))
def laws_FnMeetingSets.j3 : Nat → List Int → Int → Bool → Option (Bool)
  | 0, _, _, _ => none
  | k + 1, x23, x26, x151 => if x151 = true then (some true) else (laws_FnMeetingSets.l2 k x23 x26 x23 (x23.length : Int) 0)
def laws_FnMeetingSets.l2 : Nat → List Int → Int → List Int → Int → Int → Option (Bool)
  | 0, _, _, _, _, _ => none
  | k + 1, x23, x26, x152, x153, x154 => if x154 < x153 then (if 0 ≤ x154 then (if x154 < (x152.length : Int) then (laws_FnMeetingSets.l3 k x23 x26 (rd x152 x154) 0 x152 x153 x154 x23 (x23.length : Int) 0) else (none)) else (none)) else (some true)
def laws_FnMeetingSets.l3 : Nat → List Int → Int → Int → Int → List Int → Int → Int → List Int → Int → Int → Option (Bool)
  | 0, _, _, _, _, _, _, _, _, _, _ => none
  | k + 1, x23, x26, x29, x30, x152, x153, x154, x158, x159, x160 => if x160 < x159 then (if 0 ≤ x160 then (if x160 < (x158.length : Int) then (if x29 = (rd x158 x160) then (laws_FnMeetingSets.l3 k x23 x26 x29 (wrap64 (x30 + 1)) x152 x153 x154 x158 x159 (wrap64 (x160 + 1))) else (laws_FnMeetingSets.l3 k x23 x26 x29 x30 x152 x153 x154 x158 x159 (wrap64 (x160 + 1)))) else (none)) else (none)) else (if x30 > x26 then (some false) else (laws_FnMeetingSets.l2 k x23 x26 x152 x153 (wrap64 (x154 + 1))))
end
def laws_FnMeetingSets.f (k : Nat) (l0 : List Int) (l1 : List Int) : Option (Bool) := (laws_big.f l0 l1).bind fun t252 => (if t252 = true then (some true) else ((spec_DrawMeetingSets.f l0).bind fun bt253 => ((impl_MeetingSets.f k bt253.1 bt253.2).bind fun bt255 => ((spec_MeetingSets.f k bt253.1 bt253.2).bind fun bt259 => ((impl_MostMeeting.f k bt253.1 bt253.2).bind fun bt263 => ((spec_MostMeeting.f k bt253.1 bt253.2).bind fun bt265 => (if (bt255.2 != bt259.2) = true then (laws_FnMeetingSets.j0 k l1 bt255.1 bt259.2 bt263.1 true) else ((laws_uSame.f k bt255.1 bt259.1).bind fun t267 => (if t267 = true then (if (bt263.2 != bt265.2) = true then (laws_FnMeetingSets.j0 k l1 bt255.1 bt259.2 bt263.1 true) else (if bt263.1 = bt265.1 then (laws_FnMeetingSets.j0 k l1 bt255.1 bt259.2 bt263.1 (bt263.2 != bt255.2)) else (laws_FnMeetingSets.j0 k l1 bt255.1 bt259.2 bt263.1 true))) else (laws_FnMeetingSets.j0 k l1 bt255.1 bt259.2 bt263.1 true))))))))))
theorem laws_FnMeetingSets.mono_l : ∀ k, (∀ y0 y1 y2 y3 y4, LeO (laws_FnMeetingSets.j0 k y0 y1 y2 y3 y4) (laws_FnMeetingSets.j0 (k + 1) y0 y1 y2 y3 y4)) ∧ (∀ y0 y1 y2 y3 y4, LeO (laws_FnMeetingSets.l0 k y0 y1 y2 y3 y4) (laws_FnMeetingSets.l0 (k + 1) y0 y1 y2 y3 y4)) ∧ (∀ y0 y1 y2 y3 y4 y5 y6 y7 y8, LeO (laws_FnMeetingSets.l1 k y0 y1 y2 y3 y4 y5 y6 y7 y8) (laws_FnMeetingSets.l1 (k + 1) y0 y1 y2 y3 y4 y5 y6 y7 y8)) ∧ (∀ y0 y1 y2, LeO (laws_FnMeetingSets.j3 k y0 y1 y2) (laws_FnMeetingSets.j3 (k + 1) y0 y1 y2)) ∧ (∀ y0 y1 y2 y3 y4, LeO (laws_FnMeetingSets.l2 k y0 y1 y2 y3 y4) (laws_FnMeetingSets.l2 (k + 1) y0 y1 y2 y3 y4)) ∧ (∀ y0 y1 y2 y3 y4 y5 y6 y7 y8 y9, LeO (laws_FnMeetingSets.l3 k y0 y1 y2 y3 y4 y5 y6 y7 y8 y9) (laws_FnMeetingSets.l3 (k + 1) y0 y1 y2 y3 y4 y5 y6 y7 y8 y9))
  | 0 => ⟨fun _ _ _ _ _ r h => by simp [laws_FnMeetingSets.j0] at h, fun _ _ _ _ _ r h => by simp [laws_FnMeetingSets.l0] at h, fun _ _ _ _ _ _ _ _ _ r h => by simp [laws_FnMeetingSets.l1] at h, fun _ _ _ r h => by simp [laws_FnMeetingSets.j3] at h, fun _ _ _ _ _ r h => by simp [laws_FnMeetingSets.l2] at h, fun _ _ _ _ _ _ _ _ _ _ r h => by simp [laws_FnMeetingSets.l3] at h⟩
  | k + 1 => by
    obtain ⟨ih0, ih1, ih2, ih3, ih4, ih5⟩ := laws_FnMeetingSets.mono_l k
    refine ⟨?_, ?_, ?_, ?_, ?_, ?_⟩
    · intro y0 y1 y2 y3 y4
      unfold laws_FnMeetingSets.j0
      repeat' first
      | (with_reducible exact ih0 _ _ _ _ _)
      | (with_reducible exact ih1 _ _ _ _ _)
      | (with_reducible exact ih2 _ _ _ _ _ _ _ _ _)
      | (with_reducible exact ih3 _ _ _)
      | (with_reducible exact ih4 _ _ _ _ _)
      | (with_reducible exact ih5 _ _ _ _ _ _ _ _ _ _)
      | (with_reducible exact impl_IsColouring.mono _ _ _ _)
      | (with_reducible exact impl_MeetingSets.mono _ _ _)
      | (with_reducible exact impl_MostMeeting.mono _ _ _)
      | (with_reducible exact laws_uSame.mono _ _ _)
      | (with_reducible exact spec_DrawIsColouring.mono _ _)
      | (with_reducible exact spec_MeetingSets.mono _ _ _)
      | (with_reducible exact spec_MostMeeting.mono _ _ _)
      | (with_reducible exact LeO.refl _)
      | (with_reducible exact LeO.none _)
      | (with_reducible refine LeO.ite ?_ ?_)
      | (with_reducible refine LeO.bind ?_ (fun _ => ?_))
      | exact ih0 _ _ _ _ _
      | exact ih1 _ _ _ _ _
      | exact ih2 _ _ _ _ _ _ _ _ _
      | exact ih3 _ _ _
      | exact ih4 _ _ _ _ _
      | exact ih5 _ _ _ _ _ _ _ _ _ _
      | exact impl_IsColouring.mono _ _ _ _
      | exact impl_MeetingSets.mono _ _ _
      | exact impl_MostMeeting.mono _ _ _
      | exact laws_uSame.mono _ _ _
      | exact spec_DrawIsColouring.mono _ _
      | exact spec_MeetingSets.mono _ _ _
      | exact spec_MostMeeting.mono _ _ _
      | exact LeO.none _
      | refine LeO.ite ?_ ?_
      | refine LeO.bind ?_ (fun _ => ?_)
    · intro y0 y1 y2 y3 y4
      unfold laws_FnMeetingSets.l0
      repeat' first
      | (with_reducible exact ih0 _ _ _ _ _)
      | (with_reducible exact ih1 _ _ _ _ _)
      | (with_reducible exact ih2 _ _ _ _ _ _ _ _ _)
      | (with_reducible exact ih3 _ _ _)
      | (with_reducible exact ih4 _ _ _ _ _)
      | (with_reducible exact ih5 _ _ _ _ _ _ _ _ _ _)
      | (with_reducible exact impl_IsColouring.mono _ _ _ _)
      | (with_reducible exact impl_MeetingSets.mono _ _ _)
      | (with_reducible exact impl_MostMeeting.mono _ _ _)
      | (with_reducible exact laws_uSame.mono _ _ _)
      | (with_reducible exact spec_DrawIsColouring.mono _ _)
      | (with_reducible exact spec_MeetingSets.mono _ _ _)
      | (with_reducible exact spec_MostMeeting.mono _ _ _)
      | (with_reducible exact LeO.refl _)
      | (with_reducible exact LeO.none _)
      | (with_reducible refine LeO.ite ?_ ?_)
      | (with_reducible refine LeO.bind ?_ (fun _ => ?_))
      | exact ih0 _ _ _ _ _
      | exact ih1 _ _ _ _ _
      | exact ih2 _ _ _ _ _ _ _ _ _
      | exact ih3 _ _ _
      | exact ih4 _ _ _ _ _
      | exact ih5 _ _ _ _ _ _ _ _ _ _
      | exact impl_IsColouring.mono _ _ _ _
      | exact impl_MeetingSets.mono _ _ _
      | exact impl_MostMeeting.mono _ _ _
      | exact laws_uSame.mono _ _ _
      | exact spec_DrawIsColouring.mono _ _
      | exact spec_MeetingSets.mono _ _ _
      | exact spec_MostMeeting.mono _ _ _
      | exact LeO.none _
      | refine LeO.ite ?_ ?_
      | refine LeO.bind ?_ (fun _ => ?_)
    · intro y0 y1 y2 y3 y4 y5 y6 y7 y8
      unfold laws_FnMeetingSets.l1
      repeat' first
      | (with_reducible exact ih0 _ _ _ _ _)
      | (with_reducible exact ih1 _ _ _ _ _)
      | (with_reducible exact ih2 _ _ _ _ _ _ _ _ _)
      | (with_reducible exact ih3 _ _ _)
      | (with_reducible exact ih4 _ _ _ _ _)
      | (with_reducible exact ih5 _ _ _ _ _ _ _ _ _ _)
      | (with_reducible exact impl_IsColouring.mono _ _ _ _)
      | (with_reducible exact impl_MeetingSets.mono _ _ _)
      | (with_reducible exact impl_MostMeeting.mono _ _ _)
      | (with_reducible exact laws_uSame.mono _ _ _)
      | (with_reducible exact spec_DrawIsColouring.mono _ _)
      | (with_reducible exact spec_MeetingSets.mono _ _ _)
      | (with_reducible exact spec_MostMeeting.mono _ _ _)
      | (with_reducible exact LeO.refl _)
      | (with_reducible exact LeO.none _)
      | (with_reducible refine LeO.ite ?_ ?_)
      | (with_reducible refine LeO.bind ?_ (fun _ => ?_))
      | exact ih0 _ _ _ _ _
      | exact ih1 _ _ _ _ _
      | exact ih2 _ _ _ _ _ _ _ _ _
      | exact ih3 _ _ _
      | exact ih4 _ _ _ _ _
      | exact ih5 _ _ _ _ _ _ _ _ _ _
      | exact impl_IsColouring.mono _ _ _ _
      | exact impl_MeetingSets.mono _ _ _
      | exact impl_MostMeeting.mono _ _ _
      | exact laws_uSame.mono _ _ _
      | exact spec_DrawIsColouring.mono _ _
      | exact spec_MeetingSets.mono _ _ _
      | exact spec_MostMeeting.mono _ _ _
      | exact LeO.none _
      | refine LeO.ite ?_ ?_
      | refine LeO.bind ?_ (fun _ => ?_)
    · intro y0 y1 y2
      unfold laws_FnMeetingSets.j3
      repeat' first
      | (with_reducible exact ih0 _ _ _ _ _)
      | (with_reducible exact ih1 _ _ _ _ _)
      | (with_reducible exact ih2 _ _ _ _ _ _ _ _ _)
      | (with_reducible exact ih3 _ _ _)
      | (with_reducible exact ih4 _ _ _ _ _)
      | (with_reducible exact ih5 _ _ _ _ _ _ _ _ _ _)
      | (with_reducible exact impl_IsColouring.mono _ _ _ _)
      | (with_reducible exact impl_MeetingSets.mono _ _ _)
      | (with_reducible exact impl_MostMeeting.mono _ _ _)
      | (with_reducible exact laws_uSame.mono _ _ _)
      | (with_reducible exact spec_DrawIsColouring.mono _ _)
      | (with_reducible exact spec_MeetingSets.mono _ _ _)
      | (with_reducible exact spec_MostMeeting.mono _ _ _)
      | (with_reducible exact LeO.refl _)
      | (with_reducible exact LeO.none _)
      | (with_reducible refine LeO.ite ?_ ?_)
      | (with_reducible refine LeO.bind ?_ (fun _ => ?_))
      | exact ih0 _ _ _ _ _
      | exact ih1 _ _ _ _ _
      | exact ih2 _ _ _ _ _ _ _ _ _
      | exact ih3 _ _ _
      | exact ih4 _ _ _ _ _
      | exact ih5 _ _ _ _ _ _ _ _ _ _
      | exact impl_IsColouring.mono _ _ _ _
      | exact impl_MeetingSets.mono _ _ _
      | exact impl_MostMeeting.mono _ _ _
      | exact laws_uSame.mono _ _ _
      | exact spec_DrawIsColouring.mono _ _
      | exact spec_MeetingSets.mono _ _ _
      | exact spec_MostMeeting.mono _ _ _
      | exact LeO.none _
      | refine LeO.ite ?_ ?_
      | refine LeO.bind ?_ (fun _ => ?_)
    · intro y0 y1 y2 y3 y4
      unfold laws_FnMeetingSets.l2
      repeat' first
      | (with_reducible exact ih0 _ _ _ _ _)
      | (with_reducible exact ih1 _ _ _ _ _)
      | (with_reducible exact ih2 _ _ _ _ _ _ _ _ _)
      | (with_reducible exact ih3 _ _ _)
      | (with_reducible exact ih4 _ _ _ _ _)
      | (with_reducible exact ih5 _ _ _ _ _ _ _ _ _ _)
      | (with_reducible exact impl_IsColouring.mono _ _ _ _)
      | (with_reducible exact impl_MeetingSets.mono _ _ _)
      | (with_reducible exact impl_MostMeeting.mono _ _ _)
      | (with_reducible exact laws_uSame.mono _ _ _)
      | (with_reducible exact spec_DrawIsColouring.mono _ _)
      | (with_reducible exact spec_MeetingSets.mono _ _ _)
      | (with_reducible exact spec_MostMeeting.mono _ _ _)
      | (with_reducible exact LeO.refl _)
      | (with_reducible exact LeO.none _)
      | (with_reducible refine LeO.ite ?_ ?_)
      | (with_reducible refine LeO.bind ?_ (fun _ => ?_))
      | exact ih0 _ _ _ _ _
      | exact ih1 _ _ _ _ _
      | exact ih2 _ _ _ _ _ _ _ _ _
      | exact ih3 _ _ _
      | exact ih4 _ _ _ _ _
      | exact ih5 _ _ _ _ _ _ _ _ _ _
      | exact impl_IsColouring.mono _ _ _ _
      | exact impl_MeetingSets.mono _ _ _
      | exact impl_MostMeeting.mono _ _ _
      | exact laws_uSame.mono _ _ _
      | exact spec_DrawIsColouring.mono _ _
      | exact spec_MeetingSets.mono _ _ _
      | exact spec_MostMeeting.mono _ _ _
      | exact LeO.none _
      | refine LeO.ite ?_ ?_
      | refine LeO.bind ?_ (fun _ => ?_)
    · intro y0 y1 y2 y3 y4 y5 y6 y7 y8 y9
      unfold laws_FnMeetingSets.l3
      repeat' first
      | (with_reducible exact ih0 _ _ _ _ _)
      | (with_reducible exact ih1 _ _ _ _ _)
      | (with_reducible exact ih2 _ _ _ _ _ _ _ _ _)
      | (with_reducible exact ih3 _ _ _)
      | (with_reducible exact ih4 _ _ _ _ _)
      | (with_reducible exact ih5 _ _ _ _ _ _ _ _ _ _)
      | (with_reducible exact impl_IsColouring.mono _ _ _ _)
      | (with_reducible exact impl_MeetingSets.mono _ _ _)
      | (with_reducible exact impl_MostMeeting.mono _ _ _)
      | (with_reducible exact laws_uSame.mono _ _ _)
      | (with_reducible exact spec_DrawIsColouring.mono _ _)
      | (with_reducible exact spec_MeetingSets.mono _ _ _)
      | (with_reducible exact spec_MostMeeting.mono _ _ _)
      | (with_reducible exact LeO.refl _)
      | (with_reducible exact LeO.none _)
      | (with_reducible refine LeO.ite ?_ ?_)
      | (with_reducible refine LeO.bind ?_ (fun _ => ?_))
      | exact ih0 _ _ _ _ _
      | exact ih1 _ _ _ _ _
      | exact ih2 _ _ _ _ _ _ _ _ _
      | exact ih3 _ _ _
      | exact ih4 _ _ _ _ _
      | exact ih5 _ _ _ _ _ _ _ _ _ _
      | exact impl_IsColouring.mono _ _ _ _
      | exact impl_MeetingSets.mono _ _ _
      | exact impl_MostMeeting.mono _ _ _
      | exact laws_uSame.mono _ _ _
      | exact spec_DrawIsColouring.mono _ _
      | exact spec_MeetingSets.mono _ _ _
      | exact spec_MostMeeting.mono _ _ _
      | exact LeO.none _
      | refine LeO.ite ?_ ?_
      | refine LeO.bind ?_ (fun _ => ?_)
theorem laws_FnMeetingSets.mono : ∀ a0 a1 k, LeO (laws_FnMeetingSets.f k a0 a1) (laws_FnMeetingSets.f (k + 1) a0 a1) := by
  intro a0 a1 k
  obtain ⟨ih0, ih1, ih2, ih3, ih4, ih5⟩ := laws_FnMeetingSets.mono_l k
  unfold laws_FnMeetingSets.f
  repeat' first
      | (with_reducible exact ih0 _ _ _ _ _)
      | (with_reducible exact ih1 _ _ _ _ _)
      | (with_reducible exact ih2 _ _ _ _ _ _ _ _ _)
      | (with_reducible exact ih3 _ _ _)
      | (with_reducible exact ih4 _ _ _ _ _)
      | (with_reducible exact ih5 _ _ _ _ _ _ _ _ _ _)
      | (with_reducible exact impl_IsColouring.mono _ _ _ _)
      | (with_reducible exact impl_MeetingSets.mono _ _ _)
      | (with_reducible exact impl_MostMeeting.mono _ _ _)
      | (with_reducible exact laws_uSame.mono _ _ _)
      | (with_reducible exact spec_DrawIsColouring.mono _ _)
      | (with_reducible exact spec_MeetingSets.mono _ _ _)
      | (with_reducible exact spec_MostMeeting.mono _ _ _)
      | (with_reducible exact LeO.refl _)
      | (with_reducible exact LeO.none _)
      | (with_reducible refine LeO.ite ?_ ?_)
      | (with_reducible refine LeO.bind ?_ (fun _ => ?_))
      | exact ih0 _ _ _ _ _
      | exact ih1 _ _ _ _ _
      | exact ih2 _ _ _ _ _ _ _ _ _
      | exact ih3 _ _ _
      | exact ih4 _ _ _ _ _
      | exact ih5 _ _ _ _ _ _ _ _ _ _
      | exact impl_IsColouring.mono _ _ _ _
      | exact impl_MeetingSets.mono _ _ _
      | exact impl_MostMeeting.mono _ _ _
      | exact laws_uSame.mono _ _ _
      | exact spec_DrawIsColouring.mono _ _
      | exact spec_MeetingSets.mono _ _ _
      | exact spec_MostMeeting.mono _ _ _
      | exact LeO.none _
      | refine LeO.ite ?_ ?_
      | refine LeO.bind ?_ (fun _ => ?_)
set_option maxHeartbeats 8000000 in
set_option maxRecDepth 100000 in
theorem laws_FnMeetingSets.calls (k : Nat) (A0 : Option Addr) (c0 : Nat) (l0 : List Int) (A1 : Option Addr) (c1 : Nat) (l1 : List Int) (r : Bool) (w : World) (hr0 : Kd.C (Kd.int .u8) w A0 l0.length l0) (hc0 : l0.length ≤ c0) (hr1 : Kd.C (Kd.int .u8) w A1 l1.length l1) (hc1 : l1.length ≤ c1) (h : laws_FnMeetingSets.f k l0 l1 = some r) :
    Calls Try.prog 3 #[.slice A0 l0.length c0, .slice A1 l1.length c1] w fun e w' => e = .returned (.bool r) ∧ Below w.heap.size w w' := by
  have HR0 := Aside0.mk hr0
  have HC0 := Aside0.mk hc0
  clear hr0 hc0
  have HR1 := Aside0.mk hr1
  have HC1 := Aside0.mk hc1
  clear hr1 hc1
  have HB := Aside0.mk (Below.refl w.heap.size w)
  have H : ((laws_big.f l0 l1).bind fun t252 => (if t252 = true then (some true) else ((spec_DrawMeetingSets.f l0).bind fun bt253 => ((impl_MeetingSets.f k bt253.1 bt253.2).bind fun bt255 => ((spec_MeetingSets.f k bt253.1 bt253.2).bind fun bt259 => ((impl_MostMeeting.f k bt253.1 bt253.2).bind fun bt263 => ((spec_MostMeeting.f k bt253.1 bt253.2).bind fun bt265 => (if (bt255.2 != bt259.2) = true then (laws_FnMeetingSets.j0 k l1 bt255.1 bt259.2 bt263.1 true) else ((laws_uSame.f k bt255.1 bt259.1).bind fun t267 => (if t267 = true then (if (bt263.2 != bt265.2) = true then (laws_FnMeetingSets.j0 k l1 bt255.1 bt259.2 bt263.1 true) else (if bt263.1 = bt265.1 then (laws_FnMeetingSets.j0 k l1 bt255.1 bt259.2 bt263.1 (bt263.2 != bt255.2)) else (laws_FnMeetingSets.j0 k l1 bt255.1 bt259.2 bt263.1 true))) else (laws_FnMeetingSets.j0 k l1 bt255.1 bt259.2 bt263.1 true))))))))))) = some r := h
  clear h
  replace H := Option.bind_eq_some_iff.mp H
  obtain ⟨t252, A30, H⟩ := H
  replace H : (if t252 = true then (some true) else ((spec_DrawMeetingSets.f l0).bind fun bt253 => ((impl_MeetingSets.f k bt253.1 bt253.2).bind fun bt255 => ((spec_MeetingSets.f k bt253.1 bt253.2).bind fun bt259 => ((impl_MostMeeting.f k bt253.1 bt253.2).bind fun bt263 => ((spec_MostMeeting.f k bt253.1 bt253.2).bind fun bt265 => (if (bt255.2 != bt259.2) = true then (laws_FnMeetingSets.j0 k l1 bt255.1 bt259.2 bt263.1 true) else ((laws_uSame.f k bt255.1 bt259.1).bind fun t267 => (if t267 = true then (if (bt263.2 != bt265.2) = true then (laws_FnMeetingSets.j0 k l1 bt255.1 bt259.2 bt263.1 true) else (if bt263.1 = bt265.1 then (laws_FnMeetingSets.j0 k l1 bt255.1 bt259.2 bt263.1 (bt263.2 != bt255.2)) else (laws_FnMeetingSets.j0 k l1 bt255.1 bt259.2 bt263.1 true))) else (laws_FnMeetingSets.j0 k l1 bt255.1 bt259.2 bt263.1 true)))))))))) = some r := H
  have A3 := Aside0.mk A30
  clear A30
  by_cases c4 : t252 = true
  · subst c4
    have H1 : (some true) = some r := by rw [if_pos rfl] at H; exact H
    clear H
    have H := H1
    clear H1
    obtain rfl := Option.some.inj H
    go_enter Try.func3, Try.ntmps3
    go_wp2_with (first | ((with_reducible refine gate_callee (f := 6) rfl ?_); refine goesL_ (some 35) rfl rfl Try.func6 (by kernel_rfl) rfl #[.slice A0 l0.length c0, .slice A1 l1.length c1] rfl TA ?_; (with_reducible refine (laws_big.calls _ _ l0 _ _ l1 true _ ?side1 ?side2 ?side3 ?side4 A3.out).mono ?_); (case side1 => repeat (first | exact HR0.out | (with_reducible refine Kd.C_drewN ?_ _) | (with_reducible refine Kd.C_drew ?_) | (with_reducible refine Kd.C_alloc ?_ _))); (case side2 => exact HC0.out); (case side3 => repeat (first | exact HR1.out | (with_reducible refine Kd.C_drewN ?_ _) | (with_reducible refine Kd.C_drew ?_) | (with_reducible refine Kd.C_alloc ?_ _))); (case side4 => exact HC1.out); rintro e w' ⟨rfl, ⟨nd, rfl⟩⟩; refine ⟨_, rfl, ?_⟩))
    go_ret
    exact ⟨by first | rfl | (simp [errW_none, errW_some] <;> rfl) | (simp [*, errW_none, errW_some] <;> rfl), BB⟩
  · replace c4 := Bool.eq_false_iff.mpr c4
    subst c4
    have H1 : ((spec_DrawMeetingSets.f l0).bind fun bt253 => ((impl_MeetingSets.f k bt253.1 bt253.2).bind fun bt255 => ((spec_MeetingSets.f k bt253.1 bt253.2).bind fun bt259 => ((impl_MostMeeting.f k bt253.1 bt253.2).bind fun bt263 => ((spec_MostMeeting.f k bt253.1 bt253.2).bind fun bt265 => (if (bt255.2 != bt259.2) = true then (laws_FnMeetingSets.j0 k l1 bt255.1 bt259.2 bt263.1 true) else ((laws_uSame.f k bt255.1 bt259.1).bind fun t267 => (if t267 = true then (if (bt263.2 != bt265.2) = true then (laws_FnMeetingSets.j0 k l1 bt255.1 bt259.2 bt263.1 true) else (if bt263.1 = bt265.1 then (laws_FnMeetingSets.j0 k l1 bt255.1 bt259.2 bt263.1 (bt263.2 != bt255.2)) else (laws_FnMeetingSets.j0 k l1 bt255.1 bt259.2 bt263.1 true))) else (laws_FnMeetingSets.j0 k l1 bt255.1 bt259.2 bt263.1 true))))))))) = some r := by rw [if_neg (show ¬ (false = true) by decide)] at H; exact H
    clear H
    have H := H1
    clear H1
    replace H := Option.bind_eq_some_iff.mp H
    obtain ⟨⟨t253, t254⟩, A50, H⟩ := H
    replace H : ((impl_MeetingSets.f k t253 t254).bind fun bt255 => ((spec_MeetingSets.f k t253 t254).bind fun bt259 => ((impl_MostMeeting.f k t253 t254).bind fun bt263 => ((spec_MostMeeting.f k t253 t254).bind fun bt265 => (if (bt255.2 != bt259.2) = true then (laws_FnMeetingSets.j0 k l1 bt255.1 bt259.2 bt263.1 true) else ((laws_uSame.f k bt255.1 bt259.1).bind fun t267 => (if t267 = true then (if (bt263.2 != bt265.2) = true then (laws_FnMeetingSets.j0 k l1 bt255.1 bt259.2 bt263.1 true) else (if bt263.1 = bt265.1 then (laws_FnMeetingSets.j0 k l1 bt255.1 bt259.2 bt263.1 (bt263.2 != bt255.2)) else (laws_FnMeetingSets.j0 k l1 bt255.1 bt259.2 bt263.1 true))) else (laws_FnMeetingSets.j0 k l1 bt255.1 bt259.2 bt263.1 true)))))))) = some r := H
    have A5 := Aside0.mk A50
    clear A50
    replace H := Option.bind_eq_some_iff.mp H
    obtain ⟨⟨t255, t256⟩, A60, H⟩ := H
    replace H : ((spec_MeetingSets.f k t253 t254).bind fun bt259 => ((impl_MostMeeting.f k t253 t254).bind fun bt263 => ((spec_MostMeeting.f k t253 t254).bind fun bt265 => (if (t256 != bt259.2) = true then (laws_FnMeetingSets.j0 k l1 t255 bt259.2 bt263.1 true) else ((laws_uSame.f k t255 bt259.1).bind fun t267 => (if t267 = true then (if (bt263.2 != bt265.2) = true then (laws_FnMeetingSets.j0 k l1 t255 bt259.2 bt263.1 true) else (if bt263.1 = bt265.1 then (laws_FnMeetingSets.j0 k l1 t255 bt259.2 bt263.1 (bt263.2 != t256)) else (laws_FnMeetingSets.j0 k l1 t255 bt259.2 bt263.1 true))) else (laws_FnMeetingSets.j0 k l1 t255 bt259.2 bt263.1 true))))))) = some r := H
    have A6 := Aside0.mk A60
    clear A60
    replace H := Option.bind_eq_some_iff.mp H
    obtain ⟨⟨t259, t260⟩, A70, H⟩ := H
    replace H : ((impl_MostMeeting.f k t253 t254).bind fun bt263 => ((spec_MostMeeting.f k t253 t254).bind fun bt265 => (if (t256 != t260) = true then (laws_FnMeetingSets.j0 k l1 t255 t260 bt263.1 true) else ((laws_uSame.f k t255 t259).bind fun t267 => (if t267 = true then (if (bt263.2 != bt265.2) = true then (laws_FnMeetingSets.j0 k l1 t255 t260 bt263.1 true) else (if bt263.1 = bt265.1 then (laws_FnMeetingSets.j0 k l1 t255 t260 bt263.1 (bt263.2 != t256)) else (laws_FnMeetingSets.j0 k l1 t255 t260 bt263.1 true))) else (laws_FnMeetingSets.j0 k l1 t255 t260 bt263.1 true)))))) = some r := H
    have A7 := Aside0.mk A70
    clear A70
    replace H := Option.bind_eq_some_iff.mp H
    obtain ⟨⟨t263, t264⟩, A80, H⟩ := H
    replace H : ((spec_MostMeeting.f k t253 t254).bind fun bt265 => (if (t256 != t260) = true then (laws_FnMeetingSets.j0 k l1 t255 t260 t263 true) else ((laws_uSame.f k t255 t259).bind fun t267 => (if t267 = true then (if (t264 != bt265.2) = true then (laws_FnMeetingSets.j0 k l1 t255 t260 t263 true) else (if t263 = bt265.1 then (laws_FnMeetingSets.j0 k l1 t255 t260 t263 (t264 != t256)) else (laws_FnMeetingSets.j0 k l1 t255 t260 t263 true))) else (laws_FnMeetingSets.j0 k l1 t255 t260 t263 true))))) = some r := H
    have A8 := Aside0.mk A80
    clear A80
    replace H := Option.bind_eq_some_iff.mp H
    obtain ⟨⟨t265, t266⟩, A90, H⟩ := H
    replace H : (if (t256 != t260) = true then (laws_FnMeetingSets.j0 k l1 t255 t260 t263 true) else ((laws_uSame.f k t255 t259).bind fun t267 => (if t267 = true then (if (t264 != t266) = true then (laws_FnMeetingSets.j0 k l1 t255 t260 t263 true) else (if t263 = t265 then (laws_FnMeetingSets.j0 k l1 t255 t260 t263 (t264 != t256)) else (laws_FnMeetingSets.j0 k l1 t255 t260 t263 true))) else (laws_FnMeetingSets.j0 k l1 t255 t260 t263 true)))) = some r := H
    have A9 := Aside0.mk A90
    clear A90
    have HC10 := Aside0.mk H
    clear H
    go_enter Try.func3, Try.ntmps3
    go_upto_region 8 with (first | ((with_reducible refine gate_callee (f := 6) rfl ?_); refine goesL_ (some 35) rfl rfl Try.func6 (by kernel_rfl) rfl #[.slice A0 l0.length c0, .slice A1 l1.length c1] rfl TA ?_; (with_reducible refine (laws_big.calls _ _ l0 _ _ l1 false _ ?side1 ?side2 ?side3 ?side4 A3.out).mono ?_); (case side1 => repeat (first | exact HR0.out | (with_reducible refine Kd.C_drewN ?_ _) | (with_reducible refine Kd.C_drew ?_) | (with_reducible refine Kd.C_alloc ?_ _))); (case side2 => exact HC0.out); (case side3 => repeat (first | exact HR1.out | (with_reducible refine Kd.C_drewN ?_ _) | (with_reducible refine Kd.C_drew ?_) | (with_reducible refine Kd.C_alloc ?_ _))); (case side4 => exact HC1.out); rintro e w' ⟨rfl, ⟨nd, rfl⟩⟩; refine ⟨_, rfl, ?_⟩) | ((with_reducible refine gate_callee (f := 7) rfl ?_); refine goesL_ (some 38) rfl rfl Try.func7 (by kernel_rfl) rfl #[.slice A0 l0.length c0] rfl TA ?_; (with_reducible refine (spec_DrawMeetingSets.calls _ _ l0 t253 t254 _ ?side1 ?side2 A5.out).mono ?_); (case side1 => repeat (first | exact HR0.out | (with_reducible refine Kd.C_drewN ?_ _) | (with_reducible refine Kd.C_drew ?_) | (with_reducible refine Kd.C_alloc ?_ _))); (case side2 => exact HC0.out); rintro e w11 ⟨rfl, hb⟩; refine ⟨_, rfl, ?_⟩; have n0_ := Aside0.mk (below_step BB hb); clear HB; have HB := n0_; clear n0_; (try clear hb); (try clear hb2); (try clear hk); (try clear hi)) | ((with_reducible refine gate_callee (f := 8) rfl ?_); refine goesL_ (some 44) rfl rfl Try.func8 (by kernel_rfl) rfl #[.int .i64 t253, .int .i64 t254] rfl TA ?_; (with_reducible refine (impl_MeetingSets.calls k t253 t254 t255 t256 _ A6.out).mono ?_); rintro e w12 ⟨v257, rfl, ho0, hb⟩; refine ⟨_, rfl, ?_⟩; have n0_ := Aside0.mk (Kd.R_lower ho0 (below_size BB)); have n1_ := Aside0.mk (below_step BB hb); clear HB; have HO258 := n0_; have HB := n1_; clear n0_ n1_; (try clear hb); (try clear hb2); (try clear hk); (try clear hi); (try clear ho0)) | ((with_reducible refine gate_callee (f := 9) rfl ?_); refine goesL_ (some 50) rfl rfl Try.func9 (by kernel_rfl) rfl #[.int .i64 t253, .int .i64 t254] rfl TA ?_; (with_reducible refine (spec_MeetingSets.calls k t253 t254 t259 t260 _ A7.out).mono ?_); rintro e w13 ⟨v261, rfl, ho0, hb⟩; refine ⟨_, rfl, ?_⟩; have n0_ := Aside0.mk (Kd.R_elder' (KR HO258) (Kd.R_base ho0) hb); have n1_ := Aside0.mk (Kd.R_lower (Kd.R_new' ho0 (Kd.R_lt (KR HO258))) (below_size BB)); have n2_ := Aside0.mk (below_step BB hb); clear HO258; clear HB; have HO258 := n0_; have HO262 := n1_; have HB := n2_; clear n0_ n1_ n2_; (try clear hb); (try clear hb2); (try clear hk); (try clear hi); (try clear ho0)) | ((with_reducible refine gate_callee (f := 10) rfl ?_); refine goesL_ (some 56) rfl rfl Try.func10 (by kernel_rfl) rfl #[.int .i64 t253, .int .i64 t254] rfl TA ?_; (with_reducible refine (impl_MostMeeting.calls k t253 t254 t263 t264 _ A8.out).mono ?_); rintro e w' ⟨rfl, ⟨nd, rfl⟩⟩; refine ⟨_, rfl, ?_⟩) | ((with_reducible refine gate_callee (f := 11) rfl ?_); refine goesL_ (some 62) rfl rfl Try.func11 (by kernel_rfl) rfl #[.int .i64 t253, .int .i64 t254] rfl TA ?_; (with_reducible refine (spec_MostMeeting.calls k t253 t254 t265 t266 _ A9.out).mono ?_); rintro e w14 ⟨rfl, hb⟩; refine ⟨_, rfl, ?_⟩; have n0_ := Aside0.mk (Kd.R_below (KR HO258) hb); have n1_ := Aside0.mk (Kd.R_below (KR HO262) hb); have n2_ := Aside0.mk (below_step BB hb); clear HO258; clear HO262; clear HB; have HO258 := n0_; have HO262 := n1_; have HB := n2_; clear n0_ n1_ n2_; (try clear hb); (try clear hb2); (try clear hk); (try clear hi)))
    (try simp only [Act.put, List.setIfInBounds_toArray, List.set_cons_zero, List.set_cons_succ])
    go_cut [88] (fun v88 wc => ∃ (kq : Nat) (x88_9 : Bool), v88 = .bool x88_9 ∧ Aside0 (laws_FnMeetingSets.j0 kq l1 t255 t260 t263 x88_9 = some r) ∧ Aside0 (kq ≤ k) ∧ Aside0 (Kd.R (Kd.int .i64) 3 wc w.heap.size (fun _ => True) v257 t255) ∧ Aside0 (Below w.heap.size w wc))
    case first =>
      have H := HC10.out
      clear HC10
      by_cases c15 : (t256 != t260) = true
      · rw [if_pos c15] at H
        have c15b0 : (t256 != t260) = true := c15
        (try (have c15b1 : decide (t256 = t260) = false := by simpa using c15))
        (try (have c15b2 : (t256 == t260) = false := by simpa using c15))
        (try (have c15b3 : ¬ (t256 = t260) := by simpa using c15))
        clear c15
        (first | rw [c15b0] | (simp only [i64_w, i32_w]; rw [c15b0]) | skip)
        have H' := Aside0.mk H
        clear H
        go_wp2
        go_meet
        case rel => exact ⟨_, (true), RF, H', ⟨by first | omega | exact Nat.le_refl _⟩, ⟨by (with_reducible repeat (first | apply Kd.R_alloc | apply Kd.R_drewN | apply Kd.R_drew)); exact Kd.R_mono HO258.out (fun _ hk => trivial)⟩, ⟨BB⟩⟩
      · rw [if_neg c15] at H
        have c15b0 : (t256 != t260) = false := by simpa using c15
        (try (have c15b1 : decide (t256 = t260) = true := by simpa using c15))
        (try (have c15b2 : (t256 == t260) = true := by simpa using c15))
        clear c15
        (first | rw [c15b0] | (simp only [i64_w, i32_w]; rw [c15b0]) | skip)
        replace H := Option.bind_eq_some_iff.mp H
        obtain ⟨t267, A160, H⟩ := H
        replace H : (if t267 = true then (if (t264 != t266) = true then (laws_FnMeetingSets.j0 k l1 t255 t260 t263 true) else (if t263 = t265 then (laws_FnMeetingSets.j0 k l1 t255 t260 t263 (t264 != t256)) else (laws_FnMeetingSets.j0 k l1 t255 t260 t263 true))) else (laws_FnMeetingSets.j0 k l1 t255 t260 t263 true)) = some r := H
        have A16 := Aside0.mk A160
        clear A160
        by_cases c17 : t267 = true
        · subst c17
          have H1 : (if (t264 != t266) = true then (laws_FnMeetingSets.j0 k l1 t255 t260 t263 true) else (if t263 = t265 then (laws_FnMeetingSets.j0 k l1 t255 t260 t263 (t264 != t256)) else (laws_FnMeetingSets.j0 k l1 t255 t260 t263 true))) = some r := by rw [if_pos rfl] at H; exact H
          clear H
          have H := H1
          clear H1
          by_cases c18 : (t264 != t266) = true
          · rw [if_pos c18] at H
            have c18b0 : (t264 != t266) = true := c18
            (try (have c18b1 : decide (t264 = t266) = false := by simpa using c18))
            (try (have c18b2 : (t264 == t266) = false := by simpa using c18))
            (try (have c18b3 : ¬ (t264 = t266) := by simpa using c18))
            clear c18
            have H' := Aside0.mk H
            clear H
            obtain ⟨Ao19, co19, eo19⟩ := Kd.R_slice HO258.out
            subst eo19
            obtain ⟨Ao20, co20, eo20⟩ := Kd.R_slice HO262.out
            subst eo20
            go_wp2_with (first | (go_at_call 12; (with_reducible refine (laws_uSame.calls k _ _ t255 _ _ t259 true _ ?side1 ?side2 ?side3 ?side4 A16.out).mono ?_); (case side1 => repeat (first | exact (Kd.R_reads' HO258.out).2.2 | (with_reducible refine Kd.C_drewN ?_ _) | (with_reducible refine Kd.C_drew ?_) | (with_reducible refine Kd.C_alloc ?_ _))); (case side2 => exact (Kd.R_reads' HO258.out).2.1); (case side3 => repeat (first | exact (Kd.R_reads' HO262.out).2.2 | (with_reducible refine Kd.C_drewN ?_ _) | (with_reducible refine Kd.C_drew ?_) | (with_reducible refine Kd.C_alloc ?_ _))); (case side4 => exact (Kd.R_reads' HO262.out).2.1); rintro e w' ⟨rfl, ⟨nd, rfl⟩⟩))
            go_meet
            case rel => exact ⟨_, (true), RF, H', ⟨by first | omega | exact Nat.le_refl _⟩, ⟨by (with_reducible repeat (first | apply Kd.R_alloc | apply Kd.R_drewN | apply Kd.R_drew)); exact Kd.R_mono HO258.out (fun _ hk => trivial)⟩, ⟨BB⟩⟩
          · rw [if_neg c18] at H
            have c18b0 : (t264 != t266) = false := by simpa using c18
            (try (have c18b1 : decide (t264 = t266) = true := by simpa using c18))
            (try (have c18b2 : (t264 == t266) = true := by simpa using c18))
            clear c18
            by_cases c21 : t263 = t265
            · rw [if_pos c21] at H
              have c21b0 : (t263 == t265) = true := beq_iff_eq.mpr c21
              have c21b1 : (t263 != t265) = false := bne_eq_false_iff_eq.mpr c21
              clear c21
              have H' := Aside0.mk H
              clear H
              obtain ⟨Ao22, co22, eo22⟩ := Kd.R_slice HO258.out
              subst eo22
              obtain ⟨Ao23, co23, eo23⟩ := Kd.R_slice HO262.out
              subst eo23
              go_wp2_with (first | (go_at_call 12; (with_reducible refine (laws_uSame.calls k _ _ t255 _ _ t259 true _ ?side1 ?side2 ?side3 ?side4 A16.out).mono ?_); (case side1 => repeat (first | exact (Kd.R_reads' HO258.out).2.2 | (with_reducible refine Kd.C_drewN ?_ _) | (with_reducible refine Kd.C_drew ?_) | (with_reducible refine Kd.C_alloc ?_ _))); (case side2 => exact (Kd.R_reads' HO258.out).2.1); (case side3 => repeat (first | exact (Kd.R_reads' HO262.out).2.2 | (with_reducible refine Kd.C_drewN ?_ _) | (with_reducible refine Kd.C_drew ?_) | (with_reducible refine Kd.C_alloc ?_ _))); (case side4 => exact (Kd.R_reads' HO262.out).2.1); rintro e w' ⟨rfl, ⟨nd, rfl⟩⟩))
              go_meet
              case rel => exact ⟨_, ((t264 != t256)), RF, H', ⟨by first | omega | exact Nat.le_refl _⟩, ⟨by (with_reducible repeat (first | apply Kd.R_alloc | apply Kd.R_drewN | apply Kd.R_drew)); exact Kd.R_mono HO258.out (fun _ hk => trivial)⟩, ⟨BB⟩⟩
            · rw [if_neg c21] at H
              have c21b0 : (t263 == t265) = false := beq_eq_false_iff_ne.mpr c21
              have c21b1 : (t263 != t265) = true := bne_iff_ne.mpr c21
              have H' := Aside0.mk H
              clear H
              obtain ⟨Ao24, co24, eo24⟩ := Kd.R_slice HO258.out
              subst eo24
              obtain ⟨Ao25, co25, eo25⟩ := Kd.R_slice HO262.out
              subst eo25
              go_wp2_with (first | (go_at_call 12; (with_reducible refine (laws_uSame.calls k _ _ t255 _ _ t259 true _ ?side1 ?side2 ?side3 ?side4 A16.out).mono ?_); (case side1 => repeat (first | exact (Kd.R_reads' HO258.out).2.2 | (with_reducible refine Kd.C_drewN ?_ _) | (with_reducible refine Kd.C_drew ?_) | (with_reducible refine Kd.C_alloc ?_ _))); (case side2 => exact (Kd.R_reads' HO258.out).2.1); (case side3 => repeat (first | exact (Kd.R_reads' HO262.out).2.2 | (with_reducible refine Kd.C_drewN ?_ _) | (with_reducible refine Kd.C_drew ?_) | (with_reducible refine Kd.C_alloc ?_ _))); (case side4 => exact (Kd.R_reads' HO262.out).2.1); rintro e w' ⟨rfl, ⟨nd, rfl⟩⟩))
              go_meet
              case rel => exact ⟨_, (true), RF, H', ⟨by first | omega | exact Nat.le_refl _⟩, ⟨by (with_reducible repeat (first | apply Kd.R_alloc | apply Kd.R_drewN | apply Kd.R_drew)); exact Kd.R_mono HO258.out (fun _ hk => trivial)⟩, ⟨BB⟩⟩
        · replace c17 := Bool.eq_false_iff.mpr c17
          subst c17
          have H1 : (laws_FnMeetingSets.j0 k l1 t255 t260 t263 true) = some r := by rw [if_neg (show ¬ (false = true) by decide)] at H; exact H
          clear H
          have H := H1
          clear H1
          have H' := Aside0.mk H
          clear H
          obtain ⟨Ao26, co26, eo26⟩ := Kd.R_slice HO258.out
          subst eo26
          obtain ⟨Ao27, co27, eo27⟩ := Kd.R_slice HO262.out
          subst eo27
          go_wp2_with (first | (go_at_call 12; (with_reducible refine (laws_uSame.calls k _ _ t255 _ _ t259 false _ ?side1 ?side2 ?side3 ?side4 A16.out).mono ?_); (case side1 => repeat (first | exact (Kd.R_reads' HO258.out).2.2 | (with_reducible refine Kd.C_drewN ?_ _) | (with_reducible refine Kd.C_drew ?_) | (with_reducible refine Kd.C_alloc ?_ _))); (case side2 => exact (Kd.R_reads' HO258.out).2.1); (case side3 => repeat (first | exact (Kd.R_reads' HO262.out).2.2 | (with_reducible refine Kd.C_drewN ?_ _) | (with_reducible refine Kd.C_drew ?_) | (with_reducible refine Kd.C_alloc ?_ _))); (case side4 => exact (Kd.R_reads' HO262.out).2.1); rintro e w' ⟨rfl, ⟨nd, rfl⟩⟩))
          go_meet
          case rel => exact ⟨_, (true), RF, H', ⟨by first | omega | exact Nat.le_refl _⟩, ⟨by (with_reducible repeat (first | apply Kd.R_alloc | apply Kd.R_drewN | apply Kd.R_drew)); exact Kd.R_mono HO258.out (fun _ hk => trivial)⟩, ⟨BB⟩⟩
    case rest =>
      clear HC10
      try clear c1
      try clear c2
      try clear p2
      try clear c3
      try clear c4
      try clear c6
      try clear p6
      try clear c7
      try clear c8
      try clear c9
      try clear c10
      try clear c11
      try clear c15
      try clear c15b0
      try clear c15b1
      try clear c15b2
      try clear c17
      try clear c18
      try clear c18b0
      try clear c18b1
      try clear c18b2
      try clear c21
      try clear c21b0
      try clear c21b1
      obtain ⟨kq, x88_9, rfl, HA, HJ9, HO_7, HB⟩ := hcut
      cases kq with
      | zero => exact absurd HA.out (by simp [laws_FnMeetingSets.j0])
      | succ kj9 =>
        have H := HA.out
        clear HA
        simp only [laws_FnMeetingSets.j0] at H
        by_cases c28 : x88_9 = true
        · subst c28
          have H1 : (some false) = some r := by rw [if_pos rfl] at H; exact H
          clear H
          have H := H1
          clear H1
          obtain rfl := Option.some.inj H
          go_wp2
          go_ret
          exact ⟨by first | rfl | (simp [errW_none, errW_some] <;> rfl) | (simp [*, errW_none, errW_some] <;> rfl), BB⟩
        · replace c28 := Bool.eq_false_iff.mpr c28
          subst c28
          have H1 : (if t260 = true then (if (t255.length : Int) = t263 then (laws_FnMeetingSets.l0 kj9 l1 t255 t255 (t255.length : Int) 0) else (some false)) else (some true)) = some r := by rw [if_neg (show ¬ (false = true) by decide)] at H; exact H
          clear H
          have H := H1
          clear H1
          by_cases c29 : t260 = true
          · subst c29
            have H1 : (if (t255.length : Int) = t263 then (laws_FnMeetingSets.l0 kj9 l1 t255 t255 (t255.length : Int) 0) else (some false)) = some r := by rw [if_pos rfl] at H; exact H
            clear H
            have H := H1
            clear H1
            by_cases c30 : (t255.length : Int) = t263
            · rw [if_pos c30] at H
              have c30b0 : ((t255.length : Int) == t263) = true := beq_iff_eq.mpr c30
              have c30b1 : ((t255.length : Int) != t263) = false := bne_eq_false_iff_eq.mpr c30
              clear c30
              have H' := Aside0.mk H
              clear H
              obtain ⟨Ao31, co31, eo31⟩ := Kd.R_slice HO_7.out
              subst eo31
              go_wp2
              go_loopg [97] kj9 (fun kq v97 w' => ∃ (x97_2 : Int), v97 = .int .i64 x97_2 ∧ Aside0 (laws_FnMeetingSets.l0 kq l1 t255 t255 (t255.length : Int) x97_2 = some r) ∧ Aside0 (kq ≤ kj9) ∧ Aside0 (Kd.R (Kd.int .i64) 3 w' w.heap.size (fun _ => True) (.slice Ao31 t255.length co31) t255) ∧ Aside0 (Kd.R (Kd.int .i64) 3 w' w.heap.size (fun _ => True) (.slice Ao31 t255.length co31) t255) ∧ Aside0 (Below w.heap.size w w'))
              case atStart => exact ⟨(0), RF, H', ⟨Nat.le_refl _⟩, ⟨KR HO_7⟩, ⟨KR HO_7⟩, ⟨BB⟩⟩
              case round =>
                clear H'
                try clear c1
                try clear c2
                try clear p2
                try clear c3
                try clear c4
                try clear c6
                try clear p6
                try clear c7
                try clear c8
                try clear c9
                try clear c10
                try clear c11
                try clear c15
                try clear c15b0
                try clear c15b1
                try clear c15b2
                try clear c17
                try clear c18
                try clear c18b0
                try clear c18b1
                try clear c18b2
                try clear c21
                try clear c21b0
                try clear c21b1
                try clear c28
                try clear c29
                try clear c30
                try clear c30b0
                try clear c30b1
                try clear p2
                try clear p6
                obtain ⟨x97_2, rfl, HA, HK2, HO_7, HO_95, HB⟩ := hrel
                cases gk with
                | zero => exact absurd HA.out (by simp [laws_FnMeetingSets.l0])
                | succ k2 =>
                  have H := HA.out
                  clear HA
                  simp only [laws_FnMeetingSets.l0] at H
                  by_cases c32 : x97_2 < (t255.length : Int)
                  · rw [if_pos c32] at H
                    have c32b0 : decide (x97_2 < (t255.length : Int)) = true := decide_eq_true c32
                    clear c32
                    by_cases c33 : 0 ≤ x97_2
                    · rw [if_pos c33] at H
                      have c33b0 : decide (0 ≤ x97_2) = true := decide_eq_true c33
                      clear c33
                      by_cases c34 : x97_2 < (t255.length : Int)
                      · rw [if_pos c34] at H
                        have c34b0 : decide (x97_2 < (t255.length : Int)) = true := decide_eq_true c34
                        clear c34
                        have c35b0 := eq_true (of_decide_eq_true AS : 0 ≤ x97_2)
                        by_cases c36 : x97_2 ≤ (t255.length : Int)
                        · rw [if_pos c36] at H
                          have c36b0 := eq_true c36
                          have c36b1 : decide (x97_2 ≤ (t255.length : Int)) = true := decide_eq_true c36
                          clear c36
                          obtain ⟨y269, hy269⟩ : ∃ y_ : List Int, y_ = (t255.take (x97_2 : Int).toNat) := ⟨_, rfl⟩
                          replace H : (laws_FnMeetingSets.l1 k2 l1 t255 (rd t255 x97_2) t255 (t255.length : Int) x97_2 y269 (y269.length : Int) 0) = some r := by first | (rw [hy269]; with_reducible exact H) | (have H2_ := (Option.bind_some _ _).symm.trans H; rw [hy269]; with_reducible exact H2_) | (have H2_ := (Option.bind_some _ _).symm.trans H; with_reducible exact H2_) | with_reducible exact H | (rw [hy269]; exact H) | exact H
                          have Ny269 := Aside0.mk hy269
                          clear hy269
                          have H' := Aside0.mk H
                          clear H
                          have p268 : 0 ≤ (x97_2 : Int) := of_decide_eq_true AS
                          have q268 : x97_2 < (t255.length : Int) := of_decide_eq_true AS
                          obtain ⟨ad268, e268, hx268_0⟩ := Kd.at_int (Kd.R_reads' HO_95.out).2.2 x97_2 p268 q268
                          cases e268
                          replace p268 := eq_true p268
                          replace q268 := eq_true q268
                          have q37 : (x97_2 : Int) ≤ ((t255.length : Int) : Int) := of_decide_eq_true AS
                          obtain ⟨i037, hi037, _, hsz37, _⟩ := info_parts info3
                          have hroom37 : t255.length ≤ co31 := (Kd.R_reads' HO_7.out).2.1
                          have hC37 : Kd.C (Kd.int .i64) _ (some ad268) t255.length t255 := (Kd.R_reads' HO_7.out).2.2
                          have hcut37 := cut_to (P := Try.prog) 26 3 .i64 Try.underlying26 hi037 (some ad268) t255.length co31 x97_2 (of_decide_eq_true AS) q37 hroom37
                          have hr37 := Kd.C_take (m := (x97_2 : Int).toNat) hC37 (by omega)
                          have hy37 : y269.length = (x97_2 : Int).toNat := (by rw [Ny269.out, List.length_take]; omega)
                          rw [← Ny269.out] at hr37
                          rw [← hy37] at hcut37
                          have HR272 := Aside0.mk hr37
                          have HC272 := Aside0.mk (show y269.length ≤ co31 from by omega)
                          clear hr37 hC37 hroom37 hi037 hsz37
                          have KY37 := Aside0.mk hy37
                          clear hy37
                          have KL37 := Aside0.mk (show (x97_2 : Int).toNat ≤ t255.length from by omega)
                          replace q37 := eq_true q37
                          go_wp2
                          go_loopg [106] k2 (fun kq v106 w' => ∃ (x106_3 : Int), v106 = .int .i64 x106_3 ∧ Aside0 (laws_FnMeetingSets.l1 kq l1 t255 (rd t255 x97_2) t255 (t255.length : Int) x97_2 y269 (y269.length : Int) x106_3 = some r) ∧ Aside0 (kq ≤ k2) ∧ Aside0 (Kd.R (Kd.int .i64) 3 w' w.heap.size (fun _ => True) (.slice (some ad268) t255.length co31) t255) ∧ Aside0 (Kd.R (Kd.int .i64) 3 w' w.heap.size (fun _ => True) (.slice (some ad268) t255.length co31) t255) ∧ Aside0 (Kd.C (Kd.int .i64) w' (some ad268) y269.length y269) ∧ Aside0 (Below w.heap.size w w'))
                          case atStart => exact ⟨(0), RF, H', ⟨Nat.le_refl _⟩, ⟨KR HO_7⟩, ⟨KR HO_95⟩, ⟨by repeat (first | (with_reducible exact HR272.out) | (with_reducible refine Kd.C_drewN ?_ _) | (with_reducible refine Kd.C_drew ?_) | (with_reducible refine Kd.C_alloc ?_ _) | exact HR272.out)⟩, ⟨BB⟩⟩
                          case round =>
                            clear H'
                            try clear c1
                            try clear c2
                            try clear p2
                            try clear q2
                            try clear hx2
                            try clear c3
                            try clear q3
                            try clear c4
                            try clear c6
                            try clear p6
                            try clear c7
                            try clear c8
                            try clear c9
                            try clear c10
                            try clear c11
                            try clear c15
                            try clear c15b0
                            try clear c15b1
                            try clear c15b2
                            try clear c17
                            try clear c18
                            try clear c18b0
                            try clear c18b1
                            try clear c18b2
                            try clear c21
                            try clear c21b0
                            try clear c21b1
                            try clear p26
                            try clear q26
                            try clear hx26
                            try clear c28
                            try clear c29
                            try clear c30
                            try clear c30b0
                            try clear c30b1
                            try clear c32
                            try clear c32b0
                            try clear c33
                            try clear c33b0
                            try clear c34
                            try clear c34b0
                            try clear c35
                            try clear c35b0
                            try clear c36
                            try clear c36b0
                            try clear c36b1
                            try clear q37
                            try clear hx268_0
                            try clear p2
                            try clear p268
                            try clear p6
                            try clear q268
                            try clear q37
                            obtain ⟨x106_3, rfl, HA, HK3, HO_7, HO_95, HR272, HB⟩ := hrel
                            cases gk with
                            | zero => exact absurd HA.out (by simp [laws_FnMeetingSets.l1])
                            | succ k3 =>
                              have H := HA.out
                              clear HA
                              simp only [laws_FnMeetingSets.l1] at H
                              by_cases c38 : x106_3 < (y269.length : Int)
                              · rw [if_pos c38] at H
                                have c38b0 : decide (x106_3 < (y269.length : Int)) = true := decide_eq_true c38
                                clear c38
                                by_cases c39 : 0 ≤ x106_3
                                · rw [if_pos c39] at H
                                  have c39b0 : decide (0 ≤ x106_3) = true := decide_eq_true c39
                                  clear c39
                                  by_cases c40 : x106_3 < (y269.length : Int)
                                  · rw [if_pos c40] at H
                                    have c40b0 : decide (x106_3 < (y269.length : Int)) = true := decide_eq_true c40
                                    clear c40
                                    replace H := Option.bind_eq_some_iff.mp H
                                    obtain ⟨⟨t274, t275⟩, A410, H⟩ := H
                                    replace H : (if t275 = true then (if t274 = true then (some false) else (laws_FnMeetingSets.l1 k3 l1 t255 (rd t255 x97_2) t255 (t255.length : Int) x97_2 y269 (y269.length : Int) (wrap64 (x106_3 + 1)))) else (some false)) = some r := H
                                    have A41 := Aside0.mk A410
                                    clear A410
                                    by_cases c42 : t275 = true
                                    · subst c42
                                      have H1 : (if t274 = true then (some false) else (laws_FnMeetingSets.l1 k3 l1 t255 (rd t255 x97_2) t255 (t255.length : Int) x97_2 y269 (y269.length : Int) (wrap64 (x106_3 + 1)))) = some r := by rw [if_pos rfl] at H; exact H
                                      clear H
                                      have H := H1
                                      clear H1
                                      by_cases c43 : t274 = true
                                      · subst c43
                                        have H1 : (some false) = some r := by rw [if_pos rfl] at H; exact H
                                        clear H
                                        have H := H1
                                        clear H1
                                        obtain rfl := Option.some.inj H
                                        have p273 : 0 ≤ (x106_3 : Int) := of_decide_eq_true AS
                                        have q273 : x106_3 < (y269.length : Int) := of_decide_eq_true AS
                                        obtain ⟨ad273, e273, hx273_0⟩ := Kd.at_int HR272.out x106_3 p273 q273
                                        obtain rfl : ad268 = ad273 := (by injection e273)
                                        try (replace hx273_0 := (HB.out.cell (World.block_lt_of_cell? w _ hx273_0)).trans hx273_0)
                                        replace p273 := eq_true p273
                                        replace q273 := eq_true q273
                                        go_wp2_with (first | ((with_reducible refine gate_callee (f := 13) rfl ?_); refine goesL_ (some 113) rfl rfl Try.func13 (by kernel_rfl) rfl #[.int .i64 (rd t255 x97_2), .int .i64 (rd y269 x106_3)] rfl TA ?_; (with_reducible refine (impl_AreApart.calls (rd t255 x97_2) (rd y269 x106_3) true true _ A41.out).mono ?_); rintro e w' ⟨rfl, ⟨nd, rfl⟩⟩; refine ⟨_, rfl, ?_⟩))
                                        go_ret
                                        exact ⟨by first | rfl | (simp [errW_none, errW_some] <;> rfl) | (simp [*, errW_none, errW_some] <;> rfl), BB⟩
                                      · replace c43 := Bool.eq_false_iff.mpr c43
                                        subst c43
                                        have H1 : (laws_FnMeetingSets.l1 k3 l1 t255 (rd t255 x97_2) t255 (t255.length : Int) x97_2 y269 (y269.length : Int) (wrap64 (x106_3 + 1))) = some r := by rw [if_neg (show ¬ (false = true) by decide)] at H; exact H
                                        clear H
                                        have H := H1
                                        clear H1
                                        have H' := Aside0.mk H
                                        clear H
                                        have p273 : 0 ≤ (x106_3 : Int) := of_decide_eq_true AS
                                        have q273 : x106_3 < (y269.length : Int) := of_decide_eq_true AS
                                        obtain ⟨ad273, e273, hx273_0⟩ := Kd.at_int HR272.out x106_3 p273 q273
                                        obtain rfl : ad268 = ad273 := (by injection e273)
                                        try (replace hx273_0 := (HB.out.cell (World.block_lt_of_cell? w _ hx273_0)).trans hx273_0)
                                        replace p273 := eq_true p273
                                        replace q273 := eq_true q273
                                        go_wp2_with (first | ((with_reducible refine gate_callee (f := 13) rfl ?_); refine goesL_ (some 113) rfl rfl Try.func13 (by kernel_rfl) rfl #[.int .i64 (rd t255 x97_2), .int .i64 (rd y269 x106_3)] rfl TA ?_; (with_reducible refine (impl_AreApart.calls (rd t255 x97_2) (rd y269 x106_3) false true _ A41.out).mono ?_); rintro e w' ⟨rfl, ⟨nd, rfl⟩⟩; refine ⟨_, rfl, ?_⟩))
                                        go_roundg k3
                                        case measure => have := HJ9.out; have := HK2.out; have := HK3.out; omega
                                        case rel => exact ⟨(wrap64 (x106_3 + 1)), RF, H', ⟨by have := HJ9.out; have := HK2.out; have := HK3.out; omega⟩, ⟨KR HO_7⟩, ⟨KR HO_95⟩, ⟨by repeat (first | (with_reducible exact HR272.out) | (with_reducible refine Kd.C_drewN ?_ _) | (with_reducible refine Kd.C_drew ?_) | (with_reducible refine Kd.C_alloc ?_ _) | exact HR272.out)⟩, ⟨BB⟩⟩
                                    · replace c42 := Bool.eq_false_iff.mpr c42
                                      subst c42
                                      have H1 : (some false) = some r := by rw [if_neg (show ¬ (false = true) by decide)] at H; exact H
                                      clear H
                                      have H := H1
                                      clear H1
                                      obtain rfl := Option.some.inj H
                                      have p273 : 0 ≤ (x106_3 : Int) := of_decide_eq_true AS
                                      have q273 : x106_3 < (y269.length : Int) := of_decide_eq_true AS
                                      obtain ⟨ad273, e273, hx273_0⟩ := Kd.at_int HR272.out x106_3 p273 q273
                                      obtain rfl : ad268 = ad273 := (by injection e273)
                                      try (replace hx273_0 := (HB.out.cell (World.block_lt_of_cell? w _ hx273_0)).trans hx273_0)
                                      replace p273 := eq_true p273
                                      replace q273 := eq_true q273
                                      go_wp2_with (first | ((with_reducible refine gate_callee (f := 13) rfl ?_); refine goesL_ (some 113) rfl rfl Try.func13 (by kernel_rfl) rfl #[.int .i64 (rd t255 x97_2), .int .i64 (rd y269 x106_3)] rfl TA ?_; (with_reducible refine (impl_AreApart.calls (rd t255 x97_2) (rd y269 x106_3) t274 false _ A41.out).mono ?_); rintro e w' ⟨rfl, ⟨nd, rfl⟩⟩; refine ⟨_, rfl, ?_⟩))
                                      go_ret
                                      exact ⟨by first | rfl | (simp [errW_none, errW_some] <;> rfl) | (simp [*, errW_none, errW_some] <;> rfl), BB⟩
                                  · rw [if_neg c40] at H
                                    exact absurd H (by simp)
                                · rw [if_neg c39] at H
                                  exact absurd H (by simp)
                              · rw [if_neg c38] at H
                                have c38b0 : decide (x106_3 < (y269.length : Int)) = false := decide_eq_false c38
                                clear c38
                                have H' := Aside0.mk H
                                clear H
                                go_wp2
                                go_roundg k3
                                case measure => have := HJ9.out; have := HK2.out; have := HK3.out; omega
                                case rel => exact ⟨(wrap64 (x97_2 + 1)), RF, H', ⟨by have := HJ9.out; have := HK2.out; have := HK3.out; omega⟩, ⟨KR HO_7⟩, ⟨KR HO_95⟩, ⟨BB⟩⟩
                        · rw [if_neg c36] at H
                          exact absurd H (by simp)
                      · rw [if_neg c34] at H
                        exact absurd H (by simp)
                    · rw [if_neg c33] at H
                      exact absurd H (by simp)
                  · rw [if_neg c32] at H
                    have c32b0 : decide (x97_2 < (t255.length : Int)) = false := decide_eq_false c32
                    clear c32
                    replace H := Option.bind_eq_some_iff.mp H
                    obtain ⟨⟨t276, t277, t278⟩, A440, H⟩ := H
                    replace H : ((impl_IsColouring.f k2 t276 t277 t278).bind fun bt281 => ((impl_MostMeeting.f k2 t276 t277).bind fun bt283 => (if bt281.2 = true then (if bt281.1 = true then (laws_FnMeetingSets.j3 k2 t278 bt283.1 (!bt283.2)) else (laws_FnMeetingSets.j3 k2 t278 bt283.1 true)) else (laws_FnMeetingSets.j3 k2 t278 bt283.1 true)))) = some r := H
                    have A44 := Aside0.mk A440
                    clear A440
                    replace H := Option.bind_eq_some_iff.mp H
                    obtain ⟨⟨t281, t282⟩, A450, H⟩ := H
                    replace H : ((impl_MostMeeting.f k2 t276 t277).bind fun bt283 => (if t282 = true then (if t281 = true then (laws_FnMeetingSets.j3 k2 t278 bt283.1 (!bt283.2)) else (laws_FnMeetingSets.j3 k2 t278 bt283.1 true)) else (laws_FnMeetingSets.j3 k2 t278 bt283.1 true))) = some r := H
                    have A45 := Aside0.mk A450
                    clear A450
                    replace H := Option.bind_eq_some_iff.mp H
                    obtain ⟨⟨t283, t284⟩, A460, H⟩ := H
                    replace H : (if t282 = true then (if t281 = true then (laws_FnMeetingSets.j3 k2 t278 t283 (!t284)) else (laws_FnMeetingSets.j3 k2 t278 t283 true)) else (laws_FnMeetingSets.j3 k2 t278 t283 true)) = some r := H
                    have A46 := Aside0.mk A460
                    clear A460
                    have HC47 := Aside0.mk H
                    clear H
                    go_upto_region 28 with (first | ((with_reducible refine gate_callee (f := 14) rfl ?_); refine goesL_ (some 125) rfl rfl Try.func14 (by kernel_rfl) rfl #[.slice A1 l1.length c1] rfl TA ?_; (with_reducible refine (spec_DrawIsColouring.calls k2 _ _ l1 t276 t277 t278 _ ?side1 ?side2 A44.out).mono ?_); (case side1 => repeat (first | exact (Kd.C_below HR1.out HB.out) | (with_reducible refine Kd.C_drewN ?_ _) | (with_reducible refine Kd.C_drew ?_) | (with_reducible refine Kd.C_alloc ?_ _))); (case side2 => exact HC1.out); rintro e w48 ⟨v279, rfl, ho0, hb⟩; refine ⟨_, rfl, ?_⟩; have n0_ := Aside0.mk (Kd.R_elder' (KR HO_7) (Kd.R_base ho0) hb); have n1_ := Aside0.mk (Kd.R_elder' (KR HO_95) (Kd.R_base ho0) hb); have n2_ := Aside0.mk (Kd.R_lower (Kd.R_new' (Kd.R_new' ho0 (Kd.R_lt (KR HO_7))) (Kd.R_lt (KR HO_95))) (below_size BB)); have n3_ := Aside0.mk (below_step BB hb); clear HO_7; clear HO_95; clear HB; have HO_7 := n0_; have HO_95 := n1_; have HO280 := n2_; have HB := n3_; clear n0_ n1_ n2_ n3_; (try clear hb); (try clear hb2); (try clear hk); (try clear hi); (try clear ho0); obtain ⟨Ao49, co49, eo49⟩ := Kd.R_slice HO280.out; subst eo49) | ((with_reducible refine gate_callee (f := 15) rfl ?_); refine goesL_ (some 133) rfl rfl Try.func15 (by kernel_rfl) rfl #[.int .i64 t276, .int .i64 t277, .slice Ao49 t278.length co49] rfl TA ?_; (with_reducible refine (impl_IsColouring.calls k2 t276 t277 _ _ t278 t281 t282 _ ?side1 ?side2 A45.out).mono ?_); (case side1 => repeat (first | exact (Kd.R_reads' HO280.out).2.2 | (with_reducible refine Kd.C_drewN ?_ _) | (with_reducible refine Kd.C_drew ?_) | (with_reducible refine Kd.C_alloc ?_ _))); (case side2 => exact (Kd.R_reads' HO280.out).2.1); rintro e w50 ⟨rfl, hb⟩; refine ⟨_, rfl, ?_⟩; have n0_ := Aside0.mk (Kd.R_below (KR HO_7) hb); have n1_ := Aside0.mk (Kd.R_below (KR HO_95) hb); have n2_ := Aside0.mk (Kd.R_below (KR HO280) hb); have n3_ := Aside0.mk (below_step BB hb); clear HO_7; clear HO_95; clear HO280; clear HB; have HO_7 := n0_; have HO_95 := n1_; have HO280 := n2_; have HB := n3_; clear n0_ n1_ n2_ n3_; (try clear hb); (try clear hb2); (try clear hk); (try clear hi)) | ((with_reducible refine gate_callee (f := 10) rfl ?_); refine goesL_ (some 139) rfl rfl Try.func10 (by kernel_rfl) rfl #[.int .i64 t276, .int .i64 t277] rfl TA ?_; (with_reducible refine (impl_MostMeeting.calls k2 t276 t277 t283 t284 _ A46.out).mono ?_); rintro e w' ⟨rfl, ⟨nd, rfl⟩⟩; refine ⟨_, rfl, ?_⟩))
                    (try simp only [Act.put, List.setIfInBounds_toArray, List.set_cons_zero, List.set_cons_succ])
                    go_cut [151] (fun v151 wc => ∃ (kq : Nat) (x151_46 : Bool), v151 = .bool x151_46 ∧ Aside0 (laws_FnMeetingSets.j3 kq t278 t283 x151_46 = some r) ∧ Aside0 (kq ≤ k2) ∧ Aside0 (Kd.R (Kd.int .i64) 3 wc w.heap.size (fun _ => True) (.slice Ao49 t278.length co49) t278) ∧ Aside0 (Below w.heap.size w wc))
                    case first =>
                      have H := HC47.out
                      clear HC47
                      by_cases c51 : t282 = true
                      · subst c51
                        have H1 : (if t281 = true then (laws_FnMeetingSets.j3 k2 t278 t283 (!t284)) else (laws_FnMeetingSets.j3 k2 t278 t283 true)) = some r := by rw [if_pos rfl] at H; exact H
                        clear H
                        have H := H1
                        clear H1
                        by_cases c52 : t281 = true
                        · subst c52
                          have H1 : (laws_FnMeetingSets.j3 k2 t278 t283 (!t284)) = some r := by rw [if_pos rfl] at H; exact H
                          clear H
                          have H := H1
                          clear H1
                          have H' := Aside0.mk H
                          clear H
                          go_wp2
                          go_meet
                          case rel => exact ⟨_, (!t284), RF, H', ⟨by have := HJ9.out; have := HK2.out; first | omega | exact Nat.le_refl _⟩, ⟨by (with_reducible repeat (first | apply Kd.R_alloc | apply Kd.R_drewN | apply Kd.R_drew)); exact Kd.R_mono HO280.out (fun _ hk => trivial)⟩, ⟨BB⟩⟩
                        · replace c52 := Bool.eq_false_iff.mpr c52
                          subst c52
                          have H1 : (laws_FnMeetingSets.j3 k2 t278 t283 true) = some r := by rw [if_neg (show ¬ (false = true) by decide)] at H; exact H
                          clear H
                          have H := H1
                          clear H1
                          have H' := Aside0.mk H
                          clear H
                          go_wp2
                          go_meet
                          case rel => exact ⟨_, (true), RF, H', ⟨by have := HJ9.out; have := HK2.out; first | omega | exact Nat.le_refl _⟩, ⟨by (with_reducible repeat (first | apply Kd.R_alloc | apply Kd.R_drewN | apply Kd.R_drew)); exact Kd.R_mono HO280.out (fun _ hk => trivial)⟩, ⟨BB⟩⟩
                      · replace c51 := Bool.eq_false_iff.mpr c51
                        subst c51
                        have H1 : (laws_FnMeetingSets.j3 k2 t278 t283 true) = some r := by rw [if_neg (show ¬ (false = true) by decide)] at H; exact H
                        clear H
                        have H := H1
                        clear H1
                        have H' := Aside0.mk H
                        clear H
                        go_wp2
                        go_meet
                        case rel => exact ⟨_, (true), RF, H', ⟨by have := HJ9.out; have := HK2.out; first | omega | exact Nat.le_refl _⟩, ⟨by (with_reducible repeat (first | apply Kd.R_alloc | apply Kd.R_drewN | apply Kd.R_drew)); exact Kd.R_mono HO280.out (fun _ hk => trivial)⟩, ⟨BB⟩⟩
                    case rest =>
                      clear HC47
                      try clear c1
                      try clear c2
                      try clear p2
                      try clear q2
                      try clear hx2
                      try clear c3
                      try clear q3
                      try clear c4
                      try clear c5
                      try clear c6
                      try clear p6
                      try clear c7
                      try clear c8
                      try clear c9
                      try clear c10
                      try clear c11
                      try clear c13
                      try clear c14
                      try clear c15
                      try clear c15b0
                      try clear c15b1
                      try clear c15b2
                      try clear c17
                      try clear c18
                      try clear c18b0
                      try clear c18b1
                      try clear c18b2
                      try clear c21
                      try clear c21b0
                      try clear c21b1
                      try clear p26
                      try clear q26
                      try clear hx26
                      try clear p27
                      try clear q27
                      try clear hx27
                      try clear c28
                      try clear c29
                      try clear c30
                      try clear c30b0
                      try clear c30b1
                      try clear c32
                      try clear c32b0
                      try clear c33
                      try clear c33b0
                      try clear c34
                      try clear c34b0
                      try clear c35
                      try clear c35b0
                      try clear c36
                      try clear c36b0
                      try clear c36b1
                      try clear q37
                      try clear c38
                      try clear c38b0
                      try clear c39
                      try clear c39b0
                      try clear c40
                      try clear c40b0
                      try clear c42
                      try clear c43
                      try clear c51
                      try clear c52
                      try clear hx268_0
                      try clear hx273_0
                      try clear p2
                      try clear p26
                      try clear p268
                      try clear p273
                      try clear p6
                      try clear q2
                      try clear q26
                      try clear q268
                      try clear q273
                      try clear q3
                      try clear q37
                      obtain ⟨kq, x151_46, rfl, HA, HJ46, HO_23, HB⟩ := hcut
                      cases kq with
                      | zero => exact absurd HA.out (by simp [laws_FnMeetingSets.j3])
                      | succ kj46 =>
                        have H := HA.out
                        clear HA
                        simp only [laws_FnMeetingSets.j3] at H
                        by_cases c53 : x151_46 = true
                        · subst c53
                          have H1 : (some true) = some r := by rw [if_pos rfl] at H; exact H
                          clear H
                          have H := H1
                          clear H1
                          obtain rfl := Option.some.inj H
                          go_wp2
                          go_ret
                          exact ⟨by first | rfl | (simp [errW_none, errW_some] <;> rfl) | (simp [*, errW_none, errW_some] <;> rfl), BB⟩
                        · replace c53 := Bool.eq_false_iff.mpr c53
                          subst c53
                          have H1 : (laws_FnMeetingSets.l2 kj46 t278 t283 t278 (t278.length : Int) 0) = some r := by rw [if_neg (show ¬ (false = true) by decide)] at H; exact H
                          clear H
                          have H := H1
                          clear H1
                          have H' := Aside0.mk H
                          clear H
                          go_wp2
                          go_loopg [154] kj46 (fun kq v154 w' => ∃ (x154_4 : Int), v154 = .int .i64 x154_4 ∧ Aside0 (laws_FnMeetingSets.l2 kq t278 t283 t278 (t278.length : Int) x154_4 = some r) ∧ Aside0 (kq ≤ kj46) ∧ Aside0 (Kd.R (Kd.int .i64) 3 w' w.heap.size (fun _ => True) (.slice Ao49 t278.length co49) t278) ∧ Aside0 (Kd.R (Kd.int .i64) 3 w' w.heap.size (fun _ => True) (.slice Ao49 t278.length co49) t278) ∧ Aside0 (Below w.heap.size w w'))
                          case atStart => exact ⟨(0), RF, H', ⟨Nat.le_refl _⟩, ⟨KR HO_23⟩, ⟨KR HO_23⟩, ⟨BB⟩⟩
                          case round =>
                            clear H'
                            try clear c1
                            try clear c2
                            try clear p2
                            try clear q2
                            try clear hx2
                            try clear c3
                            try clear q3
                            try clear c4
                            try clear c5
                            try clear c6
                            try clear p6
                            try clear c7
                            try clear c8
                            try clear c9
                            try clear c10
                            try clear c11
                            try clear c13
                            try clear c14
                            try clear c15
                            try clear c15b0
                            try clear c15b1
                            try clear c15b2
                            try clear c17
                            try clear c18
                            try clear c18b0
                            try clear c18b1
                            try clear c18b2
                            try clear c21
                            try clear c21b0
                            try clear c21b1
                            try clear p26
                            try clear q26
                            try clear hx26
                            try clear p27
                            try clear q27
                            try clear hx27
                            try clear c28
                            try clear c29
                            try clear c30
                            try clear c30b0
                            try clear c30b1
                            try clear c32
                            try clear c32b0
                            try clear c33
                            try clear c33b0
                            try clear c34
                            try clear c34b0
                            try clear c35
                            try clear c35b0
                            try clear c36
                            try clear c36b0
                            try clear c36b1
                            try clear q37
                            try clear c38
                            try clear c38b0
                            try clear c39
                            try clear c39b0
                            try clear c40
                            try clear c40b0
                            try clear c42
                            try clear c43
                            try clear c51
                            try clear c52
                            try clear c53
                            try clear hx268_0
                            try clear hx273_0
                            try clear p2
                            try clear p26
                            try clear p268
                            try clear p27
                            try clear p273
                            try clear p6
                            try clear q2
                            try clear q26
                            try clear q268
                            try clear q27
                            try clear q273
                            try clear q3
                            try clear q37
                            obtain ⟨x154_4, rfl, HA, HK4, HO_23, HO_152, HB⟩ := hrel
                            cases gk with
                            | zero => exact absurd HA.out (by simp [laws_FnMeetingSets.l2])
                            | succ k4 =>
                              have H := HA.out
                              clear HA
                              simp only [laws_FnMeetingSets.l2] at H
                              by_cases c54 : x154_4 < (t278.length : Int)
                              · rw [if_pos c54] at H
                                have c54b0 : decide (x154_4 < (t278.length : Int)) = true := decide_eq_true c54
                                clear c54
                                by_cases c55 : 0 ≤ x154_4
                                · rw [if_pos c55] at H
                                  have c55b0 : decide (0 ≤ x154_4) = true := decide_eq_true c55
                                  clear c55
                                  by_cases c56 : x154_4 < (t278.length : Int)
                                  · rw [if_pos c56] at H
                                    have c56b0 : decide (x154_4 < (t278.length : Int)) = true := decide_eq_true c56
                                    clear c56
                                    have H' := Aside0.mk H
                                    clear H
                                    have p285 : 0 ≤ (x154_4 : Int) := of_decide_eq_true AS
                                    have q285 : x154_4 < (t278.length : Int) := of_decide_eq_true AS
                                    obtain ⟨ad285, e285, hx285_0⟩ := Kd.at_int (Kd.R_reads' HO_152.out).2.2 x154_4 p285 q285
                                    cases e285
                                    replace p285 := eq_true p285
                                    replace q285 := eq_true q285
                                    go_wp2
                                    go_loopg [30, 160] k4 (fun kq v30 v160 w' => ∃ (x30_5 : Int) (x160_5 : Int), v30 = .int .i64 x30_5 ∧ v160 = .int .i64 x160_5 ∧ Aside0 (laws_FnMeetingSets.l3 kq t278 t283 (rd t278 x154_4) x30_5 t278 (t278.length : Int) x154_4 t278 (t278.length : Int) x160_5 = some r) ∧ Aside0 (kq ≤ k4) ∧ Aside0 (Kd.R (Kd.int .i64) 3 w' w.heap.size (fun _ => True) (.slice (some ad285) t278.length co49) t278) ∧ Aside0 (Kd.R (Kd.int .i64) 3 w' w.heap.size (fun _ => True) (.slice (some ad285) t278.length co49) t278) ∧ Aside0 (Kd.R (Kd.int .i64) 3 w' w.heap.size (fun _ => True) (.slice (some ad285) t278.length co49) t278) ∧ Aside0 (Below w.heap.size w w'))
                                    case atStart => exact ⟨(0), (0), RF, RF, H', ⟨Nat.le_refl _⟩, ⟨KR HO_23⟩, ⟨KR HO_152⟩, ⟨KR HO_23⟩, ⟨BB⟩⟩
                                    case round =>
                                      clear H'
                                      try clear c1
                                      try clear c2
                                      try clear p2
                                      try clear q2
                                      try clear hx2
                                      try clear c3
                                      try clear q3
                                      try clear c4
                                      try clear c5
                                      try clear c6
                                      try clear p6
                                      try clear c7
                                      try clear c8
                                      try clear c9
                                      try clear c10
                                      try clear c11
                                      try clear c13
                                      try clear c14
                                      try clear c15
                                      try clear c15b0
                                      try clear c15b1
                                      try clear c15b2
                                      try clear c17
                                      try clear c18
                                      try clear c18b0
                                      try clear c18b1
                                      try clear c18b2
                                      try clear c21
                                      try clear c21b0
                                      try clear c21b1
                                      try clear p26
                                      try clear q26
                                      try clear hx26
                                      try clear p27
                                      try clear q27
                                      try clear hx27
                                      try clear c28
                                      try clear p28
                                      try clear q28
                                      try clear hx28
                                      try clear c29
                                      try clear c30
                                      try clear c30b0
                                      try clear c30b1
                                      try clear c32
                                      try clear c32b0
                                      try clear c33
                                      try clear c33b0
                                      try clear c34
                                      try clear c34b0
                                      try clear c35
                                      try clear c35b0
                                      try clear c36
                                      try clear c36b0
                                      try clear c36b1
                                      try clear q37
                                      try clear c38
                                      try clear c38b0
                                      try clear c39
                                      try clear c39b0
                                      try clear c40
                                      try clear c40b0
                                      try clear c42
                                      try clear c43
                                      try clear c51
                                      try clear c52
                                      try clear c53
                                      try clear c54
                                      try clear c54b0
                                      try clear c55
                                      try clear c55b0
                                      try clear c56
                                      try clear c56b0
                                      try clear hx268_0
                                      try clear hx273_0
                                      try clear hx285_0
                                      try clear p2
                                      try clear p26
                                      try clear p268
                                      try clear p27
                                      try clear p273
                                      try clear p285
                                      try clear p6
                                      try clear q2
                                      try clear q26
                                      try clear q268
                                      try clear q27
                                      try clear q273
                                      try clear q285
                                      try clear q3
                                      try clear q37
                                      obtain ⟨x30_5, x160_5, rfl, rfl, HA, HK5, HO_23, HO_152, HO_158, HB⟩ := hrel
                                      cases gk with
                                      | zero => exact absurd HA.out (by simp [laws_FnMeetingSets.l3])
                                      | succ k5 =>
                                        have H := HA.out
                                        clear HA
                                        simp only [laws_FnMeetingSets.l3] at H
                                        by_cases c57 : x160_5 < (t278.length : Int)
                                        · rw [if_pos c57] at H
                                          have c57b0 : decide (x160_5 < (t278.length : Int)) = true := decide_eq_true c57
                                          clear c57
                                          by_cases c58 : 0 ≤ x160_5
                                          · rw [if_pos c58] at H
                                            have c58b0 : decide (0 ≤ x160_5) = true := decide_eq_true c58
                                            clear c58
                                            by_cases c59 : x160_5 < (t278.length : Int)
                                            · rw [if_pos c59] at H
                                              have c59b0 : decide (x160_5 < (t278.length : Int)) = true := decide_eq_true c59
                                              clear c59
                                              by_cases c60 : (rd t278 x154_4) = (rd t278 x160_5)
                                              · rw [if_pos c60] at H
                                                have c60b0 : ((rd t278 x154_4) == (rd t278 x160_5)) = true := beq_iff_eq.mpr c60
                                                have c60b1 : ((rd t278 x154_4) != (rd t278 x160_5)) = false := bne_eq_false_iff_eq.mpr c60
                                                clear c60
                                                have H' := Aside0.mk H
                                                clear H
                                                have p286 : 0 ≤ (x160_5 : Int) := of_decide_eq_true AS
                                                have q286 : x160_5 < (t278.length : Int) := of_decide_eq_true AS
                                                obtain ⟨ad286, e286, hx286_0⟩ := Kd.at_int (Kd.R_reads' HO_158.out).2.2 x160_5 p286 q286
                                                obtain rfl : ad285 = ad286 := (by injection e286)
                                                replace p286 := eq_true p286
                                                replace q286 := eq_true q286
                                                go_wp2
                                                go_roundg k5
                                                case measure => have := HJ9.out; have := HK2.out; have := HJ46.out; have := HK4.out; have := HK5.out; omega
                                                case rel => exact ⟨(wrap64 (x30_5 + 1)), (wrap64 (x160_5 + 1)), RF, RF, H', ⟨by have := HJ9.out; have := HK2.out; have := HJ46.out; have := HK4.out; have := HK5.out; omega⟩, ⟨KR HO_23⟩, ⟨KR HO_152⟩, ⟨KR HO_158⟩, ⟨BB⟩⟩
                                              · rw [if_neg c60] at H
                                                have c60b0 : ((rd t278 x154_4) == (rd t278 x160_5)) = false := beq_eq_false_iff_ne.mpr c60
                                                have c60b1 : ((rd t278 x154_4) != (rd t278 x160_5)) = true := bne_iff_ne.mpr c60
                                                have H' := Aside0.mk H
                                                clear H
                                                have p286 : 0 ≤ (x160_5 : Int) := of_decide_eq_true AS
                                                have q286 : x160_5 < (t278.length : Int) := of_decide_eq_true AS
                                                obtain ⟨ad286, e286, hx286_0⟩ := Kd.at_int (Kd.R_reads' HO_158.out).2.2 x160_5 p286 q286
                                                obtain rfl : ad285 = ad286 := (by injection e286)
                                                replace p286 := eq_true p286
                                                replace q286 := eq_true q286
                                                go_wp2
                                                go_roundg k5
                                                case measure => have := HJ9.out; have := HK2.out; have := HJ46.out; have := HK4.out; have := HK5.out; omega
                                                case rel => exact ⟨(x30_5), (wrap64 (x160_5 + 1)), RF, RF, H', ⟨by have := HJ9.out; have := HK2.out; have := HJ46.out; have := HK4.out; have := HK5.out; omega⟩, ⟨KR HO_23⟩, ⟨KR HO_152⟩, ⟨KR HO_158⟩, ⟨BB⟩⟩
                                            · rw [if_neg c59] at H
                                              exact absurd H (by simp)
                                          · rw [if_neg c58] at H
                                            exact absurd H (by simp)
                                        · rw [if_neg c57] at H
                                          have c57b0 : decide (x160_5 < (t278.length : Int)) = false := decide_eq_false c57
                                          clear c57
                                          by_cases c61 : x30_5 > t283
                                          · rw [if_pos c61] at H
                                            have c61b0 : decide (t283 < x30_5) = true := decide_eq_true c61
                                            clear c61
                                            obtain rfl := Option.some.inj H
                                            go_wp2
                                            go_ret
                                            exact ⟨by first | rfl | (simp [errW_none, errW_some] <;> rfl) | (simp [*, errW_none, errW_some] <;> rfl), BB⟩
                                          · rw [if_neg c61] at H
                                            have c61b0 : decide (t283 < x30_5) = false := decide_eq_false c61
                                            clear c61
                                            have H' := Aside0.mk H
                                            clear H
                                            go_wp2
                                            go_roundg k5
                                            case measure => have := HJ9.out; have := HK2.out; have := HJ46.out; have := HK4.out; have := HK5.out; omega
                                            case rel => exact ⟨(wrap64 (x154_4 + 1)), RF, H', ⟨by have := HJ9.out; have := HK2.out; have := HJ46.out; have := HK4.out; have := HK5.out; omega⟩, ⟨KR HO_23⟩, ⟨KR HO_152⟩, ⟨BB⟩⟩
                                  · rw [if_neg c56] at H
                                    exact absurd H (by simp)
                                · rw [if_neg c55] at H
                                  exact absurd H (by simp)
                              · rw [if_neg c54] at H
                                have c54b0 : decide (x154_4 < (t278.length : Int)) = false := decide_eq_false c54
                                clear c54
                                obtain rfl := Option.some.inj H
                                go_wp2
                                go_ret
                                exact ⟨by first | rfl | (simp [errW_none, errW_some] <;> rfl) | (simp [*, errW_none, errW_some] <;> rfl), BB⟩
            · rw [if_neg c30] at H
              have c30b0 : ((t255.length : Int) == t263) = false := beq_eq_false_iff_ne.mpr c30
              have c30b1 : ((t255.length : Int) != t263) = true := bne_iff_ne.mpr c30
              obtain rfl := Option.some.inj H
              obtain ⟨Ao62, co62, eo62⟩ := Kd.R_slice HO_7.out
              subst eo62
              go_wp2
              go_ret
              exact ⟨by first | rfl | (simp [errW_none, errW_some] <;> rfl) | (simp [*, errW_none, errW_some] <;> rfl), BB⟩
          · replace c29 := Bool.eq_false_iff.mpr c29
            subst c29
            have H1 : (some true) = some r := by rw [if_neg (show ¬ (false = true) by decide)] at H; exact H
            clear H
            have H := H1
            clear H1
            obtain rfl := Option.some.inj H
            go_wp2
            go_ret
            exact ⟨by first | rfl | (simp [errW_none, errW_some] <;> rfl) | (simp [*, errW_none, errW_some] <;> rfl), BB⟩

/-- THE ONE PURE STATEMENT of laws_FnMeetingSets: yours. -/
def laws_FnMeetingSets.Pure : Prop := ∀ (l0 : List Int) (l1 : List Int), l0.length ≤ maxLen → l0.length * 1 ≤ 140737488351232 → (∀ x ∈ l0, (Lit.int .u8 x).wf = true) → l1.length ≤ maxLen → l1.length * 1 ≤ 140737488351232 → (∀ x ∈ l1, (Lit.int .u8 x).wf = true) → ∃ k, laws_FnMeetingSets.f k l0 l1 = some true
theorem laws_FnMeetingSets.walk (P : laws_FnMeetingSets.Pure) (a0 : Option Addr) (len0 cap0 : Nat) (z0 : List Int) (a1 : Option Addr) (len1 cap1 : Nat) (z1 : List Int) (w : World) (w0 : (a0 = none ∧ len0 = 0 ∧ cap0 = 0 ∧ z0 = []) ∨ ∃ x, a0 = some x ∧ len0 ≤ cap0 ∧ cap0 ≤ maxLen ∧ z0.length = cap0 ∧ (∀ i, i < z0.length → w.cell? (x.add i) = some (.int .u8 (z0.getD i 0))) ∧ ∀ n ∈ z0, (Lit.int .u8 n).wf = true) (y0 : len0 * 1 ≤ 140737488351232) (w1 : (a1 = none ∧ len1 = 0 ∧ cap1 = 0 ∧ z1 = []) ∨ ∃ x, a1 = some x ∧ len1 ≤ cap1 ∧ cap1 ≤ maxLen ∧ z1.length = cap1 ∧ (∀ i, i < z1.length → w.cell? (x.add i) = some (.int .u8 (z1.getD i 0))) ∧ ∀ n ∈ z1, (Lit.int .u8 n).wf = true) (y1 : len1 * 1 ≤ 140737488351232) :
    Calls Try.prog 3 #[.slice a0 len0 cap0, .slice a1 len1 cap1] w fun e w' => e = .returned (.bool true) ∧ Below w.heap.size w w' := by
  obtain ⟨l0, rfl, hr0, hm0, hw0, hc0⟩ := ReadsInt.ofRowC w0
  obtain ⟨l1, rfl, hr1, hm1, hw1, hc1⟩ := ReadsInt.ofRowC w1
  obtain ⟨k, h⟩ := P l0 l1 hm0 y0 hw0 hm1 y1 hw1
  refine (laws_FnMeetingSets.calls k _ _ l0 _ _ l1 true w (Kd.C_of_reads (d := (0 : Int)) (h1 := fun _ => rfl) hr0) hc0 (Kd.C_of_reads (d := (0 : Int)) (h1 := fun _ => rfl) hr1) hc1 h).mono ?_
  rintro e w' ⟨rfl, hd⟩
  exact ⟨rfl, hd⟩

end Go.Proofs.Ytemgnbpcchlpiaa.PFnMeetingSets
