-- Written by a program of this session (wip/tools/pp.sh) out of the translation; Lean checks it.
import Derived.Test.YtafjjbkkcedgnaaDoorPFnHalfWindowsx0
import Derived.Test.YtafjjbkkcedgnaaDoorPFnHalfWindowsx1
import Derived.Test.YtafjjbkkcedgnaaDoorPFnHalfWindowsx2
import Derived.Test.YtafjjbkkcedgnaaDoorPFnHalfWindowsx3
namespace Go.Proofs.YtafjjbkkcedgnaaDoor.PFnHalfWindows
open Go.RowKit Go.Proofs.YtafjjbkkcedgnaaDoorOwn Go.Proofs.YtafjjbkkcedgnaaDoorW.PrintWords Go.Proofs.YtafjjbkkcedgnaaDoorW.PrintLast Go.Proofs.YtafjjbkkcedgnaaDoorW.PrintMore
attribute [local go_sem] max2_int min2_int max_two min_two max_three min_three max_four min_four   -- for this text's walks alone
set_option linter.unusedVariables false
set_option maxHeartbeats 8000000
set_option maxRecDepth 100000
set_option linter.unusedSimpArgs false

/-! ### spec_DrawFewestForThree: function 28 -/
mutual
def spec_DrawFewestForThree.l0 : Nat → ByteArray → Int → List Int → Int → Int → Option (ByteArray)
 | 0, _, _, _, _, _ => none
 | k + 1, x4, x5, x292000, x292001, x292002 => if x5 > 0 then ((spec_l1Cur_pick.f x292000 x292001 x292002 4).bind fun bt301 => (spec_DrawFewestForThree.l1 k x4 x5 bt301.1 0 x292000 bt301.2.1 bt301.2.2)) else (some x4)
def spec_DrawFewestForThree.l1 : Nat → ByteArray → Int → Int → Int → List Int → Int → Int → Option (ByteArray)
 | 0, _, _, _, _, _, _, _ => none
 | k + 1, x4, x5, x6, x7, x292000, x292001, x292002 => if x7 < 3 then ((spec_l1Cur_pick.f x292000 x292001 x292002 (wrap64 ((x4.size : Int) + 1))).bind fun bt304 => (if 0 ≤ bt304.1 then (if bt304.1 ≤ (x4.size : Int) then (if 0 ≤ x6 then (if x6 ≤ (wrap64 (x6 + 1)) then (if (wrap64 (x6 + 1)) ≤ 4 then (if (x4.extract 0 (bt304.1 : Int).toNat).size + ((⟨#[97, 98, 99, 100]⟩ : ByteArray).extract (x6 : Int).toNat ((wrap64 (x6 + 1)) : Int).toNat).size ≤ 9223372036854775807 then (if ((x4.extract 0 (bt304.1 : Int).toNat) ++ ((⟨#[97, 98, 99, 100]⟩ : ByteArray).extract (x6 : Int).toNat ((wrap64 (x6 + 1)) : Int).toNat)).size + (x4.extract (bt304.1 : Int).toNat x4.size).size ≤ 9223372036854775807 then (spec_DrawFewestForThree.l1 k (((x4.extract 0 (bt304.1 : Int).toNat) ++ ((⟨#[97, 98, 99, 100]⟩ : ByteArray).extract (x6 : Int).toNat ((wrap64 (x6 + 1)) : Int).toNat)) ++ (x4.extract (bt304.1 : Int).toNat x4.size)) x5 x6 (wrap64 (x7 + 1)) x292000 bt304.2.1 bt304.2.2) else (none)) else (none)) else (none)) else (none)) else (none)) else (none)) else (none))) else (spec_DrawFewestForThree.l0 k x4 (wrap64 (x5 - 1)) x292000 x292001 x292002)
end
def spec_DrawFewestForThree.f (k : Nat) (l0 : List Int) : Option (ByteArray) := (spec_l1Cur_one.f l0 0 0 6).bind fun bt292 => (if bt292.1 = true then ((spec_l1Cur_beads.f k l0 bt292.2.1 bt292.2.2 8).bind fun bt295 => (some bt295.1)) else ((spec_l1Cur_pick.f l0 bt292.2.1 bt292.2.2 4).bind fun bt298 => (spec_DrawFewestForThree.l0 k (⟨#[]⟩ : ByteArray) bt298.1 l0 bt298.2.1 bt298.2.2)))
theorem spec_DrawFewestForThree.mono_l : ∀ k, (∀ y0 y1 y2 y3 y4, LeO (spec_DrawFewestForThree.l0 k y0 y1 y2 y3 y4) (spec_DrawFewestForThree.l0 (k + 1) y0 y1 y2 y3 y4)) ∧ (∀ y0 y1 y2 y3 y4 y5 y6, LeO (spec_DrawFewestForThree.l1 k y0 y1 y2 y3 y4 y5 y6) (spec_DrawFewestForThree.l1 (k + 1) y0 y1 y2 y3 y4 y5 y6))
 | 0 => ⟨fun _ _ _ _ _ r h => by simp [spec_DrawFewestForThree.l0] at h, fun _ _ _ _ _ _ _ r h => by simp [spec_DrawFewestForThree.l1] at h⟩
 | k + 1 => by
  obtain ⟨ih0, ih1⟩ := spec_DrawFewestForThree.mono_l k
  refine ⟨?_, ?_⟩
  ·intro y0 y1 y2 y3 y4
   unfold spec_DrawFewestForThree.l0
   repeat' first
   | with_reducible first | exact ih0 _ _ _ _ _ | exact ih1 _ _ _ _ _ _ _ | exact spec_l1Cur_beads.mono _ _ _ _ _ | exact LeO.refl _ | exact LeO.none _ | refine LeO.ite ?_ ?_ | refine LeO.bind ?_ (fun _ => ?_)
   | exact LeO.none _ | refine LeO.ite ?_ ?_ | refine LeO.bind ?_ (fun _ => ?_)
  ·intro y0 y1 y2 y3 y4 y5 y6
   unfold spec_DrawFewestForThree.l1
   repeat' first
   | with_reducible first | exact ih0 _ _ _ _ _ | exact ih1 _ _ _ _ _ _ _ | exact spec_l1Cur_beads.mono _ _ _ _ _ | exact LeO.refl _ | exact LeO.none _ | refine LeO.ite ?_ ?_ | refine LeO.bind ?_ (fun _ => ?_)
   | exact LeO.none _ | refine LeO.ite ?_ ?_ | refine LeO.bind ?_ (fun _ => ?_)
theorem spec_DrawFewestForThree.mono : ∀ a0 k, LeO (spec_DrawFewestForThree.f k a0) (spec_DrawFewestForThree.f (k + 1) a0) := by
 intro a0 k
 obtain ⟨ih0, ih1⟩ := spec_DrawFewestForThree.mono_l k
 unfold spec_DrawFewestForThree.f
 repeat' first
   | with_reducible first | exact ih0 _ _ _ _ _ | exact ih1 _ _ _ _ _ _ _ | exact spec_l1Cur_beads.mono _ _ _ _ _ | exact LeO.refl _ | exact LeO.none _ | refine LeO.ite ?_ ?_ | refine LeO.bind ?_ (fun _ => ?_)
   | exact LeO.none _ | refine LeO.ite ?_ ?_ | refine LeO.bind ?_ (fun _ => ?_)
theorem spec_DrawFewestForThree.calls (k : Nat) (A0 : Option Addr) (c0 : Nat) (l0 : List Int) (r : ByteArray) (w : World) (hr0 : Kd.C (Kd.int .u8) w A0 l0.length l0) (hc0 : l0.length ≤ c0) (h : spec_DrawFewestForThree.f k l0 = some r) :
  Calls Tryd.prog 28 #[.slice A0 l0.length c0] w fun e w' => e = .returned (.string r) ∧ Below w.heap.size w w' := by
 have hu51 := Tryd.underlying51
 have HR0 := Aside0.mk hr0
 have HC0 := Aside0.mk hc0
 clear hr0 hc0
 have HB := Aside0.mk (Below.refl w.heap.size w)
 have H : ((spec_l1Cur_one.f l0 0 0 6).bind fun bt292 => (if bt292.1 = true then ((spec_l1Cur_beads.f k l0 bt292.2.1 bt292.2.2 8).bind fun bt295 => (some bt295.1)) else ((spec_l1Cur_pick.f l0 bt292.2.1 bt292.2.2 4).bind fun bt298 => (spec_DrawFewestForThree.l0 k (⟨#[]⟩ : ByteArray) bt298.1 l0 bt298.2.1 bt298.2.2)))) = some r := h
 clear h
 obtain ⟨⟨t292, t293, t294⟩, A20, H⟩ := Option.bind_eq_some_iff.mp H
 replace H : (if t292 = true then ((spec_l1Cur_beads.f k l0 t293 t294 8).bind fun bt295 => (some bt295.1)) else ((spec_l1Cur_pick.f l0 t293 t294 4).bind fun bt298 => (spec_DrawFewestForThree.l0 k (⟨#[]⟩ : ByteArray) bt298.1 l0 bt298.2.1 bt298.2.2))) = some r := H
 have A2 := Aside0.mk A20
 clear A20
 by_cases c3 : t292 = true
 ·subst c3
  replace H := IP H
  obtain ⟨⟨t295, t296, t297⟩, A40, H⟩ := Option.bind_eq_some_iff.mp H
  replace H : (some t295) = some r := H
  have A4 := Aside0.mk A40
  clear A40
  obtain rfl := Option.some.inj H
  go_enter Tryd.func28, Tryd.ntmps28
  go_wp2_with (first | ((with_reducible refine gate_dst (N := 11) rfl ?_); refine box_event ?hg (N := 11) ?hd (cs := #[.slice A0 l0.length c0, .int .i64 0, .int .u64 0]) (t := 51) ?hr ?_; (case hd => rfl); (case hg => rfl); (case hr => exact GS); intro gb291 hg w5 hbox hb; have n0_ := Aside0.mk (below_step BB hb); have n1_ := Aside0.mk ((by rw [hg]; exact (below_size BB) : w.heap.size ≤ gb291)); have n2_ := Aside0.mk ((by rw [hg]; exact (below_size BB) : w.heap.size ≤ gb291)); have n3_ := Aside0.mk ((show IsS51 w w5 gb291 l0 0 0 from ⟨A0, c0, hbox, (by rw [hg]; exact (below_size BB) : w.heap.size ≤ gb291), HR0.out⟩)); clear HB; have HB := n0_; have GW291 := n1_; have GE291 := n2_; have HI291 := n3_; clear n0_ n1_ n2_ n3_; clear hb hbox hg) | (go_at_call 46; (with_reducible refine (spec_l1Cur_one.calls gb291 l0 0 0 6 true t293 t294 w _ ?side1 ?side2 A2.out).mono ?_); (case side1 => repeat (first | (with_reducible first | exact HI291.out | apply IsS51.alloc | apply IsS51.drewN | apply IsS51.drew | apply IsS51.set_1 | apply IsS51.set_2) | exact HI291.out)); (case side2 => repeat (first | (with_reducible first | exact HB.out | apply below_alloc | apply pw_below_drewN | apply below_drew1 | refine below_set ?_ (IsS51.ge HI291.out)) | exact HB.out)); rintro e w6 ⟨rfl, hi, hb, hk⟩; have n0_ := Aside0.mk (hb); have n1_ := Aside0.mk (hi); clear HB; clear HI291; have HB := n0_; have HI291 := n1_; clear n0_ n1_; (try clear hb); (try clear hb2); (try clear hk); (try clear hi)) | (go_at_call 44; (with_reducible refine (spec_l1Cur_beads.calls k gb291 l0 t293 t294 8 t295 t296 t297 w _ ?side1 ?side2 A4.out).mono ?_); (case side1 => repeat (first | (with_reducible first | exact HI291.out | apply IsS51.alloc | apply IsS51.drewN | apply IsS51.drew | apply IsS51.set_1 | apply IsS51.set_2) | exact HI291.out)); (case side2 => repeat (first | (with_reducible first | exact HB.out | apply below_alloc | apply pw_below_drewN | apply below_drew1 | refine below_set ?_ (IsS51.ge HI291.out)) | exact HB.out)); rintro e w7 ⟨rfl, hi, hb, hk⟩; have n0_ := Aside0.mk (hb); have n1_ := Aside0.mk (hi); clear HB; clear HI291; have HB := n0_; have HI291 := n1_; clear n0_ n1_; (try clear hb); (try clear hb2); (try clear hk); (try clear hi)))
  repeat (go_quiet (first | ((with_reducible refine gate_dst (N := 11) rfl ?_); refine box_event ?hg (N := 11) ?hd (cs := #[.slice A0 l0.length c0, .int .i64 0, .int .u64 0]) (t := 51) ?hr ?_; (case hd => rfl); (case hg => rfl); (case hr => exact GS); intro gb291 hg w5 hbox hb; have n0_ := Aside0.mk (below_step BB hb); have n1_ := Aside0.mk ((by rw [hg]; exact (below_size BB) : w.heap.size ≤ gb291)); have n2_ := Aside0.mk ((by rw [hg]; exact (below_size BB) : w.heap.size ≤ gb291)); have n3_ := Aside0.mk ((show IsS51 w w5 gb291 l0 0 0 from ⟨A0, c0, hbox, (by rw [hg]; exact (below_size BB) : w.heap.size ≤ gb291), HR0.out⟩)); clear HB; have HB := n0_; have GW291 := n1_; have GE291 := n2_; have HI291 := n3_; clear n0_ n1_ n2_ n3_; clear hb hbox hg) | (go_at_call 46; (with_reducible refine (spec_l1Cur_one.calls gb291 l0 0 0 6 true t293 t294 w _ ?side1 ?side2 A2.out).mono ?_); (case side1 => repeat (first | (with_reducible first | exact HI291.out | apply IsS51.alloc | apply IsS51.drewN | apply IsS51.drew | apply IsS51.set_1 | apply IsS51.set_2) | exact HI291.out)); (case side2 => repeat (first | (with_reducible first | exact HB.out | apply below_alloc | apply pw_below_drewN | apply below_drew1 | refine below_set ?_ (IsS51.ge HI291.out)) | exact HB.out)); rintro e w6 ⟨rfl, hi, hb, hk⟩; have n0_ := Aside0.mk (hb); have n1_ := Aside0.mk (hi); clear HB; clear HI291; have HB := n0_; have HI291 := n1_; clear n0_ n1_; (try clear hb); (try clear hb2); (try clear hk); (try clear hi)) | (go_at_call 44; (with_reducible refine (spec_l1Cur_beads.calls k gb291 l0 t293 t294 8 t295 t296 t297 w _ ?side1 ?side2 A4.out).mono ?_); (case side1 => repeat (first | (with_reducible first | exact HI291.out | apply IsS51.alloc | apply IsS51.drewN | apply IsS51.drew | apply IsS51.set_1 | apply IsS51.set_2) | exact HI291.out)); (case side2 => repeat (first | (with_reducible first | exact HB.out | apply below_alloc | apply pw_below_drewN | apply below_drew1 | refine below_set ?_ (IsS51.ge HI291.out)) | exact HB.out)); rintro e w7 ⟨rfl, hi, hb, hk⟩; have n0_ := Aside0.mk (hb); have n1_ := Aside0.mk (hi); clear HB; clear HI291; have HB := n0_; have HI291 := n1_; clear n0_ n1_; (try clear hb); (try clear hb2); (try clear hk); (try clear hi))); try go_wp2_with (first | ((with_reducible refine gate_dst (N := 11) rfl ?_); refine box_event ?hg (N := 11) ?hd (cs := #[.slice A0 l0.length c0, .int .i64 0, .int .u64 0]) (t := 51) ?hr ?_; (case hd => rfl); (case hg => rfl); (case hr => exact GS); intro gb291 hg w5 hbox hb; have n0_ := Aside0.mk (below_step BB hb); have n1_ := Aside0.mk ((by rw [hg]; exact (below_size BB) : w.heap.size ≤ gb291)); have n2_ := Aside0.mk ((by rw [hg]; exact (below_size BB) : w.heap.size ≤ gb291)); have n3_ := Aside0.mk ((show IsS51 w w5 gb291 l0 0 0 from ⟨A0, c0, hbox, (by rw [hg]; exact (below_size BB) : w.heap.size ≤ gb291), HR0.out⟩)); clear HB; have HB := n0_; have GW291 := n1_; have GE291 := n2_; have HI291 := n3_; clear n0_ n1_ n2_ n3_; clear hb hbox hg) | (go_at_call 46; (with_reducible refine (spec_l1Cur_one.calls gb291 l0 0 0 6 true t293 t294 w _ ?side1 ?side2 A2.out).mono ?_); (case side1 => repeat (first | (with_reducible first | exact HI291.out | apply IsS51.alloc | apply IsS51.drewN | apply IsS51.drew | apply IsS51.set_1 | apply IsS51.set_2) | exact HI291.out)); (case side2 => repeat (first | (with_reducible first | exact HB.out | apply below_alloc | apply pw_below_drewN | apply below_drew1 | refine below_set ?_ (IsS51.ge HI291.out)) | exact HB.out)); rintro e w6 ⟨rfl, hi, hb, hk⟩; have n0_ := Aside0.mk (hb); have n1_ := Aside0.mk (hi); clear HB; clear HI291; have HB := n0_; have HI291 := n1_; clear n0_ n1_; (try clear hb); (try clear hb2); (try clear hk); (try clear hi)) | (go_at_call 44; (with_reducible refine (spec_l1Cur_beads.calls k gb291 l0 t293 t294 8 t295 t296 t297 w _ ?side1 ?side2 A4.out).mono ?_); (case side1 => repeat (first | (with_reducible first | exact HI291.out | apply IsS51.alloc | apply IsS51.drewN | apply IsS51.drew | apply IsS51.set_1 | apply IsS51.set_2) | exact HI291.out)); (case side2 => repeat (first | (with_reducible first | exact HB.out | apply below_alloc | apply pw_below_drewN | apply below_drew1 | refine below_set ?_ (IsS51.ge HI291.out)) | exact HB.out)); rintro e w7 ⟨rfl, hi, hb, hk⟩; have n0_ := Aside0.mk (hb); have n1_ := Aside0.mk (hi); clear HB; clear HI291; have HB := n0_; have HI291 := n1_; clear n0_ n1_; (try clear hb); (try clear hb2); (try clear hk); (try clear hi))))
  go_ret
  exact ⟨RE, by repeat (first | (with_reducible first | exact HB.out | apply below_alloc | apply pw_below_drewN | apply below_drew1 | refine below_set ?_ (IsS51.ge HI291.out)) | exact HB.out)⟩
 ·replace c3 := Bool.eq_false_iff.mpr c3
  subst c3
  replace H := IN H
  obtain ⟨⟨t298, t299, t300⟩, A80, H⟩ := Option.bind_eq_some_iff.mp H
  replace H : (spec_DrawFewestForThree.l0 k (⟨#[]⟩ : ByteArray) t298 l0 t299 t300) = some r := H
  have A8 := Aside0.mk A80
  clear A80
  have H' := Aside0.mk H
  clear H
  go_enter Tryd.func28, Tryd.ntmps28
  go_wp2_with (first | ((with_reducible refine gate_dst (N := 11) rfl ?_); refine box_event ?hg (N := 11) ?hd (cs := #[.slice A0 l0.length c0, .int .i64 0, .int .u64 0]) (t := 51) ?hr ?_; (case hd => rfl); (case hg => rfl); (case hr => exact GS); intro gb291 hg w9 hbox hb; have n0_ := Aside0.mk (below_step BB hb); have n1_ := Aside0.mk ((by rw [hg]; exact (below_size BB) : w.heap.size ≤ gb291)); have n2_ := Aside0.mk ((by rw [hg]; exact (below_size BB) : w.heap.size ≤ gb291)); have n3_ := Aside0.mk ((show IsS51 w w9 gb291 l0 0 0 from ⟨A0, c0, hbox, (by rw [hg]; exact (below_size BB) : w.heap.size ≤ gb291), HR0.out⟩)); clear HB; have HB := n0_; have GW291 := n1_; have GE291 := n2_; have HI291 := n3_; clear n0_ n1_ n2_ n3_; clear hb hbox hg) | (go_at_call 46; (with_reducible refine (spec_l1Cur_one.calls gb291 l0 0 0 6 false t293 t294 w _ ?side1 ?side2 A2.out).mono ?_); (case side1 => repeat (first | (with_reducible first | exact HI291.out | apply IsS51.alloc | apply IsS51.drewN | apply IsS51.drew | apply IsS51.set_1 | apply IsS51.set_2) | exact HI291.out)); (case side2 => repeat (first | (with_reducible first | exact HB.out | apply below_alloc | apply pw_below_drewN | apply below_drew1 | refine below_set ?_ (IsS51.ge HI291.out)) | exact HB.out)); rintro e w10 ⟨rfl, hi, hb, hk⟩; have n0_ := Aside0.mk (hb); have n1_ := Aside0.mk (hi); clear HB; clear HI291; have HB := n0_; have HI291 := n1_; clear n0_ n1_; (try clear hb); (try clear hb2); (try clear hk); (try clear hi)) | (go_at_call 45; (with_reducible refine (spec_l1Cur_pick.calls gb291 l0 t293 t294 4 t298 t299 t300 w _ ?side1 ?side2 A8.out).mono ?_); (case side1 => repeat (first | (with_reducible first | exact HI291.out | apply IsS51.alloc | apply IsS51.drewN | apply IsS51.drew | apply IsS51.set_1 | apply IsS51.set_2) | exact HI291.out)); (case side2 => repeat (first | (with_reducible first | exact HB.out | apply below_alloc | apply pw_below_drewN | apply below_drew1 | refine below_set ?_ (IsS51.ge HI291.out)) | exact HB.out)); rintro e w11 ⟨rfl, hi, hb, hk⟩; have n0_ := Aside0.mk (hb); have n1_ := Aside0.mk (hi); clear HB; clear HI291; have HB := n0_; have HI291 := n1_; clear n0_ n1_; (try clear hb); (try clear hb2); (try clear hk); (try clear hi)))
  repeat (go_quiet (first | ((with_reducible refine gate_dst (N := 11) rfl ?_); refine box_event ?hg (N := 11) ?hd (cs := #[.slice A0 l0.length c0, .int .i64 0, .int .u64 0]) (t := 51) ?hr ?_; (case hd => rfl); (case hg => rfl); (case hr => exact GS); intro gb291 hg w9 hbox hb; have n0_ := Aside0.mk (below_step BB hb); have n1_ := Aside0.mk ((by rw [hg]; exact (below_size BB) : w.heap.size ≤ gb291)); have n2_ := Aside0.mk ((by rw [hg]; exact (below_size BB) : w.heap.size ≤ gb291)); have n3_ := Aside0.mk ((show IsS51 w w9 gb291 l0 0 0 from ⟨A0, c0, hbox, (by rw [hg]; exact (below_size BB) : w.heap.size ≤ gb291), HR0.out⟩)); clear HB; have HB := n0_; have GW291 := n1_; have GE291 := n2_; have HI291 := n3_; clear n0_ n1_ n2_ n3_; clear hb hbox hg) | (go_at_call 46; (with_reducible refine (spec_l1Cur_one.calls gb291 l0 0 0 6 false t293 t294 w _ ?side1 ?side2 A2.out).mono ?_); (case side1 => repeat (first | (with_reducible first | exact HI291.out | apply IsS51.alloc | apply IsS51.drewN | apply IsS51.drew | apply IsS51.set_1 | apply IsS51.set_2) | exact HI291.out)); (case side2 => repeat (first | (with_reducible first | exact HB.out | apply below_alloc | apply pw_below_drewN | apply below_drew1 | refine below_set ?_ (IsS51.ge HI291.out)) | exact HB.out)); rintro e w10 ⟨rfl, hi, hb, hk⟩; have n0_ := Aside0.mk (hb); have n1_ := Aside0.mk (hi); clear HB; clear HI291; have HB := n0_; have HI291 := n1_; clear n0_ n1_; (try clear hb); (try clear hb2); (try clear hk); (try clear hi)) | (go_at_call 45; (with_reducible refine (spec_l1Cur_pick.calls gb291 l0 t293 t294 4 t298 t299 t300 w _ ?side1 ?side2 A8.out).mono ?_); (case side1 => repeat (first | (with_reducible first | exact HI291.out | apply IsS51.alloc | apply IsS51.drewN | apply IsS51.drew | apply IsS51.set_1 | apply IsS51.set_2) | exact HI291.out)); (case side2 => repeat (first | (with_reducible first | exact HB.out | apply below_alloc | apply pw_below_drewN | apply below_drew1 | refine below_set ?_ (IsS51.ge HI291.out)) | exact HB.out)); rintro e w11 ⟨rfl, hi, hb, hk⟩; have n0_ := Aside0.mk (hb); have n1_ := Aside0.mk (hi); clear HB; clear HI291; have HB := n0_; have HI291 := n1_; clear n0_ n1_; (try clear hb); (try clear hb2); (try clear hk); (try clear hi))); try go_wp2_with (first | ((with_reducible refine gate_dst (N := 11) rfl ?_); refine box_event ?hg (N := 11) ?hd (cs := #[.slice A0 l0.length c0, .int .i64 0, .int .u64 0]) (t := 51) ?hr ?_; (case hd => rfl); (case hg => rfl); (case hr => exact GS); intro gb291 hg w9 hbox hb; have n0_ := Aside0.mk (below_step BB hb); have n1_ := Aside0.mk ((by rw [hg]; exact (below_size BB) : w.heap.size ≤ gb291)); have n2_ := Aside0.mk ((by rw [hg]; exact (below_size BB) : w.heap.size ≤ gb291)); have n3_ := Aside0.mk ((show IsS51 w w9 gb291 l0 0 0 from ⟨A0, c0, hbox, (by rw [hg]; exact (below_size BB) : w.heap.size ≤ gb291), HR0.out⟩)); clear HB; have HB := n0_; have GW291 := n1_; have GE291 := n2_; have HI291 := n3_; clear n0_ n1_ n2_ n3_; clear hb hbox hg) | (go_at_call 46; (with_reducible refine (spec_l1Cur_one.calls gb291 l0 0 0 6 false t293 t294 w _ ?side1 ?side2 A2.out).mono ?_); (case side1 => repeat (first | (with_reducible first | exact HI291.out | apply IsS51.alloc | apply IsS51.drewN | apply IsS51.drew | apply IsS51.set_1 | apply IsS51.set_2) | exact HI291.out)); (case side2 => repeat (first | (with_reducible first | exact HB.out | apply below_alloc | apply pw_below_drewN | apply below_drew1 | refine below_set ?_ (IsS51.ge HI291.out)) | exact HB.out)); rintro e w10 ⟨rfl, hi, hb, hk⟩; have n0_ := Aside0.mk (hb); have n1_ := Aside0.mk (hi); clear HB; clear HI291; have HB := n0_; have HI291 := n1_; clear n0_ n1_; (try clear hb); (try clear hb2); (try clear hk); (try clear hi)) | (go_at_call 45; (with_reducible refine (spec_l1Cur_pick.calls gb291 l0 t293 t294 4 t298 t299 t300 w _ ?side1 ?side2 A8.out).mono ?_); (case side1 => repeat (first | (with_reducible first | exact HI291.out | apply IsS51.alloc | apply IsS51.drewN | apply IsS51.drew | apply IsS51.set_1 | apply IsS51.set_2) | exact HI291.out)); (case side2 => repeat (first | (with_reducible first | exact HB.out | apply below_alloc | apply pw_below_drewN | apply below_drew1 | refine below_set ?_ (IsS51.ge HI291.out)) | exact HB.out)); rintro e w11 ⟨rfl, hi, hb, hk⟩; have n0_ := Aside0.mk (hb); have n1_ := Aside0.mk (hi); clear HB; clear HI291; have HB := n0_; have HI291 := n1_; clear n0_ n1_; (try clear hb); (try clear hb2); (try clear hk); (try clear hi))))
  go_loopg [4, 5] k (fun kq v4 v5 w' => ∃ (x4_1 : ByteArray) (x5_1 : Int) (x292001_1 : Int) (x292002_1 : Int), v4 = .string x4_1 ∧ v5 = .int .i64 x5_1 ∧ Aside0 (spec_DrawFewestForThree.l0 kq x4_1 x5_1 l0 x292001_1 x292002_1 = some r) ∧ Aside0 (kq ≤ k) ∧ Aside0 (IsS51 w w' gb291 l0 x292001_1 x292002_1) ∧ Aside0 (Below w.heap.size w w'))
  case atStart => exact ⟨((⟨#[]⟩ : ByteArray)), (t298), (t299), (t300), RF, RF, H', ⟨Nat.le_refl _⟩, ⟨by repeat (first | (with_reducible first | exact HI291.out | apply IsS51.alloc | apply IsS51.drewN | apply IsS51.drew | apply IsS51.set_1 | apply IsS51.set_2) | exact HI291.out)⟩, ⟨by repeat (first | (with_reducible first | exact HB.out | apply below_alloc | apply pw_below_drewN | apply below_drew1 | refine below_set ?_ (IsS51.ge HI291.out)) | exact HB.out)⟩⟩
  case round =>
   clear H'
   try clear c2
   try clear p2
   try clear c3
   try clear p6
   obtain ⟨x4_1, x5_1, x292001_1, x292002_1, rfl, rfl, HA, HK1, HI291, HB⟩ := hrel
   cases gk with
   | zero => exact absurd HA.out (by simp [spec_DrawFewestForThree.l0])
   | succ k1 =>
    have H := HA.out
    clear HA
    simp only [spec_DrawFewestForThree.l0] at H
    by_cases c12 : x5_1 > 0
    ·rw [if_pos c12] at H
     have c12b0 : decide (0 < x5_1) = true := decide_eq_true c12
     clear c12
     obtain ⟨⟨t301, t302, t303⟩, A130, H⟩ := Option.bind_eq_some_iff.mp H
     replace H : (spec_DrawFewestForThree.l1 k1 x4_1 x5_1 t301 0 l0 t302 t303) = some r := H
     have A13 := Aside0.mk A130
     clear A130
     have H' := Aside0.mk H
     clear H
     go_wp2_with (first | (go_at_call 45; (with_reducible refine (spec_l1Cur_pick.calls gb291 l0 x292001_1 x292002_1 4 t301 t302 t303 w _ ?side1 ?side2 A13.out).mono ?_); (case side1 => repeat (first | (with_reducible first | exact HI291.out | apply IsS51.alloc | apply IsS51.drewN | apply IsS51.drew | apply IsS51.set_1 | apply IsS51.set_2) | exact HI291.out)); (case side2 => repeat (first | (with_reducible first | exact HB.out | apply below_alloc | apply pw_below_drewN | apply below_drew1 | refine below_set ?_ (IsS51.ge HI291.out)) | exact HB.out)); rintro e w14 ⟨rfl, hi, hb, hk⟩; have n0_ := Aside0.mk (hb); have n1_ := Aside0.mk (hi); clear HB; clear HI291; have HB := n0_; have HI291 := n1_; clear n0_ n1_; (try clear hb); (try clear hb2); (try clear hk); (try clear hi)))
     repeat (go_quiet (first | (go_at_call 45; (with_reducible refine (spec_l1Cur_pick.calls gb291 l0 x292001_1 x292002_1 4 t301 t302 t303 w _ ?side1 ?side2 A13.out).mono ?_); (case side1 => repeat (first | (with_reducible first | exact HI291.out | apply IsS51.alloc | apply IsS51.drewN | apply IsS51.drew | apply IsS51.set_1 | apply IsS51.set_2) | exact HI291.out)); (case side2 => repeat (first | (with_reducible first | exact HB.out | apply below_alloc | apply pw_below_drewN | apply below_drew1 | refine below_set ?_ (IsS51.ge HI291.out)) | exact HB.out)); rintro e w14 ⟨rfl, hi, hb, hk⟩; have n0_ := Aside0.mk (hb); have n1_ := Aside0.mk (hi); clear HB; clear HI291; have HB := n0_; have HI291 := n1_; clear n0_ n1_; (try clear hb); (try clear hb2); (try clear hk); (try clear hi))); try go_wp2_with (first | (go_at_call 45; (with_reducible refine (spec_l1Cur_pick.calls gb291 l0 x292001_1 x292002_1 4 t301 t302 t303 w _ ?side1 ?side2 A13.out).mono ?_); (case side1 => repeat (first | (with_reducible first | exact HI291.out | apply IsS51.alloc | apply IsS51.drewN | apply IsS51.drew | apply IsS51.set_1 | apply IsS51.set_2) | exact HI291.out)); (case side2 => repeat (first | (with_reducible first | exact HB.out | apply below_alloc | apply pw_below_drewN | apply below_drew1 | refine below_set ?_ (IsS51.ge HI291.out)) | exact HB.out)); rintro e w14 ⟨rfl, hi, hb, hk⟩; have n0_ := Aside0.mk (hb); have n1_ := Aside0.mk (hi); clear HB; clear HI291; have HB := n0_; have HI291 := n1_; clear n0_ n1_; (try clear hb); (try clear hb2); (try clear hk); (try clear hi))))
     go_loopg [4, 7] k1 (fun kq v4 v7 w' => ∃ (x4_2 : ByteArray) (x7_2 : Int) (x292001_2 : Int) (x292002_2 : Int), v4 = .string x4_2 ∧ v7 = .int .i64 x7_2 ∧ Aside0 (spec_DrawFewestForThree.l1 kq x4_2 x5_1 t301 x7_2 l0 x292001_2 x292002_2 = some r) ∧ Aside0 (kq ≤ k1) ∧ Aside0 (IsS51 w w' gb291 l0 x292001_2 x292002_2) ∧ Aside0 (Below w.heap.size w w'))
     case atStart => exact ⟨(x4_1), (0), (t302), (t303), RF, RF, H', ⟨Nat.le_refl _⟩, ⟨by repeat (first | (with_reducible first | exact HI291.out | apply IsS51.alloc | apply IsS51.drewN | apply IsS51.drew | apply IsS51.set_1 | apply IsS51.set_2) | exact HI291.out)⟩, ⟨by repeat (first | (with_reducible first | exact HB.out | apply below_alloc | apply pw_below_drewN | apply below_drew1 | refine below_set ?_ (IsS51.ge HI291.out)) | exact HB.out)⟩⟩
     case round =>
      clear H'
      try clear c1
      try clear c2
      try clear p2
      try clear c3
      try clear p6
      try clear c12
      try clear c12b0
      try clear p2
      try clear p6
      obtain ⟨x4_2, x7_2, x292001_2, x292002_2, rfl, rfl, HA, HK2, HI291, HB⟩ := hrel
      cases gk with
      | zero => exact absurd HA.out (by simp [spec_DrawFewestForThree.l1])
      | succ k2 =>
       have H := HA.out
       clear HA
       simp only [spec_DrawFewestForThree.l1] at H
       by_cases c15 : x7_2 < 3
       ·rw [if_pos c15] at H
        have c15b0 : decide (x7_2 < 3) = true := decide_eq_true c15
        clear c15
        obtain ⟨⟨t304, t305, t306⟩, A160, H⟩ := Option.bind_eq_some_iff.mp H
        replace H : (if 0 ≤ t304 then (if t304 ≤ (x4_2.size : Int) then (if 0 ≤ t301 then (if t301 ≤ (wrap64 (t301 + 1)) then (if (wrap64 (t301 + 1)) ≤ 4 then (if (x4_2.extract 0 (t304 : Int).toNat).size + ((⟨#[97, 98, 99, 100]⟩ : ByteArray).extract (t301 : Int).toNat ((wrap64 (t301 + 1)) : Int).toNat).size ≤ 9223372036854775807 then (if ((x4_2.extract 0 (t304 : Int).toNat) ++ ((⟨#[97, 98, 99, 100]⟩ : ByteArray).extract (t301 : Int).toNat ((wrap64 (t301 + 1)) : Int).toNat)).size + (x4_2.extract (t304 : Int).toNat x4_2.size).size ≤ 9223372036854775807 then (spec_DrawFewestForThree.l1 k2 (((x4_2.extract 0 (t304 : Int).toNat) ++ ((⟨#[97, 98, 99, 100]⟩ : ByteArray).extract (t301 : Int).toNat ((wrap64 (t301 + 1)) : Int).toNat)) ++ (x4_2.extract (t304 : Int).toNat x4_2.size)) x5_1 t301 (wrap64 (x7_2 + 1)) l0 t305 t306) else (none)) else (none)) else (none)) else (none)) else (none)) else (none)) else (none)) = some r := H
        have A16 := Aside0.mk A160
        clear A160
        by_cases c17 : 0 ≤ t304
        ·rw [if_pos c17] at H
         have c17b0 := eq_true c17
         have c17b1 : decide (0 ≤ t304) = true := decide_eq_true c17
         clear c17
         by_cases c18 : t304 ≤ (x4_2.size : Int)
         ·rw [if_pos c18] at H
          have c18b0 := eq_true c18
          have c18b1 : decide (t304 ≤ (x4_2.size : Int)) = true := decide_eq_true c18
          clear c18
          by_cases c19 : 0 ≤ t301
          ·rw [if_pos c19] at H
           have c19b0 := eq_true c19
           have c19b1 : decide (0 ≤ t301) = true := decide_eq_true c19
           clear c19
           by_cases c20 : t301 ≤ (wrap64 (t301 + 1))
           ·rw [if_pos c20] at H
            have c20b0 := eq_true c20
            have c20b1 : decide (t301 ≤ (wrap64 (t301 + 1))) = true := decide_eq_true c20
            by_cases c21 : (wrap64 (t301 + 1)) ≤ 4
            ·rw [if_pos c21] at H
             have c21b0 := eq_true c21
             have c21b1 : decide ((wrap64 (t301 + 1)) ≤ 4) = true := decide_eq_true c21
             by_cases c22 : (x4_2.extract 0 (t304 : Int).toNat).size + ((⟨#[97, 98, 99, 100]⟩ : ByteArray).extract (t301 : Int).toNat ((wrap64 (t301 + 1)) : Int).toNat).size ≤ 9223372036854775807
             ·rw [if_pos c22] at H
              have c22b0 := eq_true c22
              have c22b1 : decide ((x4_2.extract 0 (t304 : Int).toNat).size + ((⟨#[97, 98, 99, 100]⟩ : ByteArray).extract (t301 : Int).toNat ((wrap64 (t301 + 1)) : Int).toNat).size ≤ 9223372036854775807) = true := decide_eq_true c22
              try have c22b2 : (9223372036854775807 < (x4_2.extract 0 (t304 : Int).toNat).size + ((⟨#[97, 98, 99, 100]⟩ : ByteArray).extract (t301 : Int).toNat ((wrap64 (t301 + 1)) : Int).toNat).size) = False := eq_false (Nat.not_lt.2 c22)
              have c23b0 := eq_true (of_decide_eq_true AS : 0 ≤ t304)
              have c24b0 := eq_true (of_decide_eq_true AS : t304 ≤ (x4_2.size : Int))
              by_cases c25 : ((x4_2.extract 0 (t304 : Int).toNat) ++ ((⟨#[97, 98, 99, 100]⟩ : ByteArray).extract (t301 : Int).toNat ((wrap64 (t301 + 1)) : Int).toNat)).size + (x4_2.extract (t304 : Int).toNat x4_2.size).size ≤ 9223372036854775807
              ·rw [if_pos c25] at H
               have c25b0 := eq_true c25
               have c25b1 : decide (((x4_2.extract 0 (t304 : Int).toNat) ++ ((⟨#[97, 98, 99, 100]⟩ : ByteArray).extract (t301 : Int).toNat ((wrap64 (t301 + 1)) : Int).toNat)).size + (x4_2.extract (t304 : Int).toNat x4_2.size).size ≤ 9223372036854775807) = true := decide_eq_true c25
               try have c25b2 : (9223372036854775807 < ((x4_2.extract 0 (t304 : Int).toNat) ++ ((⟨#[97, 98, 99, 100]⟩ : ByteArray).extract (t301 : Int).toNat ((wrap64 (t301 + 1)) : Int).toNat)).size + (x4_2.extract (t304 : Int).toNat x4_2.size).size) = False := eq_false (Nat.not_lt.2 c25)
               have H' := Aside0.mk H
               clear H
               go_wp2_with (first | (go_at_call 45; (with_reducible refine (spec_l1Cur_pick.calls gb291 l0 x292001_2 x292002_2 (wrap64 ((x4_2.size : Int) + 1)) t304 t305 t306 w _ ?side1 ?side2 A16.out).mono ?_); (case side1 => repeat (first | (with_reducible first | exact HI291.out | apply IsS51.alloc | apply IsS51.drewN | apply IsS51.drew | apply IsS51.set_1 | apply IsS51.set_2) | exact HI291.out)); (case side2 => repeat (first | (with_reducible first | exact HB.out | apply below_alloc | apply pw_below_drewN | apply below_drew1 | refine below_set ?_ (IsS51.ge HI291.out)) | exact HB.out)); rintro e w26 ⟨rfl, hi, hb, hk⟩; have n0_ := Aside0.mk (hb); have n1_ := Aside0.mk (hi); clear HB; clear HI291; have HB := n0_; have HI291 := n1_; clear n0_ n1_; (try clear hb); (try clear hb2); (try clear hk); (try clear hi)))
               repeat (go_quiet (first | (go_at_call 45; (with_reducible refine (spec_l1Cur_pick.calls gb291 l0 x292001_2 x292002_2 (wrap64 ((x4_2.size : Int) + 1)) t304 t305 t306 w _ ?side1 ?side2 A16.out).mono ?_); (case side1 => repeat (first | (with_reducible first | exact HI291.out | apply IsS51.alloc | apply IsS51.drewN | apply IsS51.drew | apply IsS51.set_1 | apply IsS51.set_2) | exact HI291.out)); (case side2 => repeat (first | (with_reducible first | exact HB.out | apply below_alloc | apply pw_below_drewN | apply below_drew1 | refine below_set ?_ (IsS51.ge HI291.out)) | exact HB.out)); rintro e w26 ⟨rfl, hi, hb, hk⟩; have n0_ := Aside0.mk (hb); have n1_ := Aside0.mk (hi); clear HB; clear HI291; have HB := n0_; have HI291 := n1_; clear n0_ n1_; (try clear hb); (try clear hb2); (try clear hk); (try clear hi))); try go_wp2_with (first | (go_at_call 45; (with_reducible refine (spec_l1Cur_pick.calls gb291 l0 x292001_2 x292002_2 (wrap64 ((x4_2.size : Int) + 1)) t304 t305 t306 w _ ?side1 ?side2 A16.out).mono ?_); (case side1 => repeat (first | (with_reducible first | exact HI291.out | apply IsS51.alloc | apply IsS51.drewN | apply IsS51.drew | apply IsS51.set_1 | apply IsS51.set_2) | exact HI291.out)); (case side2 => repeat (first | (with_reducible first | exact HB.out | apply below_alloc | apply pw_below_drewN | apply below_drew1 | refine below_set ?_ (IsS51.ge HI291.out)) | exact HB.out)); rintro e w26 ⟨rfl, hi, hb, hk⟩; have n0_ := Aside0.mk (hb); have n1_ := Aside0.mk (hi); clear HB; clear HI291; have HB := n0_; have HI291 := n1_; clear n0_ n1_; (try clear hb); (try clear hb2); (try clear hk); (try clear hi))))
               go_roundg k2
               case measure => have := HK1.out; have := HK2.out; omega
               case rel => exact ⟨(((x4_2.extract 0 (t304 : Int).toNat) ++ ((⟨#[97, 98, 99, 100]⟩ : ByteArray).extract (t301 : Int).toNat ((wrap64 (t301 + 1)) : Int).toNat)) ++ (x4_2.extract (t304 : Int).toNat x4_2.size)), (wrap64 (x7_2 + 1)), (t305), (t306), RF, RF, H', ⟨by have := HK1.out; have := HK2.out; omega⟩, ⟨by repeat (first | (with_reducible first | exact HI291.out | apply IsS51.alloc | apply IsS51.drewN | apply IsS51.drew | apply IsS51.set_1 | apply IsS51.set_2) | exact HI291.out)⟩, ⟨by repeat (first | (with_reducible first | exact HB.out | apply below_alloc | apply pw_below_drewN | apply below_drew1 | refine below_set ?_ (IsS51.ge HI291.out)) | exact HB.out)⟩⟩
              ·rw [if_neg c25] at H
               cases H
             ·rw [if_neg c22] at H
              cases H
            ·rw [if_neg c21] at H
             cases H
           ·rw [if_neg c20] at H
            cases H
          ·rw [if_neg c19] at H
           cases H
         ·rw [if_neg c18] at H
          cases H
        ·rw [if_neg c17] at H
         cases H
       ·rw [if_neg c15] at H
        have c15b0 : decide (x7_2 < 3) = false := decide_eq_false c15
        clear c15
        have H' := Aside0.mk H
        clear H
        go_wp2
        repeat (go_quiet (fail); try go_wp2)
        go_roundg k2
        case measure => have := HK1.out; have := HK2.out; omega
        case rel => exact ⟨(x4_2), (wrap64 (x5_1 - 1)), (x292001_2), (x292002_2), RF, RF, H', ⟨by have := HK1.out; have := HK2.out; omega⟩, ⟨by repeat (first | (with_reducible first | exact HI291.out | apply IsS51.alloc | apply IsS51.drewN | apply IsS51.drew | apply IsS51.set_1 | apply IsS51.set_2) | exact HI291.out)⟩, ⟨by repeat (first | (with_reducible first | exact HB.out | apply below_alloc | apply pw_below_drewN | apply below_drew1 | refine below_set ?_ (IsS51.ge HI291.out)) | exact HB.out)⟩⟩
    ·rw [if_neg c12] at H
     have c12b0 : decide (0 < x5_1) = false := decide_eq_false c12
     clear c12
     obtain rfl := Option.some.inj H
     go_wp2
     repeat (go_quiet (fail); try go_wp2)
     go_ret
     exact ⟨RE, by repeat (first | (with_reducible first | exact HB.out | apply below_alloc | apply pw_below_drewN | apply below_drew1 | refine below_set ?_ (IsS51.ge HI291.out)) | exact HB.out)⟩

/-! ### impl_FewestForThree_1: function 62 -/
def impl_FewestForThree_1.f (a0 : Int) : Option (Bool) := some ((Int.tmod a0 3) != 0)
theorem impl_FewestForThree_1.calls (a0 : Int) (r : Bool) (w : World) (h : impl_FewestForThree_1.f a0 = some r) :
  Calls Tryd.prog 62 #[.int .i64 a0] w fun e w' => e = .returned (.bool r) ∧ Drawn0 w w' := by
 have H : (some ((Int.tmod a0 3) != 0)) = some r := h
 clear h
 obtain rfl := Option.some.inj H
 go_enter Tryd.func62, Tryd.ntmps62
 go_wp2
 go_ret
 exact ⟨RF, DR⟩

/-! ### slices_IndexFunc_int_int__impl_FewestForThree_1: function 69 -/
def slices_IndexFunc_int_int__impl_FewestForThree_1.l0 : Nat → List Int → Int → Int → Option (Int)
 | 0, _, _, _ => none
 | k + 1, x0, x7, x8 => if x8 < x7 then (if 0 ≤ x8 then (if x8 < (x0.length : Int) then ((impl_FewestForThree_1.f (rd x0 x8)).bind fun t308 => (if t308 = true then (some x8) else (slices_IndexFunc_int_int__impl_FewestForThree_1.l0 k x0 x7 (wrap64 (x8 + 1))))) else (none)) else (none)) else (some (-1))
def slices_IndexFunc_int_int__impl_FewestForThree_1.f (k : Nat) (l0 : List Int)  : Option (Int) := slices_IndexFunc_int_int__impl_FewestForThree_1.l0 k l0 (l0.length : Int) 0
theorem slices_IndexFunc_int_int__impl_FewestForThree_1.mono_l : ∀ k, (∀ y0 y1 y2, LeO (slices_IndexFunc_int_int__impl_FewestForThree_1.l0 k y0 y1 y2) (slices_IndexFunc_int_int__impl_FewestForThree_1.l0 (k + 1) y0 y1 y2))
 | 0 => fun _ _ _ r h => by simp [slices_IndexFunc_int_int__impl_FewestForThree_1.l0] at h
 | k + 1 => by
  have ih0 := slices_IndexFunc_int_int__impl_FewestForThree_1.mono_l k
  ·intro y0 y1 y2
   unfold slices_IndexFunc_int_int__impl_FewestForThree_1.l0
   repeat' first
   | with_reducible first | exact ih0 _ _ _ | exact LeO.refl _ | exact LeO.none _ | refine LeO.ite ?_ ?_ | refine LeO.bind ?_ (fun _ => ?_)
   | exact LeO.none _ | refine LeO.ite ?_ ?_ | refine LeO.bind ?_ (fun _ => ?_)
theorem slices_IndexFunc_int_int__impl_FewestForThree_1.mono : ∀ a0 k, LeO (slices_IndexFunc_int_int__impl_FewestForThree_1.f k a0) (slices_IndexFunc_int_int__impl_FewestForThree_1.f (k + 1) a0) := by
 intro a0 k
 have ih0 := slices_IndexFunc_int_int__impl_FewestForThree_1.mono_l k
 unfold slices_IndexFunc_int_int__impl_FewestForThree_1.f
 repeat' first
   | with_reducible first | exact ih0 _ _ _ | exact LeO.refl _ | exact LeO.none _ | refine LeO.ite ?_ ?_ | refine LeO.bind ?_ (fun _ => ?_)
   | exact LeO.none _ | refine LeO.ite ?_ ?_ | refine LeO.bind ?_ (fun _ => ?_)
theorem slices_IndexFunc_int_int__impl_FewestForThree_1.calls (k : Nat) (A0 : Option Addr) (c0 : Nat) (l0 : List Int)  (r : Int) (w : World) (hr0 : Kd.C (Kd.int .i64) w A0 l0.length l0) (hc0 : l0.length ≤ c0) (h : slices_IndexFunc_int_int__impl_FewestForThree_1.f k l0 = some r) :
  Calls Tryd.prog 69 #[.slice A0 l0.length c0, .func (.func 62) #[] #[]] w fun e w' => e = .returned (.int .i64 r) ∧ Drawn0 w w' := by
 have HR0 := Aside0.mk hr0
 have HC0 := Aside0.mk hc0
 clear hr0 hc0
 have H : (slices_IndexFunc_int_int__impl_FewestForThree_1.l0 k l0 (l0.length : Int) 0) = some r := h
 clear h
 have H' := Aside0.mk H
 clear H
 go_enter Tryd.func69, Tryd.ntmps69
 go_wp2
 go_loopg [8] k (fun kq v8 w' => ∃ (x8_1 : Int), v8 = .int .i64 x8_1 ∧ Aside0 (slices_IndexFunc_int_int__impl_FewestForThree_1.l0 kq l0 (l0.length : Int) x8_1 = some r) ∧ Aside0 (kq ≤ k) ∧ Drawn0 w w')
 case atStart => exact ⟨(0), RF, H', ⟨Nat.le_refl _⟩, by repeat (first | exact Drawn0.refl _ | apply Drawn0.step)⟩
 case round =>
  clear H'
  try clear p2
  obtain ⟨x8_1, rfl, HA, HK1, ⟨m1, rfl⟩⟩ := hrel
  cases gk with
  | zero => exact absurd HA.out (by simp [slices_IndexFunc_int_int__impl_FewestForThree_1.l0])
  | succ k1 =>
   have H := HA.out
   clear HA
   simp only [slices_IndexFunc_int_int__impl_FewestForThree_1.l0] at H
   by_cases c3 : x8_1 < (l0.length : Int)
   ·rw [if_pos c3] at H
    have c3b0 : decide (x8_1 < (l0.length : Int)) = true := decide_eq_true c3
    clear c3
    by_cases c4 : 0 ≤ x8_1
    ·rw [if_pos c4] at H
     have c4b0 : decide (0 ≤ x8_1) = true := decide_eq_true c4
     clear c4
     by_cases c5 : x8_1 < (l0.length : Int)
     ·rw [if_pos c5] at H
      have c5b0 : decide (x8_1 < (l0.length : Int)) = true := decide_eq_true c5
      clear c5
      obtain ⟨t308, A60, H⟩ := Option.bind_eq_some_iff.mp H
      have A6 := Aside0.mk A60
      clear A60
      by_cases c7 : t308 = true
      ·subst c7
       replace H := IP H
       obtain rfl := Option.some.inj H
       have p307 : 0 ≤ (x8_1 : Int) := of_decide_eq_true AS
       have q307 : x8_1 < (l0.length : Int) := of_decide_eq_true AS
       obtain ⟨ad307, e307, hx307_0⟩ := Kd.at_int HR0.out x8_1 p307 q307
       cases e307
       replace p307 := eq_true p307
       replace q307 := eq_true q307
       go_wp2_with (first | (go_at_call 62; (with_reducible refine (impl_FewestForThree_1.calls (rd l0 x8_1) true _ A6.out).mono ?_); rintro e w' ⟨rfl, ⟨nd, rfl⟩⟩))
       go_ret
       exact ⟨RF, DR⟩
      ·replace c7 := Bool.eq_false_iff.mpr c7
       subst c7
       replace H := IN H
       have H' := Aside0.mk H
       clear H
       have p307 : 0 ≤ (x8_1 : Int) := of_decide_eq_true AS
       have q307 : x8_1 < (l0.length : Int) := of_decide_eq_true AS
       obtain ⟨ad307, e307, hx307_0⟩ := Kd.at_int HR0.out x8_1 p307 q307
       cases e307
       replace p307 := eq_true p307
       replace q307 := eq_true q307
       go_wp2_with (first | (go_at_call 62; (with_reducible refine (impl_FewestForThree_1.calls (rd l0 x8_1) false _ A6.out).mono ?_); rintro e w' ⟨rfl, ⟨nd, rfl⟩⟩))
       go_roundg k1
       case measure => have := HK1.out; omega
       case rel => exact ⟨(wrap64 (x8_1 + 1)), RF, H', ⟨by have := HK1.out; omega⟩, by repeat (first | exact Drawn0.refl _ | apply Drawn0.step)⟩
     ·rw [if_neg c5] at H
      cases H
    ·rw [if_neg c4] at H
     cases H
   ·rw [if_neg c3] at H
    have c3b0 : decide (x8_1 < (l0.length : Int)) = false := decide_eq_false c3
    clear c3
    obtain rfl := Option.some.inj H
    go_wp2
    go_ret
    exact ⟨RF, DR⟩

/-! ### slices_ContainsFunc_int_int__impl_FewestForThree_1: function 39 -/
def slices_ContainsFunc_int_int__impl_FewestForThree_1.f (k : Nat) (l0 : List Int)  : Option (Bool) := (slices_IndexFunc_int_int__impl_FewestForThree_1.f k l0).bind fun t309 => (some (decide (t309 ≥ 0)))
theorem slices_ContainsFunc_int_int__impl_FewestForThree_1.mono : ∀ a0 k, LeO (slices_ContainsFunc_int_int__impl_FewestForThree_1.f k a0) (slices_ContainsFunc_int_int__impl_FewestForThree_1.f (k + 1) a0) := by
 intro a0 k
 unfold slices_ContainsFunc_int_int__impl_FewestForThree_1.f
 repeat' first
   | with_reducible first | exact slices_IndexFunc_int_int__impl_FewestForThree_1.mono _ _ | exact LeO.refl _ | exact LeO.none _ | refine LeO.ite ?_ ?_ | refine LeO.bind ?_ (fun _ => ?_)
   | exact LeO.none _ | refine LeO.ite ?_ ?_ | refine LeO.bind ?_ (fun _ => ?_)
theorem slices_ContainsFunc_int_int__impl_FewestForThree_1.calls (k : Nat) (A0 : Option Addr) (c0 : Nat) (l0 : List Int)  (r : Bool) (w : World) (hr0 : Kd.C (Kd.int .i64) w A0 l0.length l0) (hc0 : l0.length ≤ c0) (h : slices_ContainsFunc_int_int__impl_FewestForThree_1.f k l0 = some r) :
  Calls Tryd.prog 39 #[.slice A0 l0.length c0, .func (.func 62) #[] #[]] w fun e w' => e = .returned (.bool r) ∧ Drawn0 w w' := by
 have HR0 := Aside0.mk hr0
 have HC0 := Aside0.mk hc0
 clear hr0 hc0
 have H : ((slices_IndexFunc_int_int__impl_FewestForThree_1.f k l0).bind fun t309 => (some (decide (t309 ≥ 0)))) = some r := h
 clear h
 obtain ⟨t309, A30, H⟩ := Option.bind_eq_some_iff.mp H
 have A3 := Aside0.mk A30
 clear A30
 obtain rfl := Option.some.inj H
 go_enter Tryd.func39, Tryd.ntmps39
 go_wp2_with (first | ((with_reducible refine gate_callee (f := 69) rfl ?_); refine goesL_ (some 7) rfl rfl Tryd.func69 (by kernel_rfl) rfl #[.slice A0 l0.length c0, .func (.func 62) #[] #[]] rfl TA ?_; (with_reducible refine (slices_IndexFunc_int_int__impl_FewestForThree_1.calls k _ _ l0  t309 _ ?side1 ?side2 A3.out).mono ?_); (case side1 => exact CW HR0.out); (case side2 => exact HC0.out); rintro e w' ⟨rfl, ⟨nd, rfl⟩⟩; refine ⟨_, rfl, ?_⟩))
 go_ret
 exact ⟨RF, DR⟩

/-! ### impl_FewestForThree: function 29 (given) -/
def impl_FewestForThree.g (k : Nat) (a0 : ByteArray) (cs : List Int) : Option (Int × Bool) := (slices_ContainsFunc_int_int__impl_FewestForThree_1.f k cs).bind fun b => if b = true then some (0, false) else if goodThree a0 cs = true then some (nl a0.size (ksOf a0) 0 (thirds cs), true) else none
def impl_FewestForThree.f (k : Nat) (a0 : ByteArray) : Option (Int × Bool) := (impl_IsNecklace.f a0).bind fun t => if t = true then (if (a0.size : Int) > 9 then some (0, false) else (impl_counts.f k a0).bind fun cs => impl_FewestForThree.g k a0 cs) else some (0, false)
theorem impl_FewestForThree.mono : ∀ a0 k, LeO (impl_FewestForThree.f k a0) (impl_FewestForThree.f (k + 1) a0) := by
 intro a0 k
 unfold impl_FewestForThree.f impl_FewestForThree.g
 exact LeO.bind (LeO.refl _) (fun _ => LeO.ite (LeO.ite (LeO.refl _) (LeO.bind (impl_counts.mono _ _) (fun _ => LeO.bind (slices_ContainsFunc_int_int__impl_FewestForThree_1.mono _ _) (fun _ => LeO.refl _)))) (LeO.refl _))
set_option maxHeartbeats 4000000 in
set_option maxRecDepth 100000 in
theorem impl_FewestForThree.calls (k : Nat) (a0 : ByteArray) (r1 : Int) (r2 : Bool) (w : World) (h : impl_FewestForThree.f k a0 = some (r1, r2)) :
  Calls Tryd.prog 29 #[.string a0] w fun e w' => e = .returned (.tuple #[.int .i64 r1, .bool r2]) ∧ Below w.heap.size w w' := by
 unfold impl_FewestForThree.f at h
 obtain ⟨t, ht, H⟩ := Option.bind_eq_some_iff.mp h
 clear h
 have HT := Aside0.mk ht
 clear ht
 cases t with
 | false =>
  rw [if_neg (by decide)] at H
  obtain ⟨rfl, rfl⟩ := Prod.mk.injEq .. ▸ Option.some.inj H
  clear H
  go_enter Tryd.func29, Tryd.ntmps29
  go_wp2_with (first
   | (go_at_call 41; refine (impl_IsNecklace.calls a0 false _ HT.out).mono ?_; rintro e w1 ⟨rfl, hb⟩; have HB1 := Aside0.mk hb; clear hb))
  go_ret2
  exact ⟨rfl, HB1.out⟩
 | true =>
  rw [if_pos rfl] at H
  by_cases h9 : (a0.size : Int) > 9
  ·rw [if_pos h9] at H
   obtain ⟨rfl, rfl⟩ := Prod.mk.injEq .. ▸ Option.some.inj H
   clear H
   go_enter Tryd.func29, Tryd.ntmps29
   go_wp2_with (first
    | (go_at_call 41; refine (impl_IsNecklace.calls a0 true _ HT.out).mono ?_; rintro e w1 ⟨rfl, hb⟩; have HB1 := Aside0.mk hb; clear hb))
   go_ret2
   exact ⟨rfl, HB1.out⟩
  ·rw [if_neg h9] at H
   obtain ⟨cs, hcs, H2⟩ := Option.bind_eq_some_iff.mp H
   clear H
   have HCS := Aside0.mk hcs
   clear hcs
   unfold impl_FewestForThree.g at H2
   obtain ⟨b, hb, H3⟩ := Option.bind_eq_some_iff.mp H2
   clear H2
   have HBB := Aside0.mk hb
   clear hb
   cases b with
   | true =>
    rw [if_pos rfl] at H3
    obtain ⟨rfl, rfl⟩ := Prod.mk.injEq .. ▸ Option.some.inj H3
    clear H3
    go_enter Tryd.func29, Tryd.ntmps29
    go_wp2_with (first
     | (go_at_call 41; refine (impl_IsNecklace.calls a0 true _ HT.out).mono ?_; rintro e w1 ⟨rfl, hb⟩; have HB1 := Aside0.mk hb; clear hb)
     | (go_at_call 43; refine (impl_counts.calls k a0 cs _ HCS.out).mono ?_; rintro e w2 ⟨v0, rfl, hR, hb⟩; have HB2 := Aside0.mk (HB1.out.trans (hb.mono HB1.out.size)); obtain ⟨A0, c0, rfl, hc0, hC⟩ := Kd.R_reads hR; have HC := Aside0.mk hC; have HC0 := Aside0.mk hc0; clear hb hR hC hc0)
     | (go_at_call 39; refine (slices_ContainsFunc_int_int__impl_FewestForThree_1.calls k A0 c0 cs true _ HC.out HC0.out HBB.out).mono ?_; rintro e w3 ⟨rfl, ⟨nd, rfl⟩⟩))
    go_ret2
    exact ⟨rfl, by first | exact HB2.out | exact pw_below_drewN HB2.out _⟩
   | false =>
    rw [if_neg (by decide)] at H3
    by_cases hg : goodThree a0 cs = true
    ·rw [if_pos hg] at H3
     obtain ⟨rfl, rfl⟩ := Prod.mk.injEq .. ▸ Option.some.inj H3
     clear H3
     have HG := Aside0.mk hg
     have hlen : (cs.length : Int) = 4 := by rw [(good_parts hg).2.2.1]; rfl
     have HLEN := Aside0.mk (good_parts hg).2.2.1
     have hcf : ∀ A0 c0 W, Kd.C (Kd.int .i64) W A0 cs.length cs → cs.length ≤ c0 → Calls Tryd.prog 39 #[.slice A0 4 c0, .func (.func 62) #[] #[]] W fun e w' => e = .returned (.bool false) ∧ Drawn0 W w' := fun A0 c0 W h1 h2 => by
      have := slices_ContainsFunc_int_int__impl_FewestForThree_1.calls k A0 c0 cs false W h1 h2 HBB.out
      rw [HLEN.out] at this
      exact this
     have HCF := Aside0.mk hcf
     clear hg hlen hcf
     go_enter Tryd.func29, Tryd.ntmps29
     go_wp2_with (first
      | (go_at_call 41; refine (impl_IsNecklace.calls a0 true _ HT.out).mono ?_; rintro e w1 ⟨rfl, hb⟩; have HB1 := Aside0.mk hb; clear hb)
      | (go_at_call 43; refine (impl_counts.calls k a0 cs _ HCS.out).mono ?_; rintro e w2 ⟨v0, rfl, hR, hb⟩; have HB2 := Aside0.mk (HB1.out.trans (hb.mono HB1.out.size)); obtain ⟨A0, c0, rfl, hc0, hC⟩ := Kd.R_reads hR; have HC := Aside0.mk hC; have HC0 := Aside0.mk hc0; rw [HLEN.out]; clear hb hR hC hc0)
      | (go_at_call 39; refine (HCF.out A0 c0 _ HC.out HC0.out).mono ?_; rintro e w3 ⟨rfl, ⟨nd, rfl⟩⟩)
      | ((with_reducible refine gate_dst (N := 4) rfl ?_); refine box_event ?hg (N := 4) ?hd (cs := #[.slice none 0 0, .slice none 0 0, .slice none 0 0]) (t := 58) ?hr ?_; (case hd => rfl); (case hg => rfl); (case hr => exact GS); intro gb hg w4 hbox hb; have HBX := Aside0.mk hb; have HX := Aside0.mk hbox; have HGB := Aside0.mk hg; clear hb hbox hg; have z0 := ((blk_cell HX.out 0).trans rfl : w4.cell? ⟨gb, 0, none⟩ = some (.slice none 0 0)); have z1 := ((blk_cell HX.out 1).trans rfl : w4.cell? ⟨gb, 1, none⟩ = some (.slice none 0 0)); have z2 := ((blk_cell HX.out 2).trans rfl : w4.cell? ⟨gb, 2, none⟩ = some (.slice none 0 0)); have f0 := frozen_no (i := 0) HX.out; have f1 := frozen_no (i := 1) HX.out; have f2 := frozen_no (i := 2) HX.out))
     have hstart : ∀ W : World, W = _ → Arr w W gb 0 (fun _ => 0) (fun _ => 0) (thirds cs) := fun W hW => hW ▸ Arr.start (below_setCell (below_setCell (below_setCell ((pw_below_drewN HB2.out nd).trans (HBX.out.mono HB2.out.size)) (by rw [HGB.out]; exact HB2.out.size)) (by rw [HGB.out]; exact HB2.out.size)) (by rw [HGB.out]; exact HB2.out.size)) (by rw [HGB.out]; exact HB2.out.size) (set_at (set_at (set_at HX.out 0 (.slice none 0 0)) 1 (.slice none 0 0)) 2 (.slice none 0 0))
     have HST := Aside0.mk hstart
     clear hstart z0 z1 z2 f0 f1 f2
     go_loopg [21] 3 (fun gg s21 wr => ∃ p : Nat, s21 = .int .i64 p ∧ p ≤ 3 ∧ 3 - p ≤ gg ∧ ∃ bk cp, Aside0 (Arr w wr gb p bk cp (thirds cs)))
     case atStart => exact ⟨0, rfl, by omega, by omega, _, _, Aside0.mk (by first | exact HST.out _ rfl | exact (HST.out _ rfl).drewN _)⟩
     case round =>
      obtain ⟨p, rfl, hp, hgg, bk, cp, hA⟩ := hrel
      by_cases hlt : p < 3
      ·have hz : ((p : Int) < 3) = True := eq_true (by omega)
       have hz0 : (0 ≤ (p : Int)) = True := eq_true (by omega)
       have hnext := wrap_nat (i := p) (by omega)
       have HGG := Aside0.mk hgg
       have HP := Aside0.mk hlt
       have HN := Aside0.mk hnext
       clear hgg hp hlt
       go_wp2_with (first
        | (go_at_call 43; refine (impl_counts.calls k a0 cs _ HCS.out).mono ?_; rintro e w5 ⟨v1, rfl, hR, hb⟩; obtain ⟨b, cap, cur, rfl, hlo, hblk, _, _, _, hc⟩ := ownI hR (by rw [HLEN.out]; omega); have HLO := Aside0.mk hlo; have HB5 := Aside0.mk hb; have HK := Aside0.mk (hA.out.kept hb); have cB := HK.out.cell HP.out; have fB := frozen_no (i := p) HK.out.box; have hM := hA.out.enter (cap := cap) HP.out hb hlo hblk (fun j hj => hc j _ (good_at HG.out hj).1); rw [HLEN.out]; have HM := Aside0.mk hM; have cM := hM.boxcell HP.out; clear hb hR hc hlo hblk hM))
       go_loopg [32] 4 (fun g2 s32 wi => ∃ i : Nat, s32 = .int .i64 i ∧ i ≤ 4 ∧ 4 - i ≤ g2 ∧ Aside0 (Mid w wi gb p b i cap bk cp cs))
       case atStart => exact ⟨0, rfl, by omega, by omega, Aside0.mk (by first | exact HM.out | exact HM.out.drewN _)⟩
       case round =>
        obtain ⟨i, rfl, hi, hg2, hMi⟩ := hrel
        by_cases hil : i < 4
        ·have hy : ((i : Int) < 4) = True := eq_true (by omega)
         have hy0 : (0 ≤ (i : Int)) = True := eq_true (by omega)
         have hnext2 := wrap_nat (i := i) (by omega)
         have cM := hMi.out.boxcell HP.out
         have cC := hMi.out.cell hil
         have fC := hMi.out.thawed
         have hS := hMi.out.step hil
         have hr := good_at HG.out hil
         have hq := wrap_tdiv hr.2.1 hr.2.2
         have HS := Aside0.mk hS
         have HG2 := Aside0.mk hg2
         have HI := Aside0.mk hil
         have HN2 := Aside0.mk hnext2
         clear hS hr hg2 hi hil
         go_wp2
         go_roundg (4 - (i + 1))
         case measure => exact meas4 HI.out HG2.out
         case rel => exact ⟨i + 1, by first | rfl | rw [HN2.out], HI.out, Nat.le_refl _, Aside0.mk (by first | exact HS.out | exact HS.out.drewN _)⟩
        ·have hi4 : i = 4 := by omega
         subst hi4
         have hD := Aside0.mk hMi.out.done
         clear hi hg2 hil
         go_wp2
         go_roundg (3 - (p + 1))
         case measure => exact meas3 HP.out HGG.out
         case rel => exact ⟨p + 1, by first | rfl | rw [HN.out], HP.out, Nat.le_refl _, _, _, Aside0.mk (by first | exact hD.out | exact hD.out.drewN _)⟩
      ·have hp3 : p = 3 := by omega
       subst hp3
       have hF := Aside0.mk hA.out.full
       have hA3 := Aside0.mk hA.out.some3.full
       have hsh := sharing_calls a0 (ksOf a0) good_len (by have := (good_parts HG.out).1; omega) (good_ks HG.out) bk cp a0.size 0 (by omega) 0 (-1) (thirds cs) wr (.inl ⟨rfl, rfl⟩) hA.out.some3.full (thirds_range HG.out)
       rw [List.drop_zero] at hsh
       unfold agg3 at hsh
       have HSH := Aside0.mk hsh
       have z0 := ((blk_cell hF.out 0).trans rfl : wr.cell? ⟨gb, 0, none⟩ = some (.slice (some ⟨bk 0, 0, none⟩) 4 (cp 0)))
       have z1 := ((blk_cell hF.out 1).trans rfl : wr.cell? ⟨gb, 1, none⟩ = some (.slice (some ⟨bk 1, 0, none⟩) 4 (cp 1)))
       have z2 := ((blk_cell hF.out 2).trans rfl : wr.cell? ⟨gb, 2, none⟩ = some (.slice (some ⟨bk 2, 0, none⟩) 4 (cp 2)))
       clear hp hgg hlt hsh
       go_wp2_with (first
        | (go_at_call 63; refine HSH.out.mono ?_; rintro e w6 ⟨rfl, hb6⟩; have HB6 := Aside0.mk hb6; clear hb6))
       go_ret2
       exact ⟨rfl, hA.out.below.trans (HB6.out.mono hA.out.below.size)⟩
    ·rw [if_neg hg] at H3; cases H3

/-! ### spec_FewestForThree: function 30 (given) -/
def badThird (cs : List Int) : Bool := cs.any fun x => Int.tmod x 3 != 0
def spec_FewestForThree.g (a0 : ByteArray) (cs : List Int) : Option (Int × Bool) := if goodThree a0 cs = true then some (if badThird cs = true then (0, false) else (nl a0.size (ksOf a0) 0 (thirds cs), true)) else none
def spec_FewestForThree.f (k : Nat) (a0 : ByteArray) : Option (Int × Bool) := (spec_nlGood.f k a0).bind fun t => if t = true then (if (a0.size : Int) > 9 then some (0, false) else (spec_nlCounts.f k a0).bind fun cs => spec_FewestForThree.g a0 cs) else some (0, false)
theorem spec_FewestForThree.mono : ∀ a0 k, LeO (spec_FewestForThree.f k a0) (spec_FewestForThree.f (k + 1) a0) := by
 intro a0 k
 unfold spec_FewestForThree.f
 exact LeO.bind (spec_nlGood.mono _ _) (fun _ => LeO.ite (LeO.ite (LeO.refl _) (LeO.bind (spec_nlCounts.mono _ _) (fun _ => LeO.refl _))) (LeO.refl _))
theorem bad_at {cs : List Int} {i : Nat} {x : Int} (h : cs[i]? = some x) (hm : ¬ Int.tmod x 3 = 0) : badThird cs = true := by
 unfold badThird
 exact List.any_eq_true.2 ⟨x, List.mem_of_getElem? h, bne_iff_ne.2 hm⟩
theorem bad_none {cs : List Int} (h4 : cs.length = 4) (hv : ∀ k : Nat, k < 4 → cs[k]? = some (rd cs (k : Int))) (h : ∀ j : Nat, j < 4 → Int.tmod (rd cs (j : Int)) 3 = 0) : badThird cs = false := by
 unfold badThird
 rw [List.any_eq_false]
 intro x hx
 obtain ⟨j, hj, e⟩ := List.getElem_of_mem hx
 have h1 := hv j (by omega)
 rw [List.getElem?_eq_getElem hj] at h1
 have h2 : x = rd cs (j : Int) := by rw [← e]; exact Option.some.inj h1
 rw [h2, h j (by omega)]
 decide
set_option maxHeartbeats 4000000 in
set_option maxRecDepth 100000 in
theorem spec_FewestForThree.calls (k : Nat) (a0 : ByteArray) (r1 : Int) (r2 : Bool) (w : World) (h : spec_FewestForThree.f k a0 = some (r1, r2)) :
  Calls Tryd.prog 30 #[.string a0] w fun e w' => e = .returned (.tuple #[.int .i64 r1, .bool r2]) ∧ Below w.heap.size w w' := by
 unfold spec_FewestForThree.f at h
 obtain ⟨t, ht, H⟩ := Option.bind_eq_some_iff.mp h
 clear h
 have HT := Aside0.mk ht
 clear ht
 cases t with
 | false =>
  rw [if_neg (by decide)] at H
  obtain ⟨rfl, rfl⟩ := Prod.mk.injEq .. ▸ Option.some.inj H
  clear H
  go_enter Tryd.func30, Tryd.ntmps30
  go_wp2_with (first
   | (go_at_call 48; refine (spec_nlGood.calls k a0 false _ HT.out).mono ?_; rintro e w1 ⟨rfl, ⟨nd, rfl⟩⟩))
  go_ret2
  exact ⟨rfl, pw_below_drewN (Below.refl _ _) _⟩
 | true =>
  rw [if_pos rfl] at H
  by_cases h9 : (a0.size : Int) > 9
  ·rw [if_pos h9] at H
   obtain ⟨rfl, rfl⟩ := Prod.mk.injEq .. ▸ Option.some.inj H
   clear H
   go_enter Tryd.func30, Tryd.ntmps30
   go_wp2_with (first
    | (go_at_call 48; refine (spec_nlGood.calls k a0 true _ HT.out).mono ?_; rintro e w1 ⟨rfl, ⟨nd, rfl⟩⟩))
   go_ret2
   exact ⟨rfl, pw_below_drewN (Below.refl _ _) _⟩
  ·rw [if_neg h9] at H
   obtain ⟨cs, hcs, H2⟩ := Option.bind_eq_some_iff.mp H
   clear H
   have HCS := Aside0.mk hcs
   clear hcs
   unfold spec_FewestForThree.g at H2
   by_cases hg : goodThree a0 cs = true
   ·rw [if_pos hg] at H2
    have HRR := Aside0.mk (Option.some.inj H2)
    clear H2
    have HG := Aside0.mk hg
    have HLEN := Aside0.mk (good_parts hg).2.2.1
    have hi1 : (Tryd.prog.info? 3).map (fun i => (i.zero, i.size, i.bytes)) = some (some (.int .i64 0), 1, 8) := by kernel_rfl
    have hi2 : (Tryd.prog.info? 24).map (fun i => (i.zero, i.size, i.bytes)) = some (some (.slice none 0 0), 1, 24) := by kernel_rfl
    have HI1 := Aside0.mk hi1
    have HI2 := Aside0.mk hi2
    clear hg hi1 hi2
    go_enter Tryd.func30, Tryd.ntmps30
    go_wp2_with (first
     | (go_at_call 48; refine (spec_nlGood.calls k a0 true _ HT.out).mono ?_; rintro e w1 ⟨rfl, ⟨nd, rfl⟩⟩))
    go_loopg [4, 5] 3 (fun gg s4 s5 wr => ∃ (p : Nat) (v : Value) (bk cp : Nat → Nat), s4 = v ∧ s5 = .int .i64 p ∧ p ≤ 3 ∧ 3 - p ≤ gg ∧ Aside0 (Lst w wr v p bk cp (thirds cs)) ∧ Aside0 (0 < p → badThird cs = false))
    case atStart => exact ⟨0, _, fun _ => 0, fun _ => 0, rfl, rfl, by omega, by omega, Aside0.mk (Lst.start (by first | exact Below.refl _ _ | exact pw_below_drewN (Below.refl _ _) _)), Aside0.mk (fun h => absurd h (Nat.lt_irrefl 0))⟩
    case round =>
     obtain ⟨p, v, bk, cp, rfl, rfl, hp, hgg, hL, hnb⟩ := hrel
     by_cases hlt : p < 3
     ·have hz : ((p : Int) < 3) = True := eq_true (by omega)
      have hnext := wrap_nat (i := p) (by omega)
      have HGG := Aside0.mk hgg
      have HP := Aside0.mk hlt
      have HN := Aside0.mk hnext
      clear hgg hp hlt
      go_wp2_with (first
       | (go_at_call 57; refine (spec_nlCounts.calls k a0 cs _ HCS.out).mono ?_; rintro e w5 ⟨v1, rfl, hR, hb⟩; obtain ⟨b, ccap, cur, rfl, hlo, hblk, _, _, _, hc⟩ := ownI hR (by rw [HLEN.out]; omega); have HB5 := Aside0.mk hb; have HBLK := Aside0.mk hblk; have HCC := Aside0.mk hc; rw [HLEN.out]; clear hb hR hc hlo hblk))
      go_loopg [6, 24] 4 (fun g2 s6 s24 wi => ∃ (i : Nat) (u : Value), s6 = u ∧ s24 = .int .i64 i ∧ i ≤ 4 ∧ 4 - i ≤ g2 ∧ Aside0 (wi.ownsRow w5.heap.size 3 1 u (tk cs i).length (nums .i64 (tk cs i))) ∧ Aside0 (Below w5.heap.size w5 wi) ∧ Aside0 (∀ j : Nat, j < i → Int.tmod (rd cs (j : Int)) 3 = 0))
      case atStart => exact ⟨0, _, rfl, rfl, by omega, by omega, Aside0.mk (World.ownsRow_nil _ _ _ _), Aside0.mk (by first | exact Below.refl _ _ | exact pw_below_drewN (Below.refl _ _) _), Aside0.mk (fun j hj => absurd hj (Nat.not_lt_zero j))⟩
      case round =>
       obtain ⟨i, u, rfl, rfl, hi, hg2, hO, hB, hM⟩ := hrel
       by_cases hil : i < 4
       ·have hy : ((i : Int) < 4) = True := eq_true (by omega)
        have hy0 : (0 ≤ (i : Int)) = True := eq_true (by omega)
        have hnext2 := wrap_nat (i := i) (by omega)
        have hr := good_at HG.out hil
        have cC : wr.cell? ⟨b, i, none⟩ = some (.int .i64 (rd cs (i : Int))) := by
         refine (hB.out.cell (p := ⟨b, i, none⟩) (blk_lt HBLK.out)).trans ?_
         rw [blk_cell HBLK.out i]
         exact HCC.out i _ hr.1
        have hq := wrap_tdiv hr.2.1 hr.2.2
        have HV := Aside0.mk hr.1
        have HG2 := Aside0.mk hg2
        have HI := Aside0.mk hil
        have HN2 := Aside0.mk hnext2
        clear hr hg2 hi hil
        by_cases hm : Int.tmod (rd cs (i : Int)) 3 = 0
        ·have HMM := Aside0.mk hm
         have hbytes : ((tk cs i).length + 1) * 8 ≤ 140737488355328 := by rw [tk_len (by rw [HLEN.out]; have := HI.out; omega)]; have := HI.out; omega
         have HBY := Aside0.mk hbytes
         clear hbytes
         go_wp2_with (first
          | ((with_reducible refine gate_builtin (b := .append) (xs := #[.tmp 31, .tmp 34]) rfl ?_); at_builtin; refine print_append_num (w0 := w5) w5.heap.size rfl (.tmp 31) (.tmp 34) 24 3 .i64 8 rfl Tryd.underlying24 HI1.out (by decide) _ (tk cs i) (Int.tdiv (rd cs (i : Int)) 3) rfl rfl hO.out hB.out hB.out.size HBY.out ?_; intro u7 w7 ho7 hb7 _ _; have HO7 := Aside0.mk ho7; have HB7 := Aside0.mk hb7; clear ho7 hb7))
         go_roundg (4 - (i + 1))
         case measure => exact meas4 HI.out HG2.out
         case rel => exact ⟨i + 1, u7, rfl, by first | rfl | rw [HN2.out], HI.out, Nat.le_refl _, Aside0.mk (by rw [← tk_succ HV.out]; exact HO7.out), Aside0.mk HB7.out, Aside0.mk (fun j hj => by rcases Nat.lt_or_ge j i with h3 | h3; exact hM.out j h3; have e : j = i := Nat.le_antisymm (Nat.lt_succ_iff.1 hj) h3; rw [e]; exact HMM.out)⟩
        ·have hbad := bad_at HV.out hm
         have hm2 : (Int.tmod (rd cs (i : Int)) 3 != 0) = true := bne_iff_ne.2 hm
         have hR := HRR.out
         rw [if_pos hbad] at hR
         obtain ⟨rfl, rfl⟩ := Prod.mk.inj hR
         clear hR
         go_wp2
         go_ret2
         exact ⟨rfl, ((hL.out.below.trans (HB5.out.mono hL.out.below.size))).trans (hB.out.mono (Nat.le_trans hL.out.below.size HB5.out.size))⟩
       ·have hi4 : i = 4 := by omega
        subst hi4
        obtain ⟨g, cap, cur2, rfl, hglo, hgb, hgc⟩ := row_form (p := p) hO.out HLEN.out (fun k hk => (good_at HG.out hk).1)
        have hL2 := hL.out.kept (HB5.out.trans (hB.out.mono HB5.out.size))
        have HL2 := Aside0.mk hL2
        have HGB := Aside0.mk hgb
        have HGC := Aside0.mk hgc
        have HGL := Aside0.mk hglo
        have hbytes : ((rowVs bk cp p).length + 1) * 24 ≤ 140737488355328 := by rw [rowVs_len]; have := HP.out; omega
        have HBY := Aside0.mk hbytes
        clear hL2 hgb hgc hglo hbytes hi hg2 hil
        go_wp2_with (first
         | ((with_reducible refine gate_builtin (b := .append) (xs := #[.tmp 37, .tmp 39]) rfl ?_); at_builtin; refine print_append (w0 := w) w.heap.size rfl (.tmp 37) (.tmp 39) 60 24 (.slice none 0 0) 24 rfl Tryd.underlying60 HI2.out rfl (by decide) _ (rowVs bk cp p) (.slice (some ⟨g, 0, none⟩) 4 cap) rfl rfl rfl HL2.out.own HL2.out.below HL2.out.below.size HBY.out ?_; intro v7 w7 ho7 hb7 hgr7 hat7; have HO7 := Aside0.mk ho7; have HB7 := Aside0.mk hb7; have HGR := Aside0.mk hgr7; have HAT := Aside0.mk hat7; clear ho7 hb7 hgr7 hat7))
        go_roundg (3 - (p + 1))
        case measure => exact meas3 HP.out HGG.out
        case rel => exact ⟨p + 1, v7, putAt bk p g, putAt cp p cap, rfl, by first | rfl | rw [HN.out], HP.out, Nat.le_refl _, Aside0.mk (hL.out.push (HB5.out.trans (hB.out.mono HB5.out.size)) (Nat.le_trans HB5.out.size HGL.out) HGB.out HGC.out HO7.out HB7.out HGR.out HAT.out), Aside0.mk (fun _ => bad_none HLEN.out (fun k hk => (good_at HG.out hk).1) hM.out)⟩
     ·have hp3 : p = 3 := by omega
      subst hp3
      obtain ⟨lb, cap, rfl, hne, hleft⟩ := hL.out.full
      have hth := nlThree_calls a0 (ksOf a0) good_len (by have := (good_parts HG.out).1; omega) (good_ks HG.out) lb 0 cap bk cp hne a0.size 0 (by omega) 0 (thirds cs) wr hL.out.some3.full (thirds_range HG.out) hleft
      rw [List.drop_zero] at hth
      have HTH := Aside0.mk hth
      have hR := HRR.out
      rw [hnb.out (by omega), if_neg (by decide)] at hR
      obtain ⟨rfl, rfl⟩ := Prod.mk.inj hR
      clear hp hgg hlt hth hne hleft hR
      go_wp2_with (first
       | (go_at_call 64; refine HTH.out.mono ?_; rintro e w6 ⟨rfl, hb6⟩; have HB6 := Aside0.mk hb6; clear hb6))
      go_ret2
      exact ⟨rfl, hL.out.below.trans (HB6.out.mono hL.out.below.size)⟩
   ·rw [if_neg hg] at H2; cases H2

/-! ### impl_ReverseBeads: function 31 (given) -/
def impl_ReverseBeads.f (a0 : ByteArray) : Option (ByteArray × Bool) := (impl_IsNecklace.f a0).bind fun t => if t = true then (if a0.size ≤ 9223372036854775807 then some (⟨a0.data.toList.reverse.toArray⟩, true) else none) else some ((⟨#[]⟩ : ByteArray), false)
def encB (b : UInt8) : Value := .int .u8 (b.toNat : Int)
theorem bytes_holds (w : World) (e : TypeId) (s : ByteArray) : Go.Sort.Holds encB (Go.Lib.bytesWorld w e s) w.heap.size 0 s.data.toList.toArray := by
 intro j hj
 have hj' : j < s.size := by simpa using hj
 have hl : j < s.data.toList.length := by simpa using hj
 refine ⟨?_, ?_⟩
 ·rw [Nat.zero_add, Go.Lib.bytesWorld_cell w e s j hj']
  have : s.data.toList.toArray[j]! = s.data.toList.getD j 0 := by
   rw [List.getD_eq_getElem?_getD, List.getElem?_eq_getElem hl, getElem!_pos s.data.toList.toArray j hj]; simp
  rw [this]; rfl
 ·have h := Go.Lib.bytesWorld_at_new w e s
  have hc : s.size ≤ (Go.Lib.bytesCells w e s).size := by simp [Go.Lib.bytesCells]
  rw [Nat.zero_add]
  unfold World.frozen?
  rw [h]
  simp
  omega
theorem rev_cell (w1 w2 : World) (e : TypeId) (s : ByteArray) (n : Nat) (hw : w2 = Go.Sort.putRow encB (Go.Sort.ahead (Go.Lib.bytesWorld w1 e s) n) w1.heap.size 0 s.data.toList.reverse.toArray) (j : Nat) (hj : j < s.data.toList.reverse.length) :
  w2.cell? ((⟨w1.heap.size, 0, none⟩ : Addr).add j) = some (.int .u8 (s.data.toList.reverse[j].toNat : Int)) := by
 have hb := bytes_holds w1 e s
 have hh : Go.Sort.Holds encB (Go.Sort.ahead (Go.Lib.bytesWorld w1 e s) n) w1.heap.size 0 s.data.toList.toArray := fun i hi => hb i hi
 have := (Go.Sort.holds_putRow encB (Go.Sort.ahead (Go.Lib.bytesWorld w1 e s) n) w1.heap.size 0 s.data.toList.toArray s.data.toList.reverse.toArray hh (by simp) j (by simpa using hj)).1
 rw [← hw] at this
 rw [add_at, this, getElem!_pos s.data.toList.reverse.toArray j (by simpa using hj)]
 simp [encB]
theorem rev_back (w1 w2 : World) (s : ByteArray) (n : Nat) (hw : w2 = Go.Sort.putRow encB (Go.Sort.ahead (Go.Lib.bytesWorld w1 5 s) n) w1.heap.size 0 s.data.toList.reverse.toArray) :
  (convert 22 9 (.slice (some ⟨w1.heap.size, 0, none⟩) s.size (grownCap w1 s.size 0 5))).run Tryd.prog w2 = .ok (.string ⟨s.data.toList.reverse.toArray⟩) w2 := by
 have h := run_convert_bytes_back (P := Tryd.prog) w2 22 9 5 ⟨w1.heap.size, 0, none⟩ (grownCap w1 s.size 0 5) s.data.toList.reverse Tryd.underlying22 Tryd.underlying5 Tryd.underlying9 (rev_cell w1 w2 5 s n hw)
 have z : s.data.toList.reverse.length = s.size := by rw [List.length_reverse]; exact Array.length_toList
 rw [z] at h
 exact h
theorem rev_below {w w1 w2 : World} {e : TypeId} {s : ByteArray} {n : Nat} (hb : Below w.heap.size w w1) (hw : w2 = Go.Sort.putRow encB (Go.Sort.ahead (Go.Lib.bytesWorld w1 e s) n) w1.heap.size 0 s.data.toList.reverse.toArray) : Below w.heap.size w w2 := by
 subst hw
 have hs := hb.size
 have hsz : (Go.Lib.bytesWorld w1 e s).heap.size = w1.heap.size + 1 := Go.Lib.bytesWorld_size w1 e s
 refine ⟨hb.os, hb.tape, hb.output, ?_, fun k hk => ?_⟩
 ·rw [Go.Sort.size_putRow]
  show w.heap.size ≤ (Go.Lib.bytesWorld w1 e s).heap.size
  omega
 ·have h1 : (Go.Sort.putRow encB (Go.Sort.ahead (Go.Lib.bytesWorld w1 e s) n) w1.heap.size 0 s.data.toList.reverse.toArray).heap[k]? = (Go.Lib.bytesWorld w1 e s).heap[k]? := by
   unfold Go.Sort.putRow Go.Sort.mapBlock
   simp [Go.Sort.ahead, Array.getElem?_modify, show w1.heap.size ≠ k by omega]
  rw [h1, Go.Lib.bytesWorld_at_old w1 e s k (by omega)]
  exact hb.block k hk
theorem rev_calls (w1 : World) (a0 : ByteArray) (h : a0.size ≤ 9223372036854775807) : Calls Tryd.prog 65 #[.slice (some ⟨w1.heap.size, 0, none⟩) a0.size (grownCap w1 a0.size 0 5)] (Go.Lib.bytesWorld w1 5 a0) fun e w' =>
  e = .returned (.tuple #[]) ∧ ∃ n, w' = Go.Sort.putRow encB (Go.Sort.ahead (Go.Lib.bytesWorld w1 5 a0) n) w1.heap.size 0 a0.data.toList.reverse.toArray := by
 have z : a0.data.toList.length = a0.size := Array.length_toList
 have := Go.Proofs.AnyE.slices_Reverse Go.Proofs.Tryd.revB encB (fun _ => rfl) w1.heap.size 0 (grownCap w1 a0.size 0 5) a0.data.toList (Go.Lib.bytesWorld w1 5 a0) (bytes_holds w1 5 a0) (by rw [z]; exact h)
 rw [z] at this
 exact this
set_option maxHeartbeats 4000000 in
set_option maxRecDepth 100000 in
theorem impl_ReverseBeads.calls (a0 : ByteArray) (r1 : ByteArray) (r2 : Bool) (w : World) (h : impl_ReverseBeads.f a0 = some (r1, r2)) :
  Calls Tryd.prog 31 #[.string a0] w fun e w' => e = .returned (.tuple #[.string r1, .bool r2]) ∧ Below w.heap.size w w' := by
 unfold impl_ReverseBeads.f at h
 obtain ⟨t, ht, h2⟩ := Option.bind_eq_some_iff.mp h
 have HT := Aside0.mk ht
 clear h ht
 cases t with
 | false =>
  rw [if_neg (by decide)] at h2
  obtain ⟨rfl, rfl⟩ := Prod.mk.injEq .. ▸ Option.some.inj h2
  go_enter Tryd.func31, Tryd.ntmps31
  go_wp2_with (go_at_call 41; refine (impl_IsNecklace.calls a0 false w HT.out).mono ?_; rintro e w1 ⟨rfl, hb⟩; have HB1 := Aside0.mk hb; clear hb)
  go_ret2
  exact ⟨rfl, HB1.out⟩
 | true =>
  rw [if_pos rfl] at h2
  split at h2
  ·rename_i hbig
   obtain ⟨rfl, rfl⟩ := Prod.mk.injEq .. ▸ Option.some.inj h2
   have HBIG := Aside0.mk hbig
   clear h2 hbig
   have conv := fun w : World => Go.Lib.run_convert_string_bytes w 9 22 5 a0 Tryd.underlying9 Tryd.underlying22 Tryd.underlying5
   go_enter Tryd.func31, Tryd.ntmps31
   go_wp2_with (first
    | (go_at_call 41; refine (impl_IsNecklace.calls a0 true w HT.out).mono ?_; rintro e w1 ⟨rfl, hb⟩; have HB1 := Aside0.mk hb; clear hb)
    | (go_at_call 65; refine (rev_calls w1 a0 HBIG.out).mono ?_; rintro e w2 ⟨rfl, n2, hw2⟩; have HW2 := Aside0.mk hw2; have back := rev_back w1 w2 a0 n2 hw2; clear hw2))
   go_ret2
   exact ⟨rfl, rev_below HB1.out HW2.out⟩
  ·cases h2

end Go.Proofs.YtafjjbkkcedgnaaDoor.PFnHalfWindows
