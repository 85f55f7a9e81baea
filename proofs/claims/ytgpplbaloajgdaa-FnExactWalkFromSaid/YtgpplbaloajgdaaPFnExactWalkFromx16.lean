-- Written by a program of this session (wip/tools/pp.sh) out of the translation; Lean checks it.
import Derived.Test.YtgpplbaloajgdaaPFnExactWalkFromx0
import Derived.Test.YtgpplbaloajgdaaPFnExactWalkFromx1
import Derived.Test.YtgpplbaloajgdaaPFnExactWalkFromx7
import Derived.Test.YtgpplbaloajgdaaPFnExactWalkFromx15
namespace Go.Proofs.Ytgpplbaloajgdaa.PFnExactWalkFrom
open Go.RowKit Go.Proofs.YtgpplbaloajgdaaOwn Go.Proofs.YtgpplbaloajgdaaW.PrintWords Go.Proofs.YtgpplbaloajgdaaW.PrintLast Go.Proofs.YtgpplbaloajgdaaW.PrintMore
attribute [local go_sem] max2_int min2_int max_two min_two max_three min_three max_four min_four   -- for this text's walks alone
set_option linter.unusedVariables false
set_option linter.unusedSimpArgs false

/-! ### laws_FnExactWalkFrom: function 4 -/
mutual
def laws_FnExactWalkFrom.j0 : Nat → Int → List Int → Int → Int → List Int → Bool → Bool → List Int → List Int → Bool → Bool → Bool → Option (Bool)
 | 0, _, _, _, _, _, _, _, _, _, _, _, _ => none
 | k + 1, x0, x1, x2, x3, x9, x10, x11, x12, x13, x14, x15, x59 => if x59 = true then (some false) else ((laws_toIntS.f k x1).bind fun t471 => ((laws_eqIntS.f k x12 t471).bind fun t474 => (if t474 = true then ((laws_markIntS.f k x12 1).bind fun bt475 => (if bt475.1 < 0 then (laws_FnExactWalkFrom.j1 k x0 x1 x2 x3 x9 x10 x11 x13 true) else ((laws_eqIntS.f k x13 x9).bind fun t477 => (if t477 = true then (if (x14 != x10) = true then (laws_FnExactWalkFrom.j1 k x0 x1 x2 x3 x9 x10 x11 x13 true) else (laws_FnExactWalkFrom.j1 k x0 x1 x2 x3 x9 x10 x11 x13 (x15 != x11))) else (laws_FnExactWalkFrom.j1 k x0 x1 x2 x3 x9 x10 x11 x13 true))))) else (some false))))
def laws_FnExactWalkFrom.j1 : Nat → Int → List Int → Int → Int → List Int → Bool → Bool → List Int → Bool → Option (Bool)
 | 0, _, _, _, _, _, _, _, _, _ => none
 | k + 1, x0, x1, x2, x3, x9, x10, x11, x13, x85 => if x85 = true then (some false) else ((laws_markIntS.f k x13 1).bind fun bt478 => ((laws_heldIntS.f k bt478.2 1).bind fun t480 => (if t480 < 0 then (some false) else (if t480 = bt478.1 then ((laws_toIntS.f k x1).bind fun t481 => ((impl_WalkFrom.f k x0 t481 x2 x3).bind fun bt484 => ((laws_eqIntS.f k bt484.1 x9).bind fun t489 => (if t489 = true then (if (bt484.2.1 != x10) = true then (laws_FnExactWalkFrom.j2 k bt478.2 bt478.1 true) else (laws_FnExactWalkFrom.j2 k bt478.2 bt478.1 (bt484.2.2 != x11))) else (laws_FnExactWalkFrom.j2 k bt478.2 bt478.1 true))))) else (some false)))))
def laws_FnExactWalkFrom.j2 : Nat → List Int → Int → Bool → Option (Bool)
 | 0, _, _, _ => none
 | k + 1, x13, x17, x120 => if x120 = true then (some false) else ((laws_heldIntS.f k x13 1).bind fun t490 => (if t490 < 0 then (some false) else (if t490 = x17 then (some true) else (some false))))
end
def laws_FnExactWalkFrom.f (k : Nat) (a0 : Int) (l1 : List Int) (a2 : Int) (a3 : Int) : Option (Bool) := if (l1.length : Int) > 1048576 then (some true) else ((laws_toIntS.f k l1).bind fun t454 => ((spec_WalkFrom.f k a0 t454 a2 a3).bind fun bt457 => ((laws_toIntS.f k l1).bind fun t462 => ((impl_WalkFrom.f k a0 t462 a2 a3).bind fun bt465 => ((laws_eqIntS.f k bt465.1 bt457.1).bind fun t470 => (if t470 = true then (if (bt465.2.1 != bt457.2.1) = true then (laws_FnExactWalkFrom.j0 k a0 l1 a2 a3 bt457.1 bt457.2.1 bt457.2.2 t462 bt465.1 bt465.2.1 bt465.2.2 true) else (laws_FnExactWalkFrom.j0 k a0 l1 a2 a3 bt457.1 bt457.2.1 bt457.2.2 t462 bt465.1 bt465.2.1 bt465.2.2 (bt465.2.2 != bt457.2.2))) else (laws_FnExactWalkFrom.j0 k a0 l1 a2 a3 bt457.1 bt457.2.1 bt457.2.2 t462 bt465.1 bt465.2.1 bt465.2.2 true)))))))
theorem laws_FnExactWalkFrom.mono_l : ∀ k, (∀ y0 y1 y2 y3 y4 y5 y6 y7 y8 y9 y10 y11, LeO (laws_FnExactWalkFrom.j0 k y0 y1 y2 y3 y4 y5 y6 y7 y8 y9 y10 y11) (laws_FnExactWalkFrom.j0 (k + 1) y0 y1 y2 y3 y4 y5 y6 y7 y8 y9 y10 y11)) ∧ (∀ y0 y1 y2 y3 y4 y5 y6 y7 y8, LeO (laws_FnExactWalkFrom.j1 k y0 y1 y2 y3 y4 y5 y6 y7 y8) (laws_FnExactWalkFrom.j1 (k + 1) y0 y1 y2 y3 y4 y5 y6 y7 y8)) ∧ (∀ y0 y1 y2, LeO (laws_FnExactWalkFrom.j2 k y0 y1 y2) (laws_FnExactWalkFrom.j2 (k + 1) y0 y1 y2))
 | 0 => ⟨fun _ _ _ _ _ _ _ _ _ _ _ _ r h => by simp [laws_FnExactWalkFrom.j0] at h, fun _ _ _ _ _ _ _ _ _ r h => by simp [laws_FnExactWalkFrom.j1] at h, fun _ _ _ r h => by simp [laws_FnExactWalkFrom.j2] at h⟩
 | k + 1 => by
  obtain ⟨ih0, ih1, ih2⟩ := laws_FnExactWalkFrom.mono_l k
  refine ⟨?_, ?_, ?_⟩
  ·intro y0 y1 y2 y3 y4 y5 y6 y7 y8 y9 y10 y11
   unfold laws_FnExactWalkFrom.j0
   repeat' first
   | (with_reducible exact ih0 _ _ _ _ _ _ _ _ _ _ _ _)
   | (with_reducible exact ih1 _ _ _ _ _ _ _ _ _)
   | (with_reducible exact ih2 _ _ _)
   | (with_reducible exact impl_WalkFrom.mono _ _ _ _ _)
   | (with_reducible exact laws_eqIntS.mono _ _ _)
   | (with_reducible exact laws_heldIntS.mono _ _ _)
   | (with_reducible exact laws_markIntS.mono _ _ _)
   | (with_reducible exact laws_toIntS.mono _ _)
   | (with_reducible exact spec_WalkFrom.mono _ _ _ _ _)
   | (with_reducible exact LeO.refl _)
   | (with_reducible exact LeO.none _)
   | (with_reducible refine LeO.ite ?_ ?_)
   | (with_reducible refine LeO.bind ?_ (fun _ => ?_))
   | exact ih0 _ _ _ _ _ _ _ _ _ _ _ _
   | exact ih1 _ _ _ _ _ _ _ _ _
   | exact ih2 _ _ _
   | exact impl_WalkFrom.mono _ _ _ _ _
   | exact laws_eqIntS.mono _ _ _
   | exact laws_heldIntS.mono _ _ _
   | exact laws_markIntS.mono _ _ _
   | exact laws_toIntS.mono _ _
   | exact spec_WalkFrom.mono _ _ _ _ _
   | exact LeO.none _
   | refine LeO.ite ?_ ?_
   | refine LeO.bind ?_ (fun _ => ?_)
  ·intro y0 y1 y2 y3 y4 y5 y6 y7 y8
   unfold laws_FnExactWalkFrom.j1
   repeat' first
   | (with_reducible exact ih0 _ _ _ _ _ _ _ _ _ _ _ _)
   | (with_reducible exact ih1 _ _ _ _ _ _ _ _ _)
   | (with_reducible exact ih2 _ _ _)
   | (with_reducible exact impl_WalkFrom.mono _ _ _ _ _)
   | (with_reducible exact laws_eqIntS.mono _ _ _)
   | (with_reducible exact laws_heldIntS.mono _ _ _)
   | (with_reducible exact laws_markIntS.mono _ _ _)
   | (with_reducible exact laws_toIntS.mono _ _)
   | (with_reducible exact spec_WalkFrom.mono _ _ _ _ _)
   | (with_reducible exact LeO.refl _)
   | (with_reducible exact LeO.none _)
   | (with_reducible refine LeO.ite ?_ ?_)
   | (with_reducible refine LeO.bind ?_ (fun _ => ?_))
   | exact ih0 _ _ _ _ _ _ _ _ _ _ _ _
   | exact ih1 _ _ _ _ _ _ _ _ _
   | exact ih2 _ _ _
   | exact impl_WalkFrom.mono _ _ _ _ _
   | exact laws_eqIntS.mono _ _ _
   | exact laws_heldIntS.mono _ _ _
   | exact laws_markIntS.mono _ _ _
   | exact laws_toIntS.mono _ _
   | exact spec_WalkFrom.mono _ _ _ _ _
   | exact LeO.none _
   | refine LeO.ite ?_ ?_
   | refine LeO.bind ?_ (fun _ => ?_)
  ·intro y0 y1 y2
   unfold laws_FnExactWalkFrom.j2
   repeat' first
   | (with_reducible exact ih0 _ _ _ _ _ _ _ _ _ _ _ _)
   | (with_reducible exact ih1 _ _ _ _ _ _ _ _ _)
   | (with_reducible exact ih2 _ _ _)
   | (with_reducible exact impl_WalkFrom.mono _ _ _ _ _)
   | (with_reducible exact laws_eqIntS.mono _ _ _)
   | (with_reducible exact laws_heldIntS.mono _ _ _)
   | (with_reducible exact laws_markIntS.mono _ _ _)
   | (with_reducible exact laws_toIntS.mono _ _)
   | (with_reducible exact spec_WalkFrom.mono _ _ _ _ _)
   | (with_reducible exact LeO.refl _)
   | (with_reducible exact LeO.none _)
   | (with_reducible refine LeO.ite ?_ ?_)
   | (with_reducible refine LeO.bind ?_ (fun _ => ?_))
   | exact ih0 _ _ _ _ _ _ _ _ _ _ _ _
   | exact ih1 _ _ _ _ _ _ _ _ _
   | exact ih2 _ _ _
   | exact impl_WalkFrom.mono _ _ _ _ _
   | exact laws_eqIntS.mono _ _ _
   | exact laws_heldIntS.mono _ _ _
   | exact laws_markIntS.mono _ _ _
   | exact laws_toIntS.mono _ _
   | exact spec_WalkFrom.mono _ _ _ _ _
   | exact LeO.none _
   | refine LeO.ite ?_ ?_
   | refine LeO.bind ?_ (fun _ => ?_)
theorem laws_FnExactWalkFrom.mono : ∀ a0 a1 a2 a3 k, LeO (laws_FnExactWalkFrom.f k a0 a1 a2 a3) (laws_FnExactWalkFrom.f (k + 1) a0 a1 a2 a3) := by
 intro a0 a1 a2 a3 k
 obtain ⟨ih0, ih1, ih2⟩ := laws_FnExactWalkFrom.mono_l k
 unfold laws_FnExactWalkFrom.f
 repeat' first
   | (with_reducible exact ih0 _ _ _ _ _ _ _ _ _ _ _ _)
   | (with_reducible exact ih1 _ _ _ _ _ _ _ _ _)
   | (with_reducible exact ih2 _ _ _)
   | (with_reducible exact impl_WalkFrom.mono _ _ _ _ _)
   | (with_reducible exact laws_eqIntS.mono _ _ _)
   | (with_reducible exact laws_heldIntS.mono _ _ _)
   | (with_reducible exact laws_markIntS.mono _ _ _)
   | (with_reducible exact laws_toIntS.mono _ _)
   | (with_reducible exact spec_WalkFrom.mono _ _ _ _ _)
   | (with_reducible exact LeO.refl _)
   | (with_reducible exact LeO.none _)
   | (with_reducible refine LeO.ite ?_ ?_)
   | (with_reducible refine LeO.bind ?_ (fun _ => ?_))
   | exact ih0 _ _ _ _ _ _ _ _ _ _ _ _
   | exact ih1 _ _ _ _ _ _ _ _ _
   | exact ih2 _ _ _
   | exact impl_WalkFrom.mono _ _ _ _ _
   | exact laws_eqIntS.mono _ _ _
   | exact laws_heldIntS.mono _ _ _
   | exact laws_markIntS.mono _ _ _
   | exact laws_toIntS.mono _ _
   | exact spec_WalkFrom.mono _ _ _ _ _
   | exact LeO.none _
   | refine LeO.ite ?_ ?_
   | refine LeO.bind ?_ (fun _ => ?_)
set_option maxHeartbeats 8000000 in
set_option maxRecDepth 100000 in
theorem laws_FnExactWalkFrom.calls (k : Nat) (a0 : Int) (A1 : Option Addr) (c1 : Nat) (l1 : List Int) (a2 : Int) (a3 : Int) (r : Bool) (w : World) (hr1 : Kd.C (Kd.int .i64) w A1 l1.length l1) (hc1 : l1.length ≤ c1) (h : laws_FnExactWalkFrom.f k a0 l1 a2 a3 = some r) :
  Calls Try.prog 4 #[.int .i64 a0, .slice A1 l1.length c1, .int .i64 a2, .int .i64 a3] w fun e w' => e = .returned (.bool r) ∧ Below w.heap.size w w' := by
 have HR1 := Aside0.mk hr1
 have HC1 := Aside0.mk hc1
 clear hr1 hc1
 have HB := Aside0.mk (Below.refl w.heap.size w)
 have H : (if (l1.length : Int) > 1048576 then (some true) else ((laws_toIntS.f k l1).bind fun t454 => ((spec_WalkFrom.f k a0 t454 a2 a3).bind fun bt457 => ((laws_toIntS.f k l1).bind fun t462 => ((impl_WalkFrom.f k a0 t462 a2 a3).bind fun bt465 => ((laws_eqIntS.f k bt465.1 bt457.1).bind fun t470 => (if t470 = true then (if (bt465.2.1 != bt457.2.1) = true then (laws_FnExactWalkFrom.j0 k a0 l1 a2 a3 bt457.1 bt457.2.1 bt457.2.2 t462 bt465.1 bt465.2.1 bt465.2.2 true) else (laws_FnExactWalkFrom.j0 k a0 l1 a2 a3 bt457.1 bt457.2.1 bt457.2.2 t462 bt465.1 bt465.2.1 bt465.2.2 (bt465.2.2 != bt457.2.2))) else (laws_FnExactWalkFrom.j0 k a0 l1 a2 a3 bt457.1 bt457.2.1 bt457.2.2 t462 bt465.1 bt465.2.1 bt465.2.2 true)))))))) = some r := h
 clear h
 by_cases c5 : (l1.length : Int) > 1048576
 ·rw [if_pos c5] at H
  have c5b0 : decide (1048576 < (l1.length : Int)) = true := decide_eq_true c5
  have c5b1 : decide (1048576 < l1.length) = true := decide_eq_true (by omega)
  clear c5
  obtain rfl := Option.some.inj H
  go_enter Try.func4, Try.ntmps4
  go_wp2
  go_ret
  exact ⟨by first | rfl | (simp [errW_none, errW_some] <;> rfl) | (simp [*, errW_none, errW_some] <;> rfl), BB⟩
 ·rw [if_neg c5] at H
  have c5b0 : decide (1048576 < (l1.length : Int)) = false := decide_eq_false c5
  have c5b1 : decide (1048576 < l1.length) = false := decide_eq_false (by omega)
  clear c5
  replace H := Option.bind_eq_some_iff.mp H
  obtain ⟨t454, A60, H⟩ := H
  replace H : ((spec_WalkFrom.f k a0 t454 a2 a3).bind fun bt457 => ((laws_toIntS.f k l1).bind fun t462 => ((impl_WalkFrom.f k a0 t462 a2 a3).bind fun bt465 => ((laws_eqIntS.f k bt465.1 bt457.1).bind fun t470 => (if t470 = true then (if (bt465.2.1 != bt457.2.1) = true then (laws_FnExactWalkFrom.j0 k a0 l1 a2 a3 bt457.1 bt457.2.1 bt457.2.2 t462 bt465.1 bt465.2.1 bt465.2.2 true) else (laws_FnExactWalkFrom.j0 k a0 l1 a2 a3 bt457.1 bt457.2.1 bt457.2.2 t462 bt465.1 bt465.2.1 bt465.2.2 (bt465.2.2 != bt457.2.2))) else (laws_FnExactWalkFrom.j0 k a0 l1 a2 a3 bt457.1 bt457.2.1 bt457.2.2 t462 bt465.1 bt465.2.1 bt465.2.2 true)))))) = some r := H
  have A6 := Aside0.mk A60
  clear A60
  replace H := Option.bind_eq_some_iff.mp H
  obtain ⟨⟨t457, t458, t459⟩, A70, H⟩ := H
  replace H : ((laws_toIntS.f k l1).bind fun t462 => ((impl_WalkFrom.f k a0 t462 a2 a3).bind fun bt465 => ((laws_eqIntS.f k bt465.1 t457).bind fun t470 => (if t470 = true then (if (bt465.2.1 != t458) = true then (laws_FnExactWalkFrom.j0 k a0 l1 a2 a3 t457 t458 t459 t462 bt465.1 bt465.2.1 bt465.2.2 true) else (laws_FnExactWalkFrom.j0 k a0 l1 a2 a3 t457 t458 t459 t462 bt465.1 bt465.2.1 bt465.2.2 (bt465.2.2 != t459))) else (laws_FnExactWalkFrom.j0 k a0 l1 a2 a3 t457 t458 t459 t462 bt465.1 bt465.2.1 bt465.2.2 true))))) = some r := H
  have A7 := Aside0.mk A70
  clear A70
  replace H := Option.bind_eq_some_iff.mp H
  obtain ⟨t462, A80, H⟩ := H
  replace H : ((impl_WalkFrom.f k a0 t462 a2 a3).bind fun bt465 => ((laws_eqIntS.f k bt465.1 t457).bind fun t470 => (if t470 = true then (if (bt465.2.1 != t458) = true then (laws_FnExactWalkFrom.j0 k a0 l1 a2 a3 t457 t458 t459 t462 bt465.1 bt465.2.1 bt465.2.2 true) else (laws_FnExactWalkFrom.j0 k a0 l1 a2 a3 t457 t458 t459 t462 bt465.1 bt465.2.1 bt465.2.2 (bt465.2.2 != t459))) else (laws_FnExactWalkFrom.j0 k a0 l1 a2 a3 t457 t458 t459 t462 bt465.1 bt465.2.1 bt465.2.2 true)))) = some r := H
  have A8 := Aside0.mk A80
  clear A80
  replace H := Option.bind_eq_some_iff.mp H
  obtain ⟨⟨t465, t466, t467⟩, A90, H⟩ := H
  replace H : ((laws_eqIntS.f k t465 t457).bind fun t470 => (if t470 = true then (if (t466 != t458) = true then (laws_FnExactWalkFrom.j0 k a0 l1 a2 a3 t457 t458 t459 t462 t465 t466 t467 true) else (laws_FnExactWalkFrom.j0 k a0 l1 a2 a3 t457 t458 t459 t462 t465 t466 t467 (t467 != t459))) else (laws_FnExactWalkFrom.j0 k a0 l1 a2 a3 t457 t458 t459 t462 t465 t466 t467 true))) = some r := H
  have A9 := Aside0.mk A90
  clear A90
  have HC10 := Aside0.mk H
  clear H
  go_enter Try.func4, Try.ntmps4
  go_upto_region 6 with (first | ((with_reducible refine gate_callee (f := 8) rfl ?_); refine goesL_ (some 28) rfl rfl Try.func8 (by kernel_rfl) rfl #[.slice A1 l1.length c1] rfl TA ?_; (with_reducible refine (laws_toIntS.calls k _ _ l1 t454 _ ?side1 ?side2 A6.out).mono ?_); (case side1 => repeat (first | exact HR1.out | (with_reducible refine Kd.C_alloc ?_ _) | (with_reducible refine Kd.C_drewN ?_ _) | (with_reducible refine Kd.C_drew ?_))); (case side2 => exact HC1.out); rintro e w11 ⟨v455, rfl, ho0, hb⟩; refine ⟨_, rfl, ?_⟩; have n0_ := Aside0.mk (Kd.R_lower ho0 (below_size BB)); have n1_ := Aside0.mk (below_step BB hb); clear HB; have HO456 := n0_; have HB := n1_; clear n0_ n1_; (try clear hb); (try clear hb2); (try clear hk); (try clear hi); (try clear ho0); obtain ⟨Ao12, co12, eo12⟩ := Kd.R_slice HO456.out; subst eo12) | ((with_reducible refine gate_callee (f := 11) rfl ?_); refine goesL_ (some 31) rfl rfl Try.func11 (by kernel_rfl) rfl #[.int .i64 a0, .slice Ao12 t454.length co12, .int .i64 a2, .int .i64 a3] rfl TA ?_; (with_reducible refine (spec_WalkFrom.calls k a0 _ _ t454 a2 a3 t457 t458 t459 _ ?side1 ?side2 A7.out).mono ?_); (case side1 => repeat (first | exact (Kd.R_reads' HO456.out).2.2 | (with_reducible refine Kd.C_alloc ?_ _) | (with_reducible refine Kd.C_drewN ?_ _) | (with_reducible refine Kd.C_drew ?_))); (case side2 => exact (Kd.R_reads' HO456.out).2.1); rintro e w13 ⟨v460, rfl, ho0, hb⟩; refine ⟨_, rfl, ?_⟩; have n0_ := Aside0.mk (Kd.R_elder' (KR HO456) (Kd.R_base ho0) hb); have n1_ := Aside0.mk (Kd.R_lower (Kd.R_new' ho0 (Kd.R_lt (KR HO456))) (below_size BB)); have n2_ := Aside0.mk (below_step BB hb); clear HO456; clear HB; have HO456 := n0_; have HO461 := n1_; have HB := n2_; clear n0_ n1_ n2_; (try clear hb); (try clear hb2); (try clear hk); (try clear hi); (try clear ho0)) | ((with_reducible refine gate_callee (f := 8) rfl ?_); refine goesL_ (some 36) rfl rfl Try.func8 (by kernel_rfl) rfl #[.slice A1 l1.length c1] rfl TA ?_; (with_reducible refine (laws_toIntS.calls k _ _ l1 t462 _ ?side1 ?side2 A8.out).mono ?_); (case side1 => repeat (first | exact (Kd.C_below HR1.out HB.out) | (with_reducible refine Kd.C_alloc ?_ _) | (with_reducible refine Kd.C_drewN ?_ _) | (with_reducible refine Kd.C_drew ?_))); (case side2 => exact HC1.out); rintro e w14 ⟨v463, rfl, ho0, hb⟩; refine ⟨_, rfl, ?_⟩; have n0_ := Aside0.mk (Kd.R_elder' (KR HO456) (Kd.R_base ho0) hb); have n1_ := Aside0.mk (Kd.R_elder' (KR HO461) (Kd.R_base ho0) hb); have n2_ := Aside0.mk (Kd.R_lower (Kd.R_new' (Kd.R_new' ho0 (Kd.R_lt (KR HO456))) (Kd.R_lt (KR HO461))) (below_size BB)); have n3_ := Aside0.mk (below_step BB hb); clear HO456; clear HO461; clear HB; have HO456 := n0_; have HO461 := n1_; have HO464 := n2_; have HB := n3_; clear n0_ n1_ n2_ n3_; (try clear hb); (try clear hb2); (try clear hk); (try clear hi); (try clear ho0); obtain ⟨Ao15, co15, eo15⟩ := Kd.R_slice HO464.out; subst eo15) | ((with_reducible refine gate_callee (f := 12) rfl ?_); refine goesL_ (some 42) rfl rfl Try.func12 (by kernel_rfl) rfl #[.int .i64 a0, .slice Ao15 t462.length co15, .int .i64 a2, .int .i64 a3] rfl TA ?_; (with_reducible refine (impl_WalkFrom.calls k a0 _ _ t462 a2 a3 t465 t466 t467 _ ?side1 ?side2 A9.out).mono ?_); (case side1 => repeat (first | exact (Kd.R_reads' HO464.out).2.2 | (with_reducible refine Kd.C_alloc ?_ _) | (with_reducible refine Kd.C_drewN ?_ _) | (with_reducible refine Kd.C_drew ?_))); (case side2 => exact (Kd.R_reads' HO464.out).2.1); rintro e w16 ⟨v468, rfl, ho0, hb⟩; refine ⟨_, rfl, ?_⟩; have n0_ := Aside0.mk (Kd.R_elder' (KR HO456) (Kd.R_base ho0) hb); have n1_ := Aside0.mk (Kd.R_elder' (KR HO461) (Kd.R_base ho0) hb); have n2_ := Aside0.mk (Kd.R_elder' (KR HO464) (Kd.R_base ho0) hb); have n3_ := Aside0.mk (Kd.R_lower (Kd.R_new' (Kd.R_new' (Kd.R_new' ho0 (Kd.R_lt (KR HO456))) (Kd.R_lt (KR HO461))) (Kd.R_lt (KR HO464))) (below_size BB)); have n4_ := Aside0.mk (below_step BB hb); clear HO456; clear HO461; clear HO464; clear HB; have HO456 := n0_; have HO461 := n1_; have HO464 := n2_; have HO469 := n3_; have HB := n4_; clear n0_ n1_ n2_ n3_ n4_; (try clear hb); (try clear hb2); (try clear hk); (try clear hi); (try clear ho0)))
  (try simp only [Act.put, List.setIfInBounds_toArray, List.set_cons_zero, List.set_cons_succ])
  go_cut [59] (fun v59 wc => ∃ (kq : Nat) (x59_9 : Bool), v59 = .bool x59_9 ∧ Aside0 (laws_FnExactWalkFrom.j0 kq a0 l1 a2 a3 t457 t458 t459 t462 t465 t466 t467 x59_9 = some r) ∧ Aside0 (kq ≤ k) ∧ Aside0 (Kd.R (Kd.int .i64) 3 wc w.heap.size (fun k_ => some k_ ≠ ((.slice Ao15 t462.length co15) : Value).ownBlock ∧ some k_ ≠ (v468 : Value).ownBlock) v460 t457) ∧ Aside0 (Kd.R (Kd.int .i64) 3 wc w.heap.size (fun k_ => some k_ ≠ (v460 : Value).ownBlock ∧ some k_ ≠ (v468 : Value).ownBlock) (.slice Ao15 t462.length co15) t462) ∧ Aside0 (Kd.R (Kd.int .i64) 3 wc w.heap.size (fun k_ => some k_ ≠ (v460 : Value).ownBlock ∧ some k_ ≠ ((.slice Ao15 t462.length co15) : Value).ownBlock) v468 t465) ∧ Aside0 (Below w.heap.size w wc))
  case first =>
   have H := HC10.out
   clear HC10
   replace H := Option.bind_eq_some_iff.mp H
   obtain ⟨t470, A170, H⟩ := H
   replace H : (if t470 = true then (if (t466 != t458) = true then (laws_FnExactWalkFrom.j0 k a0 l1 a2 a3 t457 t458 t459 t462 t465 t466 t467 true) else (laws_FnExactWalkFrom.j0 k a0 l1 a2 a3 t457 t458 t459 t462 t465 t466 t467 (t467 != t459))) else (laws_FnExactWalkFrom.j0 k a0 l1 a2 a3 t457 t458 t459 t462 t465 t466 t467 true)) = some r := H
   have A17 := Aside0.mk A170
   clear A170
   by_cases c18 : t470 = true
   ·subst c18
    have H1 : (if (t466 != t458) = true then (laws_FnExactWalkFrom.j0 k a0 l1 a2 a3 t457 t458 t459 t462 t465 t466 t467 true) else (laws_FnExactWalkFrom.j0 k a0 l1 a2 a3 t457 t458 t459 t462 t465 t466 t467 (t467 != t459))) = some r := by rw [if_pos rfl] at H; exact H
    clear H
    have H := H1
    clear H1
    by_cases c19 : (t466 != t458) = true
    ·rw [if_pos c19] at H
     have c19b0 : (t466 != t458) = true := c19
     (try (have c19b1 : decide (t466 = t458) = false := by simpa using c19))
     (try (have c19b2 : (t466 == t458) = false := by simpa using c19))
     (try (have c19b3 : ¬ (t466 = t458) := by simpa using c19))
     clear c19
     (first | rw [c19b0] | (simp only [i64_w, i32_w]; rw [c19b0]) | skip)
     have H' := Aside0.mk H
     clear H
     obtain ⟨Ao20, co20, eo20⟩ := Kd.R_slice HO469.out
     subst eo20
     obtain ⟨Ao21, co21, eo21⟩ := Kd.R_slice HO461.out
     subst eo21
     go_wp2_with (first | ((with_reducible refine gate_callee (f := 10) rfl ?_); refine goesL_ (some 48) rfl rfl Try.func10 (by kernel_rfl) rfl #[.slice Ao20 t465.length co20, .slice Ao21 t457.length co21] rfl TA ?_; (with_reducible refine (laws_eqIntS.calls k _ _ t465 _ _ t457 true _ ?side1 ?side2 ?side3 ?side4 A17.out).mono ?_); (case side1 => repeat (first | exact (Kd.R_reads' HO469.out).2.2 | (with_reducible refine Kd.C_alloc ?_ _) | (with_reducible refine Kd.C_drewN ?_ _) | (with_reducible refine Kd.C_drew ?_))); (case side2 => exact (Kd.R_reads' HO469.out).2.1); (case side3 => repeat (first | exact (Kd.R_reads' HO461.out).2.2 | (with_reducible refine Kd.C_alloc ?_ _) | (with_reducible refine Kd.C_drewN ?_ _) | (with_reducible refine Kd.C_drew ?_))); (case side4 => exact (Kd.R_reads' HO461.out).2.1); rintro e w' ⟨rfl, ⟨nd, rfl⟩⟩; refine ⟨_, rfl, ?_⟩))
     go_meet
     case rel => exact ⟨_, (true), RF, H', ⟨by first | omega | exact Nat.le_refl _⟩, ⟨by (with_reducible repeat (first | apply Kd.R_alloc | apply Kd.R_drewN | apply Kd.R_drew)); exact Kd.R_mono HO461.out (fun _ hk => ⟨hk.1.2, hk.2⟩)⟩, ⟨by (with_reducible repeat (first | apply Kd.R_alloc | apply Kd.R_drewN | apply Kd.R_drew)); exact Kd.R_mono HO464.out (fun _ hk => ⟨hk.1.2, hk.2⟩)⟩, ⟨by (with_reducible repeat (first | apply Kd.R_alloc | apply Kd.R_drewN | apply Kd.R_drew)); exact Kd.R_mono HO469.out (fun _ hk => ⟨hk.1.2, hk.2⟩)⟩, ⟨BB⟩⟩
    ·rw [if_neg c19] at H
     have c19b0 : (t466 != t458) = false := by simpa using c19
     (try (have c19b1 : decide (t466 = t458) = true := by simpa using c19))
     (try (have c19b2 : (t466 == t458) = true := by simpa using c19))
     clear c19
     (first | rw [c19b0] | (simp only [i64_w, i32_w]; rw [c19b0]) | skip)
     have H' := Aside0.mk H
     clear H
     obtain ⟨Ao22, co22, eo22⟩ := Kd.R_slice HO469.out
     subst eo22
     obtain ⟨Ao23, co23, eo23⟩ := Kd.R_slice HO461.out
     subst eo23
     go_wp2_with (first | ((with_reducible refine gate_callee (f := 10) rfl ?_); refine goesL_ (some 48) rfl rfl Try.func10 (by kernel_rfl) rfl #[.slice Ao22 t465.length co22, .slice Ao23 t457.length co23] rfl TA ?_; (with_reducible refine (laws_eqIntS.calls k _ _ t465 _ _ t457 true _ ?side1 ?side2 ?side3 ?side4 A17.out).mono ?_); (case side1 => repeat (first | exact (Kd.R_reads' HO469.out).2.2 | (with_reducible refine Kd.C_alloc ?_ _) | (with_reducible refine Kd.C_drewN ?_ _) | (with_reducible refine Kd.C_drew ?_))); (case side2 => exact (Kd.R_reads' HO469.out).2.1); (case side3 => repeat (first | exact (Kd.R_reads' HO461.out).2.2 | (with_reducible refine Kd.C_alloc ?_ _) | (with_reducible refine Kd.C_drewN ?_ _) | (with_reducible refine Kd.C_drew ?_))); (case side4 => exact (Kd.R_reads' HO461.out).2.1); rintro e w' ⟨rfl, ⟨nd, rfl⟩⟩; refine ⟨_, rfl, ?_⟩))
     go_meet
     case rel => exact ⟨_, ((t467 != t459)), RF, H', ⟨by first | omega | exact Nat.le_refl _⟩, ⟨by (with_reducible repeat (first | apply Kd.R_alloc | apply Kd.R_drewN | apply Kd.R_drew)); exact Kd.R_mono HO461.out (fun _ hk => ⟨hk.1.2, hk.2⟩)⟩, ⟨by (with_reducible repeat (first | apply Kd.R_alloc | apply Kd.R_drewN | apply Kd.R_drew)); exact Kd.R_mono HO464.out (fun _ hk => ⟨hk.1.2, hk.2⟩)⟩, ⟨by (with_reducible repeat (first | apply Kd.R_alloc | apply Kd.R_drewN | apply Kd.R_drew)); exact Kd.R_mono HO469.out (fun _ hk => ⟨hk.1.2, hk.2⟩)⟩, ⟨BB⟩⟩
   ·replace c18 := Bool.eq_false_iff.mpr c18
    subst c18
    have H1 : (laws_FnExactWalkFrom.j0 k a0 l1 a2 a3 t457 t458 t459 t462 t465 t466 t467 true) = some r := by rw [if_neg (show ¬ (false = true) by decide)] at H; exact H
    clear H
    have H := H1
    clear H1
    have H' := Aside0.mk H
    clear H
    obtain ⟨Ao24, co24, eo24⟩ := Kd.R_slice HO469.out
    subst eo24
    obtain ⟨Ao25, co25, eo25⟩ := Kd.R_slice HO461.out
    subst eo25
    go_wp2_with (first | ((with_reducible refine gate_callee (f := 10) rfl ?_); refine goesL_ (some 48) rfl rfl Try.func10 (by kernel_rfl) rfl #[.slice Ao24 t465.length co24, .slice Ao25 t457.length co25] rfl TA ?_; (with_reducible refine (laws_eqIntS.calls k _ _ t465 _ _ t457 false _ ?side1 ?side2 ?side3 ?side4 A17.out).mono ?_); (case side1 => repeat (first | exact (Kd.R_reads' HO469.out).2.2 | (with_reducible refine Kd.C_alloc ?_ _) | (with_reducible refine Kd.C_drewN ?_ _) | (with_reducible refine Kd.C_drew ?_))); (case side2 => exact (Kd.R_reads' HO469.out).2.1); (case side3 => repeat (first | exact (Kd.R_reads' HO461.out).2.2 | (with_reducible refine Kd.C_alloc ?_ _) | (with_reducible refine Kd.C_drewN ?_ _) | (with_reducible refine Kd.C_drew ?_))); (case side4 => exact (Kd.R_reads' HO461.out).2.1); rintro e w' ⟨rfl, ⟨nd, rfl⟩⟩; refine ⟨_, rfl, ?_⟩))
    go_meet
    case rel => exact ⟨_, (true), RF, H', ⟨by first | omega | exact Nat.le_refl _⟩, ⟨by (with_reducible repeat (first | apply Kd.R_alloc | apply Kd.R_drewN | apply Kd.R_drew)); exact Kd.R_mono HO461.out (fun _ hk => ⟨hk.1.2, hk.2⟩)⟩, ⟨by (with_reducible repeat (first | apply Kd.R_alloc | apply Kd.R_drewN | apply Kd.R_drew)); exact Kd.R_mono HO464.out (fun _ hk => ⟨hk.1.2, hk.2⟩)⟩, ⟨by (with_reducible repeat (first | apply Kd.R_alloc | apply Kd.R_drewN | apply Kd.R_drew)); exact Kd.R_mono HO469.out (fun _ hk => ⟨hk.1.2, hk.2⟩)⟩, ⟨BB⟩⟩
  case rest =>
   clear HC10
   try clear c1
   try clear p2
   try clear c4
   try clear c5
   try clear c5b0
   try clear c5b1
   try clear p6
   try clear c8
   try clear c10
   try clear c11
   try clear c12
   try clear c18
   try clear c19
   try clear c19b0
   try clear c19b1
   try clear c19b2
   obtain ⟨kq, x59_9, rfl, HA, HJ9, HO_9, HO_12, HO_13, HB⟩ := hcut
   cases kq with
   | zero => exact absurd HA.out (by simp [laws_FnExactWalkFrom.j0])
   | succ kj9 =>
    have H := HA.out
    clear HA
    simp only [laws_FnExactWalkFrom.j0] at H
    by_cases c26 : x59_9 = true
    ·subst c26
     have H1 : (some false) = some r := by rw [if_pos rfl] at H; exact H
     clear H
     have H := H1
     clear H1
     obtain rfl := Option.some.inj H
     go_wp2
     go_ret
     exact ⟨by first | rfl | (simp [errW_none, errW_some] <;> rfl) | (simp [*, errW_none, errW_some] <;> rfl), BB⟩
    ·replace c26 := Bool.eq_false_iff.mpr c26
     subst c26
     have H1 : ((laws_toIntS.f kj9 l1).bind fun t471 => ((laws_eqIntS.f kj9 t462 t471).bind fun t474 => (if t474 = true then ((laws_markIntS.f kj9 t462 1).bind fun bt475 => (if bt475.1 < 0 then (laws_FnExactWalkFrom.j1 kj9 a0 l1 a2 a3 t457 t458 t459 t465 true) else ((laws_eqIntS.f kj9 t465 t457).bind fun t477 => (if t477 = true then (if (t466 != t458) = true then (laws_FnExactWalkFrom.j1 kj9 a0 l1 a2 a3 t457 t458 t459 t465 true) else (laws_FnExactWalkFrom.j1 kj9 a0 l1 a2 a3 t457 t458 t459 t465 (t467 != t459))) else (laws_FnExactWalkFrom.j1 kj9 a0 l1 a2 a3 t457 t458 t459 t465 true))))) else (some false)))) = some r := by rw [if_neg (show ¬ (false = true) by decide)] at H; exact H
     clear H
     have H := H1
     clear H1
     replace H := Option.bind_eq_some_iff.mp H
     obtain ⟨t471, A270, H⟩ := H
     replace H : ((laws_eqIntS.f kj9 t462 t471).bind fun t474 => (if t474 = true then ((laws_markIntS.f kj9 t462 1).bind fun bt475 => (if bt475.1 < 0 then (laws_FnExactWalkFrom.j1 kj9 a0 l1 a2 a3 t457 t458 t459 t465 true) else ((laws_eqIntS.f kj9 t465 t457).bind fun t477 => (if t477 = true then (if (t466 != t458) = true then (laws_FnExactWalkFrom.j1 kj9 a0 l1 a2 a3 t457 t458 t459 t465 true) else (laws_FnExactWalkFrom.j1 kj9 a0 l1 a2 a3 t457 t458 t459 t465 (t467 != t459))) else (laws_FnExactWalkFrom.j1 kj9 a0 l1 a2 a3 t457 t458 t459 t465 true))))) else (some false))) = some r := H
     have A27 := Aside0.mk A270
     clear A270
     replace H := Option.bind_eq_some_iff.mp H
     obtain ⟨t474, A280, H⟩ := H
     replace H : (if t474 = true then ((laws_markIntS.f kj9 t462 1).bind fun bt475 => (if bt475.1 < 0 then (laws_FnExactWalkFrom.j1 kj9 a0 l1 a2 a3 t457 t458 t459 t465 true) else ((laws_eqIntS.f kj9 t465 t457).bind fun t477 => (if t477 = true then (if (t466 != t458) = true then (laws_FnExactWalkFrom.j1 kj9 a0 l1 a2 a3 t457 t458 t459 t465 true) else (laws_FnExactWalkFrom.j1 kj9 a0 l1 a2 a3 t457 t458 t459 t465 (t467 != t459))) else (laws_FnExactWalkFrom.j1 kj9 a0 l1 a2 a3 t457 t458 t459 t465 true))))) else (some false)) = some r := H
     have A28 := Aside0.mk A280
     clear A280
     by_cases c29 : t474 = true
     ·subst c29
      have H1 : ((laws_markIntS.f kj9 t462 1).bind fun bt475 => (if bt475.1 < 0 then (laws_FnExactWalkFrom.j1 kj9 a0 l1 a2 a3 t457 t458 t459 t465 true) else ((laws_eqIntS.f kj9 t465 t457).bind fun t477 => (if t477 = true then (if (t466 != t458) = true then (laws_FnExactWalkFrom.j1 kj9 a0 l1 a2 a3 t457 t458 t459 t465 true) else (laws_FnExactWalkFrom.j1 kj9 a0 l1 a2 a3 t457 t458 t459 t465 (t467 != t459))) else (laws_FnExactWalkFrom.j1 kj9 a0 l1 a2 a3 t457 t458 t459 t465 true))))) = some r := by rw [if_pos rfl] at H; exact H
      clear H
      have H := H1
      clear H1
      replace H := Option.bind_eq_some_iff.mp H
      obtain ⟨⟨t475, t476⟩, A300, H⟩ := H
      replace H : (if t475 < 0 then (laws_FnExactWalkFrom.j1 kj9 a0 l1 a2 a3 t457 t458 t459 t465 true) else ((laws_eqIntS.f kj9 t465 t457).bind fun t477 => (if t477 = true then (if (t466 != t458) = true then (laws_FnExactWalkFrom.j1 kj9 a0 l1 a2 a3 t457 t458 t459 t465 true) else (laws_FnExactWalkFrom.j1 kj9 a0 l1 a2 a3 t457 t458 t459 t465 (t467 != t459))) else (laws_FnExactWalkFrom.j1 kj9 a0 l1 a2 a3 t457 t458 t459 t465 true)))) = some r := H
      have A30 := Aside0.mk A300
      clear A300
      have HC31 := Aside0.mk H
      clear H
      go_upto_region 12 with (first | ((with_reducible refine gate_callee (f := 8) rfl ?_); refine goesL_ (some 62) rfl rfl Try.func8 (by kernel_rfl) rfl #[.slice A1 l1.length c1] rfl TA ?_; (with_reducible refine (laws_toIntS.calls kj9 _ _ l1 t471 _ ?side1 ?side2 A27.out).mono ?_); (case side1 => repeat (first | exact (Kd.C_below HR1.out HB.out) | (with_reducible refine Kd.C_alloc ?_ _) | (with_reducible refine Kd.C_drewN ?_ _) | (with_reducible refine Kd.C_drew ?_))); (case side2 => exact HC1.out); rintro e w32 ⟨v472, rfl, ho0, hb⟩; refine ⟨_, rfl, ?_⟩; have n0_ := Aside0.mk (Kd.R_elder' (KR HO_9) (Kd.R_base ho0) hb); have n1_ := Aside0.mk (Kd.R_elder' (KR HO_12) (Kd.R_base ho0) hb); have n2_ := Aside0.mk (Kd.R_elder' (KR HO_13) (Kd.R_base ho0) hb); have n3_ := Aside0.mk (Kd.R_lower (Kd.R_new' (Kd.R_new' (Kd.R_new' ho0 (Kd.R_lt (KR HO_9))) (Kd.R_lt (KR HO_12))) (Kd.R_lt (KR HO_13))) (below_size BB)); have n4_ := Aside0.mk (below_step BB hb); clear HO_9; clear HO_12; clear HO_13; clear HB; have HO_9 := n0_; have HO_12 := n1_; have HO_13 := n2_; have HO473 := n3_; have HB := n4_; clear n0_ n1_ n2_ n3_ n4_; (try clear hb); (try clear hb2); (try clear hk); (try clear hi); (try clear ho0); obtain ⟨Ao33, co33, eo33⟩ := Kd.R_slice HO473.out; subst eo33) | ((with_reducible refine gate_callee (f := 10) rfl ?_); refine goesL_ (some 63) rfl rfl Try.func10 (by kernel_rfl) rfl #[.slice Ao15 t462.length co15, .slice Ao33 t471.length co33] rfl TA ?_; (with_reducible refine (laws_eqIntS.calls kj9 _ _ t462 _ _ t471 true _ ?side1 ?side2 ?side3 ?side4 A28.out).mono ?_); (case side1 => repeat (first | exact (Kd.R_reads' HO_12.out).2.2 | (with_reducible refine Kd.C_alloc ?_ _) | (with_reducible refine Kd.C_drewN ?_ _) | (with_reducible refine Kd.C_drew ?_))); (case side2 => exact (Kd.R_reads' HO_12.out).2.1); (case side3 => repeat (first | exact (Kd.R_reads' HO473.out).2.2 | (with_reducible refine Kd.C_alloc ?_ _) | (with_reducible refine Kd.C_drewN ?_ _) | (with_reducible refine Kd.C_drew ?_))); (case side4 => exact (Kd.R_reads' HO473.out).2.1); rintro e w' ⟨rfl, ⟨nd, rfl⟩⟩; refine ⟨_, rfl, ?_⟩) | ((with_reducible refine gate_callee (f := 13) rfl ?_); refine goesL_ (some 67) rfl rfl Try.func13 (by kernel_rfl) rfl #[.slice Ao15 t462.length co15, .int .i64 1] rfl TA ?_; (with_reducible refine (laws_markIntS.calls kj9 (fun k_ => some k_ = (.slice Ao15 t462.length co15 : Value).ownBlock) (.slice Ao15 t462.length co15) t462 1 t475 t476 w _ ?side1 ?side2 A30.out).mono ?_); (case side1 => repeat (first | (with_reducible first | exact HB.out | apply below_alloc | apply pw_below_drewN | apply below_drew1) | exact HB.out)); (case side2 => exact Kd.R_tight rfl HO_12.out); rintro e w34 ⟨rfl, hy0, hb, hkp⟩; refine ⟨_, rfl, ?_⟩; have n0_ := Aside0.mk (Kd.R_mono (ok' := fun k_ => some k_ ≠ (.slice Ao15 t462.length co15 : Value).ownBlock ∧ some k_ ≠ (v468 : Value).ownBlock ∧ some k_ ≠ (.slice Ao33 t471.length co33 : Value).ownBlock) (Kd.R_keptB (HO_9.out) hkp (fun k_ hk_ hs_ => (hk_.1.1) hs_)) (fun k_ hk_ => ⟨hk_.1.1.1, hk_.1.1.2, hk_.1.2⟩)); have n1_ := Aside0.mk (Kd.R_reok rfl hy0 (fun k_ e_ => HO_12.out.1 k_ e_)); have n2_ := Aside0.mk (Kd.R_mono (ok' := fun k_ => some k_ ≠ (v460 : Value).ownBlock ∧ some k_ ≠ (.slice Ao15 t462.length co15 : Value).ownBlock ∧ some k_ ≠ (.slice Ao33 t471.length co33 : Value).ownBlock) (Kd.R_keptB (HO_13.out) hkp (fun k_ hk_ hs_ => (hk_.1.2) hs_)) (fun k_ hk_ => ⟨hk_.1.1.1, hk_.1.1.2, hk_.1.2⟩)); have n3_ := Aside0.mk (Kd.R_mono (ok' := fun k_ => some k_ ≠ (v460 : Value).ownBlock ∧ some k_ ≠ (.slice Ao15 t462.length co15 : Value).ownBlock ∧ some k_ ≠ (v468 : Value).ownBlock) (Kd.R_keptB (HO473.out) hkp (fun k_ hk_ hs_ => (hk_.1.2) hs_)) (fun k_ hk_ => ⟨hk_.1.1.1.2, hk_.1.1.2, hk_.1.2⟩)); have n4_ := Aside0.mk (hb); clear HO_9; clear HO_12; clear HO_13; clear HO473; clear HB; have HO_9 := n0_; have HO_12 := n1_; have HO_13 := n2_; have HO473 := n3_; have HB := n4_; clear n0_ n1_ n2_ n3_ n4_; (try clear hb); (try clear hkp); (try clear hy0)))
      (try simp only [Act.put, List.setIfInBounds_toArray, List.set_cons_zero, List.set_cons_succ])
      go_cut [85] (fun v85 wc => ∃ (kq : Nat) (x85_30 : Bool), v85 = .bool x85_30 ∧ Aside0 (laws_FnExactWalkFrom.j1 kq a0 l1 a2 a3 t457 t458 t459 t465 x85_30 = some r) ∧ Aside0 (kq ≤ kj9) ∧ Aside0 (Kd.R (Kd.int .i64) 3 wc w.heap.size (fun k_ => some k_ ≠ (v468 : Value).ownBlock) v460 t457) ∧ Aside0 (Kd.R (Kd.int .i64) 3 wc w.heap.size (fun k_ => some k_ ≠ (v460 : Value).ownBlock) v468 t465) ∧ Aside0 (Below w.heap.size w wc))
      case first =>
       have H := HC31.out
       clear HC31
       by_cases c35 : t475 < 0
       ·rw [if_pos c35] at H
        have c35b0 : decide (t475 < 0) = true := decide_eq_true c35
        clear c35
        (first | rw [c35b0] | (simp only [i64_w, i32_w]; rw [c35b0]) | skip)
        have H' := Aside0.mk H
        clear H
        go_wp2
        go_meet
        case rel => exact ⟨_, (true), RF, H', ⟨by have := HJ9.out; first | omega | exact Nat.le_refl _⟩, ⟨by (with_reducible repeat (first | apply Kd.R_alloc | apply Kd.R_drewN | apply Kd.R_drew)); exact Kd.R_mono HO_9.out (fun _ hk => hk.2.1)⟩, ⟨by (with_reducible repeat (first | apply Kd.R_alloc | apply Kd.R_drewN | apply Kd.R_drew)); exact Kd.R_mono HO_13.out (fun _ hk => hk.1)⟩, ⟨BB⟩⟩
       ·rw [if_neg c35] at H
        have c35b0 : decide (t475 < 0) = false := decide_eq_false c35
        clear c35
        (first | rw [c35b0] | (simp only [i64_w, i32_w]; rw [c35b0]) | skip)
        replace H := Option.bind_eq_some_iff.mp H
        obtain ⟨t477, A360, H⟩ := H
        replace H : (if t477 = true then (if (t466 != t458) = true then (laws_FnExactWalkFrom.j1 kj9 a0 l1 a2 a3 t457 t458 t459 t465 true) else (laws_FnExactWalkFrom.j1 kj9 a0 l1 a2 a3 t457 t458 t459 t465 (t467 != t459))) else (laws_FnExactWalkFrom.j1 kj9 a0 l1 a2 a3 t457 t458 t459 t465 true)) = some r := H
        have A36 := Aside0.mk A360
        clear A360
        by_cases c37 : t477 = true
        ·subst c37
         have H1 : (if (t466 != t458) = true then (laws_FnExactWalkFrom.j1 kj9 a0 l1 a2 a3 t457 t458 t459 t465 true) else (laws_FnExactWalkFrom.j1 kj9 a0 l1 a2 a3 t457 t458 t459 t465 (t467 != t459))) = some r := by rw [if_pos rfl] at H; exact H
         clear H
         have H := H1
         clear H1
         by_cases c38 : (t466 != t458) = true
         ·rw [if_pos c38] at H
          have c38b0 : (t466 != t458) = true := c38
          (try (have c38b1 : decide (t466 = t458) = false := by simpa using c38))
          (try (have c38b2 : (t466 == t458) = false := by simpa using c38))
          (try (have c38b3 : ¬ (t466 = t458) := by simpa using c38))
          clear c38
          have H' := Aside0.mk H
          clear H
          obtain ⟨Ao39, co39, eo39⟩ := Kd.R_slice HO_13.out
          subst eo39
          obtain ⟨Ao40, co40, eo40⟩ := Kd.R_slice HO_9.out
          subst eo40
          go_wp2_with (first | (go_at_call 10; (with_reducible refine (laws_eqIntS.calls kj9 _ _ t465 _ _ t457 true _ ?side1 ?side2 ?side3 ?side4 A36.out).mono ?_); (case side1 => repeat (first | exact (Kd.R_reads' HO_13.out).2.2 | (with_reducible refine Kd.C_alloc ?_ _) | (with_reducible refine Kd.C_drewN ?_ _) | (with_reducible refine Kd.C_drew ?_))); (case side2 => exact (Kd.R_reads' HO_13.out).2.1); (case side3 => repeat (first | exact (Kd.R_reads' HO_9.out).2.2 | (with_reducible refine Kd.C_alloc ?_ _) | (with_reducible refine Kd.C_drewN ?_ _) | (with_reducible refine Kd.C_drew ?_))); (case side4 => exact (Kd.R_reads' HO_9.out).2.1); rintro e w' ⟨rfl, ⟨nd, rfl⟩⟩))
          go_meet
          case rel => exact ⟨_, (true), RF, H', ⟨by have := HJ9.out; first | omega | exact Nat.le_refl _⟩, ⟨by (with_reducible repeat (first | apply Kd.R_alloc | apply Kd.R_drewN | apply Kd.R_drew)); exact Kd.R_mono HO_9.out (fun _ hk => hk.2.1)⟩, ⟨by (with_reducible repeat (first | apply Kd.R_alloc | apply Kd.R_drewN | apply Kd.R_drew)); exact Kd.R_mono HO_13.out (fun _ hk => hk.1)⟩, ⟨BB⟩⟩
         ·rw [if_neg c38] at H
          have c38b0 : (t466 != t458) = false := by simpa using c38
          (try (have c38b1 : decide (t466 = t458) = true := by simpa using c38))
          (try (have c38b2 : (t466 == t458) = true := by simpa using c38))
          clear c38
          have H' := Aside0.mk H
          clear H
          obtain ⟨Ao41, co41, eo41⟩ := Kd.R_slice HO_13.out
          subst eo41
          obtain ⟨Ao42, co42, eo42⟩ := Kd.R_slice HO_9.out
          subst eo42
          go_wp2_with (first | (go_at_call 10; (with_reducible refine (laws_eqIntS.calls kj9 _ _ t465 _ _ t457 true _ ?side1 ?side2 ?side3 ?side4 A36.out).mono ?_); (case side1 => repeat (first | exact (Kd.R_reads' HO_13.out).2.2 | (with_reducible refine Kd.C_alloc ?_ _) | (with_reducible refine Kd.C_drewN ?_ _) | (with_reducible refine Kd.C_drew ?_))); (case side2 => exact (Kd.R_reads' HO_13.out).2.1); (case side3 => repeat (first | exact (Kd.R_reads' HO_9.out).2.2 | (with_reducible refine Kd.C_alloc ?_ _) | (with_reducible refine Kd.C_drewN ?_ _) | (with_reducible refine Kd.C_drew ?_))); (case side4 => exact (Kd.R_reads' HO_9.out).2.1); rintro e w' ⟨rfl, ⟨nd, rfl⟩⟩))
          go_meet
          case rel => exact ⟨_, ((t467 != t459)), RF, H', ⟨by have := HJ9.out; first | omega | exact Nat.le_refl _⟩, ⟨by (with_reducible repeat (first | apply Kd.R_alloc | apply Kd.R_drewN | apply Kd.R_drew)); exact Kd.R_mono HO_9.out (fun _ hk => hk.2.1)⟩, ⟨by (with_reducible repeat (first | apply Kd.R_alloc | apply Kd.R_drewN | apply Kd.R_drew)); exact Kd.R_mono HO_13.out (fun _ hk => hk.1)⟩, ⟨BB⟩⟩
        ·replace c37 := Bool.eq_false_iff.mpr c37
         subst c37
         have H1 : (laws_FnExactWalkFrom.j1 kj9 a0 l1 a2 a3 t457 t458 t459 t465 true) = some r := by rw [if_neg (show ¬ (false = true) by decide)] at H; exact H
         clear H
         have H := H1
         clear H1
         have H' := Aside0.mk H
         clear H
         obtain ⟨Ao43, co43, eo43⟩ := Kd.R_slice HO_13.out
         subst eo43
         obtain ⟨Ao44, co44, eo44⟩ := Kd.R_slice HO_9.out
         subst eo44
         go_wp2_with (first | (go_at_call 10; (with_reducible refine (laws_eqIntS.calls kj9 _ _ t465 _ _ t457 false _ ?side1 ?side2 ?side3 ?side4 A36.out).mono ?_); (case side1 => repeat (first | exact (Kd.R_reads' HO_13.out).2.2 | (with_reducible refine Kd.C_alloc ?_ _) | (with_reducible refine Kd.C_drewN ?_ _) | (with_reducible refine Kd.C_drew ?_))); (case side2 => exact (Kd.R_reads' HO_13.out).2.1); (case side3 => repeat (first | exact (Kd.R_reads' HO_9.out).2.2 | (with_reducible refine Kd.C_alloc ?_ _) | (with_reducible refine Kd.C_drewN ?_ _) | (with_reducible refine Kd.C_drew ?_))); (case side4 => exact (Kd.R_reads' HO_9.out).2.1); rintro e w' ⟨rfl, ⟨nd, rfl⟩⟩))
         go_meet
         case rel => exact ⟨_, (true), RF, H', ⟨by have := HJ9.out; first | omega | exact Nat.le_refl _⟩, ⟨by (with_reducible repeat (first | apply Kd.R_alloc | apply Kd.R_drewN | apply Kd.R_drew)); exact Kd.R_mono HO_9.out (fun _ hk => hk.2.1)⟩, ⟨by (with_reducible repeat (first | apply Kd.R_alloc | apply Kd.R_drewN | apply Kd.R_drew)); exact Kd.R_mono HO_13.out (fun _ hk => hk.1)⟩, ⟨BB⟩⟩
      case rest =>
       clear HC31
       try clear c1
       try clear c2
       try clear p2
       try clear c3
       try clear c4
       try clear c5
       try clear c5b0
       try clear c5b1
       try clear p6
       try clear c8
       try clear c10
       try clear c11
       try clear c12
       try clear c13
       try clear c18
       try clear c19
       try clear c19b0
       try clear c19b1
       try clear c19b2
       try clear c26
       try clear c29
       try clear c35
       try clear c35b0
       try clear c37
       try clear c38
       try clear c38b0
       try clear c38b1
       try clear c38b2
       try clear p2
       try clear p6
       obtain ⟨kq, x85_30, rfl, HA, HJ30, HO_9, HO_13, HB⟩ := hcut
       cases kq with
       | zero => exact absurd HA.out (by simp [laws_FnExactWalkFrom.j1])
       | succ kj30 =>
        have H := HA.out
        clear HA
        simp only [laws_FnExactWalkFrom.j1] at H
        by_cases c45 : x85_30 = true
        ·subst c45
         have H1 : (some false) = some r := by rw [if_pos rfl] at H; exact H
         clear H
         have H := H1
         clear H1
         obtain rfl := Option.some.inj H
         go_wp2
         go_ret
         exact ⟨by first | rfl | (simp [errW_none, errW_some] <;> rfl) | (simp [*, errW_none, errW_some] <;> rfl), BB⟩
        ·replace c45 := Bool.eq_false_iff.mpr c45
         subst c45
         have H1 : ((laws_markIntS.f kj30 t465 1).bind fun bt478 => ((laws_heldIntS.f kj30 bt478.2 1).bind fun t480 => (if t480 < 0 then (some false) else (if t480 = bt478.1 then ((laws_toIntS.f kj30 l1).bind fun t481 => ((impl_WalkFrom.f kj30 a0 t481 a2 a3).bind fun bt484 => ((laws_eqIntS.f kj30 bt484.1 t457).bind fun t489 => (if t489 = true then (if (bt484.2.1 != t458) = true then (laws_FnExactWalkFrom.j2 kj30 bt478.2 bt478.1 true) else (laws_FnExactWalkFrom.j2 kj30 bt478.2 bt478.1 (bt484.2.2 != t459))) else (laws_FnExactWalkFrom.j2 kj30 bt478.2 bt478.1 true))))) else (some false))))) = some r := by rw [if_neg (show ¬ (false = true) by decide)] at H; exact H
         clear H
         have H := H1
         clear H1
         replace H := Option.bind_eq_some_iff.mp H
         obtain ⟨⟨t478, t479⟩, A460, H⟩ := H
         replace H : ((laws_heldIntS.f kj30 t479 1).bind fun t480 => (if t480 < 0 then (some false) else (if t480 = t478 then ((laws_toIntS.f kj30 l1).bind fun t481 => ((impl_WalkFrom.f kj30 a0 t481 a2 a3).bind fun bt484 => ((laws_eqIntS.f kj30 bt484.1 t457).bind fun t489 => (if t489 = true then (if (bt484.2.1 != t458) = true then (laws_FnExactWalkFrom.j2 kj30 t479 t478 true) else (laws_FnExactWalkFrom.j2 kj30 t479 t478 (bt484.2.2 != t459))) else (laws_FnExactWalkFrom.j2 kj30 t479 t478 true))))) else (some false)))) = some r := H
         have A46 := Aside0.mk A460
         clear A460
         replace H := Option.bind_eq_some_iff.mp H
         obtain ⟨t480, A470, H⟩ := H
         replace H : (if t480 < 0 then (some false) else (if t480 = t478 then ((laws_toIntS.f kj30 l1).bind fun t481 => ((impl_WalkFrom.f kj30 a0 t481 a2 a3).bind fun bt484 => ((laws_eqIntS.f kj30 bt484.1 t457).bind fun t489 => (if t489 = true then (if (bt484.2.1 != t458) = true then (laws_FnExactWalkFrom.j2 kj30 t479 t478 true) else (laws_FnExactWalkFrom.j2 kj30 t479 t478 (bt484.2.2 != t459))) else (laws_FnExactWalkFrom.j2 kj30 t479 t478 true))))) else (some false))) = some r := H
         have A47 := Aside0.mk A470
         clear A470
         by_cases c48 : t480 < 0
         ·rw [if_pos c48] at H
          have c48b0 : decide (t480 < 0) = true := decide_eq_true c48
          clear c48
          obtain rfl := Option.some.inj H
          obtain ⟨Ao49, co49, eo49⟩ := Kd.R_slice HO_13.out
          subst eo49
          go_wp2_with (first | ((with_reducible refine gate_callee (f := 13) rfl ?_); refine goesL_ (some 88) rfl rfl Try.func13 (by kernel_rfl) rfl #[.slice Ao49 t465.length co49, .int .i64 1] rfl TA ?_; (with_reducible refine (laws_markIntS.calls kj30 (fun k_ => some k_ = (.slice Ao49 t465.length co49 : Value).ownBlock) (.slice Ao49 t465.length co49) t465 1 t478 t479 w _ ?side1 ?side2 A46.out).mono ?_); (case side1 => repeat (first | (with_reducible first | exact HB.out | apply below_alloc | apply pw_below_drewN | apply below_drew1) | exact HB.out)); (case side2 => exact Kd.R_tight rfl HO_13.out); rintro e w50 ⟨rfl, hy0, hb, hkp⟩; refine ⟨_, rfl, ?_⟩; have n0_ := Aside0.mk (Kd.R_mono (ok' := fun k_ => some k_ ≠ (.slice Ao49 t465.length co49 : Value).ownBlock) (Kd.R_keptB (HO_9.out) hkp (fun k_ hk_ hs_ => (hk_) hs_)) (fun k_ hk_ => hk_.1)); have n1_ := Aside0.mk (Kd.R_reok rfl hy0 (fun k_ e_ => HO_13.out.1 k_ e_)); have n2_ := Aside0.mk (hb); clear HO_9; clear HO_13; clear HB; have HO_9 := n0_; have HO_13 := n1_; have HB := n2_; clear n0_ n1_ n2_; (try clear hb); (try clear hkp); (try clear hy0)) | ((with_reducible refine gate_callee (f := 14) rfl ?_); refine goesL_ (some 91) rfl rfl Try.func14 (by kernel_rfl) rfl #[.slice Ao49 t479.length co49, .int .i64 1] rfl (by (try simp only [List.map_toArray, List.map_cons, List.map_nil]); first | done | (rw [show t479.length = t465.length from (Kd.R_reads' HO_13.out).1.symm] <;> rfl) | rfl | (simp only [List.length_drop, List.length_take]; rfl)) ?_; (with_reducible refine (laws_heldIntS.calls kj30 _ _ t479 1 t480 _ ?side1 ?side2 A47.out).mono ?_); (case side1 => repeat (first | exact (Kd.R_reads' HO_13.out).2.2 | (with_reducible refine Kd.C_alloc ?_ _) | (with_reducible refine Kd.C_drewN ?_ _) | (with_reducible refine Kd.C_drew ?_))); (case side2 => rw [show t479.length = t465.length from (Kd.R_reads' HO_13.out).1.symm]; exact (Kd.R_reads' HO_13.out).2.1); rintro e w' ⟨rfl, ⟨nd, rfl⟩⟩; refine ⟨_, rfl, ?_⟩))
          go_ret
          exact ⟨by first | rfl | (simp [errW_none, errW_some] <;> rfl) | (simp [*, errW_none, errW_some] <;> rfl), BB⟩
         ·rw [if_neg c48] at H
          have c48b0 : decide (t480 < 0) = false := decide_eq_false c48
          clear c48
          by_cases c51 : t480 = t478
          ·rw [if_pos c51] at H
           have c51b0 : (t480 == t478) = true := beq_iff_eq.mpr c51
           have c51b1 : (t480 != t478) = false := bne_eq_false_iff_eq.mpr c51
           clear c51
           replace H := Option.bind_eq_some_iff.mp H
           obtain ⟨t481, A520, H⟩ := H
           replace H : ((impl_WalkFrom.f kj30 a0 t481 a2 a3).bind fun bt484 => ((laws_eqIntS.f kj30 bt484.1 t457).bind fun t489 => (if t489 = true then (if (bt484.2.1 != t458) = true then (laws_FnExactWalkFrom.j2 kj30 t479 t478 true) else (laws_FnExactWalkFrom.j2 kj30 t479 t478 (bt484.2.2 != t459))) else (laws_FnExactWalkFrom.j2 kj30 t479 t478 true)))) = some r := H
           have A52 := Aside0.mk A520
           clear A520
           replace H := Option.bind_eq_some_iff.mp H
           obtain ⟨⟨t484, t485, t486⟩, A530, H⟩ := H
           replace H : ((laws_eqIntS.f kj30 t484 t457).bind fun t489 => (if t489 = true then (if (t485 != t458) = true then (laws_FnExactWalkFrom.j2 kj30 t479 t478 true) else (laws_FnExactWalkFrom.j2 kj30 t479 t478 (t486 != t459))) else (laws_FnExactWalkFrom.j2 kj30 t479 t478 true))) = some r := H
           have A53 := Aside0.mk A530
           clear A530
           have HC54 := Aside0.mk H
           clear H
           obtain ⟨Ao55, co55, eo55⟩ := Kd.R_slice HO_13.out
           subst eo55
           go_upto_region 23 with (first | ((with_reducible refine gate_callee (f := 13) rfl ?_); refine goesL_ (some 88) rfl rfl Try.func13 (by kernel_rfl) rfl #[.slice Ao55 t465.length co55, .int .i64 1] rfl TA ?_; (with_reducible refine (laws_markIntS.calls kj30 (fun k_ => some k_ = (.slice Ao55 t465.length co55 : Value).ownBlock) (.slice Ao55 t465.length co55) t465 1 t478 t479 w _ ?side1 ?side2 A46.out).mono ?_); (case side1 => repeat (first | (with_reducible first | exact HB.out | apply below_alloc | apply pw_below_drewN | apply below_drew1) | exact HB.out)); (case side2 => exact Kd.R_tight rfl HO_13.out); rintro e w56 ⟨rfl, hy0, hb, hkp⟩; refine ⟨_, rfl, ?_⟩; have n0_ := Aside0.mk (Kd.R_mono (ok' := fun k_ => some k_ ≠ (.slice Ao55 t465.length co55 : Value).ownBlock) (Kd.R_keptB (HO_9.out) hkp (fun k_ hk_ hs_ => (hk_) hs_)) (fun k_ hk_ => hk_.1)); have n1_ := Aside0.mk (Kd.R_reok rfl hy0 (fun k_ e_ => HO_13.out.1 k_ e_)); have n2_ := Aside0.mk (hb); clear HO_9; clear HO_13; clear HB; have HO_9 := n0_; have HO_13 := n1_; have HB := n2_; clear n0_ n1_ n2_; (try clear hb); (try clear hkp); (try clear hy0)) | ((with_reducible refine gate_callee (f := 14) rfl ?_); refine goesL_ (some 91) rfl rfl Try.func14 (by kernel_rfl) rfl #[.slice Ao55 t479.length co55, .int .i64 1] rfl (by (try simp only [List.map_toArray, List.map_cons, List.map_nil]); first | done | (rw [show t479.length = t465.length from (Kd.R_reads' HO_13.out).1.symm] <;> rfl) | rfl | (simp only [List.length_drop, List.length_take]; rfl)) ?_; (with_reducible refine (laws_heldIntS.calls kj30 _ _ t479 1 t480 _ ?side1 ?side2 A47.out).mono ?_); (case side1 => repeat (first | exact (Kd.R_reads' HO_13.out).2.2 | (with_reducible refine Kd.C_alloc ?_ _) | (with_reducible refine Kd.C_drewN ?_ _) | (with_reducible refine Kd.C_drew ?_))); (case side2 => rw [show t479.length = t465.length from (Kd.R_reads' HO_13.out).1.symm]; exact (Kd.R_reads' HO_13.out).2.1); rintro e w' ⟨rfl, ⟨nd, rfl⟩⟩; refine ⟨_, rfl, ?_⟩) | ((with_reducible refine gate_callee (f := 8) rfl ?_); refine goesL_ (some 100) rfl rfl Try.func8 (by kernel_rfl) rfl #[.slice A1 l1.length c1] rfl TA ?_; (with_reducible refine (laws_toIntS.calls kj30 _ _ l1 t481 _ ?side1 ?side2 A52.out).mono ?_); (case side1 => repeat (first | exact (Kd.C_below HR1.out BB) | (with_reducible refine Kd.C_alloc ?_ _) | (with_reducible refine Kd.C_drewN ?_ _) | (with_reducible refine Kd.C_drew ?_))); (case side2 => exact HC1.out); rintro e w57 ⟨v482, rfl, ho0, hb⟩; refine ⟨_, rfl, ?_⟩; have n0_ := Aside0.mk (Kd.R_elder' (KR HO_9) (Kd.R_base ho0) hb); have n1_ := Aside0.mk (Kd.R_elder' (KR HO_13) (Kd.R_base ho0) hb); have n2_ := Aside0.mk (Kd.R_lower (Kd.R_new' (Kd.R_new' ho0 (Kd.R_lt (KR HO_9))) (Kd.R_lt (KR HO_13))) (below_size BB)); have n3_ := Aside0.mk (below_step BB hb); clear HO_9; clear HO_13; clear HB; have HO_9 := n0_; have HO_13 := n1_; have HO483 := n2_; have HB := n3_; clear n0_ n1_ n2_ n3_; (try clear hb); (try clear hb2); (try clear hk); (try clear hi); (try clear ho0); obtain ⟨Ao58, co58, eo58⟩ := Kd.R_slice HO483.out; subst eo58) | ((with_reducible refine gate_callee (f := 12) rfl ?_); refine goesL_ (some 103) rfl rfl Try.func12 (by kernel_rfl) rfl #[.int .i64 a0, .slice Ao58 t481.length co58, .int .i64 a2, .int .i64 a3] rfl TA ?_; (with_reducible refine (impl_WalkFrom.calls kj30 a0 _ _ t481 a2 a3 t484 t485 t486 _ ?side1 ?side2 A53.out).mono ?_); (case side1 => repeat (first | exact (Kd.R_reads' HO483.out).2.2 | (with_reducible refine Kd.C_alloc ?_ _) | (with_reducible refine Kd.C_drewN ?_ _) | (with_reducible refine Kd.C_drew ?_))); (case side2 => exact (Kd.R_reads' HO483.out).2.1); rintro e w59 ⟨v487, rfl, ho0, hb⟩; refine ⟨_, rfl, ?_⟩; have n0_ := Aside0.mk (Kd.R_elder' (KR HO_9) (Kd.R_base ho0) hb); have n1_ := Aside0.mk (Kd.R_elder' (KR HO_13) (Kd.R_base ho0) hb); have n2_ := Aside0.mk (Kd.R_elder' (KR HO483) (Kd.R_base ho0) hb); have n3_ := Aside0.mk (Kd.R_lower (Kd.R_new' (Kd.R_new' (Kd.R_new' ho0 (Kd.R_lt (KR HO_9))) (Kd.R_lt (KR HO_13))) (Kd.R_lt (KR HO483))) (below_size BB)); have n4_ := Aside0.mk (below_step BB hb); clear HO_9; clear HO_13; clear HO483; clear HB; have HO_9 := n0_; have HO_13 := n1_; have HO483 := n2_; have HO488 := n3_; have HB := n4_; clear n0_ n1_ n2_ n3_ n4_; (try clear hb); (try clear hb2); (try clear hk); (try clear hi); (try clear ho0)))
           (try simp only [Act.put, List.setIfInBounds_toArray, List.set_cons_zero, List.set_cons_succ])
           go_cut [120] (fun v120 wc => ∃ (kq : Nat) (x120_53 : Bool), v120 = .bool x120_53 ∧ Aside0 (laws_FnExactWalkFrom.j2 kq t479 t478 x120_53 = some r) ∧ Aside0 (kq ≤ kj30) ∧ Aside0 (Kd.R (Kd.int .i64) 3 wc w.heap.size (fun _ => True) (.slice Ao55 t465.length co55) t479) ∧ Aside0 (Below w.heap.size w wc))
           case first =>
            have H := HC54.out
            clear HC54
            replace H := Option.bind_eq_some_iff.mp H
            obtain ⟨t489, A600, H⟩ := H
            replace H : (if t489 = true then (if (t485 != t458) = true then (laws_FnExactWalkFrom.j2 kj30 t479 t478 true) else (laws_FnExactWalkFrom.j2 kj30 t479 t478 (t486 != t459))) else (laws_FnExactWalkFrom.j2 kj30 t479 t478 true)) = some r := H
            have A60 := Aside0.mk A600
            clear A600
            by_cases c61 : t489 = true
            ·subst c61
             have H1 : (if (t485 != t458) = true then (laws_FnExactWalkFrom.j2 kj30 t479 t478 true) else (laws_FnExactWalkFrom.j2 kj30 t479 t478 (t486 != t459))) = some r := by rw [if_pos rfl] at H; exact H
             clear H
             have H := H1
             clear H1
             by_cases c62 : (t485 != t458) = true
             ·rw [if_pos c62] at H
              have c62b0 : (t485 != t458) = true := c62
              (try (have c62b1 : decide (t485 = t458) = false := by simpa using c62))
              (try (have c62b2 : (t485 == t458) = false := by simpa using c62))
              (try (have c62b3 : ¬ (t485 = t458) := by simpa using c62))
              clear c62
              (first | rw [c62b0] | (simp only [i64_w, i32_w]; rw [c62b0]) | skip)
              have H' := Aside0.mk H
              clear H
              obtain ⟨Ao63, co63, eo63⟩ := Kd.R_slice HO488.out
              subst eo63
              obtain ⟨Ao64, co64, eo64⟩ := Kd.R_slice HO_9.out
              subst eo64
              go_wp2_with (first | ((with_reducible refine gate_callee (f := 10) rfl ?_); refine goesL_ (some 109) rfl rfl Try.func10 (by kernel_rfl) rfl #[.slice Ao63 t484.length co63, .slice Ao64 t457.length co64] rfl TA ?_; (with_reducible refine (laws_eqIntS.calls kj30 _ _ t484 _ _ t457 true _ ?side1 ?side2 ?side3 ?side4 A60.out).mono ?_); (case side1 => repeat (first | exact (Kd.R_reads' HO488.out).2.2 | (with_reducible refine Kd.C_alloc ?_ _) | (with_reducible refine Kd.C_drewN ?_ _) | (with_reducible refine Kd.C_drew ?_))); (case side2 => exact (Kd.R_reads' HO488.out).2.1); (case side3 => repeat (first | exact (Kd.R_reads' HO_9.out).2.2 | (with_reducible refine Kd.C_alloc ?_ _) | (with_reducible refine Kd.C_drewN ?_ _) | (with_reducible refine Kd.C_drew ?_))); (case side4 => exact (Kd.R_reads' HO_9.out).2.1); rintro e w' ⟨rfl, ⟨nd, rfl⟩⟩; refine ⟨_, rfl, ?_⟩))
              go_meet
              case rel => exact ⟨_, (true), RF, H', ⟨by have := HJ9.out; have := HJ30.out; first | omega | exact Nat.le_refl _⟩, ⟨by (with_reducible repeat (first | apply Kd.R_alloc | apply Kd.R_drewN | apply Kd.R_drew)); exact Kd.R_mono HO_13.out (fun _ hk => trivial)⟩, ⟨BB⟩⟩
             ·rw [if_neg c62] at H
              have c62b0 : (t485 != t458) = false := by simpa using c62
              (try (have c62b1 : decide (t485 = t458) = true := by simpa using c62))
              (try (have c62b2 : (t485 == t458) = true := by simpa using c62))
              clear c62
              (first | rw [c62b0] | (simp only [i64_w, i32_w]; rw [c62b0]) | skip)
              have H' := Aside0.mk H
              clear H
              obtain ⟨Ao65, co65, eo65⟩ := Kd.R_slice HO488.out
              subst eo65
              obtain ⟨Ao66, co66, eo66⟩ := Kd.R_slice HO_9.out
              subst eo66
              go_wp2_with (first | ((with_reducible refine gate_callee (f := 10) rfl ?_); refine goesL_ (some 109) rfl rfl Try.func10 (by kernel_rfl) rfl #[.slice Ao65 t484.length co65, .slice Ao66 t457.length co66] rfl TA ?_; (with_reducible refine (laws_eqIntS.calls kj30 _ _ t484 _ _ t457 true _ ?side1 ?side2 ?side3 ?side4 A60.out).mono ?_); (case side1 => repeat (first | exact (Kd.R_reads' HO488.out).2.2 | (with_reducible refine Kd.C_alloc ?_ _) | (with_reducible refine Kd.C_drewN ?_ _) | (with_reducible refine Kd.C_drew ?_))); (case side2 => exact (Kd.R_reads' HO488.out).2.1); (case side3 => repeat (first | exact (Kd.R_reads' HO_9.out).2.2 | (with_reducible refine Kd.C_alloc ?_ _) | (with_reducible refine Kd.C_drewN ?_ _) | (with_reducible refine Kd.C_drew ?_))); (case side4 => exact (Kd.R_reads' HO_9.out).2.1); rintro e w' ⟨rfl, ⟨nd, rfl⟩⟩; refine ⟨_, rfl, ?_⟩))
              go_meet
              case rel => exact ⟨_, ((t486 != t459)), RF, H', ⟨by have := HJ9.out; have := HJ30.out; first | omega | exact Nat.le_refl _⟩, ⟨by (with_reducible repeat (first | apply Kd.R_alloc | apply Kd.R_drewN | apply Kd.R_drew)); exact Kd.R_mono HO_13.out (fun _ hk => trivial)⟩, ⟨BB⟩⟩
            ·replace c61 := Bool.eq_false_iff.mpr c61
             subst c61
             have H1 : (laws_FnExactWalkFrom.j2 kj30 t479 t478 true) = some r := by rw [if_neg (show ¬ (false = true) by decide)] at H; exact H
             clear H
             have H := H1
             clear H1
             have H' := Aside0.mk H
             clear H
             obtain ⟨Ao67, co67, eo67⟩ := Kd.R_slice HO488.out
             subst eo67
             obtain ⟨Ao68, co68, eo68⟩ := Kd.R_slice HO_9.out
             subst eo68
             go_wp2_with (first | ((with_reducible refine gate_callee (f := 10) rfl ?_); refine goesL_ (some 109) rfl rfl Try.func10 (by kernel_rfl) rfl #[.slice Ao67 t484.length co67, .slice Ao68 t457.length co68] rfl TA ?_; (with_reducible refine (laws_eqIntS.calls kj30 _ _ t484 _ _ t457 false _ ?side1 ?side2 ?side3 ?side4 A60.out).mono ?_); (case side1 => repeat (first | exact (Kd.R_reads' HO488.out).2.2 | (with_reducible refine Kd.C_alloc ?_ _) | (with_reducible refine Kd.C_drewN ?_ _) | (with_reducible refine Kd.C_drew ?_))); (case side2 => exact (Kd.R_reads' HO488.out).2.1); (case side3 => repeat (first | exact (Kd.R_reads' HO_9.out).2.2 | (with_reducible refine Kd.C_alloc ?_ _) | (with_reducible refine Kd.C_drewN ?_ _) | (with_reducible refine Kd.C_drew ?_))); (case side4 => exact (Kd.R_reads' HO_9.out).2.1); rintro e w' ⟨rfl, ⟨nd, rfl⟩⟩; refine ⟨_, rfl, ?_⟩))
             go_meet
             case rel => exact ⟨_, (true), RF, H', ⟨by have := HJ9.out; have := HJ30.out; first | omega | exact Nat.le_refl _⟩, ⟨by (with_reducible repeat (first | apply Kd.R_alloc | apply Kd.R_drewN | apply Kd.R_drew)); exact Kd.R_mono HO_13.out (fun _ hk => trivial)⟩, ⟨BB⟩⟩
           case rest =>
            clear HC54
            try clear c1
            try clear c2
            try clear p2
            try clear c3
            try clear c4
            try clear c5
            try clear c5b0
            try clear c5b1
            try clear c6
            try clear p6
            try clear c8
            try clear c10
            try clear c11
            try clear c12
            try clear c13
            try clear c14
            try clear c18
            try clear c19
            try clear c19b0
            try clear c19b1
            try clear c19b2
            try clear c26
            try clear c29
            try clear c35
            try clear c35b0
            try clear c37
            try clear c38
            try clear c38b0
            try clear c38b1
            try clear c38b2
            try clear c45
            try clear c48
            try clear c48b0
            try clear c51
            try clear c51b0
            try clear c51b1
            try clear c61
            try clear c62
            try clear c62b0
            try clear c62b1
            try clear c62b2
            try clear p64
            try clear p2
            try clear p6
            obtain ⟨kq, x120_53, rfl, HA, HJ53, HO_13, HB⟩ := hcut
            have hl13_53 := (Kd.R_reads' HO_13.out).1
            rw [hl13_53] at HO_13
            (try simp only [hl13_53])
            cases kq with
            | zero => exact absurd HA.out (by simp [laws_FnExactWalkFrom.j2])
            | succ kj53 =>
             have H := HA.out
             clear HA
             simp only [laws_FnExactWalkFrom.j2] at H
             by_cases c69 : x120_53 = true
             ·subst c69
              have H1 : (some false) = some r := by rw [if_pos rfl] at H; exact H
              clear H
              have H := H1
              clear H1
              obtain rfl := Option.some.inj H
              go_wp2
              go_ret
              exact ⟨by first | rfl | (simp [errW_none, errW_some] <;> rfl) | (simp [*, errW_none, errW_some] <;> rfl), BB⟩
             ·replace c69 := Bool.eq_false_iff.mpr c69
              subst c69
              have H1 : ((laws_heldIntS.f kj53 t479 1).bind fun t490 => (if t490 < 0 then (some false) else (if t490 = t478 then (some true) else (some false)))) = some r := by rw [if_neg (show ¬ (false = true) by decide)] at H; exact H
              clear H
              have H := H1
              clear H1
              replace H := Option.bind_eq_some_iff.mp H
              obtain ⟨t490, A700, H⟩ := H
              replace H : (if t490 < 0 then (some false) else (if t490 = t478 then (some true) else (some false))) = some r := H
              have A70 := Aside0.mk A700
              clear A700
              by_cases c71 : t490 < 0
              ·rw [if_pos c71] at H
               have c71b0 : decide (t490 < 0) = true := decide_eq_true c71
               clear c71
               obtain rfl := Option.some.inj H
               go_wp2_with (first | ((with_reducible refine gate_callee (f := 14) rfl ?_); refine goesL_ (some 123) rfl rfl Try.func14 (by kernel_rfl) rfl #[.slice Ao55 t479.length co55, .int .i64 1] rfl TA ?_; (with_reducible refine (laws_heldIntS.calls kj53 _ _ t479 1 t490 _ ?side1 ?side2 A70.out).mono ?_); (case side1 => repeat (first | exact (Kd.R_reads' HO_13.out).2.2 | (with_reducible refine Kd.C_alloc ?_ _) | (with_reducible refine Kd.C_drewN ?_ _) | (with_reducible refine Kd.C_drew ?_))); (case side2 => exact (Kd.R_reads' HO_13.out).2.1); rintro e w' ⟨rfl, ⟨nd, rfl⟩⟩; refine ⟨_, rfl, ?_⟩))
               go_ret
               exact ⟨by first | rfl | (simp [errW_none, errW_some] <;> rfl) | (simp [*, errW_none, errW_some] <;> rfl), BB⟩
              ·rw [if_neg c71] at H
               have c71b0 : decide (t490 < 0) = false := decide_eq_false c71
               clear c71
               by_cases c72 : t490 = t478
               ·rw [if_pos c72] at H
                have c72b0 : (t490 == t478) = true := beq_iff_eq.mpr c72
                have c72b1 : (t490 != t478) = false := bne_eq_false_iff_eq.mpr c72
                clear c72
                obtain rfl := Option.some.inj H
                go_wp2_with (first | ((with_reducible refine gate_callee (f := 14) rfl ?_); refine goesL_ (some 123) rfl rfl Try.func14 (by kernel_rfl) rfl #[.slice Ao55 t479.length co55, .int .i64 1] rfl TA ?_; (with_reducible refine (laws_heldIntS.calls kj53 _ _ t479 1 t490 _ ?side1 ?side2 A70.out).mono ?_); (case side1 => repeat (first | exact (Kd.R_reads' HO_13.out).2.2 | (with_reducible refine Kd.C_alloc ?_ _) | (with_reducible refine Kd.C_drewN ?_ _) | (with_reducible refine Kd.C_drew ?_))); (case side2 => exact (Kd.R_reads' HO_13.out).2.1); rintro e w' ⟨rfl, ⟨nd, rfl⟩⟩; refine ⟨_, rfl, ?_⟩))
                go_ret
                exact ⟨by first | rfl | (simp [errW_none, errW_some] <;> rfl) | (simp [*, errW_none, errW_some] <;> rfl), BB⟩
               ·rw [if_neg c72] at H
                have c72b0 : (t490 == t478) = false := beq_eq_false_iff_ne.mpr c72
                have c72b1 : (t490 != t478) = true := bne_iff_ne.mpr c72
                obtain rfl := Option.some.inj H
                go_wp2_with (first | ((with_reducible refine gate_callee (f := 14) rfl ?_); refine goesL_ (some 123) rfl rfl Try.func14 (by kernel_rfl) rfl #[.slice Ao55 t479.length co55, .int .i64 1] rfl TA ?_; (with_reducible refine (laws_heldIntS.calls kj53 _ _ t479 1 t490 _ ?side1 ?side2 A70.out).mono ?_); (case side1 => repeat (first | exact (Kd.R_reads' HO_13.out).2.2 | (with_reducible refine Kd.C_alloc ?_ _) | (with_reducible refine Kd.C_drewN ?_ _) | (with_reducible refine Kd.C_drew ?_))); (case side2 => exact (Kd.R_reads' HO_13.out).2.1); rintro e w' ⟨rfl, ⟨nd, rfl⟩⟩; refine ⟨_, rfl, ?_⟩))
                go_ret
                exact ⟨by first | rfl | (simp [errW_none, errW_some] <;> rfl) | (simp [*, errW_none, errW_some] <;> rfl), BB⟩
          ·rw [if_neg c51] at H
           have c51b0 : (t480 == t478) = false := beq_eq_false_iff_ne.mpr c51
           have c51b1 : (t480 != t478) = true := bne_iff_ne.mpr c51
           obtain rfl := Option.some.inj H
           obtain ⟨Ao73, co73, eo73⟩ := Kd.R_slice HO_13.out
           subst eo73
           go_wp2_with (first | ((with_reducible refine gate_callee (f := 13) rfl ?_); refine goesL_ (some 88) rfl rfl Try.func13 (by kernel_rfl) rfl #[.slice Ao73 t465.length co73, .int .i64 1] rfl TA ?_; (with_reducible refine (laws_markIntS.calls kj30 (fun k_ => some k_ = (.slice Ao73 t465.length co73 : Value).ownBlock) (.slice Ao73 t465.length co73) t465 1 t478 t479 w _ ?side1 ?side2 A46.out).mono ?_); (case side1 => repeat (first | (with_reducible first | exact HB.out | apply below_alloc | apply pw_below_drewN | apply below_drew1) | exact HB.out)); (case side2 => exact Kd.R_tight rfl HO_13.out); rintro e w74 ⟨rfl, hy0, hb, hkp⟩; refine ⟨_, rfl, ?_⟩; have n0_ := Aside0.mk (Kd.R_mono (ok' := fun k_ => some k_ ≠ (.slice Ao73 t465.length co73 : Value).ownBlock) (Kd.R_keptB (HO_9.out) hkp (fun k_ hk_ hs_ => (hk_) hs_)) (fun k_ hk_ => hk_.1)); have n1_ := Aside0.mk (Kd.R_reok rfl hy0 (fun k_ e_ => HO_13.out.1 k_ e_)); have n2_ := Aside0.mk (hb); clear HO_9; clear HO_13; clear HB; have HO_9 := n0_; have HO_13 := n1_; have HB := n2_; clear n0_ n1_ n2_; (try clear hb); (try clear hkp); (try clear hy0)) | ((with_reducible refine gate_callee (f := 14) rfl ?_); refine goesL_ (some 91) rfl rfl Try.func14 (by kernel_rfl) rfl #[.slice Ao73 t479.length co73, .int .i64 1] rfl (by (try simp only [List.map_toArray, List.map_cons, List.map_nil]); first | done | (rw [show t479.length = t465.length from (Kd.R_reads' HO_13.out).1.symm] <;> rfl) | rfl | (simp only [List.length_drop, List.length_take]; rfl)) ?_; (with_reducible refine (laws_heldIntS.calls kj30 _ _ t479 1 t480 _ ?side1 ?side2 A47.out).mono ?_); (case side1 => repeat (first | exact (Kd.R_reads' HO_13.out).2.2 | (with_reducible refine Kd.C_alloc ?_ _) | (with_reducible refine Kd.C_drewN ?_ _) | (with_reducible refine Kd.C_drew ?_))); (case side2 => rw [show t479.length = t465.length from (Kd.R_reads' HO_13.out).1.symm]; exact (Kd.R_reads' HO_13.out).2.1); rintro e w' ⟨rfl, ⟨nd, rfl⟩⟩; refine ⟨_, rfl, ?_⟩))
           go_ret
           exact ⟨by first | rfl | (simp [errW_none, errW_some] <;> rfl) | (simp [*, errW_none, errW_some] <;> rfl), BB⟩
     ·replace c29 := Bool.eq_false_iff.mpr c29
      subst c29
      have H1 : (some false) = some r := by rw [if_neg (show ¬ (false = true) by decide)] at H; exact H
      clear H
      have H := H1
      clear H1
      obtain rfl := Option.some.inj H
      go_wp2_with (first | ((with_reducible refine gate_callee (f := 8) rfl ?_); refine goesL_ (some 62) rfl rfl Try.func8 (by kernel_rfl) rfl #[.slice A1 l1.length c1] rfl TA ?_; (with_reducible refine (laws_toIntS.calls kj9 _ _ l1 t471 _ ?side1 ?side2 A27.out).mono ?_); (case side1 => repeat (first | exact (Kd.C_below HR1.out HB.out) | (with_reducible refine Kd.C_alloc ?_ _) | (with_reducible refine Kd.C_drewN ?_ _) | (with_reducible refine Kd.C_drew ?_))); (case side2 => exact HC1.out); rintro e w75 ⟨v472, rfl, ho0, hb⟩; refine ⟨_, rfl, ?_⟩; have n0_ := Aside0.mk (Kd.R_elder' (KR HO_9) (Kd.R_base ho0) hb); have n1_ := Aside0.mk (Kd.R_elder' (KR HO_12) (Kd.R_base ho0) hb); have n2_ := Aside0.mk (Kd.R_elder' (KR HO_13) (Kd.R_base ho0) hb); have n3_ := Aside0.mk (Kd.R_lower (Kd.R_new' (Kd.R_new' (Kd.R_new' ho0 (Kd.R_lt (KR HO_9))) (Kd.R_lt (KR HO_12))) (Kd.R_lt (KR HO_13))) (below_size BB)); have n4_ := Aside0.mk (below_step BB hb); clear HO_9; clear HO_12; clear HO_13; clear HB; have HO_9 := n0_; have HO_12 := n1_; have HO_13 := n2_; have HO473 := n3_; have HB := n4_; clear n0_ n1_ n2_ n3_ n4_; (try clear hb); (try clear hb2); (try clear hk); (try clear hi); (try clear ho0); obtain ⟨Ao76, co76, eo76⟩ := Kd.R_slice HO473.out; subst eo76) | ((with_reducible refine gate_callee (f := 10) rfl ?_); refine goesL_ (some 63) rfl rfl Try.func10 (by kernel_rfl) rfl #[.slice Ao15 t462.length co15, .slice Ao76 t471.length co76] rfl TA ?_; (with_reducible refine (laws_eqIntS.calls kj9 _ _ t462 _ _ t471 false _ ?side1 ?side2 ?side3 ?side4 A28.out).mono ?_); (case side1 => repeat (first | exact (Kd.R_reads' HO_12.out).2.2 | (with_reducible refine Kd.C_alloc ?_ _) | (with_reducible refine Kd.C_drewN ?_ _) | (with_reducible refine Kd.C_drew ?_))); (case side2 => exact (Kd.R_reads' HO_12.out).2.1); (case side3 => repeat (first | exact (Kd.R_reads' HO473.out).2.2 | (with_reducible refine Kd.C_alloc ?_ _) | (with_reducible refine Kd.C_drewN ?_ _) | (with_reducible refine Kd.C_drew ?_))); (case side4 => exact (Kd.R_reads' HO473.out).2.1); rintro e w' ⟨rfl, ⟨nd, rfl⟩⟩; refine ⟨_, rfl, ?_⟩))
      go_ret
      exact ⟨by first | rfl | (simp [errW_none, errW_some] <;> rfl) | (simp [*, errW_none, errW_some] <;> rfl), BB⟩

/-- THE ONE PURE STATEMENT of laws_FnExactWalkFrom: yours. -/
def laws_FnExactWalkFrom.Pure : Prop := ∀ (a0 : Int) (l1 : List Int) (a2 : Int) (a3 : Int), (Lit.int .i64 a0).wf = true → l1.length ≤ maxLen → l1.length * 8 ≤ 140737488351232 → (∀ x ∈ l1, (Lit.int .i64 x).wf = true) → (Lit.int .i64 a2).wf = true → (Lit.int .i64 a3).wf = true → ∃ k, laws_FnExactWalkFrom.f k a0 l1 a2 a3 = some true
theorem laws_FnExactWalkFrom.walk (P : laws_FnExactWalkFrom.Pure) (a0 : Int) (a1 : Option Addr) (len1 cap1 : Nat) (z1 : List Int) (a2 : Int) (a3 : Int) (w : World) (w0 : (Lit.int .i64 a0).wf = true) (w1 : (a1 = none ∧ len1 = 0 ∧ cap1 = 0 ∧ z1 = []) ∨ ∃ x, a1 = some x ∧ len1 ≤ cap1 ∧ cap1 ≤ maxLen ∧ z1.length = cap1 ∧ (∀ i, i < z1.length → w.cell? (x.add i) = some (.int .i64 (z1.getD i 0))) ∧ ∀ n ∈ z1, (Lit.int .i64 n).wf = true) (y1 : len1 * 8 ≤ 140737488351232) (w2 : (Lit.int .i64 a2).wf = true) (w3 : (Lit.int .i64 a3).wf = true) :
  Calls Try.prog 4 #[.int .i64 a0, .slice a1 len1 cap1, .int .i64 a2, .int .i64 a3] w fun e w' => e = .returned (.bool true) ∧ Below w.heap.size w w' := by
 obtain ⟨l1, rfl, hr1, hm1, hw1, hc1⟩ := ReadsInt.ofRowC w1
 obtain ⟨k, h⟩ := P a0 l1 a2 a3 w0 hm1 y1 hw1 w2 w3
 refine (laws_FnExactWalkFrom.calls k a0 _ _ l1 a2 a3 true w (Kd.C_of_reads (d := (0 : Int)) (h1 := fun _ => rfl) hr1) hc1 h).mono ?_
 rintro e w' ⟨rfl, hd⟩
 exact ⟨rfl, hd⟩

end Go.Proofs.Ytgpplbaloajgdaa.PFnExactWalkFrom
