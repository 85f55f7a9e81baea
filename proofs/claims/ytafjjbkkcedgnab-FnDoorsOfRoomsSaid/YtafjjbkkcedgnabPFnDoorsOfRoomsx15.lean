-- Written by a program of this session (wip/tools/pp.sh) out of the translation; Lean checks it.
import Derived.Test.YtafjjbkkcedgnabPFnDoorsOfRoomsx0
import Derived.Test.YtafjjbkkcedgnabPFnDoorsOfRoomsx1
import Derived.Test.YtafjjbkkcedgnabPFnDoorsOfRoomsx3
import Derived.Test.YtafjjbkkcedgnabPFnDoorsOfRoomsx9
namespace Go.Proofs.Ytafjjbkkcedgnab.PFnDoorsOfRooms
open Go.RowKit Go.Proofs.YtafjjbkkcedgnabOwn Go.Proofs.YtafjjbkkcedgnabW.PrintWords Go.Proofs.YtafjjbkkcedgnabW.PrintLast Go.Proofs.YtafjjbkkcedgnabW.PrintMore
attribute [local go_sem] max2_int min2_int max_two min_two max_three min_three max_four min_four   -- for this text's walks alone
set_option linter.unusedVariables false
set_option maxHeartbeats 8000000
set_option maxRecDepth 100000
set_option linter.unusedSimpArgs false

/-! ### spec_mePoint: function 92 -/
def spec_mePoint.f (a0 : Int) (a1 : Int) : Option (Bool) := (spec_meSide.f a0).bind fun t611 => (if t611 = true then ((spec_meCount.f a0).bind fun t612 => ((spec_l1In.f a1 0 (wrap64 (t612 - 1))).bind fun t613 => (some t613))) else (some false))
theorem spec_mePoint.calls (a0 : Int) (a1 : Int) (r : Bool) (w : World) (h : spec_mePoint.f a0 a1 = some r) :
  Calls Try.prog 92 #[.int .i64 a0, .int .i64 a1] w fun e w' => e = .returned (.bool r) ∧ Drawn0 w w' := by
 have H : ((spec_meSide.f a0).bind fun t611 => (if t611 = true then ((spec_meCount.f a0).bind fun t612 => ((spec_l1In.f a1 0 (wrap64 (t612 - 1))).bind fun t613 => (some t613))) else (some false))) = some r := h
 clear h
 obtain ⟨t611, A30, H⟩ := Option.bind_eq_some_iff.mp H
 have A3 := Aside0.mk A30
 clear A30
 by_cases c4 : t611 = true
 ·subst c4
  replace H := IP H
  obtain ⟨t612, A50, H⟩ := Option.bind_eq_some_iff.mp H
  have A5 := Aside0.mk A50
  clear A50
  obtain ⟨t613, A60, H⟩ := Option.bind_eq_some_iff.mp H
  have A6 := Aside0.mk A60
  clear A60
  obtain rfl := Option.some.inj H
  go_enter Try.func92, Try.ntmps92
  go_wp2_with (first | ((with_reducible refine gate_callee (f := 83) rfl ?_); refine goesL_ (some 6) rfl rfl Try.func83 (by kernel_rfl) rfl #[.int .i64 a0] rfl TA ?_; (with_reducible refine (spec_meSide.calls a0 true _ A3.out).mono ?_); rintro e w' ⟨rfl, ⟨nd, rfl⟩⟩; refine ⟨_, rfl, ?_⟩) | (go_at_call 78; (with_reducible refine (spec_meCount.calls a0 t612 _ A5.out).mono ?_); rintro e w' ⟨rfl, ⟨nd, rfl⟩⟩) | (go_at_call 77; (with_reducible refine (spec_l1In.calls a1 0 (wrap64 (t612 - 1)) t613 _ A6.out).mono ?_); rintro e w' ⟨rfl, ⟨nd, rfl⟩⟩))
  go_ret
  exact ⟨RF, DR⟩
 ·replace c4 := Bool.eq_false_iff.mpr c4
  subst c4
  replace H := IN H
  obtain rfl := Option.some.inj H
  go_enter Try.func92, Try.ntmps92
  go_wp2_with (first | ((with_reducible refine gate_callee (f := 83) rfl ?_); refine goesL_ (some 6) rfl rfl Try.func83 (by kernel_rfl) rfl #[.int .i64 a0] rfl TA ?_; (with_reducible refine (spec_meSide.calls a0 false _ A3.out).mono ?_); rintro e w' ⟨rfl, ⟨nd, rfl⟩⟩; refine ⟨_, rfl, ?_⟩))
  go_ret
  exact ⟨RF, DR⟩

/-! ### spec_doPair: function 55 -/
def spec_doPair.f (k : Nat) (a0 : Int) (l1 : List Int) (a2 : Int) (a3 : Int) : Option (Bool) := (spec_meLabels.f k a0 l1).bind fun t614 => (if t614 = true then ((spec_mePoint.f a0 a2).bind fun t615 => (if t615 = true then ((spec_mePoint.f a0 a3).bind fun t616 => (if t616 = true then ((spec_meNear.f k a0 a2 a3).bind fun t617 => (some t617)) else (some false))) else (some false))) else (some false))
theorem spec_doPair.mono : ∀ a0 a1 a2 a3 k, LeO (spec_doPair.f k a0 a1 a2 a3) (spec_doPair.f (k + 1) a0 a1 a2 a3) := by
 intro a0 a1 a2 a3 k
 unfold spec_doPair.f
 repeat' first
   | with_reducible first | exact spec_meLabels.mono _ _ _ | exact spec_meNear.mono _ _ _ _ | exact LeO.refl _ | exact LeO.none _ | refine LeO.ite ?_ ?_ | refine LeO.bind ?_ (fun _ => ?_)
   | exact LeO.none _ | refine LeO.ite ?_ ?_ | refine LeO.bind ?_ (fun _ => ?_)
theorem spec_doPair.calls (k : Nat) (a0 : Int) (A1 : Option Addr) (c1 : Nat) (l1 : List Int) (a2 : Int) (a3 : Int) (r : Bool) (w : World) (hr1 : Kd.C (Kd.int .i64) w A1 l1.length l1) (hc1 : l1.length ≤ c1) (h : spec_doPair.f k a0 l1 a2 a3 = some r) :
  Calls Try.prog 55 #[.int .i64 a0, .slice A1 l1.length c1, .int .i64 a2, .int .i64 a3] w fun e w' => e = .returned (.bool r) ∧ Below w.heap.size w w' := by
 have HR1 := Aside0.mk hr1
 have HC1 := Aside0.mk hc1
 clear hr1 hc1
 have HB := Aside0.mk (Below.refl w.heap.size w)
 have H : ((spec_meLabels.f k a0 l1).bind fun t614 => (if t614 = true then ((spec_mePoint.f a0 a2).bind fun t615 => (if t615 = true then ((spec_mePoint.f a0 a3).bind fun t616 => (if t616 = true then ((spec_meNear.f k a0 a2 a3).bind fun t617 => (some t617)) else (some false))) else (some false))) else (some false))) = some r := h
 clear h
 obtain ⟨t614, A50, H⟩ := Option.bind_eq_some_iff.mp H
 have A5 := Aside0.mk A50
 clear A50
 by_cases c6 : t614 = true
 ·subst c6
  replace H := IP H
  obtain ⟨t615, A70, H⟩ := Option.bind_eq_some_iff.mp H
  have A7 := Aside0.mk A70
  clear A70
  by_cases c8 : t615 = true
  ·subst c8
   replace H := IP H
   obtain ⟨t616, A90, H⟩ := Option.bind_eq_some_iff.mp H
   have A9 := Aside0.mk A90
   clear A90
   by_cases c10 : t616 = true
   ·subst c10
    replace H := IP H
    obtain ⟨t617, A110, H⟩ := Option.bind_eq_some_iff.mp H
    have A11 := Aside0.mk A110
    clear A110
    obtain rfl := Option.some.inj H
    go_enter Try.func55, Try.ntmps55
    go_wp2_with (first | ((with_reducible refine gate_callee (f := 49) rfl ?_); refine goesL_ (some 11) rfl rfl Try.func49 (by kernel_rfl) rfl #[.int .i64 a0, .slice A1 l1.length c1] rfl TA ?_; (with_reducible refine (spec_meLabels.calls k a0 _ _ l1 true _ ?side1 ?side2 A5.out).mono ?_); (case side1 => exact CW HR1.out); (case side2 => exact HC1.out); rintro e w' ⟨rfl, ⟨nd, rfl⟩⟩; refine ⟨_, rfl, ?_⟩) | (go_at_call 92; (with_reducible refine (spec_mePoint.calls a0 a2 true _ A7.out).mono ?_); rintro e w' ⟨rfl, ⟨nd, rfl⟩⟩) | (go_at_call 92; (with_reducible refine (spec_mePoint.calls a0 a3 true _ A9.out).mono ?_); rintro e w' ⟨rfl, ⟨nd, rfl⟩⟩) | (go_at_call 50; (with_reducible refine (spec_meNear.calls k a0 a2 a3 t617 _ A11.out).mono ?_); rintro e w12 ⟨rfl, hb⟩; have n0_ := Aside0.mk (below_step BB hb); clear HB; have HB := n0_; clear n0_; (try clear hb); (try clear hb2); (try clear hk); (try clear hi)))
    go_ret
    exact ⟨RE, BB⟩
   ·replace c10 := Bool.eq_false_iff.mpr c10
    subst c10
    replace H := IN H
    obtain rfl := Option.some.inj H
    go_enter Try.func55, Try.ntmps55
    go_wp2_with (first | ((with_reducible refine gate_callee (f := 49) rfl ?_); refine goesL_ (some 11) rfl rfl Try.func49 (by kernel_rfl) rfl #[.int .i64 a0, .slice A1 l1.length c1] rfl TA ?_; (with_reducible refine (spec_meLabels.calls k a0 _ _ l1 true _ ?side1 ?side2 A5.out).mono ?_); (case side1 => exact CW HR1.out); (case side2 => exact HC1.out); rintro e w' ⟨rfl, ⟨nd, rfl⟩⟩; refine ⟨_, rfl, ?_⟩) | (go_at_call 92; (with_reducible refine (spec_mePoint.calls a0 a2 true _ A7.out).mono ?_); rintro e w' ⟨rfl, ⟨nd, rfl⟩⟩) | (go_at_call 92; (with_reducible refine (spec_mePoint.calls a0 a3 false _ A9.out).mono ?_); rintro e w' ⟨rfl, ⟨nd, rfl⟩⟩))
    go_ret
    exact ⟨RE, BB⟩
  ·replace c8 := Bool.eq_false_iff.mpr c8
   subst c8
   replace H := IN H
   obtain rfl := Option.some.inj H
   go_enter Try.func55, Try.ntmps55
   go_wp2_with (first | ((with_reducible refine gate_callee (f := 49) rfl ?_); refine goesL_ (some 11) rfl rfl Try.func49 (by kernel_rfl) rfl #[.int .i64 a0, .slice A1 l1.length c1] rfl TA ?_; (with_reducible refine (spec_meLabels.calls k a0 _ _ l1 true _ ?side1 ?side2 A5.out).mono ?_); (case side1 => exact CW HR1.out); (case side2 => exact HC1.out); rintro e w' ⟨rfl, ⟨nd, rfl⟩⟩; refine ⟨_, rfl, ?_⟩) | (go_at_call 92; (with_reducible refine (spec_mePoint.calls a0 a2 false _ A7.out).mono ?_); rintro e w' ⟨rfl, ⟨nd, rfl⟩⟩))
   go_ret
   exact ⟨RE, BB⟩
 ·replace c6 := Bool.eq_false_iff.mpr c6
  subst c6
  replace H := IN H
  obtain rfl := Option.some.inj H
  go_enter Try.func55, Try.ntmps55
  go_wp2_with (first | ((with_reducible refine gate_callee (f := 49) rfl ?_); refine goesL_ (some 11) rfl rfl Try.func49 (by kernel_rfl) rfl #[.int .i64 a0, .slice A1 l1.length c1] rfl TA ?_; (with_reducible refine (spec_meLabels.calls k a0 _ _ l1 false _ ?side1 ?side2 A5.out).mono ?_); (case side1 => exact CW HR1.out); (case side2 => exact HC1.out); rintro e w' ⟨rfl, ⟨nd, rfl⟩⟩; refine ⟨_, rfl, ?_⟩))
  go_ret
  exact ⟨RE, BB⟩

/-! ### spec_IsDoor: function 19 -/
def spec_IsDoor.f (k : Nat) (a0 : Int) (l1 : List Int) (a2 : Int) (a3 : Int) : Option (Bool × Bool) := (spec_doPair.f k a0 l1 a2 a3).bind fun t618 => (if t618 = true then ((spec_doDoor.f l1 a2 a3).bind fun t619 => (some (t619, true))) else (some (false, false)))
theorem spec_IsDoor.mono : ∀ a0 a1 a2 a3 k, LeO (spec_IsDoor.f k a0 a1 a2 a3) (spec_IsDoor.f (k + 1) a0 a1 a2 a3) := by
 intro a0 a1 a2 a3 k
 unfold spec_IsDoor.f
 repeat' first
   | with_reducible first | exact spec_doPair.mono _ _ _ _ _ | exact LeO.refl _ | exact LeO.none _ | refine LeO.ite ?_ ?_ | refine LeO.bind ?_ (fun _ => ?_)
   | exact LeO.none _ | refine LeO.ite ?_ ?_ | refine LeO.bind ?_ (fun _ => ?_)
theorem spec_IsDoor.calls (k : Nat) (a0 : Int) (A1 : Option Addr) (c1 : Nat) (l1 : List Int) (a2 : Int) (a3 : Int) (r1 : Bool) (r2 : Bool) (w : World) (hr1 : Kd.C (Kd.int .i64) w A1 l1.length l1) (hc1 : l1.length ≤ c1) (h : spec_IsDoor.f k a0 l1 a2 a3 = some (r1, r2)) :
  Calls Try.prog 19 #[.int .i64 a0, .slice A1 l1.length c1, .int .i64 a2, .int .i64 a3] w fun e w' => e = .returned (.tuple #[.bool r1, .bool r2]) ∧ Below w.heap.size w w' := by
 have HR1 := Aside0.mk hr1
 have HC1 := Aside0.mk hc1
 clear hr1 hc1
 have HB := Aside0.mk (Below.refl w.heap.size w)
 have H : ((spec_doPair.f k a0 l1 a2 a3).bind fun t618 => (if t618 = true then ((spec_doDoor.f l1 a2 a3).bind fun t619 => (some (t619, true))) else (some (false, false)))) = some (r1, r2) := h
 clear h
 obtain ⟨t618, A50, H⟩ := Option.bind_eq_some_iff.mp H
 have A5 := Aside0.mk A50
 clear A50
 by_cases c6 : t618 = true
 ·subst c6
  replace H := IP H
  obtain ⟨t619, A70, H⟩ := Option.bind_eq_some_iff.mp H
  have A7 := Aside0.mk A70
  clear A70
  simp only [Option.some.injEq, Prod.mk.injEq] at H
  obtain ⟨rfl, rfl⟩ := H
  go_enter Try.func19, Try.ntmps19
  go_wp2_with (first | ((with_reducible refine gate_callee (f := 55) rfl ?_); refine goesL_ (some 14) rfl rfl Try.func55 (by kernel_rfl) rfl #[.int .i64 a0, .slice A1 l1.length c1, .int .i64 a2, .int .i64 a3] rfl TA ?_; (with_reducible refine (spec_doPair.calls k a0 _ _ l1 a2 a3 true _ ?side1 ?side2 A5.out).mono ?_); (case side1 => exact CW HR1.out); (case side2 => exact HC1.out); rintro e w8 ⟨rfl, hb⟩; refine ⟨_, rfl, ?_⟩; have n0_ := Aside0.mk (below_step BB hb); clear HB; have HB := n0_; clear n0_; (try clear hb); (try clear hb2); (try clear hk); (try clear hi)) | ((with_reducible refine gate_callee (f := 51) rfl ?_); refine goesL_ (some 19) rfl rfl Try.func51 (by kernel_rfl) rfl #[.slice A1 l1.length c1, .int .i64 a2, .int .i64 a3] rfl TA ?_; (with_reducible refine (spec_doDoor.calls _ _ l1 a2 a3 t619 _ ?side1 ?side2 A7.out).mono ?_); (case side1 => exact CW (Kd.C_below HR1.out HB.out)); (case side2 => exact HC1.out); rintro e w' ⟨rfl, ⟨nd, rfl⟩⟩; refine ⟨_, rfl, ?_⟩))
  go_ret2
  exact ⟨RE, BB⟩
 ·replace c6 := Bool.eq_false_iff.mpr c6
  subst c6
  replace H := IN H
  simp only [Option.some.injEq, Prod.mk.injEq] at H
  obtain ⟨rfl, rfl⟩ := H
  go_enter Try.func19, Try.ntmps19
  go_wp2_with (first | ((with_reducible refine gate_callee (f := 55) rfl ?_); refine goesL_ (some 14) rfl rfl Try.func55 (by kernel_rfl) rfl #[.int .i64 a0, .slice A1 l1.length c1, .int .i64 a2, .int .i64 a3] rfl TA ?_; (with_reducible refine (spec_doPair.calls k a0 _ _ l1 a2 a3 false _ ?side1 ?side2 A5.out).mono ?_); (case side1 => exact CW HR1.out); (case side2 => exact HC1.out); rintro e w9 ⟨rfl, hb⟩; refine ⟨_, rfl, ?_⟩; have n0_ := Aside0.mk (below_step BB hb); clear HB; have HB := n0_; clear n0_; (try clear hb); (try clear hb2); (try clear hk); (try clear hi)))
  go_ret2
  exact ⟨RE, BB⟩

end Go.Proofs.Ytafjjbkkcedgnab.PFnDoorsOfRooms
