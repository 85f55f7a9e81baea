-- Written by a program of this session (wip/tools/pp.sh) out of the translation; Lean checks it.
import Derived.Test.YtemgnbpcchlpiaaDoorPFnKneserColoursx0
import Derived.Test.YtemgnbpcchlpiaaDoorPFnKneserColoursx1
import Derived.Test.YtemgnbpcchlpiaaDoorPFnKneserColoursx2
import Derived.Test.YtemgnbpcchlpiaaDoorPFnKneserColoursx3
namespace Go.Proofs.YtemgnbpcchlpiaaDoor.PFnKneserColours
open Go.RowKit Go.Proofs.YtemgnbpcchlpiaaDoorOwn Go.Proofs.YtemgnbpcchlpiaaDoorW.PrintWords Go.Proofs.YtemgnbpcchlpiaaDoorW.PrintLast Go.Proofs.YtemgnbpcchlpiaaDoorW.PrintMore
attribute [local go_sem] max2_int min2_int max_two min_two max_three min_three max_four min_four   -- for this text's walks alone
set_option linter.unusedVariables false
set_option maxHeartbeats 8000000
set_option maxRecDepth 100000
set_option linter.unusedSimpArgs false

/-! ### impl_IsColouring: function 17 (given) -/
def impl_IsColouring.f (k : Nat) (a0 : Int) (a1 : Int) (l2 : List Int) : Option (Bool × Bool) := (impl_areItems.f a0 a1).bind fun ok => if ok = true then ((impl_setsOf.f k a0 a1).bind fun s => if (l2.length : Int) = (s.length : Int) then ((slices_ContainsFunc_int_int__impl_IsColouring_1.f k l2).bind fun c => if c = true then some (false, true) else ((impl_firstApart.f k s l2).bind fun u => some (decide (u = []), true))) else some (false, true)) else some (false, false)
theorem impl_IsColouring.mono : ∀ a0 a1 l2 k, LeO (impl_IsColouring.f k a0 a1 l2) (impl_IsColouring.f (k + 1) a0 a1 l2) := by
 intro a0 a1 l2 k
 unfold impl_IsColouring.f
 exact LeO.bind (LeO.refl _) (fun _ => LeO.ite (LeO.bind (impl_setsOf.mono _ _ _) (fun _ => LeO.ite (LeO.bind (slices_ContainsFunc_int_int__impl_IsColouring_1.mono _ _) (fun _ => LeO.ite (LeO.refl _) (LeO.bind (impl_firstApart.mono _ _ _) (fun _ => LeO.refl _)))) (LeO.refl _))) (LeO.refl _))
theorem impl_IsColouring.calls (k : Nat) (a0 : Int) (a1 : Int) (A2 : Option Addr) (c2 : Nat) (l2 : List Int) (r1 : Bool) (r2 : Bool) (w : World) (hr2 : Kd.C (Kd.int .i64) w A2 l2.length l2) (hc2 : l2.length ≤ c2) (h : impl_IsColouring.f k a0 a1 l2 = some (r1, r2)) :
  Calls Tryd.prog 17 #[.int .i64 a0, .int .i64 a1, .slice A2 l2.length c2] w fun e w' => e = .returned (.tuple #[.bool r1, .bool r2]) ∧ Below w.heap.size w w' := by
 have HR2 := Aside0.mk hr2
 have HC2 := Aside0.mk hc2
 clear hr2 hc2
 have HB := Aside0.mk (Below.refl w.heap.size w)
 unfold impl_IsColouring.f at h
 obtain ⟨b, hb0, h⟩ := Option.bind_eq_some_iff.mp h
 have HI := Aside0.mk hb0
 clear hb0
 cases b with
 | false =>
  have h2 := Option.some.inj ((if_neg (show ¬ (false = true) by decide)).symm.trans h)
  injection h2 with e1 e2
  subst e1
  subst e2
  clear h
  go_enter Tryd.func17, Tryd.ntmps17
  go_wp2_with (first | (go_at_call 26; refine (impl_areItems.calls a0 a1 false _ HI.out).mono ?_; rintro e w' ⟨rfl, ⟨nd, rfl⟩⟩))
  go_ret2
  exact ⟨rfl, BB⟩
 | true =>
  have h2 := (if_pos (show true = true from rfl)).symm.trans h
  obtain ⟨s, hs, h3⟩ := Option.bind_eq_some_iff.mp h2
  clear h h2
  have HT := Aside0.mk hs
  clear hs
  by_cases hl : (l2.length : Int) = (s.length : Int)
  ·have h4 := (if_pos hl).symm.trans h3
   obtain ⟨c, hcc, h5⟩ := Option.bind_eq_some_iff.mp h4
   have HK := Aside0.mk hcc
   clear h3 h4 hcc
   have l0_ : ((l2.length : Int) == (s.length : Int)) = true := beq_iff_eq.mpr hl
   have l1_ : (l2.length == s.length) = true := beq_iff_eq.mpr (by omega)
   have l2_ : (l2.length = s.length) = True := eq_true (by omega)
   clear hl
   cases c with
   | true =>
    have h6 := Option.some.inj ((if_pos (show true = true from rfl)).symm.trans h5)
    injection h6 with e1 e2
    subst e1
    subst e2
    clear h5
    go_enter Tryd.func17, Tryd.ntmps17
    go_wp2_with (first
     | (go_at_call 26; refine (impl_areItems.calls a0 a1 true _ HI.out).mono ?_; rintro e w' ⟨rfl, ⟨nd, rfl⟩⟩)
     | (go_at_call 27; refine (impl_setsOf.calls k a0 a1 s _ HT.out).mono ?_; rintro e w1 ⟨v8, rfl, hS, hb⟩; have n0_ := Aside0.mk (Kd.R_lower hS (below_size BB)); have n1_ := Aside0.mk (below_step BB hb); clear HB; have HS := n0_; have HB := n1_; clear n0_ n1_ hS hb; obtain ⟨A8, c8, e8⟩ := Kd.R_slice HS.out; subst e8)
     | (go_at_call 36; refine (slices_ContainsFunc_int_int__impl_IsColouring_1.calls k _ _ l2 true _ (by repeat (first | exact (Kd.C_below HR2.out HB.out) | (with_reducible refine Kd.C_drewN ?_ _) | (with_reducible refine Kd.C_drew ?_))) HC2.out HK.out).mono ?_; rintro e w' ⟨rfl, ⟨nd2, rfl⟩⟩))
    go_ret2
    exact ⟨rfl, BB⟩
   | false =>
    have h6 := (if_neg (show ¬ (false = true) by decide)).symm.trans h5
    obtain ⟨u, hu, h7⟩ := Option.bind_eq_some_iff.mp h6
    have HU := Aside0.mk hu
    clear h5 h6 hu
    have h8 := Option.some.inj h7
    injection h8 with e1 e2
    subst e1
    subst e2
    clear h7
    have en1 : ∀ w, (binOp BinOp.eql 26 (.slice none 0 0) (.slice none 0 0)).run Tryd.prog w = .ok (.bool true) w := fun _ => by kernel_rfl
    have en2 : ∀ (a : Addr) (n c : Nat) (w : World), (binOp BinOp.eql 26 (.slice (some a) n c) (.slice none 0 0)).run Tryd.prog w = .ok (.bool false) w := fun _ _ _ _ => by kernel_rfl
    cases u with
    | nil =>
     go_enter Tryd.func17, Tryd.ntmps17
     go_wp2_with (first
      | (go_at_call 26; refine (impl_areItems.calls a0 a1 true _ HI.out).mono ?_; rintro e w' ⟨rfl, ⟨nd, rfl⟩⟩)
      | (go_at_call 27; refine (impl_setsOf.calls k a0 a1 s _ HT.out).mono ?_; rintro e w1 ⟨v8, rfl, hS, hb⟩; have n0_ := Aside0.mk (Kd.R_lower hS (below_size BB)); have n1_ := Aside0.mk (below_step BB hb); clear HB; have HS := n0_; have HB := n1_; clear n0_ n1_ hS hb; obtain ⟨A8, c8, e8⟩ := Kd.R_slice HS.out; subst e8)
      | (go_at_call 36; refine (slices_ContainsFunc_int_int__impl_IsColouring_1.calls k _ _ l2 false _ (by repeat (first | exact (Kd.C_below HR2.out HB.out) | (with_reducible refine Kd.C_drewN ?_ _) | (with_reducible refine Kd.C_drew ?_))) HC2.out HK.out).mono ?_; rintro e w' ⟨rfl, ⟨nd2, rfl⟩⟩)
      | (go_at_call 38; refine (impl_firstApart.callsN k _ _ s _ _ l2 [] _ (by repeat (first | exact (Kd.R_reads' HS.out).2.2 | (with_reducible refine Kd.C_drewN ?_ _) | (with_reducible refine Kd.C_drew ?_))) (Kd.R_reads' HS.out).2.1 (by repeat (first | exact (Kd.C_below HR2.out HB.out) | (with_reducible refine Kd.C_drewN ?_ _) | (with_reducible refine Kd.C_drew ?_))) HC2.out HU.out).mono ?_; rintro e w9 ⟨v31, rfl, hV, hb, hN⟩; obtain rfl := hN rfl; clear hV hN; have n1_ := Aside0.mk (below_step BB hb); clear HB; have HB := n1_; clear n1_ hb))
     go_ret2
     exact ⟨rfl, BB⟩
    | cons x u =>
     go_enter Tryd.func17, Tryd.ntmps17
     go_wp2_with (first
      | (go_at_call 26; refine (impl_areItems.calls a0 a1 true _ HI.out).mono ?_; rintro e w' ⟨rfl, ⟨nd, rfl⟩⟩)
      | (go_at_call 27; refine (impl_setsOf.calls k a0 a1 s _ HT.out).mono ?_; rintro e w1 ⟨v8, rfl, hS, hb⟩; have n0_ := Aside0.mk (Kd.R_lower hS (below_size BB)); have n1_ := Aside0.mk (below_step BB hb); clear HB; have HS := n0_; have HB := n1_; clear n0_ n1_ hS hb; obtain ⟨A8, c8, e8⟩ := Kd.R_slice HS.out; subst e8)
      | (go_at_call 36; refine (slices_ContainsFunc_int_int__impl_IsColouring_1.calls k _ _ l2 false _ (by repeat (first | exact (Kd.C_below HR2.out HB.out) | (with_reducible refine Kd.C_drewN ?_ _) | (with_reducible refine Kd.C_drew ?_))) HC2.out HK.out).mono ?_; rintro e w' ⟨rfl, ⟨nd2, rfl⟩⟩)
      | (go_at_call 38; refine (impl_firstApart.callsN k _ _ s _ _ l2 (x :: u) _ (by repeat (first | exact (Kd.R_reads' HS.out).2.2 | (with_reducible refine Kd.C_drewN ?_ _) | (with_reducible refine Kd.C_drew ?_))) (Kd.R_reads' HS.out).2.1 (by repeat (first | exact (Kd.C_below HR2.out HB.out) | (with_reducible refine Kd.C_drewN ?_ _) | (with_reducible refine Kd.C_drew ?_))) HC2.out HU.out).mono ?_; rintro e w9 ⟨v31, rfl, hV, hb, hN⟩; obtain ⟨blk, cap, cur, rfl, _⟩ := ownI hV (by simp); clear hV hN; have n1_ := Aside0.mk (below_step BB hb); clear HB; have HB := n1_; clear n1_ hb))
     go_ret2
     exact ⟨rfl, BB⟩
  ·have h4 := (if_neg hl).symm.trans h3
   have h6 := Option.some.inj h4
   injection h6 with e1 e2
   subst e1
   subst e2
   clear h3 h4
   have l0_ : ((l2.length : Int) == (s.length : Int)) = false := beq_eq_false_iff_ne.mpr hl
   have l1_ : (l2.length == s.length) = false := beq_eq_false_iff_ne.mpr (by omega)
   have l2_ : (l2.length = s.length) = False := eq_false (by omega)
   clear hl
   go_enter Tryd.func17, Tryd.ntmps17
   go_wp2_with (first
    | (go_at_call 26; refine (impl_areItems.calls a0 a1 true _ HI.out).mono ?_; rintro e w' ⟨rfl, ⟨nd, rfl⟩⟩)
    | (go_at_call 27; refine (impl_setsOf.calls k a0 a1 s _ HT.out).mono ?_; rintro e w1 ⟨v8, rfl, hS, hb⟩; have n0_ := Aside0.mk (Kd.R_lower hS (below_size BB)); have n1_ := Aside0.mk (below_step BB hb); clear HB; have HS := n0_; have HB := n1_; clear n0_ n1_ hS hb; obtain ⟨A8, c8, e8⟩ := Kd.R_slice HS.out; subst e8))
   go_ret2
   exact ⟨rfl, BB⟩

/-! ### impl_AreApart: function 18 -/
def impl_AreApart.f (a0 : Int) (a1 : Int) : Option (Bool × Bool) := (impl_in.f a0 0 255).bind fun t214 => (if t214 = true then ((impl_in.f a1 0 255).bind fun t215 => (if t215 = true then (some (((Go.bits .and .i64 a0 a1) == 0), true)) else (some (false, false)))) else (some (false, false)))
theorem impl_AreApart.calls (a0 : Int) (a1 : Int) (r1 : Bool) (r2 : Bool) (w : World) (h : impl_AreApart.f a0 a1 = some (r1, r2)) :
  Calls Tryd.prog 18 #[.int .i64 a0, .int .i64 a1] w fun e w' => e = .returned (.tuple #[.bool r1, .bool r2]) ∧ Drawn0 w w' := by
 have H : ((impl_in.f a0 0 255).bind fun t214 => (if t214 = true then ((impl_in.f a1 0 255).bind fun t215 => (if t215 = true then (some (((Go.bits .and .i64 a0 a1) == 0), true)) else (some (false, false)))) else (some (false, false)))) = some (r1, r2) := h
 clear h
 obtain ⟨t214, A30, H⟩ := Option.bind_eq_some_iff.mp H
 have A3 := Aside0.mk A30
 clear A30
 by_cases c4 : t214 = true
 ·subst c4
  replace H := IP H
  obtain ⟨t215, A50, H⟩ := Option.bind_eq_some_iff.mp H
  have A5 := Aside0.mk A50
  clear A50
  by_cases c6 : t215 = true
  ·subst c6
   replace H := IP H
   simp only [Option.some.injEq, Prod.mk.injEq] at H
   obtain ⟨rfl, rfl⟩ := H
   go_enter Tryd.func18, Tryd.ntmps18
   go_wp2_with (first | ((with_reducible refine gate_callee (f := 39) rfl ?_); refine goesL_ (some 7) rfl rfl Tryd.func39 (by kernel_rfl) rfl #[.int .i64 a0, .int .i64 0, .int .i64 255] rfl TA ?_; (with_reducible refine (impl_in.calls a0 0 255 true _ A3.out).mono ?_); rintro e w' ⟨rfl, ⟨nd, rfl⟩⟩; refine ⟨_, rfl, ?_⟩) | (go_at_call 39; (with_reducible refine (impl_in.calls a1 0 255 true _ A5.out).mono ?_); rintro e w' ⟨rfl, ⟨nd, rfl⟩⟩))
   go_ret2
   exact ⟨RF, DR⟩
  ·replace c6 := Bool.eq_false_iff.mpr c6
   subst c6
   replace H := IN H
   simp only [Option.some.injEq, Prod.mk.injEq] at H
   obtain ⟨rfl, rfl⟩ := H
   go_enter Tryd.func18, Tryd.ntmps18
   go_wp2_with (first | ((with_reducible refine gate_callee (f := 39) rfl ?_); refine goesL_ (some 7) rfl rfl Tryd.func39 (by kernel_rfl) rfl #[.int .i64 a0, .int .i64 0, .int .i64 255] rfl TA ?_; (with_reducible refine (impl_in.calls a0 0 255 true _ A3.out).mono ?_); rintro e w' ⟨rfl, ⟨nd, rfl⟩⟩; refine ⟨_, rfl, ?_⟩) | (go_at_call 39; (with_reducible refine (impl_in.calls a1 0 255 false _ A5.out).mono ?_); rintro e w' ⟨rfl, ⟨nd, rfl⟩⟩))
   go_ret2
   exact ⟨RF, DR⟩
 ·replace c4 := Bool.eq_false_iff.mpr c4
  subst c4
  replace H := IN H
  simp only [Option.some.injEq, Prod.mk.injEq] at H
  obtain ⟨rfl, rfl⟩ := H
  go_enter Tryd.func18, Tryd.ntmps18
  go_wp2_with (first | ((with_reducible refine gate_callee (f := 39) rfl ?_); refine goesL_ (some 7) rfl rfl Tryd.func39 (by kernel_rfl) rfl #[.int .i64 a0, .int .i64 0, .int .i64 255] rfl TA ?_; (with_reducible refine (impl_in.calls a0 0 255 false _ A3.out).mono ?_); rintro e w' ⟨rfl, ⟨nd, rfl⟩⟩; refine ⟨_, rfl, ?_⟩))
  go_ret2
  exact ⟨RF, DR⟩

/-! ### spec_l1Own: function 57 -/
def spec_l1Own.f (l0 : List Int) : Option (List Int) := (some (([] : List Int) : List Int)).bind fun y216 => (if y216.length + l0.length < 17592186044416 then (some (y216 ++ l0)) else (none))
theorem spec_l1Own.calls (A0 : Option Addr) (c0 : Nat) (l0 : List Int) (r : List Int) (w : World) (hr0 : Kd.C (Kd.int .i64) w A0 l0.length l0) (hc0 : l0.length ≤ c0) (h : spec_l1Own.f l0 = some r) :
  Calls Tryd.prog 57 #[.slice A0 l0.length c0] w fun e w' => ∃ v0_ : Value, e = .returned (v0_) ∧ Kd.R (Kd.int .i64) 3 w' w.heap.size (fun _ => True) v0_ r ∧ Below w.heap.size w w' := by
 have HR0 := Aside0.mk hr0
 have HC0 := Aside0.mk hc0
 clear hr0 hc0
 have HB := Aside0.mk (Below.refl w.heap.size w)
 have H : ((some (([] : List Int) : List Int)).bind fun y216 => (if y216.length + l0.length < 17592186044416 then (some (y216 ++ l0)) else (none))) = some r := h
 clear h
 obtain ⟨y216, hy216⟩ : ∃ y_ : List Int, y_ = (([] : List Int)) := ⟨_, rfl⟩
 replace H : (if y216.length + l0.length < 17592186044416 then (some (y216 ++ l0)) else (none)) = some r := HY H hy216
 have Ny216 := Aside0.mk hy216
 clear hy216
 by_cases c2 : y216.length + l0.length < 17592186044416
 ·rw [if_pos c2] at H
  have LMc2 := Aside0.mk c2
  clear c2
  obtain ⟨y219, hy219⟩ : ∃ y_ : List Int, y_ = (y216 ++ l0) := ⟨_, rfl⟩
  replace H : (some y219) = some r := HY H hy219
  have Ny219 := Aside0.mk hy219
  clear hy219
  obtain rfl := Option.some.inj H
  go_enter Tryd.func57, Tryd.ntmps57
  go_wp2_with (first | ((with_reducible refine gate_dst (N := 3) rfl ?_); refine Kd.R_lit (Kd.int .i64) _ 3 ?hg (N := 3) ?hd (xs := ([] : List Int)) (inner := []) (ok := fun _ => True) (okp := fun _ => True) ?hr ?hp (fun _ hk => hk) trivial (Below.refl _ _) (Nat.le_refl _) (by simp) ?_; (case hd => rfl); (case hg => rfl); (case hr => exact GS); (case hp => exact (Reps.none _ _)); intro v217 w3 ho4 hb hg_ hnew_; clear hg_ hnew_; (first | rw [← Ny216.out] at ho4 | (simp only [Int.reduceToNat] at ho4; rw [← Ny216.out] at ho4)); have n0_ := Aside0.mk (Kd.R_lower ho4 (below_size BB)); have n1_ := Aside0.mk (below_step BB hb); clear HB; have HO218 := n0_; have HB := n1_; clear n0_ n1_; clear hb ho4) | ((with_reducible refine gate_builtin (b := .append) (xs := #[.tmp 3, .tmp 4]) rfl ?_); at_builtin; refine Kd.R_append_rows (Kd.int .i64) (w0 := w) w.heap.size rfl (.tmp 3) (.tmp 4) 26 3 (.int .i64 0) 8 rfl Tryd.underlying26 info3 rfl (by decide) (by omega) v217 y216 l0 _ _ _ (fun _ => True) (fun _ => False) rfl rfl ?aO ?aR (fun _ _ h => h) (fun _ h => h.elim) ?aF ?aB ?aS ?aL ?_; (case aR => exact CW (Kd.C_below HR0.out HB.out)); (case aB => exact BB); (case aF => exact (fun _ _ => trivial)); (case aO => exact (KR HO218)); (case aS => exact (below_size BB)); (case aL => have := LMc2.out; omega); intro v220 w5 ho hb hg hat; rw [← Ny219.out] at ho; have n0_ := Aside0.mk (hb); have n1_ := Aside0.mk (ho); clear HB; clear HO218; have HB := n0_; have HO221 := n1_; clear n0_ n1_; clear ho hb hg hat))
  go_ret
  exact ⟨_, RE, KR HO221, BB⟩
 ·rw [if_neg c2] at H
  cases H

/-! ### spec_l1Cur_coloured: function 53 -/
def spec_l1Cur_coloured.l0 : Nat → Int → Int → List Int → Int → Int → List Int → Int → Int → Option (Int × Int × List Int × Int × Int)
 | 0, _, _, _, _, _, _, _, _ => none
 | k + 1, x5, x6, x7, x51, x52, x1000, x1001, x1002 => if x52 < x51 then ((spec_l1Cur_pick.f x1000 x1001 x1002 3).bind fun bt250 => (if 0 ≤ x52 then (if x52 < (x7.length : Int) then (spec_l1Cur_coloured.l0 k x5 x6 (x7.set (x52 : Int).toNat bt250.1) x51 (wrap64 (x52 + 1)) x1000 bt250.2.1 bt250.2.2) else (none)) else (none))) else (some (x5, x6, x7, x1001, x1002))
def spec_l1Cur_coloured.f (k : Nat) (s0_0 : List Int) (s0_1 : Int) (s0_2 : Int) : Option (Int × Int × List Int × Int × Int) := (spec_l1Cur_sets.f s0_0 s0_1 s0_2 6).bind fun bt222 => ((spec_knGiven.f bt222.1 bt222.2.1).bind fun t226 => (if t226 = true then ((spec_ColoursOf.f k bt222.1 bt222.2.1).bind fun bt230 => ((spec_l1Own.f bt230.1).bind fun t234 => ((spec_l1Cur_pick.f s0_0 bt222.2.2.1 bt222.2.2.2 6).bind fun bt237 => (if bt237.1 = 0 then ((spec_l1Cur_pick.f s0_0 bt237.2.1 bt237.2.2 (t234.length : Int)).bind fun bt240 => ((spec_l1Cur_pick.f s0_0 bt240.2.1 bt240.2.2 4).bind fun bt243 => (if 0 ≤ bt240.1 then (if bt240.1 < (t234.length : Int) then (some (bt222.1, bt222.2.1, (t234.set (bt240.1 : Int).toNat (wrap64 (bt243.1 - 1))), bt243.2.1, bt243.2.2)) else (none)) else (none)))) else (if bt237.1 = 1 then (if t234.length < 17592186044416 then (some (bt222.1, bt222.2.1, (t234 ++ [0]), bt237.2.1, bt237.2.2)) else (none)) else (if bt237.1 = 2 then (spec_l1Cur_coloured.l0 k bt222.1 bt222.2.1 t234 (t234.length : Int) 0 s0_0 bt237.2.1 bt237.2.2) else (some (bt222.1, bt222.2.1, t234, bt237.2.1, bt237.2.2)))))))) else (some (bt222.1, bt222.2.1, (([0] : List Int)), bt222.2.2.1, bt222.2.2.2))))
theorem spec_l1Cur_coloured.mono_l : ∀ k, (∀ y0 y1 y2 y3 y4 y5 y6 y7, LeO (spec_l1Cur_coloured.l0 k y0 y1 y2 y3 y4 y5 y6 y7) (spec_l1Cur_coloured.l0 (k + 1) y0 y1 y2 y3 y4 y5 y6 y7))
 | 0 => fun _ _ _ _ _ _ _ _ r h => by simp [spec_l1Cur_coloured.l0] at h
 | k + 1 => by
  have ih0 := spec_l1Cur_coloured.mono_l k
  ·intro y0 y1 y2 y3 y4 y5 y6 y7
   unfold spec_l1Cur_coloured.l0
   repeat' first
   | with_reducible first | exact ih0 _ _ _ _ _ _ _ _ | exact spec_ColoursOf.mono _ _ _ | exact LeO.refl _ | exact LeO.none _ | refine LeO.ite ?_ ?_ | refine LeO.bind ?_ (fun _ => ?_)
   | exact LeO.none _ | refine LeO.ite ?_ ?_ | refine LeO.bind ?_ (fun _ => ?_)
theorem spec_l1Cur_coloured.mono : ∀ a0 a1 a2 k, LeO (spec_l1Cur_coloured.f k a0 a1 a2) (spec_l1Cur_coloured.f (k + 1) a0 a1 a2) := by
 intro a0 a1 a2 k
 have ih0 := spec_l1Cur_coloured.mono_l k
 unfold spec_l1Cur_coloured.f
 repeat' first
   | with_reducible first | exact ih0 _ _ _ _ _ _ _ _ | exact spec_ColoursOf.mono _ _ _ | exact LeO.refl _ | exact LeO.none _ | refine LeO.ite ?_ ?_ | refine LeO.bind ?_ (fun _ => ?_)
   | exact LeO.none _ | refine LeO.ite ?_ ?_ | refine LeO.bind ?_ (fun _ => ?_)
theorem spec_l1Cur_coloured.calls (k : Nat) (g : Nat) (s0_0 : List Int) (s0_1 : Int) (s0_2 : Int) (r1 : Int) (r2 : Int) (r3 : List Int) (r4 : Int) (r5 : Int) (w0 w : World) (hI : IsS51 w0 w g s0_0 s0_1 s0_2) (hB : Below w0.heap.size w0 w) (h : spec_l1Cur_coloured.f k s0_0 s0_1 s0_2 = some (r1, r2, r3, r4, r5)) :
  Calls Tryd.prog 53 #[.pointer (some ⟨g, 0, none⟩)] w fun e w' => ∃ v2_ : Value, e = .returned (.tuple #[.int .i64 r1, .int .i64 r2, v2_]) ∧ Kd.R (Kd.int .i64) 3 w' w.heap.size (fun _ => True) v2_ r3 ∧ IsS51 w0 w' g s0_0 r4 r5 ∧ Below w0.heap.size w0 w' ∧ KeepBut w w' g none := by
 have HI0 := Aside0.mk hI
 have HK := Aside0.mk (KeepBut.refl w g none)
 have HL := Aside0.mk hB.size
 clear hI
 have HW0 := Aside0.mk hB.size
 have HB := Aside0.mk hB
 clear hB
 have H : ((spec_l1Cur_sets.f s0_0 s0_1 s0_2 6).bind fun bt222 => ((spec_knGiven.f bt222.1 bt222.2.1).bind fun t226 => (if t226 = true then ((spec_ColoursOf.f k bt222.1 bt222.2.1).bind fun bt230 => ((spec_l1Own.f bt230.1).bind fun t234 => ((spec_l1Cur_pick.f s0_0 bt222.2.2.1 bt222.2.2.2 6).bind fun bt237 => (if bt237.1 = 0 then ((spec_l1Cur_pick.f s0_0 bt237.2.1 bt237.2.2 (t234.length : Int)).bind fun bt240 => ((spec_l1Cur_pick.f s0_0 bt240.2.1 bt240.2.2 4).bind fun bt243 => (if 0 ≤ bt240.1 then (if bt240.1 < (t234.length : Int) then (some (bt222.1, bt222.2.1, (t234.set (bt240.1 : Int).toNat (wrap64 (bt243.1 - 1))), bt243.2.1, bt243.2.2)) else (none)) else (none)))) else (if bt237.1 = 1 then (if t234.length < 17592186044416 then (some (bt222.1, bt222.2.1, (t234 ++ [0]), bt237.2.1, bt237.2.2)) else (none)) else (if bt237.1 = 2 then (spec_l1Cur_coloured.l0 k bt222.1 bt222.2.1 t234 (t234.length : Int) 0 s0_0 bt237.2.1 bt237.2.2) else (some (bt222.1, bt222.2.1, t234, bt237.2.1, bt237.2.2)))))))) else (some (bt222.1, bt222.2.1, (([0] : List Int)), bt222.2.2.1, bt222.2.2.2))))) = some (r1, r2, r3, r4, r5) := h
 clear h
 obtain ⟨⟨t222, t223, t224, t225⟩, A20, H⟩ := Option.bind_eq_some_iff.mp H
 replace H : ((spec_knGiven.f t222 t223).bind fun t226 => (if t226 = true then ((spec_ColoursOf.f k t222 t223).bind fun bt230 => ((spec_l1Own.f bt230.1).bind fun t234 => ((spec_l1Cur_pick.f s0_0 t224 t225 6).bind fun bt237 => (if bt237.1 = 0 then ((spec_l1Cur_pick.f s0_0 bt237.2.1 bt237.2.2 (t234.length : Int)).bind fun bt240 => ((spec_l1Cur_pick.f s0_0 bt240.2.1 bt240.2.2 4).bind fun bt243 => (if 0 ≤ bt240.1 then (if bt240.1 < (t234.length : Int) then (some (t222, t223, (t234.set (bt240.1 : Int).toNat (wrap64 (bt243.1 - 1))), bt243.2.1, bt243.2.2)) else (none)) else (none)))) else (if bt237.1 = 1 then (if t234.length < 17592186044416 then (some (t222, t223, (t234 ++ [0]), bt237.2.1, bt237.2.2)) else (none)) else (if bt237.1 = 2 then (spec_l1Cur_coloured.l0 k t222 t223 t234 (t234.length : Int) 0 s0_0 bt237.2.1 bt237.2.2) else (some (t222, t223, t234, bt237.2.1, bt237.2.2)))))))) else (some (t222, t223, (([0] : List Int)), t224, t225)))) = some (r1, r2, r3, r4, r5) := H
 have A2 := Aside0.mk A20
 clear A20
 obtain ⟨t226, A30, H⟩ := Option.bind_eq_some_iff.mp H
 have A3 := Aside0.mk A30
 clear A30
 by_cases c4 : t226 = true
 ·subst c4
  replace H := IP H
  obtain ⟨⟨t230, t231⟩, A50, H⟩ := Option.bind_eq_some_iff.mp H
  replace H : ((spec_l1Own.f t230).bind fun t234 => ((spec_l1Cur_pick.f s0_0 t224 t225 6).bind fun bt237 => (if bt237.1 = 0 then ((spec_l1Cur_pick.f s0_0 bt237.2.1 bt237.2.2 (t234.length : Int)).bind fun bt240 => ((spec_l1Cur_pick.f s0_0 bt240.2.1 bt240.2.2 4).bind fun bt243 => (if 0 ≤ bt240.1 then (if bt240.1 < (t234.length : Int) then (some (t222, t223, (t234.set (bt240.1 : Int).toNat (wrap64 (bt243.1 - 1))), bt243.2.1, bt243.2.2)) else (none)) else (none)))) else (if bt237.1 = 1 then (if t234.length < 17592186044416 then (some (t222, t223, (t234 ++ [0]), bt237.2.1, bt237.2.2)) else (none)) else (if bt237.1 = 2 then (spec_l1Cur_coloured.l0 k t222 t223 t234 (t234.length : Int) 0 s0_0 bt237.2.1 bt237.2.2) else (some (t222, t223, t234, bt237.2.1, bt237.2.2))))))) = some (r1, r2, r3, r4, r5) := H
  have A5 := Aside0.mk A50
  clear A50
  obtain ⟨t234, A60, H⟩ := Option.bind_eq_some_iff.mp H
  have A6 := Aside0.mk A60
  clear A60
  obtain ⟨⟨t237, t238, t239⟩, A70, H⟩ := Option.bind_eq_some_iff.mp H
  replace H : (if t237 = 0 then ((spec_l1Cur_pick.f s0_0 t238 t239 (t234.length : Int)).bind fun bt240 => ((spec_l1Cur_pick.f s0_0 bt240.2.1 bt240.2.2 4).bind fun bt243 => (if 0 ≤ bt240.1 then (if bt240.1 < (t234.length : Int) then (some (t222, t223, (t234.set (bt240.1 : Int).toNat (wrap64 (bt243.1 - 1))), bt243.2.1, bt243.2.2)) else (none)) else (none)))) else (if t237 = 1 then (if t234.length < 17592186044416 then (some (t222, t223, (t234 ++ [0]), t238, t239)) else (none)) else (if t237 = 2 then (spec_l1Cur_coloured.l0 k t222 t223 t234 (t234.length : Int) 0 s0_0 t238 t239) else (some (t222, t223, t234, t238, t239))))) = some (r1, r2, r3, r4, r5) := H
  have A7 := Aside0.mk A70
  clear A70
  by_cases c8 : t237 = 0
  ·rw [if_pos c8] at H
   have c8b0 : (t237 == 0) = true := beq_iff_eq.mpr c8
   have c8b1 : (t237 != 0) = false := bne_eq_false_iff_eq.mpr c8
   clear c8
   obtain ⟨⟨t240, t241, t242⟩, A90, H⟩ := Option.bind_eq_some_iff.mp H
   replace H : ((spec_l1Cur_pick.f s0_0 t241 t242 4).bind fun bt243 => (if 0 ≤ t240 then (if t240 < (t234.length : Int) then (some (t222, t223, (t234.set (t240 : Int).toNat (wrap64 (bt243.1 - 1))), bt243.2.1, bt243.2.2)) else (none)) else (none))) = some (r1, r2, r3, r4, r5) := H
   have A9 := Aside0.mk A90
   clear A90
   obtain ⟨⟨t243, t244, t245⟩, A100, H⟩ := Option.bind_eq_some_iff.mp H
   replace H : (if 0 ≤ t240 then (if t240 < (t234.length : Int) then (some (t222, t223, (t234.set (t240 : Int).toNat (wrap64 (t243 - 1))), t244, t245)) else (none)) else (none)) = some (r1, r2, r3, r4, r5) := H
   have A10 := Aside0.mk A100
   clear A100
   by_cases c11 : 0 ≤ t240
   ·rw [if_pos c11] at H
    have c11b0 : decide (0 ≤ t240) = true := decide_eq_true c11
    clear c11
    by_cases c12 : t240 < (t234.length : Int)
    ·rw [if_pos c12] at H
     have c12b0 : decide (t240 < (t234.length : Int)) = true := decide_eq_true c12
     clear c12
     obtain ⟨y246, hy246⟩ : ∃ y_ : List Int, y_ = (t234.set (t240 : Int).toNat (wrap64 (t243 - 1))) := ⟨_, rfl⟩
     replace H : (some (t222, t223, y246, t244, t245)) = some (r1, r2, r3, r4, r5) := HY H hy246
     have Ny246 := Aside0.mk hy246
     clear hy246
     simp only [Option.some.injEq, Prod.mk.injEq] at H
     obtain ⟨rfl, rfl, rfl, rfl, rfl⟩ := H
     go_enter Tryd.func53, Tryd.ntmps53
     go_wp2_with (first | ((with_reducible refine gate_callee (f := 46) rfl ?_); refine goesL_ (some 12) rfl rfl Tryd.func46 (by kernel_rfl) rfl #[.pointer (some ⟨g, 0, none⟩), .int .i64 6] rfl TA ?_; (with_reducible refine (spec_l1Cur_sets.calls g s0_0 s0_1 s0_2 6 t222 t223 t224 t225 w0 _ ?side1 ?side2 A2.out).mono ?_); (case side1 => repeat (first | (with_reducible first | exact HI0.out | apply IsS51.alloc | apply IsS51.drewN | apply IsS51.drew | apply IsS51.set_1 | apply IsS51.set_2) | exact HI0.out)); (case side2 => repeat (first | (with_reducible first | exact HB.out | apply below_alloc | apply pw_below_drewN | apply below_drew1 | refine below_set ?_ (IsS51.ge HI0.out)) | exact HB.out)); rintro e w14 ⟨rfl, hi, hb, hk⟩; refine ⟨_, rfl, ?_⟩; have n0_ := Aside0.mk (KeepBut.trans (by repeat (first | (with_reducible first | exact HK.out | apply KeepBut.set_ | apply keep_drewN | apply keep_drew | apply keep_alloc) | exact HK.out)) hk (.inl rfl)); have n1_ := Aside0.mk (hb); have n2_ := Aside0.mk (hi); clear HK; clear HB; clear HI0; have HK := n0_; have HB := n1_; have HI0 := n2_; clear n0_ n1_ n2_; (try clear hb); (try clear hb2); (try clear hk); (try clear hi)) | ((with_reducible refine gate_callee (f := 30) rfl ?_); refine goesL_ (some 17) rfl rfl Tryd.func30 (by kernel_rfl) rfl #[.int .i64 t222, .int .i64 t223] rfl TA ?_; (with_reducible refine (spec_knGiven.calls t222 t223 true _ A3.out).mono ?_); rintro e w' ⟨rfl, ⟨nd, rfl⟩⟩; refine ⟨_, rfl, ?_⟩; (try (rw [drewN_self w14]; generalize hq_ : World.drewN w14 _ = w14; have n0_ : Aside0 (IsS51 w0 w14 g s0_0 t224 t225) := ⟨by rw [← hq_]; exact (by repeat (first | (with_reducible first | exact HI0.out | apply IsS51.alloc | apply IsS51.drewN | apply IsS51.drew | apply IsS51.set_1 | apply IsS51.set_2) | exact HI0.out))⟩; have n1_ : Aside0 (KeepBut w w14 g none) := ⟨by rw [← hq_]; exact (by repeat (first | (with_reducible first | exact HK.out | apply KeepBut.set_ | apply keep_drewN | apply keep_drew | apply keep_alloc) | exact HK.out))⟩; have n2_ : Aside0 (Below w0.heap.size w0 w14) := ⟨by rw [← hq_]; exact (by repeat (first | (with_reducible first | exact HB.out | apply below_alloc | apply pw_below_drewN | apply below_drew1 | refine below_set ?_ (IsS51.ge HI0.out)) | exact HB.out))⟩; clear HI0 HK HB hq_; have HI0 := n0_; have HK := n1_; have HB := n2_; clear n0_ n1_ n2_))) | ((with_reducible refine gate_callee (f := 7) rfl ?_); refine goesL_ (some 25) rfl rfl Tryd.func7 (by kernel_rfl) rfl #[.int .i64 t222, .int .i64 t223] rfl TA ?_; (with_reducible refine (spec_ColoursOf.calls k t222 t223 t230 t231 _ A5.out).mono ?_); rintro e w15 ⟨v232, rfl, ho0, hb⟩; refine ⟨_, rfl, ?_⟩; have n0_ := Aside0.mk (Kd.R_lower ho0 (keep_size (w := w) (g := g) (row := none) (by repeat (first | (with_reducible first | exact HK.out | apply KeepBut.set_ | apply keep_drewN | apply keep_drew | apply keep_alloc) | exact HK.out)))); have n1_ := Aside0.mk (IsS51.below (by repeat (first | (with_reducible first | exact HI0.out | apply IsS51.alloc | apply IsS51.drewN | apply IsS51.drew | apply IsS51.set_1 | apply IsS51.set_2) | exact HI0.out)) hb); have n2_ := Aside0.mk (KeepBut.trans (by repeat (first | (with_reducible first | exact HK.out | apply KeepBut.set_ | apply keep_drewN | apply keep_drew | apply keep_alloc) | exact HK.out)) (KeepBut.of_below hb g none) (.inl rfl)); have n3_ := Aside0.mk (below_step (by repeat (first | (with_reducible first | exact HB.out | apply below_alloc | apply pw_below_drewN | apply below_drew1 | refine below_set ?_ (IsS51.ge HI0.out)) | exact HB.out)) hb); clear HI0; clear HK; clear HB; have HO233 := n0_; have HI0 := n1_; have HK := n2_; have HB := n3_; clear n0_ n1_ n2_ n3_; (try clear hb); (try clear hb2); (try clear hk); (try clear hi); (try clear ho0); obtain ⟨Ao16, co16, eo16⟩ := Kd.R_slice HO233.out; subst eo16) | ((with_reducible refine gate_callee (f := 57) rfl ?_); refine goesL_ (some 29) rfl rfl Tryd.func57 (by kernel_rfl) rfl #[.slice Ao16 t230.length co16] rfl TA ?_; (with_reducible refine (spec_l1Own.calls _ _ t230 t234 _ ?side1 ?side2 A6.out).mono ?_); (case side1 => exact CW (Kd.R_reads' HO233.out).2.2); (case side2 => exact (Kd.R_reads' HO233.out).2.1); rintro e w17 ⟨v235, rfl, ho0, hb⟩; refine ⟨_, rfl, ?_⟩; have n0_ := Aside0.mk (Kd.R_elder' (KR HO233) (Kd.R_base ho0) hb); have n1_ := Aside0.mk (Kd.R_lower (Kd.R_new' ho0 (Kd.R_lt (KR HO233))) (keep_size (w := w) (g := g) (row := none) (by repeat (first | (with_reducible first | exact HK.out | apply KeepBut.set_ | apply keep_drewN | apply keep_drew | apply keep_alloc) | exact HK.out)))); have n2_ := Aside0.mk (IsS51.below (by repeat (first | (with_reducible first | exact HI0.out | apply IsS51.alloc | apply IsS51.drewN | apply IsS51.drew | apply IsS51.set_1 | apply IsS51.set_2) | exact HI0.out)) hb); have n3_ := Aside0.mk (KeepBut.trans (by repeat (first | (with_reducible first | exact HK.out | apply KeepBut.set_ | apply keep_drewN | apply keep_drew | apply keep_alloc) | exact HK.out)) (KeepBut.of_below hb g none) (.inl rfl)); have n4_ := Aside0.mk (below_step (by repeat (first | (with_reducible first | exact HB.out | apply below_alloc | apply pw_below_drewN | apply below_drew1 | refine below_set ?_ (IsS51.ge HI0.out)) | exact HB.out)) hb); clear HO233; clear HI0; clear HK; clear HB; have HO233 := n0_; have HO236 := n1_; have HI0 := n2_; have HK := n3_; have HB := n4_; clear n0_ n1_ n2_ n3_ n4_; (try clear hb); (try clear hb2); (try clear hk); (try clear hi); (try clear ho0)) | ((with_reducible refine gate_callee (f := 44) rfl ?_); refine goesL_ (some 31) rfl rfl Tryd.func44 (by kernel_rfl) rfl #[.pointer (some ⟨g, 0, none⟩), .int .i64 6] rfl TA ?_; (with_reducible refine (spec_l1Cur_pick.calls g s0_0 t224 t225 6 t237 t238 t239 w0 _ ?side1 ?side2 A7.out).mono ?_); (case side1 => repeat (first | (with_reducible first | exact HI0.out | apply IsS51.alloc | apply IsS51.drewN | apply IsS51.drew | apply IsS51.set_1 | apply IsS51.set_2) | exact HI0.out)); (case side2 => repeat (first | (with_reducible first | exact HB.out | apply below_alloc | apply pw_below_drewN | apply below_drew1 | refine below_set ?_ (IsS51.ge HI0.out)) | exact HB.out)); rintro e w18 ⟨rfl, hi, hb, hk⟩; refine ⟨_, rfl, ?_⟩; have n0_ := Aside0.mk (Kd.R_mono (Kd.R_keep (IsS51.apart (show IsS51 w0 _ g s0_0 t224 t225 from by repeat (first | (with_reducible first | exact HI0.out | apply IsS51.alloc | apply IsS51.drewN | apply IsS51.drew | apply IsS51.set_1 | apply IsS51.set_2) | exact HI0.out)) (KR HO233) (by decide)) hk (fun _ h => h.2)) (fun _ h => h.1)); have n1_ := Aside0.mk (Kd.R_mono (Kd.R_keep (IsS51.apart (show IsS51 w0 _ g s0_0 t224 t225 from by repeat (first | (with_reducible first | exact HI0.out | apply IsS51.alloc | apply IsS51.drewN | apply IsS51.drew | apply IsS51.set_1 | apply IsS51.set_2) | exact HI0.out)) (KR HO236) (by decide)) hk (fun _ h => h.2)) (fun _ h => h.1)); have n2_ := Aside0.mk (KeepBut.trans (by repeat (first | (with_reducible first | exact HK.out | apply KeepBut.set_ | apply keep_drewN | apply keep_drew | apply keep_alloc) | exact HK.out)) hk (.inl rfl)); have n3_ := Aside0.mk (hb); have n4_ := Aside0.mk (hi); clear HO233; clear HO236; clear HK; clear HB; clear HI0; have HO233 := n0_; have HO236 := n1_; have HK := n2_; have HB := n3_; have HI0 := n4_; clear n0_ n1_ n2_ n3_ n4_; (try clear hb); (try clear hb2); (try clear hk); (try clear hi); obtain ⟨Ao19, co19, eo19⟩ := Kd.R_slice HO236.out; subst eo19) | ((with_reducible refine gate_callee (f := 44) rfl ?_); refine goesL_ (some 38) rfl rfl Tryd.func44 (by kernel_rfl) rfl #[.pointer (some ⟨g, 0, none⟩), .int .i64 (t234.length : Int)] rfl TA ?_; (with_reducible refine (spec_l1Cur_pick.calls g s0_0 t238 t239 (t234.length : Int) t240 t241 t242 w0 _ ?side1 ?side2 A9.out).mono ?_); (case side1 => repeat (first | (with_reducible first | exact HI0.out | apply IsS51.alloc | apply IsS51.drewN | apply IsS51.drew | apply IsS51.set_1 | apply IsS51.set_2) | exact HI0.out)); (case side2 => repeat (first | (with_reducible first | exact HB.out | apply below_alloc | apply pw_below_drewN | apply below_drew1 | refine below_set ?_ (IsS51.ge HI0.out)) | exact HB.out)); rintro e w20 ⟨rfl, hi, hb, hk⟩; refine ⟨_, rfl, ?_⟩; have n0_ := Aside0.mk (Kd.R_mono (Kd.R_keep (IsS51.apart (show IsS51 w0 _ g s0_0 t238 t239 from by repeat (first | (with_reducible first | exact HI0.out | apply IsS51.alloc | apply IsS51.drewN | apply IsS51.drew | apply IsS51.set_1 | apply IsS51.set_2) | exact HI0.out)) (KR HO233) (by decide)) hk (fun _ h => h.2)) (fun _ h => h.1)); have n1_ := Aside0.mk (Kd.R_mono (Kd.R_keep (IsS51.apart (show IsS51 w0 _ g s0_0 t238 t239 from by repeat (first | (with_reducible first | exact HI0.out | apply IsS51.alloc | apply IsS51.drewN | apply IsS51.drew | apply IsS51.set_1 | apply IsS51.set_2) | exact HI0.out)) (KR HO236) (by decide)) hk (fun _ h => h.2)) (fun _ h => h.1)); have n2_ := Aside0.mk (KeepBut.trans (by repeat (first | (with_reducible first | exact HK.out | apply KeepBut.set_ | apply keep_drewN | apply keep_drew | apply keep_alloc) | exact HK.out)) hk (.inl rfl)); have n3_ := Aside0.mk (hb); have n4_ := Aside0.mk (hi); clear HO233; clear HO236; clear HK; clear HB; clear HI0; have HO233 := n0_; have HO236 := n1_; have HK := n2_; have HB := n3_; have HI0 := n4_; clear n0_ n1_ n2_ n3_ n4_; (try clear hb); (try clear hb2); (try clear hk); (try clear hi)) | ((with_reducible refine gate_callee (f := 44) rfl ?_); refine goesL_ (some 40) rfl rfl Tryd.func44 (by kernel_rfl) rfl #[.pointer (some ⟨g, 0, none⟩), .int .i64 4] rfl TA ?_; (with_reducible refine (spec_l1Cur_pick.calls g s0_0 t241 t242 4 t243 t244 t245 w0 _ ?side1 ?side2 A10.out).mono ?_); (case side1 => repeat (first | (with_reducible first | exact HI0.out | apply IsS51.alloc | apply IsS51.drewN | apply IsS51.drew | apply IsS51.set_1 | apply IsS51.set_2) | exact HI0.out)); (case side2 => repeat (first | (with_reducible first | exact HB.out | apply below_alloc | apply pw_below_drewN | apply below_drew1 | refine below_set ?_ (IsS51.ge HI0.out)) | exact HB.out)); rintro e w21 ⟨rfl, hi, hb, hk⟩; refine ⟨_, rfl, ?_⟩; have n0_ := Aside0.mk (Kd.R_mono (Kd.R_keep (IsS51.apart (show IsS51 w0 _ g s0_0 t241 t242 from by repeat (first | (with_reducible first | exact HI0.out | apply IsS51.alloc | apply IsS51.drewN | apply IsS51.drew | apply IsS51.set_1 | apply IsS51.set_2) | exact HI0.out)) (KR HO233) (by decide)) hk (fun _ h => h.2)) (fun _ h => h.1)); have n1_ := Aside0.mk (Kd.R_mono (Kd.R_keep (IsS51.apart (show IsS51 w0 _ g s0_0 t241 t242 from by repeat (first | (with_reducible first | exact HI0.out | apply IsS51.alloc | apply IsS51.drewN | apply IsS51.drew | apply IsS51.set_1 | apply IsS51.set_2) | exact HI0.out)) (KR HO236) (by decide)) hk (fun _ h => h.2)) (fun _ h => h.1)); have n2_ := Aside0.mk (KeepBut.trans (by repeat (first | (with_reducible first | exact HK.out | apply KeepBut.set_ | apply keep_drewN | apply keep_drew | apply keep_alloc) | exact HK.out)) hk (.inl rfl)); have n3_ := Aside0.mk (hb); have n4_ := Aside0.mk (hi); clear HO233; clear HO236; clear HK; clear HB; clear HI0; have HO233 := n0_; have HO236 := n1_; have HK := n2_; have HB := n3_; have HI0 := n4_; clear n0_ n1_ n2_ n3_ n4_; (try clear hb); (try clear hb2); (try clear hk); (try clear hi); have p13 : 0 ≤ (t240 : Int) := of_decide_eq_true AS; have q13 : (t240 : Int) < ((t234.length : Int) : Int) := of_decide_eq_true AS; obtain ⟨go13, co13, eo13, gb13, gl13, cl13, HG13⟩ := Kd.R_form HO236.out (by omega); (first | cases eo13 | (injection eo13 with ea_ en_ ec_; (first | subst ea_ | (injection ea_ with ea_; subst ea_)); subst ec_; clear en_)); have GB13 := Aside0.mk gb13; have GG13 := Aside0.mk HG13; clear gb13 gl13 HG13; obtain ⟨hx13_0, hf13_0⟩ := Kd.R_celln 0 HO236.out (t240 : Int) p13 q13; replace p13 := eq_true p13; replace q13 := eq_true q13; have n_ := Aside0.mk (Kd.R_mono (ok' := (fun k_ => some k_ ≠ (.slice Ao16 t230.length co16 : Value).ownBlock)) HO236.out (fun k_ hk => hk.2)); clear HO236; have HO236 := n_; clear n_; obtain ⟨hy22_, hz22_⟩ := Kd.R_celln 0 HO236.out (t240 : Int) (of_decide_eq_true AS) (of_decide_eq_true AS); have HP22 := Kd.R_putg HO236.out (t240 : Int) (wrap64 (t243 - 1))) | ((with_reducible refine gate_store (t := 3) (p := 42) rfl ?_); refine store_event (t := 3) (p := 42) (v := ?vo_w23) (w1 := (w21.setCell ⟨go13, (t240 : Int).toNat, none⟩ (.int .i64 (wrap64 (t243 - 1))))) ?hg ?ho ?hn ?hr ?_; (case ho => rfl); (case hg => rfl); (case hn => rfl); (case hr => exact GS); intro w23 hw; have hg : w21.grownBy w23 (some go13) := (by rw [hw]; exact HP22.2); have hp_ : Kd.R (Kd.int .i64) 3 w23 w.heap.size (fun k_ => some k_ ≠ (.slice Ao16 t230.length co16 : Value).ownBlock) (.slice (some ⟨go13, 0, none⟩) t234.length co19) y246 := (by rw [hw, Ny246.out]; exact HP22.1); clear HP22; have n0_ := Aside0.mk (IsS51.grown (by repeat (first | (with_reducible first | exact HI0.out | apply IsS51.alloc | apply IsS51.drewN | apply IsS51.drew | apply IsS51.set_1 | apply IsS51.set_2) | exact HI0.out)) hg (IsS51.own_ne HI0.out HO236.out (by decide))); have n1_ := Aside0.mk (Kd.R_after (v := (.slice (some ⟨go13, 0, none⟩) t234.length co19)) (v1 := (.slice (some ⟨go13, 0, none⟩) t234.length co19)) (ok := (fun _ => True)) (KR HO233) hg (.inl rfl)); have n2_ := Aside0.mk (hp_); have n3_ := Aside0.mk ((by rw [hw]; exact below_set (HB.out) (Nat.le_trans HL.out GB13.out) : Below w0.heap.size w0 w23)); have n4_ := Aside0.mk (KeepBut.trans (by repeat (first | (with_reducible first | exact HK.out | apply KeepBut.set_ | apply keep_drewN | apply keep_drew | apply keep_alloc) | exact HK.out)) (KeepBut.of_grown hg g) (Kd.R_base2 HO236.out)); clear HI0; clear HO233; clear HO236; clear HB; clear HK; have HI0 := n0_; have HO233 := n1_; have HO236 := n2_; have HB := n3_; have HK := n4_; clear n0_ n1_ n2_ n3_ n4_; clear hg hw hp_))
     go_ret3
     exact ⟨_, RE, by (with_reducible repeat (first | apply Kd.R_alloc | apply Kd.R_drewN | apply Kd.R_drew)); exact Kd.R_mono HO236.out (fun _ hk => trivial), by repeat (first | (with_reducible first | exact HI0.out | apply IsS51.alloc | apply IsS51.drewN | apply IsS51.drew | apply IsS51.set_1 | apply IsS51.set_2) | exact HI0.out), by repeat (first | (with_reducible first | exact HB.out | apply below_alloc | apply pw_below_drewN | apply below_drew1 | refine below_set ?_ (IsS51.ge HI0.out)) | exact HB.out), by repeat (first | (with_reducible first | exact HK.out | apply KeepBut.set_ | apply keep_drewN | apply keep_drew | apply keep_alloc) | exact HK.out)⟩
    ·rw [if_neg c12] at H
     cases H
   ·rw [if_neg c11] at H
    cases H
  ·rw [if_neg c8] at H
   have c8b0 : (t237 == 0) = false := beq_eq_false_iff_ne.mpr c8
   have c8b1 : (t237 != 0) = true := bne_iff_ne.mpr c8
   by_cases c24 : t237 = 1
   ·rw [if_pos c24] at H
    have c24b0 : (t237 == 1) = true := beq_iff_eq.mpr c24
    have c24b1 : (t237 != 1) = false := bne_eq_false_iff_eq.mpr c24
    clear c24
    by_cases c25 : t234.length < 17592186044416
    ·rw [if_pos c25] at H
     have LMc25 := Aside0.mk c25
     clear c25
     obtain ⟨y247, hy247⟩ : ∃ y_ : List Int, y_ = (t234 ++ [0]) := ⟨_, rfl⟩
     replace H : (some (t222, t223, y247, t238, t239)) = some (r1, r2, r3, r4, r5) := HY H hy247
     have Ny247 := Aside0.mk hy247
     clear hy247
     simp only [Option.some.injEq, Prod.mk.injEq] at H
     obtain ⟨rfl, rfl, rfl, rfl, rfl⟩ := H
     go_enter Tryd.func53, Tryd.ntmps53
     go_wp2_with (first | ((with_reducible refine gate_callee (f := 46) rfl ?_); refine goesL_ (some 12) rfl rfl Tryd.func46 (by kernel_rfl) rfl #[.pointer (some ⟨g, 0, none⟩), .int .i64 6] rfl TA ?_; (with_reducible refine (spec_l1Cur_sets.calls g s0_0 s0_1 s0_2 6 t222 t223 t224 t225 w0 _ ?side1 ?side2 A2.out).mono ?_); (case side1 => repeat (first | (with_reducible first | exact HI0.out | apply IsS51.alloc | apply IsS51.drewN | apply IsS51.drew | apply IsS51.set_1 | apply IsS51.set_2) | exact HI0.out)); (case side2 => repeat (first | (with_reducible first | exact HB.out | apply below_alloc | apply pw_below_drewN | apply below_drew1 | refine below_set ?_ (IsS51.ge HI0.out)) | exact HB.out)); rintro e w26 ⟨rfl, hi, hb, hk⟩; refine ⟨_, rfl, ?_⟩; have n0_ := Aside0.mk (KeepBut.trans (by repeat (first | (with_reducible first | exact HK.out | apply KeepBut.set_ | apply keep_drewN | apply keep_drew | apply keep_alloc) | exact HK.out)) hk (.inl rfl)); have n1_ := Aside0.mk (hb); have n2_ := Aside0.mk (hi); clear HK; clear HB; clear HI0; have HK := n0_; have HB := n1_; have HI0 := n2_; clear n0_ n1_ n2_; (try clear hb); (try clear hb2); (try clear hk); (try clear hi)) | ((with_reducible refine gate_callee (f := 30) rfl ?_); refine goesL_ (some 17) rfl rfl Tryd.func30 (by kernel_rfl) rfl #[.int .i64 t222, .int .i64 t223] rfl TA ?_; (with_reducible refine (spec_knGiven.calls t222 t223 true _ A3.out).mono ?_); rintro e w' ⟨rfl, ⟨nd, rfl⟩⟩; refine ⟨_, rfl, ?_⟩) | ((with_reducible refine gate_callee (f := 7) rfl ?_); refine goesL_ (some 25) rfl rfl Tryd.func7 (by kernel_rfl) rfl #[.int .i64 t222, .int .i64 t223] rfl TA ?_; (with_reducible refine (spec_ColoursOf.calls k t222 t223 t230 t231 _ A5.out).mono ?_); rintro e w27 ⟨v232, rfl, ho0, hb⟩; refine ⟨_, rfl, ?_⟩; have n0_ := Aside0.mk (Kd.R_lower ho0 (keep_size (w := w) (g := g) (row := none) (by repeat (first | (with_reducible first | exact HK.out | apply KeepBut.set_ | apply keep_drewN | apply keep_drew | apply keep_alloc) | exact HK.out)))); have n1_ := Aside0.mk (IsS51.below (by repeat (first | (with_reducible first | exact HI0.out | apply IsS51.alloc | apply IsS51.drewN | apply IsS51.drew | apply IsS51.set_1 | apply IsS51.set_2) | exact HI0.out)) hb); have n2_ := Aside0.mk (KeepBut.trans (by repeat (first | (with_reducible first | exact HK.out | apply KeepBut.set_ | apply keep_drewN | apply keep_drew | apply keep_alloc) | exact HK.out)) (KeepBut.of_below hb g none) (.inl rfl)); have n3_ := Aside0.mk (below_step (by repeat (first | (with_reducible first | exact HB.out | apply below_alloc | apply pw_below_drewN | apply below_drew1 | refine below_set ?_ (IsS51.ge HI0.out)) | exact HB.out)) hb); clear HI0; clear HK; clear HB; have HO233 := n0_; have HI0 := n1_; have HK := n2_; have HB := n3_; clear n0_ n1_ n2_ n3_; (try clear hb); (try clear hb2); (try clear hk); (try clear hi); (try clear ho0); obtain ⟨Ao28, co28, eo28⟩ := Kd.R_slice HO233.out; subst eo28) | ((with_reducible refine gate_callee (f := 57) rfl ?_); refine goesL_ (some 29) rfl rfl Tryd.func57 (by kernel_rfl) rfl #[.slice Ao28 t230.length co28] rfl TA ?_; (with_reducible refine (spec_l1Own.calls _ _ t230 t234 _ ?side1 ?side2 A6.out).mono ?_); (case side1 => exact CW (Kd.R_reads' HO233.out).2.2); (case side2 => exact (Kd.R_reads' HO233.out).2.1); rintro e w29 ⟨v235, rfl, ho0, hb⟩; refine ⟨_, rfl, ?_⟩; have n0_ := Aside0.mk (Kd.R_elder' (KR HO233) (Kd.R_base ho0) hb); have n1_ := Aside0.mk (Kd.R_lower (Kd.R_new' ho0 (Kd.R_lt (KR HO233))) (keep_size (w := w) (g := g) (row := none) (by repeat (first | (with_reducible first | exact HK.out | apply KeepBut.set_ | apply keep_drewN | apply keep_drew | apply keep_alloc) | exact HK.out)))); have n2_ := Aside0.mk (IsS51.below (by repeat (first | (with_reducible first | exact HI0.out | apply IsS51.alloc | apply IsS51.drewN | apply IsS51.drew | apply IsS51.set_1 | apply IsS51.set_2) | exact HI0.out)) hb); have n3_ := Aside0.mk (KeepBut.trans (by repeat (first | (with_reducible first | exact HK.out | apply KeepBut.set_ | apply keep_drewN | apply keep_drew | apply keep_alloc) | exact HK.out)) (KeepBut.of_below hb g none) (.inl rfl)); have n4_ := Aside0.mk (below_step (by repeat (first | (with_reducible first | exact HB.out | apply below_alloc | apply pw_below_drewN | apply below_drew1 | refine below_set ?_ (IsS51.ge HI0.out)) | exact HB.out)) hb); clear HO233; clear HI0; clear HK; clear HB; have HO233 := n0_; have HO236 := n1_; have HI0 := n2_; have HK := n3_; have HB := n4_; clear n0_ n1_ n2_ n3_ n4_; (try clear hb); (try clear hb2); (try clear hk); (try clear hi); (try clear ho0)) | ((with_reducible refine gate_callee (f := 44) rfl ?_); refine goesL_ (some 31) rfl rfl Tryd.func44 (by kernel_rfl) rfl #[.pointer (some ⟨g, 0, none⟩), .int .i64 6] rfl TA ?_; (with_reducible refine (spec_l1Cur_pick.calls g s0_0 t224 t225 6 t237 t238 t239 w0 _ ?side1 ?side2 A7.out).mono ?_); (case side1 => repeat (first | (with_reducible first | exact HI0.out | apply IsS51.alloc | apply IsS51.drewN | apply IsS51.drew | apply IsS51.set_1 | apply IsS51.set_2) | exact HI0.out)); (case side2 => repeat (first | (with_reducible first | exact HB.out | apply below_alloc | apply pw_below_drewN | apply below_drew1 | refine below_set ?_ (IsS51.ge HI0.out)) | exact HB.out)); rintro e w30 ⟨rfl, hi, hb, hk⟩; refine ⟨_, rfl, ?_⟩; have n0_ := Aside0.mk (Kd.R_mono (Kd.R_keep (IsS51.apart (show IsS51 w0 _ g s0_0 t224 t225 from by repeat (first | (with_reducible first | exact HI0.out | apply IsS51.alloc | apply IsS51.drewN | apply IsS51.drew | apply IsS51.set_1 | apply IsS51.set_2) | exact HI0.out)) (KR HO233) (by decide)) hk (fun _ h => h.2)) (fun _ h => h.1)); have n1_ := Aside0.mk (Kd.R_mono (Kd.R_keep (IsS51.apart (show IsS51 w0 _ g s0_0 t224 t225 from by repeat (first | (with_reducible first | exact HI0.out | apply IsS51.alloc | apply IsS51.drewN | apply IsS51.drew | apply IsS51.set_1 | apply IsS51.set_2) | exact HI0.out)) (KR HO236) (by decide)) hk (fun _ h => h.2)) (fun _ h => h.1)); have n2_ := Aside0.mk (KeepBut.trans (by repeat (first | (with_reducible first | exact HK.out | apply KeepBut.set_ | apply keep_drewN | apply keep_drew | apply keep_alloc) | exact HK.out)) hk (.inl rfl)); have n3_ := Aside0.mk (hb); have n4_ := Aside0.mk (hi); clear HO233; clear HO236; clear HK; clear HB; clear HI0; have HO233 := n0_; have HO236 := n1_; have HK := n2_; have HB := n3_; have HI0 := n4_; clear n0_ n1_ n2_ n3_ n4_; (try clear hb); (try clear hb2); (try clear hk); (try clear hi)) | ((with_reducible refine gate_builtin (b := .append) (xs := #[.tmp 45, .tmp 46]) rfl ?_); at_builtin; refine Kd.R_append (Kd.int .i64) w.heap.size rfl (.tmp 45) (.tmp 46) 26 3 (.int .i64 0) 8 rfl Tryd.underlying26 info3 rfl (by decide) (by omega) v235 t234 0 [.int .i64 0] (fun k_ => some k_ ≠ (.slice Ao28 t230.length co28 : Value).ownBlock) (fun _ => False) rfl rfl ?aP (fun _ hk => hk.elim) ?aF ?aO (Below.refl _ _) ?aS ?aL ?_; (case aP => exact rfl); (case aF => exact (fun k_ hk => Kd.fresh' (Kd.R_lt (KR HO233)) k_ hk)); (case aO => exact (by (with_reducible repeat (first | apply Kd.R_alloc | apply Kd.R_drewN | apply Kd.R_drew)); exact Kd.R_mono HO236.out (fun _ hk => hk.2))); (case aS => exact (keep_size (w := w) (g := g) (row := none) (by repeat (first | (with_reducible first | exact HK.out | apply KeepBut.set_ | apply keep_drewN | apply keep_drew | apply keep_alloc) | exact HK.out)))); (case aL => have := LMc25.out; omega); intro v248 w31 ho hb hg hat; rw [← Ny247.out] at ho; have n0_ := Aside0.mk (IsS51.grown (by repeat (first | (with_reducible first | exact HI0.out | apply IsS51.alloc | apply IsS51.drewN | apply IsS51.drew | apply IsS51.set_1 | apply IsS51.set_2) | exact HI0.out)) hg (IsS51.own_ne HI0.out HO236.out (by decide))); have n1_ := Aside0.mk (Kd.R_after (ok := (fun _ => True)) (KR HO233) hg hat); have n2_ := Aside0.mk (below_weaken (by repeat (first | (with_reducible first | exact HB.out | apply below_alloc | apply pw_below_drewN | apply below_drew1 | refine below_set ?_ (IsS51.ge HI0.out)) | exact HB.out)) HL.out hb); have n3_ := Aside0.mk (KeepBut.trans (by repeat (first | (with_reducible first | exact HK.out | apply KeepBut.set_ | apply keep_drewN | apply keep_drew | apply keep_alloc) | exact HK.out)) (KeepBut.of_grown hg g) (Kd.R_base2 HO236.out)); have n4_ := Aside0.mk (ho); clear HI0; clear HO233; clear HB; clear HK; clear HO236; have HI0 := n0_; have HO233 := n1_; have HB := n2_; have HK := n3_; have HO249 := n4_; clear n0_ n1_ n2_ n3_ n4_; clear ho hb hg hat))
     go_ret3
     exact ⟨_, RE, by (with_reducible repeat (first | apply Kd.R_alloc | apply Kd.R_drewN | apply Kd.R_drew)); exact Kd.R_mono HO249.out (fun _ hk => trivial), by repeat (first | (with_reducible first | exact HI0.out | apply IsS51.alloc | apply IsS51.drewN | apply IsS51.drew | apply IsS51.set_1 | apply IsS51.set_2) | exact HI0.out), by repeat (first | (with_reducible first | exact HB.out | apply below_alloc | apply pw_below_drewN | apply below_drew1 | refine below_set ?_ (IsS51.ge HI0.out)) | exact HB.out), by repeat (first | (with_reducible first | exact HK.out | apply KeepBut.set_ | apply keep_drewN | apply keep_drew | apply keep_alloc) | exact HK.out)⟩
    ·rw [if_neg c25] at H
     cases H
   ·rw [if_neg c24] at H
    have c24b0 : (t237 == 1) = false := beq_eq_false_iff_ne.mpr c24
    have c24b1 : (t237 != 1) = true := bne_iff_ne.mpr c24
    by_cases c32 : t237 = 2
    ·rw [if_pos c32] at H
     have c32b0 : (t237 == 2) = true := beq_iff_eq.mpr c32
     have c32b1 : (t237 != 2) = false := bne_eq_false_iff_eq.mpr c32
     clear c32
     have H' := Aside0.mk H
     clear H
     go_enter Tryd.func53, Tryd.ntmps53
     go_wp2_with (first | ((with_reducible refine gate_callee (f := 46) rfl ?_); refine goesL_ (some 12) rfl rfl Tryd.func46 (by kernel_rfl) rfl #[.pointer (some ⟨g, 0, none⟩), .int .i64 6] rfl TA ?_; (with_reducible refine (spec_l1Cur_sets.calls g s0_0 s0_1 s0_2 6 t222 t223 t224 t225 w0 _ ?side1 ?side2 A2.out).mono ?_); (case side1 => repeat (first | (with_reducible first | exact HI0.out | apply IsS51.alloc | apply IsS51.drewN | apply IsS51.drew | apply IsS51.set_1 | apply IsS51.set_2) | exact HI0.out)); (case side2 => repeat (first | (with_reducible first | exact HB.out | apply below_alloc | apply pw_below_drewN | apply below_drew1 | refine below_set ?_ (IsS51.ge HI0.out)) | exact HB.out)); rintro e w33 ⟨rfl, hi, hb, hk⟩; refine ⟨_, rfl, ?_⟩; have n0_ := Aside0.mk (KeepBut.trans (by repeat (first | (with_reducible first | exact HK.out | apply KeepBut.set_ | apply keep_drewN | apply keep_drew | apply keep_alloc) | exact HK.out)) hk (.inl rfl)); have n1_ := Aside0.mk (hb); have n2_ := Aside0.mk (hi); clear HK; clear HB; clear HI0; have HK := n0_; have HB := n1_; have HI0 := n2_; clear n0_ n1_ n2_; (try clear hb); (try clear hb2); (try clear hk); (try clear hi)) | ((with_reducible refine gate_callee (f := 30) rfl ?_); refine goesL_ (some 17) rfl rfl Tryd.func30 (by kernel_rfl) rfl #[.int .i64 t222, .int .i64 t223] rfl TA ?_; (with_reducible refine (spec_knGiven.calls t222 t223 true _ A3.out).mono ?_); rintro e w' ⟨rfl, ⟨nd, rfl⟩⟩; refine ⟨_, rfl, ?_⟩) | ((with_reducible refine gate_callee (f := 7) rfl ?_); refine goesL_ (some 25) rfl rfl Tryd.func7 (by kernel_rfl) rfl #[.int .i64 t222, .int .i64 t223] rfl TA ?_; (with_reducible refine (spec_ColoursOf.calls k t222 t223 t230 t231 _ A5.out).mono ?_); rintro e w34 ⟨v232, rfl, ho0, hb⟩; refine ⟨_, rfl, ?_⟩; have n0_ := Aside0.mk (Kd.R_lower ho0 (keep_size (w := w) (g := g) (row := none) (by repeat (first | (with_reducible first | exact HK.out | apply KeepBut.set_ | apply keep_drewN | apply keep_drew | apply keep_alloc) | exact HK.out)))); have n1_ := Aside0.mk (IsS51.below (by repeat (first | (with_reducible first | exact HI0.out | apply IsS51.alloc | apply IsS51.drewN | apply IsS51.drew | apply IsS51.set_1 | apply IsS51.set_2) | exact HI0.out)) hb); have n2_ := Aside0.mk (KeepBut.trans (by repeat (first | (with_reducible first | exact HK.out | apply KeepBut.set_ | apply keep_drewN | apply keep_drew | apply keep_alloc) | exact HK.out)) (KeepBut.of_below hb g none) (.inl rfl)); have n3_ := Aside0.mk (below_step (by repeat (first | (with_reducible first | exact HB.out | apply below_alloc | apply pw_below_drewN | apply below_drew1 | refine below_set ?_ (IsS51.ge HI0.out)) | exact HB.out)) hb); clear HI0; clear HK; clear HB; have HO233 := n0_; have HI0 := n1_; have HK := n2_; have HB := n3_; clear n0_ n1_ n2_ n3_; (try clear hb); (try clear hb2); (try clear hk); (try clear hi); (try clear ho0); obtain ⟨Ao35, co35, eo35⟩ := Kd.R_slice HO233.out; subst eo35) | ((with_reducible refine gate_callee (f := 57) rfl ?_); refine goesL_ (some 29) rfl rfl Tryd.func57 (by kernel_rfl) rfl #[.slice Ao35 t230.length co35] rfl TA ?_; (with_reducible refine (spec_l1Own.calls _ _ t230 t234 _ ?side1 ?side2 A6.out).mono ?_); (case side1 => exact CW (Kd.R_reads' HO233.out).2.2); (case side2 => exact (Kd.R_reads' HO233.out).2.1); rintro e w36 ⟨v235, rfl, ho0, hb⟩; refine ⟨_, rfl, ?_⟩; have n0_ := Aside0.mk (Kd.R_elder' (KR HO233) (Kd.R_base ho0) hb); have n1_ := Aside0.mk (Kd.R_lower (Kd.R_new' ho0 (Kd.R_lt (KR HO233))) (keep_size (w := w) (g := g) (row := none) (by repeat (first | (with_reducible first | exact HK.out | apply KeepBut.set_ | apply keep_drewN | apply keep_drew | apply keep_alloc) | exact HK.out)))); have n2_ := Aside0.mk (IsS51.below (by repeat (first | (with_reducible first | exact HI0.out | apply IsS51.alloc | apply IsS51.drewN | apply IsS51.drew | apply IsS51.set_1 | apply IsS51.set_2) | exact HI0.out)) hb); have n3_ := Aside0.mk (KeepBut.trans (by repeat (first | (with_reducible first | exact HK.out | apply KeepBut.set_ | apply keep_drewN | apply keep_drew | apply keep_alloc) | exact HK.out)) (KeepBut.of_below hb g none) (.inl rfl)); have n4_ := Aside0.mk (below_step (by repeat (first | (with_reducible first | exact HB.out | apply below_alloc | apply pw_below_drewN | apply below_drew1 | refine below_set ?_ (IsS51.ge HI0.out)) | exact HB.out)) hb); clear HO233; clear HI0; clear HK; clear HB; have HO233 := n0_; have HO236 := n1_; have HI0 := n2_; have HK := n3_; have HB := n4_; clear n0_ n1_ n2_ n3_ n4_; (try clear hb); (try clear hb2); (try clear hk); (try clear hi); (try clear ho0)) | ((with_reducible refine gate_callee (f := 44) rfl ?_); refine goesL_ (some 31) rfl rfl Tryd.func44 (by kernel_rfl) rfl #[.pointer (some ⟨g, 0, none⟩), .int .i64 6] rfl TA ?_; (with_reducible refine (spec_l1Cur_pick.calls g s0_0 t224 t225 6 t237 t238 t239 w0 _ ?side1 ?side2 A7.out).mono ?_); (case side1 => repeat (first | (with_reducible first | exact HI0.out | apply IsS51.alloc | apply IsS51.drewN | apply IsS51.drew | apply IsS51.set_1 | apply IsS51.set_2) | exact HI0.out)); (case side2 => repeat (first | (with_reducible first | exact HB.out | apply below_alloc | apply pw_below_drewN | apply below_drew1 | refine below_set ?_ (IsS51.ge HI0.out)) | exact HB.out)); rintro e w37 ⟨rfl, hi, hb, hk⟩; refine ⟨_, rfl, ?_⟩; have n0_ := Aside0.mk (Kd.R_mono (Kd.R_keep (IsS51.apart (show IsS51 w0 _ g s0_0 t224 t225 from by repeat (first | (with_reducible first | exact HI0.out | apply IsS51.alloc | apply IsS51.drewN | apply IsS51.drew | apply IsS51.set_1 | apply IsS51.set_2) | exact HI0.out)) (KR HO233) (by decide)) hk (fun _ h => h.2)) (fun _ h => h.1)); have n1_ := Aside0.mk (Kd.R_mono (Kd.R_keep (IsS51.apart (show IsS51 w0 _ g s0_0 t224 t225 from by repeat (first | (with_reducible first | exact HI0.out | apply IsS51.alloc | apply IsS51.drewN | apply IsS51.drew | apply IsS51.set_1 | apply IsS51.set_2) | exact HI0.out)) (KR HO236) (by decide)) hk (fun _ h => h.2)) (fun _ h => h.1)); have n2_ := Aside0.mk (KeepBut.trans (by repeat (first | (with_reducible first | exact HK.out | apply KeepBut.set_ | apply keep_drewN | apply keep_drew | apply keep_alloc) | exact HK.out)) hk (.inl rfl)); have n3_ := Aside0.mk (hb); have n4_ := Aside0.mk (hi); clear HO233; clear HO236; clear HK; clear HB; clear HI0; have HO233 := n0_; have HO236 := n1_; have HK := n2_; have HB := n3_; have HI0 := n4_; clear n0_ n1_ n2_ n3_ n4_; (try clear hb); (try clear hb2); (try clear hk); (try clear hi); obtain ⟨Ao38, co38, eo38⟩ := Kd.R_slice HO236.out; subst eo38))
     go_loopg [52] k (fun kq v52 w' => ∃ (x7_1 : List Int) (x52_1 : Int) (x1001_1 : Int) (x1002_1 : Int), v52 = .int .i64 x52_1 ∧ Aside0 (spec_l1Cur_coloured.l0 kq t222 t223 x7_1 (t234.length : Int) x52_1 s0_0 x1001_1 x1002_1 = some (r1, r2, r3, r4, r5)) ∧ Aside0 (kq ≤ k) ∧ Aside0 (Kd.R (Kd.int .i64) 3 w' w.heap.size (fun _ => True) (.slice Ao38 t234.length co38) x7_1) ∧ Aside0 (IsS51 w0 w' g s0_0 x1001_1 x1002_1) ∧ Aside0 (KeepBut w w' g none) ∧ Aside0 (Below w0.heap.size w0 w'))
     case atStart => exact ⟨(t234), (0), (t238), (t239), RF, H', ⟨Nat.le_refl _⟩, ⟨by (with_reducible repeat (first | apply Kd.R_alloc | apply Kd.R_drewN | apply Kd.R_drew)); exact Kd.R_mono HO236.out (fun _ hk => trivial)⟩, ⟨by repeat (first | (with_reducible first | exact HI0.out | apply IsS51.alloc | apply IsS51.drewN | apply IsS51.drew | apply IsS51.set_1 | apply IsS51.set_2) | exact HI0.out)⟩, ⟨by repeat (first | (with_reducible first | exact HK.out | apply KeepBut.set_ | apply keep_drewN | apply keep_drew | apply keep_alloc) | exact HK.out)⟩, ⟨by repeat (first | (with_reducible first | exact HB.out | apply below_alloc | apply pw_below_drewN | apply below_drew1 | refine below_set ?_ (IsS51.ge HI0.out)) | exact HB.out)⟩⟩
     case round =>
      clear H'
      try clear c1
      try clear p1
      try clear q1
      try clear hx1
      try clear hf1
      try clear c2
      try clear p2
      try clear c3
      try clear c4
      try clear c5
      try clear p6
      try clear c7
      try clear c8
      try clear c8b0
      try clear c8b1
      try clear c11
      try clear c11b0
      try clear c12
      try clear c12b0
      try clear p13
      try clear q13
      try clear hx13
      try clear hf13
      try clear c24
      try clear c24b0
      try clear c24b1
      try clear c25
      try clear c30
      try clear c32
      try clear c32b0
      try clear c32b1
      try clear hx13_0
      try clear p13
      try clear q13
      obtain ⟨x7_1, x52_1, x1001_1, x1002_1, rfl, HA, HK1, HO_7, HI0, HK, HB⟩ := hrel
      have hl7_1 := (Kd.R_reads' HO_7.out).1
      rw [hl7_1] at HO_7
      (try simp only [hl7_1])
      cases gk with
      | zero => exact absurd HA.out (by simp [spec_l1Cur_coloured.l0])
      | succ k1 =>
       have H := HA.out
       clear HA
       simp only [spec_l1Cur_coloured.l0] at H
       by_cases c39 : x52_1 < (t234.length : Int)
       ·rw [if_pos c39] at H
        have c39b0 : decide (x52_1 < (t234.length : Int)) = true := decide_eq_true c39
        clear c39
        obtain ⟨⟨t250, t251, t252⟩, A400, H⟩ := Option.bind_eq_some_iff.mp H
        replace H : (if 0 ≤ x52_1 then (if x52_1 < (x7_1.length : Int) then (spec_l1Cur_coloured.l0 k1 t222 t223 (x7_1.set (x52_1 : Int).toNat t250) (t234.length : Int) (wrap64 (x52_1 + 1)) s0_0 t251 t252) else (none)) else (none)) = some (r1, r2, r3, r4, r5) := H
        have A40 := Aside0.mk A400
        clear A400
        by_cases c41 : 0 ≤ x52_1
        ·rw [if_pos c41] at H
         have c41b0 : decide (0 ≤ x52_1) = true := decide_eq_true c41
         clear c41
         by_cases c42 : x52_1 < (x7_1.length : Int)
         ·rw [if_pos c42] at H
          have c42b0 : decide (x52_1 < (x7_1.length : Int)) = true := decide_eq_true c42
          clear c42
          obtain ⟨y253, hy253⟩ : ∃ y_ : List Int, y_ = (x7_1.set (x52_1 : Int).toNat t250) := ⟨_, rfl⟩
          replace H : (spec_l1Cur_coloured.l0 k1 t222 t223 y253 (t234.length : Int) (wrap64 (x52_1 + 1)) s0_0 t251 t252) = some (r1, r2, r3, r4, r5) := HY H hy253
          have Ny253 := Aside0.mk hy253
          clear hy253
          have H' := Aside0.mk H
          clear H
          go_wp2_with (first | ((with_reducible refine gate_callee (f := 44) rfl ?_); refine goesL_ (some 58) rfl rfl Tryd.func44 (by kernel_rfl) rfl #[.pointer (some ⟨g, 0, none⟩), .int .i64 3] rfl TA ?_; (with_reducible refine (spec_l1Cur_pick.calls g s0_0 x1001_1 x1002_1 3 t250 t251 t252 w0 _ ?side1 ?side2 A40.out).mono ?_); (case side1 => repeat (first | (with_reducible first | exact HI0.out | apply IsS51.alloc | apply IsS51.drewN | apply IsS51.drew | apply IsS51.set_1 | apply IsS51.set_2) | exact HI0.out)); (case side2 => repeat (first | (with_reducible first | exact HB.out | apply below_alloc | apply pw_below_drewN | apply below_drew1 | refine below_set ?_ (IsS51.ge HI0.out)) | exact HB.out)); rintro e w44 ⟨rfl, hi, hb, hk⟩; refine ⟨_, rfl, ?_⟩; have n0_ := Aside0.mk (Kd.R_mono (Kd.R_keep (IsS51.apart (show IsS51 w0 _ g s0_0 x1001_1 x1002_1 from by repeat (first | (with_reducible first | exact HI0.out | apply IsS51.alloc | apply IsS51.drewN | apply IsS51.drew | apply IsS51.set_1 | apply IsS51.set_2) | exact HI0.out)) (KR HO_7) (by decide)) hk (fun _ h => h.2)) (fun _ h => h.1)); have n1_ := Aside0.mk (KeepBut.trans (by repeat (first | (with_reducible first | exact HK.out | apply KeepBut.set_ | apply keep_drewN | apply keep_drew | apply keep_alloc) | exact HK.out)) hk (.inl rfl)); have n2_ := Aside0.mk (hb); have n3_ := Aside0.mk (hi); clear HO_7; clear HK; clear HB; clear HI0; have HO_7 := n0_; have HK := n1_; have HB := n2_; have HI0 := n3_; clear n0_ n1_ n2_ n3_; (try clear hb); (try clear hb2); (try clear hk); (try clear hi); have p43 : 0 ≤ (x52_1 : Int) := of_decide_eq_true AS; have q43 : (x52_1 : Int) < ((x7_1.length : Int) : Int) := of_decide_eq_true AS; obtain ⟨go43, co43, eo43, gb43, gl43, cl43, HG43⟩ := Kd.R_form HO_7.out (by omega); (first | cases eo43 | (injection eo43 with ea_ en_ ec_; (first | subst ea_ | (injection ea_ with ea_; subst ea_)); subst ec_; clear en_)); have GB43 := Aside0.mk gb43; have GG43 := Aside0.mk HG43; clear gb43 gl43 HG43; obtain ⟨hx43_0, hf43_0⟩ := Kd.R_celln 0 HO_7.out (x52_1 : Int) p43 q43; replace p43 := eq_true p43; replace q43 := eq_true q43; obtain ⟨hy45_, hz45_⟩ := Kd.R_celln 0 HO_7.out (x52_1 : Int) (of_decide_eq_true AS) (of_decide_eq_true AS); have HP45 := Kd.R_putg HO_7.out (x52_1 : Int) t250) | ((with_reducible refine gate_store (t := 3) (p := 59) rfl ?_); refine store_event (t := 3) (p := 59) (v := ?vo_w46) (w1 := (w44.setCell ⟨go43, (x52_1 : Int).toNat, none⟩ (.int .i64 t250))) ?hg ?ho ?hn ?hr ?_; (case ho => rfl); (case hg => rfl); (case hn => rfl); (case hr => exact GS); intro w46 hw; have hg : w44.grownBy w46 (some go43) := (by rw [hw]; exact HP45.2); have hp_ : Kd.R (Kd.int .i64) 3 w46 w.heap.size (fun _ => True) (.slice (some ⟨go43, 0, none⟩) x7_1.length co38) y253 := (by rw [hw, Ny253.out]; exact HP45.1); clear HP45; have n0_ := Aside0.mk (hp_); have n1_ := Aside0.mk (IsS51.grown (by repeat (first | (with_reducible first | exact HI0.out | apply IsS51.alloc | apply IsS51.drewN | apply IsS51.drew | apply IsS51.set_1 | apply IsS51.set_2) | exact HI0.out)) hg (IsS51.own_ne HI0.out HO_7.out (by decide))); have n2_ := Aside0.mk ((by rw [hw]; exact below_set (HB.out) (Nat.le_trans HL.out GB43.out) : Below w0.heap.size w0 w46)); have n3_ := Aside0.mk (KeepBut.trans (by repeat (first | (with_reducible first | exact HK.out | apply KeepBut.set_ | apply keep_drewN | apply keep_drew | apply keep_alloc) | exact HK.out)) (KeepBut.of_grown hg g) (Kd.R_base2 HO_7.out)); clear HO_7; clear HI0; clear HB; clear HK; have HO_7 := n0_; have HI0 := n1_; have HB := n2_; have HK := n3_; clear n0_ n1_ n2_ n3_; clear hg hw hp_))
          (try simp only [← hl7_1])
          go_roundg k1
          case measure => have := HK1.out; omega
          case rel => exact ⟨(y253), (wrap64 (x52_1 + 1)), (t251), (t252), RF, H', ⟨by have := HK1.out; omega⟩, ⟨by (try simp only [hl7_1]); (with_reducible repeat (first | apply Kd.R_alloc | apply Kd.R_drewN | apply Kd.R_drew)); exact HO_7.out⟩, ⟨by repeat (first | (with_reducible first | exact HI0.out | apply IsS51.alloc | apply IsS51.drewN | apply IsS51.drew | apply IsS51.set_1 | apply IsS51.set_2) | exact HI0.out)⟩, ⟨by repeat (first | (with_reducible first | exact HK.out | apply KeepBut.set_ | apply keep_drewN | apply keep_drew | apply keep_alloc) | exact HK.out)⟩, ⟨by repeat (first | (with_reducible first | exact HB.out | apply below_alloc | apply pw_below_drewN | apply below_drew1 | refine below_set ?_ (IsS51.ge HI0.out)) | exact HB.out)⟩⟩
         ·rw [if_neg c42] at H
          cases H
        ·rw [if_neg c41] at H
         cases H
       ·rw [if_neg c39] at H
        have c39b0 : decide (x52_1 < (t234.length : Int)) = false := decide_eq_false c39
        try (have c39bl := c39b0; rw [hl7_1] at c39bl)
        clear c39
        simp only [Option.some.injEq, Prod.mk.injEq] at H
        obtain ⟨rfl, rfl, rfl, rfl, rfl⟩ := H
        go_wp2
        go_ret3
        exact ⟨_, RE, KR HO_7, by repeat (first | (with_reducible first | exact HI0.out | apply IsS51.alloc | apply IsS51.drewN | apply IsS51.drew | apply IsS51.set_1 | apply IsS51.set_2) | exact HI0.out), by repeat (first | (with_reducible first | exact HB.out | apply below_alloc | apply pw_below_drewN | apply below_drew1 | refine below_set ?_ (IsS51.ge HI0.out)) | exact HB.out), by repeat (first | (with_reducible first | exact HK.out | apply KeepBut.set_ | apply keep_drewN | apply keep_drew | apply keep_alloc) | exact HK.out)⟩
    ·rw [if_neg c32] at H
     have c32b0 : (t237 == 2) = false := beq_eq_false_iff_ne.mpr c32
     have c32b1 : (t237 != 2) = true := bne_iff_ne.mpr c32
     simp only [Option.some.injEq, Prod.mk.injEq] at H
     obtain ⟨rfl, rfl, rfl, rfl, rfl⟩ := H
     go_enter Tryd.func53, Tryd.ntmps53
     go_wp2_with (first | ((with_reducible refine gate_callee (f := 46) rfl ?_); refine goesL_ (some 12) rfl rfl Tryd.func46 (by kernel_rfl) rfl #[.pointer (some ⟨g, 0, none⟩), .int .i64 6] rfl TA ?_; (with_reducible refine (spec_l1Cur_sets.calls g s0_0 s0_1 s0_2 6 t222 t223 t224 t225 w0 _ ?side1 ?side2 A2.out).mono ?_); (case side1 => repeat (first | (with_reducible first | exact HI0.out | apply IsS51.alloc | apply IsS51.drewN | apply IsS51.drew | apply IsS51.set_1 | apply IsS51.set_2) | exact HI0.out)); (case side2 => repeat (first | (with_reducible first | exact HB.out | apply below_alloc | apply pw_below_drewN | apply below_drew1 | refine below_set ?_ (IsS51.ge HI0.out)) | exact HB.out)); rintro e w47 ⟨rfl, hi, hb, hk⟩; refine ⟨_, rfl, ?_⟩; have n0_ := Aside0.mk (KeepBut.trans (by repeat (first | (with_reducible first | exact HK.out | apply KeepBut.set_ | apply keep_drewN | apply keep_drew | apply keep_alloc) | exact HK.out)) hk (.inl rfl)); have n1_ := Aside0.mk (hb); have n2_ := Aside0.mk (hi); clear HK; clear HB; clear HI0; have HK := n0_; have HB := n1_; have HI0 := n2_; clear n0_ n1_ n2_; (try clear hb); (try clear hb2); (try clear hk); (try clear hi)) | ((with_reducible refine gate_callee (f := 30) rfl ?_); refine goesL_ (some 17) rfl rfl Tryd.func30 (by kernel_rfl) rfl #[.int .i64 t222, .int .i64 t223] rfl TA ?_; (with_reducible refine (spec_knGiven.calls t222 t223 true _ A3.out).mono ?_); rintro e w' ⟨rfl, ⟨nd, rfl⟩⟩; refine ⟨_, rfl, ?_⟩) | ((with_reducible refine gate_callee (f := 7) rfl ?_); refine goesL_ (some 25) rfl rfl Tryd.func7 (by kernel_rfl) rfl #[.int .i64 t222, .int .i64 t223] rfl TA ?_; (with_reducible refine (spec_ColoursOf.calls k t222 t223 t230 t231 _ A5.out).mono ?_); rintro e w48 ⟨v232, rfl, ho0, hb⟩; refine ⟨_, rfl, ?_⟩; have n0_ := Aside0.mk (Kd.R_lower ho0 (keep_size (w := w) (g := g) (row := none) (by repeat (first | (with_reducible first | exact HK.out | apply KeepBut.set_ | apply keep_drewN | apply keep_drew | apply keep_alloc) | exact HK.out)))); have n1_ := Aside0.mk (IsS51.below (by repeat (first | (with_reducible first | exact HI0.out | apply IsS51.alloc | apply IsS51.drewN | apply IsS51.drew | apply IsS51.set_1 | apply IsS51.set_2) | exact HI0.out)) hb); have n2_ := Aside0.mk (KeepBut.trans (by repeat (first | (with_reducible first | exact HK.out | apply KeepBut.set_ | apply keep_drewN | apply keep_drew | apply keep_alloc) | exact HK.out)) (KeepBut.of_below hb g none) (.inl rfl)); have n3_ := Aside0.mk (below_step (by repeat (first | (with_reducible first | exact HB.out | apply below_alloc | apply pw_below_drewN | apply below_drew1 | refine below_set ?_ (IsS51.ge HI0.out)) | exact HB.out)) hb); clear HI0; clear HK; clear HB; have HO233 := n0_; have HI0 := n1_; have HK := n2_; have HB := n3_; clear n0_ n1_ n2_ n3_; (try clear hb); (try clear hb2); (try clear hk); (try clear hi); (try clear ho0); obtain ⟨Ao49, co49, eo49⟩ := Kd.R_slice HO233.out; subst eo49) | ((with_reducible refine gate_callee (f := 57) rfl ?_); refine goesL_ (some 29) rfl rfl Tryd.func57 (by kernel_rfl) rfl #[.slice Ao49 t230.length co49] rfl TA ?_; (with_reducible refine (spec_l1Own.calls _ _ t230 t234 _ ?side1 ?side2 A6.out).mono ?_); (case side1 => exact CW (Kd.R_reads' HO233.out).2.2); (case side2 => exact (Kd.R_reads' HO233.out).2.1); rintro e w50 ⟨v235, rfl, ho0, hb⟩; refine ⟨_, rfl, ?_⟩; have n0_ := Aside0.mk (Kd.R_elder' (KR HO233) (Kd.R_base ho0) hb); have n1_ := Aside0.mk (Kd.R_lower (Kd.R_new' ho0 (Kd.R_lt (KR HO233))) (keep_size (w := w) (g := g) (row := none) (by repeat (first | (with_reducible first | exact HK.out | apply KeepBut.set_ | apply keep_drewN | apply keep_drew | apply keep_alloc) | exact HK.out)))); have n2_ := Aside0.mk (IsS51.below (by repeat (first | (with_reducible first | exact HI0.out | apply IsS51.alloc | apply IsS51.drewN | apply IsS51.drew | apply IsS51.set_1 | apply IsS51.set_2) | exact HI0.out)) hb); have n3_ := Aside0.mk (KeepBut.trans (by repeat (first | (with_reducible first | exact HK.out | apply KeepBut.set_ | apply keep_drewN | apply keep_drew | apply keep_alloc) | exact HK.out)) (KeepBut.of_below hb g none) (.inl rfl)); have n4_ := Aside0.mk (below_step (by repeat (first | (with_reducible first | exact HB.out | apply below_alloc | apply pw_below_drewN | apply below_drew1 | refine below_set ?_ (IsS51.ge HI0.out)) | exact HB.out)) hb); clear HO233; clear HI0; clear HK; clear HB; have HO233 := n0_; have HO236 := n1_; have HI0 := n2_; have HK := n3_; have HB := n4_; clear n0_ n1_ n2_ n3_ n4_; (try clear hb); (try clear hb2); (try clear hk); (try clear hi); (try clear ho0)) | ((with_reducible refine gate_callee (f := 44) rfl ?_); refine goesL_ (some 31) rfl rfl Tryd.func44 (by kernel_rfl) rfl #[.pointer (some ⟨g, 0, none⟩), .int .i64 6] rfl TA ?_; (with_reducible refine (spec_l1Cur_pick.calls g s0_0 t224 t225 6 t237 t238 t239 w0 _ ?side1 ?side2 A7.out).mono ?_); (case side1 => repeat (first | (with_reducible first | exact HI0.out | apply IsS51.alloc | apply IsS51.drewN | apply IsS51.drew | apply IsS51.set_1 | apply IsS51.set_2) | exact HI0.out)); (case side2 => repeat (first | (with_reducible first | exact HB.out | apply below_alloc | apply pw_below_drewN | apply below_drew1 | refine below_set ?_ (IsS51.ge HI0.out)) | exact HB.out)); rintro e w51 ⟨rfl, hi, hb, hk⟩; refine ⟨_, rfl, ?_⟩; have n0_ := Aside0.mk (Kd.R_mono (Kd.R_keep (IsS51.apart (show IsS51 w0 _ g s0_0 t224 t225 from by repeat (first | (with_reducible first | exact HI0.out | apply IsS51.alloc | apply IsS51.drewN | apply IsS51.drew | apply IsS51.set_1 | apply IsS51.set_2) | exact HI0.out)) (KR HO233) (by decide)) hk (fun _ h => h.2)) (fun _ h => h.1)); have n1_ := Aside0.mk (Kd.R_mono (Kd.R_keep (IsS51.apart (show IsS51 w0 _ g s0_0 t224 t225 from by repeat (first | (with_reducible first | exact HI0.out | apply IsS51.alloc | apply IsS51.drewN | apply IsS51.drew | apply IsS51.set_1 | apply IsS51.set_2) | exact HI0.out)) (KR HO236) (by decide)) hk (fun _ h => h.2)) (fun _ h => h.1)); have n2_ := Aside0.mk (KeepBut.trans (by repeat (first | (with_reducible first | exact HK.out | apply KeepBut.set_ | apply keep_drewN | apply keep_drew | apply keep_alloc) | exact HK.out)) hk (.inl rfl)); have n3_ := Aside0.mk (hb); have n4_ := Aside0.mk (hi); clear HO233; clear HO236; clear HK; clear HB; clear HI0; have HO233 := n0_; have HO236 := n1_; have HK := n2_; have HB := n3_; have HI0 := n4_; clear n0_ n1_ n2_ n3_ n4_; (try clear hb); (try clear hb2); (try clear hk); (try clear hi)))
     go_ret3
     exact ⟨_, RE, by (with_reducible repeat (first | apply Kd.R_alloc | apply Kd.R_drewN | apply Kd.R_drew)); exact Kd.R_mono HO236.out (fun _ hk => trivial), by repeat (first | (with_reducible first | exact HI0.out | apply IsS51.alloc | apply IsS51.drewN | apply IsS51.drew | apply IsS51.set_1 | apply IsS51.set_2) | exact HI0.out), by repeat (first | (with_reducible first | exact HB.out | apply below_alloc | apply pw_below_drewN | apply below_drew1 | refine below_set ?_ (IsS51.ge HI0.out)) | exact HB.out), by repeat (first | (with_reducible first | exact HK.out | apply KeepBut.set_ | apply keep_drewN | apply keep_drew | apply keep_alloc) | exact HK.out)⟩
 ·replace c4 := Bool.eq_false_iff.mpr c4
  subst c4
  replace H := IN H
  obtain ⟨y227, hy227⟩ : ∃ y_ : List Int, y_ = (([0] : List Int)) := ⟨_, rfl⟩
  replace H : (some (t222, t223, y227, t224, t225)) = some (r1, r2, r3, r4, r5) := HY H hy227
  have Ny227 := Aside0.mk hy227
  clear hy227
  simp only [Option.some.injEq, Prod.mk.injEq] at H
  obtain ⟨rfl, rfl, rfl, rfl, rfl⟩ := H
  go_enter Tryd.func53, Tryd.ntmps53
  go_wp2_with (first | ((with_reducible refine gate_callee (f := 46) rfl ?_); refine goesL_ (some 12) rfl rfl Tryd.func46 (by kernel_rfl) rfl #[.pointer (some ⟨g, 0, none⟩), .int .i64 6] rfl TA ?_; (with_reducible refine (spec_l1Cur_sets.calls g s0_0 s0_1 s0_2 6 t222 t223 t224 t225 w0 _ ?side1 ?side2 A2.out).mono ?_); (case side1 => repeat (first | (with_reducible first | exact HI0.out | apply IsS51.alloc | apply IsS51.drewN | apply IsS51.drew | apply IsS51.set_1 | apply IsS51.set_2) | exact HI0.out)); (case side2 => repeat (first | (with_reducible first | exact HB.out | apply below_alloc | apply pw_below_drewN | apply below_drew1 | refine below_set ?_ (IsS51.ge HI0.out)) | exact HB.out)); rintro e w52 ⟨rfl, hi, hb, hk⟩; refine ⟨_, rfl, ?_⟩; have n0_ := Aside0.mk (KeepBut.trans (by repeat (first | (with_reducible first | exact HK.out | apply KeepBut.set_ | apply keep_drewN | apply keep_drew | apply keep_alloc) | exact HK.out)) hk (.inl rfl)); have n1_ := Aside0.mk (hb); have n2_ := Aside0.mk (hi); clear HK; clear HB; clear HI0; have HK := n0_; have HB := n1_; have HI0 := n2_; clear n0_ n1_ n2_; (try clear hb); (try clear hb2); (try clear hk); (try clear hi)) | ((with_reducible refine gate_callee (f := 30) rfl ?_); refine goesL_ (some 17) rfl rfl Tryd.func30 (by kernel_rfl) rfl #[.int .i64 t222, .int .i64 t223] rfl TA ?_; (with_reducible refine (spec_knGiven.calls t222 t223 false _ A3.out).mono ?_); rintro e w' ⟨rfl, ⟨nd, rfl⟩⟩; refine ⟨_, rfl, ?_⟩) | ((with_reducible refine gate_dst (N := 21) rfl ?_); refine Kd.R_lit (Kd.int .i64) _ 3 ?hg (N := 21) ?hd (xs := ([0] : List Int)) (inner := [.int .i64 0]) (ok := fun _ => True) (okp := fun _ => True) ?hr ?hp (fun _ hk => hk) trivial (Below.refl _ _) (Nat.le_refl _) (by simp) ?_; (case hd => rfl); (case hg => rfl); (case hr => exact GS); (case hp => exact (Reps.one (show Kd.M (Kd.int .i64) _ _ _ 0 [.int .i64 0] from rfl) (Reps.none _ _))); intro v228 w53 ho54 hb hg_ hnew_; clear hg_ hnew_; (first | rw [← Ny227.out] at ho54 | (simp only [Int.reduceToNat] at ho54; rw [← Ny227.out] at ho54)); have n0_ := Aside0.mk (Kd.R_lower ho54 (keep_size (w := w) (g := g) (row := none) (by repeat (first | (with_reducible first | exact HK.out | apply KeepBut.set_ | apply keep_drewN | apply keep_drew | apply keep_alloc) | exact HK.out)))); have n1_ := Aside0.mk (IsS51.below (by repeat (first | (with_reducible first | exact HI0.out | apply IsS51.alloc | apply IsS51.drewN | apply IsS51.drew | apply IsS51.set_1 | apply IsS51.set_2) | exact HI0.out)) hb); have n2_ := Aside0.mk (KeepBut.trans (by repeat (first | (with_reducible first | exact HK.out | apply KeepBut.set_ | apply keep_drewN | apply keep_drew | apply keep_alloc) | exact HK.out)) (KeepBut.of_below hb g none) (.inl rfl)); have n3_ := Aside0.mk (below_step (by repeat (first | (with_reducible first | exact HB.out | apply below_alloc | apply pw_below_drewN | apply below_drew1 | refine below_set ?_ (IsS51.ge HI0.out)) | exact HB.out)) hb); clear HI0; clear HK; clear HB; have HO229 := n0_; have HI0 := n1_; have HK := n2_; have HB := n3_; clear n0_ n1_ n2_ n3_; clear hb ho54))
  go_ret3
  exact ⟨_, RE, KR HO229, by repeat (first | (with_reducible first | exact HI0.out | apply IsS51.alloc | apply IsS51.drewN | apply IsS51.drew | apply IsS51.set_1 | apply IsS51.set_2) | exact HI0.out), by repeat (first | (with_reducible first | exact HB.out | apply below_alloc | apply pw_below_drewN | apply below_drew1 | refine below_set ?_ (IsS51.ge HI0.out)) | exact HB.out), by repeat (first | (with_reducible first | exact HK.out | apply KeepBut.set_ | apply keep_drewN | apply keep_drew | apply keep_alloc) | exact HK.out)⟩

/-! ### spec_DrawIsColouring: function 40 -/
def spec_DrawIsColouring.f (k : Nat) (l0 : List Int) : Option (Int × Int × List Int) := (spec_l1Cur_coloured.f k l0 0 0).bind fun bt255 => (some (bt255.1, bt255.2.1, bt255.2.2.1))
theorem spec_DrawIsColouring.mono : ∀ a0 k, LeO (spec_DrawIsColouring.f k a0) (spec_DrawIsColouring.f (k + 1) a0) := by
 intro a0 k
 unfold spec_DrawIsColouring.f
 repeat' first
   | with_reducible first | exact spec_l1Cur_coloured.mono _ _ _ _ | exact LeO.refl _ | exact LeO.none _ | refine LeO.ite ?_ ?_ | refine LeO.bind ?_ (fun _ => ?_)
   | exact LeO.none _ | refine LeO.ite ?_ ?_ | refine LeO.bind ?_ (fun _ => ?_)
theorem spec_DrawIsColouring.calls (k : Nat) (A0 : Option Addr) (c0 : Nat) (l0 : List Int) (r1 : Int) (r2 : Int) (r3 : List Int) (w : World) (hr0 : Kd.C (Kd.int .u8) w A0 l0.length l0) (hc0 : l0.length ≤ c0) (h : spec_DrawIsColouring.f k l0 = some (r1, r2, r3)) :
  Calls Tryd.prog 40 #[.slice A0 l0.length c0] w fun e w' => ∃ v2_ : Value, e = .returned (.tuple #[.int .i64 r1, .int .i64 r2, v2_]) ∧ Kd.R (Kd.int .i64) 3 w' w.heap.size (fun _ => True) v2_ r3 ∧ Below w.heap.size w w' := by
 have hu51 := Tryd.underlying51
 have HR0 := Aside0.mk hr0
 have HC0 := Aside0.mk hc0
 clear hr0 hc0
 have HB := Aside0.mk (Below.refl w.heap.size w)
 have H : ((spec_l1Cur_coloured.f k l0 0 0).bind fun bt255 => (some (bt255.1, bt255.2.1, bt255.2.2.1))) = some (r1, r2, r3) := h
 clear h
 obtain ⟨⟨t255, t256, t257, t260, t261⟩, A20, H⟩ := Option.bind_eq_some_iff.mp H
 replace H : (some (t255, t256, t257)) = some (r1, r2, r3) := H
 have A2 := Aside0.mk A20
 clear A20
 simp only [Option.some.injEq, Prod.mk.injEq] at H
 obtain ⟨rfl, rfl, rfl⟩ := H
 go_enter Tryd.func40, Tryd.ntmps40
 go_wp2_with (first | ((with_reducible refine gate_dst (N := 8) rfl ?_); refine box_event ?hg (N := 8) ?hd (cs := #[.slice A0 l0.length c0, .int .i64 0, .int .u64 0]) (t := 51) ?hr ?_; (case hd => rfl); (case hg => rfl); (case hr => exact GS); intro gb254 hg w3 hbox hb; have n0_ := Aside0.mk (below_step BB hb); have n1_ := Aside0.mk ((by rw [hg]; exact (below_size BB) : w.heap.size ≤ gb254)); have n2_ := Aside0.mk ((by rw [hg]; exact (below_size BB) : w.heap.size ≤ gb254)); have n3_ := Aside0.mk ((show IsS51 w w3 gb254 l0 0 0 from ⟨A0, c0, hbox, (by rw [hg]; exact (below_size BB) : w.heap.size ≤ gb254), HR0.out⟩)); clear HB; have HB := n0_; have GW254 := n1_; have GE254 := n2_; have HI254 := n3_; clear n0_ n1_ n2_ n3_; clear hb hbox hg) | ((with_reducible refine gate_callee (f := 53) rfl ?_); refine goesL_ (some 10) rfl rfl Tryd.func53 (by kernel_rfl) rfl #[.pointer (some ⟨gb254, 0, none⟩)] rfl TA ?_; (with_reducible refine (spec_l1Cur_coloured.calls k gb254 l0 0 0 t255 t256 t257 t260 t261 w _ ?side1 ?side2 A2.out).mono ?_); (case side1 => repeat (first | (with_reducible first | exact HI254.out | apply IsS51.alloc | apply IsS51.drewN | apply IsS51.drew | apply IsS51.set_1 | apply IsS51.set_2) | exact HI254.out)); (case side2 => repeat (first | (with_reducible first | exact HB.out | apply below_alloc | apply pw_below_drewN | apply below_drew1 | refine below_set ?_ (IsS51.ge HI254.out)) | exact HB.out)); rintro e w4 ⟨v258, rfl, ho0, hi, hb, hk⟩; refine ⟨_, rfl, ?_⟩; have n0_ := Aside0.mk (Kd.R_lower ho0 (below_size (by repeat (first | (with_reducible first | exact HB.out | apply below_alloc | apply pw_below_drewN | apply below_drew1 | refine below_set ?_ (IsS51.ge HI254.out)) | exact HB.out)))); have n1_ := Aside0.mk (hb); have n2_ := Aside0.mk (hi); clear HB; clear HI254; have HO259 := n0_; have HB := n1_; have HI254 := n2_; clear n0_ n1_ n2_; (try clear hb); (try clear hb2); (try clear hk); (try clear hi); (try clear ho0)))
 go_ret3
 exact ⟨_, RE, KR HO259, by repeat (first | (with_reducible first | exact HB.out | apply below_alloc | apply pw_below_drewN | apply below_drew1 | refine below_set ?_ (IsS51.ge HI254.out)) | exact HB.out)⟩

/-! ### spec_DrawFirstApart: function 19 -/
def spec_DrawFirstApart.f (k : Nat) (l0 : List Int) : Option (Int × Int × List Int) := (spec_DrawIsColouring.f k l0).bind fun bt262 => (some (bt262.1, bt262.2.1, bt262.2.2))
theorem spec_DrawFirstApart.mono : ∀ a0 k, LeO (spec_DrawFirstApart.f k a0) (spec_DrawFirstApart.f (k + 1) a0) := by
 intro a0 k
 unfold spec_DrawFirstApart.f
 repeat' first
   | with_reducible first | exact spec_DrawIsColouring.mono _ _ | exact LeO.refl _ | exact LeO.none _ | refine LeO.ite ?_ ?_ | refine LeO.bind ?_ (fun _ => ?_)
   | exact LeO.none _ | refine LeO.ite ?_ ?_ | refine LeO.bind ?_ (fun _ => ?_)
theorem spec_DrawFirstApart.calls (k : Nat) (A0 : Option Addr) (c0 : Nat) (l0 : List Int) (r1 : Int) (r2 : Int) (r3 : List Int) (w : World) (hr0 : Kd.C (Kd.int .u8) w A0 l0.length l0) (hc0 : l0.length ≤ c0) (h : spec_DrawFirstApart.f k l0 = some (r1, r2, r3)) :
  Calls Tryd.prog 19 #[.slice A0 l0.length c0] w fun e w' => ∃ v2_ : Value, e = .returned (.tuple #[.int .i64 r1, .int .i64 r2, v2_]) ∧ Kd.R (Kd.int .i64) 3 w' w.heap.size (fun _ => True) v2_ r3 ∧ Below w.heap.size w w' := by
 have HR0 := Aside0.mk hr0
 have HC0 := Aside0.mk hc0
 clear hr0 hc0
 have HB := Aside0.mk (Below.refl w.heap.size w)
 have H : ((spec_DrawIsColouring.f k l0).bind fun bt262 => (some (bt262.1, bt262.2.1, bt262.2.2))) = some (r1, r2, r3) := h
 clear h
 obtain ⟨⟨t262, t263, t264⟩, A20, H⟩ := Option.bind_eq_some_iff.mp H
 replace H : (some (t262, t263, t264)) = some (r1, r2, r3) := H
 have A2 := Aside0.mk A20
 clear A20
 simp only [Option.some.injEq, Prod.mk.injEq] at H
 obtain ⟨rfl, rfl, rfl⟩ := H
 go_enter Tryd.func19, Tryd.ntmps19
 go_wp2_with (first | ((with_reducible refine gate_callee (f := 40) rfl ?_); refine goesL_ (some 6) rfl rfl Tryd.func40 (by kernel_rfl) rfl #[.slice A0 l0.length c0] rfl TA ?_; (with_reducible refine (spec_DrawIsColouring.calls k _ _ l0 t262 t263 t264 _ ?side1 ?side2 A2.out).mono ?_); (case side1 => exact CW HR0.out); (case side2 => exact HC0.out); rintro e w3 ⟨v265, rfl, ho0, hb⟩; refine ⟨_, rfl, ?_⟩; have n0_ := Aside0.mk (Kd.R_lower ho0 (below_size BB)); have n1_ := Aside0.mk (below_step BB hb); clear HB; have HO266 := n0_; have HB := n1_; clear n0_ n1_; (try clear hb); (try clear hb2); (try clear hk); (try clear hi); (try clear ho0)))
 go_ret3
 exact ⟨_, RE, KR HO266, BB⟩

/-! ### impl_FirstApart: function 20 (given) -/
def impl_FirstApart.f (k : Nat) (a0 : Int) (a1 : Int) (l2 : List Int) : Option (List Int × Bool) := (impl_areItems.f a0 a1).bind fun ok => if ok = true then ((impl_choose.f k a0 a1).bind fun c => if (l2.length : Int) = c then ((impl_setsOf.f k a0 a1).bind fun s => (impl_firstApart.f k s l2).bind fun u => some (u, !decide (u = []))) else some ([], false)) else some ([], false)
theorem impl_FirstApart.mono : ∀ a0 a1 l2 k, LeO (impl_FirstApart.f k a0 a1 l2) (impl_FirstApart.f (k + 1) a0 a1 l2) := by
 intro a0 a1 l2 k
 unfold impl_FirstApart.f
 exact LeO.bind (LeO.refl _) (fun _ => LeO.ite (LeO.bind (impl_choose.mono _ _ _) (fun _ => LeO.ite (LeO.bind (impl_setsOf.mono _ _ _) (fun _ => LeO.bind (impl_firstApart.mono _ _ _) (fun _ => LeO.refl _))) (LeO.refl _))) (LeO.refl _))
theorem impl_FirstApart.calls (k : Nat) (a0 : Int) (a1 : Int) (A2 : Option Addr) (c2 : Nat) (l2 : List Int) (r1 : List Int) (r2 : Bool) (w : World) (hr2 : Kd.C (Kd.int .i64) w A2 l2.length l2) (hc2 : l2.length ≤ c2) (h : impl_FirstApart.f k a0 a1 l2 = some (r1, r2)) :
  Calls Tryd.prog 20 #[.int .i64 a0, .int .i64 a1, .slice A2 l2.length c2] w fun e w' => ∃ v0_ : Value, e = .returned (.tuple #[v0_, .bool r2]) ∧ Kd.R (Kd.int .i64) 3 w' w.heap.size (fun _ => True) v0_ r1 ∧ Below w.heap.size w w' := by
 have HR2 := Aside0.mk hr2
 have HC2 := Aside0.mk hc2
 clear hr2 hc2
 have HB := Aside0.mk (Below.refl w.heap.size w)
 unfold impl_FirstApart.f at h
 obtain ⟨b, hb0, h⟩ := Option.bind_eq_some_iff.mp h
 have HI := Aside0.mk hb0
 clear hb0
 cases b with
 | false =>
  have h2 := Option.some.inj ((if_neg (show ¬ (false = true) by decide)).symm.trans h)
  injection h2 with e1 e2
  subst e1
  subst e2
  clear h
  go_enter Tryd.func20, Tryd.ntmps20
  go_wp2_with (first | (go_at_call 26; refine (impl_areItems.calls a0 a1 false _ HI.out).mono ?_; rintro e w' ⟨rfl, ⟨nd, rfl⟩⟩))
  go_ret2
  exact ⟨_, rfl, Kd.R_nil _ _ _ _ _, BB⟩
 | true =>
  have h2 := (if_pos (show true = true from rfl)).symm.trans h
  obtain ⟨c, hcc, h3⟩ := Option.bind_eq_some_iff.mp h2
  have HK := Aside0.mk hcc
  clear h h2 hcc
  by_cases hl : (l2.length : Int) = c
  ·have h4 := (if_pos hl).symm.trans h3
   obtain ⟨s, hs, h5⟩ := Option.bind_eq_some_iff.mp h4
   obtain ⟨u, hu, h6⟩ := Option.bind_eq_some_iff.mp h5
   have HT := Aside0.mk hs
   have HU := Aside0.mk hu
   have h7 := Option.some.inj h6
   injection h7 with e1 e2
   subst e1
   subst e2
   clear h3 h4 h5 h6 hs hu
   subst hl
   have en1 : ∀ w, (binOp BinOp.neq 26 (.slice none 0 0) (.slice none 0 0)).run Tryd.prog w = .ok (.bool false) w := fun _ => by kernel_rfl
   have en2 : ∀ (a : Addr) (n c : Nat) (w : World), (binOp BinOp.neq 26 (.slice (some a) n c) (.slice none 0 0)).run Tryd.prog w = .ok (.bool true) w := fun _ _ _ _ => by kernel_rfl
   have l0_ : (((l2.length : Int) != (l2.length : Int))) = false := bne_self_eq_false _
   have l1_ : ((l2.length != l2.length)) = false := bne_self_eq_false _
   cases u with
   | nil =>
    go_enter Tryd.func20, Tryd.ntmps20
    go_wp2_with (first
     | (go_at_call 26; refine (impl_areItems.calls a0 a1 true _ HI.out).mono ?_; rintro e w' ⟨rfl, ⟨nd, rfl⟩⟩)
     | (go_at_call 34; refine (impl_choose.calls k a0 a1 _ _ HK.out).mono ?_; rintro e w' ⟨rfl, ⟨nd2, rfl⟩⟩)
     | (go_at_call 27; refine (impl_setsOf.calls k a0 a1 s _ HT.out).mono ?_; rintro e w1 ⟨v8, rfl, hS, hb⟩; have n0_ := Aside0.mk (Kd.R_lower hS (below_size BB)); have n1_ := Aside0.mk (below_step BB hb); clear HB; have HS := n0_; have HB := n1_; clear n0_ n1_ hS hb; obtain ⟨A8, c8, e8⟩ := Kd.R_slice HS.out; subst e8)
     | (go_at_call 38; refine (impl_firstApart.callsN k _ _ s _ _ l2 [] _ (by repeat (first | exact (Kd.R_reads' HS.out).2.2 | (with_reducible refine Kd.C_drewN ?_ _) | (with_reducible refine Kd.C_drew ?_))) (Kd.R_reads' HS.out).2.1 (by repeat (first | exact (Kd.C_below HR2.out HB.out) | (with_reducible refine Kd.C_drewN ?_ _) | (with_reducible refine Kd.C_drew ?_))) HC2.out HU.out).mono ?_; rintro e w9 ⟨v31, rfl, hV, hb, hN⟩; obtain rfl := hN rfl; clear hV hN; have n1_ := Aside0.mk (below_step BB hb); clear HB; have HB := n1_; clear n1_ hb))
    go_ret2
    exact ⟨_, rfl, Kd.R_nil _ _ _ _ _, BB⟩
   | cons x u =>
    go_enter Tryd.func20, Tryd.ntmps20
    go_wp2_with (first
     | (go_at_call 26; refine (impl_areItems.calls a0 a1 true _ HI.out).mono ?_; rintro e w' ⟨rfl, ⟨nd, rfl⟩⟩)
     | (go_at_call 34; refine (impl_choose.calls k a0 a1 _ _ HK.out).mono ?_; rintro e w' ⟨rfl, ⟨nd2, rfl⟩⟩)
     | (go_at_call 27; refine (impl_setsOf.calls k a0 a1 s _ HT.out).mono ?_; rintro e w1 ⟨v8, rfl, hS, hb⟩; have n0_ := Aside0.mk (Kd.R_lower hS (below_size BB)); have n1_ := Aside0.mk (below_step BB hb); clear HB; have HS := n0_; have HB := n1_; clear n0_ n1_ hS hb; obtain ⟨A8, c8, e8⟩ := Kd.R_slice HS.out; subst e8)
     | (go_at_call 38; refine (impl_firstApart.callsN k _ _ s _ _ l2 (x :: u) _ (by repeat (first | exact (Kd.R_reads' HS.out).2.2 | (with_reducible refine Kd.C_drewN ?_ _) | (with_reducible refine Kd.C_drew ?_))) (Kd.R_reads' HS.out).2.1 (by repeat (first | exact (Kd.C_below HR2.out HB.out) | (with_reducible refine Kd.C_drewN ?_ _) | (with_reducible refine Kd.C_drew ?_))) HC2.out HU.out).mono ?_; rintro e w9 ⟨v31, rfl, hV, hb, hN⟩; have HV := Aside0.mk (Kd.R_lower hV (below_size BB)); obtain ⟨blk, cap, cur, rfl, _⟩ := ownI hV (by simp); clear hV hN; have n1_ := Aside0.mk (below_step BB hb); clear HB; have HB := n1_; clear n1_ hb))
    go_ret2
    exact ⟨_, rfl, KR HV, BB⟩
  ·have h4 := (if_neg hl).symm.trans h3
   have h6 := Option.some.inj h4
   injection h6 with e1 e2
   subst e1
   subst e2
   clear h3 h4
   have l0_ : ((l2.length : Int) != c) = true := bne_iff_ne.mpr hl
   have l1_ : ((l2.length : Int) == c) = false := beq_eq_false_iff_ne.mpr hl
   have l2_ : ((l2.length : Int) = c) = False := eq_false hl
   clear hl
   go_enter Tryd.func20, Tryd.ntmps20
   go_wp2_with (first
    | (go_at_call 26; refine (impl_areItems.calls a0 a1 true _ HI.out).mono ?_; rintro e w' ⟨rfl, ⟨nd, rfl⟩⟩)
    | (go_at_call 34; refine (impl_choose.calls k a0 a1 _ _ HK.out).mono ?_; rintro e w' ⟨rfl, ⟨nd2, rfl⟩⟩))
   go_ret2
   exact ⟨_, rfl, Kd.R_nil _ _ _ _ _, BB⟩

end Go.Proofs.YtemgnbpcchlpiaaDoor.PFnKneserColours
