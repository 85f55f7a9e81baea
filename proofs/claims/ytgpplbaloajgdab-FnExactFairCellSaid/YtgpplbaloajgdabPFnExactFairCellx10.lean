-- Written by a program of this session (wip/tools/pp.sh) out of the translation; Lean checks it.
import Derived.Test.YtgpplbaloajgdabPFnExactFairCellx0
import Derived.Test.YtgpplbaloajgdabPFnExactFairCellx8
import Derived.Test.YtgpplbaloajgdabPFnExactFairCellx9
namespace Go.Proofs.Ytgpplbaloajgdab.PFnExactFairCell
open Go.RowKit Go.Proofs.YtgpplbaloajgdabOwn Go.Proofs.YtgpplbaloajgdabW.PrintWords Go.Proofs.YtgpplbaloajgdabW.PrintLast Go.Proofs.YtgpplbaloajgdabW.PrintMore
attribute [local go_sem] max2_int min2_int max_two min_two max_three min_three max_four min_four   -- for this text's walks alone
set_option linter.unusedVariables false
set_option maxHeartbeats 8000000
set_option maxRecDepth 100000
set_option linter.unusedSimpArgs false

/-! ### impl_many: function 77 -/
def impl_many.f (a0 : Int) : Option (Int) := some (wrap64 (Int.tdiv (wrap64 ((wrap64 (a0 + 1)) * (wrap64 (a0 + 2)))) 2))
theorem impl_many.calls (a0 : Int) (r : Int) (w : World) (h : impl_many.f a0 = some r) :
  Calls Try.prog 77 #[.int .i64 a0] w fun e w' => e = .returned (.int .i64 r) ∧ Drawn0 w w' := by
 have H : (some (wrap64 (Int.tdiv (wrap64 ((wrap64 (a0 + 1)) * (wrap64 (a0 + 2)))) 2))) = some r := h
 clear h
 obtain rfl := Option.some.inj H
 go_enter Try.func77, Try.ntmps77
 go_wp2
 go_ret
 exact ⟨RF, DR⟩

/-! ### impl_in: function 76 -/
def impl_in.f (a0 : Int) (a1 : Int) (a2 : Int) : Option (Bool) := if a1 ≤ a0 then (some (decide (a0 ≤ a2))) else (some false)
theorem impl_in.calls (a0 : Int) (a1 : Int) (a2 : Int) (r : Bool) (w : World) (h : impl_in.f a0 a1 a2 = some r) :
  Calls Try.prog 76 #[.int .i64 a0, .int .i64 a1, .int .i64 a2] w fun e w' => e = .returned (.bool r) ∧ Drawn0 w w' := by
 have H : (if a1 ≤ a0 then (some (decide (a0 ≤ a2))) else (some false)) = some r := h
 clear h
 by_cases c4 : a1 ≤ a0
 ·rw [if_pos c4] at H
  have c4b0 : decide (a1 ≤ a0) = true := decide_eq_true c4
  clear c4
  obtain rfl := Option.some.inj H
  go_enter Try.func76, Try.ntmps76
  go_wp2
  go_ret
  exact ⟨RF, DR⟩
 ·rw [if_neg c4] at H
  have c4b0 : decide (a1 ≤ a0) = false := decide_eq_false c4
  clear c4
  obtain rfl := Option.some.inj H
  go_enter Try.func76, Try.ntmps76
  go_wp2
  go_ret
  exact ⟨RF, DR⟩

/-! ### impl_isSide: function 85 -/
def impl_isSide.f (a0 : Int) : Option (Bool) := (impl_in.f a0 1 8).bind fun t340 => (some t340)
theorem impl_isSide.calls (a0 : Int) (r : Bool) (w : World) (h : impl_isSide.f a0 = some r) :
  Calls Try.prog 85 #[.int .i64 a0] w fun e w' => e = .returned (.bool r) ∧ Drawn0 w w' := by
 have H : ((impl_in.f a0 1 8).bind fun t340 => (some t340)) = some r := h
 clear h
 obtain ⟨t340, A20, H⟩ := Option.bind_eq_some_iff.mp H
 have A2 := Aside0.mk A20
 clear A20
 obtain rfl := Option.some.inj H
 go_enter Try.func85, Try.ntmps85
 go_wp2_with (first | ((with_reducible refine gate_callee (f := 76) rfl ?_); refine goesL_ (some 4) rfl rfl Try.func76 (by kernel_rfl) rfl #[.int .i64 a0, .int .i64 1, .int .i64 8] rfl TA ?_; (with_reducible refine (impl_in.calls a0 1 8 t340 _ A2.out).mono ?_); rintro e w' ⟨rfl, ⟨nd, rfl⟩⟩; refine ⟨_, rfl, ?_⟩))
 go_ret
 exact ⟨RF, DR⟩

-- NOT PRINTED: function 81 (slices_IndexFunc_int_int_81)

-- NOT PRINTED: function 96 (slices_ContainsFunc_int_int_96)

/-! ### impl_areLabels_1: function 97 -/
def impl_areLabels_1.f (a0 : Int) : Option (Bool) := (impl_in.f a0 0 2).bind fun t341 => (some (!t341))
theorem impl_areLabels_1.calls (a0 : Int) (r : Bool) (w : World) (h : impl_areLabels_1.f a0 = some r) :
  Calls Try.prog 97 #[.int .i64 a0] w fun e w' => e = .returned (.bool r) ∧ Drawn0 w w' := by
 have H : ((impl_in.f a0 0 2).bind fun t341 => (some (!t341))) = some r := h
 clear h
 obtain ⟨t341, A20, H⟩ := Option.bind_eq_some_iff.mp H
 have A2 := Aside0.mk A20
 clear A20
 obtain rfl := Option.some.inj H
 go_enter Try.func97, Try.ntmps97
 go_wp2_with (first | ((with_reducible refine gate_callee (f := 76) rfl ?_); refine goesL_ (some 4) rfl rfl Try.func76 (by kernel_rfl) rfl #[.int .i64 a0, .int .i64 0, .int .i64 2] rfl TA ?_; (with_reducible refine (impl_in.calls a0 0 2 t341 _ A2.out).mono ?_); rintro e w' ⟨rfl, ⟨nd, rfl⟩⟩; refine ⟨_, rfl, ?_⟩))
 go_ret
 exact ⟨RF, DR⟩

/-! ### slices_IndexFunc_int_int__impl_areLabels_1: function 81 -/
def slices_IndexFunc_int_int__impl_areLabels_1.l0 : Nat → List Int → Int → Int → Option (Int)
 | 0, _, _, _ => none
 | k + 1, x0, x7, x8 => if x8 < x7 then (if 0 ≤ x8 then (if x8 < (x0.length : Int) then ((impl_areLabels_1.f (rd x0 x8)).bind fun t342 => (if t342 = true then (some x8) else (slices_IndexFunc_int_int__impl_areLabels_1.l0 k x0 x7 (wrap64 (x8 + 1))))) else (none)) else (none)) else (some (-1))
def slices_IndexFunc_int_int__impl_areLabels_1.f (k : Nat) (l0 : List Int)  : Option (Int) := slices_IndexFunc_int_int__impl_areLabels_1.l0 k l0 (l0.length : Int) 0
theorem slices_IndexFunc_int_int__impl_areLabels_1.mono_l : ∀ k, (∀ y0 y1 y2, LeO (slices_IndexFunc_int_int__impl_areLabels_1.l0 k y0 y1 y2) (slices_IndexFunc_int_int__impl_areLabels_1.l0 (k + 1) y0 y1 y2))
 | 0 => fun _ _ _ r h => by simp [slices_IndexFunc_int_int__impl_areLabels_1.l0] at h
 | k + 1 => by
  have ih0 := slices_IndexFunc_int_int__impl_areLabels_1.mono_l k
  ·intro y0 y1 y2
   unfold slices_IndexFunc_int_int__impl_areLabels_1.l0
   repeat' first
   | with_reducible first | exact ih0 _ _ _ | exact LeO.refl _ | exact LeO.none _ | refine LeO.ite ?_ ?_ | refine LeO.bind ?_ (fun _ => ?_)
   | exact LeO.none _ | refine LeO.ite ?_ ?_ | refine LeO.bind ?_ (fun _ => ?_)
theorem slices_IndexFunc_int_int__impl_areLabels_1.mono : ∀ a0 k, LeO (slices_IndexFunc_int_int__impl_areLabels_1.f k a0) (slices_IndexFunc_int_int__impl_areLabels_1.f (k + 1) a0) := by
 intro a0 k
 have ih0 := slices_IndexFunc_int_int__impl_areLabels_1.mono_l k
 unfold slices_IndexFunc_int_int__impl_areLabels_1.f
 repeat' first
   | with_reducible first | exact ih0 _ _ _ | exact LeO.refl _ | exact LeO.none _ | refine LeO.ite ?_ ?_ | refine LeO.bind ?_ (fun _ => ?_)
   | exact LeO.none _ | refine LeO.ite ?_ ?_ | refine LeO.bind ?_ (fun _ => ?_)
theorem slices_IndexFunc_int_int__impl_areLabels_1.calls (k : Nat) (A0 : Option Addr) (c0 : Nat) (l0 : List Int)  (r : Int) (w : World) (hr0 : Kd.C (Kd.int .i64) w A0 l0.length l0) (hc0 : l0.length ≤ c0) (h : slices_IndexFunc_int_int__impl_areLabels_1.f k l0 = some r) :
  Calls Try.prog 81 #[.slice A0 l0.length c0, .func (.func 97) #[] #[]] w fun e w' => e = .returned (.int .i64 r) ∧ Drawn0 w w' := by
 have HR0 := Aside0.mk hr0
 have HC0 := Aside0.mk hc0
 clear hr0 hc0
 have H : (slices_IndexFunc_int_int__impl_areLabels_1.l0 k l0 (l0.length : Int) 0) = some r := h
 clear h
 have H' := Aside0.mk H
 clear H
 go_enter Try.func81, Try.ntmps81
 go_wp2
 go_loopg [8] k (fun kq v8 w' => ∃ (x8_1 : Int), v8 = .int .i64 x8_1 ∧ Aside0 (slices_IndexFunc_int_int__impl_areLabels_1.l0 kq l0 (l0.length : Int) x8_1 = some r) ∧ Aside0 (kq ≤ k) ∧ Drawn0 w w')
 case atStart => exact ⟨(0), RF, H', ⟨Nat.le_refl _⟩, by repeat (first | exact Drawn0.refl _ | apply Drawn0.step)⟩
 case round =>
  clear H'
  try clear p2
  obtain ⟨x8_1, rfl, HA, HK1, ⟨m1, rfl⟩⟩ := hrel
  cases gk with
  | zero => exact absurd HA.out (by simp [slices_IndexFunc_int_int__impl_areLabels_1.l0])
  | succ k1 =>
   have H := HA.out
   clear HA
   simp only [slices_IndexFunc_int_int__impl_areLabels_1.l0] at H
   by_cases c3 : x8_1 < (l0.length : Int)
   ·rw [if_pos c3] at H
    have c3b0 : decide (x8_1 < (l0.length : Int)) = true := decide_eq_true c3
    clear c3
    by_cases c4 : 0 ≤ x8_1
    ·rw [if_pos c4] at H
     have c4b0 : decide (0 ≤ x8_1) = true := decide_eq_true c4
     clear c4
     by_cases c5 : x8_1 < (l0.length : Int)
     ·rw [if_pos c5] at H
      have c5b0 : decide (x8_1 < (l0.length : Int)) = true := decide_eq_true c5
      clear c5
      obtain ⟨t342, A60, H⟩ := Option.bind_eq_some_iff.mp H
      have A6 := Aside0.mk A60
      clear A60
      by_cases c7 : t342 = true
      ·subst c7
       replace H := IP H
       obtain rfl := Option.some.inj H
       have p341 : 0 ≤ (x8_1 : Int) := of_decide_eq_true AS
       have q341 : x8_1 < (l0.length : Int) := of_decide_eq_true AS
       obtain ⟨ad341, e341, hx341_0⟩ := Kd.at_int HR0.out x8_1 p341 q341
       cases e341
       replace p341 := eq_true p341
       replace q341 := eq_true q341
       go_wp2_with (first | (go_at_call 97; (with_reducible refine (impl_areLabels_1.calls (rd l0 x8_1) true _ A6.out).mono ?_); rintro e w' ⟨rfl, ⟨nd, rfl⟩⟩))
       go_ret
       exact ⟨RF, DR⟩
      ·replace c7 := Bool.eq_false_iff.mpr c7
       subst c7
       replace H := IN H
       have H' := Aside0.mk H
       clear H
       have p341 : 0 ≤ (x8_1 : Int) := of_decide_eq_true AS
       have q341 : x8_1 < (l0.length : Int) := of_decide_eq_true AS
       obtain ⟨ad341, e341, hx341_0⟩ := Kd.at_int HR0.out x8_1 p341 q341
       cases e341
       replace p341 := eq_true p341
       replace q341 := eq_true q341
       go_wp2_with (first | (go_at_call 97; (with_reducible refine (impl_areLabels_1.calls (rd l0 x8_1) false _ A6.out).mono ?_); rintro e w' ⟨rfl, ⟨nd, rfl⟩⟩))
       go_roundg k1
       case measure => have := HK1.out; omega
       case rel => exact ⟨(wrap64 (x8_1 + 1)), RF, H', ⟨by have := HK1.out; omega⟩, by repeat (first | exact Drawn0.refl _ | apply Drawn0.step)⟩
     ·rw [if_neg c5] at H
      cases H
    ·rw [if_neg c4] at H
     cases H
   ·rw [if_neg c3] at H
    have c3b0 : decide (x8_1 < (l0.length : Int)) = false := decide_eq_false c3
    clear c3
    obtain rfl := Option.some.inj H
    go_wp2
    go_ret
    exact ⟨RF, DR⟩

/-! ### slices_ContainsFunc_int_int__impl_areLabels_1: function 96 -/
def slices_ContainsFunc_int_int__impl_areLabels_1.f (k : Nat) (l0 : List Int)  : Option (Bool) := (slices_IndexFunc_int_int__impl_areLabels_1.f k l0).bind fun t343 => (some (decide (t343 ≥ 0)))
theorem slices_ContainsFunc_int_int__impl_areLabels_1.mono : ∀ a0 k, LeO (slices_ContainsFunc_int_int__impl_areLabels_1.f k a0) (slices_ContainsFunc_int_int__impl_areLabels_1.f (k + 1) a0) := by
 intro a0 k
 unfold slices_ContainsFunc_int_int__impl_areLabels_1.f
 repeat' first
   | with_reducible first | exact slices_IndexFunc_int_int__impl_areLabels_1.mono _ _ | exact LeO.refl _ | exact LeO.none _ | refine LeO.ite ?_ ?_ | refine LeO.bind ?_ (fun _ => ?_)
   | exact LeO.none _ | refine LeO.ite ?_ ?_ | refine LeO.bind ?_ (fun _ => ?_)
theorem slices_ContainsFunc_int_int__impl_areLabels_1.calls (k : Nat) (A0 : Option Addr) (c0 : Nat) (l0 : List Int)  (r : Bool) (w : World) (hr0 : Kd.C (Kd.int .i64) w A0 l0.length l0) (hc0 : l0.length ≤ c0) (h : slices_ContainsFunc_int_int__impl_areLabels_1.f k l0 = some r) :
  Calls Try.prog 96 #[.slice A0 l0.length c0, .func (.func 97) #[] #[]] w fun e w' => e = .returned (.bool r) ∧ Drawn0 w w' := by
 have HR0 := Aside0.mk hr0
 have HC0 := Aside0.mk hc0
 clear hr0 hc0
 have H : ((slices_IndexFunc_int_int__impl_areLabels_1.f k l0).bind fun t343 => (some (decide (t343 ≥ 0)))) = some r := h
 clear h
 obtain ⟨t343, A30, H⟩ := Option.bind_eq_some_iff.mp H
 have A3 := Aside0.mk A30
 clear A30
 obtain rfl := Option.some.inj H
 go_enter Try.func96, Try.ntmps96
 go_wp2_with (first | ((with_reducible refine gate_callee (f := 81) rfl ?_); refine goesL_ (some 7) rfl rfl Try.func81 (by kernel_rfl) rfl #[.slice A0 l0.length c0, .func (.func 97) #[] #[]] rfl TA ?_; (with_reducible refine (slices_IndexFunc_int_int__impl_areLabels_1.calls k _ _ l0  t343 _ ?side1 ?side2 A3.out).mono ?_); (case side1 => exact CW HR0.out); (case side2 => exact HC0.out); rintro e w' ⟨rfl, ⟨nd, rfl⟩⟩; refine ⟨_, rfl, ?_⟩))
 go_ret
 exact ⟨RF, DR⟩

/-! ### impl_areLabels: function 63 -/
def impl_areLabels.f (k : Nat) (a0 : Int) (l1 : List Int) : Option (Bool) := (impl_isSide.f a0).bind fun t344 => (if t344 = true then ((impl_many.f a0).bind fun t345 => (if (l1.length : Int) = t345 then ((slices_ContainsFunc_int_int__impl_areLabels_1.f k l1).bind fun t346 => (some (!t346))) else (some false))) else (some false))
theorem impl_areLabels.mono : ∀ a0 a1 k, LeO (impl_areLabels.f k a0 a1) (impl_areLabels.f (k + 1) a0 a1) := by
 intro a0 a1 k
 unfold impl_areLabels.f
 repeat' first
   | with_reducible first | exact slices_ContainsFunc_int_int__impl_areLabels_1.mono _ _ | exact LeO.refl _ | exact LeO.none _ | refine LeO.ite ?_ ?_ | refine LeO.bind ?_ (fun _ => ?_)
   | exact LeO.none _ | refine LeO.ite ?_ ?_ | refine LeO.bind ?_ (fun _ => ?_)
theorem impl_areLabels.calls (k : Nat) (a0 : Int) (A1 : Option Addr) (c1 : Nat) (l1 : List Int) (r : Bool) (w : World) (hr1 : Kd.C (Kd.int .i64) w A1 l1.length l1) (hc1 : l1.length ≤ c1) (h : impl_areLabels.f k a0 l1 = some r) :
  Calls Try.prog 63 #[.int .i64 a0, .slice A1 l1.length c1] w fun e w' => e = .returned (.bool r) ∧ Drawn0 w w' := by
 have HR1 := Aside0.mk hr1
 have HC1 := Aside0.mk hc1
 clear hr1 hc1
 have H : ((impl_isSide.f a0).bind fun t344 => (if t344 = true then ((impl_many.f a0).bind fun t345 => (if (l1.length : Int) = t345 then ((slices_ContainsFunc_int_int__impl_areLabels_1.f k l1).bind fun t346 => (some (!t346))) else (some false))) else (some false))) = some r := h
 clear h
 obtain ⟨t344, A30, H⟩ := Option.bind_eq_some_iff.mp H
 have A3 := Aside0.mk A30
 clear A30
 by_cases c4 : t344 = true
 ·subst c4
  replace H := IP H
  obtain ⟨t345, A50, H⟩ := Option.bind_eq_some_iff.mp H
  have A5 := Aside0.mk A50
  clear A50
  by_cases c6 : (l1.length : Int) = t345
  ·rw [if_pos c6] at H
   have c6b0 : ((l1.length : Int) == t345) = true := beq_iff_eq.mpr c6
   have c6b1 : ((l1.length : Int) != t345) = false := bne_eq_false_iff_eq.mpr c6
   clear c6
   obtain ⟨t346, A70, H⟩ := Option.bind_eq_some_iff.mp H
   have A7 := Aside0.mk A70
   clear A70
   obtain rfl := Option.some.inj H
   go_enter Try.func63, Try.ntmps63
   go_wp2_with (first | ((with_reducible refine gate_callee (f := 85) rfl ?_); refine goesL_ (some 6) rfl rfl Try.func85 (by kernel_rfl) rfl #[.int .i64 a0] rfl TA ?_; (with_reducible refine (impl_isSide.calls a0 true _ A3.out).mono ?_); rintro e w' ⟨rfl, ⟨nd, rfl⟩⟩; refine ⟨_, rfl, ?_⟩) | (go_at_call 77; (with_reducible refine (impl_many.calls a0 t345 _ A5.out).mono ?_); rintro e w' ⟨rfl, ⟨nd, rfl⟩⟩) | (go_at_call 96; (with_reducible refine (slices_ContainsFunc_int_int__impl_areLabels_1.calls k _ _ l1  t346 _ ?side1 ?side2 A7.out).mono ?_); (case side1 => exact CW HR1.out); (case side2 => exact HC1.out); rintro e w' ⟨rfl, ⟨nd, rfl⟩⟩))
   go_ret
   exact ⟨RF, DR⟩
  ·rw [if_neg c6] at H
   have c6b0 : ((l1.length : Int) == t345) = false := beq_eq_false_iff_ne.mpr c6
   have c6b1 : ((l1.length : Int) != t345) = true := bne_iff_ne.mpr c6
   obtain rfl := Option.some.inj H
   go_enter Try.func63, Try.ntmps63
   go_wp2_with (first | ((with_reducible refine gate_callee (f := 85) rfl ?_); refine goesL_ (some 6) rfl rfl Try.func85 (by kernel_rfl) rfl #[.int .i64 a0] rfl TA ?_; (with_reducible refine (impl_isSide.calls a0 true _ A3.out).mono ?_); rintro e w' ⟨rfl, ⟨nd, rfl⟩⟩; refine ⟨_, rfl, ?_⟩) | (go_at_call 77; (with_reducible refine (impl_many.calls a0 t345 _ A5.out).mono ?_); rintro e w' ⟨rfl, ⟨nd, rfl⟩⟩))
   go_ret
   exact ⟨RF, DR⟩
 ·replace c4 := Bool.eq_false_iff.mpr c4
  subst c4
  replace H := IN H
  obtain rfl := Option.some.inj H
  go_enter Try.func63, Try.ntmps63
  go_wp2_with (first | ((with_reducible refine gate_callee (f := 85) rfl ?_); refine goesL_ (some 6) rfl rfl Try.func85 (by kernel_rfl) rfl #[.int .i64 a0] rfl TA ?_; (with_reducible refine (impl_isSide.calls a0 false _ A3.out).mono ?_); rintro e w' ⟨rfl, ⟨nd, rfl⟩⟩; refine ⟨_, rfl, ?_⟩))
  go_ret
  exact ⟨RF, DR⟩

/-! ### slices_Index_3_int_3_int: function 98 (given) -/
def ix3 (a b c : Int) : List S61 → Nat → Int
 | [], _ => -1
 | p :: r, i => if a = p.f0 ∧ b = p.f1 ∧ c = p.f2 then (i : Int) else ix3 a b c r (i + 1)
def slices_Index_3_int_3_int.f (l0 : List S61) (a b c : Int) : Option Int := some (ix3 a b c l0 0)
theorem ix3_hit {a b c : Int} {l : List S61} {i : Nat} (hi : i < l.length) (h : a = (rd_T61 l (i : Int)).f0 ∧ b = (rd_T61 l (i : Int)).f1 ∧ c = (rd_T61 l (i : Int)).f2) : ix3 a b c (l.drop i) i = (i : Int) := by
 have e : rd_T61 l (i : Int) = l[i] := by unfold rd_T61; rw [Int.toNat_natCast, List.getD_eq_getElem?_getD, List.getElem?_eq_getElem hi]; rfl
 rw [e] at h
 rw [List.drop_eq_getElem_cons hi, ix3, if_pos h]
theorem ix3_miss {a b c : Int} {l : List S61} {i : Nat} (hi : i < l.length) (h : ¬ (a = (rd_T61 l (i : Int)).f0 ∧ b = (rd_T61 l (i : Int)).f1 ∧ c = (rd_T61 l (i : Int)).f2)) : ix3 a b c (l.drop i) i = ix3 a b c (l.drop (i + 1)) (i + 1) := by
 have e : rd_T61 l (i : Int) = l[i] := by unfold rd_T61; rw [Int.toNat_natCast, List.getD_eq_getElem?_getD, List.getElem?_eq_getElem hi]; rfl
 rw [e] at h
 rw [List.drop_eq_getElem_cons hi, ix3, if_neg h]
set_option maxHeartbeats 4000000 in
set_option maxRecDepth 100000 in
theorem slices_Index_3_int_3_int.calls (A0 : Option Addr) (c0 : Nat) (l0 : List S61) (a b c : Int) (r : Int) (w : World) (hr0 : Kd.C k61 w A0 l0.length l0) (hc0 : l0.length ≤ c0) (h : slices_Index_3_int_3_int.f l0 a b c = some r) :
  Calls Try.prog 98 #[.slice A0 l0.length c0, .agg #[.int .i64 a, .int .i64 b, .int .i64 c]] w fun e w' => e = .returned (.int .i64 r) ∧ Below w.heap.size w w' := by
 have hr : ix3 a b c l0 0 = r := Option.some.inj h
 have HR := Aside0.mk hr
 have HC := Aside0.mk hr0
 have hu := Try.underlying61
 have heq_ := @arr3_eq
 have hmx : l0.length ≤ 9223372036854775807 := hr0.2.1
 have HM := Aside0.mk hmx
 clear h hr hr0 hc0 hmx
 go_enter Try.func98, Try.ntmps98
 go_wp2_with (first
  | ((with_reducible refine gate_dst (N := 3) rfl ?_); refine box_event ?hg (N := 3) ?hd (cs := #[.int .i64 a, .int .i64 b, .int .i64 c]) (t := 61) ?hr ?_; (case hd => rfl); (case hg => rfl); (case hr => exact GS); intro gb hg w1 hbox hb; have HB1 := Aside0.mk hb; have HX := Aside0.mk hbox; clear hb hbox hg))
 go_loopg [8] l0.length (fun gg v8 wr => ∃ i : Nat, v8 = .int .i64 i ∧ i ≤ l0.length ∧ l0.length - i ≤ gg ∧ Aside0 (r = ix3 a b c (l0.drop i) i) ∧ Aside0 (wr.heap[gb]? = some (.cells #[.int .i64 a, .int .i64 b, .int .i64 c] 61 (0, 0))) ∧ Aside0 (Below w.heap.size w wr))
 case atStart => exact ⟨0, rfl, Nat.zero_le _, by omega, Aside0.mk (by rw [List.drop_zero]; exact HR.out.symm), HX, HB1⟩
 case round =>
  obtain ⟨i, rfl, hi, hg, hI, hX, hB⟩ := hrel
  by_cases hlt : i < l0.length
  ·have hi0 : (0 ≤ (i : Int)) = True := eq_true (by omega)
   have hi1 : ((i : Int) < (l0.length : Int)) = True := eq_true (by omega)
   have hi2 : decide ((i : Int) < (l0.length : Int)) = true := decide_eq_true (by omega)
   have hw : wrap64 ((i : Int) + 1) = ((i + 1 : Nat) : Int) := by have := HM.out; unfold wrap64; omega
   have z0 : wr.cell? ⟨gb, 0, none⟩ = some (.int .i64 a) := (blk_cell hX.out 0).trans rfl
   have z1 : wr.cell? ⟨gb, 1, none⟩ = some (.int .i64 b) := (blk_cell hX.out 1).trans rfl
   have z2 : wr.cell? ⟨gb, 2, none⟩ = some (.int .i64 c) := (blk_cell hX.out 2).trans rfl
   obtain ⟨ad, e, x0, x1, x2⟩ := at_T61 HC.out (i : Int) (by omega) (by omega)
   cases e
   replace x0 := (hB.out.cell (World.block_lt_of_cell? w _ x0)).trans x0
   replace x1 := (hB.out.cell (World.block_lt_of_cell? w _ x1)).trans x1
   replace x2 := (hB.out.cell (World.block_lt_of_cell? w _ x2)).trans x2
   rw [Int.toNat_natCast] at x0 x1 x2
   have HG := Aside0.mk (And.intro hg hlt)
   have HW := Aside0.mk hw
   by_cases hc : a = (rd_T61 l0 (i : Int)).f0 ∧ b = (rd_T61 l0 (i : Int)).f1 ∧ c = (rd_T61 l0 (i : Int)).f2
   ·have h3 := ix3_hit hlt hc
    have H3 := Aside0.mk h3
    have q0 : (a == (rd_T61 l0 (i : Int)).f0) = true := beq_iff_eq.2 hc.1
    have q1 : (b == (rd_T61 l0 (i : Int)).f1) = true := beq_iff_eq.2 hc.2.1
    have q2 : (c == (rd_T61 l0 (i : Int)).f2) = true := beq_iff_eq.2 hc.2.2
    clear hc h3 hg hi hlt hw
    go_wp2
    repeat (go_quiet (fail); try go_wp2)
    go_ret
    exact ⟨by rw [hI.out, H3.out]; rfl, by first | exact hB.out | exact pw_below_drewN hB.out _⟩
   ·have h3 := ix3_miss hlt hc
    have H3 := Aside0.mk (hI.out.trans h3)
    have q0 : ((a == (rd_T61 l0 (i : Int)).f0) && ((b == (rd_T61 l0 (i : Int)).f1) && (c == (rd_T61 l0 (i : Int)).f2))) = false := by
     rw [Bool.eq_false_iff]
     intro z
     simp only [Bool.and_eq_true, beq_iff_eq] at z
     exact hc z
    generalize (rd_T61 l0 (i : Int)).f0 = y0 at *
    generalize (rd_T61 l0 (i : Int)).f1 = y1 at *
    generalize (rd_T61 l0 (i : Int)).f2 = y2 at *
    clear hc h3 hg hi hlt hw
    go_wp2
    repeat (go_quiet (fail); try go_wp2)
    go_roundg (l0.length - (i + 1))
    case measure => have := HG.out; omega
    case rel => exact ⟨i + 1, by first | rfl | rw [HW.out], HG.out.2, by have := HG.out; omega, H3, by first | exact hX | exact Aside0.mk (blk_drewN hX.out _), Aside0.mk (by first | exact hB.out | exact pw_below_drewN hB.out _)⟩
  ·have hi2 : decide ((i : Int) < (l0.length : Int)) = false := decide_eq_false (by omega)
   have hi3 : ((i : Int) < (l0.length : Int)) = False := eq_false (by omega)
   have hi4 : decide (i < l0.length) = false := decide_eq_false (by omega)
   have e : l0.drop i = [] := List.drop_eq_nil_of_le (by omega)
   have H3 := Aside0.mk (show r = -1 by rw [hI.out, e]; rfl)
   clear hg hi hlt e
   go_wp2
   go_ret
   exact ⟨by rw [H3.out]; rfl, hB.out⟩

/-! ### impl_border: function 64 (given) -/
def bpt (n : Int) (s : Nat) (t : Int) : Int × Int × Int := match s with
 | 0 => (n - t, t, 0)
 | 1 => (0, n - t, t)
 | _ => (t, 0, n - t)
def bval (n : Int) (all : List S61) (s t : Nat) : Int := ix3 (bpt n s t).1 (bpt n s t).2.1 (bpt n s t).2.2 all 0
/-- The border, as far as side s has been gone along t steps. -/
def bord (n : Int) (N : Nat) (all : List S61) (s t : Nat) : List Int := ((List.range s).flatMap fun s' => (List.range N).map fun j => bval n all s' j) ++ (List.range t).map fun j => bval n all s j
theorem bord_next (n : Int) (N : Nat) (all : List S61) (s t : Nat) : bord n N all s t ++ [bval n all s t] = bord n N all s (t + 1) := by
 unfold bord
 rw [List.range_succ (n := t), List.map_append, List.append_assoc]; rfl
theorem bord_side (n : Int) (N : Nat) (all : List S61) (s : Nat) : bord n N all s N = bord n N all (s + 1) 0 := by
 unfold bord
 rw [List.range_succ (n := s), List.flatMap_append, List.range_zero, List.map_nil, List.append_nil]
 simp
theorem bord_len (n : Int) (N : Nat) (all : List S61) (s t : Nat) : (bord n N all s t).length = s * N + t := by
 have : ∀ s, ((List.range s).flatMap fun s' => (List.range N).map fun j => bval n all s' j).length = s * N := fun s => by
  induction s with
  | zero => simp
  | succ s ih => rw [List.range_succ, List.flatMap_append, List.length_append, ih, Nat.add_mul]; simp
 unfold bord
 rw [List.length_append, this, List.length_map, List.length_range]
def impl_border.f (k : Nat) (a0 : Int) : Option (List Int) := (impl_points.f k a0).bind fun all => if decide (0 ≤ a0 ∧ a0 ≤ 1000) = true then some (bord a0 a0.toNat all 3 0) else none
theorem impl_border.mono : ∀ a0 k, LeO (impl_border.f k a0) (impl_border.f (k + 1) a0) := fun a0 k => LeO.bind (impl_points.mono _ _) (fun _ => LeO.refl _)
theorem border_i : (Try.prog.info? 3).map (fun i => (i.zero, i.size, i.bytes)) = some (some (.int .i64 0), 1, 8) := by kernel_rfl
theorem impl_border.calls (k : Nat) (a0 : Int) (r : List Int) (w : World) (h : impl_border.f k a0 = some r) :
  Calls Try.prog 64 #[.int .i64 a0] w fun e w' => ∃ v0_ : Value, e = .returned (v0_) ∧ Kd.R (Kd.int .i64) 3 w' w.heap.size (fun _ => True) v0_ r ∧ Below w.heap.size w w' := by
 unfold impl_border.f at h
 obtain ⟨pts, hpts, h⟩ := Option.bind_eq_some_iff.mp h
 by_cases hd : decide (0 ≤ a0 ∧ a0 ≤ 1000) = true
 ·rw [if_pos hd] at h
  obtain ⟨N, rfl⟩ := Int.eq_ofNat_of_zero_le (of_decide_eq_true hd).1
  have hN : N ≤ 1000 := by have := (of_decide_eq_true hd).2; omega
  rw [Int.toNat_natCast] at h
  have HRR := Aside0.mk (Option.some.inj h)
  have HP := Aside0.mk hpts
  have HN := Aside0.mk hN
  have HB := Aside0.mk (Below.refl w.heap.size w)
  have hu := Try.underlying61
  clear h hd hpts hN
  go_enter Try.func64, Try.ntmps64
  go_wp2_with (first
   | ((with_reducible refine gate_dst (N := 8) rfl ?_); refine Kd.R_lit (Kd.int .i64) _ 3 ?hg (N := 8) ?hd (xs := ([] : List Int)) (inner := []) (ok := fun _ => True) (okp := fun _ => True) ?hr ?hp (fun _ hk => hk) trivial (Below.refl _ _) (Nat.le_refl _) (by simp) ?_; (case hd => rfl); (case hg => rfl); (case hr => exact GS); (case hp => exact (Reps.none _ _)); intro v3 w3 ho4 hb hg_ hnew_; clear hg_ hnew_; have HO := Aside0.mk (Kd.R_lower ho4 (below_size BB)); have n1_ := Aside0.mk (below_step BB hb); clear HB; have HB := n1_; clear n1_; clear hb ho4)
   | (go_at_call 50; refine (impl_points.calls k (N : Int) pts _ HP.out).mono ?_; rintro e w5 ⟨vA, rfl, ho0, hb⟩; have n0_ := Aside0.mk (Kd.R_below (KR HO) hb); have HA := Aside0.mk (Kd.R_lower ho0 (below_size BB)); have n2_ := Aside0.mk (below_step BB hb); clear HO; clear HB; have HO := n0_; have HB := n2_; clear n0_ n2_; clear hb ho0; obtain ⟨A1, c1, e1⟩ := Kd.R_slice HA.out; subst e1))
  go_loopg [3, 11] 3 (fun gg v3 v11 wr => ∃ (s : Nat) (x : Int), v11 = .int .i64 x ∧ x = (s : Int) ∧ s ≤ 3 ∧ 3 - s ≤ gg ∧ Aside0 (Kd.R (Kd.int .i64) 3 wr w.heap.size (fun _ => True) v3 (bord N N pts s 0)) ∧ Aside0 (Kd.R k61 61 wr w.heap.size (fun _ => True) (.slice A1 pts.length c1) pts) ∧ Aside0 (Below w.heap.size w wr))
  case atStart => exact ⟨0, 0, rfl, rfl, by omega, by omega, ⟨KR HO⟩, ⟨KR HA⟩, ⟨BB⟩⟩
  case round =>
   clear HO HA HB
   obtain ⟨s, x, rfl, hx, hs, hg, HO, HA, HB⟩ := hrel
   by_cases hlt : s < 3
   ·have hx3 : decide (x < 3) = true := decide_eq_true (by omega)
    have hnx : wrap64 (x + 1) = ((s + 1 : Nat) : Int) := by unfold wrap64; omega
    have HNX := Aside0.mk hnx
    have HG := Aside0.mk (And.intro hg hlt)
    have HXX := Aside0.mk hx
    clear hg hs hlt hnx hx
    go_wp2
    go_loopg [3, 15] N (fun gg v3 v15 wi => ∃ t : Nat, v15 = .int .i64 t ∧ t ≤ N ∧ N - t ≤ gg ∧ Aside0 (Kd.R (Kd.int .i64) 3 wi w.heap.size (fun _ => True) v3 (bord N N pts s t)) ∧ Aside0 (Kd.R k61 61 wi w.heap.size (fun _ => True) (.slice A1 pts.length c1) pts) ∧ Aside0 (Below w.heap.size w wi))
    case atStart => exact ⟨0, rfl, Nat.zero_le _, Nat.le_refl _, ⟨KR HO⟩, ⟨KR HA⟩, ⟨BB⟩⟩
    case round =>
     clear HO HA HB
     obtain ⟨t, rfl, ht, hg2, HO, HA, HB⟩ := hrel
     by_cases htl : t < N
     ·have hNN := HN.out
      have hXX := HXX.out
      have hss := HG.out.2
      have ht0 : decide ((t : Int) < (N : Int)) = true := decide_eq_true (by omega)
      have ht1 : ((t : Int) < (N : Int)) = True := eq_true (by omega)
      have hw1 : wrap64 ((N : Int) - (t : Int)) = (N : Int) - (t : Int) := by unfold wrap64; omega
      have hw2 : wrap64 ((t : Int) + 1) = ((t + 1 : Nat) : Int) := by unfold wrap64; omega
      have hlen := bord_len N N pts s t
      have hmul : s * N ≤ 3 * N := Nat.mul_le_mul_right _ (by omega)
      have hlt2 : ((bord N N pts s t).length + 1) * 8 ≤ 140737488355328 := by omega
      have HL := Aside0.mk hlt2
      have HW2 := Aside0.mk hw2
      have HG2 := Aside0.mk (And.intro hg2 htl)
      have hcA := Kd.R_reads' HA.out
      have HCA := Aside0.mk hcA
      have hcase : x = 0 ∧ s = 0 ∨ x = 1 ∧ s = 1 ∨ x = 2 ∧ s = 2 := by omega
      clear hNN hXX hss hlen hmul hlt2 hw2 hg2 htl ht hcA HXX HNX HG hx3
      rcases hcase with ⟨rfl, rfl⟩ | ⟨rfl, rfl⟩ | ⟨rfl, rfl⟩
      ·go_upto_region 9 with (first
        | ((with_reducible refine gate_dst (N := 7) rfl ?_); refine box_event ?hg (N := 7) ?hd (cs := #[.int .i64 0, .int .i64 0, .int .i64 0]) (t := 61) ?hr ?_; (case hd => rfl); (case hg => rfl); (case hr => exact GS); intro gb hg w12 hbox hb; have GE := Aside0.mk (Nat.le_of_eq hg.symm); have HBX := Aside0.mk hb; have HX := Aside0.mk hbox; have z0 : w12.cell? ⟨gb, 0, none⟩ = some (.int .i64 0) := (blk_cell hbox 0).trans rfl; have z1 : w12.cell? ⟨gb, 1, none⟩ = some (.int .i64 0) := (blk_cell hbox 1).trans rfl; have z2 : w12.cell? ⟨gb, 2, none⟩ = some (.int .i64 0) := (blk_cell hbox 2).trans rfl; have f0 := blk_frozen hbox 0; have f1 := blk_frozen hbox 1; have f2 := blk_frozen hbox 2; clear hb hg hbox))
       have HX2 := Aside0.mk (blk_put (cs := #[.int .i64 0, .int .i64 0, .int .i64 0]) (blk_put (cs := #[.int .i64 0, .int .i64 0, .int .i64 0]) (blk_put (cs := #[.int .i64 0, .int .i64 0, .int .i64 0]) HX.out 0 (.int .i64 0) rfl) 1 (.int .i64 0) rfl) 2 (.int .i64 0) rfl)
       have HB2 := Aside0.mk (below_set (below_set (below_set HBX.out (j := 0) (v := .int .i64 0) GE.out) (j := 1) (v := .int .i64 0) GE.out) (j := 2) (v := .int .i64 0) GE.out)
       clear z0 z1 z2 f0 f1 f2 HX HBX
       generalize ((w12.setCell ⟨gb, 0, none⟩ (.int .i64 0)).setCell ⟨gb, 1, none⟩ (.int .i64 0)).setCell ⟨gb, 2, none⟩ (.int .i64 0) = w13 at *
       have z0 : w13.cell? ⟨gb, 0, none⟩ = some (.int .i64 0) := (blk_cell HX2.out 0).trans rfl
       have z1 : w13.cell? ⟨gb, 1, none⟩ = some (.int .i64 0) := (blk_cell HX2.out 1).trans rfl
       have z2 : w13.cell? ⟨gb, 2, none⟩ = some (.int .i64 0) := (blk_cell HX2.out 2).trans rfl
       have f0 := blk_frozen HX2.out 0
       have f1 := blk_frozen HX2.out 1
       have f2 := blk_frozen HX2.out 2
       go_upto_region 10 with (fail)
       have HX3 := Aside0.mk (blk_put (cs := #[.int .i64 ((N : Int) - (t : Int)), .int .i64 0, .int .i64 0]) (blk_put (cs := #[.int .i64 0, .int .i64 0, .int .i64 0]) HX2.out 0 (.int .i64 ((N : Int) - (t : Int))) rfl) 1 (.int .i64 (t : Int)) rfl : ((w13.setCell ⟨gb, 0, none⟩ (.int .i64 ((N : Int) - (t : Int)))).setCell ⟨gb, 1, none⟩ (.int .i64 (t : Int))).heap[gb]? = some (.cells #[.int .i64 ((N : Int) - (t : Int)), .int .i64 (t : Int), .int .i64 0] 61 (0, 0)))
       have HB3 := Aside0.mk (below_set (below_set HB2.out (j := 0) (v := (.int .i64 ((N : Int) - (t : Int)))) GE.out) (j := 1) (v := (.int .i64 (t : Int))) GE.out)
       clear z0 z1 z2 f0 f1 f2 HX2 HB2
       generalize (w13.setCell ⟨gb, 0, none⟩ (.int .i64 ((N : Int) - (t : Int)))).setCell ⟨gb, 1, none⟩ (.int .i64 (t : Int)) = w14 at *
       have z0 : w14.cell? ⟨gb, 0, none⟩ = some (.int .i64 ((N : Int) - (t : Int))) := (blk_cell HX3.out 0).trans rfl
       have z1 : w14.cell? ⟨gb, 1, none⟩ = some (.int .i64 (t : Int)) := (blk_cell HX3.out 1).trans rfl
       have z2 : w14.cell? ⟨gb, 2, none⟩ = some (.int .i64 0) := (blk_cell HX3.out 2).trans rfl
       have HIX := Aside0.mk (show Calls Try.prog 98 #[.slice A1 pts.length c1, .agg #[.int .i64 ((N : Int) - (t : Int)), .int .i64 (t : Int), .int .i64 0]] w14 fun e w' => e = .returned (.int .i64 (bval N pts 0 t)) ∧ Below w14.heap.size w14 w' from slices_Index_3_int_3_int.calls A1 c1 pts _ _ _ (bval N pts 0 t) w14 (Kd.C_below HCA.out.2.2 HB3.out) HCA.out.2.1 rfl)
       have HO3 := Aside0.mk (Kd.R_below HO.out HB3.out)
       have HA3 := Aside0.mk (Kd.R_below HA.out HB3.out)
       have HBB := Aside0.mk (below_step HB.out HB3.out)
       clear HO HA HB HB3 HX3
       go_wp2_with (first
        | (go_at_call 98; (with_reducible refine HIX.out.mono ?_); rintro e w15 ⟨rfl, hb⟩; have HO := Aside0.mk (Kd.R_below HO3.out hb); have HA := Aside0.mk (Kd.R_below HA3.out hb); have HB := Aside0.mk (below_step HBB.out hb); clear hb)
        | ((with_reducible refine gate_builtin (b := .append) (xs := #[.tmp 29, .tmp 33]) rfl ?_); at_builtin; refine Kd.R_append (Kd.int .i64) (w0 := w) w.heap.size rfl (.tmp 29) (.tmp 33) 22 3 (.int .i64 0) 8 rfl Try.underlying22 border_i rfl (by decide) (by omega) _ (bord N N pts 0 t) (bval N pts 0 t) [.int .i64 (bval N pts 0 t)] (fun _ => True) (fun _ => False) rfl rfl ?aP (fun _ hk => hk.elim) ?aF ?aO ?aB ?aS ?aL ?_; (case aP => exact rfl); (case aB => exact BB); (case aF => exact (fun _ _ => trivial)); (case aO => exact (KR HO)); (case aS => exact (below_size BB)); (case aL => exact HL.out); intro v4 w16 ho hb hg hat; have n0_ := Aside0.mk (Kd.R_over' (KR HA) (Kd.R_typed (KR HO)) (by decide) hg); have n2_ := Aside0.mk hb; have HO2 := Aside0.mk ho; clear HA HB HO; have HA := n0_; have HB := n2_; clear n0_ n2_; clear ho hb hg hat))
       go_roundg (N - (t + 1))
       case measure => have := HG2.out; omega
       case rel => exact ⟨t + 1, by first | rfl | rw [HW2.out], HG2.out.2, Nat.le_refl _, ⟨by rw [← bord_next]; exact KR HO2⟩, ⟨KR HA⟩, ⟨BB⟩⟩
      ·go_upto_region 9 with (first
        | ((with_reducible refine gate_dst (N := 7) rfl ?_); refine box_event ?hg (N := 7) ?hd (cs := #[.int .i64 0, .int .i64 0, .int .i64 0]) (t := 61) ?hr ?_; (case hd => rfl); (case hg => rfl); (case hr => exact GS); intro gb hg w12 hbox hb; have GE := Aside0.mk (Nat.le_of_eq hg.symm); have HBX := Aside0.mk hb; have HX := Aside0.mk hbox; have z0 : w12.cell? ⟨gb, 0, none⟩ = some (.int .i64 0) := (blk_cell hbox 0).trans rfl; have z1 : w12.cell? ⟨gb, 1, none⟩ = some (.int .i64 0) := (blk_cell hbox 1).trans rfl; have z2 : w12.cell? ⟨gb, 2, none⟩ = some (.int .i64 0) := (blk_cell hbox 2).trans rfl; have f0 := blk_frozen hbox 0; have f1 := blk_frozen hbox 1; have f2 := blk_frozen hbox 2; clear hb hg hbox))
       have HX2 := Aside0.mk (blk_put (cs := #[.int .i64 0, .int .i64 0, .int .i64 0]) (blk_put (cs := #[.int .i64 0, .int .i64 0, .int .i64 0]) (blk_put (cs := #[.int .i64 0, .int .i64 0, .int .i64 0]) HX.out 0 (.int .i64 0) rfl) 1 (.int .i64 0) rfl) 2 (.int .i64 0) rfl)
       have HB2 := Aside0.mk (below_set (below_set (below_set HBX.out (j := 0) (v := .int .i64 0) GE.out) (j := 1) (v := .int .i64 0) GE.out) (j := 2) (v := .int .i64 0) GE.out)
       clear z0 z1 z2 f0 f1 f2 HX HBX
       generalize ((w12.setCell ⟨gb, 0, none⟩ (.int .i64 0)).setCell ⟨gb, 1, none⟩ (.int .i64 0)).setCell ⟨gb, 2, none⟩ (.int .i64 0) = w13 at *
       have z0 : w13.cell? ⟨gb, 0, none⟩ = some (.int .i64 0) := (blk_cell HX2.out 0).trans rfl
       have z1 : w13.cell? ⟨gb, 1, none⟩ = some (.int .i64 0) := (blk_cell HX2.out 1).trans rfl
       have z2 : w13.cell? ⟨gb, 2, none⟩ = some (.int .i64 0) := (blk_cell HX2.out 2).trans rfl
       have f0 := blk_frozen HX2.out 0
       have f1 := blk_frozen HX2.out 1
       have f2 := blk_frozen HX2.out 2
       go_upto_region 10 with (fail)
       have HX3 := Aside0.mk (blk_put (cs := #[.int .i64 0, .int .i64 ((N : Int) - (t : Int)), .int .i64 0]) (blk_put (cs := #[.int .i64 0, .int .i64 0, .int .i64 0]) HX2.out 1 (.int .i64 ((N : Int) - (t : Int))) rfl) 2 (.int .i64 (t : Int)) rfl : ((w13.setCell ⟨gb, 1, none⟩ (.int .i64 ((N : Int) - (t : Int)))).setCell ⟨gb, 2, none⟩ (.int .i64 (t : Int))).heap[gb]? = some (.cells #[.int .i64 0, .int .i64 ((N : Int) - (t : Int)), .int .i64 (t : Int)] 61 (0, 0)))
       have HB3 := Aside0.mk (below_set (below_set HB2.out (j := 1) (v := (.int .i64 ((N : Int) - (t : Int)))) GE.out) (j := 2) (v := (.int .i64 (t : Int))) GE.out)
       clear z0 z1 z2 f0 f1 f2 HX2 HB2
       generalize (w13.setCell ⟨gb, 1, none⟩ (.int .i64 ((N : Int) - (t : Int)))).setCell ⟨gb, 2, none⟩ (.int .i64 (t : Int)) = w14 at *
       have z0 : w14.cell? ⟨gb, 0, none⟩ = some (.int .i64 0) := (blk_cell HX3.out 0).trans rfl
       have z1 : w14.cell? ⟨gb, 1, none⟩ = some (.int .i64 ((N : Int) - (t : Int))) := (blk_cell HX3.out 1).trans rfl
       have z2 : w14.cell? ⟨gb, 2, none⟩ = some (.int .i64 (t : Int)) := (blk_cell HX3.out 2).trans rfl
       have HIX := Aside0.mk (show Calls Try.prog 98 #[.slice A1 pts.length c1, .agg #[.int .i64 0, .int .i64 ((N : Int) - (t : Int)), .int .i64 (t : Int)]] w14 fun e w' => e = .returned (.int .i64 (bval N pts 1 t)) ∧ Below w14.heap.size w14 w' from slices_Index_3_int_3_int.calls A1 c1 pts _ _ _ (bval N pts 1 t) w14 (Kd.C_below HCA.out.2.2 HB3.out) HCA.out.2.1 rfl)
       have HO3 := Aside0.mk (Kd.R_below HO.out HB3.out)
       have HA3 := Aside0.mk (Kd.R_below HA.out HB3.out)
       have HBB := Aside0.mk (below_step HB.out HB3.out)
       clear HO HA HB HB3 HX3
       go_wp2_with (first
        | (go_at_call 98; (with_reducible refine HIX.out.mono ?_); rintro e w15 ⟨rfl, hb⟩; have HO := Aside0.mk (Kd.R_below HO3.out hb); have HA := Aside0.mk (Kd.R_below HA3.out hb); have HB := Aside0.mk (below_step HBB.out hb); clear hb)
        | ((with_reducible refine gate_builtin (b := .append) (xs := #[.tmp 29, .tmp 33]) rfl ?_); at_builtin; refine Kd.R_append (Kd.int .i64) (w0 := w) w.heap.size rfl (.tmp 29) (.tmp 33) 22 3 (.int .i64 0) 8 rfl Try.underlying22 border_i rfl (by decide) (by omega) _ (bord N N pts 1 t) (bval N pts 1 t) [.int .i64 (bval N pts 1 t)] (fun _ => True) (fun _ => False) rfl rfl ?aP (fun _ hk => hk.elim) ?aF ?aO ?aB ?aS ?aL ?_; (case aP => exact rfl); (case aB => exact BB); (case aF => exact (fun _ _ => trivial)); (case aO => exact (KR HO)); (case aS => exact (below_size BB)); (case aL => exact HL.out); intro v4 w16 ho hb hg hat; have n0_ := Aside0.mk (Kd.R_over' (KR HA) (Kd.R_typed (KR HO)) (by decide) hg); have n2_ := Aside0.mk hb; have HO2 := Aside0.mk ho; clear HA HB HO; have HA := n0_; have HB := n2_; clear n0_ n2_; clear ho hb hg hat))
       go_roundg (N - (t + 1))
       case measure => have := HG2.out; omega
       case rel => exact ⟨t + 1, by first | rfl | rw [HW2.out], HG2.out.2, Nat.le_refl _, ⟨by rw [← bord_next]; exact KR HO2⟩, ⟨KR HA⟩, ⟨BB⟩⟩
      ·go_upto_region 9 with (first
        | ((with_reducible refine gate_dst (N := 7) rfl ?_); refine box_event ?hg (N := 7) ?hd (cs := #[.int .i64 0, .int .i64 0, .int .i64 0]) (t := 61) ?hr ?_; (case hd => rfl); (case hg => rfl); (case hr => exact GS); intro gb hg w12 hbox hb; have GE := Aside0.mk (Nat.le_of_eq hg.symm); have HBX := Aside0.mk hb; have HX := Aside0.mk hbox; have z0 : w12.cell? ⟨gb, 0, none⟩ = some (.int .i64 0) := (blk_cell hbox 0).trans rfl; have z1 : w12.cell? ⟨gb, 1, none⟩ = some (.int .i64 0) := (blk_cell hbox 1).trans rfl; have z2 : w12.cell? ⟨gb, 2, none⟩ = some (.int .i64 0) := (blk_cell hbox 2).trans rfl; have f0 := blk_frozen hbox 0; have f1 := blk_frozen hbox 1; have f2 := blk_frozen hbox 2; clear hb hg hbox))
       have HX2 := Aside0.mk (blk_put (cs := #[.int .i64 0, .int .i64 0, .int .i64 0]) (blk_put (cs := #[.int .i64 0, .int .i64 0, .int .i64 0]) (blk_put (cs := #[.int .i64 0, .int .i64 0, .int .i64 0]) HX.out 0 (.int .i64 0) rfl) 1 (.int .i64 0) rfl) 2 (.int .i64 0) rfl)
       have HB2 := Aside0.mk (below_set (below_set (below_set HBX.out (j := 0) (v := .int .i64 0) GE.out) (j := 1) (v := .int .i64 0) GE.out) (j := 2) (v := .int .i64 0) GE.out)
       clear z0 z1 z2 f0 f1 f2 HX HBX
       generalize ((w12.setCell ⟨gb, 0, none⟩ (.int .i64 0)).setCell ⟨gb, 1, none⟩ (.int .i64 0)).setCell ⟨gb, 2, none⟩ (.int .i64 0) = w13 at *
       have z0 : w13.cell? ⟨gb, 0, none⟩ = some (.int .i64 0) := (blk_cell HX2.out 0).trans rfl
       have z1 : w13.cell? ⟨gb, 1, none⟩ = some (.int .i64 0) := (blk_cell HX2.out 1).trans rfl
       have z2 : w13.cell? ⟨gb, 2, none⟩ = some (.int .i64 0) := (blk_cell HX2.out 2).trans rfl
       have f0 := blk_frozen HX2.out 0
       have f1 := blk_frozen HX2.out 1
       have f2 := blk_frozen HX2.out 2
       go_upto_region 10 with (fail)
       have HX3 := Aside0.mk (blk_put (cs := #[.int .i64 0, .int .i64 0, .int .i64 ((N : Int) - (t : Int))]) (blk_put (cs := #[.int .i64 0, .int .i64 0, .int .i64 0]) HX2.out 2 (.int .i64 ((N : Int) - (t : Int))) rfl) 0 (.int .i64 (t : Int)) rfl : ((w13.setCell ⟨gb, 2, none⟩ (.int .i64 ((N : Int) - (t : Int)))).setCell ⟨gb, 0, none⟩ (.int .i64 (t : Int))).heap[gb]? = some (.cells #[.int .i64 (t : Int), .int .i64 0, .int .i64 ((N : Int) - (t : Int))] 61 (0, 0)))
       have HB3 := Aside0.mk (below_set (below_set HB2.out (j := 2) (v := (.int .i64 ((N : Int) - (t : Int)))) GE.out) (j := 0) (v := (.int .i64 (t : Int))) GE.out)
       clear z0 z1 z2 f0 f1 f2 HX2 HB2
       generalize (w13.setCell ⟨gb, 2, none⟩ (.int .i64 ((N : Int) - (t : Int)))).setCell ⟨gb, 0, none⟩ (.int .i64 (t : Int)) = w14 at *
       have z0 : w14.cell? ⟨gb, 0, none⟩ = some (.int .i64 (t : Int)) := (blk_cell HX3.out 0).trans rfl
       have z1 : w14.cell? ⟨gb, 1, none⟩ = some (.int .i64 0) := (blk_cell HX3.out 1).trans rfl
       have z2 : w14.cell? ⟨gb, 2, none⟩ = some (.int .i64 ((N : Int) - (t : Int))) := (blk_cell HX3.out 2).trans rfl
       have HIX := Aside0.mk (show Calls Try.prog 98 #[.slice A1 pts.length c1, .agg #[.int .i64 (t : Int), .int .i64 0, .int .i64 ((N : Int) - (t : Int))]] w14 fun e w' => e = .returned (.int .i64 (bval N pts 2 t)) ∧ Below w14.heap.size w14 w' from slices_Index_3_int_3_int.calls A1 c1 pts _ _ _ (bval N pts 2 t) w14 (Kd.C_below HCA.out.2.2 HB3.out) HCA.out.2.1 rfl)
       have HO3 := Aside0.mk (Kd.R_below HO.out HB3.out)
       have HA3 := Aside0.mk (Kd.R_below HA.out HB3.out)
       have HBB := Aside0.mk (below_step HB.out HB3.out)
       clear HO HA HB HB3 HX3
       go_wp2_with (first
        | (go_at_call 98; (with_reducible refine HIX.out.mono ?_); rintro e w15 ⟨rfl, hb⟩; have HO := Aside0.mk (Kd.R_below HO3.out hb); have HA := Aside0.mk (Kd.R_below HA3.out hb); have HB := Aside0.mk (below_step HBB.out hb); clear hb)
        | ((with_reducible refine gate_builtin (b := .append) (xs := #[.tmp 29, .tmp 33]) rfl ?_); at_builtin; refine Kd.R_append (Kd.int .i64) (w0 := w) w.heap.size rfl (.tmp 29) (.tmp 33) 22 3 (.int .i64 0) 8 rfl Try.underlying22 border_i rfl (by decide) (by omega) _ (bord N N pts 2 t) (bval N pts 2 t) [.int .i64 (bval N pts 2 t)] (fun _ => True) (fun _ => False) rfl rfl ?aP (fun _ hk => hk.elim) ?aF ?aO ?aB ?aS ?aL ?_; (case aP => exact rfl); (case aB => exact BB); (case aF => exact (fun _ _ => trivial)); (case aO => exact (KR HO)); (case aS => exact (below_size BB)); (case aL => exact HL.out); intro v4 w16 ho hb hg hat; have n0_ := Aside0.mk (Kd.R_over' (KR HA) (Kd.R_typed (KR HO)) (by decide) hg); have n2_ := Aside0.mk hb; have HO2 := Aside0.mk ho; clear HA HB HO; have HA := n0_; have HB := n2_; clear n0_ n2_; clear ho hb hg hat))
       go_roundg (N - (t + 1))
       case measure => have := HG2.out; omega
       case rel => exact ⟨t + 1, by first | rfl | rw [HW2.out], HG2.out.2, Nat.le_refl _, ⟨by rw [← bord_next]; exact KR HO2⟩, ⟨KR HA⟩, ⟨BB⟩⟩
     ·have htN : t = N := by omega
      subst htN
      have ht0 : decide ((t : Int) < (t : Int)) = false := decide_eq_false (by omega)
      have ht1 : ((t : Int) < (t : Int)) = False := eq_false (by omega)
      have HO2 := Aside0.mk (show Kd.R (Kd.int .i64) 3 wr w.heap.size (fun _ => True) _ (bord t t pts (s + 1) 0) from (bord_side t t pts s) ▸ HO.out)
      clear ht hg2 htl
      go_wp2
      go_roundg (3 - (s + 1))
      case measure => have := HG.out; omega
      case rel => exact ⟨s + 1, _, rfl, HNX.out, by have := HG.out; omega, Nat.le_refl _, ⟨KR HO2⟩, ⟨KR HA⟩, ⟨BB⟩⟩
   ·have hs3 : s = 3 := by omega
    subst hs3
    have hx3 : decide (x < 3) = false := decide_eq_false (by omega)
    clear hg hs hlt hx
    go_wp2
    go_ret
    exact ⟨_, rfl, by rw [← HRR.out]; exact KR HO, BB⟩
 ·rw [if_neg hd] at h
  cases h

/-! ### impl_houseOf: function 30 -/
def impl_houseOf.f (k : Nat) (a0 : Int) (l1 : List Int) : Option (Int × List Int × (List (List Int)) × List Int × Bool) := (impl_areLabels.f k a0 l1).bind fun t348 => (if t348 = true then ((impl_cells.f k a0).bind fun t349 => ((impl_border.f k a0).bind fun t352 => (some (a0, l1, t349, t352, true)))) else (some (0, ([] : List Int), ([] : List (List Int)), ([] : List Int), false)))
theorem impl_houseOf.mono : ∀ a0 a1 k, LeO (impl_houseOf.f k a0 a1) (impl_houseOf.f (k + 1) a0 a1) := by
 intro a0 a1 k
 unfold impl_houseOf.f
 repeat' first
   | with_reducible first | exact impl_areLabels.mono _ _ _ | exact impl_border.mono _ _ | exact impl_cells.mono _ _ | exact LeO.refl _ | exact LeO.none _ | refine LeO.ite ?_ ?_ | refine LeO.bind ?_ (fun _ => ?_)
   | exact LeO.none _ | refine LeO.ite ?_ ?_ | refine LeO.bind ?_ (fun _ => ?_)
theorem impl_houseOf.calls (k : Nat) (a0 : Int) (P1_ : Nat → Prop) (A1 : Option Addr) (c1 : Nat) (l1 : List Int) (r1 : Int) (r2 : List Int) (r3 : List (List Int)) (r4 : List Int) (r5 : Bool) (w : World) (hs1 : Kd.V (Kd.int .i64) 3 w w.heap.size (fun k_ => P1_ k_) (.slice A1 l1.length c1) l1) (h : impl_houseOf.f k a0 l1 = some (r1, r2, r3, r4, r5)) :
  Calls Try.prog 30 #[.int .i64 a0, .slice A1 l1.length c1] w fun e w' => ∃ v1_ v2_ v3_ : Value, e = .returned (.tuple #[.agg #[.int .i64 r1, v1_, v2_, v3_], .bool r5]) ∧ Kd.V (Kd.int .i64) 3 w' w.heap.size (fun k_ => (P1_ k_ ∨ w.heap.size ≤ k_) ∧ some k_ ≠ (v2_ : Value).ownBlock ∧ some k_ ≠ (v3_ : Value).ownBlock) v1_ r2 ∧ Kd.S (Kd.slice 3 (Kd.int .i64)) 22 w' w.heap.size (fun k_ => (w.heap.size ≤ k_) ∧ some k_ ≠ (v3_ : Value).ownBlock) v2_ r3 ∧ Kd.R (Kd.int .i64) 3 w' w.heap.size (fun k_ => (w.heap.size ≤ k_)) v3_ r4 ∧ Below w.heap.size w w' := by
 have hu46 := Try.underlying46
 have HO1 := Aside0.mk (show Kd.V (Kd.int .i64) 3 w w.heap.size (fun k_ => (P1_ k_ ∨ w.heap.size ≤ k_)) (.slice A1 l1.length c1) l1 from Kd.V_mono hs1 (fun k_ hk => .inl hk))
 have HB := Aside0.mk (Below.refl w.heap.size w)
 have H : ((impl_areLabels.f k a0 l1).bind fun t348 => (if t348 = true then ((impl_cells.f k a0).bind fun t349 => ((impl_border.f k a0).bind fun t352 => (some (a0, l1, t349, t352, true)))) else (some (0, ([] : List Int), ([] : List (List Int)), ([] : List Int), false)))) = some (r1, r2, r3, r4, r5) := h
 clear h
 obtain ⟨t348, A30, H⟩ := Option.bind_eq_some_iff.mp H
 have A3 := Aside0.mk A30
 clear A30
 by_cases c4 : t348 = true
 ·subst c4
  replace H := IP H
  obtain ⟨t349, A50, H⟩ := Option.bind_eq_some_iff.mp H
  have A5 := Aside0.mk A50
  clear A50
  obtain ⟨t352, A60, H⟩ := Option.bind_eq_some_iff.mp H
  have A6 := Aside0.mk A60
  clear A60
  simp only [Option.some.injEq, Prod.mk.injEq] at H
  obtain ⟨rfl, rfl, rfl, rfl, rfl⟩ := H
  go_enter Try.func30, Try.ntmps30
  go_wp2_with (first | ((with_reducible refine gate_dst (N := 4) rfl ?_); refine box_event ?hg (N := 4) ?hd (cs := #[.int .i64 0, .slice none 0 0, .slice none 0 0, .slice none 0 0]) (t := 46) ?hr ?_; (case hd => rfl); (case hg => rfl); (case hr => exact GS); intro gb347 hg w7 hbox hb; have n0_ := Aside0.mk (Kd.V_below (Kd.V_elderB (by (with_reducible repeat (first | apply Kd.V_alloc | apply Kd.V_drewN | apply Kd.V_drew)); exact HO1.out) gb347 (Nat.le_of_eq hg.symm)) hb); have n1_ := Aside0.mk (below_step BB hb); have n2_ := Aside0.mk (hbox); have n3_ := Aside0.mk ((by rw [hg]; exact (below_size BB) : w.heap.size ≤ gb347)); have n4_ := Aside0.mk ((by rw [hg]; exact (below_size BB) : w.heap.size ≤ gb347)); clear HO1; clear HB; have HO1 := n0_; have HB := n1_; have BK347 := n2_; have GW347 := n3_; have GE347 := n4_; clear n0_ n1_ n2_ n3_ n4_; clear hb hbox hg) | ((with_reducible refine gate_callee (f := 63) rfl ?_); refine goesL_ (some 8) rfl rfl Try.func63 (by kernel_rfl) rfl #[.int .i64 a0, .slice A1 l1.length c1] rfl TA ?_; (with_reducible refine (impl_areLabels.calls k a0 _ _ l1 true _ ?side1 ?side2 A3.out).mono ?_); (case side1 => exact CW (Kd.V_reads' HO1.out).2.2); (case side2 => exact (Kd.V_reads' HO1.out).2.1); rintro e w' ⟨rfl, ⟨nd, rfl⟩⟩; refine ⟨_, rfl, ?_⟩; (try (rw [drewN_self w7]; generalize hq_ : World.drewN w7 _ = w7; have n0_ : Aside0 (Kd.V (Kd.int .i64) 3 w7 w.heap.size (fun k_ => (P1_ k_ ∨ w.heap.size ≤ k_) ∧ k_ ≠ gb347) (.slice A1 l1.length c1) l1) := ⟨by rw [← hq_]; exact (by (with_reducible repeat (first | apply Kd.V_alloc | apply Kd.V_drewN | apply Kd.V_drew)); exact HO1.out)⟩; have n1_ : Aside0 (w7.heap[gb347]? = some (.cells #[.int .i64 0, .slice none 0 0, .slice none 0 0, .slice none 0 0] 46 (0, 0))) := ⟨by rw [← hq_]; exact (BW BK347)⟩; have n2_ : Aside0 (Below w.heap.size w w7) := ⟨by rw [← hq_]; exact (by repeat (first | (with_reducible first | exact HB.out | apply below_alloc | apply pw_below_drewN | apply below_drew1 | refine below_set ?_ GE347.out) | exact HB.out))⟩; clear HO1 BK347 HB hq_; have HO1 := n0_; have BK347 := n1_; have HB := n2_; clear n0_ n1_ n2_))) | ((with_reducible refine gate_callee (f := 49) rfl ?_); refine goesL_ (some 14) rfl rfl Try.func49 (by kernel_rfl) rfl #[.int .i64 a0] rfl TA ?_; (with_reducible refine (impl_cells.calls k a0 t349 _ A5.out).mono ?_); rintro e w8 ⟨v350, rfl, ho0, hb⟩; refine ⟨_, rfl, ?_⟩; have n0_ := Aside0.mk (Kd.V_elder' (by (with_reducible repeat (first | apply Kd.V_alloc | apply Kd.V_drewN | apply Kd.V_drew)); exact HO1.out) (Kd.S_base ho0) hb); have n1_ := Aside0.mk (Kd.S_lower (Kd.S_newM (M := fun k_ => (w.heap.size ≤ k_)) ho0 (below_size (by repeat (first | (with_reducible first | exact HB.out | apply below_alloc | apply pw_below_drewN | apply below_drew1 | refine below_set ?_ GE347.out) | exact HB.out))) (fun k_ h_ => h_)) (below_size (by repeat (first | (with_reducible first | exact HB.out | apply below_alloc | apply pw_below_drewN | apply below_drew1 | refine below_set ?_ GE347.out) | exact HB.out)))); have n2_ := Aside0.mk (blk_below (g := gb347) (o := .cells #[.int .i64 0, .slice none 0 0, .slice none 0 0, .slice none 0 0] 46 (0, 0)) (BW BK347) hb); have n3_ := Aside0.mk (below_step (by repeat (first | (with_reducible first | exact HB.out | apply below_alloc | apply pw_below_drewN | apply below_drew1 | refine below_set ?_ GE347.out) | exact HB.out)) hb); clear HO1; clear BK347; clear HB; have HO1 := n0_; have HO351 := n1_; have BK347 := n2_; have HB := n3_; clear n0_ n1_ n2_ n3_; (try clear hb); (try clear hb2); (try clear hk); (try clear hi); (try clear ho0)) | ((with_reducible refine gate_callee (f := 64) rfl ?_); refine goesL_ (some 16) rfl rfl Try.func64 (by kernel_rfl) rfl #[.int .i64 a0] rfl TA ?_; (with_reducible refine (impl_border.calls k a0 t352 _ A6.out).mono ?_); rintro e w9 ⟨v353, rfl, ho0, hb⟩; refine ⟨_, rfl, ?_⟩; have n0_ := Aside0.mk (Kd.V_elder' (by (with_reducible repeat (first | apply Kd.V_alloc | apply Kd.V_drewN | apply Kd.V_drew)); exact HO1.out) (Kd.R_base ho0) hb); have n1_ := Aside0.mk (Kd.S_elder' (KS HO351) (Kd.R_base ho0) hb); have n2_ := Aside0.mk (Kd.R_lower (Kd.R_newM (M := fun k_ => (w.heap.size ≤ k_)) ho0 (below_size (by repeat (first | (with_reducible first | exact HB.out | apply below_alloc | apply pw_below_drewN | apply below_drew1 | refine below_set ?_ GE347.out) | exact HB.out))) (fun k_ h_ => h_)) (below_size (by repeat (first | (with_reducible first | exact HB.out | apply below_alloc | apply pw_below_drewN | apply below_drew1 | refine below_set ?_ GE347.out) | exact HB.out)))); have n3_ := Aside0.mk (blk_below (g := gb347) (o := .cells #[.int .i64 0, .slice none 0 0, .slice none 0 0, .slice none 0 0] 46 (0, 0)) (BW BK347) hb); have n4_ := Aside0.mk (below_step (by repeat (first | (with_reducible first | exact HB.out | apply below_alloc | apply pw_below_drewN | apply below_drew1 | refine below_set ?_ GE347.out) | exact HB.out)) hb); clear HO1; clear HO351; clear BK347; clear HB; have HO1 := n0_; have HO351 := n1_; have HO354 := n2_; have BK347 := n3_; have HB := n4_; clear n0_ n1_ n2_ n3_ n4_; (try clear hb); (try clear hb2); (try clear hk); (try clear hi); (try clear ho0); obtain ⟨Ao10, co10, eo10⟩ := Kd.R_slice HO354.out; subst eo10; obtain ⟨Ao11, co11, eo11⟩ := Kd.S_slice HO351.out; subst eo11; have hcz12_0 : w9.cell? ⟨gb347, 0, none⟩ = some (.int .i64 0) := (blk_cell BK347.out 0).trans rfl; have hcz12_1 : w9.cell? ⟨gb347, 1, none⟩ = some (.slice none 0 0) := (blk_cell BK347.out 1).trans rfl; have hcz12_2 : w9.cell? ⟨gb347, 2, none⟩ = some (.slice none 0 0) := (blk_cell BK347.out 2).trans rfl; have hcz12_3 : w9.cell? ⟨gb347, 3, none⟩ = some (.slice none 0 0) := (blk_cell BK347.out 3).trans rfl; have hfz12_0 := blk_frozen BK347.out 0; have hfz12_1 := blk_frozen BK347.out 1; have hfz12_2 := blk_frozen BK347.out 2; have hfz12_3 := blk_frozen BK347.out 3))
  refine bodyPost_ret (results_ct rfl _ _ gb347 46 #[.int .i64 a0, .slice A1 l1.length c1, .slice Ao11 t349.length co11, .slice Ao10 t352.length co10] (0, 0) _ rfl (by (with_reducible repeat (first | refine blk_drewN ?_ _ | refine blk_drew ?_ | refine blk_alloc ?_ _)); refine blk_put (cs := #[.int .i64 a0, .slice A1 l1.length c1, .slice Ao11 t349.length co11, .slice none 0 0]) ?_ 3 _ rfl; (with_reducible repeat (first | refine blk_drewN ?_ _ | refine blk_drew ?_ | refine blk_alloc ?_ _)); refine blk_put (cs := #[.int .i64 a0, .slice A1 l1.length c1, .slice none 0 0, .slice none 0 0]) ?_ 2 _ rfl; (with_reducible repeat (first | refine blk_drewN ?_ _ | refine blk_drew ?_ | refine blk_alloc ?_ _)); refine blk_put (cs := #[.int .i64 a0, .slice none 0 0, .slice none 0 0, .slice none 0 0]) ?_ 1 _ rfl; (with_reducible repeat (first | refine blk_drewN ?_ _ | refine blk_drew ?_ | refine blk_alloc ?_ _)); refine blk_put (cs := #[.int .i64 0, .slice none 0 0, .slice none 0 0, .slice none 0 0]) ?_ 0 _ rfl; (with_reducible repeat (first | refine blk_drewN ?_ _ | refine blk_drew ?_ | refine blk_alloc ?_ _)); exact BK347.out) Try.underlying46 rfl (by kernel_rfl)) rfl ?_
  exact ⟨_, _, _, RE, by (with_reducible repeat (first | apply Kd.V_alloc | apply Kd.V_drewN | apply Kd.V_drew)); exact Kd.V_mono (Kd.V_far (p := ⟨gb347, 3, none⟩) (Kd.V_far (p := ⟨gb347, 2, none⟩) (Kd.V_far (p := ⟨gb347, 1, none⟩) (Kd.V_far (p := ⟨gb347, 0, none⟩) (Kd.V_mono HO1.out (fun k_ hk => (⟨hk, hk.1.1.2⟩ : _ ∧ k_ ≠ gb347))) (fun _ hk => hk.2) (.int .i64 a0)) (fun _ hk => hk.2) (.slice A1 l1.length c1)) (fun _ hk => hk.2) (.slice Ao11 t349.length co11)) (fun _ hk => hk.2) (.slice Ao10 t352.length co10)) (fun _ hk => ⟨hk.1.1.1.1, ⟨hk.1.1.2, hk.1.2⟩⟩), by (with_reducible repeat (first | apply Kd.S_alloc | apply Kd.S_drewN | apply Kd.S_drew)); exact Kd.S_mono (Kd.S_far (p := ⟨gb347, 3, none⟩) (Kd.S_far (p := ⟨gb347, 2, none⟩) (Kd.S_far (p := ⟨gb347, 1, none⟩) (Kd.S_far (p := ⟨gb347, 0, none⟩) (Kd.S_types HO351.out BK347.out (by decide)) (fun _ hk => hk.2) (.int .i64 a0)) (fun _ hk => hk.2) (.slice A1 l1.length c1)) (fun _ hk => hk.2) (.slice Ao11 t349.length co11)) (fun _ hk => hk.2) (.slice Ao10 t352.length co10)) (fun _ hk => ⟨hk.1.1.1, hk.1.2⟩), by (with_reducible repeat (first | apply Kd.R_alloc | apply Kd.R_drewN | apply Kd.R_drew)); exact Kd.R_mono (Kd.R_far (p := ⟨gb347, 3, none⟩) (Kd.R_far (p := ⟨gb347, 2, none⟩) (Kd.R_far (p := ⟨gb347, 1, none⟩) (Kd.R_far (p := ⟨gb347, 0, none⟩) (Kd.R_types HO354.out BK347.out (by decide)) (fun _ hk => hk.2) (.int .i64 a0)) (fun _ hk => hk.2) (.slice A1 l1.length c1)) (fun _ hk => hk.2) (.slice Ao11 t349.length co11)) (fun _ hk => hk.2) (.slice Ao10 t352.length co10)) (fun _ hk => hk.1.1), by repeat (first | (with_reducible first | exact HB.out | apply below_alloc | apply pw_below_drewN | apply below_drew1 | refine below_set ?_ GE347.out) | exact HB.out)⟩
 ·replace c4 := Bool.eq_false_iff.mpr c4
  subst c4
  replace H := IN H
  simp only [Option.some.injEq, Prod.mk.injEq] at H
  obtain ⟨rfl, rfl, rfl, rfl, rfl⟩ := H
  go_enter Try.func30, Try.ntmps30
  go_wp2_with (first | ((with_reducible refine gate_dst (N := 4) rfl ?_); refine box_event ?hg (N := 4) ?hd (cs := #[.int .i64 0, .slice none 0 0, .slice none 0 0, .slice none 0 0]) (t := 46) ?hr ?_; (case hd => rfl); (case hg => rfl); (case hr => exact GS); intro gb347 hg w13 hbox hb; have n0_ := Aside0.mk (Kd.V_below (Kd.V_elderB (by (with_reducible repeat (first | apply Kd.V_alloc | apply Kd.V_drewN | apply Kd.V_drew)); exact HO1.out) gb347 (Nat.le_of_eq hg.symm)) hb); have n1_ := Aside0.mk (below_step BB hb); have n2_ := Aside0.mk (hbox); have n3_ := Aside0.mk ((by rw [hg]; exact (below_size BB) : w.heap.size ≤ gb347)); have n4_ := Aside0.mk ((by rw [hg]; exact (below_size BB) : w.heap.size ≤ gb347)); clear HO1; clear HB; have HO1 := n0_; have HB := n1_; have BK347 := n2_; have GW347 := n3_; have GE347 := n4_; clear n0_ n1_ n2_ n3_ n4_; clear hb hbox hg) | ((with_reducible refine gate_callee (f := 63) rfl ?_); refine goesL_ (some 8) rfl rfl Try.func63 (by kernel_rfl) rfl #[.int .i64 a0, .slice A1 l1.length c1] rfl TA ?_; (with_reducible refine (impl_areLabels.calls k a0 _ _ l1 false _ ?side1 ?side2 A3.out).mono ?_); (case side1 => exact CW (Kd.V_reads' HO1.out).2.2); (case side2 => exact (Kd.V_reads' HO1.out).2.1); rintro e w' ⟨rfl, ⟨nd, rfl⟩⟩; refine ⟨_, rfl, ?_⟩; (try (rw [drewN_self w13]; generalize hq_ : World.drewN w13 _ = w13; have n0_ : Aside0 (Kd.V (Kd.int .i64) 3 w13 w.heap.size (fun k_ => (P1_ k_ ∨ w.heap.size ≤ k_) ∧ k_ ≠ gb347) (.slice A1 l1.length c1) l1) := ⟨by rw [← hq_]; exact (by (with_reducible repeat (first | apply Kd.V_alloc | apply Kd.V_drewN | apply Kd.V_drew)); exact HO1.out)⟩; have n1_ : Aside0 (w13.heap[gb347]? = some (.cells #[.int .i64 0, .slice none 0 0, .slice none 0 0, .slice none 0 0] 46 (0, 0))) := ⟨by rw [← hq_]; exact (BW BK347)⟩; have n2_ : Aside0 (Below w.heap.size w w13) := ⟨by rw [← hq_]; exact (by repeat (first | (with_reducible first | exact HB.out | apply below_alloc | apply pw_below_drewN | apply below_drew1 | refine below_set ?_ GE347.out) | exact HB.out))⟩; clear HO1 BK347 HB hq_; have HO1 := n0_; have BK347 := n1_; have HB := n2_; clear n0_ n1_ n2_)); have hcz14_0 : w13.cell? ⟨gb347, 0, none⟩ = some (.int .i64 0) := (blk_cell BK347.out 0).trans rfl; have hcz14_1 : w13.cell? ⟨gb347, 1, none⟩ = some (.slice none 0 0) := (blk_cell BK347.out 1).trans rfl; have hcz14_2 : w13.cell? ⟨gb347, 2, none⟩ = some (.slice none 0 0) := (blk_cell BK347.out 2).trans rfl; have hcz14_3 : w13.cell? ⟨gb347, 3, none⟩ = some (.slice none 0 0) := (blk_cell BK347.out 3).trans rfl; have hfz14_0 := blk_frozen BK347.out 0; have hfz14_1 := blk_frozen BK347.out 1; have hfz14_2 := blk_frozen BK347.out 2; have hfz14_3 := blk_frozen BK347.out 3))
  refine bodyPost_ret (results_ct rfl _ _ gb347 46 #[.int .i64 0, .slice none 0 0, .slice none 0 0, .slice none 0 0] (0, 0) _ rfl (by (with_reducible repeat (first | refine blk_drewN ?_ _ | refine blk_drew ?_ | refine blk_alloc ?_ _)); refine blk_put (cs := #[.int .i64 0, .slice none 0 0, .slice none 0 0, .slice none 0 0]) ?_ 3 _ rfl; (with_reducible repeat (first | refine blk_drewN ?_ _ | refine blk_drew ?_ | refine blk_alloc ?_ _)); refine blk_put (cs := #[.int .i64 0, .slice none 0 0, .slice none 0 0, .slice none 0 0]) ?_ 2 _ rfl; (with_reducible repeat (first | refine blk_drewN ?_ _ | refine blk_drew ?_ | refine blk_alloc ?_ _)); refine blk_put (cs := #[.int .i64 0, .slice none 0 0, .slice none 0 0, .slice none 0 0]) ?_ 1 _ rfl; (with_reducible repeat (first | refine blk_drewN ?_ _ | refine blk_drew ?_ | refine blk_alloc ?_ _)); refine blk_put (cs := #[.int .i64 0, .slice none 0 0, .slice none 0 0, .slice none 0 0]) ?_ 0 _ rfl; (with_reducible repeat (first | refine blk_drewN ?_ _ | refine blk_drew ?_ | refine blk_alloc ?_ _)); exact BK347.out) Try.underlying46 rfl (by kernel_rfl)) rfl ?_
  exact ⟨_, _, _, RE, Kd.V_nil _ _ _ _ _, by first | exact Kd.S_nil _ _ _ _ _ | exact Kd.N_nil _ _ _ _ _ | exact Kd.V_nil _ _ _ _ _ | exact Kd.Q_nil _ _ _ _ _ | exact Kd.R_nil _ _ _ _ _, by first | exact Kd.R_nil _ _ _ _ _ | exact Kd.N_nil _ _ _ _ _ | exact Kd.V_nil _ _ _ _ _ | exact Kd.Q_nil _ _ _ _ _ | exact Kd.S_nil _ _ _ _ _, by repeat (first | (with_reducible first | exact HB.out | apply below_alloc | apply pw_below_drewN | apply below_drew1 | refine below_set ?_ GE347.out) | exact HB.out)⟩

-- NOT PRINTED: function 99 (slices_IndexFunc_int_int_99)

end Go.Proofs.Ytgpplbaloajgdab.PFnExactFairCell
