-- Written by a program of this session (wip/tools/pp.sh) out of the translation; Lean checks it.
import Derived.Test.YtgpplbaloajgdabPFnExactFairCellx0
import Derived.Test.YtgpplbaloajgdabPFnExactFairCellx11
namespace Go.Proofs.Ytgpplbaloajgdab.PFnExactFairCell
open Go.RowKit Go.Proofs.YtgpplbaloajgdabOwn Go.Proofs.YtgpplbaloajgdabW.PrintWords Go.Proofs.YtgpplbaloajgdabW.PrintLast Go.Proofs.YtgpplbaloajgdabW.PrintMore
attribute [local go_sem] max2_int min2_int max_two min_two max_three min_three max_four min_four   -- for this text's walks alone
set_option linter.unusedVariables false
set_option maxHeartbeats 8000000
set_option maxRecDepth 100000
set_option linter.unusedSimpArgs false

/-! ### slices_Contains_int_int: function 109 -/
def slices_Contains_int_int.f (k : Nat) (l0 : List Int) (a1 : Int) : Option (Bool) := (slices_Index_int_int.f k l0 a1).bind fun t380 => (some (decide (t380 ≥ 0)))
theorem slices_Contains_int_int.mono : ∀ a0 a1 k, LeO (slices_Contains_int_int.f k a0 a1) (slices_Contains_int_int.f (k + 1) a0 a1) := by
 intro a0 a1 k
 unfold slices_Contains_int_int.f
 repeat' first
   | with_reducible first | exact slices_Index_int_int.mono _ _ _ | exact LeO.refl _ | exact LeO.none _ | refine LeO.ite ?_ ?_ | refine LeO.bind ?_ (fun _ => ?_)
   | exact LeO.none _ | refine LeO.ite ?_ ?_ | refine LeO.bind ?_ (fun _ => ?_)
theorem slices_Contains_int_int.calls (k : Nat) (A0 : Option Addr) (c0 : Nat) (l0 : List Int) (a1 : Int) (r : Bool) (w : World) (hr0 : Kd.C (Kd.int .i64) w A0 l0.length l0) (hc0 : l0.length ≤ c0) (h : slices_Contains_int_int.f k l0 a1 = some r) :
  Calls Try.prog 109 #[.slice A0 l0.length c0, .int .i64 a1] w fun e w' => e = .returned (.bool r) ∧ Drawn0 w w' := by
 have HR0 := Aside0.mk hr0
 have HC0 := Aside0.mk hc0
 clear hr0 hc0
 have H : ((slices_Index_int_int.f k l0 a1).bind fun t380 => (some (decide (t380 ≥ 0)))) = some r := h
 clear h
 obtain ⟨t380, A30, H⟩ := Option.bind_eq_some_iff.mp H
 have A3 := Aside0.mk A30
 clear A30
 obtain rfl := Option.some.inj H
 go_enter Try.func109, Try.ntmps109
 go_wp2_with (first | ((with_reducible refine gate_callee (f := 110) rfl ?_); refine goesL_ (some 7) rfl rfl Try.func110 (by kernel_rfl) rfl #[.slice A0 l0.length c0, .int .i64 a1] rfl TA ?_; (with_reducible refine (slices_Index_int_int.calls k _ _ l0 a1 t380 _ ?side1 ?side2 A3.out).mono ?_); (case side1 => exact CW HR0.out); (case side2 => exact HC0.out); rintro e w' ⟨rfl, ⟨nd, rfl⟩⟩; refine ⟨_, rfl, ?_⟩))
 go_ret
 exact ⟨RF, DR⟩

/-! ### impl_with: function 101 -/
def impl_with.l0 : Nat → Int → Int → List Int → List (List Int) → Int → Int → Option (List Int)
 | 0, _, _, _, _, _, _ => none
 | k + 1, x1, x2, x7, x11, x12, x13 => if x13 < x12 then (if 0 ≤ x13 then (if x13 < (x11.length : Int) then ((slices_Contains_int_int.f k (rd_L1 x11 x13) x1).bind fun t385 => (if t385 = true then ((slices_Contains_int_int.f k (rd_L1 x11 x13) x2).bind fun t386 => (if t386 = true then (if x7.length < 17592186044416 then (impl_with.l0 k x1 x2 (x7 ++ [x13]) x11 x12 (wrap64 (x13 + 1))) else (none)) else (impl_with.l0 k x1 x2 x7 x11 x12 (wrap64 (x13 + 1))))) else (impl_with.l0 k x1 x2 x7 x11 x12 (wrap64 (x13 + 1))))) else (none)) else (none)) else (some x7)
def impl_with.f (k : Nat) (l0 : List (List Int)) (a1 : Int) (a2 : Int) : Option (List Int) := impl_with.l0 k a1 a2 (([] : List Int)) l0 (l0.length : Int) 0
theorem impl_with.mono_l : ∀ k, (∀ y0 y1 y2 y3 y4 y5, LeO (impl_with.l0 k y0 y1 y2 y3 y4 y5) (impl_with.l0 (k + 1) y0 y1 y2 y3 y4 y5))
 | 0 => fun _ _ _ _ _ _ r h => by simp [impl_with.l0] at h
 | k + 1 => by
  have ih0 := impl_with.mono_l k
  ·intro y0 y1 y2 y3 y4 y5
   unfold impl_with.l0
   repeat' first
   | with_reducible first | exact ih0 _ _ _ _ _ _ | exact slices_Contains_int_int.mono _ _ _ | exact LeO.refl _ | exact LeO.none _ | refine LeO.ite ?_ ?_ | refine LeO.bind ?_ (fun _ => ?_)
   | exact LeO.none _ | refine LeO.ite ?_ ?_ | refine LeO.bind ?_ (fun _ => ?_)
theorem impl_with.mono : ∀ a0 a1 a2 k, LeO (impl_with.f k a0 a1 a2) (impl_with.f (k + 1) a0 a1 a2) := by
 intro a0 a1 a2 k
 have ih0 := impl_with.mono_l k
 unfold impl_with.f
 repeat' first
   | with_reducible first | exact ih0 _ _ _ _ _ _ | exact slices_Contains_int_int.mono _ _ _ | exact LeO.refl _ | exact LeO.none _ | refine LeO.ite ?_ ?_ | refine LeO.bind ?_ (fun _ => ?_)
   | exact LeO.none _ | refine LeO.ite ?_ ?_ | refine LeO.bind ?_ (fun _ => ?_)
theorem impl_with.calls (k : Nat) (A0 : Option Addr) (c0 : Nat) (l0 : List (List Int)) (a1 : Int) (a2 : Int) (r : List Int) (w : World) (hr0 : Kd.C (Kd.slice 3 (Kd.int .i64)) w A0 l0.length l0) (hc0 : l0.length ≤ c0) (h : impl_with.f k l0 a1 a2 = some r) :
  Calls Try.prog 101 #[.slice A0 l0.length c0, .int .i64 a1, .int .i64 a2] w fun e w' => ∃ v0_ : Value, e = .returned (v0_) ∧ Kd.R (Kd.int .i64) 3 w' w.heap.size (fun _ => True) v0_ r ∧ Below w.heap.size w w' := by
 have HR0 := Aside0.mk hr0
 have HC0 := Aside0.mk hc0
 clear hr0 hc0
 have HB := Aside0.mk (Below.refl w.heap.size w)
 have H : (impl_with.l0 k a1 a2 (([] : List Int)) l0 (l0.length : Int) 0) = some r := h
 clear h
 obtain ⟨y381, hy381⟩ : ∃ y_ : List Int, y_ = (([] : List Int)) := ⟨_, rfl⟩
 replace H : (impl_with.l0 k a1 a2 y381 l0 (l0.length : Int) 0) = some r := HY H hy381
 have Ny381 := Aside0.mk hy381
 clear hy381
 have H' := Aside0.mk H
 clear H
 go_enter Try.func101, Try.ntmps101
 go_wp2_with (first | ((with_reducible refine gate_dst (N := 10) rfl ?_); refine Kd.R_lit (Kd.int .i64) _ 3 ?hg (N := 10) ?hd (xs := ([] : List Int)) (inner := []) (ok := fun _ => True) (okp := fun _ => True) ?hr ?hp (fun _ hk => hk) trivial (Below.refl _ _) (Nat.le_refl _) (by simp) ?_; (case hd => rfl); (case hg => rfl); (case hr => exact GS); (case hp => exact (Reps.none _ _)); intro v382 w4 ho5 hb hg_ hnew_; clear hg_ hnew_; (first | rw [← Ny381.out] at ho5 | (simp only [Int.reduceToNat] at ho5; rw [← Ny381.out] at ho5)); have n0_ := Aside0.mk (Kd.R_lower ho5 (below_size BB)); have n1_ := Aside0.mk (below_step BB hb); clear HB; have HO383 := n0_; have HB := n1_; clear n0_ n1_; clear hb ho5))
 go_loopg [7, 13] k (fun kq v7 v13 w' => ∃ (x7_1 : List Int) (x13_1 : Int), v13 = .int .i64 x13_1 ∧ Aside0 (impl_with.l0 kq a1 a2 x7_1 l0 (l0.length : Int) x13_1 = some r) ∧ Aside0 (kq ≤ k) ∧ Aside0 (Kd.R (Kd.int .i64) 3 w' w.heap.size (fun _ => True) v7 x7_1) ∧ Aside0 (Below w.heap.size w w'))
 case atStart => exact ⟨(y381), (0), RF, H', ⟨Nat.le_refl _⟩, ⟨KR HO383⟩, ⟨BB⟩⟩
 case round =>
  clear H'
  try clear c1
  try clear p2
  obtain ⟨x7_1, x13_1, rfl, HA, HK1, HO_7, HB⟩ := hrel
  cases gk with
  | zero => exact absurd HA.out (by simp [impl_with.l0])
  | succ k1 =>
   have H := HA.out
   clear HA
   simp only [impl_with.l0] at H
   by_cases c6 : x13_1 < (l0.length : Int)
   ·rw [if_pos c6] at H
    have c6b0 : decide (x13_1 < (l0.length : Int)) = true := decide_eq_true c6
    clear c6
    by_cases c7 : 0 ≤ x13_1
    ·rw [if_pos c7] at H
     have c7b0 : decide (0 ≤ x13_1) = true := decide_eq_true c7
     clear c7
     by_cases c8 : x13_1 < (l0.length : Int)
     ·rw [if_pos c8] at H
      have c8b0 : decide (x13_1 < (l0.length : Int)) = true := decide_eq_true c8
      clear c8
      obtain ⟨t385, A90, H⟩ := Option.bind_eq_some_iff.mp H
      have A9 := Aside0.mk A90
      clear A90
      by_cases c10 : t385 = true
      ·subst c10
       replace H := IP H
       obtain ⟨t386, A110, H⟩ := Option.bind_eq_some_iff.mp H
       have A11 := Aside0.mk A110
       clear A110
       by_cases c12 : t386 = true
       ·subst c12
        replace H := IP H
        by_cases c13 : x7_1.length < 17592186044416
        ·rw [if_pos c13] at H
         have LMc13 := Aside0.mk c13
         clear c13
         obtain ⟨y387, hy387⟩ : ∃ y_ : List Int, y_ = (x7_1 ++ [x13_1]) := ⟨_, rfl⟩
         replace H : (impl_with.l0 k1 a1 a2 y387 l0 (l0.length : Int) (wrap64 (x13_1 + 1))) = some r := HY H hy387
         have Ny387 := Aside0.mk hy387
         clear hy387
         have H' := Aside0.mk H
         clear H
         have p384 : 0 ≤ (x13_1 : Int) := of_decide_eq_true AS
         have q384 : x13_1 < (l0.length : Int) := of_decide_eq_true AS
         obtain ⟨ad384, A384_0, c384_0, e384, hx384_0, hl384_0, hi384_0⟩ := at_L1 HR0.out x13_1 p384 q384
         cases e384
         try (replace hx384_0 := (HB.out.cell (World.block_lt_of_cell? w _ hx384_0)).trans hx384_0)
         have HR384_0 := Aside0.mk hi384_0
         have HC384_0 := Aside0.mk hl384_0
         clear hi384_0 hl384_0
         replace p384 := eq_true p384
         replace q384 := eq_true q384
         go_wp2_with (first | ((with_reducible refine gate_callee (f := 109) rfl ?_); refine goesL_ (some 20) rfl rfl Try.func109 (by kernel_rfl) rfl #[.slice A384_0 (rd_L1 l0 x13_1).length c384_0, .int .i64 a1] rfl TA ?_; (with_reducible refine (slices_Contains_int_int.calls k1 _ _ (rd_L1 l0 x13_1) a1 true _ ?side1 ?side2 A9.out).mono ?_); (case side1 => exact CW (Kd.C_below HR384_0.out HB.out)); (case side2 => exact HC384_0.out); rintro e w' ⟨rfl, ⟨nd, rfl⟩⟩; refine ⟨_, rfl, ?_⟩) | (go_at_call 109; (with_reducible refine (slices_Contains_int_int.calls k1 _ _ (rd_L1 l0 x13_1) a2 true _ ?side1 ?side2 A11.out).mono ?_); (case side1 => exact CW (Kd.C_below HR384_0.out BB)); (case side2 => exact HC384_0.out); rintro e w' ⟨rfl, ⟨nd, rfl⟩⟩) | ((with_reducible refine gate_builtin (b := .append) (xs := #[.tmp 26, .tmp 28]) rfl ?_); at_builtin; refine Kd.R_append (Kd.int .i64) (w0 := w) w.heap.size rfl (.tmp 26) (.tmp 28) 22 3 (.int .i64 0) 8 rfl Try.underlying22 info3 rfl (by decide) (by omega) u7 x7_1 x13_1 [.int .i64 x13_1] (fun _ => True) (fun _ => False) rfl rfl ?aP (fun _ hk => hk.elim) ?aF ?aO ?aB ?aS ?aL ?_; (case aP => exact rfl); (case aB => exact BB); (case aF => exact (fun _ _ => trivial)); (case aO => exact (KR HO_7)); (case aS => exact (below_size BB)); (case aL => have := LMc13.out; omega); intro v388 w14 ho hb hg hat; rw [← Ny387.out] at ho; have n0_ := Aside0.mk (hb); have n1_ := Aside0.mk (ho); clear HB; clear HO_7; have HB := n0_; have HO389 := n1_; clear n0_ n1_; clear ho hb hg hat))
         go_roundg k1
         case measure => have := HK1.out; omega
         case rel => exact ⟨(y387), (wrap64 (x13_1 + 1)), RF, H', ⟨by have := HK1.out; omega⟩, ⟨KR HO389⟩, ⟨BB⟩⟩
        ·rw [if_neg c13] at H
         cases H
       ·replace c12 := Bool.eq_false_iff.mpr c12
        subst c12
        replace H := IN H
        have H' := Aside0.mk H
        clear H
        have p384 : 0 ≤ (x13_1 : Int) := of_decide_eq_true AS
        have q384 : x13_1 < (l0.length : Int) := of_decide_eq_true AS
        obtain ⟨ad384, A384_0, c384_0, e384, hx384_0, hl384_0, hi384_0⟩ := at_L1 HR0.out x13_1 p384 q384
        cases e384
        try (replace hx384_0 := (HB.out.cell (World.block_lt_of_cell? w _ hx384_0)).trans hx384_0)
        have HR384_0 := Aside0.mk hi384_0
        have HC384_0 := Aside0.mk hl384_0
        clear hi384_0 hl384_0
        replace p384 := eq_true p384
        replace q384 := eq_true q384
        go_wp2_with (first | ((with_reducible refine gate_callee (f := 109) rfl ?_); refine goesL_ (some 20) rfl rfl Try.func109 (by kernel_rfl) rfl #[.slice A384_0 (rd_L1 l0 x13_1).length c384_0, .int .i64 a1] rfl TA ?_; (with_reducible refine (slices_Contains_int_int.calls k1 _ _ (rd_L1 l0 x13_1) a1 true _ ?side1 ?side2 A9.out).mono ?_); (case side1 => exact CW (Kd.C_below HR384_0.out HB.out)); (case side2 => exact HC384_0.out); rintro e w' ⟨rfl, ⟨nd, rfl⟩⟩; refine ⟨_, rfl, ?_⟩) | (go_at_call 109; (with_reducible refine (slices_Contains_int_int.calls k1 _ _ (rd_L1 l0 x13_1) a2 false _ ?side1 ?side2 A11.out).mono ?_); (case side1 => exact CW (Kd.C_below HR384_0.out BB)); (case side2 => exact HC384_0.out); rintro e w' ⟨rfl, ⟨nd, rfl⟩⟩))
        go_roundg k1
        case measure => have := HK1.out; omega
        case rel => exact ⟨(x7_1), (wrap64 (x13_1 + 1)), RF, H', ⟨by have := HK1.out; omega⟩, ⟨KR HO_7⟩, ⟨BB⟩⟩
      ·replace c10 := Bool.eq_false_iff.mpr c10
       subst c10
       replace H := IN H
       have H' := Aside0.mk H
       clear H
       have p384 : 0 ≤ (x13_1 : Int) := of_decide_eq_true AS
       have q384 : x13_1 < (l0.length : Int) := of_decide_eq_true AS
       obtain ⟨ad384, A384_0, c384_0, e384, hx384_0, hl384_0, hi384_0⟩ := at_L1 HR0.out x13_1 p384 q384
       cases e384
       try (replace hx384_0 := (HB.out.cell (World.block_lt_of_cell? w _ hx384_0)).trans hx384_0)
       have HR384_0 := Aside0.mk hi384_0
       have HC384_0 := Aside0.mk hl384_0
       clear hi384_0 hl384_0
       replace p384 := eq_true p384
       replace q384 := eq_true q384
       go_wp2_with (first | ((with_reducible refine gate_callee (f := 109) rfl ?_); refine goesL_ (some 20) rfl rfl Try.func109 (by kernel_rfl) rfl #[.slice A384_0 (rd_L1 l0 x13_1).length c384_0, .int .i64 a1] rfl TA ?_; (with_reducible refine (slices_Contains_int_int.calls k1 _ _ (rd_L1 l0 x13_1) a1 false _ ?side1 ?side2 A9.out).mono ?_); (case side1 => exact CW (Kd.C_below HR384_0.out HB.out)); (case side2 => exact HC384_0.out); rintro e w' ⟨rfl, ⟨nd, rfl⟩⟩; refine ⟨_, rfl, ?_⟩))
       go_roundg k1
       case measure => have := HK1.out; omega
       case rel => exact ⟨(x7_1), (wrap64 (x13_1 + 1)), RF, H', ⟨by have := HK1.out; omega⟩, ⟨KR HO_7⟩, ⟨BB⟩⟩
     ·rw [if_neg c8] at H
      cases H
    ·rw [if_neg c7] at H
     cases H
   ·rw [if_neg c6] at H
    have c6b0 : decide (x13_1 < (l0.length : Int)) = false := decide_eq_false c6
    clear c6
    obtain rfl := Option.some.inj H
    go_wp2
    go_ret
    exact ⟨_, RE, KR HO_7, BB⟩

/-! ### impl_house_beyond: function 71 -/
def impl_house_beyond.l0 : Nat → Int → List Int → Int → Int → Option (Int)
 | 0, _, _, _, _ => none
 | k + 1, x1, x17, x18, x19 => if x19 < x18 then (if 0 ≤ x19 then (if x19 < (x17.length : Int) then (if (rd x17 x19) = x1 then (impl_house_beyond.l0 k x1 x17 x18 (wrap64 (x19 + 1))) else (some (rd x17 x19))) else (none)) else (none)) else (some (-1))
def impl_house_beyond.f (k : Nat) (a0_0 : Int) (l0_1 : List Int) (l0_2 : List (List Int)) (l0_3 : List Int) (a1 : Int) (l2 : List Int) : Option (Int) := if 0 < (l2.length : Int) then (if 1 < (l2.length : Int) then ((impl_with.f k l0_2 (rd l2 0) (rd l2 1)).bind fun t393 => (impl_house_beyond.l0 k a1 t393 (t393.length : Int) 0)) else (none)) else (none)
theorem impl_house_beyond.mono_l : ∀ k, (∀ y0 y1 y2 y3, LeO (impl_house_beyond.l0 k y0 y1 y2 y3) (impl_house_beyond.l0 (k + 1) y0 y1 y2 y3))
 | 0 => fun _ _ _ _ r h => by simp [impl_house_beyond.l0] at h
 | k + 1 => by
  have ih0 := impl_house_beyond.mono_l k
  ·intro y0 y1 y2 y3
   unfold impl_house_beyond.l0
   repeat' first
   | with_reducible first | exact ih0 _ _ _ _ | exact impl_with.mono _ _ _ _ | exact LeO.refl _ | exact LeO.none _ | refine LeO.ite ?_ ?_ | refine LeO.bind ?_ (fun _ => ?_)
   | exact LeO.none _ | refine LeO.ite ?_ ?_ | refine LeO.bind ?_ (fun _ => ?_)
theorem impl_house_beyond.mono : ∀ a0 a1 a2 a3 a4 a5 k, LeO (impl_house_beyond.f k a0 a1 a2 a3 a4 a5) (impl_house_beyond.f (k + 1) a0 a1 a2 a3 a4 a5) := by
 intro a0 a1 a2 a3 a4 a5 k
 have ih0 := impl_house_beyond.mono_l k
 unfold impl_house_beyond.f
 repeat' first
   | with_reducible first | exact ih0 _ _ _ _ | exact impl_with.mono _ _ _ _ | exact LeO.refl _ | exact LeO.none _ | refine LeO.ite ?_ ?_ | refine LeO.bind ?_ (fun _ => ?_)
   | exact LeO.none _ | refine LeO.ite ?_ ?_ | refine LeO.bind ?_ (fun _ => ?_)
def impl_house_beyond.T1 : Bool × List (List Nat × List Nat) := (true, [([], []), ([0], [0]), ([], []), ([2], [2]), ([3], [3]), ([], []), ([5], [5]), ([6], [6]), ([1, 4, 7], [1, 4, 7]), ([8], [8]), ([], [])])
def impl_house_beyond.B1 : List Nat := [0, 1, 0, 4, 12, 0, 32, 96, 255, 511, 0]
theorem impl_house_beyond.tab1 : rtab .any (opsOf Try.f71 1) = impl_house_beyond.T1 := by kernel_rfl
theorem impl_house_beyond.bits1 : waitsOk impl_house_beyond.T1.2 impl_house_beyond.B1 = true := by kernel_rfl
theorem impl_house_beyond.calls (k : Nat) (a0_0 : Int) (A0_1 : Option Addr) (c0_1 : Nat) (l0_1 : List Int) (A0_2 : Option Addr) (c0_2 : Nat) (l0_2 : List (List Int)) (A0_3 : Option Addr) (c0_3 : Nat) (l0_3 : List Int) (a1 : Int) (A2 : Option Addr) (c2 : Nat) (l2 : List Int) (r : Int) (w : World) (hr0_1 : Kd.C (Kd.int .i64) w A0_1 l0_1.length l0_1) (hc0_1 : l0_1.length ≤ c0_1) (hr0_2 : Kd.C (Kd.slice 3 (Kd.int .i64)) w A0_2 l0_2.length l0_2) (hc0_2 : l0_2.length ≤ c0_2) (hr0_3 : Kd.C (Kd.int .i64) w A0_3 l0_3.length l0_3) (hc0_3 : l0_3.length ≤ c0_3) (hr2 : Kd.C (Kd.int .i64) w A2 l2.length l2) (hc2 : l2.length ≤ c2) (h : impl_house_beyond.f k a0_0 l0_1 l0_2 l0_3 a1 l2 = some r) :
  Calls Try.prog 71 #[.agg #[.int .i64 a0_0, .slice A0_1 l0_1.length c0_1, .slice A0_2 l0_2.length c0_2, .slice A0_3 l0_3.length c0_3], .int .i64 a1, .slice A2 l2.length c2] w fun e w' => e = .returned (.int .i64 r) ∧ Below w.heap.size w w' := by
 have hu46 := Try.underlying46
 have HR0_1 := Aside0.mk hr0_1
 have HC0_1 := Aside0.mk hc0_1
 clear hr0_1 hc0_1
 have HR0_2 := Aside0.mk hr0_2
 have HC0_2 := Aside0.mk hc0_2
 clear hr0_2 hc0_2
 have HR0_3 := Aside0.mk hr0_3
 have HC0_3 := Aside0.mk hc0_3
 clear hr0_3 hc0_3
 have HR2 := Aside0.mk hr2
 have HC2 := Aside0.mk hc2
 clear hr2 hc2
 have HB := Aside0.mk (Below.refl w.heap.size w)
 have H : (if 0 < (l2.length : Int) then (if 1 < (l2.length : Int) then ((impl_with.f k l0_2 (rd l2 0) (rd l2 1)).bind fun t393 => (impl_house_beyond.l0 k a1 t393 (t393.length : Int) 0)) else (none)) else (none)) = some r := h
 clear h
 by_cases c4 : 0 < (l2.length : Int)
 ·rw [if_pos c4] at H
  have c4b0 : decide (0 < (l2.length : Int)) = true := decide_eq_true c4
  have c4b1 : decide (0 < l2.length) = true := decide_eq_true (by omega)
  clear c4
  by_cases c5 : 1 < (l2.length : Int)
  ·rw [if_pos c5] at H
   have c5b0 : decide (1 < (l2.length : Int)) = true := decide_eq_true c5
   have c5b1 : decide (1 < l2.length) = true := decide_eq_true (by omega)
   clear c5
   obtain ⟨t393, A60, H⟩ := Option.bind_eq_some_iff.mp H
   have A6 := Aside0.mk A60
   clear A60
   have H' := Aside0.mk H
   clear H
   go_enter Try.func71, Try.ntmps71
   try go_wp2_with (first | ((with_reducible refine gate_dst (N := 3) rfl ?_); refine box_event ?hg (N := 3) ?hd (cs := #[.int .i64 a0_0, .slice A0_1 l0_1.length c0_1, .slice A0_2 l0_2.length c0_2, .slice A0_3 l0_3.length c0_3]) (t := 46) ?hr ?_; (case hd => rfl); (case hg => rfl); (case hr => exact GS); intro gb390 hg w7 hbox hb; have n0_ := Aside0.mk (below_step BB hb); have n1_ := Aside0.mk (hbox); have n2_ := Aside0.mk ((by rw [hg]; exact (below_size BB) : w.heap.size ≤ gb390)); have n3_ := Aside0.mk ((by rw [hg]; exact (below_size BB) : w.heap.size ≤ gb390)); clear HB; have HB := n0_; have BK390 := n1_; have GW390 := n2_; have GE390 := n3_; clear n0_ n1_ n2_ n3_; clear hb hbox hg))
   have n0_ := Aside0.mk (blk_drew BK390.out)
   have n1_ := Aside0.mk (below_drew1 HB.out)
   clear BK390
   clear HB
   have BK390 := n0_
   have HB := n1_
   clear n0_ n1_
   have p391 : 0 ≤ (0 : Int) := (by omega)
   have q391 : 0 < (l2.length : Int) := of_decide_eq_true AS
   obtain ⟨ad391, e391, hx391_0⟩ := Kd.at_int HR2.out 0 p391 q391
   have hw391_0 := hx391_0
   (try rw [show ((0 : Int)).toNat = 0 from rfl] at hw391_0)
   (try rw [show 0 * 1 = 0 from rfl] at hw391_0)
   (try rw [Addr.add_zero'] at hw391_0)
   cases e391
   have qi391 : (0 < l2.length) = True := eq_true (by omega)
   (try rw [show ((0 : Int)).toNat = 0 from rfl] at hx391_0)
   (try rw [Addr.add_zero'] at hx391_0)
   try (replace hx391_0 := (HB.out.cell (World.block_lt_of_cell? w _ hx391_0)).trans hx391_0)
   replace p391 := eq_true p391
   replace q391 := eq_true q391
   have p392 : 0 ≤ (1 : Int) := (by omega)
   have q392 : 1 < (l2.length : Int) := of_decide_eq_true AS
   obtain ⟨ad392, e392, hx392_0⟩ := Kd.at_int HR2.out 1 p392 q392
   have hw392_0 := hx392_0
   (try rw [show ((1 : Int)).toNat = 1 from rfl] at hw392_0)
   (try rw [show 1 * 1 = 1 from rfl] at hw392_0)
   (try simp only [Nat.reduceMul, Nat.reduceEqDiff, Go.Addr.add, ↓reduceIte] at hw392_0)
   obtain rfl : ad391 = ad392 := (by injection e392)
   (try simp only [show (1 : Int).toNat = 1 from rfl, Nat.reduceMul, Nat.reduceEqDiff, Go.Addr.add, ↓reduceIte] at hx392_0)
   have qi392 : (1 < l2.length) = True := eq_true (by omega)
   (try rw [show ((1 : Int)).toNat = 1 from rfl] at hx392_0)
   try (replace hx392_0 := (HB.out.cell (World.block_lt_of_cell? w _ hx392_0)).trans hx392_0)
   replace p392 := eq_true p392
   replace q392 := eq_true q392
   refine start_ (n := 11) (S := fun w' => w'.cell? ⟨gb390, 0, none⟩ = some (.int .i64 a0_0) ∧ w'.cell? ⟨gb390, 1, none⟩ = some (.slice A0_1 l0_1.length c0_1) ∧ w'.cell? ⟨gb390, 2, none⟩ = some (.slice A0_2 l0_2.length c0_2) ∧ w'.cell? ⟨gb390, 3, none⟩ = some (.slice A0_3 l0_3.length c0_3) ∧ w'.cell? ad391 = some (.int .i64 (rd l2 0)) ∧ w'.cell? ⟨ad391.block, ad391.off + 1, none⟩ = some (.int .i64 (rd l2 1))) (ds := []) #[false, false, false, false, false, false, false, false, false, false, false] (by kernel_rfl) rfl rfl ⟨(blk_cell BK390.out 0).trans rfl, (blk_cell BK390.out 1).trans rfl, (blk_cell BK390.out 2).trans rfl, (blk_cell BK390.out 3).trans rfl, ((HB.out.cell (World.block_lt_of_cell? w _ hw391_0)).trans hw391_0), ((HB.out.cell (World.block_lt_of_cell? w _ hw392_0)).trans hw392_0)⟩ (fun hHeld => ?_); refine with_tabW impl_house_beyond.tab1 impl_house_beyond.bits1 (fun HT_ HW_ => ?_)
   generalize w7.drew = w8 at BK390 HB hx391_0 hx392_0 hHeld ⊢
   refine pure_ (i := 0) (N := some 9) #[true, false, false, false, false, false, false, false, false, false, false] rfl rfl (any_of HT_.out (by kernel_rfl)) (fun _ _ _ h => h) (Or.inl ⟨by rfl, PW⟩) PU ?_
   refine pure_ (i := 2) (N := some 11) #[true, false, true, false, false, false, false, false, false, false, false] rfl rfl (any_of HT_.out (by kernel_rfl)) (fun _ _ _ h => h) (Or.inl ⟨by rfl, PW⟩) PU ?_
   refine pure_ (i := 3) (N := some 12) #[true, false, true, true, false, false, false, false, false, false, false] rfl rfl (any_of HT_.out (by kernel_rfl)) (fun _ _ _ h => h) (Or.inl ⟨by rfl, PW⟩) PU ?_
   refine pure_ (i := 5) (N := some 14) #[true, false, true, true, false, true, false, false, false, false, false] rfl rfl (any_of HT_.out (by kernel_rfl)) (fun _ _ _ h => h) (Or.inl ⟨by rfl, PW⟩) PU ?_
   refine pure_ (i := 6) (N := some 15) #[true, false, true, true, false, true, true, false, false, false, false] rfl rfl (any_of HT_.out (by kernel_rfl)) (fun _ _ _ h => h) (Or.inl ⟨by rfl, PW⟩) PU ?_
   refine pure_ (i := 10) (N := some 19) #[true, false, true, true, false, true, true, false, false, false, true] rfl rfl (any_of HT_.out (by kernel_rfl)) (fun _ _ _ h => h) (Or.inl ⟨by rfl, PW⟩) PU ?_
   refine take_ (i := 1) (N := some 10) #[true, true, true, true, false, true, true, false, false, false, true] rfl rfl (take_ofW HT_.out HW_.out (by kernel_rfl)) (fun _ _ _ h => h) (Or.inl ⟨by rfl, PT⟩) hHeld PU ?_
   refine take_ (i := 4) (N := some 13) #[true, true, true, true, true, true, true, false, false, false, true] rfl rfl (take_ofW HT_.out HW_.out (by kernel_rfl)) (fun _ _ _ h => h) (Or.inl ⟨by rfl, PT⟩) hHeld PU ?_
   refine take_ (i := 7) (N := some 16) #[true, true, true, true, true, true, true, true, false, false, true] rfl rfl (take_ofW HT_.out HW_.out (by kernel_rfl)) (fun _ _ _ h => h) (Or.inl ⟨by rfl, PT⟩) hHeld PU ?_
   refine one_ (i := 8) (N := some 17) #[true, true, true, true, true, true, true, true, true, false, true] rfl rfl (one_of HT_.out (by kernel_rfl)) (by decide) (fun K hK => ?_)
   refine goes_ Try.func101 (by kernel_rfl) rfl #[.slice A0_2 l0_2.length c0_2, .int .i64 (rd l2 0), .int .i64 (rd l2 1)] (by rfl) rfl rfl TA ?_
   with_reducible refine (impl_with.calls k _ _ l0_2 (rd l2 0) (rd l2 1) t393 _ ?side1 ?side2 A6.out).mono ?_
   (case side1 => exact CW (Kd.C_below HR0_2.out HB.out))
   (case side2 => exact HC0_2.out)
   rintro e w9 ⟨v394, rfl, ho0, hb⟩
   refine ⟨_, rfl, ?_⟩
   have n0_ := Aside0.mk (Kd.R_lower ho0 (below_size (by repeat (first | (with_reducible first | exact HB.out | apply below_alloc | apply pw_below_drewN | apply below_drew1 | refine below_set ?_ GE390.out) | exact HB.out))))
   have n1_ := Aside0.mk (blk_below (g := gb390) (o := .cells #[.int .i64 a0_0, .slice A0_1 l0_1.length c0_1, .slice A0_2 l0_2.length c0_2, .slice A0_3 l0_3.length c0_3] 46 (0, 0)) (BW BK390) hb)
   have n2_ := Aside0.mk (below_step (by repeat (first | (with_reducible first | exact HB.out | apply below_alloc | apply pw_below_drewN | apply below_drew1 | refine below_set ?_ GE390.out) | exact HB.out)) hb)
   clear BK390
   clear HB
   have HO395 := n0_
   have BK390 := n1_
   have HB := n2_
   clear n0_ n1_ n2_
   (try clear hb)
   (try clear hb2)
   (try clear hk)
   (try clear hi)
   (try clear ho0)
   obtain ⟨Ao10, co10, eo10⟩ := Kd.R_slice HO395.out
   (first | subst eo10 | (injection eo10 with f1_ f2_ f3_; have f4_ := f1_.symm; have f5_ := f3_.symm; clear f1_ f2_ f3_; subst f4_; subst f5_))
   refine hK.out _ _ ⟨(blk_cell BK390.out 0).trans rfl, (blk_cell BK390.out 1).trans rfl, (blk_cell BK390.out 2).trans rfl, (blk_cell BK390.out 3).trans rfl, ((HB.out.cell (World.block_lt_of_cell? w _ hw391_0)).trans hw391_0), ((HB.out.cell (World.block_lt_of_cell? w _ hw392_0)).trans hw392_0)⟩ (fun hHeld => ?_)
   clear hK K
   refine norm_ (a' := ?_) ?_ ?_
   rotate_left
   ·show Act.put _ (some 17) _ = _
    simp only [Act.put, List.setIfInBounds_toArray, List.set_cons_zero, List.set_cons_succ, i64_w, i32_w]
    rfl
   refine pure_ (i := 9) (N := some 18) #[true, true, true, true, true, true, true, true, true, true, true] rfl rfl (any_of HT_.out (by kernel_rfl)) (fun _ _ _ h => h) (Or.inl ⟨by rfl, PW⟩) PU ?_
   refine done_ (done_of HT_.out (by kernel_rfl)) ?_
   try go_wp2
   go_loopg [19] k (fun kq v19 w' => ∃ (x19_1 : Int), v19 = .int .i64 x19_1 ∧ Aside0 (impl_house_beyond.l0 kq a1 t393 (t393.length : Int) x19_1 = some r) ∧ Aside0 (kq ≤ k) ∧ Aside0 (Kd.R (Kd.int .i64) 3 w' w.heap.size (fun _ => True) (.slice Ao10 t393.length co10) t393) ∧ Aside0 (w'.heap[gb390]? = some (.cells #[.int .i64 a0_0, (.slice A0_1 l0_1.length c0_1), (.slice A0_2 l0_2.length c0_2), (.slice A0_3 l0_3.length c0_3)] 46 (0, 0))) ∧ Aside0 (Below w.heap.size w w'))
   case atStart => exact ⟨(0), RF, H', ⟨Nat.le_refl _⟩, ⟨KR HO395⟩, ⟨by (with_reducible repeat (first | refine blk_drewN ?_ _ | refine blk_drew ?_ | refine blk_alloc ?_ _)); exact BK390.out⟩, ⟨by repeat (first | (with_reducible first | exact HB.out | apply below_alloc | apply pw_below_drewN | apply below_drew1 | refine below_set ?_ GE390.out) | exact HB.out)⟩⟩
   case round =>
    clear H'
    try clear c1
    try clear c2
    try clear p2
    try clear p3
    try clear q3
    try clear hx3
    try clear qi3
    try clear c4
    try clear c4b0
    try clear c4b1
    try clear c5
    try clear c5b0
    try clear c5b1
    try clear p6
    try clear c7
    try clear c10
    try clear hx391_0
    try clear hx392_0
    try clear p391
    try clear p392
    try clear q391
    try clear q392
    obtain ⟨x19_1, rfl, HA, HK1, HO_17, BK390, HB⟩ := hrel
    cases gk with
    | zero => exact absurd HA.out (by simp [impl_house_beyond.l0])
    | succ k1 =>
     have H := HA.out
     clear HA
     simp only [impl_house_beyond.l0] at H
     by_cases c11 : x19_1 < (t393.length : Int)
     ·rw [if_pos c11] at H
      have c11b0 : decide (x19_1 < (t393.length : Int)) = true := decide_eq_true c11
      clear c11
      by_cases c12 : 0 ≤ x19_1
      ·rw [if_pos c12] at H
       have c12b0 : decide (0 ≤ x19_1) = true := decide_eq_true c12
       clear c12
       by_cases c13 : x19_1 < (t393.length : Int)
       ·rw [if_pos c13] at H
        have c13b0 : decide (x19_1 < (t393.length : Int)) = true := decide_eq_true c13
        clear c13
        by_cases c14 : (rd t393 x19_1) = a1
        ·rw [if_pos c14] at H
         have c14b0 : ((rd t393 x19_1) == a1) = true := beq_iff_eq.mpr c14
         have c14b1 : ((rd t393 x19_1) != a1) = false := bne_eq_false_iff_eq.mpr c14
         clear c14
         have H' := Aside0.mk H
         clear H
         have p396 : 0 ≤ (x19_1 : Int) := of_decide_eq_true AS
         have q396 : x19_1 < (t393.length : Int) := of_decide_eq_true AS
         obtain ⟨ad396, e396, hx396_0⟩ := Kd.at_int (Kd.R_reads' HO_17.out).2.2 x19_1 p396 q396
         cases e396
         replace p396 := eq_true p396
         replace q396 := eq_true q396
         go_wp2
         go_roundg k1
         case measure => have := HK1.out; omega
         case rel => exact ⟨(wrap64 (x19_1 + 1)), RF, H', ⟨by have := HK1.out; omega⟩, ⟨KR HO_17⟩, ⟨by (with_reducible repeat (first | refine blk_drewN ?_ _ | refine blk_drew ?_ | refine blk_alloc ?_ _)); exact BK390.out⟩, ⟨by repeat (first | (with_reducible first | exact HB.out | apply below_alloc | apply pw_below_drewN | apply below_drew1 | refine below_set ?_ GE390.out) | exact HB.out)⟩⟩
        ·rw [if_neg c14] at H
         have c14b0 : ((rd t393 x19_1) == a1) = false := beq_eq_false_iff_ne.mpr c14
         have c14b1 : ((rd t393 x19_1) != a1) = true := bne_iff_ne.mpr c14
         obtain rfl := Option.some.inj H
         have p396 : 0 ≤ (x19_1 : Int) := of_decide_eq_true AS
         have q396 : x19_1 < (t393.length : Int) := of_decide_eq_true AS
         obtain ⟨ad396, e396, hx396_0⟩ := Kd.at_int (Kd.R_reads' HO_17.out).2.2 x19_1 p396 q396
         cases e396
         replace p396 := eq_true p396
         replace q396 := eq_true q396
         go_wp2
         go_ret
         exact ⟨RE, by repeat (first | (with_reducible first | exact HB.out | apply below_alloc | apply pw_below_drewN | apply below_drew1 | refine below_set ?_ GE390.out) | exact HB.out)⟩
       ·rw [if_neg c13] at H
        cases H
      ·rw [if_neg c12] at H
       cases H
     ·rw [if_neg c11] at H
      have c11b0 : decide (x19_1 < (t393.length : Int)) = false := decide_eq_false c11
      clear c11
      obtain rfl := Option.some.inj H
      go_wp2
      go_ret
      exact ⟨RE, by repeat (first | (with_reducible first | exact HB.out | apply below_alloc | apply pw_below_drewN | apply below_drew1 | refine below_set ?_ GE390.out) | exact HB.out)⟩
  ·rw [if_neg c5] at H
   cases H
 ·rw [if_neg c4] at H
  cases H

/-! ### impl_house_isFull: function 72 -/
def impl_house_isFull.f (a0_0 : Int) (l0_1 : List Int) (l0_2 : List (List Int)) (l0_3 : List Int) (a1 : Int) : Option (Bool) := if 0 ≤ a1 then (if a1 < (l0_2.length : Int) then (if 0 < ((rd_L1 l0_2 a1).length : Int) then (if 0 ≤ (rd (rd_L1 l0_2 a1) 0) then (if (rd (rd_L1 l0_2 a1) 0) < (l0_1.length : Int) then (if 0 ≤ (rd l0_1 (rd (rd_L1 l0_2 a1) 0)) then (if 1 < ((rd_L1 l0_2 a1).length : Int) then (if 0 ≤ (rd (rd_L1 l0_2 a1) 1) then (if (rd (rd_L1 l0_2 a1) 1) < (l0_1.length : Int) then (if 0 ≤ (rd l0_1 (rd (rd_L1 l0_2 a1) 1)) then (if 2 < ((rd_L1 l0_2 a1).length : Int) then (if 0 ≤ (rd (rd_L1 l0_2 a1) 2) then (if (rd (rd_L1 l0_2 a1) 2) < (l0_1.length : Int) then (if 0 ≤ (rd l0_1 (rd (rd_L1 l0_2 a1) 2)) then (some ((Go.bits .or .i64 (Go.bits .or .i64 (shl .i64 1 (rd l0_1 (rd (rd_L1 l0_2 a1) 0))) (shl .i64 1 (rd l0_1 (rd (rd_L1 l0_2 a1) 1)))) (shl .i64 1 (rd l0_1 (rd (rd_L1 l0_2 a1) 2)))) == 7)) else (none)) else (none)) else (none)) else (none)) else (none)) else (none)) else (none)) else (none)) else (none)) else (none)) else (none)) else (none)) else (none)) else (none)
theorem impl_house_isFull.calls (a0_0 : Int) (A0_1 : Option Addr) (c0_1 : Nat) (l0_1 : List Int) (A0_2 : Option Addr) (c0_2 : Nat) (l0_2 : List (List Int)) (A0_3 : Option Addr) (c0_3 : Nat) (l0_3 : List Int) (a1 : Int) (r : Bool) (w : World) (hr0_1 : Kd.C (Kd.int .i64) w A0_1 l0_1.length l0_1) (hc0_1 : l0_1.length ≤ c0_1) (hr0_2 : Kd.C (Kd.slice 3 (Kd.int .i64)) w A0_2 l0_2.length l0_2) (hc0_2 : l0_2.length ≤ c0_2) (hr0_3 : Kd.C (Kd.int .i64) w A0_3 l0_3.length l0_3) (hc0_3 : l0_3.length ≤ c0_3) (h : impl_house_isFull.f a0_0 l0_1 l0_2 l0_3 a1 = some r) :
  Calls Try.prog 72 #[.agg #[.int .i64 a0_0, .slice A0_1 l0_1.length c0_1, .slice A0_2 l0_2.length c0_2, .slice A0_3 l0_3.length c0_3], .int .i64 a1] w fun e w' => e = .returned (.bool r) ∧ Below w.heap.size w w' := by
 have hu46 := Try.underlying46
 have HR0_1 := Aside0.mk hr0_1
 have HC0_1 := Aside0.mk hc0_1
 clear hr0_1 hc0_1
 have HR0_2 := Aside0.mk hr0_2
 have HC0_2 := Aside0.mk hc0_2
 clear hr0_2 hc0_2
 have HR0_3 := Aside0.mk hr0_3
 have HC0_3 := Aside0.mk hc0_3
 clear hr0_3 hc0_3
 have HB := Aside0.mk (Below.refl w.heap.size w)
 have H : (if 0 ≤ a1 then (if a1 < (l0_2.length : Int) then (if 0 < ((rd_L1 l0_2 a1).length : Int) then (if 0 ≤ (rd (rd_L1 l0_2 a1) 0) then (if (rd (rd_L1 l0_2 a1) 0) < (l0_1.length : Int) then (if 0 ≤ (rd l0_1 (rd (rd_L1 l0_2 a1) 0)) then (if 1 < ((rd_L1 l0_2 a1).length : Int) then (if 0 ≤ (rd (rd_L1 l0_2 a1) 1) then (if (rd (rd_L1 l0_2 a1) 1) < (l0_1.length : Int) then (if 0 ≤ (rd l0_1 (rd (rd_L1 l0_2 a1) 1)) then (if 2 < ((rd_L1 l0_2 a1).length : Int) then (if 0 ≤ (rd (rd_L1 l0_2 a1) 2) then (if (rd (rd_L1 l0_2 a1) 2) < (l0_1.length : Int) then (if 0 ≤ (rd l0_1 (rd (rd_L1 l0_2 a1) 2)) then (some ((Go.bits .or .i64 (Go.bits .or .i64 (shl .i64 1 (rd l0_1 (rd (rd_L1 l0_2 a1) 0))) (shl .i64 1 (rd l0_1 (rd (rd_L1 l0_2 a1) 1)))) (shl .i64 1 (rd l0_1 (rd (rd_L1 l0_2 a1) 2)))) == 7)) else (none)) else (none)) else (none)) else (none)) else (none)) else (none)) else (none)) else (none)) else (none)) else (none)) else (none)) else (none)) else (none)) else (none)) = some r := h
 clear h
 by_cases c3 : 0 ≤ a1
 ·rw [if_pos c3] at H
  have c3b0 : decide (0 ≤ a1) = true := decide_eq_true c3
  clear c3
  by_cases c4 : a1 < (l0_2.length : Int)
  ·rw [if_pos c4] at H
   have c4b0 : decide (a1 < (l0_2.length : Int)) = true := decide_eq_true c4
   clear c4
   by_cases c5 : 0 < ((rd_L1 l0_2 a1).length : Int)
   ·rw [if_pos c5] at H
    have c5b0 : decide (0 < ((rd_L1 l0_2 a1).length : Int)) = true := decide_eq_true c5
    have c5b1 : decide (0 < (rd_L1 l0_2 a1).length) = true := decide_eq_true (by omega)
    clear c5
    by_cases c6 : 0 ≤ (rd (rd_L1 l0_2 a1) 0)
    ·rw [if_pos c6] at H
     have c6b0 : decide (0 ≤ (rd (rd_L1 l0_2 a1) 0)) = true := decide_eq_true c6
     clear c6
     by_cases c7 : (rd (rd_L1 l0_2 a1) 0) < (l0_1.length : Int)
     ·rw [if_pos c7] at H
      have c7b0 : decide ((rd (rd_L1 l0_2 a1) 0) < (l0_1.length : Int)) = true := decide_eq_true c7
      clear c7
      by_cases c8 : 0 ≤ (rd l0_1 (rd (rd_L1 l0_2 a1) 0))
      ·rw [if_pos c8] at H
       have c8b0 := eq_true c8
       have c8b1 : decide (0 ≤ (rd l0_1 (rd (rd_L1 l0_2 a1) 0))) = true := decide_eq_true c8
       clear c8
       obtain ⟨ji9, hji9⟩ : ∃ j_ : Int, (shl .i64 1 (rd l0_1 (rd (rd_L1 l0_2 a1) 0))) = j_ := ⟨_, rfl⟩
       replace H : (if 1 < ((rd_L1 l0_2 a1).length : Int) then (if 0 ≤ (rd (rd_L1 l0_2 a1) 1) then (if (rd (rd_L1 l0_2 a1) 1) < (l0_1.length : Int) then (if 0 ≤ (rd l0_1 (rd (rd_L1 l0_2 a1) 1)) then (if 2 < ((rd_L1 l0_2 a1).length : Int) then (if 0 ≤ (rd (rd_L1 l0_2 a1) 2) then (if (rd (rd_L1 l0_2 a1) 2) < (l0_1.length : Int) then (if 0 ≤ (rd l0_1 (rd (rd_L1 l0_2 a1) 2)) then (some ((Go.bits .or .i64 (Go.bits .or .i64 (ji9) (shl .i64 1 (rd l0_1 (rd (rd_L1 l0_2 a1) 1)))) (shl .i64 1 (rd l0_1 (rd (rd_L1 l0_2 a1) 2)))) == 7)) else (none)) else (none)) else (none)) else (none)) else (none)) else (none)) else (none)) else (none)) = some r := by first | (rw [hji9] at H; exact H) | (simp only [hji9] at H ⊢; exact H)
       have hji9_ : (IntKind.i64.wrap (1 * 2 ^ min (rd l0_1 (rd (rd_L1 l0_2 a1) 0)).toNat 64)) = ji9 := hji9
       have hji9z : (rd l0_1 (rd (rd_L1 l0_2 a1) 0)) ≤ 64 → (IntKind.i64.wrap (1 * 2 ^ (rd l0_1 (rd (rd_L1 l0_2 a1) 0)).toNat)) = ji9 := shl_small hji9
       have hji9u : (IntKind.i64.wrap (2 ^ min (rd l0_1 (rd (rd_L1 l0_2 a1) 0)).toNat 64)) = ji9 := by have h_ := hji9_; rw [Int.one_mul] at h_; exact h_
       have hji9v : (rd l0_1 (rd (rd_L1 l0_2 a1) 0)) ≤ 64 → (IntKind.i64.wrap (2 ^ (rd l0_1 (rd (rd_L1 l0_2 a1) 0)).toNat)) = ji9 := fun hle_ => by have h_ := hji9z hle_; rw [Int.one_mul] at h_; exact h_
       have hji9y : (wrap64 (1 * 2 ^ min (rd l0_1 (rd (rd_L1 l0_2 a1) 0)).toNat 64)) = ji9 := (i64_w _).symm.trans hji9_
       have hji9x : (rd l0_1 (rd (rd_L1 l0_2 a1) 0)) ≤ 64 → (wrap64 (1 * 2 ^ (rd l0_1 (rd (rd_L1 l0_2 a1) 0)).toNat)) = ji9 := fun h_ => (i64_w _).symm.trans (hji9z h_)
       by_cases c10 : 1 < ((rd_L1 l0_2 a1).length : Int)
       ·rw [if_pos c10] at H
        have c10b0 : decide (1 < ((rd_L1 l0_2 a1).length : Int)) = true := decide_eq_true c10
        have c10b1 : decide (1 < (rd_L1 l0_2 a1).length) = true := decide_eq_true (by omega)
        clear c10
        by_cases c11 : 0 ≤ (rd (rd_L1 l0_2 a1) 1)
        ·rw [if_pos c11] at H
         have c11b0 : decide (0 ≤ (rd (rd_L1 l0_2 a1) 1)) = true := decide_eq_true c11
         clear c11
         by_cases c12 : (rd (rd_L1 l0_2 a1) 1) < (l0_1.length : Int)
         ·rw [if_pos c12] at H
          have c12b0 : decide ((rd (rd_L1 l0_2 a1) 1) < (l0_1.length : Int)) = true := decide_eq_true c12
          clear c12
          by_cases c13 : 0 ≤ (rd l0_1 (rd (rd_L1 l0_2 a1) 1))
          ·rw [if_pos c13] at H
           have c13b0 := eq_true c13
           have c13b1 : decide (0 ≤ (rd l0_1 (rd (rd_L1 l0_2 a1) 1))) = true := decide_eq_true c13
           clear c13
           obtain ⟨ji14, hji14⟩ : ∃ j_ : Int, (shl .i64 1 (rd l0_1 (rd (rd_L1 l0_2 a1) 1))) = j_ := ⟨_, rfl⟩
           replace H : (if 2 < ((rd_L1 l0_2 a1).length : Int) then (if 0 ≤ (rd (rd_L1 l0_2 a1) 2) then (if (rd (rd_L1 l0_2 a1) 2) < (l0_1.length : Int) then (if 0 ≤ (rd l0_1 (rd (rd_L1 l0_2 a1) 2)) then (some ((Go.bits .or .i64 (Go.bits .or .i64 (ji9) (ji14)) (shl .i64 1 (rd l0_1 (rd (rd_L1 l0_2 a1) 2)))) == 7)) else (none)) else (none)) else (none)) else (none)) = some r := by first | (rw [hji14] at H; exact H) | (simp only [hji14] at H ⊢; exact H)
           have hji14_ : (IntKind.i64.wrap (1 * 2 ^ min (rd l0_1 (rd (rd_L1 l0_2 a1) 1)).toNat 64)) = ji14 := hji14
           have hji14z : (rd l0_1 (rd (rd_L1 l0_2 a1) 1)) ≤ 64 → (IntKind.i64.wrap (1 * 2 ^ (rd l0_1 (rd (rd_L1 l0_2 a1) 1)).toNat)) = ji14 := shl_small hji14
           have hji14u : (IntKind.i64.wrap (2 ^ min (rd l0_1 (rd (rd_L1 l0_2 a1) 1)).toNat 64)) = ji14 := by have h_ := hji14_; rw [Int.one_mul] at h_; exact h_
           have hji14v : (rd l0_1 (rd (rd_L1 l0_2 a1) 1)) ≤ 64 → (IntKind.i64.wrap (2 ^ (rd l0_1 (rd (rd_L1 l0_2 a1) 1)).toNat)) = ji14 := fun hle_ => by have h_ := hji14z hle_; rw [Int.one_mul] at h_; exact h_
           have hji14y : (wrap64 (1 * 2 ^ min (rd l0_1 (rd (rd_L1 l0_2 a1) 1)).toNat 64)) = ji14 := (i64_w _).symm.trans hji14_
           have hji14x : (rd l0_1 (rd (rd_L1 l0_2 a1) 1)) ≤ 64 → (wrap64 (1 * 2 ^ (rd l0_1 (rd (rd_L1 l0_2 a1) 1)).toNat)) = ji14 := fun h_ => (i64_w _).symm.trans (hji14z h_)
           by_cases c15 : 2 < ((rd_L1 l0_2 a1).length : Int)
           ·rw [if_pos c15] at H
            have c15b0 : decide (2 < ((rd_L1 l0_2 a1).length : Int)) = true := decide_eq_true c15
            have c15b1 : decide (2 < (rd_L1 l0_2 a1).length) = true := decide_eq_true (by omega)
            clear c15
            by_cases c16 : 0 ≤ (rd (rd_L1 l0_2 a1) 2)
            ·rw [if_pos c16] at H
             have c16b0 : decide (0 ≤ (rd (rd_L1 l0_2 a1) 2)) = true := decide_eq_true c16
             clear c16
             by_cases c17 : (rd (rd_L1 l0_2 a1) 2) < (l0_1.length : Int)
             ·rw [if_pos c17] at H
              have c17b0 : decide ((rd (rd_L1 l0_2 a1) 2) < (l0_1.length : Int)) = true := decide_eq_true c17
              clear c17
              by_cases c18 : 0 ≤ (rd l0_1 (rd (rd_L1 l0_2 a1) 2))
              ·rw [if_pos c18] at H
               have c18b0 := eq_true c18
               have c18b1 : decide (0 ≤ (rd l0_1 (rd (rd_L1 l0_2 a1) 2))) = true := decide_eq_true c18
               clear c18
               obtain ⟨ji19, hji19⟩ : ∃ j_ : Int, (shl .i64 1 (rd l0_1 (rd (rd_L1 l0_2 a1) 2))) = j_ := ⟨_, rfl⟩
               replace H : (some ((Go.bits .or .i64 (Go.bits .or .i64 (ji9) (ji14)) (ji19)) == 7)) = some r := by first | (rw [hji19] at H; exact H) | (simp only [hji19] at H ⊢; exact H)
               have hji19_ : (IntKind.i64.wrap (1 * 2 ^ min (rd l0_1 (rd (rd_L1 l0_2 a1) 2)).toNat 64)) = ji19 := hji19
               have hji19z : (rd l0_1 (rd (rd_L1 l0_2 a1) 2)) ≤ 64 → (IntKind.i64.wrap (1 * 2 ^ (rd l0_1 (rd (rd_L1 l0_2 a1) 2)).toNat)) = ji19 := shl_small hji19
               have hji19u : (IntKind.i64.wrap (2 ^ min (rd l0_1 (rd (rd_L1 l0_2 a1) 2)).toNat 64)) = ji19 := by have h_ := hji19_; rw [Int.one_mul] at h_; exact h_
               have hji19v : (rd l0_1 (rd (rd_L1 l0_2 a1) 2)) ≤ 64 → (IntKind.i64.wrap (2 ^ (rd l0_1 (rd (rd_L1 l0_2 a1) 2)).toNat)) = ji19 := fun hle_ => by have h_ := hji19z hle_; rw [Int.one_mul] at h_; exact h_
               have hji19y : (wrap64 (1 * 2 ^ min (rd l0_1 (rd (rd_L1 l0_2 a1) 2)).toNat 64)) = ji19 := (i64_w _).symm.trans hji19_
               have hji19x : (rd l0_1 (rd (rd_L1 l0_2 a1) 2)) ≤ 64 → (wrap64 (1 * 2 ^ (rd l0_1 (rd (rd_L1 l0_2 a1) 2)).toNat)) = ji19 := fun h_ => (i64_w _).symm.trans (hji19z h_)
               obtain rfl := Option.some.inj H
               go_enter Try.func72, Try.ntmps72
               go_wp2_with (first | ((with_reducible refine gate_dst (N := 2) rfl ?_); refine box_event ?hg (N := 2) ?hd (cs := #[.int .i64 a0_0, .slice A0_1 l0_1.length c0_1, .slice A0_2 l0_2.length c0_2, .slice A0_3 l0_3.length c0_3]) (t := 46) ?hr ?_; (case hd => rfl); (case hg => rfl); (case hr => exact GS); intro gb397 hg w20 hbox hb; have n0_ := Aside0.mk (below_step BB hb); have n1_ := Aside0.mk (hbox); have n2_ := Aside0.mk ((by rw [hg]; exact (below_size BB) : w.heap.size ≤ gb397)); have n3_ := Aside0.mk ((by rw [hg]; exact (below_size BB) : w.heap.size ≤ gb397)); clear HB; have HB := n0_; have BK397 := n1_; have GW397 := n2_; have GE397 := n3_; clear n0_ n1_ n2_ n3_; clear hb hbox hg; have hcz21_0 : w20.cell? ⟨gb397, 0, none⟩ = some (.int .i64 a0_0) := (blk_cell BK397.out 0).trans rfl; have hcz21_1 : w20.cell? ⟨gb397, 1, none⟩ = some (.slice A0_1 l0_1.length c0_1) := (blk_cell BK397.out 1).trans rfl; have hcz21_2 : w20.cell? ⟨gb397, 2, none⟩ = some (.slice A0_2 l0_2.length c0_2) := (blk_cell BK397.out 2).trans rfl; have hcz21_3 : w20.cell? ⟨gb397, 3, none⟩ = some (.slice A0_3 l0_3.length c0_3) := (blk_cell BK397.out 3).trans rfl; have hfz21_0 := blk_frozen BK397.out 0; have hfz21_1 := blk_frozen BK397.out 1; have hfz21_2 := blk_frozen BK397.out 2; have hfz21_3 := blk_frozen BK397.out 3; have p398 : 0 ≤ (a1 : Int) := of_decide_eq_true AS; have q398 : a1 < (l0_2.length : Int) := of_decide_eq_true AS; obtain ⟨ad398, A398_0, c398_0, e398, hx398_0, hl398_0, hi398_0⟩ := at_L1 HR0_2.out a1 p398 q398; cases e398; replace hx398_0 := (HB.out.cell (World.block_lt_of_cell? w _ hx398_0)).trans hx398_0; have HR398_0 := Aside0.mk hi398_0; have HC398_0 := Aside0.mk hl398_0; clear hi398_0 hl398_0; replace p398 := eq_true p398; replace q398 := eq_true q398; have p399 : 0 ≤ (0 : Int) := (by omega); have q399 : 0 < ((rd_L1 l0_2 a1).length : Int) := of_decide_eq_true AS; obtain ⟨ad399, e399, hx399_0⟩ := Kd.at_int HR398_0.out 0 p399 q399; cases e399; have qi399 : (0 < (rd_L1 l0_2 a1).length) = True := eq_true (by omega); (try rw [show ((0 : Int)).toNat = 0 from rfl] at hx399_0); (try rw [Addr.add_zero'] at hx399_0); replace hx399_0 := (HB.out.cell (World.block_lt_of_cell? w _ hx399_0)).trans hx399_0; replace p399 := eq_true p399; replace q399 := eq_true q399; have p400 : 0 ≤ ((rd (rd_L1 l0_2 a1) 0) : Int) := of_decide_eq_true AS; have q400 : (rd (rd_L1 l0_2 a1) 0) < (l0_1.length : Int) := of_decide_eq_true AS; obtain ⟨ad400, e400, hx400_0⟩ := Kd.at_int HR0_1.out (rd (rd_L1 l0_2 a1) 0) p400 q400; cases e400; replace hx400_0 := (HB.out.cell (World.block_lt_of_cell? w _ hx400_0)).trans hx400_0; replace p400 := eq_true p400; replace q400 := eq_true q400; have p401 : 0 ≤ (1 : Int) := (by omega); have q401 : 1 < ((rd_L1 l0_2 a1).length : Int) := of_decide_eq_true AS; obtain ⟨ad401, e401, hx401_0⟩ := Kd.at_int HR398_0.out 1 p401 q401; obtain rfl : ad399 = ad401 := (by injection e401); (try simp only [show (1 : Int).toNat = 1 from rfl, Nat.reduceMul, Nat.reduceEqDiff, Go.Addr.add, ↓reduceIte] at hx401_0); have qi401 : (1 < (rd_L1 l0_2 a1).length) = True := eq_true (by omega); (try rw [show ((1 : Int)).toNat = 1 from rfl] at hx401_0); replace hx401_0 := (HB.out.cell (World.block_lt_of_cell? w _ hx401_0)).trans hx401_0; replace p401 := eq_true p401; replace q401 := eq_true q401; have p402 : 0 ≤ ((rd (rd_L1 l0_2 a1) 1) : Int) := of_decide_eq_true AS; have q402 : (rd (rd_L1 l0_2 a1) 1) < (l0_1.length : Int) := of_decide_eq_true AS; obtain ⟨ad402, e402, hx402_0⟩ := Kd.at_int HR0_1.out (rd (rd_L1 l0_2 a1) 1) p402 q402; obtain rfl : ad400 = ad402 := (by injection e402); replace hx402_0 := (HB.out.cell (World.block_lt_of_cell? w _ hx402_0)).trans hx402_0; replace p402 := eq_true p402; replace q402 := eq_true q402; have p403 : 0 ≤ (2 : Int) := (by omega); have q403 : 2 < ((rd_L1 l0_2 a1).length : Int) := of_decide_eq_true AS; obtain ⟨ad403, e403, hx403_0⟩ := Kd.at_int HR398_0.out 2 p403 q403; obtain rfl : ad399 = ad403 := (by injection e403); (try simp only [show (2 : Int).toNat = 2 from rfl, Nat.reduceMul, Nat.reduceEqDiff, Go.Addr.add, ↓reduceIte] at hx403_0); have qi403 : (2 < (rd_L1 l0_2 a1).length) = True := eq_true (by omega); (try rw [show ((2 : Int)).toNat = 2 from rfl] at hx403_0); replace hx403_0 := (HB.out.cell (World.block_lt_of_cell? w _ hx403_0)).trans hx403_0; replace p403 := eq_true p403; replace q403 := eq_true q403; have p404 : 0 ≤ ((rd (rd_L1 l0_2 a1) 2) : Int) := of_decide_eq_true AS; have q404 : (rd (rd_L1 l0_2 a1) 2) < (l0_1.length : Int) := of_decide_eq_true AS; obtain ⟨ad404, e404, hx404_0⟩ := Kd.at_int HR0_1.out (rd (rd_L1 l0_2 a1) 2) p404 q404; obtain rfl : ad400 = ad404 := (by injection e404); replace hx404_0 := (HB.out.cell (World.block_lt_of_cell? w _ hx404_0)).trans hx404_0; replace p404 := eq_true p404; replace q404 := eq_true q404))
               repeat (go_quiet (first | ((with_reducible refine gate_dst (N := 2) rfl ?_); refine box_event ?hg (N := 2) ?hd (cs := #[.int .i64 a0_0, .slice A0_1 l0_1.length c0_1, .slice A0_2 l0_2.length c0_2, .slice A0_3 l0_3.length c0_3]) (t := 46) ?hr ?_; (case hd => rfl); (case hg => rfl); (case hr => exact GS); intro gb397 hg w20 hbox hb; have n0_ := Aside0.mk (below_step BB hb); have n1_ := Aside0.mk (hbox); have n2_ := Aside0.mk ((by rw [hg]; exact (below_size BB) : w.heap.size ≤ gb397)); have n3_ := Aside0.mk ((by rw [hg]; exact (below_size BB) : w.heap.size ≤ gb397)); clear HB; have HB := n0_; have BK397 := n1_; have GW397 := n2_; have GE397 := n3_; clear n0_ n1_ n2_ n3_; clear hb hbox hg; have hcz21_0 : w20.cell? ⟨gb397, 0, none⟩ = some (.int .i64 a0_0) := (blk_cell BK397.out 0).trans rfl; have hcz21_1 : w20.cell? ⟨gb397, 1, none⟩ = some (.slice A0_1 l0_1.length c0_1) := (blk_cell BK397.out 1).trans rfl; have hcz21_2 : w20.cell? ⟨gb397, 2, none⟩ = some (.slice A0_2 l0_2.length c0_2) := (blk_cell BK397.out 2).trans rfl; have hcz21_3 : w20.cell? ⟨gb397, 3, none⟩ = some (.slice A0_3 l0_3.length c0_3) := (blk_cell BK397.out 3).trans rfl; have hfz21_0 := blk_frozen BK397.out 0; have hfz21_1 := blk_frozen BK397.out 1; have hfz21_2 := blk_frozen BK397.out 2; have hfz21_3 := blk_frozen BK397.out 3; have p398 : 0 ≤ (a1 : Int) := of_decide_eq_true AS; have q398 : a1 < (l0_2.length : Int) := of_decide_eq_true AS; obtain ⟨ad398, A398_0, c398_0, e398, hx398_0, hl398_0, hi398_0⟩ := at_L1 HR0_2.out a1 p398 q398; cases e398; replace hx398_0 := (HB.out.cell (World.block_lt_of_cell? w _ hx398_0)).trans hx398_0; have HR398_0 := Aside0.mk hi398_0; have HC398_0 := Aside0.mk hl398_0; clear hi398_0 hl398_0; replace p398 := eq_true p398; replace q398 := eq_true q398; have p399 : 0 ≤ (0 : Int) := (by omega); have q399 : 0 < ((rd_L1 l0_2 a1).length : Int) := of_decide_eq_true AS; obtain ⟨ad399, e399, hx399_0⟩ := Kd.at_int HR398_0.out 0 p399 q399; cases e399; have qi399 : (0 < (rd_L1 l0_2 a1).length) = True := eq_true (by omega); (try rw [show ((0 : Int)).toNat = 0 from rfl] at hx399_0); (try rw [Addr.add_zero'] at hx399_0); replace hx399_0 := (HB.out.cell (World.block_lt_of_cell? w _ hx399_0)).trans hx399_0; replace p399 := eq_true p399; replace q399 := eq_true q399; have p400 : 0 ≤ ((rd (rd_L1 l0_2 a1) 0) : Int) := of_decide_eq_true AS; have q400 : (rd (rd_L1 l0_2 a1) 0) < (l0_1.length : Int) := of_decide_eq_true AS; obtain ⟨ad400, e400, hx400_0⟩ := Kd.at_int HR0_1.out (rd (rd_L1 l0_2 a1) 0) p400 q400; cases e400; replace hx400_0 := (HB.out.cell (World.block_lt_of_cell? w _ hx400_0)).trans hx400_0; replace p400 := eq_true p400; replace q400 := eq_true q400; have p401 : 0 ≤ (1 : Int) := (by omega); have q401 : 1 < ((rd_L1 l0_2 a1).length : Int) := of_decide_eq_true AS; obtain ⟨ad401, e401, hx401_0⟩ := Kd.at_int HR398_0.out 1 p401 q401; obtain rfl : ad399 = ad401 := (by injection e401); (try simp only [show (1 : Int).toNat = 1 from rfl, Nat.reduceMul, Nat.reduceEqDiff, Go.Addr.add, ↓reduceIte] at hx401_0); have qi401 : (1 < (rd_L1 l0_2 a1).length) = True := eq_true (by omega); (try rw [show ((1 : Int)).toNat = 1 from rfl] at hx401_0); replace hx401_0 := (HB.out.cell (World.block_lt_of_cell? w _ hx401_0)).trans hx401_0; replace p401 := eq_true p401; replace q401 := eq_true q401; have p402 : 0 ≤ ((rd (rd_L1 l0_2 a1) 1) : Int) := of_decide_eq_true AS; have q402 : (rd (rd_L1 l0_2 a1) 1) < (l0_1.length : Int) := of_decide_eq_true AS; obtain ⟨ad402, e402, hx402_0⟩ := Kd.at_int HR0_1.out (rd (rd_L1 l0_2 a1) 1) p402 q402; obtain rfl : ad400 = ad402 := (by injection e402); replace hx402_0 := (HB.out.cell (World.block_lt_of_cell? w _ hx402_0)).trans hx402_0; replace p402 := eq_true p402; replace q402 := eq_true q402; have p403 : 0 ≤ (2 : Int) := (by omega); have q403 : 2 < ((rd_L1 l0_2 a1).length : Int) := of_decide_eq_true AS; obtain ⟨ad403, e403, hx403_0⟩ := Kd.at_int HR398_0.out 2 p403 q403; obtain rfl : ad399 = ad403 := (by injection e403); (try simp only [show (2 : Int).toNat = 2 from rfl, Nat.reduceMul, Nat.reduceEqDiff, Go.Addr.add, ↓reduceIte] at hx403_0); have qi403 : (2 < (rd_L1 l0_2 a1).length) = True := eq_true (by omega); (try rw [show ((2 : Int)).toNat = 2 from rfl] at hx403_0); replace hx403_0 := (HB.out.cell (World.block_lt_of_cell? w _ hx403_0)).trans hx403_0; replace p403 := eq_true p403; replace q403 := eq_true q403; have p404 : 0 ≤ ((rd (rd_L1 l0_2 a1) 2) : Int) := of_decide_eq_true AS; have q404 : (rd (rd_L1 l0_2 a1) 2) < (l0_1.length : Int) := of_decide_eq_true AS; obtain ⟨ad404, e404, hx404_0⟩ := Kd.at_int HR0_1.out (rd (rd_L1 l0_2 a1) 2) p404 q404; obtain rfl : ad400 = ad404 := (by injection e404); replace hx404_0 := (HB.out.cell (World.block_lt_of_cell? w _ hx404_0)).trans hx404_0; replace p404 := eq_true p404; replace q404 := eq_true q404)); try go_wp2_with (first | ((with_reducible refine gate_dst (N := 2) rfl ?_); refine box_event ?hg (N := 2) ?hd (cs := #[.int .i64 a0_0, .slice A0_1 l0_1.length c0_1, .slice A0_2 l0_2.length c0_2, .slice A0_3 l0_3.length c0_3]) (t := 46) ?hr ?_; (case hd => rfl); (case hg => rfl); (case hr => exact GS); intro gb397 hg w20 hbox hb; have n0_ := Aside0.mk (below_step BB hb); have n1_ := Aside0.mk (hbox); have n2_ := Aside0.mk ((by rw [hg]; exact (below_size BB) : w.heap.size ≤ gb397)); have n3_ := Aside0.mk ((by rw [hg]; exact (below_size BB) : w.heap.size ≤ gb397)); clear HB; have HB := n0_; have BK397 := n1_; have GW397 := n2_; have GE397 := n3_; clear n0_ n1_ n2_ n3_; clear hb hbox hg; have hcz21_0 : w20.cell? ⟨gb397, 0, none⟩ = some (.int .i64 a0_0) := (blk_cell BK397.out 0).trans rfl; have hcz21_1 : w20.cell? ⟨gb397, 1, none⟩ = some (.slice A0_1 l0_1.length c0_1) := (blk_cell BK397.out 1).trans rfl; have hcz21_2 : w20.cell? ⟨gb397, 2, none⟩ = some (.slice A0_2 l0_2.length c0_2) := (blk_cell BK397.out 2).trans rfl; have hcz21_3 : w20.cell? ⟨gb397, 3, none⟩ = some (.slice A0_3 l0_3.length c0_3) := (blk_cell BK397.out 3).trans rfl; have hfz21_0 := blk_frozen BK397.out 0; have hfz21_1 := blk_frozen BK397.out 1; have hfz21_2 := blk_frozen BK397.out 2; have hfz21_3 := blk_frozen BK397.out 3; have p398 : 0 ≤ (a1 : Int) := of_decide_eq_true AS; have q398 : a1 < (l0_2.length : Int) := of_decide_eq_true AS; obtain ⟨ad398, A398_0, c398_0, e398, hx398_0, hl398_0, hi398_0⟩ := at_L1 HR0_2.out a1 p398 q398; cases e398; replace hx398_0 := (HB.out.cell (World.block_lt_of_cell? w _ hx398_0)).trans hx398_0; have HR398_0 := Aside0.mk hi398_0; have HC398_0 := Aside0.mk hl398_0; clear hi398_0 hl398_0; replace p398 := eq_true p398; replace q398 := eq_true q398; have p399 : 0 ≤ (0 : Int) := (by omega); have q399 : 0 < ((rd_L1 l0_2 a1).length : Int) := of_decide_eq_true AS; obtain ⟨ad399, e399, hx399_0⟩ := Kd.at_int HR398_0.out 0 p399 q399; cases e399; have qi399 : (0 < (rd_L1 l0_2 a1).length) = True := eq_true (by omega); (try rw [show ((0 : Int)).toNat = 0 from rfl] at hx399_0); (try rw [Addr.add_zero'] at hx399_0); replace hx399_0 := (HB.out.cell (World.block_lt_of_cell? w _ hx399_0)).trans hx399_0; replace p399 := eq_true p399; replace q399 := eq_true q399; have p400 : 0 ≤ ((rd (rd_L1 l0_2 a1) 0) : Int) := of_decide_eq_true AS; have q400 : (rd (rd_L1 l0_2 a1) 0) < (l0_1.length : Int) := of_decide_eq_true AS; obtain ⟨ad400, e400, hx400_0⟩ := Kd.at_int HR0_1.out (rd (rd_L1 l0_2 a1) 0) p400 q400; cases e400; replace hx400_0 := (HB.out.cell (World.block_lt_of_cell? w _ hx400_0)).trans hx400_0; replace p400 := eq_true p400; replace q400 := eq_true q400; have p401 : 0 ≤ (1 : Int) := (by omega); have q401 : 1 < ((rd_L1 l0_2 a1).length : Int) := of_decide_eq_true AS; obtain ⟨ad401, e401, hx401_0⟩ := Kd.at_int HR398_0.out 1 p401 q401; obtain rfl : ad399 = ad401 := (by injection e401); (try simp only [show (1 : Int).toNat = 1 from rfl, Nat.reduceMul, Nat.reduceEqDiff, Go.Addr.add, ↓reduceIte] at hx401_0); have qi401 : (1 < (rd_L1 l0_2 a1).length) = True := eq_true (by omega); (try rw [show ((1 : Int)).toNat = 1 from rfl] at hx401_0); replace hx401_0 := (HB.out.cell (World.block_lt_of_cell? w _ hx401_0)).trans hx401_0; replace p401 := eq_true p401; replace q401 := eq_true q401; have p402 : 0 ≤ ((rd (rd_L1 l0_2 a1) 1) : Int) := of_decide_eq_true AS; have q402 : (rd (rd_L1 l0_2 a1) 1) < (l0_1.length : Int) := of_decide_eq_true AS; obtain ⟨ad402, e402, hx402_0⟩ := Kd.at_int HR0_1.out (rd (rd_L1 l0_2 a1) 1) p402 q402; obtain rfl : ad400 = ad402 := (by injection e402); replace hx402_0 := (HB.out.cell (World.block_lt_of_cell? w _ hx402_0)).trans hx402_0; replace p402 := eq_true p402; replace q402 := eq_true q402; have p403 : 0 ≤ (2 : Int) := (by omega); have q403 : 2 < ((rd_L1 l0_2 a1).length : Int) := of_decide_eq_true AS; obtain ⟨ad403, e403, hx403_0⟩ := Kd.at_int HR398_0.out 2 p403 q403; obtain rfl : ad399 = ad403 := (by injection e403); (try simp only [show (2 : Int).toNat = 2 from rfl, Nat.reduceMul, Nat.reduceEqDiff, Go.Addr.add, ↓reduceIte] at hx403_0); have qi403 : (2 < (rd_L1 l0_2 a1).length) = True := eq_true (by omega); (try rw [show ((2 : Int)).toNat = 2 from rfl] at hx403_0); replace hx403_0 := (HB.out.cell (World.block_lt_of_cell? w _ hx403_0)).trans hx403_0; replace p403 := eq_true p403; replace q403 := eq_true q403; have p404 : 0 ≤ ((rd (rd_L1 l0_2 a1) 2) : Int) := of_decide_eq_true AS; have q404 : (rd (rd_L1 l0_2 a1) 2) < (l0_1.length : Int) := of_decide_eq_true AS; obtain ⟨ad404, e404, hx404_0⟩ := Kd.at_int HR0_1.out (rd (rd_L1 l0_2 a1) 2) p404 q404; obtain rfl : ad400 = ad404 := (by injection e404); replace hx404_0 := (HB.out.cell (World.block_lt_of_cell? w _ hx404_0)).trans hx404_0; replace p404 := eq_true p404; replace q404 := eq_true q404)))
               go_ret
               exact ⟨by first | rfl | (simp [errW_none, errW_some] <;> rfl) | (simp only [← hji9, ← hji14, ← hji19]; first | rfl | (simp [errW_none, errW_some] <;> rfl)) | (simp [*, errW_none, errW_some] <;> rfl), by repeat (first | (with_reducible first | exact HB.out | apply below_alloc | apply pw_below_drewN | apply below_drew1 | refine below_set ?_ GE397.out) | exact HB.out)⟩
              ·rw [if_neg c18] at H
               cases H
             ·rw [if_neg c17] at H
              cases H
            ·rw [if_neg c16] at H
             cases H
           ·rw [if_neg c15] at H
            cases H
          ·rw [if_neg c13] at H
           cases H
         ·rw [if_neg c12] at H
          cases H
        ·rw [if_neg c11] at H
         cases H
       ·rw [if_neg c10] at H
        cases H
      ·rw [if_neg c8] at H
       cases H
     ·rw [if_neg c7] at H
      cases H
    ·rw [if_neg c6] at H
     cases H
   ·rw [if_neg c5] at H
    cases H
  ·rw [if_neg c4] at H
   cases H
 ·rw [if_neg c3] at H
  cases H

end Go.Proofs.Ytgpplbaloajgdab.PFnExactFairCell
