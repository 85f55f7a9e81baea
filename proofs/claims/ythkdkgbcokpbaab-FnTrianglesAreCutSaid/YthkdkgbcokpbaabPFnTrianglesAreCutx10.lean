-- Written by a program of this session (wip/tools/pp.sh) out of the translation; Lean checks it.
import Derived.Test.YthkdkgbcokpbaabPFnTrianglesAreCutx0
import Derived.Test.YthkdkgbcokpbaabPFnTrianglesAreCutx1
import Derived.Test.YthkdkgbcokpbaabPFnTrianglesAreCutx2
import Derived.Test.YthkdkgbcokpbaabPFnTrianglesAreCutx3
import Derived.Test.YthkdkgbcokpbaabPFnTrianglesAreCutx8
import Derived.Test.YthkdkgbcokpbaabPFnTrianglesAreCutx9
namespace Go.Proofs.Ythkdkgbcokpbaab.PFnTrianglesAreCut
open Go.RowKit Go.Proofs.YthkdkgbcokpbaabOwn Go.Proofs.YthkdkgbcokpbaabW.PrintWords Go.Proofs.YthkdkgbcokpbaabW.PrintLast Go.Proofs.YthkdkgbcokpbaabW.PrintMore
attribute [local go_sem] max2_int min2_int max_two min_two max_three min_three max_four min_four   -- for this text's walks alone
set_option linter.unusedVariables false
set_option maxHeartbeats 8000000
set_option maxRecDepth 100000
set_option linter.unusedSimpArgs false

/-! ### spec_meWith: function 54 -/
def spec_meWith.l0 : Nat → Int → Int → List Int → List (List Int) → Int → Int → Option (List Int)
 | 0, _, _, _, _, _, _ => none
 | k + 1, x1, x2, x7, x10, x11, x12 => if x12 < x11 then (if 0 ≤ x12 then (if x12 < (x10.length : Int) then ((spec_l1Has.f k (rd_L3 x10 x12) x1).bind fun t395 => (if t395 = true then ((spec_l1Has.f k (rd_L3 x10 x12) x2).bind fun t396 => (if t396 = true then (if x7.length < 17592186044416 then (spec_meWith.l0 k x1 x2 (x7 ++ [x12]) x10 x11 (wrap64 (x12 + 1))) else (none)) else (spec_meWith.l0 k x1 x2 x7 x10 x11 (wrap64 (x12 + 1))))) else (spec_meWith.l0 k x1 x2 x7 x10 x11 (wrap64 (x12 + 1))))) else (none)) else (none)) else (some x7)
def spec_meWith.f (k : Nat) (l0 : List (List Int)) (a1 : Int) (a2 : Int) : Option (List Int) := spec_meWith.l0 k a1 a2 ([] : List Int) l0 (l0.length : Int) 0
theorem spec_meWith.mono_l : ∀ k, (∀ y0 y1 y2 y3 y4 y5, LeO (spec_meWith.l0 k y0 y1 y2 y3 y4 y5) (spec_meWith.l0 (k + 1) y0 y1 y2 y3 y4 y5))
 | 0 => fun _ _ _ _ _ _ r h => by simp [spec_meWith.l0] at h
 | k + 1 => by
  have ih0 := spec_meWith.mono_l k
  ·intro y0 y1 y2 y3 y4 y5
   unfold spec_meWith.l0
   repeat' first
   | with_reducible first | exact ih0 _ _ _ _ _ _ | exact spec_l1Has.mono _ _ _ | exact LeO.refl _ | exact LeO.none _ | refine LeO.ite ?_ ?_ | refine LeO.bind ?_ (fun _ => ?_)
   | exact LeO.none _ | refine LeO.ite ?_ ?_ | refine LeO.bind ?_ (fun _ => ?_)
theorem spec_meWith.mono : ∀ a0 a1 a2 k, LeO (spec_meWith.f k a0 a1 a2) (spec_meWith.f (k + 1) a0 a1 a2) := by
 intro a0 a1 a2 k
 have ih0 := spec_meWith.mono_l k
 unfold spec_meWith.f
 repeat' first
   | with_reducible first | exact ih0 _ _ _ _ _ _ | exact spec_l1Has.mono _ _ _ | exact LeO.refl _ | exact LeO.none _ | refine LeO.ite ?_ ?_ | refine LeO.bind ?_ (fun _ => ?_)
   | exact LeO.none _ | refine LeO.ite ?_ ?_ | refine LeO.bind ?_ (fun _ => ?_)
theorem spec_meWith.calls (k : Nat) (A0 : Option Addr) (c0 : Nat) (l0 : List (List Int)) (a1 : Int) (a2 : Int) (r : List Int) (w : World) (hr0 : Kd.C (Kd.slice 3 (Kd.int .i64)) w A0 l0.length l0) (hc0 : l0.length ≤ c0) (h : spec_meWith.f k l0 a1 a2 = some r) :
  Calls Try.prog 54 #[.slice A0 l0.length c0, .int .i64 a1, .int .i64 a2] w fun e w' => ∃ v0_ : Value, e = .returned (v0_) ∧ Kd.R (Kd.int .i64) 3 w' w.heap.size (fun _ => True) v0_ r ∧ Below w.heap.size w w' := by
 have HR0 := Aside0.mk hr0
 have HC0 := Aside0.mk hc0
 clear hr0 hc0
 have HB := Aside0.mk (Below.refl w.heap.size w)
 have H : (spec_meWith.l0 k a1 a2 ([] : List Int) l0 (l0.length : Int) 0) = some r := h
 clear h
 have H' := Aside0.mk H
 clear H
 go_enter Try.func54, Try.ntmps54
 go_wp2
 go_loopg [7, 12] k (fun kq v7 v12 w' => ∃ (x7_1 : List Int) (x12_1 : Int), v12 = .int .i64 x12_1 ∧ Aside0 (spec_meWith.l0 kq a1 a2 x7_1 l0 (l0.length : Int) x12_1 = some r) ∧ Aside0 (kq ≤ k) ∧ Aside0 (Kd.R (Kd.int .i64) 3 w' w.heap.size (fun _ => True) v7 x7_1) ∧ Aside0 (Below w.heap.size w w'))
 case atStart => exact ⟨(([] : List Int)), (0), RF, H', ⟨Nat.le_refl _⟩, ⟨by first | exact Kd.R_nil _ _ _ _ _ | exact Kd.N_nil _ _ _ _ _ | exact Kd.V_nil _ _ _ _ _ | exact Kd.Q_nil _ _ _ _ _ | exact Kd.S_nil _ _ _ _ _⟩, ⟨BB⟩⟩
 case round =>
  clear H'
  try clear p2
  obtain ⟨x7_1, x12_1, rfl, HA, HK1, HO_7, HB⟩ := hrel
  cases gk with
  | zero => exact absurd HA.out (by simp [spec_meWith.l0])
  | succ k1 =>
   have H := HA.out
   clear HA
   simp only [spec_meWith.l0] at H
   by_cases c4 : x12_1 < (l0.length : Int)
   ·rw [if_pos c4] at H
    have c4b0 : decide (x12_1 < (l0.length : Int)) = true := decide_eq_true c4
    clear c4
    by_cases c5 : 0 ≤ x12_1
    ·rw [if_pos c5] at H
     have c5b0 : decide (0 ≤ x12_1) = true := decide_eq_true c5
     clear c5
     by_cases c6 : x12_1 < (l0.length : Int)
     ·rw [if_pos c6] at H
      have c6b0 : decide (x12_1 < (l0.length : Int)) = true := decide_eq_true c6
      clear c6
      replace H := EA H
      obtain ⟨t395, A7, H⟩ := H
      by_cases c8 : t395 = true
      ·subst c8
       replace H := IP H
       replace H := EA H
       obtain ⟨t396, A9, H⟩ := H
       by_cases c10 : t396 = true
       ·subst c10
        replace H := IP H
        by_cases c11 : x7_1.length < 17592186044416
        ·rw [if_pos c11] at H
         have LMc11 := Aside0.mk c11
         clear c11
         obtain ⟨y397, hy397⟩ : ∃ y_ : List Int, y_ = (x7_1 ++ [x12_1]) := ⟨_, rfl⟩
         replace H : (spec_meWith.l0 k1 a1 a2 y397 l0 (l0.length : Int) (wrap64 (x12_1 + 1))) = some r := HY H hy397
         have Ny397 := Aside0.mk hy397
         clear hy397
         have H' := Aside0.mk H
         clear H
         have p394 : 0 ≤ (x12_1 : Int) := of_decide_eq_true AS
         have q394 : x12_1 < (l0.length : Int) := of_decide_eq_true AS
         obtain ⟨ad394, A394_0, c394_0, e394, hx394_0, hl394_0, hi394_0⟩ := at_L3 HR0.out x12_1 p394 q394
         cases e394
         try (replace hx394_0 := (HB.out.cell (World.block_lt_of_cell? w _ hx394_0)).trans hx394_0)
         have HR394_0 := Aside0.mk hi394_0
         have HC394_0 := Aside0.mk hl394_0
         clear hi394_0 hl394_0
         replace p394 := eq_true p394
         replace q394 := eq_true q394
         go_wp2_with (first | ((with_reducible refine gate_callee (f := 64) rfl ?_); refine goesL_ (some 19) rfl rfl Try.func64 (by kernel_rfl) rfl #[.slice A394_0 (rd_L3 l0 x12_1).length c394_0, .int .i64 a1] rfl TA ?_; (with_reducible refine (spec_l1Has.calls k1 _ _ (rd_L3 l0 x12_1) a1 true _ ?side1 ?side2 A7.out).mono ?_); (case side1 => exact CW (Kd.C_below HR394_0.out HB.out)); (case side2 => exact HC394_0.out); rintro e w' ⟨rfl, ⟨nd, rfl⟩⟩; refine ⟨_, rfl, ?_⟩) | (go_at_call 64; (with_reducible refine (spec_l1Has.calls k1 _ _ (rd_L3 l0 x12_1) a2 true _ ?side1 ?side2 A9.out).mono ?_); (case side1 => exact CW (Kd.C_below HR394_0.out BB)); (case side2 => exact HC394_0.out); rintro e w' ⟨rfl, ⟨nd, rfl⟩⟩) | ((with_reducible refine gate_builtin (b := .append) (xs := #[.tmp 25, .tmp 27]) rfl ?_); at_builtin; refine Kd.R_append (Kd.int .i64) (w0 := w) w.heap.size rfl (.tmp 25) (.tmp 27) 26 3 (.int .i64 0) 8 rfl Try.underlying26 info3 rfl (by decide) (by omega) u7 x7_1 x12_1 [.int .i64 x12_1] (fun _ => True) (fun _ => False) rfl rfl ?aP (fun _ hk => hk.elim) ?aF ?aO ?aB ?aS ?aL ?_; (case aP => exact rfl); (case aB => exact BB); (case aF => exact (fun _ _ => trivial)); (case aO => exact (KR HO_7)); (case aS => exact (below_size BB)); (case aL => have := LMc11.out; omega); intro v398 w12 ho hb hg hat; rw [← Ny397.out] at ho; have n0_ := Aside0.mk (hb); have n1_ := Aside0.mk (ho); clear HB; clear HO_7; have HB := n0_; have HO399 := n1_; clear n0_ n1_; clear ho hb hg hat))
         go_roundg k1
         case measure => have := HK1.out; omega
         case rel => exact ⟨(y397), (wrap64 (x12_1 + 1)), RF, H', ⟨by have := HK1.out; omega⟩, ⟨KR HO399⟩, ⟨BB⟩⟩
        ·rw [if_neg c11] at H
         cases H
       ·replace c10 := Bool.eq_false_iff.mpr c10
        subst c10
        replace H := IN H
        have H' := Aside0.mk H
        clear H
        have p394 : 0 ≤ (x12_1 : Int) := of_decide_eq_true AS
        have q394 : x12_1 < (l0.length : Int) := of_decide_eq_true AS
        obtain ⟨ad394, A394_0, c394_0, e394, hx394_0, hl394_0, hi394_0⟩ := at_L3 HR0.out x12_1 p394 q394
        cases e394
        try (replace hx394_0 := (HB.out.cell (World.block_lt_of_cell? w _ hx394_0)).trans hx394_0)
        have HR394_0 := Aside0.mk hi394_0
        have HC394_0 := Aside0.mk hl394_0
        clear hi394_0 hl394_0
        replace p394 := eq_true p394
        replace q394 := eq_true q394
        go_wp2_with (first | ((with_reducible refine gate_callee (f := 64) rfl ?_); refine goesL_ (some 19) rfl rfl Try.func64 (by kernel_rfl) rfl #[.slice A394_0 (rd_L3 l0 x12_1).length c394_0, .int .i64 a1] rfl TA ?_; (with_reducible refine (spec_l1Has.calls k1 _ _ (rd_L3 l0 x12_1) a1 true _ ?side1 ?side2 A7.out).mono ?_); (case side1 => exact CW (Kd.C_below HR394_0.out HB.out)); (case side2 => exact HC394_0.out); rintro e w' ⟨rfl, ⟨nd, rfl⟩⟩; refine ⟨_, rfl, ?_⟩) | (go_at_call 64; (with_reducible refine (spec_l1Has.calls k1 _ _ (rd_L3 l0 x12_1) a2 false _ ?side1 ?side2 A9.out).mono ?_); (case side1 => exact CW (Kd.C_below HR394_0.out BB)); (case side2 => exact HC394_0.out); rintro e w' ⟨rfl, ⟨nd, rfl⟩⟩))
        go_roundg k1
        case measure => have := HK1.out; omega
        case rel => exact ⟨(x7_1), (wrap64 (x12_1 + 1)), RF, H', ⟨by have := HK1.out; omega⟩, ⟨KR HO_7⟩, ⟨BB⟩⟩
      ·replace c8 := Bool.eq_false_iff.mpr c8
       subst c8
       replace H := IN H
       have H' := Aside0.mk H
       clear H
       have p394 : 0 ≤ (x12_1 : Int) := of_decide_eq_true AS
       have q394 : x12_1 < (l0.length : Int) := of_decide_eq_true AS
       obtain ⟨ad394, A394_0, c394_0, e394, hx394_0, hl394_0, hi394_0⟩ := at_L3 HR0.out x12_1 p394 q394
       cases e394
       try (replace hx394_0 := (HB.out.cell (World.block_lt_of_cell? w _ hx394_0)).trans hx394_0)
       have HR394_0 := Aside0.mk hi394_0
       have HC394_0 := Aside0.mk hl394_0
       clear hi394_0 hl394_0
       replace p394 := eq_true p394
       replace q394 := eq_true q394
       go_wp2_with (first | ((with_reducible refine gate_callee (f := 64) rfl ?_); refine goesL_ (some 19) rfl rfl Try.func64 (by kernel_rfl) rfl #[.slice A394_0 (rd_L3 l0 x12_1).length c394_0, .int .i64 a1] rfl TA ?_; (with_reducible refine (spec_l1Has.calls k1 _ _ (rd_L3 l0 x12_1) a1 false _ ?side1 ?side2 A7.out).mono ?_); (case side1 => exact CW (Kd.C_below HR394_0.out HB.out)); (case side2 => exact HC394_0.out); rintro e w' ⟨rfl, ⟨nd, rfl⟩⟩; refine ⟨_, rfl, ?_⟩))
       go_roundg k1
       case measure => have := HK1.out; omega
       case rel => exact ⟨(x7_1), (wrap64 (x12_1 + 1)), RF, H', ⟨by have := HK1.out; omega⟩, ⟨KR HO_7⟩, ⟨BB⟩⟩
     ·rw [if_neg c6] at H
      cases H
    ·rw [if_neg c5] at H
     cases H
   ·rw [if_neg c4] at H
    have c4b0 : decide (x12_1 < (l0.length : Int)) = false := decide_eq_false c4
    clear c4
    obtain rfl := Option.some.inj H
    go_wp2
    go_ret
    exact ⟨_, RE, KR HO_7, BB⟩

/-! ### spec_CellsWith: function 28 -/
def spec_CellsWith.j0 : Nat → Int → Int → Int → Bool → Option (List Int × Bool)
 | 0, _, _, _, _ => none
 | k + 1, x0, x1, x2, x24 => if x24 = true then (some (([] : List Int), false)) else ((spec_meCells.f k x0).bind fun t403 => ((spec_meWith.f k t403 x1 x2).bind fun t406 => (some (t406, true))))
def spec_CellsWith.f (k : Nat) (a0 : Int) (a1 : Int) (a2 : Int) : Option (List Int × Bool) := (spec_mePoint.f a0 a1).bind fun t400 => (if t400 = true then ((spec_mePoint.f a0 a2).bind fun t401 => (if t401 = true then ((spec_meNear.f k a0 a1 a2).bind fun t402 => (spec_CellsWith.j0 k a0 a1 a2 (!t402))) else (spec_CellsWith.j0 k a0 a1 a2 true))) else (spec_CellsWith.j0 k a0 a1 a2 true))
theorem spec_CellsWith.mono_l : ∀ k, (∀ y0 y1 y2 y3, LeO (spec_CellsWith.j0 k y0 y1 y2 y3) (spec_CellsWith.j0 (k + 1) y0 y1 y2 y3))
 | 0 => fun _ _ _ _ r h => by simp [spec_CellsWith.j0] at h
 | k + 1 => by
  have ih0 := spec_CellsWith.mono_l k
  ·intro y0 y1 y2 y3
   unfold spec_CellsWith.j0
   repeat' first
   | with_reducible first | exact ih0 _ _ _ _ | exact spec_meCells.mono _ _ | exact spec_meNear.mono _ _ _ _ | exact spec_meWith.mono _ _ _ _ | exact LeO.refl _ | exact LeO.none _ | refine LeO.ite ?_ ?_ | refine LeO.bind ?_ (fun _ => ?_)
   | exact LeO.none _ | refine LeO.ite ?_ ?_ | refine LeO.bind ?_ (fun _ => ?_)
theorem spec_CellsWith.mono : ∀ a0 a1 a2 k, LeO (spec_CellsWith.f k a0 a1 a2) (spec_CellsWith.f (k + 1) a0 a1 a2) := by
 intro a0 a1 a2 k
 have ih0 := spec_CellsWith.mono_l k
 unfold spec_CellsWith.f
 repeat' first
   | with_reducible first | exact ih0 _ _ _ _ | exact spec_meCells.mono _ _ | exact spec_meNear.mono _ _ _ _ | exact spec_meWith.mono _ _ _ _ | exact LeO.refl _ | exact LeO.none _ | refine LeO.ite ?_ ?_ | refine LeO.bind ?_ (fun _ => ?_)
   | exact LeO.none _ | refine LeO.ite ?_ ?_ | refine LeO.bind ?_ (fun _ => ?_)
theorem spec_CellsWith.calls (k : Nat) (a0 : Int) (a1 : Int) (a2 : Int) (r1 : List Int) (r2 : Bool) (w : World) (h : spec_CellsWith.f k a0 a1 a2 = some (r1, r2)) :
  Calls Try.prog 28 #[.int .i64 a0, .int .i64 a1, .int .i64 a2] w fun e w' => ∃ v0_ : Value, e = .returned (.tuple #[v0_, .bool r2]) ∧ Kd.R (Kd.int .i64) 3 w' w.heap.size (fun _ => True) v0_ r1 ∧ Below w.heap.size w w' := by
 have HB := Aside0.mk (Below.refl w.heap.size w)
 have H : ((spec_mePoint.f a0 a1).bind fun t400 => (if t400 = true then ((spec_mePoint.f a0 a2).bind fun t401 => (if t401 = true then ((spec_meNear.f k a0 a1 a2).bind fun t402 => (spec_CellsWith.j0 k a0 a1 a2 (!t402))) else (spec_CellsWith.j0 k a0 a1 a2 true))) else (spec_CellsWith.j0 k a0 a1 a2 true))) = some (r1, r2) := h
 clear h
 have HC4 := Aside0.mk H
 clear H
 go_enter Try.func28, Try.ntmps28
 go_upto_region 1 with (fail)
 go_cut [24] (fun v24 wc => ∃ (kq : Nat) (x24_3 : Bool), v24 = .bool x24_3 ∧ Aside0 (spec_CellsWith.j0 kq a0 a1 a2 x24_3 = some (r1, r2)) ∧ Aside0 (kq ≤ k) ∧ Aside0 (Below w.heap.size w wc))
 case first =>
  have H := HC4.out
  clear HC4
  replace H := EA H
  obtain ⟨t400, A5, H⟩ := H
  by_cases c6 : t400 = true
  ·subst c6
   replace H := IP H
   replace H := EA H
   obtain ⟨t401, A7, H⟩ := H
   by_cases c8 : t401 = true
   ·subst c8
    replace H := IP H
    replace H := EA H
    obtain ⟨t402, A9, H⟩ := H
    have H' := Aside0.mk H
    clear H
    go_wp2_with (first | ((with_reducible refine gate_callee (f := 35) rfl ?_); refine goesL_ (some 10) rfl rfl Try.func35 (by kernel_rfl) rfl #[.int .i64 a0, .int .i64 a1] rfl TA ?_; (with_reducible refine (spec_mePoint.calls a0 a1 true _ A5.out).mono ?_); rintro e w' ⟨rfl, ⟨nd, rfl⟩⟩; refine ⟨_, rfl, ?_⟩) | (go_at_call 35; (with_reducible refine (spec_mePoint.calls a0 a2 true _ A7.out).mono ?_); rintro e w' ⟨rfl, ⟨nd, rfl⟩⟩) | (go_at_call 39; (with_reducible refine (spec_meNear.calls k a0 a1 a2 t402 _ A9.out).mono ?_); rintro e w10 ⟨rfl, hb⟩; have n0_ := Aside0.mk (below_step BB hb); clear HB; have HB := n0_; clear n0_; (try clear hb); (try clear hb2); (try clear hk); (try clear hi)))
    go_meet
    case rel => exact ⟨_, (!t402), RF, H', ⟨by first | omega | exact Nat.le_refl _⟩, ⟨BB⟩⟩
   ·replace c8 := Bool.eq_false_iff.mpr c8
    subst c8
    replace H := IN H
    have H' := Aside0.mk H
    clear H
    go_wp2_with (first | ((with_reducible refine gate_callee (f := 35) rfl ?_); refine goesL_ (some 10) rfl rfl Try.func35 (by kernel_rfl) rfl #[.int .i64 a0, .int .i64 a1] rfl TA ?_; (with_reducible refine (spec_mePoint.calls a0 a1 true _ A5.out).mono ?_); rintro e w' ⟨rfl, ⟨nd, rfl⟩⟩; refine ⟨_, rfl, ?_⟩) | (go_at_call 35; (with_reducible refine (spec_mePoint.calls a0 a2 false _ A7.out).mono ?_); rintro e w' ⟨rfl, ⟨nd, rfl⟩⟩))
    go_meet
    case rel => exact ⟨_, (true), RF, H', ⟨by first | omega | exact Nat.le_refl _⟩, ⟨BB⟩⟩
  ·replace c6 := Bool.eq_false_iff.mpr c6
   subst c6
   replace H := IN H
   have H' := Aside0.mk H
   clear H
   go_wp2_with (first | ((with_reducible refine gate_callee (f := 35) rfl ?_); refine goesL_ (some 10) rfl rfl Try.func35 (by kernel_rfl) rfl #[.int .i64 a0, .int .i64 a1] rfl TA ?_; (with_reducible refine (spec_mePoint.calls a0 a1 false _ A5.out).mono ?_); rintro e w' ⟨rfl, ⟨nd, rfl⟩⟩; refine ⟨_, rfl, ?_⟩))
   go_meet
   case rel => exact ⟨_, (true), RF, H', ⟨by first | omega | exact Nat.le_refl _⟩, ⟨BB⟩⟩
 case rest =>
  clear HC4
  try clear c2
  try clear p2
  try clear c3
  try clear c6
  try clear p6
  try clear c8
  obtain ⟨kq, x24_3, rfl, HA, HJ3, HB⟩ := hcut
  cases kq with
  | zero => exact absurd HA.out (by simp [spec_CellsWith.j0])
  | succ kj3 =>
   have H := HA.out
   clear HA
   simp only [spec_CellsWith.j0] at H
   by_cases c11 : x24_3 = true
   ·subst c11
    replace H := IP H
    simp only [Option.some.injEq, Prod.mk.injEq] at H
    obtain ⟨rfl, rfl⟩ := H
    go_wp2
    go_ret2
    exact ⟨_, RE, by first | exact Kd.R_nil _ _ _ _ _ | exact Kd.N_nil _ _ _ _ _ | exact Kd.V_nil _ _ _ _ _ | exact Kd.Q_nil _ _ _ _ _ | exact Kd.S_nil _ _ _ _ _, BB⟩
   ·replace c11 := Bool.eq_false_iff.mpr c11
    subst c11
    replace H := IN H
    replace H := EA H
    obtain ⟨t403, A12, H⟩ := H
    replace H := EA H
    obtain ⟨t406, A13, H⟩ := H
    simp only [Option.some.injEq, Prod.mk.injEq] at H
    obtain ⟨rfl, rfl⟩ := H
    go_wp2_with (first | ((with_reducible refine gate_callee (f := 49) rfl ?_); refine goesL_ (some 26) rfl rfl Try.func49 (by kernel_rfl) rfl #[.int .i64 a0] rfl TA ?_; (with_reducible refine (spec_meCells.calls kj3 a0 t403 _ A12.out).mono ?_); rintro e w14 ⟨v404, rfl, ho0, hb⟩; refine ⟨_, rfl, ?_⟩; have n0_ := Aside0.mk (Kd.S_lower ho0 (below_size BB)); have n1_ := Aside0.mk (below_step BB hb); clear HB; have HO405 := n0_; have HB := n1_; clear n0_ n1_; (try clear hb); (try clear hb2); (try clear hk); (try clear hi); (try clear ho0); obtain ⟨Ao15, co15, eo15⟩ := Kd.S_slice HO405.out; subst eo15) | ((with_reducible refine gate_callee (f := 54) rfl ?_); refine goesL_ (some 29) rfl rfl Try.func54 (by kernel_rfl) rfl #[.slice Ao15 t403.length co15, .int .i64 a1, .int .i64 a2] rfl TA ?_; (with_reducible refine (spec_meWith.calls kj3 _ _ t403 a1 a2 t406 _ ?side1 ?side2 A13.out).mono ?_); (case side1 => exact CW (Kd.S_reads' HO405.out).2.2); (case side2 => exact (Kd.S_reads' HO405.out).2.1); rintro e w16 ⟨v407, rfl, ho0, hb⟩; refine ⟨_, rfl, ?_⟩; have n0_ := Aside0.mk (Kd.S_elder' (KS HO405) (Kd.R_base ho0) hb); have n1_ := Aside0.mk (Kd.R_lower ho0 (below_size BB)); have n2_ := Aside0.mk (below_step BB hb); clear HO405; clear HB; have HO405 := n0_; have HO408 := n1_; have HB := n2_; clear n0_ n1_ n2_; (try clear hb); (try clear hb2); (try clear hk); (try clear hi); (try clear ho0)))
    go_ret2
    exact ⟨_, RE, KR HO408, BB⟩

/-! ### spec_DrawIsUpCell: function 29 -/
def spec_DrawIsUpCell.f (l0 : List Int) : Option (Int × Int) := (spec_l1Cur_side.f l0 0 0 5).bind fun bt410 => ((spec_l1Cur_pick.f l0 bt410.2.1 bt410.2.2 27).bind fun bt413 => (some (bt410.1, wrap64 (bt413.1 - 1))))
theorem spec_DrawIsUpCell.calls (A0 : Option Addr) (c0 : Nat) (l0 : List Int) (r1 : Int) (r2 : Int) (w : World) (hr0 : Kd.C (Kd.int .u8) w A0 l0.length l0) (hc0 : l0.length ≤ c0) (h : spec_DrawIsUpCell.f l0 = some (r1, r2)) :
  Calls Try.prog 29 #[.slice A0 l0.length c0] w fun e w' => e = .returned (.tuple #[.int .i64 r1, .int .i64 r2]) ∧ Below w.heap.size w w' := by
 have hu51 := Try.underlying51
 have HR0 := Aside0.mk hr0
 have HC0 := Aside0.mk hc0
 clear hr0 hc0
 have HB := Aside0.mk (Below.refl w.heap.size w)
 have H : ((spec_l1Cur_side.f l0 0 0 5).bind fun bt410 => ((spec_l1Cur_pick.f l0 bt410.2.1 bt410.2.2 27).bind fun bt413 => (some (bt410.1, wrap64 (bt413.1 - 1))))) = some (r1, r2) := h
 clear h
 replace H := EA H
 obtain ⟨⟨t410, t411, t412⟩, A2, H⟩ := H
 try dsimp only at H
 replace H := EA H
 obtain ⟨⟨t413, t414, t415⟩, A3, H⟩ := H
 try dsimp only at H
 simp only [Option.some.injEq, Prod.mk.injEq] at H
 obtain ⟨rfl, rfl⟩ := H
 go_enter Try.func29, Try.ntmps29
 go_wp2_with (first | ((with_reducible refine gate_dst (N := 7) rfl ?_); refine box_event ?hg (N := 7) ?hd (cs := #[.slice A0 l0.length c0, .int .i64 0, .int .u64 0]) (t := 51) ?hr ?_; (case hd => rfl); (case hg => rfl); (case hr => exact GS); intro gb409 hg w4 hbox hb; have n0_ := Aside0.mk (below_step BB hb); have n1_ := Aside0.mk ((by rw [hg]; exact (below_size BB) : w.heap.size ≤ gb409)); have n2_ := Aside0.mk ((by rw [hg]; exact (below_size BB) : w.heap.size ≤ gb409)); have n3_ := Aside0.mk ((show IsS51 w w4 gb409 l0 0 0 from ⟨A0, c0, hbox, (by rw [hg]; exact (below_size BB) : w.heap.size ≤ gb409), HR0.out⟩)); clear HB; have HB := n0_; have GW409 := n1_; have GE409 := n2_; have HI409 := n3_; clear n0_ n1_ n2_ n3_; clear hb hbox hg) | ((with_reducible refine gate_callee (f := 31) rfl ?_); refine goesL_ (some 9) rfl rfl Try.func31 (by kernel_rfl) rfl #[.pointer (some ⟨gb409, 0, none⟩), .int .i64 5] rfl TA ?_; (with_reducible refine (spec_l1Cur_side.calls gb409 l0 0 0 5 t410 t411 t412 w _ ?side1 ?side2 A2.out).mono ?_); (case side1 => repeat (first | (with_reducible first | exact HI409.out | apply IsS51.alloc | apply IsS51.drewN | apply IsS51.drew | apply IsS51.set_1 | apply IsS51.set_2) | exact HI409.out)); (case side2 => repeat (first | (with_reducible first | exact HB.out | apply below_alloc | apply pw_below_drewN | apply below_drew1 | refine below_set ?_ (IsS51.ge HI409.out)) | exact HB.out)); rintro e w5 ⟨rfl, hi, hb, hk⟩; refine ⟨_, rfl, ?_⟩; have n0_ := Aside0.mk (hb); have n1_ := Aside0.mk (hi); clear HB; clear HI409; have HB := n0_; have HI409 := n1_; clear n0_ n1_; (try clear hb); (try clear hb2); (try clear hk); (try clear hi)) | ((with_reducible refine gate_callee (f := 32) rfl ?_); refine goesL_ (some 11) rfl rfl Try.func32 (by kernel_rfl) rfl #[.pointer (some ⟨gb409, 0, none⟩), .int .i64 27] rfl TA ?_; (with_reducible refine (spec_l1Cur_pick.calls gb409 l0 t411 t412 27 t413 t414 t415 w _ ?side1 ?side2 A3.out).mono ?_); (case side1 => repeat (first | (with_reducible first | exact HI409.out | apply IsS51.alloc | apply IsS51.drewN | apply IsS51.drew | apply IsS51.set_1 | apply IsS51.set_2) | exact HI409.out)); (case side2 => repeat (first | (with_reducible first | exact HB.out | apply below_alloc | apply pw_below_drewN | apply below_drew1 | refine below_set ?_ (IsS51.ge HI409.out)) | exact HB.out)); rintro e w6 ⟨rfl, hi, hb, hk⟩; refine ⟨_, rfl, ?_⟩; have n0_ := Aside0.mk (hb); have n1_ := Aside0.mk (hi); clear HB; clear HI409; have HB := n0_; have HI409 := n1_; clear n0_ n1_; (try clear hb); (try clear hb2); (try clear hk); (try clear hi)))
 go_ret2
 exact ⟨RE, by repeat (first | (with_reducible first | exact HB.out | apply below_alloc | apply pw_below_drewN | apply below_drew1 | refine below_set ?_ (IsS51.ge HI409.out)) | exact HB.out)⟩

/-! ### spec_meUp: function 56 -/
mutual
def spec_meUp.l0 : Nat → Int → List Int → Int → Int → Option (Bool)
 | 0, _, _, _, _ => none
 | k + 1, x0, x1, x5, x6 => if x6 < 3 then (spec_meUp.l1 k x0 x1 x5 x6 0 x1 (x1.length : Int) 0) else (some (x5 == (wrap64 (x0 + 2))))
def spec_meUp.l1 : Nat → Int → List Int → Int → Int → Int → List Int → Int → Int → Option (Bool)
 | 0, _, _, _, _, _, _, _, _ => none
 | k + 1, x0, x1, x5, x6, x7, x14, x15, x16 => if x16 < x15 then (if 0 ≤ x16 then (if x16 < (x14.length : Int) then ((spec_meAt.f k x0 (rd x14 x16)).bind fun t417 => (if 0 ≤ x6 then (if x6 < (t417.length : Int) then ((spec_l1Most.f x7 (rd t417 x6)).bind fun t421 => (spec_meUp.l1 k x0 x1 x5 x6 t421 x14 x15 (wrap64 (x16 + 1)))) else (none)) else (none))) else (none)) else (none)) else (spec_meUp.l0 k x0 x1 (wrap64 (x5 + x7)) (wrap64 (x6 + 1)))
end
def spec_meUp.f (k : Nat) (a0 : Int) (l1 : List Int) : Option (Bool) := spec_meUp.l0 k a0 l1 0 0
theorem spec_meUp.mono_l : ∀ k, (∀ y0 y1 y2 y3, LeO (spec_meUp.l0 k y0 y1 y2 y3) (spec_meUp.l0 (k + 1) y0 y1 y2 y3)) ∧ (∀ y0 y1 y2 y3 y4 y5 y6 y7, LeO (spec_meUp.l1 k y0 y1 y2 y3 y4 y5 y6 y7) (spec_meUp.l1 (k + 1) y0 y1 y2 y3 y4 y5 y6 y7))
 | 0 => ⟨fun _ _ _ _ r h => by simp [spec_meUp.l0] at h, fun _ _ _ _ _ _ _ _ r h => by simp [spec_meUp.l1] at h⟩
 | k + 1 => by
  obtain ⟨ih0, ih1⟩ := spec_meUp.mono_l k
  refine ⟨?_, ?_⟩
  ·intro y0 y1 y2 y3
   unfold spec_meUp.l0
   repeat' first
   | with_reducible first | exact ih0 _ _ _ _ | exact ih1 _ _ _ _ _ _ _ _ | exact spec_meAt.mono _ _ _ | exact LeO.refl _ | exact LeO.none _ | refine LeO.ite ?_ ?_ | refine LeO.bind ?_ (fun _ => ?_)
   | exact LeO.none _ | refine LeO.ite ?_ ?_ | refine LeO.bind ?_ (fun _ => ?_)
  ·intro y0 y1 y2 y3 y4 y5 y6 y7
   unfold spec_meUp.l1
   repeat' first
   | with_reducible first | exact ih0 _ _ _ _ | exact ih1 _ _ _ _ _ _ _ _ | exact spec_meAt.mono _ _ _ | exact LeO.refl _ | exact LeO.none _ | refine LeO.ite ?_ ?_ | refine LeO.bind ?_ (fun _ => ?_)
   | exact LeO.none _ | refine LeO.ite ?_ ?_ | refine LeO.bind ?_ (fun _ => ?_)
theorem spec_meUp.mono : ∀ a0 a1 k, LeO (spec_meUp.f k a0 a1) (spec_meUp.f (k + 1) a0 a1) := by
 intro a0 a1 k
 obtain ⟨ih0, ih1⟩ := spec_meUp.mono_l k
 unfold spec_meUp.f
 repeat' first
   | with_reducible first | exact ih0 _ _ _ _ | exact ih1 _ _ _ _ _ _ _ _ | exact spec_meAt.mono _ _ _ | exact LeO.refl _ | exact LeO.none _ | refine LeO.ite ?_ ?_ | refine LeO.bind ?_ (fun _ => ?_)
   | exact LeO.none _ | refine LeO.ite ?_ ?_ | refine LeO.bind ?_ (fun _ => ?_)
theorem spec_meUp.calls (k : Nat) (a0 : Int) (A1 : Option Addr) (c1 : Nat) (l1 : List Int) (r : Bool) (w : World) (hr1 : Kd.C (Kd.int .i64) w A1 l1.length l1) (hc1 : l1.length ≤ c1) (h : spec_meUp.f k a0 l1 = some r) :
  Calls Try.prog 56 #[.int .i64 a0, .slice A1 l1.length c1] w fun e w' => e = .returned (.bool r) ∧ Below w.heap.size w w' := by
 have HR1 := Aside0.mk hr1
 have HC1 := Aside0.mk hc1
 clear hr1 hc1
 have HB := Aside0.mk (Below.refl w.heap.size w)
 have H : (spec_meUp.l0 k a0 l1 0 0) = some r := h
 clear h
 have H' := Aside0.mk H
 clear H
 go_enter Try.func56, Try.ntmps56
 go_wp2
 go_loopg [5, 6] k (fun kq v5 v6 w' => ∃ (x5_1 : Int) (x6_1 : Int), v5 = .int .i64 x5_1 ∧ v6 = .int .i64 x6_1 ∧ Aside0 (spec_meUp.l0 kq a0 l1 x5_1 x6_1 = some r) ∧ Aside0 (kq ≤ k) ∧ Aside0 (Below w.heap.size w w'))
 case atStart => exact ⟨(0), (0), RF, RF, H', ⟨Nat.le_refl _⟩, ⟨BB⟩⟩
 case round =>
  clear H'
  try clear c1
  try clear p2
  obtain ⟨x5_1, x6_1, rfl, rfl, HA, HK1, HB⟩ := hrel
  cases gk with
  | zero => exact absurd HA.out (by simp [spec_meUp.l0])
  | succ k1 =>
   have H := HA.out
   clear HA
   simp only [spec_meUp.l0] at H
   by_cases c3 : x6_1 < 3
   ·rw [if_pos c3] at H
    have c3b0 : decide (x6_1 < 3) = true := decide_eq_true c3
    clear c3
    have H' := Aside0.mk H
    clear H
    go_wp2
    go_loopg [7, 16] k1 (fun kq v7 v16 w' => ∃ (x7_2 : Int) (x16_2 : Int), v7 = .int .i64 x7_2 ∧ v16 = .int .i64 x16_2 ∧ Aside0 (spec_meUp.l1 kq a0 l1 x5_1 x6_1 x7_2 l1 (l1.length : Int) x16_2 = some r) ∧ Aside0 (kq ≤ k1) ∧ Aside0 (Below w.heap.size w w'))
    case atStart => exact ⟨(0), (0), RF, RF, H', ⟨Nat.le_refl _⟩, ⟨BB⟩⟩
    case round =>
     clear H'
     try clear c1
     try clear p2
     try clear c3
     try clear c3b0
     try clear p2
     obtain ⟨x7_2, x16_2, rfl, rfl, HA, HK2, HB⟩ := hrel
     cases gk with
     | zero => exact absurd HA.out (by simp [spec_meUp.l1])
     | succ k2 =>
      have H := HA.out
      clear HA
      simp only [spec_meUp.l1] at H
      by_cases c4 : x16_2 < (l1.length : Int)
      ·rw [if_pos c4] at H
       have c4b0 : decide (x16_2 < (l1.length : Int)) = true := decide_eq_true c4
       clear c4
       by_cases c5 : 0 ≤ x16_2
       ·rw [if_pos c5] at H
        have c5b0 : decide (0 ≤ x16_2) = true := decide_eq_true c5
        clear c5
        by_cases c6 : x16_2 < (l1.length : Int)
        ·rw [if_pos c6] at H
         have c6b0 : decide (x16_2 < (l1.length : Int)) = true := decide_eq_true c6
         clear c6
         replace H := EA H
         obtain ⟨t417, A7, H⟩ := H
         by_cases c8 : 0 ≤ x6_1
         ·rw [if_pos c8] at H
          have c8b0 : decide (0 ≤ x6_1) = true := decide_eq_true c8
          clear c8
          by_cases c9 : x6_1 < (t417.length : Int)
          ·rw [if_pos c9] at H
           have c9b0 : decide (x6_1 < (t417.length : Int)) = true := decide_eq_true c9
           clear c9
           replace H := EA H
           obtain ⟨t421, A10, H⟩ := H
           have H' := Aside0.mk H
           clear H
           have p416 : 0 ≤ (x16_2 : Int) := of_decide_eq_true AS
           have q416 : x16_2 < (l1.length : Int) := of_decide_eq_true AS
           obtain ⟨ad416, e416, hx416_0⟩ := Kd.at_int HR1.out x16_2 p416 q416
           cases e416
           try (replace hx416_0 := (HB.out.cell (World.block_lt_of_cell? w _ hx416_0)).trans hx416_0)
           replace p416 := eq_true p416
           replace q416 := eq_true q416
           go_wp2_with (first | ((with_reducible refine gate_callee (f := 36) rfl ?_); refine goesL_ (some 23) rfl rfl Try.func36 (by kernel_rfl) rfl #[.int .i64 a0, .int .i64 (rd l1 x16_2)] rfl TA ?_; (with_reducible refine (spec_meAt.calls k2 a0 (rd l1 x16_2) t417 _ A7.out).mono ?_); rintro e w11 ⟨v418, rfl, ho0, hb⟩; refine ⟨_, rfl, ?_⟩; have n0_ := Aside0.mk (Kd.R_lower ho0 (below_size BB)); have n1_ := Aside0.mk (below_step BB hb); clear HB; have HO419 := n0_; have HB := n1_; clear n0_ n1_; (try clear hb); (try clear hb2); (try clear hk); (try clear hi); (try clear ho0); obtain ⟨Ao12, co12, eo12⟩ := Kd.R_slice HO419.out; subst eo12; have p420 : 0 ≤ (x6_1 : Int) := of_decide_eq_true AS; have q420 : x6_1 < (t417.length : Int) := of_decide_eq_true AS; obtain ⟨ad420, e420, hx420_0⟩ := Kd.at_int (Kd.R_reads' HO419.out).2.2 x6_1 p420 q420; cases e420; replace p420 := eq_true p420; replace q420 := eq_true q420) | ((with_reducible refine gate_callee (f := 65) rfl ?_); refine goesL_ (some 27) rfl rfl Try.func65 (by kernel_rfl) rfl #[.int .i64 x7_2, .int .i64 (rd t417 x6_1)] rfl TA ?_; (with_reducible refine (spec_l1Most.calls x7_2 (rd t417 x6_1) t421 _ A10.out).mono ?_); rintro e w' ⟨rfl, ⟨nd, rfl⟩⟩; refine ⟨_, rfl, ?_⟩))
           go_roundg k2
           case measure => have := HK1.out; have := HK2.out; omega
           case rel => exact ⟨(t421), (wrap64 (x16_2 + 1)), RF, RF, H', ⟨by have := HK1.out; have := HK2.out; omega⟩, ⟨BB⟩⟩
          ·rw [if_neg c9] at H
           cases H
         ·rw [if_neg c8] at H
          cases H
        ·rw [if_neg c6] at H
         cases H
       ·rw [if_neg c5] at H
        cases H
      ·rw [if_neg c4] at H
       have c4b0 : decide (x16_2 < (l1.length : Int)) = false := decide_eq_false c4
       clear c4
       have H' := Aside0.mk H
       clear H
       go_wp2
       go_roundg k2
       case measure => have := HK1.out; have := HK2.out; omega
       case rel => exact ⟨(wrap64 (x5_1 + x7_2)), (wrap64 (x6_1 + 1)), RF, RF, H', ⟨by have := HK1.out; have := HK2.out; omega⟩, ⟨BB⟩⟩
   ·rw [if_neg c3] at H
    have c3b0 : decide (x6_1 < 3) = false := decide_eq_false c3
    clear c3
    obtain rfl := Option.some.inj H
    go_wp2
    go_ret
    exact ⟨RE, BB⟩

/-! ### spec_IsUpCell: function 30 -/
def spec_IsUpCell.j0 : Nat → Int → Int → Bool → Option (Bool × Bool)
 | 0, _, _, _ => none
 | k + 1, x0, x1, x17 => if x17 = true then (some (false, false)) else ((spec_meCells.f k x0).bind fun t424 => (if 0 ≤ x1 then (if x1 < (t424.length : Int) then ((spec_meUp.f k x0 (rd_L3 t424 x1)).bind fun t428 => (some (t428, true))) else (none)) else (none)))
def spec_IsUpCell.f (k : Nat) (a0 : Int) (a1 : Int) : Option (Bool × Bool) := (spec_meSide.f a0).bind fun t422 => (if t422 = true then ((spec_l1In.f a1 0 (wrap64 ((wrap64 (a0 * a0)) - 1))).bind fun t423 => (spec_IsUpCell.j0 k a0 a1 (!t423))) else (spec_IsUpCell.j0 k a0 a1 true))
theorem spec_IsUpCell.mono_l : ∀ k, (∀ y0 y1 y2, LeO (spec_IsUpCell.j0 k y0 y1 y2) (spec_IsUpCell.j0 (k + 1) y0 y1 y2))
 | 0 => fun _ _ _ r h => by simp [spec_IsUpCell.j0] at h
 | k + 1 => by
  have ih0 := spec_IsUpCell.mono_l k
  ·intro y0 y1 y2
   unfold spec_IsUpCell.j0
   repeat' first
   | with_reducible first | exact ih0 _ _ _ | exact spec_meCells.mono _ _ | exact spec_meUp.mono _ _ _ | exact LeO.refl _ | exact LeO.none _ | refine LeO.ite ?_ ?_ | refine LeO.bind ?_ (fun _ => ?_)
   | exact LeO.none _ | refine LeO.ite ?_ ?_ | refine LeO.bind ?_ (fun _ => ?_)
theorem spec_IsUpCell.mono : ∀ a0 a1 k, LeO (spec_IsUpCell.f k a0 a1) (spec_IsUpCell.f (k + 1) a0 a1) := by
 intro a0 a1 k
 have ih0 := spec_IsUpCell.mono_l k
 unfold spec_IsUpCell.f
 repeat' first
   | with_reducible first | exact ih0 _ _ _ | exact spec_meCells.mono _ _ | exact spec_meUp.mono _ _ _ | exact LeO.refl _ | exact LeO.none _ | refine LeO.ite ?_ ?_ | refine LeO.bind ?_ (fun _ => ?_)
   | exact LeO.none _ | refine LeO.ite ?_ ?_ | refine LeO.bind ?_ (fun _ => ?_)
theorem spec_IsUpCell.calls (k : Nat) (a0 : Int) (a1 : Int) (r1 : Bool) (r2 : Bool) (w : World) (h : spec_IsUpCell.f k a0 a1 = some (r1, r2)) :
  Calls Try.prog 30 #[.int .i64 a0, .int .i64 a1] w fun e w' => e = .returned (.tuple #[.bool r1, .bool r2]) ∧ Below w.heap.size w w' := by
 have HB := Aside0.mk (Below.refl w.heap.size w)
 have H : ((spec_meSide.f a0).bind fun t422 => (if t422 = true then ((spec_l1In.f a1 0 (wrap64 ((wrap64 (a0 * a0)) - 1))).bind fun t423 => (spec_IsUpCell.j0 k a0 a1 (!t423))) else (spec_IsUpCell.j0 k a0 a1 true))) = some (r1, r2) := h
 clear h
 have HC3 := Aside0.mk H
 clear H
 go_enter Try.func30, Try.ntmps30
 go_upto_region 1 with (fail)
 go_cut [17] (fun v17 wc => ∃ (kq : Nat) (x17_2 : Bool), v17 = .bool x17_2 ∧ Aside0 (spec_IsUpCell.j0 kq a0 a1 x17_2 = some (r1, r2)) ∧ Aside0 (kq ≤ k) ∧ Aside0 (Below w.heap.size w wc))
 case first =>
  have H := HC3.out
  clear HC3
  replace H := EA H
  obtain ⟨t422, A4, H⟩ := H
  by_cases c5 : t422 = true
  ·subst c5
   replace H := IP H
   replace H := EA H
   obtain ⟨t423, A6, H⟩ := H
   have H' := Aside0.mk H
   clear H
   go_wp2_with (first | ((with_reducible refine gate_callee (f := 46) rfl ?_); refine goesL_ (some 7) rfl rfl Try.func46 (by kernel_rfl) rfl #[.int .i64 a0] rfl TA ?_; (with_reducible refine (spec_meSide.calls a0 true _ A4.out).mono ?_); rintro e w' ⟨rfl, ⟨nd, rfl⟩⟩; refine ⟨_, rfl, ?_⟩) | (go_at_call 55; (with_reducible refine (spec_l1In.calls a1 0 (wrap64 ((wrap64 (a0 * a0)) - 1)) t423 _ A6.out).mono ?_); rintro e w' ⟨rfl, ⟨nd, rfl⟩⟩))
   go_meet
   case rel => exact ⟨_, (!t423), RF, H', ⟨by first | omega | exact Nat.le_refl _⟩, ⟨BB⟩⟩
  ·replace c5 := Bool.eq_false_iff.mpr c5
   subst c5
   replace H := IN H
   have H' := Aside0.mk H
   clear H
   go_wp2_with (first | ((with_reducible refine gate_callee (f := 46) rfl ?_); refine goesL_ (some 7) rfl rfl Try.func46 (by kernel_rfl) rfl #[.int .i64 a0] rfl TA ?_; (with_reducible refine (spec_meSide.calls a0 false _ A4.out).mono ?_); rintro e w' ⟨rfl, ⟨nd, rfl⟩⟩; refine ⟨_, rfl, ?_⟩))
   go_meet
   case rel => exact ⟨_, (true), RF, H', ⟨by first | omega | exact Nat.le_refl _⟩, ⟨BB⟩⟩
 case rest =>
  clear HC3
  try clear p2
  try clear c3
  try clear c4
  try clear c5
  try clear p6
  obtain ⟨kq, x17_2, rfl, HA, HJ2, HB⟩ := hcut
  cases kq with
  | zero => exact absurd HA.out (by simp [spec_IsUpCell.j0])
  | succ kj2 =>
   have H := HA.out
   clear HA
   simp only [spec_IsUpCell.j0] at H
   by_cases c7 : x17_2 = true
   ·subst c7
    replace H := IP H
    simp only [Option.some.injEq, Prod.mk.injEq] at H
    obtain ⟨rfl, rfl⟩ := H
    go_wp2
    go_ret2
    exact ⟨RE, BB⟩
   ·replace c7 := Bool.eq_false_iff.mpr c7
    subst c7
    replace H := IN H
    replace H := EA H
    obtain ⟨t424, A8, H⟩ := H
    by_cases c9 : 0 ≤ a1
    ·rw [if_pos c9] at H
     have c9b0 : decide (0 ≤ a1) = true := decide_eq_true c9
     clear c9
     by_cases c10 : a1 < (t424.length : Int)
     ·rw [if_pos c10] at H
      have c10b0 : decide (a1 < (t424.length : Int)) = true := decide_eq_true c10
      clear c10
      replace H := EA H
      obtain ⟨t428, A11, H⟩ := H
      simp only [Option.some.injEq, Prod.mk.injEq] at H
      obtain ⟨rfl, rfl⟩ := H
      go_wp2_with (first | ((with_reducible refine gate_callee (f := 49) rfl ?_); refine goesL_ (some 20) rfl rfl Try.func49 (by kernel_rfl) rfl #[.int .i64 a0] rfl TA ?_; (with_reducible refine (spec_meCells.calls kj2 a0 t424 _ A8.out).mono ?_); rintro e w12 ⟨v425, rfl, ho0, hb⟩; refine ⟨_, rfl, ?_⟩; have n0_ := Aside0.mk (Kd.S_lower ho0 (below_size BB)); have n1_ := Aside0.mk (below_step BB hb); clear HB; have HO426 := n0_; have HB := n1_; clear n0_ n1_; (try clear hb); (try clear hb2); (try clear hk); (try clear hi); (try clear ho0); obtain ⟨Ao13, co13, eo13⟩ := Kd.S_slice HO426.out; subst eo13; have p427 : 0 ≤ (a1 : Int) := of_decide_eq_true AS; have q427 : a1 < (t424.length : Int) := of_decide_eq_true AS; obtain ⟨ad427, A427_0, c427_0, e427, hx427_0, hl427_0, hi427_0⟩ := at_L3 (Kd.S_reads' HO426.out).2.2 a1 p427 q427; cases e427; obtain ⟨ce427, hce427, hMe427, hcc427⟩ := Kd.S_get HO426.out [] a1 p427 (by first | exact q427 | exact of_decide_eq_true AS | (have e_ := (Kd.S_reads' HO426.out).1; omega)); obtain ⟨ve427_0, rfl, ge427_0⟩ := hMe427; have hv427_0 := hcc427 0 _ rfl; rw [Nat.add_zero, show ((Kd.slice 3 (Kd.int .i64))).sz = 1 from rfl, Nat.mul_one] at hv427_0; replace hv427_0 := Option.some.inj (hv427_0.symm.trans hx427_0); rw [hv427_0] at ge427_0; have HL427_0 := Aside0.mk (show Kd.R (Kd.int .i64) 3 _ _ _ _ (rd_L3 t424 a1) from ge427_0); clear hv427_0 ge427_0; clear hcc427 hce427; have HR427_0 := Aside0.mk hi427_0; have HC427_0 := Aside0.mk hl427_0; clear hi427_0 hl427_0; replace p427 := eq_true p427; replace q427 := eq_true q427) | ((with_reducible refine gate_callee (f := 56) rfl ?_); refine goesL_ (some 24) rfl rfl Try.func56 (by kernel_rfl) rfl #[.int .i64 a0, .slice A427_0 (rd_L3 t424 a1).length c427_0] rfl TA ?_; (with_reducible refine (spec_meUp.calls kj2 a0 _ _ (rd_L3 t424 a1) t428 _ ?side1 ?side2 A11.out).mono ?_); (case side1 => exact CW (by repeat (first | (with_reducible exact HR427_0.out) | (with_reducible refine Kd.C_drewN ?_ _) | (with_reducible refine Kd.C_drew ?_) | (with_reducible refine Kd.C_alloc ?_ _) | exact HR427_0.out))); (case side2 => exact HC427_0.out); rintro e w14 ⟨rfl, hb⟩; refine ⟨_, rfl, ?_⟩; have n0_ := Aside0.mk (Kd.S_below (KS HO426) hb); have n1_ := Aside0.mk (Kd.R_below (KR HL427_0) hb); have n2_ := Aside0.mk (Kd.C_below (by repeat (first | (with_reducible exact HR427_0.out) | (with_reducible refine Kd.C_drewN ?_ _) | (with_reducible refine Kd.C_drew ?_) | (with_reducible refine Kd.C_alloc ?_ _) | exact HR427_0.out)) hb); have n3_ := Aside0.mk (below_step BB hb); clear HO426; clear HL427_0; clear HR427_0; clear HB; have HO426 := n0_; have HL427_0 := n1_; have HR427_0 := n2_; have HB := n3_; clear n0_ n1_ n2_ n3_; (try clear hb); (try clear hb2); (try clear hk); (try clear hi)))
      go_ret2
      exact ⟨RE, BB⟩
     ·rw [if_neg c10] at H
      cases H
    ·rw [if_neg c9] at H
     cases H

end Go.Proofs.Ythkdkgbcokpbaab.PFnTrianglesAreCut
