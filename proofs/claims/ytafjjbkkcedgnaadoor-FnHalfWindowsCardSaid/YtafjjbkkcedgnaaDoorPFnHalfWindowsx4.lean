-- Written by a program of this session (wip/tools/pp.sh) out of the translation; Lean checks it.
import Derived.Test.YtafjjbkkcedgnaaDoorPFnHalfWindowsx0
import Derived.Test.YtafjjbkkcedgnaaDoorPFnHalfWindowsx1
import Derived.Test.YtafjjbkkcedgnaaDoorPFnHalfWindowsx2
import Derived.Test.YtafjjbkkcedgnaaDoorPFnHalfWindowsx3
namespace Go.Proofs.YtafjjbkkcedgnaaDoor.PFnHalfWindows
open Go.RowKit Go.Proofs.YtafjjbkkcedgnaaDoorOwn Go.Proofs.YtafjjbkkcedgnaaDoorW.PrintWords Go.Proofs.YtafjjbkkcedgnaaDoorW.PrintLast Go.Proofs.YtafjjbkkcedgnaaDoorW.PrintMore
attribute [local go_sem] max2_int min2_int max_two min_two max_three min_three max_four min_four   -- for this text's walks alone
set_option linter.unusedVariables false
set_option maxHeartbeats 8000000
set_option maxRecDepth 100000
set_option linter.unusedSimpArgs false

/-! ### spec_nlEven: function 49 -/
def spec_nlEven.l0 : Nat → List Int → Int → Int → Option (Bool)
 | 0, _, _, _ => none
 | k + 1, x6, x7, x8 => if x8 < x7 then (if 0 ≤ x8 then (if x8 < (x6.length : Int) then (if (Int.tmod (rd x6 x8) 2) = 1 then (some false) else (spec_nlEven.l0 k x6 x7 (wrap64 (x8 + 1)))) else (none)) else (none)) else (some true)
def spec_nlEven.f (k : Nat) (a0 : ByteArray) : Option (Bool) := (spec_nlCounts.f k a0).bind fun t199 => (spec_nlEven.l0 k t199 (t199.length : Int) 0)
theorem spec_nlEven.mono_l : ∀ k, (∀ y0 y1 y2, LeO (spec_nlEven.l0 k y0 y1 y2) (spec_nlEven.l0 (k + 1) y0 y1 y2))
 | 0 => fun _ _ _ r h => by simp [spec_nlEven.l0] at h
 | k + 1 => by
  have ih0 := spec_nlEven.mono_l k
  ·intro y0 y1 y2
   unfold spec_nlEven.l0
   repeat' first
   | with_reducible first | exact ih0 _ _ _ | exact spec_nlCounts.mono _ _ | exact LeO.refl _ | exact LeO.none _ | refine LeO.ite ?_ ?_ | refine LeO.bind ?_ (fun _ => ?_)
   | exact LeO.none _ | refine LeO.ite ?_ ?_ | refine LeO.bind ?_ (fun _ => ?_)
theorem spec_nlEven.mono : ∀ a0 k, LeO (spec_nlEven.f k a0) (spec_nlEven.f (k + 1) a0) := by
 intro a0 k
 have ih0 := spec_nlEven.mono_l k
 unfold spec_nlEven.f
 repeat' first
   | with_reducible first | exact ih0 _ _ _ | exact spec_nlCounts.mono _ _ | exact LeO.refl _ | exact LeO.none _ | refine LeO.ite ?_ ?_ | refine LeO.bind ?_ (fun _ => ?_)
   | exact LeO.none _ | refine LeO.ite ?_ ?_ | refine LeO.bind ?_ (fun _ => ?_)
theorem spec_nlEven.calls (k : Nat) (a0 : ByteArray) (r : Bool) (w : World) (h : spec_nlEven.f k a0 = some r) :
  Calls Tryd.prog 49 #[.string a0] w fun e w' => e = .returned (.bool r) ∧ Below w.heap.size w w' := by
 have HB := Aside0.mk (Below.refl w.heap.size w)
 have H : ((spec_nlCounts.f k a0).bind fun t199 => (spec_nlEven.l0 k t199 (t199.length : Int) 0)) = some r := h
 clear h
 obtain ⟨t199, A20, H⟩ := Option.bind_eq_some_iff.mp H
 have A2 := Aside0.mk A20
 clear A20
 have H' := Aside0.mk H
 clear H
 go_enter Tryd.func49, Tryd.ntmps49
 go_wp2_with (first | ((with_reducible refine gate_callee (f := 57) rfl ?_); refine goesL_ (some 6) rfl rfl Tryd.func57 (by kernel_rfl) rfl #[.string a0] rfl TA ?_; (with_reducible refine (spec_nlCounts.calls k a0 t199 _ A2.out).mono ?_); rintro e w3 ⟨v200, rfl, ho0, hb⟩; refine ⟨_, rfl, ?_⟩; have n0_ := Aside0.mk (Kd.R_lower ho0 (below_size BB)); have n1_ := Aside0.mk (below_step BB hb); clear HB; have HO201 := n0_; have HB := n1_; clear n0_ n1_; (try clear hb); (try clear hb2); (try clear hk); (try clear hi); (try clear ho0); obtain ⟨Ao4, co4, eo4⟩ := Kd.R_slice HO201.out; subst eo4))
 go_loopg [8] k (fun kq v8 w' => ∃ (x8_1 : Int), v8 = .int .i64 x8_1 ∧ Aside0 (spec_nlEven.l0 kq t199 (t199.length : Int) x8_1 = some r) ∧ Aside0 (kq ≤ k) ∧ Aside0 (Kd.R (Kd.int .i64) 3 w' w.heap.size (fun _ => True) (.slice Ao4 t199.length co4) t199) ∧ Aside0 (Below w.heap.size w w'))
 case atStart => exact ⟨(0), RF, H', ⟨Nat.le_refl _⟩, ⟨KR HO201⟩, ⟨BB⟩⟩
 case round =>
  clear H'
  try clear p2
  try clear c4
  obtain ⟨x8_1, rfl, HA, HK1, HO_6, HB⟩ := hrel
  cases gk with
  | zero => exact absurd HA.out (by simp [spec_nlEven.l0])
  | succ k1 =>
   have H := HA.out
   clear HA
   simp only [spec_nlEven.l0] at H
   by_cases c5 : x8_1 < (t199.length : Int)
   ·rw [if_pos c5] at H
    have c5b0 : decide (x8_1 < (t199.length : Int)) = true := decide_eq_true c5
    clear c5
    by_cases c6 : 0 ≤ x8_1
    ·rw [if_pos c6] at H
     have c6b0 : decide (0 ≤ x8_1) = true := decide_eq_true c6
     clear c6
     by_cases c7 : x8_1 < (t199.length : Int)
     ·rw [if_pos c7] at H
      have c7b0 : decide (x8_1 < (t199.length : Int)) = true := decide_eq_true c7
      clear c7
      by_cases c8 : (Int.tmod (rd t199 x8_1) 2) = 1
      ·rw [if_pos c8] at H
       have c8b0 : ((Int.tmod (rd t199 x8_1) 2) == 1) = true := beq_iff_eq.mpr c8
       have c8b1 : ((Int.tmod (rd t199 x8_1) 2) != 1) = false := bne_eq_false_iff_eq.mpr c8
       clear c8
       obtain rfl := Option.some.inj H
       have p202 : 0 ≤ (x8_1 : Int) := of_decide_eq_true AS
       have q202 : x8_1 < (t199.length : Int) := of_decide_eq_true AS
       obtain ⟨ad202, e202, hx202_0⟩ := Kd.at_int (Kd.R_reads' HO_6.out).2.2 x8_1 p202 q202
       cases e202
       replace p202 := eq_true p202
       replace q202 := eq_true q202
       go_wp2
       go_ret
       exact ⟨RE, BB⟩
      ·rw [if_neg c8] at H
       have c8b0 : ((Int.tmod (rd t199 x8_1) 2) == 1) = false := beq_eq_false_iff_ne.mpr c8
       have c8b1 : ((Int.tmod (rd t199 x8_1) 2) != 1) = true := bne_iff_ne.mpr c8
       have H' := Aside0.mk H
       clear H
       have p202 : 0 ≤ (x8_1 : Int) := of_decide_eq_true AS
       have q202 : x8_1 < (t199.length : Int) := of_decide_eq_true AS
       obtain ⟨ad202, e202, hx202_0⟩ := Kd.at_int (Kd.R_reads' HO_6.out).2.2 x8_1 p202 q202
       cases e202
       replace p202 := eq_true p202
       replace q202 := eq_true q202
       go_wp2
       go_roundg k1
       case measure => have := HK1.out; omega
       case rel => exact ⟨(wrap64 (x8_1 + 1)), RF, H', ⟨by have := HK1.out; omega⟩, ⟨KR HO_6⟩, ⟨BB⟩⟩
     ·rw [if_neg c7] at H
      cases H
    ·rw [if_neg c6] at H
     cases H
   ·rw [if_neg c5] at H
    have c5b0 : decide (x8_1 < (t199.length : Int)) = false := decide_eq_false c5
    clear c5
    obtain rfl := Option.some.inj H
    go_wp2
    go_ret
    exact ⟨RE, BB⟩

/-! ### spec_nlKinds: function 56 -/
def spec_nlKinds.l0 : Nat → Int → List Int → Int → Int → Option (Int)
 | 0, _, _, _, _ => none
 | k + 1, x3, x7, x8, x9 => if x9 < x8 then (if 0 ≤ x9 then (if x9 < (x7.length : Int) then (if (rd x7 x9) > 0 then (spec_nlKinds.l0 k (wrap64 (x3 + 1)) x7 x8 (wrap64 (x9 + 1))) else (spec_nlKinds.l0 k x3 x7 x8 (wrap64 (x9 + 1)))) else (none)) else (none)) else (some x3)
def spec_nlKinds.f (k : Nat) (a0 : ByteArray) : Option (Int) := (spec_nlCounts.f k a0).bind fun t203 => (spec_nlKinds.l0 k 0 t203 (t203.length : Int) 0)
theorem spec_nlKinds.mono_l : ∀ k, (∀ y0 y1 y2 y3, LeO (spec_nlKinds.l0 k y0 y1 y2 y3) (spec_nlKinds.l0 (k + 1) y0 y1 y2 y3))
 | 0 => fun _ _ _ _ r h => by simp [spec_nlKinds.l0] at h
 | k + 1 => by
  have ih0 := spec_nlKinds.mono_l k
  ·intro y0 y1 y2 y3
   unfold spec_nlKinds.l0
   repeat' first
   | with_reducible first | exact ih0 _ _ _ _ | exact spec_nlCounts.mono _ _ | exact LeO.refl _ | exact LeO.none _ | refine LeO.ite ?_ ?_ | refine LeO.bind ?_ (fun _ => ?_)
   | exact LeO.none _ | refine LeO.ite ?_ ?_ | refine LeO.bind ?_ (fun _ => ?_)
theorem spec_nlKinds.mono : ∀ a0 k, LeO (spec_nlKinds.f k a0) (spec_nlKinds.f (k + 1) a0) := by
 intro a0 k
 have ih0 := spec_nlKinds.mono_l k
 unfold spec_nlKinds.f
 repeat' first
   | with_reducible first | exact ih0 _ _ _ _ | exact spec_nlCounts.mono _ _ | exact LeO.refl _ | exact LeO.none _ | refine LeO.ite ?_ ?_ | refine LeO.bind ?_ (fun _ => ?_)
   | exact LeO.none _ | refine LeO.ite ?_ ?_ | refine LeO.bind ?_ (fun _ => ?_)
theorem spec_nlKinds.calls (k : Nat) (a0 : ByteArray) (r : Int) (w : World) (h : spec_nlKinds.f k a0 = some r) :
  Calls Tryd.prog 56 #[.string a0] w fun e w' => e = .returned (.int .i64 r) ∧ Below w.heap.size w w' := by
 have HB := Aside0.mk (Below.refl w.heap.size w)
 have H : ((spec_nlCounts.f k a0).bind fun t203 => (spec_nlKinds.l0 k 0 t203 (t203.length : Int) 0)) = some r := h
 clear h
 obtain ⟨t203, A20, H⟩ := Option.bind_eq_some_iff.mp H
 have A2 := Aside0.mk A20
 clear A20
 have H' := Aside0.mk H
 clear H
 go_enter Tryd.func56, Tryd.ntmps56
 go_wp2_with (first | ((with_reducible refine gate_callee (f := 57) rfl ?_); refine goesL_ (some 7) rfl rfl Tryd.func57 (by kernel_rfl) rfl #[.string a0] rfl TA ?_; (with_reducible refine (spec_nlCounts.calls k a0 t203 _ A2.out).mono ?_); rintro e w3 ⟨v204, rfl, ho0, hb⟩; refine ⟨_, rfl, ?_⟩; have n0_ := Aside0.mk (Kd.R_lower ho0 (below_size BB)); have n1_ := Aside0.mk (below_step BB hb); clear HB; have HO205 := n0_; have HB := n1_; clear n0_ n1_; (try clear hb); (try clear hb2); (try clear hk); (try clear hi); (try clear ho0); obtain ⟨Ao4, co4, eo4⟩ := Kd.R_slice HO205.out; subst eo4))
 go_loopg [3, 9] k (fun kq v3 v9 w' => ∃ (x3_1 : Int) (x9_1 : Int), v3 = .int .i64 x3_1 ∧ v9 = .int .i64 x9_1 ∧ Aside0 (spec_nlKinds.l0 kq x3_1 t203 (t203.length : Int) x9_1 = some r) ∧ Aside0 (kq ≤ k) ∧ Aside0 (Kd.R (Kd.int .i64) 3 w' w.heap.size (fun _ => True) (.slice Ao4 t203.length co4) t203) ∧ Aside0 (Below w.heap.size w w'))
 case atStart => exact ⟨(0), (0), RF, RF, H', ⟨Nat.le_refl _⟩, ⟨KR HO205⟩, ⟨BB⟩⟩
 case round =>
  clear H'
  try clear p2
  obtain ⟨x3_1, x9_1, rfl, rfl, HA, HK1, HO_7, HB⟩ := hrel
  cases gk with
  | zero => exact absurd HA.out (by simp [spec_nlKinds.l0])
  | succ k1 =>
   have H := HA.out
   clear HA
   simp only [spec_nlKinds.l0] at H
   by_cases c5 : x9_1 < (t203.length : Int)
   ·rw [if_pos c5] at H
    have c5b0 : decide (x9_1 < (t203.length : Int)) = true := decide_eq_true c5
    clear c5
    by_cases c6 : 0 ≤ x9_1
    ·rw [if_pos c6] at H
     have c6b0 : decide (0 ≤ x9_1) = true := decide_eq_true c6
     clear c6
     by_cases c7 : x9_1 < (t203.length : Int)
     ·rw [if_pos c7] at H
      have c7b0 : decide (x9_1 < (t203.length : Int)) = true := decide_eq_true c7
      clear c7
      by_cases c8 : (rd t203 x9_1) > 0
      ·rw [if_pos c8] at H
       have c8b0 : decide (0 < (rd t203 x9_1)) = true := decide_eq_true c8
       clear c8
       have H' := Aside0.mk H
       clear H
       have p206 : 0 ≤ (x9_1 : Int) := of_decide_eq_true AS
       have q206 : x9_1 < (t203.length : Int) := of_decide_eq_true AS
       obtain ⟨ad206, e206, hx206_0⟩ := Kd.at_int (Kd.R_reads' HO_7.out).2.2 x9_1 p206 q206
       cases e206
       replace p206 := eq_true p206
       replace q206 := eq_true q206
       go_wp2
       go_roundg k1
       case measure => have := HK1.out; omega
       case rel => exact ⟨(wrap64 (x3_1 + 1)), (wrap64 (x9_1 + 1)), RF, RF, H', ⟨by have := HK1.out; omega⟩, ⟨KR HO_7⟩, ⟨BB⟩⟩
      ·rw [if_neg c8] at H
       have c8b0 : decide (0 < (rd t203 x9_1)) = false := decide_eq_false c8
       clear c8
       have H' := Aside0.mk H
       clear H
       have p206 : 0 ≤ (x9_1 : Int) := of_decide_eq_true AS
       have q206 : x9_1 < (t203.length : Int) := of_decide_eq_true AS
       obtain ⟨ad206, e206, hx206_0⟩ := Kd.at_int (Kd.R_reads' HO_7.out).2.2 x9_1 p206 q206
       cases e206
       replace p206 := eq_true p206
       replace q206 := eq_true q206
       go_wp2
       go_roundg k1
       case measure => have := HK1.out; omega
       case rel => exact ⟨(x3_1), (wrap64 (x9_1 + 1)), RF, RF, H', ⟨by have := HK1.out; omega⟩, ⟨KR HO_7⟩, ⟨BB⟩⟩
     ·rw [if_neg c7] at H
      cases H
    ·rw [if_neg c6] at H
     cases H
   ·rw [if_neg c5] at H
    have c5b0 : decide (x9_1 < (t203.length : Int)) = false := decide_eq_false c5
    clear c5
    obtain rfl := Option.some.inj H
    go_wp2
    go_ret
    exact ⟨RE, BB⟩

/-! ### spec_nlWindow: function 58 -/
def spec_nlWindow.l0 : Nat → ByteArray → Int → Int → List Int → Int → Option (List Int)
 | 0, _, _, _, _, _ => none
 | k + 1, x0, x1, x2, x7, x8 => if x8 < x2 then (if (x0.size : Int) = 0 then (none) else (if 0 ≤ (Int.tmod (wrap64 (x1 + x8)) (x0.size : Int)) then (if (Int.tmod (wrap64 (x1 + x8)) (x0.size : Int)) < (x0.size : Int) then (if 0 ≤ (((bt x0 (Int.tmod (wrap64 (x1 + x8)) (x0.size : Int))) - 97) % 256) then (if (((bt x0 (Int.tmod (wrap64 (x1 + x8)) (x0.size : Int))) - 97) % 256) < (x7.length : Int) then (spec_nlWindow.l0 k x0 x1 x2 (x7.set ((((bt x0 (Int.tmod (wrap64 (x1 + x8)) (x0.size : Int))) - 97) % 256) : Int).toNat (wrap64 ((rd x7 (((bt x0 (Int.tmod (wrap64 (x1 + x8)) (x0.size : Int))) - 97) % 256)) + 1))) (wrap64 (x8 + 1))) else (none)) else (none)) else (none)) else (none))) else (some x7)
def spec_nlWindow.f (k : Nat) (a0 : ByteArray) (a1 : Int) (a2 : Int) : Option (List Int) := if 4 ≤ 35184372088832 then (spec_nlWindow.l0 k a0 a1 a2 (List.replicate 4 0) 0) else (none)
theorem spec_nlWindow.mono_l : ∀ k, (∀ y0 y1 y2 y3 y4, LeO (spec_nlWindow.l0 k y0 y1 y2 y3 y4) (spec_nlWindow.l0 (k + 1) y0 y1 y2 y3 y4))
 | 0 => fun _ _ _ _ _ r h => by simp [spec_nlWindow.l0] at h
 | k + 1 => by
  have ih0 := spec_nlWindow.mono_l k
  ·intro y0 y1 y2 y3 y4
   unfold spec_nlWindow.l0
   repeat' first
   | with_reducible first | exact ih0 _ _ _ _ _ | exact LeO.refl _ | exact LeO.none _ | refine LeO.ite ?_ ?_ | refine LeO.bind ?_ (fun _ => ?_)
   | exact LeO.none _ | refine LeO.ite ?_ ?_ | refine LeO.bind ?_ (fun _ => ?_)
theorem spec_nlWindow.mono : ∀ a0 a1 a2 k, LeO (spec_nlWindow.f k a0 a1 a2) (spec_nlWindow.f (k + 1) a0 a1 a2) := by
 intro a0 a1 a2 k
 have ih0 := spec_nlWindow.mono_l k
 unfold spec_nlWindow.f
 repeat' first
   | with_reducible first | exact ih0 _ _ _ _ _ | exact LeO.refl _ | exact LeO.none _ | refine LeO.ite ?_ ?_ | refine LeO.bind ?_ (fun _ => ?_)
   | exact LeO.none _ | refine LeO.ite ?_ ?_ | refine LeO.bind ?_ (fun _ => ?_)
theorem spec_nlWindow.calls (k : Nat) (a0 : ByteArray) (a1 : Int) (a2 : Int) (r : List Int) (w : World) (h : spec_nlWindow.f k a0 a1 a2 = some r) :
  Calls Tryd.prog 58 #[.string a0, .int .i64 a1, .int .i64 a2] w fun e w' => ∃ v0_ : Value, e = .returned (v0_) ∧ Kd.R (Kd.int .i64) 3 w' w.heap.size (fun _ => True) v0_ r ∧ Below w.heap.size w w' := by
 have HB := Aside0.mk (Below.refl w.heap.size w)
 have H : (if 4 ≤ 35184372088832 then (spec_nlWindow.l0 k a0 a1 a2 (List.replicate 4 0) 0) else (none)) = some r := h
 clear h
 by_cases c4 : 4 ≤ 35184372088832
 ·rw [if_pos c4] at H
  have c4b0 := eq_true c4
  have c4b1 : decide (4 ≤ 35184372088832) = true := decide_eq_true c4
  clear c4
  obtain ⟨y207, hy207⟩ : ∃ y_ : List Int, y_ = (List.replicate 4 0) := ⟨_, rfl⟩
  replace H : (spec_nlWindow.l0 k a0 a1 a2 y207 0) = some r := HY H hy207
  have Ny207 := Aside0.mk hy207
  clear hy207
  have H' := Aside0.mk H
  clear H
  go_enter Tryd.func58, Tryd.ntmps58
  go_wp2_with (first | ((with_reducible refine gate_dst (N := 9) rfl ?_); refine Kd.R_make (Kd.int .i64) _ 3 rfl (N := 9) rfl 24 _ _ rfl 4 rfl rfl Tryd.underlying24 (.int .i64 0) 8 info3 rfl (by decide) (by omega) 0 (ok := fun _ => True) (okp := fun _ => True) rfl (fun _ hk => hk) trivial (by omega) (by omega) (Below.refl _ _) (Nat.le_refl _) ?_; intro v208 w5 ho6 hb hg_ hnew_; clear hg_ hnew_; (first | rw [← Ny207.out] at ho6 | (simp only [Int.reduceToNat] at ho6; rw [← Ny207.out] at ho6)); have n0_ := Aside0.mk (Kd.R_lower ho6 (below_size BB)); have n1_ := Aside0.mk (below_step BB hb); clear HB; have HO209 := n0_; have HB := n1_; clear n0_ n1_; clear hb ho6))
  go_loopg [8] k (fun kq v8 w' => ∃ (x7_1 : List Int) (x8_1 : Int), v8 = .int .i64 x8_1 ∧ Aside0 (spec_nlWindow.l0 kq a0 a1 a2 x7_1 x8_1 = some r) ∧ Aside0 (kq ≤ k) ∧ Aside0 (Kd.R (Kd.int .i64) 3 w' w.heap.size (fun _ => True) v208 x7_1) ∧ Aside0 (Below w.heap.size w w'))
  case atStart => exact ⟨(y207), (0), RF, H', ⟨Nat.le_refl _⟩, ⟨KR HO209⟩, ⟨BB⟩⟩
  case round =>
   clear H'
   try clear p2
   try clear c4
   try clear c4b0
   try clear c4b1
   try clear c5
   try clear p6
   obtain ⟨x7_1, x8_1, rfl, HA, HK1, HO_7, HB⟩ := hrel
   cases gk with
   | zero => exact absurd HA.out (by simp [spec_nlWindow.l0])
   | succ k1 =>
    have H := HA.out
    clear HA
    simp only [spec_nlWindow.l0] at H
    by_cases c7 : x8_1 < a2
    ·rw [if_pos c7] at H
     have c7b0 : decide (x8_1 < a2) = true := decide_eq_true c7
     clear c7
     by_cases c8 : (a0.size : Int) = 0
     ·rw [if_pos c8] at H
      cases H
     ·rw [if_neg c8] at H
      have c8b0 : ((a0.size : Int) == 0) = false := beq_eq_false_iff_ne.mpr c8
      have c8b1 : ((a0.size : Int) != 0) = true := bne_iff_ne.mpr c8
      obtain ⟨ji9, hji9⟩ : ∃ j_ : Int, (Int.tmod (wrap64 (a1 + x8_1)) (a0.size : Int)) = j_ := ⟨_, rfl⟩
      replace H : (if 0 ≤ (ji9) then (if (ji9) < (a0.size : Int) then (if 0 ≤ (((bt a0 (ji9)) - 97) % 256) then (if (((bt a0 (ji9)) - 97) % 256) < (x7_1.length : Int) then (spec_nlWindow.l0 k1 a0 a1 a2 (x7_1.set ((((bt a0 (ji9)) - 97) % 256) : Int).toNat (wrap64 ((rd x7_1 (((bt a0 (ji9)) - 97) % 256)) + 1))) (wrap64 (x8_1 + 1))) else (none)) else (none)) else (none)) else (none)) = some r := by first | (rw [hji9] at H; exact H) | (simp only [hji9] at H ⊢; exact H)
      by_cases c10 : 0 ≤ (ji9)
      ·rw [if_pos c10] at H
       have c10b0 : decide (0 ≤ (ji9)) = true := decide_eq_true c10
       clear c10
       by_cases c11 : (ji9) < (a0.size : Int)
       ·rw [if_pos c11] at H
        have c11b0 : decide ((ji9) < (a0.size : Int)) = true := decide_eq_true c11
        clear c11
        obtain ⟨ji13, hji13⟩ : ∃ j_ : Int, (((bt a0 (ji9)) - 97) % 256) = j_ := ⟨_, rfl⟩
        replace H : (if 0 ≤ (ji13) then (if (ji13) < (x7_1.length : Int) then (spec_nlWindow.l0 k1 a0 a1 a2 (x7_1.set ((ji13) : Int).toNat (wrap64 ((rd x7_1 (ji13)) + 1))) (wrap64 (x8_1 + 1))) else (none)) else (none)) = some r := by first | (rw [hji13] at H; exact H) | (simp only [hji13] at H ⊢; exact H)
        by_cases c14 : 0 ≤ (ji13)
        ·rw [if_pos c14] at H
         have c14b0 : decide (0 ≤ (ji13)) = true := decide_eq_true c14
         clear c14
         by_cases c15 : (ji13) < (x7_1.length : Int)
         ·rw [if_pos c15] at H
          have c15b0 : decide ((ji13) < (x7_1.length : Int)) = true := decide_eq_true c15
          clear c15
          obtain ⟨y211, hy211⟩ : ∃ y_ : List Int, y_ = (x7_1.set ((ji13) : Int).toNat (wrap64 ((rd x7_1 (ji13)) + 1))) := ⟨_, rfl⟩
          replace H : (spec_nlWindow.l0 k1 a0 a1 a2 y211 (wrap64 (x8_1 + 1))) = some r := HY H hy211
          have Ny211 := Aside0.mk hy211
          clear hy211
          have H' := Aside0.mk H
          clear H
          have p12 : 0 ≤ ((ji9) : Int) := of_decide_eq_true AS
          have q12 : (ji9) < (a0.size : Int) := of_decide_eq_true AS
          have hx12 := bt_at a0 (ji9)
          replace p12 := eq_true p12
          replace q12 := eq_true q12
          obtain ⟨Ao17, co17, eo17⟩ := Kd.R_slice HO_7.out
          subst eo17
          have p210 : 0 ≤ ((ji13) : Int) := of_decide_eq_true AS
          have q210 : (ji13) < (x7_1.length : Int) := of_decide_eq_true AS
          obtain ⟨ad210, e210, hx210_0⟩ := Kd.at_int (Kd.R_reads' HO_7.out).2.2 (ji13) p210 q210
          cases e210
          replace p210 := eq_true p210
          replace q210 := eq_true q210
          have p16 : 0 ≤ ((ji13) : Int) := of_decide_eq_true AS
          have q16 : ((ji13) : Int) < ((x7_1.length : Int) : Int) := of_decide_eq_true AS
          obtain ⟨go16, co16, eo16, gb16, gl16, cl16, HG16⟩ := Kd.R_form HO_7.out (by omega)
          (first | cases eo16 | (injection eo16 with ea_ en_ ec_; (first | subst ea_ | (injection ea_ with ea_; subst ea_)); subst ec_; clear en_))
          have GB16 := Aside0.mk gb16
          have GG16 := Aside0.mk HG16
          clear gb16 gl16 HG16
          (first | simp only [add_plain] at hx210_0 | skip)
          obtain ⟨hx16_0, hf16_0⟩ := Kd.R_celln 0 HO_7.out ((ji13) : Int) p16 q16
          replace p16 := eq_true p16
          replace q16 := eq_true q16
          have HP18 := Kd.R_putg HO_7.out ((ji13) : Int) (wrap64 ((rd x7_1 (ji13)) + 1))
          go_wp2_with (first | ((with_reducible refine gate_store (t := 3) (p := 29) rfl ?_); refine store_event (t := 3) (p := 29) (v := ?vo_w19) (w1 := (wr.setCell ⟨go16, ((ji13) : Int).toNat, none⟩ (.int .i64 (wrap64 ((rd x7_1 (ji13)) + 1))))) ?hg ?ho ?hn ?hr ?_; (case ho => rfl); (case hg => rfl); (case hn => rfl); (case hr => exact GS); intro w19 hw; have hg : wr.grownBy w19 (some go16) := (by rw [hw]; exact HP18.2); have hp_ : Kd.R (Kd.int .i64) 3 w19 w.heap.size (fun _ => True) (.slice (some ⟨go16, 0, none⟩) x7_1.length co17) y211 := (by rw [hw, Ny211.out]; exact HP18.1); clear HP18; have n0_ := Aside0.mk (hp_); have n1_ := Aside0.mk ((by rw [hw]; exact below_set (HB.out) GB16.out : Below w.heap.size w w19)); clear HO_7; clear HB; have HO_7 := n0_; have HB := n1_; clear n0_ n1_; clear hg hw hp_))
          go_roundg k1
          case measure => have := HK1.out; omega
          case rel => exact ⟨(y211), (wrap64 (x8_1 + 1)), RF, H', ⟨by have := HK1.out; omega⟩, ⟨KR HO_7⟩, ⟨BB⟩⟩
         ·rw [if_neg c15] at H
          cases H
        ·rw [if_neg c14] at H
         cases H
       ·rw [if_neg c11] at H
        cases H
      ·rw [if_neg c10] at H
       cases H
    ·rw [if_neg c7] at H
     have c7b0 : decide (x8_1 < a2) = false := decide_eq_false c7
     clear c7
     obtain rfl := Option.some.inj H
     go_wp2
     go_ret
     exact ⟨_, RE, KR HO_7, BB⟩
 ·rw [if_neg c4] at H
  cases H

/-! ### spec_HalfWindow: function 21 -/
mutual
def spec_HalfWindow.j0 : Nat → ByteArray → Bool → Option (Int × Bool)
 | 0, _, _ => none
 | k + 1, x0, x25 => if x25 = true then (some (0, false)) else ((spec_nlCounts.f k x0).bind fun t215 => (spec_HalfWindow.l0 k x0 t215 0))
def spec_HalfWindow.l0 : Nat → ByteArray → List Int → Int → Option (Int × Bool)
 | 0, _, _, _ => none
 | k + 1, x0, x4, x5 => if x5 < (x0.size : Int) then ((spec_nlWindow.f k x0 x5 (wrap64 ((x0.size : Int) / 2))).bind fun t218 => (spec_HalfWindow.l1 k x0 x4 x5 true t218 (t218.length : Int) 0)) else (some (0, false))
def spec_HalfWindow.l1 : Nat → ByteArray → List Int → Int → Bool → List Int → Int → Int → Option (Int × Bool)
 | 0, _, _, _, _, _, _, _ => none
 | k + 1, x0, x4, x5, x6, x39, x40, x41 => if x41 < x40 then (if 0 ≤ x41 then (if x41 < (x39.length : Int) then (if x6 = true then (if x41 < (x4.length : Int) then (spec_HalfWindow.l1 k x0 x4 x5 ((wrap64 (2 * (rd x39 x41))) == (rd x4 x41)) x39 x40 (wrap64 (x41 + 1))) else (none)) else (spec_HalfWindow.l1 k x0 x4 x5 false x39 x40 (wrap64 (x41 + 1)))) else (none)) else (none)) else (if x6 = true then (some (x5, true)) else (spec_HalfWindow.l0 k x0 x4 (wrap64 (x5 + 1))))
end
def spec_HalfWindow.f (k : Nat) (a0 : ByteArray) : Option (Int × Bool) := (spec_nlGood.f k a0).bind fun t212 => (if t212 = true then (if a0.toList = ([] : List UInt8) then (spec_HalfWindow.j0 k a0 true) else ((spec_nlEven.f k a0).bind fun t213 => (if t213 = true then ((spec_nlKinds.f k a0).bind fun t214 => (spec_HalfWindow.j0 k a0 (decide (t214 > 2)))) else (spec_HalfWindow.j0 k a0 true)))) else (spec_HalfWindow.j0 k a0 true))
theorem spec_HalfWindow.mono_l : ∀ k, (∀ y0 y1, LeO (spec_HalfWindow.j0 k y0 y1) (spec_HalfWindow.j0 (k + 1) y0 y1)) ∧ (∀ y0 y1 y2, LeO (spec_HalfWindow.l0 k y0 y1 y2) (spec_HalfWindow.l0 (k + 1) y0 y1 y2)) ∧ (∀ y0 y1 y2 y3 y4 y5 y6, LeO (spec_HalfWindow.l1 k y0 y1 y2 y3 y4 y5 y6) (spec_HalfWindow.l1 (k + 1) y0 y1 y2 y3 y4 y5 y6))
 | 0 => ⟨fun _ _ r h => by simp [spec_HalfWindow.j0] at h, fun _ _ _ r h => by simp [spec_HalfWindow.l0] at h, fun _ _ _ _ _ _ _ r h => by simp [spec_HalfWindow.l1] at h⟩
 | k + 1 => by
  obtain ⟨ih0, ih1, ih2⟩ := spec_HalfWindow.mono_l k
  refine ⟨?_, ?_, ?_⟩
  ·intro y0 y1
   unfold spec_HalfWindow.j0
   repeat' first
   | with_reducible first | exact ih0 _ _ | exact ih1 _ _ _ | exact ih2 _ _ _ _ _ _ _ | exact spec_nlCounts.mono _ _ | exact spec_nlEven.mono _ _ | exact spec_nlGood.mono _ _ | exact spec_nlKinds.mono _ _ | exact spec_nlWindow.mono _ _ _ _ | exact LeO.refl _ | exact LeO.none _ | refine LeO.ite ?_ ?_ | refine LeO.bind ?_ (fun _ => ?_)
   | exact LeO.none _ | refine LeO.ite ?_ ?_ | refine LeO.bind ?_ (fun _ => ?_)
  ·intro y0 y1 y2
   unfold spec_HalfWindow.l0
   repeat' first
   | with_reducible first | exact ih0 _ _ | exact ih1 _ _ _ | exact ih2 _ _ _ _ _ _ _ | exact spec_nlCounts.mono _ _ | exact spec_nlEven.mono _ _ | exact spec_nlGood.mono _ _ | exact spec_nlKinds.mono _ _ | exact spec_nlWindow.mono _ _ _ _ | exact LeO.refl _ | exact LeO.none _ | refine LeO.ite ?_ ?_ | refine LeO.bind ?_ (fun _ => ?_)
   | exact LeO.none _ | refine LeO.ite ?_ ?_ | refine LeO.bind ?_ (fun _ => ?_)
  ·intro y0 y1 y2 y3 y4 y5 y6
   unfold spec_HalfWindow.l1
   repeat' first
   | with_reducible first | exact ih0 _ _ | exact ih1 _ _ _ | exact ih2 _ _ _ _ _ _ _ | exact spec_nlCounts.mono _ _ | exact spec_nlEven.mono _ _ | exact spec_nlGood.mono _ _ | exact spec_nlKinds.mono _ _ | exact spec_nlWindow.mono _ _ _ _ | exact LeO.refl _ | exact LeO.none _ | refine LeO.ite ?_ ?_ | refine LeO.bind ?_ (fun _ => ?_)
   | exact LeO.none _ | refine LeO.ite ?_ ?_ | refine LeO.bind ?_ (fun _ => ?_)
theorem spec_HalfWindow.mono : ∀ a0 k, LeO (spec_HalfWindow.f k a0) (spec_HalfWindow.f (k + 1) a0) := by
 intro a0 k
 obtain ⟨ih0, ih1, ih2⟩ := spec_HalfWindow.mono_l k
 unfold spec_HalfWindow.f
 repeat' first
   | with_reducible first | exact ih0 _ _ | exact ih1 _ _ _ | exact ih2 _ _ _ _ _ _ _ | exact spec_nlCounts.mono _ _ | exact spec_nlEven.mono _ _ | exact spec_nlGood.mono _ _ | exact spec_nlKinds.mono _ _ | exact spec_nlWindow.mono _ _ _ _ | exact LeO.refl _ | exact LeO.none _ | refine LeO.ite ?_ ?_ | refine LeO.bind ?_ (fun _ => ?_)
   | exact LeO.none _ | refine LeO.ite ?_ ?_ | refine LeO.bind ?_ (fun _ => ?_)
theorem spec_HalfWindow.calls (k : Nat) (a0 : ByteArray) (r1 : Int) (r2 : Bool) (w : World) (h : spec_HalfWindow.f k a0 = some (r1, r2)) :
  Calls Tryd.prog 21 #[.string a0] w fun e w' => e = .returned (.tuple #[.int .i64 r1, .bool r2]) ∧ Below w.heap.size w w' := by
 have HB := Aside0.mk (Below.refl w.heap.size w)
 have H : ((spec_nlGood.f k a0).bind fun t212 => (if t212 = true then (if a0.toList = ([] : List UInt8) then (spec_HalfWindow.j0 k a0 true) else ((spec_nlEven.f k a0).bind fun t213 => (if t213 = true then ((spec_nlKinds.f k a0).bind fun t214 => (spec_HalfWindow.j0 k a0 (decide (t214 > 2)))) else (spec_HalfWindow.j0 k a0 true)))) else (spec_HalfWindow.j0 k a0 true))) = some (r1, r2) := h
 clear h
 have HC2 := Aside0.mk H
 clear H
 go_enter Tryd.func21, Tryd.ntmps21
 go_upto_region 1 with (fail)
 go_cut [25] (fun v25 wc => ∃ (kq : Nat) (x25_1 : Bool), v25 = .bool x25_1 ∧ Aside0 (spec_HalfWindow.j0 kq a0 x25_1 = some (r1, r2)) ∧ Aside0 (kq ≤ k) ∧ Aside0 (Below w.heap.size w wc))
 case first =>
  have H := HC2.out
  clear HC2
  obtain ⟨t212, A30, H⟩ := Option.bind_eq_some_iff.mp H
  have A3 := Aside0.mk A30
  clear A30
  by_cases c4 : t212 = true
  ·subst c4
   replace H := IP H
   by_cases c5 : a0.toList = ([] : List UInt8)
   ·rw [if_pos c5] at H
    have c5b0 : (a0.toList == ([] : List UInt8)) = true := beq_iff_eq.mpr c5
    have c5b1 : (a0.toList != ([] : List UInt8)) = false := bne_eq_false_iff_eq.mpr c5
    clear c5
    (first | rw [c5b0] | (simp only [i64_w, i32_w]; rw [c5b0]) | skip)
    have H' := Aside0.mk H
    clear H
    go_wp2_with (first | ((with_reducible refine gate_callee (f := 48) rfl ?_); refine goesL_ (some 10) rfl rfl Tryd.func48 (by kernel_rfl) rfl #[.string a0] rfl TA ?_; (with_reducible refine (spec_nlGood.calls k a0 true _ A3.out).mono ?_); rintro e w' ⟨rfl, ⟨nd, rfl⟩⟩; refine ⟨_, rfl, ?_⟩))
    go_meet
    case rel => exact ⟨_, (true), RF, H', ⟨by first | omega | exact Nat.le_refl _⟩, ⟨BB⟩⟩
   ·rw [if_neg c5] at H
    have c5b0 : (a0.toList == ([] : List UInt8)) = false := beq_eq_false_iff_ne.mpr c5
    have c5b1 : (a0.toList != ([] : List UInt8)) = true := bne_iff_ne.mpr c5
    (first | rw [c5b0] | (simp only [i64_w, i32_w]; rw [c5b0]) | skip)
    obtain ⟨t213, A60, H⟩ := Option.bind_eq_some_iff.mp H
    have A6 := Aside0.mk A60
    clear A60
    by_cases c7 : t213 = true
    ·subst c7
     replace H := IP H
     obtain ⟨t214, A80, H⟩ := Option.bind_eq_some_iff.mp H
     have A8 := Aside0.mk A80
     clear A80
     have H' := Aside0.mk H
     clear H
     go_wp2_with (first | ((with_reducible refine gate_callee (f := 48) rfl ?_); refine goesL_ (some 10) rfl rfl Tryd.func48 (by kernel_rfl) rfl #[.string a0] rfl TA ?_; (with_reducible refine (spec_nlGood.calls k a0 true _ A3.out).mono ?_); rintro e w' ⟨rfl, ⟨nd, rfl⟩⟩; refine ⟨_, rfl, ?_⟩) | (go_at_call 49; (with_reducible refine (spec_nlEven.calls k a0 true _ A6.out).mono ?_); rintro e w9 ⟨rfl, hb⟩; have n0_ := Aside0.mk (below_step BB hb); clear HB; have HB := n0_; clear n0_; (try clear hb); (try clear hb2); (try clear hk); (try clear hi)) | (go_at_call 56; (with_reducible refine (spec_nlKinds.calls k a0 t214 _ A8.out).mono ?_); rintro e w10 ⟨rfl, hb⟩; have n0_ := Aside0.mk (below_step BB hb); clear HB; have HB := n0_; clear n0_; (try clear hb); (try clear hb2); (try clear hk); (try clear hi)))
     go_meet
     case rel => exact ⟨_, (decide (t214 > 2)), RF, H', ⟨by first | omega | exact Nat.le_refl _⟩, ⟨BB⟩⟩
    ·replace c7 := Bool.eq_false_iff.mpr c7
     subst c7
     replace H := IN H
     have H' := Aside0.mk H
     clear H
     go_wp2_with (first | ((with_reducible refine gate_callee (f := 48) rfl ?_); refine goesL_ (some 10) rfl rfl Tryd.func48 (by kernel_rfl) rfl #[.string a0] rfl TA ?_; (with_reducible refine (spec_nlGood.calls k a0 true _ A3.out).mono ?_); rintro e w' ⟨rfl, ⟨nd, rfl⟩⟩; refine ⟨_, rfl, ?_⟩) | (go_at_call 49; (with_reducible refine (spec_nlEven.calls k a0 false _ A6.out).mono ?_); rintro e w11 ⟨rfl, hb⟩; have n0_ := Aside0.mk (below_step BB hb); clear HB; have HB := n0_; clear n0_; (try clear hb); (try clear hb2); (try clear hk); (try clear hi)))
     go_meet
     case rel => exact ⟨_, (true), RF, H', ⟨by first | omega | exact Nat.le_refl _⟩, ⟨BB⟩⟩
  ·replace c4 := Bool.eq_false_iff.mpr c4
   subst c4
   replace H := IN H
   have H' := Aside0.mk H
   clear H
   go_wp2_with (first | ((with_reducible refine gate_callee (f := 48) rfl ?_); refine goesL_ (some 10) rfl rfl Tryd.func48 (by kernel_rfl) rfl #[.string a0] rfl TA ?_; (with_reducible refine (spec_nlGood.calls k a0 false _ A3.out).mono ?_); rintro e w' ⟨rfl, ⟨nd, rfl⟩⟩; refine ⟨_, rfl, ?_⟩))
   go_meet
   case rel => exact ⟨_, (true), RF, H', ⟨by first | omega | exact Nat.le_refl _⟩, ⟨BB⟩⟩
 case rest =>
  clear HC2
  try clear c2
  try clear p2
  try clear c4
  try clear c5
  try clear c5b0
  try clear c5b1
  try clear p6
  try clear c7
  obtain ⟨kq, x25_1, rfl, HA, HJ1, HB⟩ := hcut
  cases kq with
  | zero => exact absurd HA.out (by simp [spec_HalfWindow.j0])
  | succ kj1 =>
   have H := HA.out
   clear HA
   simp only [spec_HalfWindow.j0] at H
   by_cases c12 : x25_1 = true
   ·subst c12
    replace H := IP H
    simp only [Option.some.injEq, Prod.mk.injEq] at H
    obtain ⟨rfl, rfl⟩ := H
    go_wp2
    go_ret2
    exact ⟨RE, BB⟩
   ·replace c12 := Bool.eq_false_iff.mpr c12
    subst c12
    replace H := IN H
    obtain ⟨t215, A130, H⟩ := Option.bind_eq_some_iff.mp H
    have A13 := Aside0.mk A130
    clear A130
    have H' := Aside0.mk H
    clear H
    go_wp2_with (first | ((with_reducible refine gate_callee (f := 57) rfl ?_); refine goesL_ (some 27) rfl rfl Tryd.func57 (by kernel_rfl) rfl #[.string a0] rfl TA ?_; (with_reducible refine (spec_nlCounts.calls kj1 a0 t215 _ A13.out).mono ?_); rintro e w14 ⟨v216, rfl, ho0, hb⟩; refine ⟨_, rfl, ?_⟩; have n0_ := Aside0.mk (Kd.R_lower ho0 (below_size BB)); have n1_ := Aside0.mk (below_step BB hb); clear HB; have HO217 := n0_; have HB := n1_; clear n0_ n1_; (try clear hb); (try clear hb2); (try clear hk); (try clear hi); (try clear ho0)))
    go_loopg [5] kj1 (fun kq v5 w' => ∃ (x5_2 : Int), v5 = .int .i64 x5_2 ∧ Aside0 (spec_HalfWindow.l0 kq a0 t215 x5_2 = some (r1, r2)) ∧ Aside0 (kq ≤ kj1) ∧ Aside0 (Kd.R (Kd.int .i64) 3 w' w.heap.size (fun _ => True) v216 t215) ∧ Aside0 (Below w.heap.size w w'))
    case atStart => exact ⟨(0), RF, H', ⟨Nat.le_refl _⟩, ⟨KR HO217⟩, ⟨BB⟩⟩
    case round =>
     clear H'
     try clear c1
     try clear c2
     try clear p2
     try clear c4
     try clear c5
     try clear c5b0
     try clear c5b1
     try clear p6
     try clear c7
     try clear c12
     try clear p2
     try clear p6
     obtain ⟨x5_2, rfl, HA, HK2, HO_4, HB⟩ := hrel
     cases gk with
     | zero => exact absurd HA.out (by simp [spec_HalfWindow.l0])
     | succ k2 =>
      have H := HA.out
      clear HA
      simp only [spec_HalfWindow.l0] at H
      by_cases c15 : x5_2 < (a0.size : Int)
      ·rw [if_pos c15] at H
       have c15b0 : decide (x5_2 < (a0.size : Int)) = true := decide_eq_true c15
       clear c15
       obtain ⟨t218, A160, H⟩ := Option.bind_eq_some_iff.mp H
       have A16 := Aside0.mk A160
       clear A160
       have H' := Aside0.mk H
       clear H
       go_wp2_with (first | ((with_reducible refine gate_callee (f := 58) rfl ?_); refine goesL_ (some 39) rfl rfl Tryd.func58 (by kernel_rfl) rfl #[.string a0, .int .i64 x5_2, .int .i64 (wrap64 ((a0.size : Int) / 2))] rfl TA ?_; (with_reducible refine (spec_nlWindow.calls k2 a0 x5_2 (wrap64 ((a0.size : Int) / 2)) t218 _ A16.out).mono ?_); rintro e w17 ⟨v219, rfl, ho0, hb⟩; refine ⟨_, rfl, ?_⟩; have n0_ := Aside0.mk (Kd.R_elder' (KR HO_4) (Kd.R_base ho0) hb); have n1_ := Aside0.mk (Kd.R_lower (Kd.R_new' ho0 (Kd.R_lt (KR HO_4))) (below_size BB)); have n2_ := Aside0.mk (below_step BB hb); clear HO_4; clear HB; have HO_4 := n0_; have HO220 := n1_; have HB := n2_; clear n0_ n1_ n2_; (try clear hb); (try clear hb2); (try clear hk); (try clear hi); (try clear ho0); obtain ⟨Ao18, co18, eo18⟩ := Kd.R_slice HO220.out; subst eo18))
       go_loopg [6, 41] k2 (fun kq v6 v41 w' => ∃ (x6_3 : Bool) (x41_3 : Int), v6 = .bool x6_3 ∧ v41 = .int .i64 x41_3 ∧ Aside0 (spec_HalfWindow.l1 kq a0 t215 x5_2 x6_3 t218 (t218.length : Int) x41_3 = some (r1, r2)) ∧ Aside0 (kq ≤ k2) ∧ Aside0 (Kd.R (Kd.int .i64) 3 w' w.heap.size (fun k_ => some k_ ≠ ((.slice Ao18 t218.length co18) : Value).ownBlock) v216 t215) ∧ Aside0 (Kd.R (Kd.int .i64) 3 w' w.heap.size (fun k_ => some k_ ≠ (v216 : Value).ownBlock) (.slice Ao18 t218.length co18) t218) ∧ Aside0 (Below w.heap.size w w'))
       case atStart => exact ⟨(true), (0), RF, RF, H', ⟨Nat.le_refl _⟩, ⟨by (with_reducible repeat (first | apply Kd.R_alloc | apply Kd.R_drewN | apply Kd.R_drew)); exact Kd.R_mono HO_4.out (fun _ hk => hk.2)⟩, ⟨by (with_reducible repeat (first | apply Kd.R_alloc | apply Kd.R_drewN | apply Kd.R_drew)); exact Kd.R_mono HO220.out (fun _ hk => hk.2)⟩, ⟨BB⟩⟩
       case round =>
        clear H'
        try clear c1
        try clear c2
        try clear p2
        try clear c4
        try clear c5
        try clear c5b0
        try clear c5b1
        try clear p6
        try clear c7
        try clear c12
        try clear c15
        try clear c15b0
        try clear p2
        try clear p6
        obtain ⟨x6_3, x41_3, rfl, rfl, HA, HK3, HO_4, HO_39, HB⟩ := hrel
        cases gk with
        | zero => exact absurd HA.out (by simp [spec_HalfWindow.l1])
        | succ k3 =>
         have H := HA.out
         clear HA
         simp only [spec_HalfWindow.l1] at H
         by_cases c19 : x41_3 < (t218.length : Int)
         ·rw [if_pos c19] at H
          have c19b0 : decide (x41_3 < (t218.length : Int)) = true := decide_eq_true c19
          clear c19
          by_cases c20 : 0 ≤ x41_3
          ·rw [if_pos c20] at H
           have c20b0 : decide (0 ≤ x41_3) = true := decide_eq_true c20
           clear c20
           by_cases c21 : x41_3 < (t218.length : Int)
           ·rw [if_pos c21] at H
            have c21b0 : decide (x41_3 < (t218.length : Int)) = true := decide_eq_true c21
            clear c21
            by_cases c22 : x6_3 = true
            ·subst c22
             replace H := IP H
             by_cases c23 : x41_3 < (t215.length : Int)
             ·rw [if_pos c23] at H
              have c23b0 : decide (x41_3 < (t215.length : Int)) = true := decide_eq_true c23
              clear c23
              have H' := Aside0.mk H
              clear H
              have p221 : 0 ≤ (x41_3 : Int) := of_decide_eq_true AS
              have q221 : x41_3 < (t218.length : Int) := of_decide_eq_true AS
              obtain ⟨ad221, e221, hx221_0⟩ := Kd.at_int (Kd.R_reads' HO_39.out).2.2 x41_3 p221 q221
              cases e221
              replace p221 := eq_true p221
              replace q221 := eq_true q221
              obtain ⟨Ao24, co24, eo24⟩ := Kd.R_slice HO_4.out
              subst eo24
              have p222 : 0 ≤ (x41_3 : Int) := of_decide_eq_true AS
              have q222 : x41_3 < (t215.length : Int) := of_decide_eq_true AS
              obtain ⟨ad222, e222, hx222_0⟩ := Kd.at_int (Kd.R_reads' HO_4.out).2.2 x41_3 p222 q222
              cases e222
              replace p222 := eq_true p222
              replace q222 := eq_true q222
              go_wp2
              go_roundg k3
              case measure => have := HJ1.out; have := HK2.out; have := HK3.out; omega
              case rel => exact ⟨(((wrap64 (2 * (rd t218 x41_3))) == (rd t215 x41_3))), (wrap64 (x41_3 + 1)), RF, RF, H', ⟨by have := HJ1.out; have := HK2.out; have := HK3.out; omega⟩, ⟨KR HO_4⟩, ⟨KR HO_39⟩, ⟨BB⟩⟩
             ·rw [if_neg c23] at H
              cases H
            ·replace c22 := Bool.eq_false_iff.mpr c22
             subst c22
             replace H := IN H
             have H' := Aside0.mk H
             clear H
             have p221 : 0 ≤ (x41_3 : Int) := of_decide_eq_true AS
             have q221 : x41_3 < (t218.length : Int) := of_decide_eq_true AS
             obtain ⟨ad221, e221, hx221_0⟩ := Kd.at_int (Kd.R_reads' HO_39.out).2.2 x41_3 p221 q221
             cases e221
             replace p221 := eq_true p221
             replace q221 := eq_true q221
             go_wp2
             go_roundg k3
             case measure => have := HJ1.out; have := HK2.out; have := HK3.out; omega
             case rel => exact ⟨(false), (wrap64 (x41_3 + 1)), RF, RF, H', ⟨by have := HJ1.out; have := HK2.out; have := HK3.out; omega⟩, ⟨KR HO_4⟩, ⟨KR HO_39⟩, ⟨BB⟩⟩
           ·rw [if_neg c21] at H
            cases H
          ·rw [if_neg c20] at H
           cases H
         ·rw [if_neg c19] at H
          have c19b0 : decide (x41_3 < (t218.length : Int)) = false := decide_eq_false c19
          clear c19
          by_cases c25 : x6_3 = true
          ·subst c25
           replace H := IP H
           simp only [Option.some.injEq, Prod.mk.injEq] at H
           obtain ⟨rfl, rfl⟩ := H
           go_wp2
           go_ret2
           exact ⟨RE, BB⟩
          ·replace c25 := Bool.eq_false_iff.mpr c25
           subst c25
           replace H := IN H
           have H' := Aside0.mk H
           clear H
           go_wp2
           go_roundg k3
           case measure => have := HJ1.out; have := HK2.out; have := HK3.out; omega
           case rel => exact ⟨(wrap64 (x5_2 + 1)), RF, H', ⟨by have := HJ1.out; have := HK2.out; have := HK3.out; omega⟩, ⟨by (with_reducible repeat (first | apply Kd.R_alloc | apply Kd.R_drewN | apply Kd.R_drew)); exact Kd.R_mono HO_4.out (fun _ hk => trivial)⟩, ⟨BB⟩⟩
      ·rw [if_neg c15] at H
       have c15b0 : decide (x5_2 < (a0.size : Int)) = false := decide_eq_false c15
       clear c15
       simp only [Option.some.injEq, Prod.mk.injEq] at H
       obtain ⟨rfl, rfl⟩ := H
       go_wp2
       go_ret2
       exact ⟨RE, BB⟩

/-! ### impl_KindsOfBeads: function 22 -/
def impl_KindsOfBeads.f (k : Nat) (a0 : ByteArray) : Option (Int × Bool) := (impl_IsNecklace.f a0).bind fun t223 => (if t223 = true then ((impl_kinds.f k a0).bind fun t224 => (some (t224, true))) else (some (0, false)))
theorem impl_KindsOfBeads.mono : ∀ a0 k, LeO (impl_KindsOfBeads.f k a0) (impl_KindsOfBeads.f (k + 1) a0) := by
 intro a0 k
 unfold impl_KindsOfBeads.f
 repeat' first
   | with_reducible first | exact impl_kinds.mono _ _ | exact LeO.refl _ | exact LeO.none _ | refine LeO.ite ?_ ?_ | refine LeO.bind ?_ (fun _ => ?_)
   | exact LeO.none _ | refine LeO.ite ?_ ?_ | refine LeO.bind ?_ (fun _ => ?_)
theorem impl_KindsOfBeads.calls (k : Nat) (a0 : ByteArray) (r1 : Int) (r2 : Bool) (w : World) (h : impl_KindsOfBeads.f k a0 = some (r1, r2)) :
  Calls Tryd.prog 22 #[.string a0] w fun e w' => e = .returned (.tuple #[.int .i64 r1, .bool r2]) ∧ Below w.heap.size w w' := by
 have HB := Aside0.mk (Below.refl w.heap.size w)
 have H : ((impl_IsNecklace.f a0).bind fun t223 => (if t223 = true then ((impl_kinds.f k a0).bind fun t224 => (some (t224, true))) else (some (0, false)))) = some (r1, r2) := h
 clear h
 obtain ⟨t223, A20, H⟩ := Option.bind_eq_some_iff.mp H
 have A2 := Aside0.mk A20
 clear A20
 by_cases c3 : t223 = true
 ·subst c3
  replace H := IP H
  obtain ⟨t224, A40, H⟩ := Option.bind_eq_some_iff.mp H
  have A4 := Aside0.mk A40
  clear A40
  simp only [Option.some.injEq, Prod.mk.injEq] at H
  obtain ⟨rfl, rfl⟩ := H
  go_enter Tryd.func22, Tryd.ntmps22
  go_wp2_with (first | ((with_reducible refine gate_callee (f := 41) rfl ?_); refine goesL_ (some 5) rfl rfl Tryd.func41 (by kernel_rfl) rfl #[.string a0] rfl TA ?_; (with_reducible refine (impl_IsNecklace.calls a0 true _ A2.out).mono ?_); rintro e w5 ⟨rfl, hb⟩; refine ⟨_, rfl, ?_⟩; have n0_ := Aside0.mk (below_step BB hb); clear HB; have HB := n0_; clear n0_; (try clear hb); (try clear hb2); (try clear hk); (try clear hi)) | ((with_reducible refine gate_callee (f := 53) rfl ?_); refine goesL_ (some 8) rfl rfl Tryd.func53 (by kernel_rfl) rfl #[.string a0] rfl TA ?_; (with_reducible refine (impl_kinds.calls k a0 t224 _ A4.out).mono ?_); rintro e w6 ⟨rfl, hb⟩; refine ⟨_, rfl, ?_⟩; have n0_ := Aside0.mk (below_step BB hb); clear HB; have HB := n0_; clear n0_; (try clear hb); (try clear hb2); (try clear hk); (try clear hi)))
  go_ret2
  exact ⟨RE, BB⟩
 ·replace c3 := Bool.eq_false_iff.mpr c3
  subst c3
  replace H := IN H
  simp only [Option.some.injEq, Prod.mk.injEq] at H
  obtain ⟨rfl, rfl⟩ := H
  go_enter Tryd.func22, Tryd.ntmps22
  go_wp2_with (first | ((with_reducible refine gate_callee (f := 41) rfl ?_); refine goesL_ (some 5) rfl rfl Tryd.func41 (by kernel_rfl) rfl #[.string a0] rfl TA ?_; (with_reducible refine (impl_IsNecklace.calls a0 false _ A2.out).mono ?_); rintro e w7 ⟨rfl, hb⟩; refine ⟨_, rfl, ?_⟩; have n0_ := Aside0.mk (below_step BB hb); clear HB; have HB := n0_; clear n0_; (try clear hb); (try clear hb2); (try clear hk); (try clear hi)))
  go_ret2
  exact ⟨RE, BB⟩

end Go.Proofs.YtafjjbkkcedgnaaDoor.PFnHalfWindows
