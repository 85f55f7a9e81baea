-- Written by a program of this session (wip/tools/pp.sh) out of the translation; Lean checks it.
import Derived.Test.YthkdkgbcokpbaacGreatDoorPFnNecklacesSharedx0
import Derived.Test.YthkdkgbcokpbaacGreatDoorPFnNecklacesSharedx3
namespace Go.Proofs.YthkdkgbcokpbaacGreatDoor.PFnNecklacesShared
open Go.RowKit Go.Proofs.YthkdkgbcokpbaacGreatDoorOwn Go.Proofs.YthkdkgbcokpbaacGreatDoorW.PrintWords Go.Proofs.YthkdkgbcokpbaacGreatDoorW.PrintLast Go.Proofs.YthkdkgbcokpbaacGreatDoorW.PrintMore
attribute [local go_sem] max2_int min2_int max_two min_two max_three min_three max_four min_four   -- for this text's walks alone
set_option linter.unusedVariables false
set_option maxHeartbeats 8000000
set_option maxRecDepth 100000
set_option linter.unusedSimpArgs false

/-! ### spec_l1Has: function 59 -/
def spec_l1Has.l0 : Nat → Int → List Int → Int → Int → Option (Bool)
 | 0, _, _, _, _ => none
 | k + 1, x1, x7, x8, x9 => if x9 < x8 then (if 0 ≤ x9 then (if x9 < (x7.length : Int) then (if (rd x7 x9) = x1 then (some true) else (spec_l1Has.l0 k x1 x7 x8 (wrap64 (x9 + 1)))) else (none)) else (none)) else (some false)
def spec_l1Has.f (k : Nat) (l0 : List Int) (a1 : Int) : Option (Bool) := spec_l1Has.l0 k a1 l0 (l0.length : Int) 0
theorem spec_l1Has.mono_l : ∀ k, (∀ y0 y1 y2 y3, LeO (spec_l1Has.l0 k y0 y1 y2 y3) (spec_l1Has.l0 (k + 1) y0 y1 y2 y3))
 | 0 => fun _ _ _ _ r h => by simp [spec_l1Has.l0] at h
 | k + 1 => by
  have ih0 := spec_l1Has.mono_l k
  ·intro y0 y1 y2 y3
   unfold spec_l1Has.l0
   repeat' first
   | with_reducible first | exact ih0 _ _ _ _ | exact LeO.refl _ | exact LeO.none _ | refine LeO.ite ?_ ?_ | refine LeO.bind ?_ (fun _ => ?_)
   | exact LeO.none _ | refine LeO.ite ?_ ?_ | refine LeO.bind ?_ (fun _ => ?_)
theorem spec_l1Has.mono : ∀ a0 a1 k, LeO (spec_l1Has.f k a0 a1) (spec_l1Has.f (k + 1) a0 a1) := by
 intro a0 a1 k
 have ih0 := spec_l1Has.mono_l k
 unfold spec_l1Has.f
 repeat' first
   | with_reducible first | exact ih0 _ _ _ _ | exact LeO.refl _ | exact LeO.none _ | refine LeO.ite ?_ ?_ | refine LeO.bind ?_ (fun _ => ?_)
   | exact LeO.none _ | refine LeO.ite ?_ ?_ | refine LeO.bind ?_ (fun _ => ?_)
theorem spec_l1Has.calls (k : Nat) (A0 : Option Addr) (c0 : Nat) (l0 : List Int) (a1 : Int) (r : Bool) (w : World) (hr0 : Kd.C (Kd.int .i64) w A0 l0.length l0) (hc0 : l0.length ≤ c0) (h : spec_l1Has.f k l0 a1 = some r) :
  Calls Tryz.prog 59 #[.slice A0 l0.length c0, .int .i64 a1] w fun e w' => e = .returned (.bool r) ∧ Drawn0 w w' := by
 have HR0 := Aside0.mk hr0
 have HC0 := Aside0.mk hc0
 clear hr0 hc0
 have H : (spec_l1Has.l0 k a1 l0 (l0.length : Int) 0) = some r := h
 clear h
 have H' := Aside0.mk H
 clear H
 go_enter Tryz.func59, Tryz.ntmps59
 go_wp2
 go_loopg [9] k (fun kq v9 w' => ∃ (x9_1 : Int), v9 = .int .i64 x9_1 ∧ Aside0 (spec_l1Has.l0 kq a1 l0 (l0.length : Int) x9_1 = some r) ∧ Aside0 (kq ≤ k) ∧ Drawn0 w w')
 case atStart => exact ⟨(0), RF, H', ⟨Nat.le_refl _⟩, by repeat (first | exact Drawn0.refl _ | apply Drawn0.step)⟩
 case round =>
  clear H'
  try clear p2
  obtain ⟨x9_1, rfl, HA, HK1, ⟨m1, rfl⟩⟩ := hrel
  cases gk with
  | zero => exact absurd HA.out (by simp [spec_l1Has.l0])
  | succ k1 =>
   have H := HA.out
   clear HA
   simp only [spec_l1Has.l0] at H
   by_cases c3 : x9_1 < (l0.length : Int)
   ·rw [if_pos c3] at H
    have c3b0 : decide (x9_1 < (l0.length : Int)) = true := decide_eq_true c3
    clear c3
    by_cases c4 : 0 ≤ x9_1
    ·rw [if_pos c4] at H
     have c4b0 : decide (0 ≤ x9_1) = true := decide_eq_true c4
     clear c4
     by_cases c5 : x9_1 < (l0.length : Int)
     ·rw [if_pos c5] at H
      have c5b0 : decide (x9_1 < (l0.length : Int)) = true := decide_eq_true c5
      clear c5
      by_cases c6 : (rd l0 x9_1) = a1
      ·rw [if_pos c6] at H
       have c6b0 : ((rd l0 x9_1) == a1) = true := beq_iff_eq.mpr c6
       have c6b1 : ((rd l0 x9_1) != a1) = false := bne_eq_false_iff_eq.mpr c6
       clear c6
       obtain rfl := Option.some.inj H
       have p207 : 0 ≤ (x9_1 : Int) := of_decide_eq_true AS
       have q207 : x9_1 < (l0.length : Int) := of_decide_eq_true AS
       obtain ⟨ad207, e207, hx207_0⟩ := Kd.at_int HR0.out x9_1 p207 q207
       cases e207
       replace p207 := eq_true p207
       replace q207 := eq_true q207
       go_wp2
       go_ret
       exact ⟨RF, DR⟩
      ·rw [if_neg c6] at H
       have c6b0 : ((rd l0 x9_1) == a1) = false := beq_eq_false_iff_ne.mpr c6
       have c6b1 : ((rd l0 x9_1) != a1) = true := bne_iff_ne.mpr c6
       have H' := Aside0.mk H
       clear H
       have p207 : 0 ≤ (x9_1 : Int) := of_decide_eq_true AS
       have q207 : x9_1 < (l0.length : Int) := of_decide_eq_true AS
       obtain ⟨ad207, e207, hx207_0⟩ := Kd.at_int HR0.out x9_1 p207 q207
       cases e207
       replace p207 := eq_true p207
       replace q207 := eq_true q207
       go_wp2
       go_roundg k1
       case measure => have := HK1.out; omega
       case rel => exact ⟨(wrap64 (x9_1 + 1)), RF, H', ⟨by have := HK1.out; omega⟩, by repeat (first | exact Drawn0.refl _ | apply Drawn0.step)⟩
     ·rw [if_neg c5] at H
      cases H
    ·rw [if_neg c4] at H
     cases H
   ·rw [if_neg c3] at H
    have c3b0 : decide (x9_1 < (l0.length : Int)) = false := decide_eq_false c3
    clear c3
    obtain rfl := Option.some.inj H
    go_wp2
    go_ret
    exact ⟨RF, DR⟩

/-! ### spec_nlSigns: function 121 -/
def spec_nlSigns.l0 : Nat → ByteArray → List Int → List Int → Int → Int → Option (List Int)
 | 0, _, _, _, _, _ => none
 | k + 1, x0, x1, x5, x6, x7 => if x7 < (x0.size : Int) then ((spec_l1Has.f k x1 x7).bind fun t208 => (if t208 = true then (if x5.length < 17592186044416 then (spec_nlSigns.l0 k x0 x1 (x5 ++ [wrap64 (-x6)]) (wrap64 (-x6)) (wrap64 (x7 + 1))) else (none)) else (if x5.length < 17592186044416 then (spec_nlSigns.l0 k x0 x1 (x5 ++ [x6]) x6 (wrap64 (x7 + 1))) else (none)))) else (some x5)
def spec_nlSigns.f (k : Nat) (a0 : ByteArray) (l1 : List Int) : Option (List Int) := spec_nlSigns.l0 k a0 l1 ([] : List Int) 1 0
theorem spec_nlSigns.mono_l : ∀ k, (∀ y0 y1 y2 y3 y4, LeO (spec_nlSigns.l0 k y0 y1 y2 y3 y4) (spec_nlSigns.l0 (k + 1) y0 y1 y2 y3 y4))
 | 0 => fun _ _ _ _ _ r h => by simp [spec_nlSigns.l0] at h
 | k + 1 => by
  have ih0 := spec_nlSigns.mono_l k
  ·intro y0 y1 y2 y3 y4
   unfold spec_nlSigns.l0
   repeat' first
   | with_reducible first | exact ih0 _ _ _ _ _ | exact spec_l1Has.mono _ _ _ | exact LeO.refl _ | exact LeO.none _ | refine LeO.ite ?_ ?_ | refine LeO.bind ?_ (fun _ => ?_)
   | exact LeO.none _ | refine LeO.ite ?_ ?_ | refine LeO.bind ?_ (fun _ => ?_)
theorem spec_nlSigns.mono : ∀ a0 a1 k, LeO (spec_nlSigns.f k a0 a1) (spec_nlSigns.f (k + 1) a0 a1) := by
 intro a0 a1 k
 have ih0 := spec_nlSigns.mono_l k
 unfold spec_nlSigns.f
 repeat' first
   | with_reducible first | exact ih0 _ _ _ _ _ | exact spec_l1Has.mono _ _ _ | exact LeO.refl _ | exact LeO.none _ | refine LeO.ite ?_ ?_ | refine LeO.bind ?_ (fun _ => ?_)
   | exact LeO.none _ | refine LeO.ite ?_ ?_ | refine LeO.bind ?_ (fun _ => ?_)
theorem spec_nlSigns.calls (k : Nat) (a0 : ByteArray) (A1 : Option Addr) (c1 : Nat) (l1 : List Int) (r : List Int) (w : World) (hr1 : Kd.C (Kd.int .i64) w A1 l1.length l1) (hc1 : l1.length ≤ c1) (h : spec_nlSigns.f k a0 l1 = some r) :
  Calls Tryz.prog 121 #[.string a0, .slice A1 l1.length c1] w fun e w' => ∃ v0_ : Value, e = .returned (v0_) ∧ Kd.R (Kd.int .i64) 3 w' w.heap.size (fun _ => True) v0_ r ∧ Below w.heap.size w w' := by
 have HR1 := Aside0.mk hr1
 have HC1 := Aside0.mk hc1
 clear hr1 hc1
 have HB := Aside0.mk (Below.refl w.heap.size w)
 have H : (spec_nlSigns.l0 k a0 l1 ([] : List Int) 1 0) = some r := h
 clear h
 have H' := Aside0.mk H
 clear H
 go_enter Tryz.func121, Tryz.ntmps121
 go_wp2
 go_loopg [5, 6, 7] k (fun kq v5 v6 v7 w' => ∃ (x5_1 : List Int) (x6_1 : Int) (x7_1 : Int), v6 = .int .i64 x6_1 ∧ v7 = .int .i64 x7_1 ∧ Aside0 (spec_nlSigns.l0 kq a0 l1 x5_1 x6_1 x7_1 = some r) ∧ Aside0 (kq ≤ k) ∧ Aside0 (Kd.R (Kd.int .i64) 3 w' w.heap.size (fun _ => True) v5 x5_1) ∧ Aside0 (Below w.heap.size w w'))
 case atStart => exact ⟨(([] : List Int)), (1), (0), RF, RF, H', ⟨Nat.le_refl _⟩, ⟨by first | exact Kd.R_nil _ _ _ _ _ | exact Kd.N_nil _ _ _ _ _ | exact Kd.V_nil _ _ _ _ _ | exact Kd.Q_nil _ _ _ _ _ | exact Kd.S_nil _ _ _ _ _⟩, ⟨BB⟩⟩
 case round =>
  clear H'
  try clear c1
  try clear p2
  obtain ⟨x5_1, x6_1, x7_1, rfl, rfl, HA, HK1, HO_5, HB⟩ := hrel
  cases gk with
  | zero => exact absurd HA.out (by simp [spec_nlSigns.l0])
  | succ k1 =>
   have H := HA.out
   clear HA
   simp only [spec_nlSigns.l0] at H
   by_cases c3 : x7_1 < (a0.size : Int)
   ·rw [if_pos c3] at H
    have c3b0 : decide (x7_1 < (a0.size : Int)) = true := decide_eq_true c3
    clear c3
    replace H := EA H
    obtain ⟨t208, A4, H⟩ := H
    by_cases c5 : t208 = true
    ·subst c5
     replace H := IP H
     by_cases c6 : x5_1.length < 17592186044416
     ·rw [if_pos c6] at H
      have LMc6 := Aside0.mk c6
      clear c6
      obtain ⟨y209, hy209⟩ : ∃ y_ : List Int, y_ = (x5_1 ++ [wrap64 (-x6_1)]) := ⟨_, rfl⟩
      replace H : (spec_nlSigns.l0 k1 a0 l1 y209 (wrap64 (-x6_1)) (wrap64 (x7_1 + 1))) = some r := HY H hy209
      have Ny209 := Aside0.mk hy209
      clear hy209
      have H' := Aside0.mk H
      clear H
      go_wp2_with (first | ((with_reducible refine gate_callee (f := 59) rfl ?_); refine goesL_ (some 16) rfl rfl Tryz.func59 (by kernel_rfl) rfl #[.slice A1 l1.length c1, .int .i64 x7_1] rfl TA ?_; (with_reducible refine (spec_l1Has.calls k1 _ _ l1 x7_1 true _ ?side1 ?side2 A4.out).mono ?_); (case side1 => exact CW (Kd.C_below HR1.out HB.out)); (case side2 => exact HC1.out); rintro e w' ⟨rfl, ⟨nd, rfl⟩⟩; refine ⟨_, rfl, ?_⟩) | ((with_reducible refine gate_builtin (b := .append) (xs := #[.tmp 19, .tmp 21]) rfl ?_); at_builtin; refine Kd.R_append (Kd.int .i64) (w0 := w) w.heap.size rfl (.tmp 19) (.tmp 21) 25 3 (.int .i64 0) 8 rfl Tryz.underlying25 info3 rfl (by decide) (by omega) u5 x5_1 (wrap64 (-x6_1)) [.int .i64 (wrap64 (-x6_1))] (fun _ => True) (fun _ => False) rfl rfl ?aP (fun _ hk => hk.elim) ?aF ?aO ?aB ?aS ?aL ?_; (case aP => exact rfl); (case aB => exact BB); (case aF => exact (fun _ _ => trivial)); (case aO => exact (KR HO_5)); (case aS => exact (below_size BB)); (case aL => have := LMc6.out; omega); intro v210 w7 ho hb hg hat; rw [← Ny209.out] at ho; have n0_ := Aside0.mk (hb); have n1_ := Aside0.mk (ho); clear HB; clear HO_5; have HB := n0_; have HO211 := n1_; clear n0_ n1_; clear ho hb hg hat))
      go_roundg k1
      case measure => have := HK1.out; omega
      case rel => exact ⟨(y209), (wrap64 (-x6_1)), (wrap64 (x7_1 + 1)), RF, RF, H', ⟨by have := HK1.out; omega⟩, ⟨KR HO211⟩, ⟨BB⟩⟩
     ·rw [if_neg c6] at H
      cases H
    ·replace c5 := Bool.eq_false_iff.mpr c5
     subst c5
     replace H := IN H
     by_cases c8 : x5_1.length < 17592186044416
     ·rw [if_pos c8] at H
      have LMc8 := Aside0.mk c8
      clear c8
      obtain ⟨y212, hy212⟩ : ∃ y_ : List Int, y_ = (x5_1 ++ [x6_1]) := ⟨_, rfl⟩
      replace H : (spec_nlSigns.l0 k1 a0 l1 y212 x6_1 (wrap64 (x7_1 + 1))) = some r := HY H hy212
      have Ny212 := Aside0.mk hy212
      clear hy212
      have H' := Aside0.mk H
      clear H
      go_wp2_with (first | ((with_reducible refine gate_callee (f := 59) rfl ?_); refine goesL_ (some 16) rfl rfl Tryz.func59 (by kernel_rfl) rfl #[.slice A1 l1.length c1, .int .i64 x7_1] rfl TA ?_; (with_reducible refine (spec_l1Has.calls k1 _ _ l1 x7_1 false _ ?side1 ?side2 A4.out).mono ?_); (case side1 => exact CW (Kd.C_below HR1.out HB.out)); (case side2 => exact HC1.out); rintro e w' ⟨rfl, ⟨nd, rfl⟩⟩; refine ⟨_, rfl, ?_⟩) | ((with_reducible refine gate_builtin (b := .append) (xs := #[.tmp 19, .tmp 21]) rfl ?_); at_builtin; refine Kd.R_append (Kd.int .i64) (w0 := w) w.heap.size rfl (.tmp 19) (.tmp 21) 25 3 (.int .i64 0) 8 rfl Tryz.underlying25 info3 rfl (by decide) (by omega) u5 x5_1 x6_1 [.int .i64 x6_1] (fun _ => True) (fun _ => False) rfl rfl ?aP (fun _ hk => hk.elim) ?aF ?aO ?aB ?aS ?aL ?_; (case aP => exact rfl); (case aB => exact BB); (case aF => exact (fun _ _ => trivial)); (case aO => exact (KR HO_5)); (case aS => exact (below_size BB)); (case aL => have := LMc8.out; omega); intro v213 w9 ho hb hg hat; rw [← Ny212.out] at ho; have n0_ := Aside0.mk (hb); have n1_ := Aside0.mk (ho); clear HB; clear HO_5; have HB := n0_; have HO214 := n1_; clear n0_ n1_; clear ho hb hg hat))
      go_roundg k1
      case measure => have := HK1.out; omega
      case rel => exact ⟨(y212), (x6_1), (wrap64 (x7_1 + 1)), RF, RF, H', ⟨by have := HK1.out; omega⟩, ⟨KR HO214⟩, ⟨BB⟩⟩
     ·rw [if_neg c8] at H
      cases H
   ·rw [if_neg c3] at H
    have c3b0 : decide (x7_1 < (a0.size : Int)) = false := decide_eq_false c3
    clear c3
    obtain rfl := Option.some.inj H
    go_wp2
    go_ret
    exact ⟨_, RE, KR HO_5, BB⟩

/-! ### spec_nlShares: function 105 -/
def spec_nlShares.l0 : Nat → ByteArray → List Int → List Int → Int → Int → Option (List Int)
 | 0, _, _, _, _, _ => none
 | k + 1, x0, x5, x11, x12, x13 => if x13 < x12 then (if 0 ≤ x13 then (if x13 < (x11.length : Int) then (if (rd x11 x13) = 1 then (if x13 < (x0.size : Int) then (if 0 ≤ (((bt x0 x13) - 97) % 256) then (if (((bt x0 x13) - 97) % 256) < (x5.length : Int) then (spec_nlShares.l0 k x0 (x5.set ((((bt x0 x13) - 97) % 256) : Int).toNat (wrap64 ((rd x5 (((bt x0 x13) - 97) % 256)) + 1))) x11 x12 (wrap64 (x13 + 1))) else (none)) else (none)) else (none)) else (spec_nlShares.l0 k x0 x5 x11 x12 (wrap64 (x13 + 1)))) else (none)) else (none)) else (some x5)
def spec_nlShares.f (k : Nat) (a0 : ByteArray) (l1 : List Int) : Option (List Int) := if 4 ≤ 35184372088832 then ((spec_nlSigns.f k a0 l1).bind fun t218 => (spec_nlShares.l0 k a0 (List.replicate 4 0) t218 (t218.length : Int) 0)) else (none)
theorem spec_nlShares.mono_l : ∀ k, (∀ y0 y1 y2 y3 y4, LeO (spec_nlShares.l0 k y0 y1 y2 y3 y4) (spec_nlShares.l0 (k + 1) y0 y1 y2 y3 y4))
 | 0 => fun _ _ _ _ _ r h => by simp [spec_nlShares.l0] at h
 | k + 1 => by
  have ih0 := spec_nlShares.mono_l k
  ·intro y0 y1 y2 y3 y4
   unfold spec_nlShares.l0
   repeat' first
   | with_reducible first | exact ih0 _ _ _ _ _ | exact spec_nlSigns.mono _ _ _ | exact LeO.refl _ | exact LeO.none _ | refine LeO.ite ?_ ?_ | refine LeO.bind ?_ (fun _ => ?_)
   | exact LeO.none _ | refine LeO.ite ?_ ?_ | refine LeO.bind ?_ (fun _ => ?_)
theorem spec_nlShares.mono : ∀ a0 a1 k, LeO (spec_nlShares.f k a0 a1) (spec_nlShares.f (k + 1) a0 a1) := by
 intro a0 a1 k
 have ih0 := spec_nlShares.mono_l k
 unfold spec_nlShares.f
 repeat' first
   | with_reducible first | exact ih0 _ _ _ _ _ | exact spec_nlSigns.mono _ _ _ | exact LeO.refl _ | exact LeO.none _ | refine LeO.ite ?_ ?_ | refine LeO.bind ?_ (fun _ => ?_)
   | exact LeO.none _ | refine LeO.ite ?_ ?_ | refine LeO.bind ?_ (fun _ => ?_)
theorem spec_nlShares.calls (k : Nat) (a0 : ByteArray) (A1 : Option Addr) (c1 : Nat) (l1 : List Int) (r : List Int) (w : World) (hr1 : Kd.C (Kd.int .i64) w A1 l1.length l1) (hc1 : l1.length ≤ c1) (h : spec_nlShares.f k a0 l1 = some r) :
  Calls Tryz.prog 105 #[.string a0, .slice A1 l1.length c1] w fun e w' => ∃ v0_ : Value, e = .returned (v0_) ∧ Kd.R (Kd.int .i64) 3 w' w.heap.size (fun _ => True) v0_ r ∧ Below w.heap.size w w' := by
 have HR1 := Aside0.mk hr1
 have HC1 := Aside0.mk hc1
 clear hr1 hc1
 have HB := Aside0.mk (Below.refl w.heap.size w)
 have H : (if 4 ≤ 35184372088832 then ((spec_nlSigns.f k a0 l1).bind fun t218 => (spec_nlShares.l0 k a0 (List.replicate 4 0) t218 (t218.length : Int) 0)) else (none)) = some r := h
 clear h
 by_cases c3 : 4 ≤ 35184372088832
 ·rw [if_pos c3] at H
  have c3b0 := eq_true c3
  have c3b1 : decide (4 ≤ 35184372088832) = true := decide_eq_true c3
  clear c3
  obtain ⟨y215, hy215⟩ : ∃ y_ : List Int, y_ = (List.replicate 4 0) := ⟨_, rfl⟩
  replace H : ((spec_nlSigns.f k a0 l1).bind fun t218 => (spec_nlShares.l0 k a0 y215 t218 (t218.length : Int) 0)) = some r := HY H hy215
  have Ny215 := Aside0.mk hy215
  clear hy215
  replace H := EA H
  obtain ⟨t218, A4, H⟩ := H
  have H' := Aside0.mk H
  clear H
  go_enter Tryz.func105, Tryz.ntmps105
  go_wp2_with (first | ((with_reducible refine gate_dst (N := 8) rfl ?_); refine Kd.R_make (Kd.int .i64) _ 3 rfl (N := 8) rfl 25 _ _ rfl 4 rfl rfl Tryz.underlying25 (.int .i64 0) 8 info3 rfl (by decide) (by omega) 0 (ok := fun _ => True) (okp := fun _ => True) rfl (fun _ hk => hk) trivial (by omega) (by omega) (Below.refl _ _) (Nat.le_refl _) ?_; intro v216 w5 ho6 hb hg_ hnew_; clear hg_ hnew_; (first | rw [← Ny215.out] at ho6 | (simp only [Int.reduceToNat] at ho6; rw [← Ny215.out] at ho6)); have n0_ := Aside0.mk (Kd.R_lower ho6 (below_size BB)); have n1_ := Aside0.mk (below_step BB hb); clear HB; have HO217 := n0_; have HB := n1_; clear n0_ n1_; clear hb ho6) | ((with_reducible refine gate_callee (f := 121) rfl ?_); refine goesL_ (some 11) rfl rfl Tryz.func121 (by kernel_rfl) rfl #[.string a0, .slice A1 l1.length c1] rfl TA ?_; (with_reducible refine (spec_nlSigns.calls k a0 _ _ l1 t218 _ ?side1 ?side2 A4.out).mono ?_); (case side1 => exact CW (Kd.C_below HR1.out HB.out)); (case side2 => exact HC1.out); rintro e w7 ⟨v219, rfl, ho0, hb⟩; refine ⟨_, rfl, ?_⟩; have n0_ := Aside0.mk (Kd.R_elder' (KR HO217) (Kd.R_base ho0) hb); have n1_ := Aside0.mk (Kd.R_lower (Kd.R_new' ho0 (Kd.R_lt (KR HO217))) (below_size BB)); have n2_ := Aside0.mk (below_step BB hb); clear HO217; clear HB; have HO217 := n0_; have HO220 := n1_; have HB := n2_; clear n0_ n1_ n2_; (try clear hb); (try clear hb2); (try clear hk); (try clear hi); (try clear ho0); obtain ⟨Ao8, co8, eo8⟩ := Kd.R_slice HO220.out; subst eo8))
  go_loopg [13] k (fun kq v13 w' => ∃ (x5_1 : List Int) (x13_1 : Int), v13 = .int .i64 x13_1 ∧ Aside0 (spec_nlShares.l0 kq a0 x5_1 t218 (t218.length : Int) x13_1 = some r) ∧ Aside0 (kq ≤ k) ∧ Aside0 (Kd.R (Kd.int .i64) 3 w' w.heap.size (fun k_ => some k_ ≠ ((.slice Ao8 t218.length co8) : Value).ownBlock) v216 x5_1) ∧ Aside0 (Kd.R (Kd.int .i64) 3 w' w.heap.size (fun k_ => some k_ ≠ (v216 : Value).ownBlock) (.slice Ao8 t218.length co8) t218) ∧ Aside0 (Below w.heap.size w w'))
  case atStart => exact ⟨(y215), (0), RF, H', ⟨Nat.le_refl _⟩, ⟨by (with_reducible repeat (first | apply Kd.R_alloc | apply Kd.R_drewN | apply Kd.R_drew)); exact Kd.R_mono HO217.out (fun _ hk => hk.2)⟩, ⟨by (with_reducible repeat (first | apply Kd.R_alloc | apply Kd.R_drewN | apply Kd.R_drew)); exact Kd.R_mono HO220.out (fun _ hk => hk.2)⟩, ⟨BB⟩⟩
  case round =>
   clear H'
   try clear c1
   try clear p2
   try clear c3
   try clear c3b0
   try clear c3b1
   try clear p6
   obtain ⟨x5_1, x13_1, rfl, HA, HK1, HO_5, HO_11, HB⟩ := hrel
   cases gk with
   | zero => exact absurd HA.out (by simp [spec_nlShares.l0])
   | succ k1 =>
    have H := HA.out
    clear HA
    simp only [spec_nlShares.l0] at H
    by_cases c9 : x13_1 < (t218.length : Int)
    ·rw [if_pos c9] at H
     have c9b0 : decide (x13_1 < (t218.length : Int)) = true := decide_eq_true c9
     clear c9
     by_cases c10 : 0 ≤ x13_1
     ·rw [if_pos c10] at H
      have c10b0 : decide (0 ≤ x13_1) = true := decide_eq_true c10
      clear c10
      by_cases c11 : x13_1 < (t218.length : Int)
      ·rw [if_pos c11] at H
       have c11b0 : decide (x13_1 < (t218.length : Int)) = true := decide_eq_true c11
       clear c11
       by_cases c12 : (rd t218 x13_1) = 1
       ·rw [if_pos c12] at H
        have c12b0 : ((rd t218 x13_1) == 1) = true := beq_iff_eq.mpr c12
        have c12b1 : ((rd t218 x13_1) != 1) = false := bne_eq_false_iff_eq.mpr c12
        clear c12
        by_cases c13 : x13_1 < (a0.size : Int)
        ·rw [if_pos c13] at H
         have c13b0 : decide (x13_1 < (a0.size : Int)) = true := decide_eq_true c13
         clear c13
         obtain ⟨ji15, hji15⟩ : ∃ j_ : Int, (((bt a0 x13_1) - 97) % 256) = j_ := ⟨_, rfl⟩
         replace H : (if 0 ≤ (ji15) then (if (ji15) < (x5_1.length : Int) then (spec_nlShares.l0 k1 a0 (x5_1.set ((ji15) : Int).toNat (wrap64 ((rd x5_1 (ji15)) + 1))) t218 (t218.length : Int) (wrap64 (x13_1 + 1))) else (none)) else (none)) = some r := by first | (rw [hji15] at H; exact H) | (simp only [hji15] at H ⊢; exact H)
         by_cases c16 : 0 ≤ (ji15)
         ·rw [if_pos c16] at H
          have c16b0 : decide (0 ≤ (ji15)) = true := decide_eq_true c16
          clear c16
          by_cases c17 : (ji15) < (x5_1.length : Int)
          ·rw [if_pos c17] at H
           have c17b0 : decide ((ji15) < (x5_1.length : Int)) = true := decide_eq_true c17
           clear c17
           obtain ⟨y223, hy223⟩ : ∃ y_ : List Int, y_ = (x5_1.set ((ji15) : Int).toNat (wrap64 ((rd x5_1 (ji15)) + 1))) := ⟨_, rfl⟩
           replace H : (spec_nlShares.l0 k1 a0 y223 t218 (t218.length : Int) (wrap64 (x13_1 + 1))) = some r := HY H hy223
           have Ny223 := Aside0.mk hy223
           clear hy223
           have H' := Aside0.mk H
           clear H
           have p221 : 0 ≤ (x13_1 : Int) := of_decide_eq_true AS
           have q221 : x13_1 < (t218.length : Int) := of_decide_eq_true AS
           obtain ⟨ad221, e221, hx221_0⟩ := Kd.at_int (Kd.R_reads' HO_11.out).2.2 x13_1 p221 q221
           cases e221
           replace p221 := eq_true p221
           replace q221 := eq_true q221
           have p14 : 0 ≤ (x13_1 : Int) := of_decide_eq_true AS
           have q14 : x13_1 < (a0.size : Int) := of_decide_eq_true AS
           have hx14 := bt_at a0 x13_1
           replace p14 := eq_true p14
           replace q14 := eq_true q14
           obtain ⟨Ao19, co19, eo19⟩ := Kd.R_slice HO_5.out
           subst eo19
           have p222 : 0 ≤ ((ji15) : Int) := of_decide_eq_true AS
           have q222 : (ji15) < (x5_1.length : Int) := of_decide_eq_true AS
           obtain ⟨ad222, e222, hx222_0⟩ := Kd.at_int (Kd.R_reads' HO_5.out).2.2 (ji15) p222 q222
           cases e222
           replace p222 := eq_true p222
           replace q222 := eq_true q222
           have p18 : 0 ≤ ((ji15) : Int) := of_decide_eq_true AS
           have q18 : ((ji15) : Int) < ((x5_1.length : Int) : Int) := of_decide_eq_true AS
           obtain ⟨go18, co18, eo18, gb18, gl18, cl18, HG18⟩ := Kd.R_form HO_5.out (by omega)
           (first | cases eo18 | (injection eo18 with ea_ en_ ec_; (first | subst ea_ | (injection ea_ with ea_; subst ea_)); subst ec_; clear en_))
           have GB18 := Aside0.mk gb18
           have GG18 := Aside0.mk HG18
           clear gb18 gl18 HG18
           (first | simp only [add_plain] at hx222_0 | skip)
           obtain ⟨hx18_0, hf18_0⟩ := Kd.R_celln 0 HO_5.out ((ji15) : Int) p18 q18
           replace p18 := eq_true p18
           replace q18 := eq_true q18
           have HP20 := Kd.R_putg HO_5.out ((ji15) : Int) (wrap64 ((rd x5_1 (ji15)) + 1))
           go_wp2_with (first | ((with_reducible refine gate_store (t := 3) (p := 29) rfl ?_); refine store_event (t := 3) (p := 29) (v := ?vo_w21) (w1 := (wr.setCell ⟨go18, ((ji15) : Int).toNat, none⟩ (.int .i64 (wrap64 ((rd x5_1 (ji15)) + 1))))) ?hg ?ho ?hn ?hr ?_; (case ho => rfl); (case hg => rfl); (case hn => rfl); (case hr => exact GS); intro w21 hw; have hg : wr.grownBy w21 (some go18) := (by rw [hw]; exact HP20.2); have hp_ : Kd.R (Kd.int .i64) 3 w21 w.heap.size (fun k_ => some k_ ≠ (.slice (some ad221) t218.length co8 : Value).ownBlock) (.slice (some ⟨go18, 0, none⟩) x5_1.length co19) y223 := (by rw [hw, Ny223.out]; exact HP20.1); clear HP20; have n0_ := Aside0.mk (hp_); have n1_ := Aside0.mk (Kd.R_after (v := (.slice (some ⟨go18, 0, none⟩) x5_1.length co19)) (v1 := (.slice (some ⟨go18, 0, none⟩) x5_1.length co19)) (ok := (fun _ => True)) (by (with_reducible repeat (first | apply Kd.R_alloc | apply Kd.R_drewN | apply Kd.R_drew)); exact Kd.R_mono HO_11.out (fun _ hk => ⟨trivial, hk⟩)) hg (.inl rfl)); have n2_ := Aside0.mk ((by rw [hw]; exact below_set (HB.out) GB18.out : Below w.heap.size w w21)); clear HO_5; clear HO_11; clear HB; have HO_5 := n0_; have HO_11 := n1_; have HB := n2_; clear n0_ n1_ n2_; clear hg hw hp_))
           go_roundg k1
           case measure => have := HK1.out; omega
           case rel => exact ⟨(y223), (wrap64 (x13_1 + 1)), RF, H', ⟨by have := HK1.out; omega⟩, ⟨KR HO_5⟩, ⟨by (with_reducible repeat (first | apply Kd.R_alloc | apply Kd.R_drewN | apply Kd.R_drew)); exact Kd.R_mono HO_11.out (fun _ hk => hk.2)⟩, ⟨BB⟩⟩
          ·rw [if_neg c17] at H
           cases H
         ·rw [if_neg c16] at H
          cases H
        ·rw [if_neg c13] at H
         cases H
       ·rw [if_neg c12] at H
        have c12b0 : ((rd t218 x13_1) == 1) = false := beq_eq_false_iff_ne.mpr c12
        have c12b1 : ((rd t218 x13_1) != 1) = true := bne_iff_ne.mpr c12
        have H' := Aside0.mk H
        clear H
        have p221 : 0 ≤ (x13_1 : Int) := of_decide_eq_true AS
        have q221 : x13_1 < (t218.length : Int) := of_decide_eq_true AS
        obtain ⟨ad221, e221, hx221_0⟩ := Kd.at_int (Kd.R_reads' HO_11.out).2.2 x13_1 p221 q221
        cases e221
        replace p221 := eq_true p221
        replace q221 := eq_true q221
        go_wp2
        go_roundg k1
        case measure => have := HK1.out; omega
        case rel => exact ⟨(x5_1), (wrap64 (x13_1 + 1)), RF, H', ⟨by have := HK1.out; omega⟩, ⟨KR HO_5⟩, ⟨KR HO_11⟩, ⟨BB⟩⟩
      ·rw [if_neg c11] at H
       cases H
     ·rw [if_neg c10] at H
      cases H
    ·rw [if_neg c9] at H
     have c9b0 : decide (x13_1 < (t218.length : Int)) = false := decide_eq_false c9
     clear c9
     obtain rfl := Option.some.inj H
     go_wp2
     go_ret
     exact ⟨_, RE, by (with_reducible repeat (first | apply Kd.R_alloc | apply Kd.R_drewN | apply Kd.R_drew)); exact Kd.R_mono HO_5.out (fun _ hk => trivial), BB⟩
 ·rw [if_neg c3] at H
  cases H

/-! ### spec_nlFair: function 78 -/
def spec_nlFair.l0 : Nat → List Int → List Int → Int → Int → Option (Bool)
 | 0, _, _, _, _ => none
 | k + 1, x5, x12, x13, x14 => if x14 < x13 then (if 0 ≤ x14 then (if x14 < (x12.length : Int) then (if x14 < (x5.length : Int) then (if (wrap64 (2 * (rd x12 x14))) = (rd x5 x14) then (spec_nlFair.l0 k x5 x12 x13 (wrap64 (x14 + 1))) else (some false)) else (none)) else (none)) else (none)) else (some true)
def spec_nlFair.f (k : Nat) (a0 : ByteArray) (l1 : List Int) : Option (Bool) := (spec_nlCounts.f k a0).bind fun t224 => ((spec_nlShares.f k a0 l1).bind fun t227 => (spec_nlFair.l0 k t224 t227 (t227.length : Int) 0))
theorem spec_nlFair.mono_l : ∀ k, (∀ y0 y1 y2 y3, LeO (spec_nlFair.l0 k y0 y1 y2 y3) (spec_nlFair.l0 (k + 1) y0 y1 y2 y3))
 | 0 => fun _ _ _ _ r h => by simp [spec_nlFair.l0] at h
 | k + 1 => by
  have ih0 := spec_nlFair.mono_l k
  ·intro y0 y1 y2 y3
   unfold spec_nlFair.l0
   repeat' first
   | with_reducible first | exact ih0 _ _ _ _ | exact spec_nlCounts.mono _ _ | exact spec_nlShares.mono _ _ _ | exact LeO.refl _ | exact LeO.none _ | refine LeO.ite ?_ ?_ | refine LeO.bind ?_ (fun _ => ?_)
   | exact LeO.none _ | refine LeO.ite ?_ ?_ | refine LeO.bind ?_ (fun _ => ?_)
theorem spec_nlFair.mono : ∀ a0 a1 k, LeO (spec_nlFair.f k a0 a1) (spec_nlFair.f (k + 1) a0 a1) := by
 intro a0 a1 k
 have ih0 := spec_nlFair.mono_l k
 unfold spec_nlFair.f
 repeat' first
   | with_reducible first | exact ih0 _ _ _ _ | exact spec_nlCounts.mono _ _ | exact spec_nlShares.mono _ _ _ | exact LeO.refl _ | exact LeO.none _ | refine LeO.ite ?_ ?_ | refine LeO.bind ?_ (fun _ => ?_)
   | exact LeO.none _ | refine LeO.ite ?_ ?_ | refine LeO.bind ?_ (fun _ => ?_)
theorem spec_nlFair.calls (k : Nat) (a0 : ByteArray) (A1 : Option Addr) (c1 : Nat) (l1 : List Int) (r : Bool) (w : World) (hr1 : Kd.C (Kd.int .i64) w A1 l1.length l1) (hc1 : l1.length ≤ c1) (h : spec_nlFair.f k a0 l1 = some r) :
  Calls Tryz.prog 78 #[.string a0, .slice A1 l1.length c1] w fun e w' => e = .returned (.bool r) ∧ Below w.heap.size w w' := by
 have HR1 := Aside0.mk hr1
 have HC1 := Aside0.mk hc1
 clear hr1 hc1
 have HB := Aside0.mk (Below.refl w.heap.size w)
 have H : ((spec_nlCounts.f k a0).bind fun t224 => ((spec_nlShares.f k a0 l1).bind fun t227 => (spec_nlFair.l0 k t224 t227 (t227.length : Int) 0))) = some r := h
 clear h
 replace H := EA H
 obtain ⟨t224, A3, H⟩ := H
 replace H := EA H
 obtain ⟨t227, A4, H⟩ := H
 have H' := Aside0.mk H
 clear H
 go_enter Tryz.func78, Tryz.ntmps78
 go_wp2_with (first | ((with_reducible refine gate_callee (f := 37) rfl ?_); refine goesL_ (some 9) rfl rfl Tryz.func37 (by kernel_rfl) rfl #[.string a0] rfl TA ?_; (with_reducible refine (spec_nlCounts.calls k a0 t224 _ A3.out).mono ?_); rintro e w5 ⟨v225, rfl, ho0, hb⟩; refine ⟨_, rfl, ?_⟩; have n0_ := Aside0.mk (Kd.R_lower ho0 (below_size BB)); have n1_ := Aside0.mk (below_step BB hb); clear HB; have HO226 := n0_; have HB := n1_; clear n0_ n1_; (try clear hb); (try clear hb2); (try clear hk); (try clear hi); (try clear ho0)) | ((with_reducible refine gate_callee (f := 105) rfl ?_); refine goesL_ (some 12) rfl rfl Tryz.func105 (by kernel_rfl) rfl #[.string a0, .slice A1 l1.length c1] rfl TA ?_; (with_reducible refine (spec_nlShares.calls k a0 _ _ l1 t227 _ ?side1 ?side2 A4.out).mono ?_); (case side1 => exact CW (Kd.C_below HR1.out HB.out)); (case side2 => exact HC1.out); rintro e w6 ⟨v228, rfl, ho0, hb⟩; refine ⟨_, rfl, ?_⟩; have n0_ := Aside0.mk (Kd.R_elder' (KR HO226) (Kd.R_base ho0) hb); have n1_ := Aside0.mk (Kd.R_lower (Kd.R_new' ho0 (Kd.R_lt (KR HO226))) (below_size BB)); have n2_ := Aside0.mk (below_step BB hb); clear HO226; clear HB; have HO226 := n0_; have HO229 := n1_; have HB := n2_; clear n0_ n1_ n2_; (try clear hb); (try clear hb2); (try clear hk); (try clear hi); (try clear ho0); obtain ⟨Ao7, co7, eo7⟩ := Kd.R_slice HO229.out; subst eo7))
 go_loopg [14] k (fun kq v14 w' => ∃ (x14_1 : Int), v14 = .int .i64 x14_1 ∧ Aside0 (spec_nlFair.l0 kq t224 t227 (t227.length : Int) x14_1 = some r) ∧ Aside0 (kq ≤ k) ∧ Aside0 (Kd.R (Kd.int .i64) 3 w' w.heap.size (fun k_ => some k_ ≠ ((.slice Ao7 t227.length co7) : Value).ownBlock) v225 t224) ∧ Aside0 (Kd.R (Kd.int .i64) 3 w' w.heap.size (fun k_ => some k_ ≠ (v225 : Value).ownBlock) (.slice Ao7 t227.length co7) t227) ∧ Aside0 (Below w.heap.size w w'))
 case atStart => exact ⟨(0), RF, H', ⟨Nat.le_refl _⟩, ⟨by (with_reducible repeat (first | apply Kd.R_alloc | apply Kd.R_drewN | apply Kd.R_drew)); exact Kd.R_mono HO226.out (fun _ hk => hk.2)⟩, ⟨by (with_reducible repeat (first | apply Kd.R_alloc | apply Kd.R_drewN | apply Kd.R_drew)); exact Kd.R_mono HO229.out (fun _ hk => hk.2)⟩, ⟨BB⟩⟩
 case round =>
  clear H'
  try clear c1
  try clear p2
  try clear c3
  try clear p6
  try clear c7
  obtain ⟨x14_1, rfl, HA, HK1, HO_5, HO_12, HB⟩ := hrel
  cases gk with
  | zero => exact absurd HA.out (by simp [spec_nlFair.l0])
  | succ k1 =>
   have H := HA.out
   clear HA
   simp only [spec_nlFair.l0] at H
   by_cases c8 : x14_1 < (t227.length : Int)
   ·rw [if_pos c8] at H
    have c8b0 : decide (x14_1 < (t227.length : Int)) = true := decide_eq_true c8
    clear c8
    by_cases c9 : 0 ≤ x14_1
    ·rw [if_pos c9] at H
     have c9b0 : decide (0 ≤ x14_1) = true := decide_eq_true c9
     clear c9
     by_cases c10 : x14_1 < (t227.length : Int)
     ·rw [if_pos c10] at H
      have c10b0 : decide (x14_1 < (t227.length : Int)) = true := decide_eq_true c10
      clear c10
      by_cases c11 : x14_1 < (t224.length : Int)
      ·rw [if_pos c11] at H
       have c11b0 : decide (x14_1 < (t224.length : Int)) = true := decide_eq_true c11
       clear c11
       by_cases c12 : (wrap64 (2 * (rd t227 x14_1))) = (rd t224 x14_1)
       ·rw [if_pos c12] at H
        have c12b0 : ((wrap64 (2 * (rd t227 x14_1))) == (rd t224 x14_1)) = true := beq_iff_eq.mpr c12
        have c12b1 : ((wrap64 (2 * (rd t227 x14_1))) != (rd t224 x14_1)) = false := bne_eq_false_iff_eq.mpr c12
        clear c12
        have H' := Aside0.mk H
        clear H
        have p230 : 0 ≤ (x14_1 : Int) := of_decide_eq_true AS
        have q230 : x14_1 < (t227.length : Int) := of_decide_eq_true AS
        obtain ⟨ad230, e230, hx230_0⟩ := Kd.at_int (Kd.R_reads' HO_12.out).2.2 x14_1 p230 q230
        cases e230
        replace p230 := eq_true p230
        replace q230 := eq_true q230
        obtain ⟨Ao13, co13, eo13⟩ := Kd.R_slice HO_5.out
        subst eo13
        have p231 : 0 ≤ (x14_1 : Int) := of_decide_eq_true AS
        have q231 : x14_1 < (t224.length : Int) := of_decide_eq_true AS
        obtain ⟨ad231, e231, hx231_0⟩ := Kd.at_int (Kd.R_reads' HO_5.out).2.2 x14_1 p231 q231
        cases e231
        replace p231 := eq_true p231
        replace q231 := eq_true q231
        go_wp2
        go_roundg k1
        case measure => have := HK1.out; omega
        case rel => exact ⟨(wrap64 (x14_1 + 1)), RF, H', ⟨by have := HK1.out; omega⟩, ⟨KR HO_5⟩, ⟨KR HO_12⟩, ⟨BB⟩⟩
       ·rw [if_neg c12] at H
        have c12b0 : ((wrap64 (2 * (rd t227 x14_1))) == (rd t224 x14_1)) = false := beq_eq_false_iff_ne.mpr c12
        have c12b1 : ((wrap64 (2 * (rd t227 x14_1))) != (rd t224 x14_1)) = true := bne_iff_ne.mpr c12
        obtain rfl := Option.some.inj H
        have p230 : 0 ≤ (x14_1 : Int) := of_decide_eq_true AS
        have q230 : x14_1 < (t227.length : Int) := of_decide_eq_true AS
        obtain ⟨ad230, e230, hx230_0⟩ := Kd.at_int (Kd.R_reads' HO_12.out).2.2 x14_1 p230 q230
        cases e230
        replace p230 := eq_true p230
        replace q230 := eq_true q230
        obtain ⟨Ao14, co14, eo14⟩ := Kd.R_slice HO_5.out
        subst eo14
        have p231 : 0 ≤ (x14_1 : Int) := of_decide_eq_true AS
        have q231 : x14_1 < (t224.length : Int) := of_decide_eq_true AS
        obtain ⟨ad231, e231, hx231_0⟩ := Kd.at_int (Kd.R_reads' HO_5.out).2.2 x14_1 p231 q231
        cases e231
        replace p231 := eq_true p231
        replace q231 := eq_true q231
        go_wp2
        go_ret
        exact ⟨RE, BB⟩
      ·rw [if_neg c11] at H
       cases H
     ·rw [if_neg c10] at H
      cases H
    ·rw [if_neg c9] at H
     cases H
   ·rw [if_neg c8] at H
    have c8b0 : decide (x14_1 < (t227.length : Int)) = false := decide_eq_false c8
    clear c8
    obtain rfl := Option.some.inj H
    go_wp2
    go_ret
    exact ⟨RE, BB⟩

/-! ### spec_l1Own: function 79 -/
def spec_l1Own.f (l0 : List Int) : Option (List Int) := (some (([] : List Int) : List Int)).bind fun y232 => (if y232.length + l0.length < 17592186044416 then (some (y232 ++ l0)) else (none))
theorem spec_l1Own.calls (A0 : Option Addr) (c0 : Nat) (l0 : List Int) (r : List Int) (w : World) (hr0 : Kd.C (Kd.int .i64) w A0 l0.length l0) (hc0 : l0.length ≤ c0) (h : spec_l1Own.f l0 = some r) :
  Calls Tryz.prog 79 #[.slice A0 l0.length c0] w fun e w' => ∃ v0_ : Value, e = .returned (v0_) ∧ Kd.R (Kd.int .i64) 3 w' w.heap.size (fun _ => True) v0_ r ∧ Below w.heap.size w w' := by
 have HR0 := Aside0.mk hr0
 have HC0 := Aside0.mk hc0
 clear hr0 hc0
 have HB := Aside0.mk (Below.refl w.heap.size w)
 have H : ((some (([] : List Int) : List Int)).bind fun y232 => (if y232.length + l0.length < 17592186044416 then (some (y232 ++ l0)) else (none))) = some r := h
 clear h
 obtain ⟨y232, hy232⟩ : ∃ y_ : List Int, y_ = (([] : List Int)) := ⟨_, rfl⟩
 replace H : (if y232.length + l0.length < 17592186044416 then (some (y232 ++ l0)) else (none)) = some r := HY H hy232
 have Ny232 := Aside0.mk hy232
 clear hy232
 by_cases c2 : y232.length + l0.length < 17592186044416
 ·rw [if_pos c2] at H
  have LMc2 := Aside0.mk c2
  clear c2
  obtain ⟨y235, hy235⟩ : ∃ y_ : List Int, y_ = (y232 ++ l0) := ⟨_, rfl⟩
  replace H : (some y235) = some r := HY H hy235
  have Ny235 := Aside0.mk hy235
  clear hy235
  obtain rfl := Option.some.inj H
  go_enter Tryz.func79, Tryz.ntmps79
  go_wp2_with (first | ((with_reducible refine gate_dst (N := 3) rfl ?_); refine Kd.R_lit (Kd.int .i64) _ 3 ?hg (N := 3) ?hd (xs := ([] : List Int)) (inner := []) (ok := fun _ => True) (okp := fun _ => True) ?hr ?hp (fun _ hk => hk) trivial (Below.refl _ _) (Nat.le_refl _) (by simp) ?_; (case hd => rfl); (case hg => rfl); (case hr => exact GS); (case hp => exact (Reps.none _ _)); intro v233 w3 ho4 hb hg_ hnew_; clear hg_ hnew_; (first | rw [← Ny232.out] at ho4 | (simp only [Int.reduceToNat] at ho4; rw [← Ny232.out] at ho4)); have n0_ := Aside0.mk (Kd.R_lower ho4 (below_size BB)); have n1_ := Aside0.mk (below_step BB hb); clear HB; have HO234 := n0_; have HB := n1_; clear n0_ n1_; clear hb ho4) | ((with_reducible refine gate_builtin (b := .append) (xs := #[.tmp 3, .tmp 4]) rfl ?_); at_builtin; refine Kd.R_append_rows (Kd.int .i64) (w0 := w) w.heap.size rfl (.tmp 3) (.tmp 4) 25 3 (.int .i64 0) 8 rfl Tryz.underlying25 info3 rfl (by decide) (by omega) v233 y232 l0 _ _ _ (fun _ => True) (fun _ => False) rfl rfl ?aO ?aR (fun _ _ h => h) (fun _ h => h.elim) ?aF ?aB ?aS ?aL ?_; (case aR => exact CW (Kd.C_below HR0.out HB.out)); (case aB => exact BB); (case aF => exact (fun _ _ => trivial)); (case aO => exact (KR HO234)); (case aS => exact (below_size BB)); (case aL => have := LMc2.out; omega); intro v236 w5 ho hb hg hat; rw [← Ny235.out] at ho; have n0_ := Aside0.mk (hb); have n1_ := Aside0.mk (ho); clear HB; clear HO234; have HB := n0_; have HO237 := n1_; clear n0_ n1_; clear ho hb hg hat))
  go_ret
  exact ⟨_, RE, KR HO237, BB⟩
 ·rw [if_neg c2] at H
  cases H

end Go.Proofs.YthkdkgbcokpbaacGreatDoor.PFnNecklacesShared
