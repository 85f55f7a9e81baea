-- Written by a program of this session (wip/tools/pp.sh) out of the translation; Lean checks it.
import Derived.Test.YtafjjbkkcedgnaaDoorPFnSignsOfSharesx0
import Derived.Test.YtafjjbkkcedgnaaDoorPFnSignsOfSharesx4
import Derived.Test.YtafjjbkkcedgnaaDoorPFnSignsOfSharesx6
namespace Go.Proofs.YtafjjbkkcedgnaaDoor.PFnSignsOfShares
open Go.RowKit Go.Proofs.YtafjjbkkcedgnaaDoorOwn Go.Proofs.YtafjjbkkcedgnaaDoorW.PrintWords Go.Proofs.YtafjjbkkcedgnaaDoorW.PrintLast Go.Proofs.YtafjjbkkcedgnaaDoorW.PrintMore
attribute [local go_sem] max2_int min2_int max_two min_two max_three min_three max_four min_four   -- for this text's walks alone
set_option linter.unusedVariables false
set_option maxHeartbeats 8000000
set_option maxRecDepth 100000
set_option linter.unusedSimpArgs false

/-! ### spec_nlEven: function 49 -/
def spec_nlEven.l0 : Nat → List Int → Int → Int → Option (Bool)
 | 0, _, _, _ => none
 | k + 1, x6, x7, x8 => if x8 < x7 then (if 0 ≤ x8 then (if x8 < (x6.length : Int) then (if (Int.tmod (rd x6 x8) 2) = 1 then (some false) else (spec_nlEven.l0 k x6 x7 (wrap64 (x8 + 1)))) else (none)) else (none)) else (some true)
def spec_nlEven.f (k : Nat) (a0 : ByteArray) : Option (Bool) := (spec_nlCounts.f k a0).bind fun t322 => (spec_nlEven.l0 k t322 (t322.length : Int) 0)
theorem spec_nlEven.mono_l : ∀ k, (∀ y0 y1 y2, LeO (spec_nlEven.l0 k y0 y1 y2) (spec_nlEven.l0 (k + 1) y0 y1 y2))
 | 0 => fun _ _ _ r h => by simp [spec_nlEven.l0] at h
 | k + 1 => by
  have ih0 := spec_nlEven.mono_l k
  ·intro y0 y1 y2
   unfold spec_nlEven.l0
   repeat' first
   | with_reducible first | exact ih0 _ _ _ | exact spec_nlCounts.mono _ _ | exact LeO.refl _ | exact LeO.none _ | refine LeO.ite ?_ ?_ | refine LeO.bind ?_ (fun _ => ?_)
   | exact LeO.none _ | refine LeO.ite ?_ ?_ | refine LeO.bind ?_ (fun _ => ?_)
theorem spec_nlEven.mono : ∀ a0 k, LeO (spec_nlEven.f k a0) (spec_nlEven.f (k + 1) a0) := by
 intro a0 k
 have ih0 := spec_nlEven.mono_l k
 unfold spec_nlEven.f
 repeat' first
   | with_reducible first | exact ih0 _ _ _ | exact spec_nlCounts.mono _ _ | exact LeO.refl _ | exact LeO.none _ | refine LeO.ite ?_ ?_ | refine LeO.bind ?_ (fun _ => ?_)
   | exact LeO.none _ | refine LeO.ite ?_ ?_ | refine LeO.bind ?_ (fun _ => ?_)
theorem spec_nlEven.calls (k : Nat) (a0 : ByteArray) (r : Bool) (w : World) (h : spec_nlEven.f k a0 = some r) :
  Calls Tryd.prog 49 #[.string a0] w fun e w' => e = .returned (.bool r) ∧ Below w.heap.size w w' := by
 have HB := Aside0.mk (Below.refl w.heap.size w)
 have H : ((spec_nlCounts.f k a0).bind fun t322 => (spec_nlEven.l0 k t322 (t322.length : Int) 0)) = some r := h
 clear h
 obtain ⟨t322, A20, H⟩ := Option.bind_eq_some_iff.mp H
 have A2 := Aside0.mk A20
 clear A20
 have H' := Aside0.mk H
 clear H
 go_enter Tryd.func49, Tryd.ntmps49
 go_wp2_with (first | ((with_reducible refine gate_callee (f := 57) rfl ?_); refine goesL_ (some 6) rfl rfl Tryd.func57 (by kernel_rfl) rfl #[.string a0] rfl TA ?_; (with_reducible refine (spec_nlCounts.calls k a0 t322 _ A2.out).mono ?_); rintro e w3 ⟨v323, rfl, ho0, hb⟩; refine ⟨_, rfl, ?_⟩; have n0_ := Aside0.mk (Kd.R_lower ho0 (below_size BB)); have n1_ := Aside0.mk (below_step BB hb); clear HB; have HO324 := n0_; have HB := n1_; clear n0_ n1_; (try clear hb); (try clear hb2); (try clear hk); (try clear hi); (try clear ho0); obtain ⟨Ao4, co4, eo4⟩ := Kd.R_slice HO324.out; subst eo4))
 go_loopg [8] k (fun kq v8 w' => ∃ (x8_1 : Int), v8 = .int .i64 x8_1 ∧ Aside0 (spec_nlEven.l0 kq t322 (t322.length : Int) x8_1 = some r) ∧ Aside0 (kq ≤ k) ∧ Aside0 (Kd.R (Kd.int .i64) 3 w' w.heap.size (fun _ => True) (.slice Ao4 t322.length co4) t322) ∧ Aside0 (Below w.heap.size w w'))
 case atStart => exact ⟨(0), RF, H', ⟨Nat.le_refl _⟩, ⟨KR HO324⟩, ⟨BB⟩⟩
 case round =>
  clear H'
  try clear p2
  try clear c4
  obtain ⟨x8_1, rfl, HA, HK1, HO_6, HB⟩ := hrel
  cases gk with
  | zero => exact absurd HA.out (by simp [spec_nlEven.l0])
  | succ k1 =>
   have H := HA.out
   clear HA
   simp only [spec_nlEven.l0] at H
   by_cases c5 : x8_1 < (t322.length : Int)
   ·rw [if_pos c5] at H
    have c5b0 : decide (x8_1 < (t322.length : Int)) = true := decide_eq_true c5
    clear c5
    by_cases c6 : 0 ≤ x8_1
    ·rw [if_pos c6] at H
     have c6b0 : decide (0 ≤ x8_1) = true := decide_eq_true c6
     clear c6
     by_cases c7 : x8_1 < (t322.length : Int)
     ·rw [if_pos c7] at H
      have c7b0 : decide (x8_1 < (t322.length : Int)) = true := decide_eq_true c7
      clear c7
      by_cases c8 : (Int.tmod (rd t322 x8_1) 2) = 1
      ·rw [if_pos c8] at H
       have c8b0 : ((Int.tmod (rd t322 x8_1) 2) == 1) = true := beq_iff_eq.mpr c8
       have c8b1 : ((Int.tmod (rd t322 x8_1) 2) != 1) = false := bne_eq_false_iff_eq.mpr c8
       clear c8
       obtain rfl := Option.some.inj H
       have p325 : 0 ≤ (x8_1 : Int) := of_decide_eq_true AS
       have q325 : x8_1 < (t322.length : Int) := of_decide_eq_true AS
       obtain ⟨ad325, e325, hx325_0⟩ := Kd.at_int (Kd.R_reads' HO_6.out).2.2 x8_1 p325 q325
       cases e325
       replace p325 := eq_true p325
       replace q325 := eq_true q325
       go_wp2
       go_ret
       exact ⟨RE, BB⟩
      ·rw [if_neg c8] at H
       have c8b0 : ((Int.tmod (rd t322 x8_1) 2) == 1) = false := beq_eq_false_iff_ne.mpr c8
       have c8b1 : ((Int.tmod (rd t322 x8_1) 2) != 1) = true := bne_iff_ne.mpr c8
       have H' := Aside0.mk H
       clear H
       have p325 : 0 ≤ (x8_1 : Int) := of_decide_eq_true AS
       have q325 : x8_1 < (t322.length : Int) := of_decide_eq_true AS
       obtain ⟨ad325, e325, hx325_0⟩ := Kd.at_int (Kd.R_reads' HO_6.out).2.2 x8_1 p325 q325
       cases e325
       replace p325 := eq_true p325
       replace q325 := eq_true q325
       go_wp2
       go_roundg k1
       case measure => have := HK1.out; omega
       case rel => exact ⟨(wrap64 (x8_1 + 1)), RF, H', ⟨by have := HK1.out; omega⟩, ⟨KR HO_6⟩, ⟨BB⟩⟩
     ·rw [if_neg c7] at H
      cases H
    ·rw [if_neg c6] at H
     cases H
   ·rw [if_neg c5] at H
    have c5b0 : decide (x8_1 < (t322.length : Int)) = false := decide_eq_false c5
    clear c5
    obtain rfl := Option.some.inj H
    go_wp2
    go_ret
    exact ⟨RE, BB⟩

/-! ### spec_nlFair: function 52 -/
def spec_nlFair.l0 : Nat → List Int → List Int → Int → Int → Option (Bool)
 | 0, _, _, _, _ => none
 | k + 1, x5, x12, x13, x14 => if x14 < x13 then (if 0 ≤ x14 then (if x14 < (x12.length : Int) then (if x14 < (x5.length : Int) then (if (wrap64 (2 * (rd x12 x14))) = (rd x5 x14) then (spec_nlFair.l0 k x5 x12 x13 (wrap64 (x14 + 1))) else (some false)) else (none)) else (none)) else (none)) else (some true)
def spec_nlFair.f (k : Nat) (a0 : ByteArray) (l1 : List Int) : Option (Bool) := (spec_nlCounts.f k a0).bind fun t326 => ((spec_nlShares.f k a0 l1).bind fun t329 => (spec_nlFair.l0 k t326 t329 (t329.length : Int) 0))
theorem spec_nlFair.mono_l : ∀ k, (∀ y0 y1 y2 y3, LeO (spec_nlFair.l0 k y0 y1 y2 y3) (spec_nlFair.l0 (k + 1) y0 y1 y2 y3))
 | 0 => fun _ _ _ _ r h => by simp [spec_nlFair.l0] at h
 | k + 1 => by
  have ih0 := spec_nlFair.mono_l k
  ·intro y0 y1 y2 y3
   unfold spec_nlFair.l0
   repeat' first
   | with_reducible first | exact ih0 _ _ _ _ | exact spec_nlCounts.mono _ _ | exact spec_nlShares.mono _ _ _ | exact LeO.refl _ | exact LeO.none _ | refine LeO.ite ?_ ?_ | refine LeO.bind ?_ (fun _ => ?_)
   | exact LeO.none _ | refine LeO.ite ?_ ?_ | refine LeO.bind ?_ (fun _ => ?_)
theorem spec_nlFair.mono : ∀ a0 a1 k, LeO (spec_nlFair.f k a0 a1) (spec_nlFair.f (k + 1) a0 a1) := by
 intro a0 a1 k
 have ih0 := spec_nlFair.mono_l k
 unfold spec_nlFair.f
 repeat' first
   | with_reducible first | exact ih0 _ _ _ _ | exact spec_nlCounts.mono _ _ | exact spec_nlShares.mono _ _ _ | exact LeO.refl _ | exact LeO.none _ | refine LeO.ite ?_ ?_ | refine LeO.bind ?_ (fun _ => ?_)
   | exact LeO.none _ | refine LeO.ite ?_ ?_ | refine LeO.bind ?_ (fun _ => ?_)
theorem spec_nlFair.calls (k : Nat) (a0 : ByteArray) (A1 : Option Addr) (c1 : Nat) (l1 : List Int) (r : Bool) (w : World) (hr1 : Kd.C (Kd.int .i64) w A1 l1.length l1) (hc1 : l1.length ≤ c1) (h : spec_nlFair.f k a0 l1 = some r) :
  Calls Tryd.prog 52 #[.string a0, .slice A1 l1.length c1] w fun e w' => e = .returned (.bool r) ∧ Below w.heap.size w w' := by
 have HR1 := Aside0.mk hr1
 have HC1 := Aside0.mk hc1
 clear hr1 hc1
 have HB := Aside0.mk (Below.refl w.heap.size w)
 have H : ((spec_nlCounts.f k a0).bind fun t326 => ((spec_nlShares.f k a0 l1).bind fun t329 => (spec_nlFair.l0 k t326 t329 (t329.length : Int) 0))) = some r := h
 clear h
 obtain ⟨t326, A30, H⟩ := Option.bind_eq_some_iff.mp H
 have A3 := Aside0.mk A30
 clear A30
 obtain ⟨t329, A40, H⟩ := Option.bind_eq_some_iff.mp H
 have A4 := Aside0.mk A40
 clear A40
 have H' := Aside0.mk H
 clear H
 go_enter Tryd.func52, Tryd.ntmps52
 go_wp2_with (first | ((with_reducible refine gate_callee (f := 57) rfl ?_); refine goesL_ (some 9) rfl rfl Tryd.func57 (by kernel_rfl) rfl #[.string a0] rfl TA ?_; (with_reducible refine (spec_nlCounts.calls k a0 t326 _ A3.out).mono ?_); rintro e w5 ⟨v327, rfl, ho0, hb⟩; refine ⟨_, rfl, ?_⟩; have n0_ := Aside0.mk (Kd.R_lower ho0 (below_size BB)); have n1_ := Aside0.mk (below_step BB hb); clear HB; have HO328 := n0_; have HB := n1_; clear n0_ n1_; (try clear hb); (try clear hb2); (try clear hk); (try clear hi); (try clear ho0)) | ((with_reducible refine gate_callee (f := 38) rfl ?_); refine goesL_ (some 12) rfl rfl Tryd.func38 (by kernel_rfl) rfl #[.string a0, .slice A1 l1.length c1] rfl TA ?_; (with_reducible refine (spec_nlShares.calls k a0 _ _ l1 t329 _ ?side1 ?side2 A4.out).mono ?_); (case side1 => exact CW (Kd.C_below HR1.out HB.out)); (case side2 => exact HC1.out); rintro e w6 ⟨v330, rfl, ho0, hb⟩; refine ⟨_, rfl, ?_⟩; have n0_ := Aside0.mk (Kd.R_elder' (KR HO328) (Kd.R_base ho0) hb); have n1_ := Aside0.mk (Kd.R_lower (Kd.R_new' ho0 (Kd.R_lt (KR HO328))) (below_size BB)); have n2_ := Aside0.mk (below_step BB hb); clear HO328; clear HB; have HO328 := n0_; have HO331 := n1_; have HB := n2_; clear n0_ n1_ n2_; (try clear hb); (try clear hb2); (try clear hk); (try clear hi); (try clear ho0); obtain ⟨Ao7, co7, eo7⟩ := Kd.R_slice HO331.out; subst eo7))
 go_loopg [14] k (fun kq v14 w' => ∃ (x14_1 : Int), v14 = .int .i64 x14_1 ∧ Aside0 (spec_nlFair.l0 kq t326 t329 (t329.length : Int) x14_1 = some r) ∧ Aside0 (kq ≤ k) ∧ Aside0 (Kd.R (Kd.int .i64) 3 w' w.heap.size (fun k_ => some k_ ≠ ((.slice Ao7 t329.length co7) : Value).ownBlock) v327 t326) ∧ Aside0 (Kd.R (Kd.int .i64) 3 w' w.heap.size (fun k_ => some k_ ≠ (v327 : Value).ownBlock) (.slice Ao7 t329.length co7) t329) ∧ Aside0 (Below w.heap.size w w'))
 case atStart => exact ⟨(0), RF, H', ⟨Nat.le_refl _⟩, ⟨by (with_reducible repeat (first | apply Kd.R_alloc | apply Kd.R_drewN | apply Kd.R_drew)); exact Kd.R_mono HO328.out (fun _ hk => hk.2)⟩, ⟨by (with_reducible repeat (first | apply Kd.R_alloc | apply Kd.R_drewN | apply Kd.R_drew)); exact Kd.R_mono HO331.out (fun _ hk => hk.2)⟩, ⟨BB⟩⟩
 case round =>
  clear H'
  try clear c1
  try clear p2
  try clear c3
  try clear c5
  try clear p6
  obtain ⟨x14_1, rfl, HA, HK1, HO_5, HO_12, HB⟩ := hrel
  cases gk with
  | zero => exact absurd HA.out (by simp [spec_nlFair.l0])
  | succ k1 =>
   have H := HA.out
   clear HA
   simp only [spec_nlFair.l0] at H
   by_cases c8 : x14_1 < (t329.length : Int)
   ·rw [if_pos c8] at H
    have c8b0 : decide (x14_1 < (t329.length : Int)) = true := decide_eq_true c8
    clear c8
    by_cases c9 : 0 ≤ x14_1
    ·rw [if_pos c9] at H
     have c9b0 : decide (0 ≤ x14_1) = true := decide_eq_true c9
     clear c9
     by_cases c10 : x14_1 < (t329.length : Int)
     ·rw [if_pos c10] at H
      have c10b0 : decide (x14_1 < (t329.length : Int)) = true := decide_eq_true c10
      clear c10
      by_cases c11 : x14_1 < (t326.length : Int)
      ·rw [if_pos c11] at H
       have c11b0 : decide (x14_1 < (t326.length : Int)) = true := decide_eq_true c11
       clear c11
       by_cases c12 : (wrap64 (2 * (rd t329 x14_1))) = (rd t326 x14_1)
       ·rw [if_pos c12] at H
        have c12b0 : ((wrap64 (2 * (rd t329 x14_1))) == (rd t326 x14_1)) = true := beq_iff_eq.mpr c12
        have c12b1 : ((wrap64 (2 * (rd t329 x14_1))) != (rd t326 x14_1)) = false := bne_eq_false_iff_eq.mpr c12
        clear c12
        have H' := Aside0.mk H
        clear H
        have p332 : 0 ≤ (x14_1 : Int) := of_decide_eq_true AS
        have q332 : x14_1 < (t329.length : Int) := of_decide_eq_true AS
        obtain ⟨ad332, e332, hx332_0⟩ := Kd.at_int (Kd.R_reads' HO_12.out).2.2 x14_1 p332 q332
        cases e332
        replace p332 := eq_true p332
        replace q332 := eq_true q332
        obtain ⟨Ao13, co13, eo13⟩ := Kd.R_slice HO_5.out
        subst eo13
        have p333 : 0 ≤ (x14_1 : Int) := of_decide_eq_true AS
        have q333 : x14_1 < (t326.length : Int) := of_decide_eq_true AS
        obtain ⟨ad333, e333, hx333_0⟩ := Kd.at_int (Kd.R_reads' HO_5.out).2.2 x14_1 p333 q333
        cases e333
        replace p333 := eq_true p333
        replace q333 := eq_true q333
        go_wp2
        go_roundg k1
        case measure => have := HK1.out; omega
        case rel => exact ⟨(wrap64 (x14_1 + 1)), RF, H', ⟨by have := HK1.out; omega⟩, ⟨KR HO_5⟩, ⟨KR HO_12⟩, ⟨BB⟩⟩
       ·rw [if_neg c12] at H
        have c12b0 : ((wrap64 (2 * (rd t329 x14_1))) == (rd t326 x14_1)) = false := beq_eq_false_iff_ne.mpr c12
        have c12b1 : ((wrap64 (2 * (rd t329 x14_1))) != (rd t326 x14_1)) = true := bne_iff_ne.mpr c12
        obtain rfl := Option.some.inj H
        have p332 : 0 ≤ (x14_1 : Int) := of_decide_eq_true AS
        have q332 : x14_1 < (t329.length : Int) := of_decide_eq_true AS
        obtain ⟨ad332, e332, hx332_0⟩ := Kd.at_int (Kd.R_reads' HO_12.out).2.2 x14_1 p332 q332
        cases e332
        replace p332 := eq_true p332
        replace q332 := eq_true q332
        obtain ⟨Ao14, co14, eo14⟩ := Kd.R_slice HO_5.out
        subst eo14
        have p333 : 0 ≤ (x14_1 : Int) := of_decide_eq_true AS
        have q333 : x14_1 < (t326.length : Int) := of_decide_eq_true AS
        obtain ⟨ad333, e333, hx333_0⟩ := Kd.at_int (Kd.R_reads' HO_5.out).2.2 x14_1 p333 q333
        cases e333
        replace p333 := eq_true p333
        replace q333 := eq_true q333
        go_wp2
        go_ret
        exact ⟨RE, BB⟩
      ·rw [if_neg c11] at H
       cases H
     ·rw [if_neg c10] at H
      cases H
    ·rw [if_neg c9] at H
     cases H
   ·rw [if_neg c8] at H
    have c8b0 : decide (x14_1 < (t329.length : Int)) = false := decide_eq_false c8
    clear c8
    obtain rfl := Option.some.inj H
    go_wp2
    go_ret
    exact ⟨RE, BB⟩

/-! ### spec_l1Own: function 87 -/
def spec_l1Own.f (l0 : List Int) : Option (List Int) := (some (([] : List Int) : List Int)).bind fun y334 => (if y334.length + l0.length < 17592186044416 then (some (y334 ++ l0)) else (none))
theorem spec_l1Own.calls (A0 : Option Addr) (c0 : Nat) (l0 : List Int) (r : List Int) (w : World) (hr0 : Kd.C (Kd.int .i64) w A0 l0.length l0) (hc0 : l0.length ≤ c0) (h : spec_l1Own.f l0 = some r) :
  Calls Tryd.prog 87 #[.slice A0 l0.length c0] w fun e w' => ∃ v0_ : Value, e = .returned (v0_) ∧ Kd.R (Kd.int .i64) 3 w' w.heap.size (fun _ => True) v0_ r ∧ Below w.heap.size w w' := by
 have HR0 := Aside0.mk hr0
 have HC0 := Aside0.mk hc0
 clear hr0 hc0
 have HB := Aside0.mk (Below.refl w.heap.size w)
 have H : ((some (([] : List Int) : List Int)).bind fun y334 => (if y334.length + l0.length < 17592186044416 then (some (y334 ++ l0)) else (none))) = some r := h
 clear h
 obtain ⟨y334, hy334⟩ : ∃ y_ : List Int, y_ = (([] : List Int)) := ⟨_, rfl⟩
 replace H : (if y334.length + l0.length < 17592186044416 then (some (y334 ++ l0)) else (none)) = some r := HY H hy334
 have Ny334 := Aside0.mk hy334
 clear hy334
 by_cases c2 : y334.length + l0.length < 17592186044416
 ·rw [if_pos c2] at H
  have LMc2 := Aside0.mk c2
  clear c2
  obtain ⟨y337, hy337⟩ : ∃ y_ : List Int, y_ = (y334 ++ l0) := ⟨_, rfl⟩
  replace H : (some y337) = some r := HY H hy337
  have Ny337 := Aside0.mk hy337
  clear hy337
  obtain rfl := Option.some.inj H
  go_enter Tryd.func87, Tryd.ntmps87
  go_wp2_with (first | ((with_reducible refine gate_dst (N := 3) rfl ?_); refine Kd.R_lit (Kd.int .i64) _ 3 ?hg (N := 3) ?hd (xs := ([] : List Int)) (inner := []) (ok := fun _ => True) (okp := fun _ => True) ?hr ?hp (fun _ hk => hk) trivial (Below.refl _ _) (Nat.le_refl _) (by simp) ?_; (case hd => rfl); (case hg => rfl); (case hr => exact GS); (case hp => exact (Reps.none _ _)); intro v335 w3 ho4 hb hg_ hnew_; clear hg_ hnew_; (first | rw [← Ny334.out] at ho4 | (simp only [Int.reduceToNat] at ho4; rw [← Ny334.out] at ho4)); have n0_ := Aside0.mk (Kd.R_lower ho4 (below_size BB)); have n1_ := Aside0.mk (below_step BB hb); clear HB; have HO336 := n0_; have HB := n1_; clear n0_ n1_; clear hb ho4) | ((with_reducible refine gate_builtin (b := .append) (xs := #[.tmp 3, .tmp 4]) rfl ?_); at_builtin; refine Kd.R_append_rows (Kd.int .i64) (w0 := w) w.heap.size rfl (.tmp 3) (.tmp 4) 24 3 (.int .i64 0) 8 rfl Tryd.underlying24 info3 rfl (by decide) (by omega) v335 y334 l0 _ _ _ (fun _ => True) (fun _ => False) rfl rfl ?aO ?aR (fun _ _ h => h) (fun _ h => h.elim) ?aF ?aB ?aS ?aL ?_; (case aR => exact CW (Kd.C_below HR0.out HB.out)); (case aB => exact BB); (case aF => exact (fun _ _ => trivial)); (case aO => exact (KR HO336)); (case aS => exact (below_size BB)); (case aL => have := LMc2.out; omega); intro v338 w5 ho hb hg hat; rw [← Ny337.out] at ho; have n0_ := Aside0.mk (hb); have n1_ := Aside0.mk (ho); clear HB; clear HO336; have HB := n0_; have HO339 := n1_; clear n0_ n1_; clear ho hb hg hat))
  go_ret
  exact ⟨_, RE, KR HO339, BB⟩
 ·rw [if_neg c2] at H
  cases H

/-! ### spec_nlSplits: function 74 -/
mutual
def spec_nlSplits.j0 : Nat → ByteArray → List Int → Int → Int → Option (List Int × Int)
 | 0, _, _, _, _ => none
 | k + 1, x0, x1, x2, x8 => spec_nlSplits.l0 k x0 x1 x2 ([] : List Int) 0 x8
def spec_nlSplits.l0 : Nat → ByteArray → List Int → Int → List Int → Int → Int → Option (List Int × Int)
 | 0, _, _, _, _, _, _ => none
 | k + 1, x0, x1, x2, x9, x10, x11 => if x11 < (x0.size : Int) then ((spec_l1Own.f x1).bind fun t345 => (if t345.length < 17592186044416 then ((spec_nlSplits.f k x0 (t345 ++ [x11]) (wrap64 (x2 - 1))).bind fun bt351 => (if x10 = 0 then (if bt351.2 > 0 then (spec_nlSplits.l0 k x0 x1 x2 bt351.1 (wrap64 (x10 + bt351.2)) (wrap64 (x11 + 1))) else (spec_nlSplits.l0 k x0 x1 x2 x9 (wrap64 (x10 + bt351.2)) (wrap64 (x11 + 1)))) else (spec_nlSplits.l0 k x0 x1 x2 x9 (wrap64 (x10 + bt351.2)) (wrap64 (x11 + 1))))) else (none))) else (some (x9, x10))
def spec_nlSplits.f : Nat → ByteArray → List Int → Int → Option (List Int × Int)
 | 0, _, _, _ => none
 | k + 1, a0, l1, a2 => if a2 = 0 then ((spec_nlFair.f k a0 l1).bind fun t340 => (if t340 = true then ((spec_l1Own.f l1).bind fun t341 => (some (t341, 1))) else (some (([] : List Int), 0)))) else (if (l1.length : Int) > 0 then (if 0 ≤ (wrap64 ((l1.length : Int) - 1)) then (if (wrap64 ((l1.length : Int) - 1)) < (l1.length : Int) then (spec_nlSplits.j0 k a0 l1 a2 (wrap64 ((rd l1 (wrap64 ((l1.length : Int) - 1))) + 1))) else (none)) else (none)) else (spec_nlSplits.j0 k a0 l1 a2 1))
end
theorem spec_nlSplits.mono_l : ∀ k, (∀ y0 y1 y2, LeO (spec_nlSplits.f k y0 y1 y2) (spec_nlSplits.f (k + 1) y0 y1 y2)) ∧ (∀ y0 y1 y2 y3, LeO (spec_nlSplits.j0 k y0 y1 y2 y3) (spec_nlSplits.j0 (k + 1) y0 y1 y2 y3)) ∧ (∀ y0 y1 y2 y3 y4 y5, LeO (spec_nlSplits.l0 k y0 y1 y2 y3 y4 y5) (spec_nlSplits.l0 (k + 1) y0 y1 y2 y3 y4 y5))
 | 0 => ⟨fun _ _ _ r h => by simp [spec_nlSplits.f] at h, fun _ _ _ _ r h => by simp [spec_nlSplits.j0] at h, fun _ _ _ _ _ _ r h => by simp [spec_nlSplits.l0] at h⟩
 | k + 1 => by
  obtain ⟨ih0, ih1, ih2⟩ := spec_nlSplits.mono_l k
  refine ⟨?_, ?_, ?_⟩
  ·intro y0 y1 y2
   unfold spec_nlSplits.f
   repeat' first
   | with_reducible first | exact ih0 _ _ _ | exact ih1 _ _ _ _ | exact ih2 _ _ _ _ _ _ | exact spec_nlFair.mono _ _ _ | exact LeO.refl _ | exact LeO.none _ | refine LeO.ite ?_ ?_ | refine LeO.bind ?_ (fun _ => ?_)
   | exact LeO.none _ | refine LeO.ite ?_ ?_ | refine LeO.bind ?_ (fun _ => ?_)
  ·intro y0 y1 y2 y3
   unfold spec_nlSplits.j0
   repeat' first
   | with_reducible first | exact ih0 _ _ _ | exact ih1 _ _ _ _ | exact ih2 _ _ _ _ _ _ | exact spec_nlFair.mono _ _ _ | exact LeO.refl _ | exact LeO.none _ | refine LeO.ite ?_ ?_ | refine LeO.bind ?_ (fun _ => ?_)
   | exact LeO.none _ | refine LeO.ite ?_ ?_ | refine LeO.bind ?_ (fun _ => ?_)
  ·intro y0 y1 y2 y3 y4 y5
   unfold spec_nlSplits.l0
   repeat' first
   | with_reducible first | exact ih0 _ _ _ | exact ih1 _ _ _ _ | exact ih2 _ _ _ _ _ _ | exact spec_nlFair.mono _ _ _ | exact LeO.refl _ | exact LeO.none _ | refine LeO.ite ?_ ?_ | refine LeO.bind ?_ (fun _ => ?_)
   | exact LeO.none _ | refine LeO.ite ?_ ?_ | refine LeO.bind ?_ (fun _ => ?_)
theorem spec_nlSplits.mono : ∀ a0 a1 a2 k, LeO (spec_nlSplits.f k a0 a1 a2) (spec_nlSplits.f (k + 1) a0 a1 a2) := by
 intro a0 a1 a2 k
 obtain ⟨ih0, ih1, ih2⟩ := spec_nlSplits.mono_l k
 exact ih0 a0 a1 a2
theorem spec_nlSplits.calls (k : Nat) : ∀ (a0 : ByteArray) (A1 : Option Addr) (c1 : Nat) (l1 : List Int) (a2 : Int) (r1 : List Int) (r2 : Int) (w : World) (hr1 : Kd.C (Kd.int .i64) w A1 l1.length l1) (hc1 : l1.length ≤ c1) (h : spec_nlSplits.f k a0 l1 a2 = some (r1, r2)),
  Calls Tryd.prog 74 #[.string a0, .slice A1 l1.length c1, .int .i64 a2] w fun e w' => ∃ v0_ : Value, e = .returned (.tuple #[v0_, .int .i64 r2]) ∧ Kd.R (Kd.int .i64) 3 w' w.heap.size (fun _ => True) v0_ r1 ∧ Below w.heap.size w w' := by
 induction k using Nat.strongRecOn with
 | _ k ih =>
 intro a0 A1 c1 l1 a2 r1 r2 w hr1 hc1 h
 cases k with
 | zero => exact absurd h (by simp [spec_nlSplits.f])
 | succ k =>
 simp only [spec_nlSplits.f] at h
 have HR1 := Aside0.mk hr1
 have HC1 := Aside0.mk hc1
 clear hr1 hc1
 have HB := Aside0.mk (Below.refl w.heap.size w)
 have H : (if a2 = 0 then ((spec_nlFair.f k a0 l1).bind fun t340 => (if t340 = true then ((spec_l1Own.f l1).bind fun t341 => (some (t341, 1))) else (some (([] : List Int), 0)))) else (if (l1.length : Int) > 0 then (if 0 ≤ (wrap64 ((l1.length : Int) - 1)) then (if (wrap64 ((l1.length : Int) - 1)) < (l1.length : Int) then (spec_nlSplits.j0 k a0 l1 a2 (wrap64 ((rd l1 (wrap64 ((l1.length : Int) - 1))) + 1))) else (none)) else (none)) else (spec_nlSplits.j0 k a0 l1 a2 1))) = some (r1, r2) := h
 clear h
 by_cases c4 : a2 = 0
 ·rw [if_pos c4] at H
  have c4b0 : (a2 == 0) = true := beq_iff_eq.mpr c4
  have c4b1 : (a2 != 0) = false := bne_eq_false_iff_eq.mpr c4
  clear c4
  obtain ⟨t340, A50, H⟩ := Option.bind_eq_some_iff.mp H
  have A5 := Aside0.mk A50
  clear A50
  by_cases c6 : t340 = true
  ·subst c6
   replace H := IP H
   obtain ⟨t341, A70, H⟩ := Option.bind_eq_some_iff.mp H
   have A7 := Aside0.mk A70
   clear A70
   simp only [Option.some.injEq, Prod.mk.injEq] at H
   obtain ⟨rfl, rfl⟩ := H
   go_enter Tryd.func74, Tryd.ntmps74
   go_wp2_with (first | ((with_reducible refine gate_callee (f := 52) rfl ?_); refine goesL_ (some 18) rfl rfl Tryd.func52 (by kernel_rfl) rfl #[.string a0, .slice A1 l1.length c1] rfl TA ?_; (with_reducible refine (spec_nlFair.calls k a0 _ _ l1 true _ ?side1 ?side2 A5.out).mono ?_); (case side1 => exact CW HR1.out); (case side2 => exact HC1.out); rintro e w8 ⟨rfl, hb⟩; refine ⟨_, rfl, ?_⟩; have n0_ := Aside0.mk (below_step BB hb); clear HB; have HB := n0_; clear n0_; (try clear hb); (try clear hb2); (try clear hk); (try clear hi)) | ((with_reducible refine gate_callee (f := 87) rfl ?_); refine goesL_ (some 20) rfl rfl Tryd.func87 (by kernel_rfl) rfl #[.slice A1 l1.length c1] rfl TA ?_; (with_reducible refine (spec_l1Own.calls _ _ l1 t341 _ ?side1 ?side2 A7.out).mono ?_); (case side1 => exact CW (Kd.C_below HR1.out HB.out)); (case side2 => exact HC1.out); rintro e w9 ⟨v342, rfl, ho0, hb⟩; refine ⟨_, rfl, ?_⟩; have n0_ := Aside0.mk (Kd.R_lower ho0 (below_size BB)); have n1_ := Aside0.mk (below_step BB hb); clear HB; have HO343 := n0_; have HB := n1_; clear n0_ n1_; (try clear hb); (try clear hb2); (try clear hk); (try clear hi); (try clear ho0)))
   go_ret2
   exact ⟨_, RE, KR HO343, BB⟩
  ·replace c6 := Bool.eq_false_iff.mpr c6
   subst c6
   replace H := IN H
   simp only [Option.some.injEq, Prod.mk.injEq] at H
   obtain ⟨rfl, rfl⟩ := H
   go_enter Tryd.func74, Tryd.ntmps74
   go_wp2_with (first | ((with_reducible refine gate_callee (f := 52) rfl ?_); refine goesL_ (some 18) rfl rfl Tryd.func52 (by kernel_rfl) rfl #[.string a0, .slice A1 l1.length c1] rfl TA ?_; (with_reducible refine (spec_nlFair.calls k a0 _ _ l1 false _ ?side1 ?side2 A5.out).mono ?_); (case side1 => exact CW HR1.out); (case side2 => exact HC1.out); rintro e w10 ⟨rfl, hb⟩; refine ⟨_, rfl, ?_⟩; have n0_ := Aside0.mk (below_step BB hb); clear HB; have HB := n0_; clear n0_; (try clear hb); (try clear hb2); (try clear hk); (try clear hi)))
   go_ret2
   exact ⟨_, RE, by first | exact Kd.R_nil _ _ _ _ _ | exact Kd.N_nil _ _ _ _ _ | exact Kd.V_nil _ _ _ _ _ | exact Kd.Q_nil _ _ _ _ _ | exact Kd.S_nil _ _ _ _ _, BB⟩
 ·rw [if_neg c4] at H
  have c4b0 : (a2 == 0) = false := beq_eq_false_iff_ne.mpr c4
  have c4b1 : (a2 != 0) = true := bne_iff_ne.mpr c4
  have HC11 := Aside0.mk H
  clear H
  go_enter Tryd.func74, Tryd.ntmps74
  go_upto_if 23 with (fail)
  go_cut [8] (fun v8 wc => ∃ (kq : Nat) (x8_10 : Int), v8 = .int .i64 x8_10 ∧ Aside0 (spec_nlSplits.j0 kq a0 l1 a2 x8_10 = some (r1, r2)) ∧ Aside0 (kq ≤ k) ∧ Aside0 (Below w.heap.size w wc))
  case first =>
   have H := HC11.out
   clear HC11
   by_cases c12 : (l1.length : Int) > 0
   ·rw [if_pos c12] at H
    have c12b0 : decide (0 < (l1.length : Int)) = true := decide_eq_true c12
    have c12b1 : decide (0 < l1.length) = true := decide_eq_true (by omega)
    have c12b2 : (0 < l1.length) := by omega
    clear c12
    (first | rw [c12b0] | (simp only [i64_w, i32_w]; rw [c12b0]) | skip)
    obtain ⟨ji13, hji13⟩ : ∃ j_ : Int, (wrap64 ((l1.length : Int) - 1)) = j_ := ⟨_, rfl⟩
    replace H : (if 0 ≤ (ji13) then (if (ji13) < (l1.length : Int) then (spec_nlSplits.j0 k a0 l1 a2 (wrap64 ((rd l1 (ji13)) + 1))) else (none)) else (none)) = some (r1, r2) := by first | (rw [hji13] at H; exact H) | (simp only [hji13] at H ⊢; exact H)
    have hji13w : (IntKind.i64.wrap ((l1.length : Int) - 1)) = ji13 := (i64_w _).trans hji13
    by_cases c14 : 0 ≤ (ji13)
    ·rw [if_pos c14] at H
     have c14b0 : decide (0 ≤ (ji13)) = true := decide_eq_true c14
     clear c14
     by_cases c15 : (ji13) < (l1.length : Int)
     ·rw [if_pos c15] at H
      have c15b0 : decide ((ji13) < (l1.length : Int)) = true := decide_eq_true c15
      clear c15
      have H' := Aside0.mk H
      clear H
      have p344 : 0 ≤ ((ji13) : Int) := of_decide_eq_true AS
      have q344 : (ji13) < (l1.length : Int) := of_decide_eq_true AS
      obtain ⟨ad344, e344, hx344_0⟩ := Kd.at_int HR1.out (ji13) p344 q344
      cases e344
      try (replace hx344_0 := (HB.out.cell (World.block_lt_of_cell? w _ hx344_0)).trans hx344_0)
      replace p344 := eq_true p344
      replace q344 := eq_true q344
      go_wp2
      go_meet
      case rel => exact ⟨_, (wrap64 ((rd l1 (ji13)) + 1)), (by first | rfl | (simp; done) | (simp only [← hji13] <;> (first | rfl | simp)) | (simp [*]; done) | (simp [*, wrap64]; done)), H', ⟨by first | omega | exact Nat.le_refl _⟩, ⟨BB⟩⟩
     ·rw [if_neg c15] at H
      cases H
    ·rw [if_neg c14] at H
     cases H
   ·rw [if_neg c12] at H
    have c12b0 : decide (0 < (l1.length : Int)) = false := decide_eq_false c12
    have c12b1 : decide (0 < l1.length) = false := decide_eq_false (by omega)
    have c12b2 : ¬ (0 < l1.length) := by omega
    clear c12
    (first | rw [c12b0] | (simp only [i64_w, i32_w]; rw [c12b0]) | skip)
    have H' := Aside0.mk H
    clear H
    go_wp2
    go_meet
    case rel => exact ⟨_, (1), RF, H', ⟨by first | omega | exact Nat.le_refl _⟩, ⟨BB⟩⟩
  case rest =>
   clear HC11
   try clear c1
   try clear p2
   try clear p3
   try clear q3
   try clear hx3
   try clear c4
   try clear c4b0
   try clear c4b1
   try clear c5
   try clear c6
   try clear p6
   try clear c7
   try clear c8
   try clear c12
   try clear c12b0
   try clear c12b1
   try clear c12b2
   try clear c14
   try clear c14b0
   try clear c15
   try clear c15b0
   try clear hx344_0
   try clear p344
   try clear q344
   obtain ⟨kq, x8_10, rfl, HA, HJ10, HB⟩ := hcut
   cases kq with
   | zero => exact absurd HA.out (by simp [spec_nlSplits.j0])
   | succ kj10 =>
    have H := HA.out
    clear HA
    simp only [spec_nlSplits.j0] at H
    have H' := Aside0.mk H
    clear H
    go_wp2
    go_loopg [9, 10, 11] kj10 (fun kq v9 v10 v11 w' => ∃ (x9_2 : List Int) (x10_2 : Int) (x11_2 : Int), v10 = .int .i64 x10_2 ∧ v11 = .int .i64 x11_2 ∧ Aside0 (spec_nlSplits.l0 kq a0 l1 a2 x9_2 x10_2 x11_2 = some (r1, r2)) ∧ Aside0 (kq ≤ kj10) ∧ Aside0 (Kd.R (Kd.int .i64) 3 w' w.heap.size (fun _ => True) v9 x9_2) ∧ Aside0 (Below w.heap.size w w'))
    case atStart => exact ⟨(([] : List Int)), (0), (x8_10), RF, RF, H', ⟨Nat.le_refl _⟩, ⟨by first | exact Kd.R_nil _ _ _ _ _ | exact Kd.N_nil _ _ _ _ _ | exact Kd.V_nil _ _ _ _ _ | exact Kd.Q_nil _ _ _ _ _ | exact Kd.S_nil _ _ _ _ _⟩, ⟨BB⟩⟩
    case round =>
     clear H'
     try clear c1
     try clear p2
     try clear p3
     try clear q3
     try clear hx3
     try clear c4
     try clear c4b0
     try clear c4b1
     try clear c5
     try clear c6
     try clear p6
     try clear c7
     try clear c8
     try clear c12
     try clear c12b0
     try clear c12b1
     try clear c12b2
     try clear c14
     try clear c14b0
     try clear c15
     try clear c15b0
     try clear hx344_0
     try clear p2
     try clear p3
     try clear p344
     try clear p6
     try clear q3
     try clear q344
     obtain ⟨x9_2, x10_2, x11_2, rfl, rfl, HA, HK2, HO_9, HB⟩ := hrel
     cases gk with
     | zero => exact absurd HA.out (by simp [spec_nlSplits.l0])
     | succ k2 =>
      have H := HA.out
      clear HA
      simp only [spec_nlSplits.l0] at H
      by_cases c16 : x11_2 < (a0.size : Int)
      ·rw [if_pos c16] at H
       have c16b0 : decide (x11_2 < (a0.size : Int)) = true := decide_eq_true c16
       clear c16
       obtain ⟨t345, A170, H⟩ := Option.bind_eq_some_iff.mp H
       have A17 := Aside0.mk A170
       clear A170
       by_cases c18 : t345.length < 17592186044416
       ·rw [if_pos c18] at H
        have LMc18 := Aside0.mk c18
        clear c18
        obtain ⟨y348, hy348⟩ : ∃ y_ : List Int, y_ = (t345 ++ [x11_2]) := ⟨_, rfl⟩
        replace H : ((spec_nlSplits.f k2 a0 y348 (wrap64 (a2 - 1))).bind fun bt351 => (if x10_2 = 0 then (if bt351.2 > 0 then (spec_nlSplits.l0 k2 a0 l1 a2 bt351.1 (wrap64 (x10_2 + bt351.2)) (wrap64 (x11_2 + 1))) else (spec_nlSplits.l0 k2 a0 l1 a2 x9_2 (wrap64 (x10_2 + bt351.2)) (wrap64 (x11_2 + 1)))) else (spec_nlSplits.l0 k2 a0 l1 a2 x9_2 (wrap64 (x10_2 + bt351.2)) (wrap64 (x11_2 + 1))))) = some (r1, r2) := HY H hy348
        have Ny348 := Aside0.mk hy348
        clear hy348
        obtain ⟨⟨t351, t352⟩, A190, H⟩ := Option.bind_eq_some_iff.mp H
        replace H : (if x10_2 = 0 then (if t352 > 0 then (spec_nlSplits.l0 k2 a0 l1 a2 t351 (wrap64 (x10_2 + t352)) (wrap64 (x11_2 + 1))) else (spec_nlSplits.l0 k2 a0 l1 a2 x9_2 (wrap64 (x10_2 + t352)) (wrap64 (x11_2 + 1)))) else (spec_nlSplits.l0 k2 a0 l1 a2 x9_2 (wrap64 (x10_2 + t352)) (wrap64 (x11_2 + 1)))) = some (r1, r2) := H
        have A19 := Aside0.mk A190
        clear A190
        by_cases c20 : x10_2 = 0
        ·rw [if_pos c20] at H
         have c20b0 : (x10_2 == 0) = true := beq_iff_eq.mpr c20
         have c20b1 : (x10_2 != 0) = false := bne_eq_false_iff_eq.mpr c20
         clear c20
         by_cases c21 : t352 > 0
         ·rw [if_pos c21] at H
          have c21b0 : decide (0 < t352) = true := decide_eq_true c21
          clear c21
          have H' := Aside0.mk H
          clear H
          go_wp2_with (first | ((with_reducible refine gate_callee (f := 87) rfl ?_); refine goesL_ (some 41) rfl rfl Tryd.func87 (by kernel_rfl) rfl #[.slice A1 l1.length c1] rfl TA ?_; (with_reducible refine (spec_l1Own.calls _ _ l1 t345 _ ?side1 ?side2 A17.out).mono ?_); (case side1 => exact CW (Kd.C_below HR1.out HB.out)); (case side2 => exact HC1.out); rintro e w22 ⟨v346, rfl, ho0, hb⟩; refine ⟨_, rfl, ?_⟩; have n0_ := Aside0.mk (Kd.R_elder' (KR HO_9) (Kd.R_base ho0) hb); have n1_ := Aside0.mk (Kd.R_lower (Kd.R_new' ho0 (Kd.R_lt (KR HO_9))) (below_size BB)); have n2_ := Aside0.mk (below_step BB hb); clear HO_9; clear HB; have HO_9 := n0_; have HO347 := n1_; have HB := n2_; clear n0_ n1_ n2_; (try clear hb); (try clear hb2); (try clear hk); (try clear hi); (try clear ho0)) | ((with_reducible refine gate_builtin (b := .append) (xs := #[.tmp 41, .tmp 43]) rfl ?_); at_builtin; refine Kd.R_append (Kd.int .i64) (w0 := w) w.heap.size rfl (.tmp 41) (.tmp 43) 24 3 (.int .i64 0) 8 rfl Tryd.underlying24 info3 rfl (by decide) (by omega) v346 t345 x11_2 [.int .i64 x11_2] (fun k_ => some k_ ≠ (u9 : Value).ownBlock) (fun _ => False) rfl rfl ?aP (fun _ hk => hk.elim) ?aF ?aO ?aB ?aS ?aL ?_; (case aP => exact rfl); (case aB => exact BB); (case aF => exact (fun k_ hk => Kd.fresh' (Kd.R_lt (KR HO_9)) k_ hk)); (case aO => exact (by (with_reducible repeat (first | apply Kd.R_alloc | apply Kd.R_drewN | apply Kd.R_drew)); exact Kd.R_mono HO347.out (fun _ hk => hk.2))); (case aS => exact (below_size BB)); (case aL => have := LMc18.out; omega); intro v349 w23 ho hb hg hat; rw [← Ny348.out] at ho; have n0_ := Aside0.mk (Kd.R_after (ok := (fun _ => True)) (KR HO_9) hg hat); have n1_ := Aside0.mk (hb); have n2_ := Aside0.mk (ho); clear HO_9; clear HB; clear HO347; have HO_9 := n0_; have HB := n1_; have HO350 := n2_; clear n0_ n1_ n2_; clear ho hb hg hat; obtain ⟨Ao24, co24, eo24⟩ := Kd.R_slice HO350.out; subst eo24) | ((with_reducible refine gate_callee (f := 74) rfl ?_); refine goesL_ (some 47) rfl rfl Tryd.func74 (by kernel_rfl) rfl #[.string a0, .slice Ao24 y348.length co24, .int .i64 (wrap64 (a2 - 1))] rfl TA ?_; (with_reducible refine (ih k2 (by have := HJ10.out; have := HK2.out; omega) a0 _ _ y348 (wrap64 (a2 - 1)) t351 t352 _ ?side1 ?side2 A19.out).mono ?_); (case side1 => exact CW (Kd.R_reads' HO350.out).2.2); (case side2 => exact (Kd.R_reads' HO350.out).2.1); rintro e w25 ⟨v353, rfl, ho0, hb⟩; refine ⟨_, rfl, ?_⟩; have n0_ := Aside0.mk (Kd.R_elder' (KR HO_9) (Kd.R_base ho0) hb); have n1_ := Aside0.mk (Kd.R_elder' (KR HO350) (Kd.R_base ho0) hb); have n2_ := Aside0.mk (Kd.R_lower (Kd.R_new' (Kd.R_new' ho0 (Kd.R_lt (KR HO_9))) (Kd.R_lt (KR HO350))) (below_size BB)); have n3_ := Aside0.mk (below_step BB hb); clear HO_9; clear HO350; clear HB; have HO_9 := n0_; have HO350 := n1_; have HO354 := n2_; have HB := n3_; clear n0_ n1_ n2_ n3_; (try clear hb); (try clear hb2); (try clear hk); (try clear hi); (try clear ho0)))
          go_roundg k2
          case measure => have := HJ10.out; have := HK2.out; omega
          case rel => exact ⟨(t351), (wrap64 (x10_2 + t352)), (wrap64 (x11_2 + 1)), RF, RF, H', ⟨by have := HJ10.out; have := HK2.out; omega⟩, ⟨by (with_reducible repeat (first | apply Kd.R_alloc | apply Kd.R_drewN | apply Kd.R_drew)); exact Kd.R_mono HO354.out (fun _ hk => trivial)⟩, ⟨BB⟩⟩
         ·rw [if_neg c21] at H
          have c21b0 : decide (0 < t352) = false := decide_eq_false c21
          clear c21
          have H' := Aside0.mk H
          clear H
          go_wp2_with (first | ((with_reducible refine gate_callee (f := 87) rfl ?_); refine goesL_ (some 41) rfl rfl Tryd.func87 (by kernel_rfl) rfl #[.slice A1 l1.length c1] rfl TA ?_; (with_reducible refine (spec_l1Own.calls _ _ l1 t345 _ ?side1 ?side2 A17.out).mono ?_); (case side1 => exact CW (Kd.C_below HR1.out HB.out)); (case side2 => exact HC1.out); rintro e w26 ⟨v346, rfl, ho0, hb⟩; refine ⟨_, rfl, ?_⟩; have n0_ := Aside0.mk (Kd.R_elder' (KR HO_9) (Kd.R_base ho0) hb); have n1_ := Aside0.mk (Kd.R_lower (Kd.R_new' ho0 (Kd.R_lt (KR HO_9))) (below_size BB)); have n2_ := Aside0.mk (below_step BB hb); clear HO_9; clear HB; have HO_9 := n0_; have HO347 := n1_; have HB := n2_; clear n0_ n1_ n2_; (try clear hb); (try clear hb2); (try clear hk); (try clear hi); (try clear ho0)) | ((with_reducible refine gate_builtin (b := .append) (xs := #[.tmp 41, .tmp 43]) rfl ?_); at_builtin; refine Kd.R_append (Kd.int .i64) (w0 := w) w.heap.size rfl (.tmp 41) (.tmp 43) 24 3 (.int .i64 0) 8 rfl Tryd.underlying24 info3 rfl (by decide) (by omega) v346 t345 x11_2 [.int .i64 x11_2] (fun k_ => some k_ ≠ (u9 : Value).ownBlock) (fun _ => False) rfl rfl ?aP (fun _ hk => hk.elim) ?aF ?aO ?aB ?aS ?aL ?_; (case aP => exact rfl); (case aB => exact BB); (case aF => exact (fun k_ hk => Kd.fresh' (Kd.R_lt (KR HO_9)) k_ hk)); (case aO => exact (by (with_reducible repeat (first | apply Kd.R_alloc | apply Kd.R_drewN | apply Kd.R_drew)); exact Kd.R_mono HO347.out (fun _ hk => hk.2))); (case aS => exact (below_size BB)); (case aL => have := LMc18.out; omega); intro v349 w27 ho hb hg hat; rw [← Ny348.out] at ho; have n0_ := Aside0.mk (Kd.R_after (ok := (fun _ => True)) (KR HO_9) hg hat); have n1_ := Aside0.mk (hb); have n2_ := Aside0.mk (ho); clear HO_9; clear HB; clear HO347; have HO_9 := n0_; have HB := n1_; have HO350 := n2_; clear n0_ n1_ n2_; clear ho hb hg hat; obtain ⟨Ao28, co28, eo28⟩ := Kd.R_slice HO350.out; subst eo28) | ((with_reducible refine gate_callee (f := 74) rfl ?_); refine goesL_ (some 47) rfl rfl Tryd.func74 (by kernel_rfl) rfl #[.string a0, .slice Ao28 y348.length co28, .int .i64 (wrap64 (a2 - 1))] rfl TA ?_; (with_reducible refine (ih k2 (by have := HJ10.out; have := HK2.out; omega) a0 _ _ y348 (wrap64 (a2 - 1)) t351 t352 _ ?side1 ?side2 A19.out).mono ?_); (case side1 => exact CW (Kd.R_reads' HO350.out).2.2); (case side2 => exact (Kd.R_reads' HO350.out).2.1); rintro e w29 ⟨v353, rfl, ho0, hb⟩; refine ⟨_, rfl, ?_⟩; have n0_ := Aside0.mk (Kd.R_elder' (KR HO_9) (Kd.R_base ho0) hb); have n1_ := Aside0.mk (Kd.R_elder' (KR HO350) (Kd.R_base ho0) hb); have n2_ := Aside0.mk (Kd.R_lower (Kd.R_new' (Kd.R_new' ho0 (Kd.R_lt (KR HO_9))) (Kd.R_lt (KR HO350))) (below_size BB)); have n3_ := Aside0.mk (below_step BB hb); clear HO_9; clear HO350; clear HB; have HO_9 := n0_; have HO350 := n1_; have HO354 := n2_; have HB := n3_; clear n0_ n1_ n2_ n3_; (try clear hb); (try clear hb2); (try clear hk); (try clear hi); (try clear ho0)))
          go_roundg k2
          case measure => have := HJ10.out; have := HK2.out; omega
          case rel => exact ⟨(x9_2), (wrap64 (x10_2 + t352)), (wrap64 (x11_2 + 1)), RF, RF, H', ⟨by have := HJ10.out; have := HK2.out; omega⟩, ⟨by (with_reducible repeat (first | apply Kd.R_alloc | apply Kd.R_drewN | apply Kd.R_drew)); exact Kd.R_mono HO_9.out (fun _ hk => trivial)⟩, ⟨BB⟩⟩
        ·rw [if_neg c20] at H
         have c20b0 : (x10_2 == 0) = false := beq_eq_false_iff_ne.mpr c20
         have c20b1 : (x10_2 != 0) = true := bne_iff_ne.mpr c20
         have H' := Aside0.mk H
         clear H
         go_wp2_with (first | ((with_reducible refine gate_callee (f := 87) rfl ?_); refine goesL_ (some 41) rfl rfl Tryd.func87 (by kernel_rfl) rfl #[.slice A1 l1.length c1] rfl TA ?_; (with_reducible refine (spec_l1Own.calls _ _ l1 t345 _ ?side1 ?side2 A17.out).mono ?_); (case side1 => exact CW (Kd.C_below HR1.out HB.out)); (case side2 => exact HC1.out); rintro e w30 ⟨v346, rfl, ho0, hb⟩; refine ⟨_, rfl, ?_⟩; have n0_ := Aside0.mk (Kd.R_elder' (KR HO_9) (Kd.R_base ho0) hb); have n1_ := Aside0.mk (Kd.R_lower (Kd.R_new' ho0 (Kd.R_lt (KR HO_9))) (below_size BB)); have n2_ := Aside0.mk (below_step BB hb); clear HO_9; clear HB; have HO_9 := n0_; have HO347 := n1_; have HB := n2_; clear n0_ n1_ n2_; (try clear hb); (try clear hb2); (try clear hk); (try clear hi); (try clear ho0)) | ((with_reducible refine gate_builtin (b := .append) (xs := #[.tmp 41, .tmp 43]) rfl ?_); at_builtin; refine Kd.R_append (Kd.int .i64) (w0 := w) w.heap.size rfl (.tmp 41) (.tmp 43) 24 3 (.int .i64 0) 8 rfl Tryd.underlying24 info3 rfl (by decide) (by omega) v346 t345 x11_2 [.int .i64 x11_2] (fun k_ => some k_ ≠ (u9 : Value).ownBlock) (fun _ => False) rfl rfl ?aP (fun _ hk => hk.elim) ?aF ?aO ?aB ?aS ?aL ?_; (case aP => exact rfl); (case aB => exact BB); (case aF => exact (fun k_ hk => Kd.fresh' (Kd.R_lt (KR HO_9)) k_ hk)); (case aO => exact (by (with_reducible repeat (first | apply Kd.R_alloc | apply Kd.R_drewN | apply Kd.R_drew)); exact Kd.R_mono HO347.out (fun _ hk => hk.2))); (case aS => exact (below_size BB)); (case aL => have := LMc18.out; omega); intro v349 w31 ho hb hg hat; rw [← Ny348.out] at ho; have n0_ := Aside0.mk (Kd.R_after (ok := (fun _ => True)) (KR HO_9) hg hat); have n1_ := Aside0.mk (hb); have n2_ := Aside0.mk (ho); clear HO_9; clear HB; clear HO347; have HO_9 := n0_; have HB := n1_; have HO350 := n2_; clear n0_ n1_ n2_; clear ho hb hg hat; obtain ⟨Ao32, co32, eo32⟩ := Kd.R_slice HO350.out; subst eo32) | ((with_reducible refine gate_callee (f := 74) rfl ?_); refine goesL_ (some 47) rfl rfl Tryd.func74 (by kernel_rfl) rfl #[.string a0, .slice Ao32 y348.length co32, .int .i64 (wrap64 (a2 - 1))] rfl TA ?_; (with_reducible refine (ih k2 (by have := HJ10.out; have := HK2.out; omega) a0 _ _ y348 (wrap64 (a2 - 1)) t351 t352 _ ?side1 ?side2 A19.out).mono ?_); (case side1 => exact CW (Kd.R_reads' HO350.out).2.2); (case side2 => exact (Kd.R_reads' HO350.out).2.1); rintro e w33 ⟨v353, rfl, ho0, hb⟩; refine ⟨_, rfl, ?_⟩; have n0_ := Aside0.mk (Kd.R_elder' (KR HO_9) (Kd.R_base ho0) hb); have n1_ := Aside0.mk (Kd.R_elder' (KR HO350) (Kd.R_base ho0) hb); have n2_ := Aside0.mk (Kd.R_lower (Kd.R_new' (Kd.R_new' ho0 (Kd.R_lt (KR HO_9))) (Kd.R_lt (KR HO350))) (below_size BB)); have n3_ := Aside0.mk (below_step BB hb); clear HO_9; clear HO350; clear HB; have HO_9 := n0_; have HO350 := n1_; have HO354 := n2_; have HB := n3_; clear n0_ n1_ n2_ n3_; (try clear hb); (try clear hb2); (try clear hk); (try clear hi); (try clear ho0)))
         go_roundg k2
         case measure => have := HJ10.out; have := HK2.out; omega
         case rel => exact ⟨(x9_2), (wrap64 (x10_2 + t352)), (wrap64 (x11_2 + 1)), RF, RF, H', ⟨by have := HJ10.out; have := HK2.out; omega⟩, ⟨by (with_reducible repeat (first | apply Kd.R_alloc | apply Kd.R_drewN | apply Kd.R_drew)); exact Kd.R_mono HO_9.out (fun _ hk => trivial)⟩, ⟨BB⟩⟩
       ·rw [if_neg c18] at H
        cases H
      ·rw [if_neg c16] at H
       have c16b0 : decide (x11_2 < (a0.size : Int)) = false := decide_eq_false c16
       clear c16
       simp only [Option.some.injEq, Prod.mk.injEq] at H
       obtain ⟨rfl, rfl⟩ := H
       go_wp2
       go_ret2
       exact ⟨_, RE, KR HO_9, BB⟩

/-! ### spec_nlFirst: function 50 -/
def spec_nlFirst.l0 : Nat → ByteArray → Int → Option (List Int)
 | 0, _, _ => none
 | k + 1, x0, x3 => (spec_nlSplits.f k x0 ([] : List Int) x3).bind fun bt355 => (if bt355.2 > 0 then (some bt355.1) else (spec_nlFirst.l0 k x0 (wrap64 (x3 + 1))))
def spec_nlFirst.f (k : Nat) (a0 : ByteArray) : Option (List Int) := spec_nlFirst.l0 k a0 0
theorem spec_nlFirst.mono_l : ∀ k, (∀ y0 y1, LeO (spec_nlFirst.l0 k y0 y1) (spec_nlFirst.l0 (k + 1) y0 y1))
 | 0 => fun _ _ r h => by simp [spec_nlFirst.l0] at h
 | k + 1 => by
  have ih0 := spec_nlFirst.mono_l k
  ·intro y0 y1
   unfold spec_nlFirst.l0
   repeat' first
   | with_reducible first | exact ih0 _ _ | exact spec_nlSplits.mono _ _ _ _ | exact LeO.refl _ | exact LeO.none _ | refine LeO.ite ?_ ?_ | refine LeO.bind ?_ (fun _ => ?_)
   | exact LeO.none _ | refine LeO.ite ?_ ?_ | refine LeO.bind ?_ (fun _ => ?_)
theorem spec_nlFirst.mono : ∀ a0 k, LeO (spec_nlFirst.f k a0) (spec_nlFirst.f (k + 1) a0) := by
 intro a0 k
 have ih0 := spec_nlFirst.mono_l k
 unfold spec_nlFirst.f
 repeat' first
   | with_reducible first | exact ih0 _ _ | exact spec_nlSplits.mono _ _ _ _ | exact LeO.refl _ | exact LeO.none _ | refine LeO.ite ?_ ?_ | refine LeO.bind ?_ (fun _ => ?_)
   | exact LeO.none _ | refine LeO.ite ?_ ?_ | refine LeO.bind ?_ (fun _ => ?_)
theorem spec_nlFirst.calls (k : Nat) (a0 : ByteArray) (r : List Int) (w : World) (h : spec_nlFirst.f k a0 = some r) :
  Calls Tryd.prog 50 #[.string a0] w fun e w' => ∃ v0_ : Value, e = .returned (v0_) ∧ Kd.R (Kd.int .i64) 3 w' w.heap.size (fun _ => True) v0_ r ∧ Below w.heap.size w w' := by
 have HB := Aside0.mk (Below.refl w.heap.size w)
 have H : (spec_nlFirst.l0 k a0 0) = some r := h
 clear h
 have H' := Aside0.mk H
 clear H
 go_enter Tryd.func50, Tryd.ntmps50
 go_wp2
 go_loopg [3] k (fun kq v3 w' => ∃ (x3_1 : Int), v3 = .int .i64 x3_1 ∧ Aside0 (spec_nlFirst.l0 kq a0 x3_1 = some r) ∧ Aside0 (kq ≤ k) ∧ Aside0 (Below w.heap.size w w'))
 case atStart => exact ⟨(0), RF, H', ⟨Nat.le_refl _⟩, ⟨BB⟩⟩
 case round =>
  clear H'
  obtain ⟨x3_1, rfl, HA, HK1, HB⟩ := hrel
  cases gk with
  | zero => exact absurd HA.out (by simp [spec_nlFirst.l0])
  | succ k1 =>
   have H := HA.out
   clear HA
   simp only [spec_nlFirst.l0] at H
   obtain ⟨⟨t355, t356⟩, A20, H⟩ := Option.bind_eq_some_iff.mp H
   replace H : (if t356 > 0 then (some t355) else (spec_nlFirst.l0 k1 a0 (wrap64 (x3_1 + 1)))) = some r := H
   have A2 := Aside0.mk A20
   clear A20
   by_cases c3 : t356 > 0
   ·rw [if_pos c3] at H
    have c3b0 : decide (0 < t356) = true := decide_eq_true c3
    clear c3
    obtain rfl := Option.some.inj H
    go_wp2_with (first | ((with_reducible refine gate_callee (f := 74) rfl ?_); refine goesL_ (some 11) rfl rfl Tryd.func74 (by kernel_rfl) rfl #[.string a0, .slice none 0 0, .int .i64 x3_1] rfl TA ?_; (refine (spec_nlSplits.calls k1 a0 _ _ ([] : List Int) x3_1 t355 t356 _ ?side1 ?side2 A2.out).mono ?_); (case side1 => exact Kd.C_nil _ _); (case side2 => exact Nat.le_refl _); rintro e w4 ⟨v357, rfl, ho0, hb⟩; refine ⟨_, rfl, ?_⟩; have n0_ := Aside0.mk (Kd.R_lower ho0 (below_size BB)); have n1_ := Aside0.mk (below_step BB hb); clear HB; have HO358 := n0_; have HB := n1_; clear n0_ n1_; (try clear hb); (try clear hb2); (try clear hk); (try clear hi); (try clear ho0)))
    go_ret
    exact ⟨_, RE, KR HO358, BB⟩
   ·rw [if_neg c3] at H
    have c3b0 : decide (0 < t356) = false := decide_eq_false c3
    clear c3
    have H' := Aside0.mk H
    clear H
    go_wp2_with (first | ((with_reducible refine gate_callee (f := 74) rfl ?_); refine goesL_ (some 11) rfl rfl Tryd.func74 (by kernel_rfl) rfl #[.string a0, .slice none 0 0, .int .i64 x3_1] rfl TA ?_; (refine (spec_nlSplits.calls k1 a0 _ _ ([] : List Int) x3_1 t355 t356 _ ?side1 ?side2 A2.out).mono ?_); (case side1 => exact Kd.C_nil _ _); (case side2 => exact Nat.le_refl _); rintro e w5 ⟨v357, rfl, ho0, hb⟩; refine ⟨_, rfl, ?_⟩; have n0_ := Aside0.mk (Kd.R_lower ho0 (below_size BB)); have n1_ := Aside0.mk (below_step BB hb); clear HB; have HO358 := n0_; have HB := n1_; clear n0_ n1_; (try clear hb); (try clear hb2); (try clear hk); (try clear hi); (try clear ho0)))
    go_roundg k1
    case measure => have := HK1.out; omega
    case rel => exact ⟨(wrap64 (x3_1 + 1)), RF, H', ⟨by have := HK1.out; omega⟩, ⟨BB⟩⟩

end Go.Proofs.YtafjjbkkcedgnaaDoor.PFnSignsOfShares
