-- Written by a program of this session (wip/tools/pp.sh) out of the translation; Lean checks it.
import Derived.Test.YtafjjbkkcedgnabPFnDoorsOfRoomsx0
import Derived.Test.YtafjjbkkcedgnabPFnDoorsOfRoomsx1
import Derived.Test.YtafjjbkkcedgnabPFnDoorsOfRoomsx2
namespace Go.Proofs.Ytafjjbkkcedgnab.PFnDoorsOfRooms
open Go.RowKit Go.Proofs.YtafjjbkkcedgnabOwn Go.Proofs.YtafjjbkkcedgnabW.PrintWords Go.Proofs.YtafjjbkkcedgnabW.PrintLast Go.Proofs.YtafjjbkkcedgnabW.PrintMore
attribute [local go_sem] max2_int min2_int max_two min_two max_three min_three max_four min_four   -- for this text's walks alone
set_option linter.unusedVariables false
set_option maxHeartbeats 8000000
set_option maxRecDepth 100000
set_option linter.unusedSimpArgs false

/-! ### spec_meNear: function 50 -/
def spec_meNear.l0 : Nat → List Int → List Int → Int → Int → Int → Option (Bool)
 | 0, _, _, _, _, _ => none
 | k + 1, x7, x8, x9, x18, x19 => if x19 < x18 then (if 0 ≤ x19 then (if x19 < (x7.length : Int) then (if x19 < (x8.length : Int) then ((spec_l1Abs.f (wrap64 ((rd x7 x19) - (rd x8 x19)))).bind fun t219 => (if t219 > 1 then (some false) else (spec_meNear.l0 k x7 x8 (wrap64 (x9 + t219)) x18 (wrap64 (x19 + 1))))) else (none)) else (none)) else (none)) else (some (x9 == 2))
def spec_meNear.f (k : Nat) (a0 : Int) (a1 : Int) (a2 : Int) : Option (Bool) := (spec_meAt.f k a0 a1).bind fun t211 => ((spec_meAt.f k a0 a2).bind fun t214 => (spec_meNear.l0 k t211 t214 0 (t211.length : Int) 0))
theorem spec_meNear.mono_l : ∀ k, (∀ y0 y1 y2 y3 y4, LeO (spec_meNear.l0 k y0 y1 y2 y3 y4) (spec_meNear.l0 (k + 1) y0 y1 y2 y3 y4))
 | 0 => fun _ _ _ _ _ r h => by simp [spec_meNear.l0] at h
 | k + 1 => by
  have ih0 := spec_meNear.mono_l k
  ·intro y0 y1 y2 y3 y4
   unfold spec_meNear.l0
   repeat' first
   | with_reducible first | exact ih0 _ _ _ _ _ | exact spec_meAt.mono _ _ _ | exact LeO.refl _ | exact LeO.none _ | refine LeO.ite ?_ ?_ | refine LeO.bind ?_ (fun _ => ?_)
   | exact LeO.none _ | refine LeO.ite ?_ ?_ | refine LeO.bind ?_ (fun _ => ?_)
theorem spec_meNear.mono : ∀ a0 a1 a2 k, LeO (spec_meNear.f k a0 a1 a2) (spec_meNear.f (k + 1) a0 a1 a2) := by
 intro a0 a1 a2 k
 have ih0 := spec_meNear.mono_l k
 unfold spec_meNear.f
 repeat' first
   | with_reducible first | exact ih0 _ _ _ _ _ | exact spec_meAt.mono _ _ _ | exact LeO.refl _ | exact LeO.none _ | refine LeO.ite ?_ ?_ | refine LeO.bind ?_ (fun _ => ?_)
   | exact LeO.none _ | refine LeO.ite ?_ ?_ | refine LeO.bind ?_ (fun _ => ?_)
theorem spec_meNear.calls (k : Nat) (a0 : Int) (a1 : Int) (a2 : Int) (r : Bool) (w : World) (h : spec_meNear.f k a0 a1 a2 = some r) :
  Calls Try.prog 50 #[.int .i64 a0, .int .i64 a1, .int .i64 a2] w fun e w' => e = .returned (.bool r) ∧ Below w.heap.size w w' := by
 have HB := Aside0.mk (Below.refl w.heap.size w)
 have H : ((spec_meAt.f k a0 a1).bind fun t211 => ((spec_meAt.f k a0 a2).bind fun t214 => (spec_meNear.l0 k t211 t214 0 (t211.length : Int) 0))) = some r := h
 clear h
 obtain ⟨t211, A40, H⟩ := Option.bind_eq_some_iff.mp H
 have A4 := Aside0.mk A40
 clear A40
 obtain ⟨t214, A50, H⟩ := Option.bind_eq_some_iff.mp H
 have A5 := Aside0.mk A50
 clear A50
 have H' := Aside0.mk H
 clear H
 go_enter Try.func50, Try.ntmps50
 go_wp2_with (first | (go_at_call 85; (with_reducible refine (spec_meAt.calls k a0 a1 t211 _ A4.out).mono ?_); rintro e w6 ⟨v212, rfl, ho0, hb⟩; have n0_ := Aside0.mk (Kd.R_lower ho0 (below_size BB)); have n1_ := Aside0.mk (below_step BB hb); clear HB; have HO213 := n0_; have HB := n1_; clear n0_ n1_; (try clear hb); (try clear hb2); (try clear hk); (try clear hi); (try clear ho0)) | (go_at_call 85; (with_reducible refine (spec_meAt.calls k a0 a2 t214 _ A5.out).mono ?_); rintro e w7 ⟨v215, rfl, ho0, hb⟩; have n0_ := Aside0.mk (Kd.R_elder' (KR HO213) (Kd.R_base ho0) hb); have n1_ := Aside0.mk (Kd.R_lower (Kd.R_new' ho0 (Kd.R_lt (KR HO213))) (below_size BB)); have n2_ := Aside0.mk (below_step BB hb); clear HO213; clear HB; have HO213 := n0_; have HO216 := n1_; have HB := n2_; clear n0_ n1_ n2_; (try clear hb); (try clear hb2); (try clear hk); (try clear hi); (try clear ho0); obtain ⟨Ao8, co8, eo8⟩ := Kd.R_slice HO213.out; subst eo8))
 repeat (go_quiet (first | (go_at_call 85; (with_reducible refine (spec_meAt.calls k a0 a1 t211 _ A4.out).mono ?_); rintro e w6 ⟨v212, rfl, ho0, hb⟩; have n0_ := Aside0.mk (Kd.R_lower ho0 (below_size BB)); have n1_ := Aside0.mk (below_step BB hb); clear HB; have HO213 := n0_; have HB := n1_; clear n0_ n1_; (try clear hb); (try clear hb2); (try clear hk); (try clear hi); (try clear ho0)) | (go_at_call 85; (with_reducible refine (spec_meAt.calls k a0 a2 t214 _ A5.out).mono ?_); rintro e w7 ⟨v215, rfl, ho0, hb⟩; have n0_ := Aside0.mk (Kd.R_elder' (KR HO213) (Kd.R_base ho0) hb); have n1_ := Aside0.mk (Kd.R_lower (Kd.R_new' ho0 (Kd.R_lt (KR HO213))) (below_size BB)); have n2_ := Aside0.mk (below_step BB hb); clear HO213; clear HB; have HO213 := n0_; have HO216 := n1_; have HB := n2_; clear n0_ n1_ n2_; (try clear hb); (try clear hb2); (try clear hk); (try clear hi); (try clear ho0); obtain ⟨Ao8, co8, eo8⟩ := Kd.R_slice HO213.out; subst eo8)); try go_wp2_with (first | (go_at_call 85; (with_reducible refine (spec_meAt.calls k a0 a1 t211 _ A4.out).mono ?_); rintro e w6 ⟨v212, rfl, ho0, hb⟩; have n0_ := Aside0.mk (Kd.R_lower ho0 (below_size BB)); have n1_ := Aside0.mk (below_step BB hb); clear HB; have HO213 := n0_; have HB := n1_; clear n0_ n1_; (try clear hb); (try clear hb2); (try clear hk); (try clear hi); (try clear ho0)) | (go_at_call 85; (with_reducible refine (spec_meAt.calls k a0 a2 t214 _ A5.out).mono ?_); rintro e w7 ⟨v215, rfl, ho0, hb⟩; have n0_ := Aside0.mk (Kd.R_elder' (KR HO213) (Kd.R_base ho0) hb); have n1_ := Aside0.mk (Kd.R_lower (Kd.R_new' ho0 (Kd.R_lt (KR HO213))) (below_size BB)); have n2_ := Aside0.mk (below_step BB hb); clear HO213; clear HB; have HO213 := n0_; have HO216 := n1_; have HB := n2_; clear n0_ n1_ n2_; (try clear hb); (try clear hb2); (try clear hk); (try clear hi); (try clear ho0); obtain ⟨Ao8, co8, eo8⟩ := Kd.R_slice HO213.out; subst eo8)))
 go_loopg [9, 19] k (fun kq v9 v19 w' => ∃ (x9_1 : Int) (x19_1 : Int), v9 = .int .i64 x9_1 ∧ v19 = .int .i64 x19_1 ∧ Aside0 (spec_meNear.l0 kq t211 t214 x9_1 (t211.length : Int) x19_1 = some r) ∧ Aside0 (kq ≤ k) ∧ Aside0 (Kd.R (Kd.int .i64) 3 w' w.heap.size (fun k_ => some k_ ≠ (v215 : Value).ownBlock) (.slice Ao8 t211.length co8) t211) ∧ Aside0 (Kd.R (Kd.int .i64) 3 w' w.heap.size (fun k_ => some k_ ≠ ((.slice Ao8 t211.length co8) : Value).ownBlock) v215 t214) ∧ Aside0 (Below w.heap.size w w'))
 case atStart => exact ⟨(0), (0), RF, RF, H', ⟨Nat.le_refl _⟩, ⟨by (with_reducible repeat (first | apply Kd.R_alloc | apply Kd.R_drewN | apply Kd.R_drew)); exact Kd.R_mono HO213.out (fun _ hk => hk.2)⟩, ⟨by (with_reducible repeat (first | apply Kd.R_alloc | apply Kd.R_drewN | apply Kd.R_drew)); exact Kd.R_mono HO216.out (fun _ hk => hk.2)⟩, ⟨BB⟩⟩
 case round =>
  clear H'
  try clear p2
  try clear c5
  try clear p6
  obtain ⟨x9_1, x19_1, rfl, rfl, HA, HK1, HO_7, HO_8, HB⟩ := hrel
  cases gk with
  | zero => exact absurd HA.out (by simp [spec_meNear.l0])
  | succ k1 =>
   have H := HA.out
   clear HA
   simp only [spec_meNear.l0] at H
   by_cases c9 : x19_1 < (t211.length : Int)
   ·rw [if_pos c9] at H
    have c9b0 : decide (x19_1 < (t211.length : Int)) = true := decide_eq_true c9
    clear c9
    by_cases c10 : 0 ≤ x19_1
    ·rw [if_pos c10] at H
     have c10b0 : decide (0 ≤ x19_1) = true := decide_eq_true c10
     clear c10
     by_cases c11 : x19_1 < (t211.length : Int)
     ·rw [if_pos c11] at H
      have c11b0 : decide (x19_1 < (t211.length : Int)) = true := decide_eq_true c11
      clear c11
      by_cases c12 : x19_1 < (t214.length : Int)
      ·rw [if_pos c12] at H
       have c12b0 : decide (x19_1 < (t214.length : Int)) = true := decide_eq_true c12
       clear c12
       obtain ⟨t219, A130, H⟩ := Option.bind_eq_some_iff.mp H
       have A13 := Aside0.mk A130
       clear A130
       by_cases c14 : t219 > 1
       ·rw [if_pos c14] at H
        have c14b0 : decide (1 < t219) = true := decide_eq_true c14
        clear c14
        obtain rfl := Option.some.inj H
        have p217 : 0 ≤ (x19_1 : Int) := of_decide_eq_true AS
        have q217 : x19_1 < (t211.length : Int) := of_decide_eq_true AS
        obtain ⟨ad217, e217, hx217_0⟩ := Kd.at_int (Kd.R_reads' HO_7.out).2.2 x19_1 p217 q217
        cases e217
        replace p217 := eq_true p217
        replace q217 := eq_true q217
        obtain ⟨Ao15, co15, eo15⟩ := Kd.R_slice HO_8.out
        subst eo15
        have p218 : 0 ≤ (x19_1 : Int) := of_decide_eq_true AS
        have q218 : x19_1 < (t214.length : Int) := of_decide_eq_true AS
        obtain ⟨ad218, e218, hx218_0⟩ := Kd.at_int (Kd.R_reads' HO_8.out).2.2 x19_1 p218 q218
        cases e218
        replace p218 := eq_true p218
        replace q218 := eq_true q218
        go_wp2_with (first | (go_at_call 86; (with_reducible refine (spec_l1Abs.calls (wrap64 ((rd t211 x19_1) - (rd t214 x19_1))) t219 _ A13.out).mono ?_); rintro e w' ⟨rfl, ⟨nd, rfl⟩⟩; (try first | exact ⟨rfl, _, World.drewN_drewN _ _ _⟩ | exact ⟨rfl, _, Eq.trans (World.drewN_drewN _ _ _) (congrArg (World.drewN _) (Nat.add_assoc _ _ _))⟩)))
        repeat (go_quiet (first | (go_at_call 86; (with_reducible refine (spec_l1Abs.calls (wrap64 ((rd t211 x19_1) - (rd t214 x19_1))) t219 _ A13.out).mono ?_); rintro e w' ⟨rfl, ⟨nd, rfl⟩⟩; (try first | exact ⟨rfl, _, World.drewN_drewN _ _ _⟩ | exact ⟨rfl, _, Eq.trans (World.drewN_drewN _ _ _) (congrArg (World.drewN _) (Nat.add_assoc _ _ _))⟩))); try go_wp2_with (first | (go_at_call 86; (with_reducible refine (spec_l1Abs.calls (wrap64 ((rd t211 x19_1) - (rd t214 x19_1))) t219 _ A13.out).mono ?_); rintro e w' ⟨rfl, ⟨nd, rfl⟩⟩; (try first | exact ⟨rfl, _, World.drewN_drewN _ _ _⟩ | exact ⟨rfl, _, Eq.trans (World.drewN_drewN _ _ _) (congrArg (World.drewN _) (Nat.add_assoc _ _ _))⟩))))
        go_ret
        exact ⟨RE, BB⟩
       ·rw [if_neg c14] at H
        have c14b0 : decide (1 < t219) = false := decide_eq_false c14
        clear c14
        have H' := Aside0.mk H
        clear H
        have p217 : 0 ≤ (x19_1 : Int) := of_decide_eq_true AS
        have q217 : x19_1 < (t211.length : Int) := of_decide_eq_true AS
        obtain ⟨ad217, e217, hx217_0⟩ := Kd.at_int (Kd.R_reads' HO_7.out).2.2 x19_1 p217 q217
        cases e217
        replace p217 := eq_true p217
        replace q217 := eq_true q217
        obtain ⟨Ao16, co16, eo16⟩ := Kd.R_slice HO_8.out
        subst eo16
        have p218 : 0 ≤ (x19_1 : Int) := of_decide_eq_true AS
        have q218 : x19_1 < (t214.length : Int) := of_decide_eq_true AS
        obtain ⟨ad218, e218, hx218_0⟩ := Kd.at_int (Kd.R_reads' HO_8.out).2.2 x19_1 p218 q218
        cases e218
        replace p218 := eq_true p218
        replace q218 := eq_true q218
        go_wp2_with (first | (go_at_call 86; (with_reducible refine (spec_l1Abs.calls (wrap64 ((rd t211 x19_1) - (rd t214 x19_1))) t219 _ A13.out).mono ?_); rintro e w' ⟨rfl, ⟨nd, rfl⟩⟩; (first | exact ⟨rfl, _, World.drewN_drewN _ _ _⟩ | exact ⟨rfl, _, Eq.trans (World.drewN_drewN _ _ _) (congrArg (World.drewN _) (Nat.add_assoc _ _ _))⟩)) | (go_at_call 86; (with_reducible refine (spec_l1Abs.calls (wrap64 ((rd t211 x19_1) - (rd t214 x19_1))) t219 _ A13.out).mono ?_); rintro e w' ⟨rfl, ⟨nd, rfl⟩⟩; have p220 : 0 ≤ (x19_1 : Int) := of_decide_eq_true AS; have q220 : x19_1 < (t211.length : Int) := of_decide_eq_true AS; obtain ⟨ad220, e220, hx220_0⟩ := Kd.at_int (Kd.R_reads' HO_7.out).2.2 x19_1 p220 q220; obtain rfl : ad217 = ad220 := (by injection e220); replace p220 := eq_true p220; replace q220 := eq_true q220; have p221 : 0 ≤ (x19_1 : Int) := of_decide_eq_true AS; have q221 : x19_1 < (t214.length : Int) := of_decide_eq_true AS; obtain ⟨ad221, e221, hx221_0⟩ := Kd.at_int (Kd.R_reads' HO_8.out).2.2 x19_1 p221 q221; obtain rfl : ad218 = ad221 := (by injection e221); replace p221 := eq_true p221; replace q221 := eq_true q221))
        repeat (go_quiet (first | (go_at_call 86; (with_reducible refine (spec_l1Abs.calls (wrap64 ((rd t211 x19_1) - (rd t214 x19_1))) t219 _ A13.out).mono ?_); rintro e w' ⟨rfl, ⟨nd, rfl⟩⟩; (first | exact ⟨rfl, _, World.drewN_drewN _ _ _⟩ | exact ⟨rfl, _, Eq.trans (World.drewN_drewN _ _ _) (congrArg (World.drewN _) (Nat.add_assoc _ _ _))⟩)) | (go_at_call 86; (with_reducible refine (spec_l1Abs.calls (wrap64 ((rd t211 x19_1) - (rd t214 x19_1))) t219 _ A13.out).mono ?_); rintro e w' ⟨rfl, ⟨nd, rfl⟩⟩; have p220 : 0 ≤ (x19_1 : Int) := of_decide_eq_true AS; have q220 : x19_1 < (t211.length : Int) := of_decide_eq_true AS; obtain ⟨ad220, e220, hx220_0⟩ := Kd.at_int (Kd.R_reads' HO_7.out).2.2 x19_1 p220 q220; obtain rfl : ad217 = ad220 := (by injection e220); replace p220 := eq_true p220; replace q220 := eq_true q220; have p221 : 0 ≤ (x19_1 : Int) := of_decide_eq_true AS; have q221 : x19_1 < (t214.length : Int) := of_decide_eq_true AS; obtain ⟨ad221, e221, hx221_0⟩ := Kd.at_int (Kd.R_reads' HO_8.out).2.2 x19_1 p221 q221; obtain rfl : ad218 = ad221 := (by injection e221); replace p221 := eq_true p221; replace q221 := eq_true q221)); try go_wp2_with (first | (go_at_call 86; (with_reducible refine (spec_l1Abs.calls (wrap64 ((rd t211 x19_1) - (rd t214 x19_1))) t219 _ A13.out).mono ?_); rintro e w' ⟨rfl, ⟨nd, rfl⟩⟩; (first | exact ⟨rfl, _, World.drewN_drewN _ _ _⟩ | exact ⟨rfl, _, Eq.trans (World.drewN_drewN _ _ _) (congrArg (World.drewN _) (Nat.add_assoc _ _ _))⟩)) | (go_at_call 86; (with_reducible refine (spec_l1Abs.calls (wrap64 ((rd t211 x19_1) - (rd t214 x19_1))) t219 _ A13.out).mono ?_); rintro e w' ⟨rfl, ⟨nd, rfl⟩⟩; have p220 : 0 ≤ (x19_1 : Int) := of_decide_eq_true AS; have q220 : x19_1 < (t211.length : Int) := of_decide_eq_true AS; obtain ⟨ad220, e220, hx220_0⟩ := Kd.at_int (Kd.R_reads' HO_7.out).2.2 x19_1 p220 q220; obtain rfl : ad217 = ad220 := (by injection e220); replace p220 := eq_true p220; replace q220 := eq_true q220; have p221 : 0 ≤ (x19_1 : Int) := of_decide_eq_true AS; have q221 : x19_1 < (t214.length : Int) := of_decide_eq_true AS; obtain ⟨ad221, e221, hx221_0⟩ := Kd.at_int (Kd.R_reads' HO_8.out).2.2 x19_1 p221 q221; obtain rfl : ad218 = ad221 := (by injection e221); replace p221 := eq_true p221; replace q221 := eq_true q221)))
        go_roundg k1
        case measure => have := HK1.out; omega
        case rel => exact ⟨(wrap64 (x9_1 + t219)), (wrap64 (x19_1 + 1)), RF, RF, H', ⟨by have := HK1.out; omega⟩, ⟨KR HO_7⟩, ⟨KR HO_8⟩, ⟨BB⟩⟩
      ·rw [if_neg c12] at H
       cases H
     ·rw [if_neg c11] at H
      cases H
    ·rw [if_neg c10] at H
     cases H
   ·rw [if_neg c9] at H
    have c9b0 : decide (x19_1 < (t211.length : Int)) = false := decide_eq_false c9
    clear c9
    obtain rfl := Option.some.inj H
    go_wp2
    repeat (go_quiet (fail); try go_wp2)
    go_ret
    exact ⟨RE, BB⟩

/-! ### spec_meCells: function 41 -/
mutual
def spec_meCells.l0 : Nat → Int → List (List Int) → Int → Option ((List (List Int)))
 | 0, _, _, _ => none
 | k + 1, x0, x3, x4 => (spec_meCount.f x0).bind fun t222 => (if x4 < t222 then (spec_meCells.l1 k x0 x3 x4 (wrap64 (x4 + 1))) else (some x3))
def spec_meCells.l1 : Nat → Int → List (List Int) → Int → Int → Option ((List (List Int)))
 | 0, _, _, _, _ => none
 | k + 1, x0, x3, x4, x5 => (spec_meCount.f x0).bind fun t223 => (if x5 < t223 then (spec_meCells.l2 k x0 x3 x4 x5 (wrap64 (x5 + 1))) else (spec_meCells.l0 k x0 x3 (wrap64 (x4 + 1))))
def spec_meCells.l2 : Nat → Int → List (List Int) → Int → Int → Int → Option ((List (List Int)))
 | 0, _, _, _, _, _ => none
 | k + 1, x0, x3, x4, x5, x6 => (spec_meCount.f x0).bind fun t224 => (if x6 < t224 then ((spec_meNear.f k x0 x4 x5).bind fun t225 => (if t225 = true then ((spec_meNear.f k x0 x4 x6).bind fun t226 => (if t226 = true then ((spec_meNear.f k x0 x5 x6).bind fun t227 => (if t227 = true then (if x3.length < 5864062014805 then (spec_meCells.l2 k x0 (x3 ++ [(([x4, x5, x6] : List Int))]) x4 x5 (wrap64 (x6 + 1))) else (none)) else (spec_meCells.l2 k x0 x3 x4 x5 (wrap64 (x6 + 1))))) else (spec_meCells.l2 k x0 x3 x4 x5 (wrap64 (x6 + 1))))) else (spec_meCells.l2 k x0 x3 x4 x5 (wrap64 (x6 + 1))))) else (spec_meCells.l1 k x0 x3 x4 (wrap64 (x5 + 1))))
end
def spec_meCells.f (k : Nat) (a0 : Int) : Option ((List (List Int))) := spec_meCells.l0 k a0 ([] : List (List Int)) 0
theorem spec_meCells.mono_l : ∀ k, (∀ y0 y1 y2, LeO (spec_meCells.l0 k y0 y1 y2) (spec_meCells.l0 (k + 1) y0 y1 y2)) ∧ (∀ y0 y1 y2 y3, LeO (spec_meCells.l1 k y0 y1 y2 y3) (spec_meCells.l1 (k + 1) y0 y1 y2 y3)) ∧ (∀ y0 y1 y2 y3 y4, LeO (spec_meCells.l2 k y0 y1 y2 y3 y4) (spec_meCells.l2 (k + 1) y0 y1 y2 y3 y4))
 | 0 => ⟨fun _ _ _ r h => by simp [spec_meCells.l0] at h, fun _ _ _ _ r h => by simp [spec_meCells.l1] at h, fun _ _ _ _ _ r h => by simp [spec_meCells.l2] at h⟩
 | k + 1 => by
  obtain ⟨ih0, ih1, ih2⟩ := spec_meCells.mono_l k
  refine ⟨?_, ?_, ?_⟩
  ·intro y0 y1 y2
   unfold spec_meCells.l0
   repeat' first
   | with_reducible first | exact ih0 _ _ _ | exact ih1 _ _ _ _ | exact ih2 _ _ _ _ _ | exact spec_meNear.mono _ _ _ _ | exact LeO.refl _ | exact LeO.none _ | refine LeO.ite ?_ ?_ | refine LeO.bind ?_ (fun _ => ?_)
   | exact LeO.none _ | refine LeO.ite ?_ ?_ | refine LeO.bind ?_ (fun _ => ?_)
  ·intro y0 y1 y2 y3
   unfold spec_meCells.l1
   repeat' first
   | with_reducible first | exact ih0 _ _ _ | exact ih1 _ _ _ _ | exact ih2 _ _ _ _ _ | exact spec_meNear.mono _ _ _ _ | exact LeO.refl _ | exact LeO.none _ | refine LeO.ite ?_ ?_ | refine LeO.bind ?_ (fun _ => ?_)
   | exact LeO.none _ | refine LeO.ite ?_ ?_ | refine LeO.bind ?_ (fun _ => ?_)
  ·intro y0 y1 y2 y3 y4
   unfold spec_meCells.l2
   repeat' first
   | with_reducible first | exact ih0 _ _ _ | exact ih1 _ _ _ _ | exact ih2 _ _ _ _ _ | exact spec_meNear.mono _ _ _ _ | exact LeO.refl _ | exact LeO.none _ | refine LeO.ite ?_ ?_ | refine LeO.bind ?_ (fun _ => ?_)
   | exact LeO.none _ | refine LeO.ite ?_ ?_ | refine LeO.bind ?_ (fun _ => ?_)
theorem spec_meCells.mono : ∀ a0 k, LeO (spec_meCells.f k a0) (spec_meCells.f (k + 1) a0) := by
 intro a0 k
 obtain ⟨ih0, ih1, ih2⟩ := spec_meCells.mono_l k
 unfold spec_meCells.f
 repeat' first
   | with_reducible first | exact ih0 _ _ _ | exact ih1 _ _ _ _ | exact ih2 _ _ _ _ _ | exact spec_meNear.mono _ _ _ _ | exact LeO.refl _ | exact LeO.none _ | refine LeO.ite ?_ ?_ | refine LeO.bind ?_ (fun _ => ?_)
   | exact LeO.none _ | refine LeO.ite ?_ ?_ | refine LeO.bind ?_ (fun _ => ?_)
theorem spec_meCells.calls (k : Nat) (a0 : Int) (r : List (List Int)) (w : World) (h : spec_meCells.f k a0 = some r) :
  Calls Try.prog 41 #[.int .i64 a0] w fun e w' => ∃ v0_ : Value, e = .returned (v0_) ∧ Kd.S (Kd.slice 3 (Kd.int .i64)) 24 w' w.heap.size (fun _ => True) v0_ r ∧ Below w.heap.size w w' := by
 have HB := Aside0.mk (Below.refl w.heap.size w)
 have H : (spec_meCells.l0 k a0 ([] : List (List Int)) 0) = some r := h
 clear h
 have H' := Aside0.mk H
 clear H
 go_enter Try.func41, Try.ntmps41
 go_wp2
 go_loopg [3, 4] k (fun kq v3 v4 w' => ∃ (x3_1 : List (List Int)) (x4_1 : Int), v4 = .int .i64 x4_1 ∧ Aside0 (spec_meCells.l0 kq a0 x3_1 x4_1 = some r) ∧ Aside0 (kq ≤ k) ∧ Aside0 (Kd.S (Kd.slice 3 (Kd.int .i64)) 24 w' w.heap.size (fun _ => True) v3 x3_1) ∧ Aside0 (Below w.heap.size w w'))
 case atStart => exact ⟨(([] : List (List Int))), (0), RF, H', ⟨Nat.le_refl _⟩, ⟨by first | exact Kd.S_nil _ _ _ _ _ | exact Kd.N_nil _ _ _ _ _ | exact Kd.V_nil _ _ _ _ _ | exact Kd.Q_nil _ _ _ _ _ | exact Kd.R_nil _ _ _ _ _⟩, ⟨BB⟩⟩
 case round =>
  clear H'
  obtain ⟨x3_1, x4_1, rfl, HA, HK1, HO_3, HB⟩ := hrel
  cases gk with
  | zero => exact absurd HA.out (by simp [spec_meCells.l0])
  | succ k1 =>
   have H := HA.out
   clear HA
   simp only [spec_meCells.l0] at H
   obtain ⟨t222, A20, H⟩ := Option.bind_eq_some_iff.mp H
   have A2 := Aside0.mk A20
   clear A20
   by_cases c3 : x4_1 < t222
   ·rw [if_pos c3] at H
    have c3b0 : decide (x4_1 < t222) = true := decide_eq_true c3
    clear c3
    have H' := Aside0.mk H
    clear H
    go_wp2_with (first | ((with_reducible refine gate_callee (f := 78) rfl ?_); refine goesL_ (some 9) rfl rfl Try.func78 (by kernel_rfl) rfl #[.int .i64 a0] rfl TA ?_; (with_reducible refine (spec_meCount.calls a0 t222 _ A2.out).mono ?_); rintro e w' ⟨rfl, ⟨nd, rfl⟩⟩; refine ⟨_, rfl, ?_⟩))
    go_loopg [3, 5] k1 (fun kq v3 v5 w' => ∃ (x3_2 : List (List Int)) (x5_2 : Int), v5 = .int .i64 x5_2 ∧ Aside0 (spec_meCells.l1 kq a0 x3_2 x4_1 x5_2 = some r) ∧ Aside0 (kq ≤ k1) ∧ Aside0 (Kd.S (Kd.slice 3 (Kd.int .i64)) 24 w' w.heap.size (fun _ => True) v3 x3_2) ∧ Aside0 (Below w.heap.size w w'))
    case atStart => exact ⟨(x3_1), (wrap64 (x4_1 + 1)), RF, H', ⟨Nat.le_refl _⟩, ⟨KS HO_3⟩, ⟨BB⟩⟩
    case round =>
     clear H'
     try clear p2
     try clear c3
     try clear c3b0
     obtain ⟨x3_2, x5_2, rfl, HA, HK2, HO_3, HB⟩ := hrel
     cases gk with
     | zero => exact absurd HA.out (by simp [spec_meCells.l1])
     | succ k2 =>
      have H := HA.out
      clear HA
      simp only [spec_meCells.l1] at H
      obtain ⟨t223, A40, H⟩ := Option.bind_eq_some_iff.mp H
      have A4 := Aside0.mk A40
      clear A40
      by_cases c5 : x5_2 < t223
      ·rw [if_pos c5] at H
       have c5b0 : decide (x5_2 < t223) = true := decide_eq_true c5
       clear c5
       have H' := Aside0.mk H
       clear H
       go_wp2_with (first | ((with_reducible refine gate_callee (f := 78) rfl ?_); refine goesL_ (some 17) rfl rfl Try.func78 (by kernel_rfl) rfl #[.int .i64 a0] rfl TA ?_; (with_reducible refine (spec_meCount.calls a0 t223 _ A4.out).mono ?_); rintro e w' ⟨rfl, ⟨nd, rfl⟩⟩; refine ⟨_, rfl, ?_⟩))
       go_loopg [3, 6] k2 (fun kq v3 v6 w' => ∃ (x3_3 : List (List Int)) (x6_3 : Int), v6 = .int .i64 x6_3 ∧ Aside0 (spec_meCells.l2 kq a0 x3_3 x4_1 x5_2 x6_3 = some r) ∧ Aside0 (kq ≤ k2) ∧ Aside0 (Kd.S (Kd.slice 3 (Kd.int .i64)) 24 w' w.heap.size (fun _ => True) v3 x3_3) ∧ Aside0 (Below w.heap.size w w'))
       case atStart => exact ⟨(x3_2), (wrap64 (x5_2 + 1)), RF, H', ⟨Nat.le_refl _⟩, ⟨KS HO_3⟩, ⟨BB⟩⟩
       case round =>
        clear H'
        try clear p2
        try clear c3
        try clear c3b0
        try clear c4
        try clear c5
        try clear c5b0
        try clear p2
        obtain ⟨x3_3, x6_3, rfl, HA, HK3, HO_3, HB⟩ := hrel
        cases gk with
        | zero => exact absurd HA.out (by simp [spec_meCells.l2])
        | succ k3 =>
         have H := HA.out
         clear HA
         simp only [spec_meCells.l2] at H
         obtain ⟨t224, A60, H⟩ := Option.bind_eq_some_iff.mp H
         have A6 := Aside0.mk A60
         clear A60
         by_cases c7 : x6_3 < t224
         ·rw [if_pos c7] at H
          have c7b0 : decide (x6_3 < t224) = true := decide_eq_true c7
          clear c7
          obtain ⟨t225, A80, H⟩ := Option.bind_eq_some_iff.mp H
          have A8 := Aside0.mk A80
          clear A80
          by_cases c9 : t225 = true
          ·subst c9
           replace H := IP H
           obtain ⟨t226, A100, H⟩ := Option.bind_eq_some_iff.mp H
           have A10 := Aside0.mk A100
           clear A100
           by_cases c11 : t226 = true
           ·subst c11
            replace H := IP H
            obtain ⟨t227, A120, H⟩ := Option.bind_eq_some_iff.mp H
            have A12 := Aside0.mk A120
            clear A120
            by_cases c13 : t227 = true
            ·subst c13
             replace H := IP H
             obtain ⟨y228, hy228⟩ : ∃ y_ : List Int, y_ = (([x4_1, x5_2, x6_3] : List Int)) := ⟨_, rfl⟩
             replace H : (if x3_3.length < 5864062014805 then (spec_meCells.l2 k3 a0 (x3_3 ++ [y228]) x4_1 x5_2 (wrap64 (x6_3 + 1))) else (none)) = some r := HY H hy228
             have Ny228 := Aside0.mk hy228
             clear hy228
             by_cases c14 : x3_3.length < 5864062014805
             ·rw [if_pos c14] at H
              have LMc14 := Aside0.mk c14
              clear c14
              obtain ⟨y231, hy231⟩ : ∃ y_ : List (List Int), y_ = (x3_3 ++ [y228]) := ⟨_, rfl⟩
              replace H : (spec_meCells.l2 k3 a0 y231 x4_1 x5_2 (wrap64 (x6_3 + 1))) = some r := HY H hy231
              have Ny231 := Aside0.mk hy231
              clear hy231
              have H' := Aside0.mk H
              clear H
              go_wp2_with (first | ((with_reducible refine gate_callee (f := 78) rfl ?_); refine goesL_ (some 25) rfl rfl Try.func78 (by kernel_rfl) rfl #[.int .i64 a0] rfl TA ?_; (with_reducible refine (spec_meCount.calls a0 t224 _ A6.out).mono ?_); rintro e w' ⟨rfl, ⟨nd, rfl⟩⟩; refine ⟨_, rfl, ?_⟩) | ((with_reducible refine gate_callee (f := 50) rfl ?_); refine goesL_ (some 32) rfl rfl Try.func50 (by kernel_rfl) rfl #[.int .i64 a0, .int .i64 x4_1, .int .i64 x5_2] rfl TA ?_; (with_reducible refine (spec_meNear.calls k3 a0 x4_1 x5_2 true _ A8.out).mono ?_); rintro e w15 ⟨rfl, hb⟩; refine ⟨_, rfl, ?_⟩; have n0_ := Aside0.mk (Kd.S_below (KS HO_3) hb); have n1_ := Aside0.mk (below_step BB hb); clear HO_3; clear HB; have HO_3 := n0_; have HB := n1_; clear n0_ n1_; (try clear hb); (try clear hb2); (try clear hk); (try clear hi)) | (go_at_call 50; (with_reducible refine (spec_meNear.calls k3 a0 x4_1 x6_3 true _ A10.out).mono ?_); rintro e w16 ⟨rfl, hb⟩; have n0_ := Aside0.mk (Kd.S_below (KS HO_3) hb); have n1_ := Aside0.mk (below_step BB hb); clear HO_3; clear HB; have HO_3 := n0_; have HB := n1_; clear n0_ n1_; (try clear hb); (try clear hb2); (try clear hk); (try clear hi)) | (go_at_call 50; (with_reducible refine (spec_meNear.calls k3 a0 x5_2 x6_3 true _ A12.out).mono ?_); rintro e w17 ⟨rfl, hb⟩; have n0_ := Aside0.mk (Kd.S_below (KS HO_3) hb); have n1_ := Aside0.mk (below_step BB hb); clear HO_3; clear HB; have HO_3 := n0_; have HB := n1_; clear n0_ n1_; (try clear hb); (try clear hb2); (try clear hk); (try clear hi)) | ((with_reducible refine gate_dst (N := 49) rfl ?_); refine Kd.R_lit (Kd.int .i64) _ 3 ?hg (N := 49) ?hd (xs := ([x4_1, x5_2, x6_3] : List Int)) (inner := [.int .i64 x4_1, .int .i64 x5_2, .int .i64 x6_3]) (ok := fun _ => True) (okp := fun _ => True) ?hr ?hp (fun _ hk => hk) trivial (Below.refl _ _) (Nat.le_refl _) (by simp) ?_; (case hd => rfl); (case hg => rfl); (case hr => exact GS); (case hp => exact (Reps.one (show Kd.M (Kd.int .i64) _ _ _ x4_1 [.int .i64 x4_1] from rfl) (Reps.one (show Kd.M (Kd.int .i64) _ _ _ x5_2 [.int .i64 x5_2] from rfl) (Reps.one (show Kd.M (Kd.int .i64) _ _ _ x6_3 [.int .i64 x6_3] from rfl) (Reps.none _ _))))); intro v229 w18 ho19 hb hg_ hnew_; clear hg_ hnew_; (first | rw [← Ny228.out] at ho19 | (simp only [Int.reduceToNat] at ho19; rw [← Ny228.out] at ho19)); have n0_ := Aside0.mk (Kd.S_elder' (KS HO_3) (Kd.R_base ho19) hb); have n1_ := Aside0.mk (Kd.R_lower ho19 (below_size BB)); have n2_ := Aside0.mk (below_step BB hb); clear HO_3; clear HB; have HO_3 := n0_; have HO230 := n1_; have HB := n2_; clear n0_ n1_ n2_; clear hb ho19; obtain ⟨Ao21, co21, eo21⟩ := Kd.R_slice HO230.out; subst eo21) | ((with_reducible refine gate_builtin (b := .append) (xs := #[.tmp 45, .tmp 50]) rfl ?_); at_builtin; refine Kd.S_append (Kd.slice 3 (Kd.int .i64)) (w0 := w) w.heap.size rfl (.tmp 45) (.tmp 50) 27 24 (.slice none 0 0) 24 rfl Try.underlying27 info24 rfl (by decide) (by omega) u3 x3_3 y228 [.slice Ao21 y228.length co21] (fun _ => True) (fun k_ => some k_ = (.slice Ao21 y228.length co21 : Value).ownBlock) rfl rfl ?aP (fun k_ hk_ => ((Kd.R_mono (ok' := fun k_ => ((fun _ => True)) k_ ∧ some k_ ≠ (u3 : Value).ownBlock) (Kd.R_apart' (HO230.out) (Kd.S_typed HO_3.out) (by decide)) (fun k_ hk => ⟨trivial, hk.2⟩))).1 k_ hk_.symm) ?aF ?aO ?aB ?aS ?aL ?_; (case aP => exact Kd.M_row (Kd.R_mono (Kd.R_tight rfl (Kd.R_mono (ok' := fun k_ => ((fun _ => True)) k_ ∧ some k_ ≠ (u3 : Value).ownBlock) (Kd.R_apart' (HO230.out) (Kd.S_typed HO_3.out) (by decide)) (fun k_ hk => ⟨trivial, hk.2⟩))) (fun _ h_ => h_))); (case aB => exact BB); (case aF => exact (fun _ _ => trivial)); (case aO => exact (by (with_reducible repeat (first | apply Kd.S_alloc | apply Kd.S_drewN | apply Kd.S_drew)); exact Kd.S_mono HO_3.out (fun k_ hk => ⟨trivial, fun e_ => hk.2 e_⟩))); (case aS => exact (below_size BB)); (case aL => have := LMc14.out; omega); intro v232 w20 ho hb hg hat; rw [← Ny231.out] at ho; have n0_ := Aside0.mk (hb); have n1_ := Aside0.mk (ho); clear HB; clear HO_3; clear HO230; have HB := n0_; have HO233 := n1_; clear n0_ n1_; clear ho hb hg hat))
              go_roundg k3
              case measure => have := HK1.out; have := HK2.out; have := HK3.out; omega
              case rel => exact ⟨(y231), (wrap64 (x6_3 + 1)), RF, H', ⟨by have := HK1.out; have := HK2.out; have := HK3.out; omega⟩, ⟨KS HO233⟩, ⟨BB⟩⟩
             ·rw [if_neg c14] at H
              cases H
            ·replace c13 := Bool.eq_false_iff.mpr c13
             subst c13
             replace H := IN H
             have H' := Aside0.mk H
             clear H
             go_wp2_with (first | ((with_reducible refine gate_callee (f := 78) rfl ?_); refine goesL_ (some 25) rfl rfl Try.func78 (by kernel_rfl) rfl #[.int .i64 a0] rfl TA ?_; (with_reducible refine (spec_meCount.calls a0 t224 _ A6.out).mono ?_); rintro e w' ⟨rfl, ⟨nd, rfl⟩⟩; refine ⟨_, rfl, ?_⟩) | ((with_reducible refine gate_callee (f := 50) rfl ?_); refine goesL_ (some 32) rfl rfl Try.func50 (by kernel_rfl) rfl #[.int .i64 a0, .int .i64 x4_1, .int .i64 x5_2] rfl TA ?_; (with_reducible refine (spec_meNear.calls k3 a0 x4_1 x5_2 true _ A8.out).mono ?_); rintro e w22 ⟨rfl, hb⟩; refine ⟨_, rfl, ?_⟩; have n0_ := Aside0.mk (Kd.S_below (KS HO_3) hb); have n1_ := Aside0.mk (below_step BB hb); clear HO_3; clear HB; have HO_3 := n0_; have HB := n1_; clear n0_ n1_; (try clear hb); (try clear hb2); (try clear hk); (try clear hi)) | (go_at_call 50; (with_reducible refine (spec_meNear.calls k3 a0 x4_1 x6_3 true _ A10.out).mono ?_); rintro e w23 ⟨rfl, hb⟩; have n0_ := Aside0.mk (Kd.S_below (KS HO_3) hb); have n1_ := Aside0.mk (below_step BB hb); clear HO_3; clear HB; have HO_3 := n0_; have HB := n1_; clear n0_ n1_; (try clear hb); (try clear hb2); (try clear hk); (try clear hi)) | (go_at_call 50; (with_reducible refine (spec_meNear.calls k3 a0 x5_2 x6_3 false _ A12.out).mono ?_); rintro e w24 ⟨rfl, hb⟩; have n0_ := Aside0.mk (Kd.S_below (KS HO_3) hb); have n1_ := Aside0.mk (below_step BB hb); clear HO_3; clear HB; have HO_3 := n0_; have HB := n1_; clear n0_ n1_; (try clear hb); (try clear hb2); (try clear hk); (try clear hi)))
             go_roundg k3
             case measure => have := HK1.out; have := HK2.out; have := HK3.out; omega
             case rel => exact ⟨(x3_3), (wrap64 (x6_3 + 1)), RF, H', ⟨by have := HK1.out; have := HK2.out; have := HK3.out; omega⟩, ⟨KS HO_3⟩, ⟨BB⟩⟩
           ·replace c11 := Bool.eq_false_iff.mpr c11
            subst c11
            replace H := IN H
            have H' := Aside0.mk H
            clear H
            go_wp2_with (first | ((with_reducible refine gate_callee (f := 78) rfl ?_); refine goesL_ (some 25) rfl rfl Try.func78 (by kernel_rfl) rfl #[.int .i64 a0] rfl TA ?_; (with_reducible refine (spec_meCount.calls a0 t224 _ A6.out).mono ?_); rintro e w' ⟨rfl, ⟨nd, rfl⟩⟩; refine ⟨_, rfl, ?_⟩) | ((with_reducible refine gate_callee (f := 50) rfl ?_); refine goesL_ (some 32) rfl rfl Try.func50 (by kernel_rfl) rfl #[.int .i64 a0, .int .i64 x4_1, .int .i64 x5_2] rfl TA ?_; (with_reducible refine (spec_meNear.calls k3 a0 x4_1 x5_2 true _ A8.out).mono ?_); rintro e w25 ⟨rfl, hb⟩; refine ⟨_, rfl, ?_⟩; have n0_ := Aside0.mk (Kd.S_below (KS HO_3) hb); have n1_ := Aside0.mk (below_step BB hb); clear HO_3; clear HB; have HO_3 := n0_; have HB := n1_; clear n0_ n1_; (try clear hb); (try clear hb2); (try clear hk); (try clear hi)) | (go_at_call 50; (with_reducible refine (spec_meNear.calls k3 a0 x4_1 x6_3 false _ A10.out).mono ?_); rintro e w26 ⟨rfl, hb⟩; have n0_ := Aside0.mk (Kd.S_below (KS HO_3) hb); have n1_ := Aside0.mk (below_step BB hb); clear HO_3; clear HB; have HO_3 := n0_; have HB := n1_; clear n0_ n1_; (try clear hb); (try clear hb2); (try clear hk); (try clear hi)))
            go_roundg k3
            case measure => have := HK1.out; have := HK2.out; have := HK3.out; omega
            case rel => exact ⟨(x3_3), (wrap64 (x6_3 + 1)), RF, H', ⟨by have := HK1.out; have := HK2.out; have := HK3.out; omega⟩, ⟨KS HO_3⟩, ⟨BB⟩⟩
          ·replace c9 := Bool.eq_false_iff.mpr c9
           subst c9
           replace H := IN H
           have H' := Aside0.mk H
           clear H
           go_wp2_with (first | ((with_reducible refine gate_callee (f := 78) rfl ?_); refine goesL_ (some 25) rfl rfl Try.func78 (by kernel_rfl) rfl #[.int .i64 a0] rfl TA ?_; (with_reducible refine (spec_meCount.calls a0 t224 _ A6.out).mono ?_); rintro e w' ⟨rfl, ⟨nd, rfl⟩⟩; refine ⟨_, rfl, ?_⟩) | ((with_reducible refine gate_callee (f := 50) rfl ?_); refine goesL_ (some 32) rfl rfl Try.func50 (by kernel_rfl) rfl #[.int .i64 a0, .int .i64 x4_1, .int .i64 x5_2] rfl TA ?_; (with_reducible refine (spec_meNear.calls k3 a0 x4_1 x5_2 false _ A8.out).mono ?_); rintro e w27 ⟨rfl, hb⟩; refine ⟨_, rfl, ?_⟩; have n0_ := Aside0.mk (Kd.S_below (KS HO_3) hb); have n1_ := Aside0.mk (below_step BB hb); clear HO_3; clear HB; have HO_3 := n0_; have HB := n1_; clear n0_ n1_; (try clear hb); (try clear hb2); (try clear hk); (try clear hi)))
           go_roundg k3
           case measure => have := HK1.out; have := HK2.out; have := HK3.out; omega
           case rel => exact ⟨(x3_3), (wrap64 (x6_3 + 1)), RF, H', ⟨by have := HK1.out; have := HK2.out; have := HK3.out; omega⟩, ⟨KS HO_3⟩, ⟨BB⟩⟩
         ·rw [if_neg c7] at H
          have c7b0 : decide (x6_3 < t224) = false := decide_eq_false c7
          clear c7
          have H' := Aside0.mk H
          clear H
          go_wp2_with (first | ((with_reducible refine gate_callee (f := 78) rfl ?_); refine goesL_ (some 25) rfl rfl Try.func78 (by kernel_rfl) rfl #[.int .i64 a0] rfl TA ?_; (with_reducible refine (spec_meCount.calls a0 t224 _ A6.out).mono ?_); rintro e w' ⟨rfl, ⟨nd, rfl⟩⟩; refine ⟨_, rfl, ?_⟩))
          go_roundg k3
          case measure => have := HK1.out; have := HK2.out; have := HK3.out; omega
          case rel => exact ⟨(x3_3), (wrap64 (x5_2 + 1)), RF, H', ⟨by have := HK1.out; have := HK2.out; have := HK3.out; omega⟩, ⟨KS HO_3⟩, ⟨BB⟩⟩
      ·rw [if_neg c5] at H
       have c5b0 : decide (x5_2 < t223) = false := decide_eq_false c5
       clear c5
       have H' := Aside0.mk H
       clear H
       go_wp2_with (first | ((with_reducible refine gate_callee (f := 78) rfl ?_); refine goesL_ (some 17) rfl rfl Try.func78 (by kernel_rfl) rfl #[.int .i64 a0] rfl TA ?_; (with_reducible refine (spec_meCount.calls a0 t223 _ A4.out).mono ?_); rintro e w' ⟨rfl, ⟨nd, rfl⟩⟩; refine ⟨_, rfl, ?_⟩))
       go_roundg k2
       case measure => have := HK1.out; have := HK2.out; omega
       case rel => exact ⟨(x3_2), (wrap64 (x4_1 + 1)), RF, H', ⟨by have := HK1.out; have := HK2.out; omega⟩, ⟨KS HO_3⟩, ⟨BB⟩⟩
   ·rw [if_neg c3] at H
    have c3b0 : decide (x4_1 < t222) = false := decide_eq_false c3
    clear c3
    obtain rfl := Option.some.inj H
    go_wp2_with (first | ((with_reducible refine gate_callee (f := 78) rfl ?_); refine goesL_ (some 9) rfl rfl Try.func78 (by kernel_rfl) rfl #[.int .i64 a0] rfl TA ?_; (with_reducible refine (spec_meCount.calls a0 t222 _ A2.out).mono ?_); rintro e w' ⟨rfl, ⟨nd, rfl⟩⟩; refine ⟨_, rfl, ?_⟩))
    go_ret
    exact ⟨_, RE, KS HO_3, BB⟩

/-! ### spec_doFull: function 43 -/
def spec_doFull.l0 : Nat → List Int → Int → List Int → Int → Int → Option (Bool)
 | 0, _, _, _, _, _ => none
 | k + 1, x0, x5, x8, x9, x10 => if x10 < x9 then (if 0 ≤ x10 then (if x10 < (x8.length : Int) then (if 0 ≤ (rd x8 x10) then (if (rd x8 x10) < (x0.length : Int) then (if 0 ≤ (rd x0 (rd x8 x10)) then (spec_doFull.l0 k x0 (Go.bits .or .i64 x5 (shl .i64 1 (rd x0 (rd x8 x10)))) x8 x9 (wrap64 (x10 + 1))) else (none)) else (none)) else (none)) else (none)) else (none)) else (some (x5 == 7))
def spec_doFull.f (k : Nat) (l0 : List Int) (l1 : List Int) : Option (Bool) := spec_doFull.l0 k l0 0 l1 (l1.length : Int) 0
theorem spec_doFull.mono_l : ∀ k, (∀ y0 y1 y2 y3 y4, LeO (spec_doFull.l0 k y0 y1 y2 y3 y4) (spec_doFull.l0 (k + 1) y0 y1 y2 y3 y4))
 | 0 => fun _ _ _ _ _ r h => by simp [spec_doFull.l0] at h
 | k + 1 => by
  have ih0 := spec_doFull.mono_l k
  ·intro y0 y1 y2 y3 y4
   unfold spec_doFull.l0
   repeat' first
   | with_reducible first | exact ih0 _ _ _ _ _ | exact LeO.refl _ | exact LeO.none _ | refine LeO.ite ?_ ?_ | refine LeO.bind ?_ (fun _ => ?_)
   | exact LeO.none _ | refine LeO.ite ?_ ?_ | refine LeO.bind ?_ (fun _ => ?_)
theorem spec_doFull.mono : ∀ a0 a1 k, LeO (spec_doFull.f k a0 a1) (spec_doFull.f (k + 1) a0 a1) := by
 intro a0 a1 k
 have ih0 := spec_doFull.mono_l k
 unfold spec_doFull.f
 repeat' first
   | with_reducible first | exact ih0 _ _ _ _ _ | exact LeO.refl _ | exact LeO.none _ | refine LeO.ite ?_ ?_ | refine LeO.bind ?_ (fun _ => ?_)
   | exact LeO.none _ | refine LeO.ite ?_ ?_ | refine LeO.bind ?_ (fun _ => ?_)
theorem spec_doFull.calls (k : Nat) (A0 : Option Addr) (c0 : Nat) (l0 : List Int) (A1 : Option Addr) (c1 : Nat) (l1 : List Int) (r : Bool) (w : World) (hr0 : Kd.C (Kd.int .i64) w A0 l0.length l0) (hc0 : l0.length ≤ c0) (hr1 : Kd.C (Kd.int .i64) w A1 l1.length l1) (hc1 : l1.length ≤ c1) (h : spec_doFull.f k l0 l1 = some r) :
  Calls Try.prog 43 #[.slice A0 l0.length c0, .slice A1 l1.length c1] w fun e w' => e = .returned (.bool r) ∧ Drawn0 w w' := by
 have HR0 := Aside0.mk hr0
 have HC0 := Aside0.mk hc0
 clear hr0 hc0
 have HR1 := Aside0.mk hr1
 have HC1 := Aside0.mk hc1
 clear hr1 hc1
 have H : (spec_doFull.l0 k l0 0 l1 (l1.length : Int) 0) = some r := h
 clear h
 have H' := Aside0.mk H
 clear H
 go_enter Try.func43, Try.ntmps43
 go_wp2
 go_loopg [5, 10] k (fun kq v5 v10 w' => ∃ (x5_1 : Int) (x10_1 : Int), v5 = .int .i64 x5_1 ∧ v10 = .int .i64 x10_1 ∧ Aside0 (spec_doFull.l0 kq l0 x5_1 l1 (l1.length : Int) x10_1 = some r) ∧ Aside0 (kq ≤ k) ∧ Drawn0 w w')
 case atStart => exact ⟨(0), (0), RF, RF, H', ⟨Nat.le_refl _⟩, by repeat (first | exact Drawn0.refl _ | apply Drawn0.step)⟩
 case round =>
  clear H'
  try clear c1
  try clear p2
  obtain ⟨x5_1, x10_1, rfl, rfl, HA, HK1, ⟨m1, rfl⟩⟩ := hrel
  cases gk with
  | zero => exact absurd HA.out (by simp [spec_doFull.l0])
  | succ k1 =>
   have H := HA.out
   clear HA
   simp only [spec_doFull.l0] at H
   by_cases c3 : x10_1 < (l1.length : Int)
   ·rw [if_pos c3] at H
    have c3b0 : decide (x10_1 < (l1.length : Int)) = true := decide_eq_true c3
    clear c3
    by_cases c4 : 0 ≤ x10_1
    ·rw [if_pos c4] at H
     have c4b0 : decide (0 ≤ x10_1) = true := decide_eq_true c4
     clear c4
     by_cases c5 : x10_1 < (l1.length : Int)
     ·rw [if_pos c5] at H
      have c5b0 : decide (x10_1 < (l1.length : Int)) = true := decide_eq_true c5
      clear c5
      by_cases c6 : 0 ≤ (rd l1 x10_1)
      ·rw [if_pos c6] at H
       have c6b0 : decide (0 ≤ (rd l1 x10_1)) = true := decide_eq_true c6
       clear c6
       by_cases c7 : (rd l1 x10_1) < (l0.length : Int)
       ·rw [if_pos c7] at H
        have c7b0 : decide ((rd l1 x10_1) < (l0.length : Int)) = true := decide_eq_true c7
        clear c7
        by_cases c8 : 0 ≤ (rd l0 (rd l1 x10_1))
        ·rw [if_pos c8] at H
         have c8b0 := eq_true c8
         have c8b1 : decide (0 ≤ (rd l0 (rd l1 x10_1))) = true := decide_eq_true c8
         clear c8
         obtain ⟨ji9, hji9⟩ : ∃ j_ : Int, (shl .i64 1 (rd l0 (rd l1 x10_1))) = j_ := ⟨_, rfl⟩
         replace H : (spec_doFull.l0 k1 l0 (Go.bits .or .i64 x5_1 (ji9)) l1 (l1.length : Int) (wrap64 (x10_1 + 1))) = some r := by first | (rw [hji9] at H; exact H) | (simp only [hji9] at H ⊢; exact H)
         have hji9_ : (IntKind.i64.wrap (1 * 2 ^ min (rd l0 (rd l1 x10_1)).toNat 64)) = ji9 := hji9
         have hji9z : (rd l0 (rd l1 x10_1)) ≤ 64 → (IntKind.i64.wrap (1 * 2 ^ (rd l0 (rd l1 x10_1)).toNat)) = ji9 := shl_small hji9
         have hji9u : (IntKind.i64.wrap (2 ^ min (rd l0 (rd l1 x10_1)).toNat 64)) = ji9 := by have h_ := hji9_; rw [Int.one_mul] at h_; exact h_
         have hji9v : (rd l0 (rd l1 x10_1)) ≤ 64 → (IntKind.i64.wrap (2 ^ (rd l0 (rd l1 x10_1)).toNat)) = ji9 := fun hle_ => by have h_ := hji9z hle_; rw [Int.one_mul] at h_; exact h_
         have hji9y : (wrap64 (1 * 2 ^ min (rd l0 (rd l1 x10_1)).toNat 64)) = ji9 := (i64_w _).symm.trans hji9_
         have hji9x : (rd l0 (rd l1 x10_1)) ≤ 64 → (wrap64 (1 * 2 ^ (rd l0 (rd l1 x10_1)).toNat)) = ji9 := fun h_ => (i64_w _).symm.trans (hji9z h_)
         have H' := Aside0.mk H
         clear H
         have p234 : 0 ≤ (x10_1 : Int) := of_decide_eq_true AS
         have q234 : x10_1 < (l1.length : Int) := of_decide_eq_true AS
         obtain ⟨ad234, e234, hx234_0⟩ := Kd.at_int HR1.out x10_1 p234 q234
         cases e234
         replace p234 := eq_true p234
         replace q234 := eq_true q234
         have p235 : 0 ≤ ((rd l1 x10_1) : Int) := of_decide_eq_true AS
         have q235 : (rd l1 x10_1) < (l0.length : Int) := of_decide_eq_true AS
         obtain ⟨ad235, e235, hx235_0⟩ := Kd.at_int HR0.out (rd l1 x10_1) p235 q235
         cases e235
         replace p235 := eq_true p235
         replace q235 := eq_true q235
         go_wp2
         go_roundg k1
         case measure => have := HK1.out; omega
         case rel => exact ⟨(Go.bits .or .i64 x5_1 (ji9)), (wrap64 (x10_1 + 1)), (by first | rfl | (simp; done) | (simp only [← hji9] <;> (first | rfl | simp)) | (simp [*]; done) | (simp [*, wrap64]; done)), RF, H', ⟨by have := HK1.out; omega⟩, by repeat (first | exact Drawn0.refl _ | apply Drawn0.step)⟩
        ·rw [if_neg c8] at H
         cases H
       ·rw [if_neg c7] at H
        cases H
      ·rw [if_neg c6] at H
       cases H
     ·rw [if_neg c5] at H
      cases H
    ·rw [if_neg c4] at H
     cases H
   ·rw [if_neg c3] at H
    have c3b0 : decide (x10_1 < (l1.length : Int)) = false := decide_eq_false c3
    clear c3
    obtain rfl := Option.some.inj H
    go_wp2
    go_ret
    exact ⟨RF, DR⟩

/-! ### spec_doAllFull: function 65 -/
def spec_doAllFull.l0 : Nat → List Int → List Int → List (List Int) → Int → Int → Option (List Int)
 | 0, _, _, _, _, _ => none
 | k + 1, x1, x5, x9, x10, x11 => if x11 < x10 then (if 0 ≤ x11 then (if x11 < (x9.length : Int) then ((spec_doFull.f k x1 (rd_L2 x9 x11)).bind fun t240 => (if t240 = true then (if x5.length < 17592186044416 then (spec_doAllFull.l0 k x1 (x5 ++ [x11]) x9 x10 (wrap64 (x11 + 1))) else (none)) else (spec_doAllFull.l0 k x1 x5 x9 x10 (wrap64 (x11 + 1))))) else (none)) else (none)) else (some x5)
def spec_doAllFull.f (k : Nat) (a0 : Int) (l1 : List Int) : Option (List Int) := (spec_meCells.f k a0).bind fun t236 => (spec_doAllFull.l0 k l1 ([] : List Int) t236 (t236.length : Int) 0)
theorem spec_doAllFull.mono_l : ∀ k, (∀ y0 y1 y2 y3 y4, LeO (spec_doAllFull.l0 k y0 y1 y2 y3 y4) (spec_doAllFull.l0 (k + 1) y0 y1 y2 y3 y4))
 | 0 => fun _ _ _ _ _ r h => by simp [spec_doAllFull.l0] at h
 | k + 1 => by
  have ih0 := spec_doAllFull.mono_l k
  ·intro y0 y1 y2 y3 y4
   unfold spec_doAllFull.l0
   repeat' first
   | with_reducible first | exact ih0 _ _ _ _ _ | exact spec_doFull.mono _ _ _ | exact spec_meCells.mono _ _ | exact LeO.refl _ | exact LeO.none _ | refine LeO.ite ?_ ?_ | refine LeO.bind ?_ (fun _ => ?_)
   | exact LeO.none _ | refine LeO.ite ?_ ?_ | refine LeO.bind ?_ (fun _ => ?_)
theorem spec_doAllFull.mono : ∀ a0 a1 k, LeO (spec_doAllFull.f k a0 a1) (spec_doAllFull.f (k + 1) a0 a1) := by
 intro a0 a1 k
 have ih0 := spec_doAllFull.mono_l k
 unfold spec_doAllFull.f
 repeat' first
   | with_reducible first | exact ih0 _ _ _ _ _ | exact spec_doFull.mono _ _ _ | exact spec_meCells.mono _ _ | exact LeO.refl _ | exact LeO.none _ | refine LeO.ite ?_ ?_ | refine LeO.bind ?_ (fun _ => ?_)
   | exact LeO.none _ | refine LeO.ite ?_ ?_ | refine LeO.bind ?_ (fun _ => ?_)
theorem spec_doAllFull.calls (k : Nat) (a0 : Int) (A1 : Option Addr) (c1 : Nat) (l1 : List Int) (r : List Int) (w : World) (hr1 : Kd.C (Kd.int .i64) w A1 l1.length l1) (hc1 : l1.length ≤ c1) (h : spec_doAllFull.f k a0 l1 = some r) :
  Calls Try.prog 65 #[.int .i64 a0, .slice A1 l1.length c1] w fun e w' => ∃ v0_ : Value, e = .returned (v0_) ∧ Kd.R (Kd.int .i64) 3 w' w.heap.size (fun _ => True) v0_ r ∧ Below w.heap.size w w' := by
 have HR1 := Aside0.mk hr1
 have HC1 := Aside0.mk hc1
 clear hr1 hc1
 have HB := Aside0.mk (Below.refl w.heap.size w)
 have H : ((spec_meCells.f k a0).bind fun t236 => (spec_doAllFull.l0 k l1 ([] : List Int) t236 (t236.length : Int) 0)) = some r := h
 clear h
 obtain ⟨t236, A30, H⟩ := Option.bind_eq_some_iff.mp H
 have A3 := Aside0.mk A30
 clear A30
 have H' := Aside0.mk H
 clear H
 go_enter Try.func65, Try.ntmps65
 go_wp2_with (first | ((with_reducible refine gate_callee (f := 41) rfl ?_); refine goesL_ (some 9) rfl rfl Try.func41 (by kernel_rfl) rfl #[.int .i64 a0] rfl TA ?_; (with_reducible refine (spec_meCells.calls k a0 t236 _ A3.out).mono ?_); rintro e w4 ⟨v237, rfl, ho0, hb⟩; refine ⟨_, rfl, ?_⟩; have n0_ := Aside0.mk (Kd.S_lower ho0 (below_size BB)); have n1_ := Aside0.mk (below_step BB hb); clear HB; have HO238 := n0_; have HB := n1_; clear n0_ n1_; (try clear hb); (try clear hb2); (try clear hk); (try clear hi); (try clear ho0); obtain ⟨Ao5, co5, eo5⟩ := Kd.S_slice HO238.out; subst eo5))
 go_loopg [5, 11] k (fun kq v5 v11 w' => ∃ (x5_1 : List Int) (x11_1 : Int), v11 = .int .i64 x11_1 ∧ Aside0 (spec_doAllFull.l0 kq l1 x5_1 t236 (t236.length : Int) x11_1 = some r) ∧ Aside0 (kq ≤ k) ∧ Aside0 (Kd.R (Kd.int .i64) 3 w' w.heap.size (fun _ => True) v5 x5_1) ∧ Aside0 (Kd.S (Kd.slice 3 (Kd.int .i64)) 24 w' w.heap.size (fun k_ => some k_ ≠ (v5 : Value).ownBlock) (.slice Ao5 t236.length co5) t236) ∧ Aside0 (Below w.heap.size w w'))
 case atStart => exact ⟨(([] : List Int)), (0), RF, H', ⟨Nat.le_refl _⟩, ⟨by first | exact Kd.R_nil _ _ _ _ _ | exact Kd.N_nil _ _ _ _ _ | exact Kd.V_nil _ _ _ _ _ | exact Kd.Q_nil _ _ _ _ _ | exact Kd.S_nil _ _ _ _ _⟩, ⟨by (with_reducible repeat (first | apply Kd.S_alloc | apply Kd.S_drewN | apply Kd.S_drew)); exact Kd.S_mono HO238.out (fun _ hk => (by simp [Value.ownBlock]))⟩, ⟨BB⟩⟩
 case round =>
  clear H'
  try clear c1
  try clear p2
  try clear c4
  obtain ⟨x5_1, x11_1, rfl, HA, HK1, HO_5, HO_9, HB⟩ := hrel
  cases gk with
  | zero => exact absurd HA.out (by simp [spec_doAllFull.l0])
  | succ k1 =>
   have H := HA.out
   clear HA
   simp only [spec_doAllFull.l0] at H
   by_cases c6 : x11_1 < (t236.length : Int)
   ·rw [if_pos c6] at H
    have c6b0 : decide (x11_1 < (t236.length : Int)) = true := decide_eq_true c6
    clear c6
    by_cases c7 : 0 ≤ x11_1
    ·rw [if_pos c7] at H
     have c7b0 : decide (0 ≤ x11_1) = true := decide_eq_true c7
     clear c7
     by_cases c8 : x11_1 < (t236.length : Int)
     ·rw [if_pos c8] at H
      have c8b0 : decide (x11_1 < (t236.length : Int)) = true := decide_eq_true c8
      clear c8
      obtain ⟨t240, A90, H⟩ := Option.bind_eq_some_iff.mp H
      have A9 := Aside0.mk A90
      clear A90
      by_cases c10 : t240 = true
      ·subst c10
       replace H := IP H
       by_cases c11 : x5_1.length < 17592186044416
       ·rw [if_pos c11] at H
        have LMc11 := Aside0.mk c11
        clear c11
        obtain ⟨y241, hy241⟩ : ∃ y_ : List Int, y_ = (x5_1 ++ [x11_1]) := ⟨_, rfl⟩
        replace H : (spec_doAllFull.l0 k1 l1 y241 t236 (t236.length : Int) (wrap64 (x11_1 + 1))) = some r := HY H hy241
        have Ny241 := Aside0.mk hy241
        clear hy241
        have H' := Aside0.mk H
        clear H
        have p239 : 0 ≤ (x11_1 : Int) := of_decide_eq_true AS
        have q239 : x11_1 < (t236.length : Int) := of_decide_eq_true AS
        obtain ⟨ad239, A239_0, c239_0, e239, hx239_0, hl239_0, hi239_0⟩ := at_L2 (Kd.S_reads' HO_9.out).2.2 x11_1 p239 q239
        cases e239
        obtain ⟨ce239, hce239, hMe239, hcc239⟩ := Kd.S_get HO_9.out [] x11_1 p239 (by first | exact q239 | exact of_decide_eq_true AS | (have e_ := (Kd.S_reads' HO_9.out).1; omega))
        obtain ⟨ve239_0, rfl, ge239_0⟩ := hMe239
        have hv239_0 := hcc239 0 _ rfl
        rw [Nat.add_zero, show ((Kd.slice 3 (Kd.int .i64))).sz = 1 from rfl, Nat.mul_one] at hv239_0
        replace hv239_0 := Option.some.inj (hv239_0.symm.trans hx239_0)
        rw [hv239_0] at ge239_0
        have HL239_0 := Aside0.mk (show Kd.R (Kd.int .i64) 3 _ _ _ _ (rd_L2 t236 x11_1) from ge239_0)
        clear hv239_0 ge239_0
        clear hcc239 hce239
        have HR239_0 := Aside0.mk hi239_0
        have HC239_0 := Aside0.mk hl239_0
        clear hi239_0 hl239_0
        replace p239 := eq_true p239
        replace q239 := eq_true q239
        go_wp2_with (first | ((with_reducible refine gate_callee (f := 43) rfl ?_); refine goesL_ (some 18) rfl rfl Try.func43 (by kernel_rfl) rfl #[.slice A1 l1.length c1, .slice A239_0 (rd_L2 t236 x11_1).length c239_0] rfl TA ?_; (with_reducible refine (spec_doFull.calls k1 _ _ l1 _ _ (rd_L2 t236 x11_1) true _ ?side1 ?side2 ?side3 ?side4 A9.out).mono ?_); (case side1 => exact CW (Kd.C_below HR1.out HB.out)); (case side2 => exact HC1.out); (case side3 => exact CW (by repeat (first | (with_reducible exact HR239_0.out) | (with_reducible refine Kd.C_drewN ?_ _) | (with_reducible refine Kd.C_drew ?_) | (with_reducible refine Kd.C_alloc ?_ _) | exact HR239_0.out))); (case side4 => exact HC239_0.out); rintro e w' ⟨rfl, ⟨nd, rfl⟩⟩; refine ⟨_, rfl, ?_⟩) | ((with_reducible refine gate_builtin (b := .append) (xs := #[.tmp 19, .tmp 21]) rfl ?_); at_builtin; refine Kd.R_append (Kd.int .i64) (w0 := w) w.heap.size rfl (.tmp 19) (.tmp 21) 24 3 (.int .i64 0) 8 rfl Try.underlying24 info3 rfl (by decide) (by omega) u5 x5_1 x11_1 [.int .i64 x11_1] (fun _ => True) (fun _ => False) rfl rfl ?aP (fun _ hk => hk.elim) ?aF ?aO ?aB ?aS ?aL ?_; (case aP => exact rfl); (case aB => exact BB); (case aF => exact (fun _ _ => trivial)); (case aO => exact (KR HO_5)); (case aS => exact (below_size BB)); (case aL => have := LMc11.out; omega); intro v242 w12 ho hb hg hat; rw [← Ny241.out] at ho; have n0_ := Aside0.mk (Kd.S_after (ok := (fun _ => True)) (by (with_reducible repeat (first | apply Kd.S_alloc | apply Kd.S_drewN | apply Kd.S_drew)); exact Kd.S_mono HO_9.out (fun _ hk => ⟨trivial, hk⟩)) hg hat); have n1_ := Aside0.mk (Kd.R_after (ok := (fun k_ => some k_ ≠ (.slice (some ad239) t236.length co5 : Value).ownBlock)) (by (with_reducible repeat (first | apply Kd.R_alloc | apply Kd.R_drewN | apply Kd.R_drew)); exact Kd.R_mono HL239_0.out (fun _ hk => ⟨hk.2, hk.1⟩)) hg hat); have n2_ := Aside0.mk (hb); have n3_ := Aside0.mk (ho); clear HO_9; clear HL239_0; clear HB; clear HO_5; have HO_9 := n0_; have HL239_0 := n1_; have HB := n2_; have HO243 := n3_; clear n0_ n1_ n2_ n3_; clear ho hb hg hat))
        go_roundg k1
        case measure => have := HK1.out; omega
        case rel => exact ⟨(y241), (wrap64 (x11_1 + 1)), RF, H', ⟨by have := HK1.out; omega⟩, ⟨KR HO243⟩, ⟨by (with_reducible repeat (first | apply Kd.S_alloc | apply Kd.S_drewN | apply Kd.S_drew)); exact Kd.S_mono HO_9.out (fun _ hk => hk.2)⟩, ⟨BB⟩⟩
       ·rw [if_neg c11] at H
        cases H
      ·replace c10 := Bool.eq_false_iff.mpr c10
       subst c10
       replace H := IN H
       have H' := Aside0.mk H
       clear H
       have p239 : 0 ≤ (x11_1 : Int) := of_decide_eq_true AS
       have q239 : x11_1 < (t236.length : Int) := of_decide_eq_true AS
       obtain ⟨ad239, A239_0, c239_0, e239, hx239_0, hl239_0, hi239_0⟩ := at_L2 (Kd.S_reads' HO_9.out).2.2 x11_1 p239 q239
       cases e239
       obtain ⟨ce239, hce239, hMe239, hcc239⟩ := Kd.S_get HO_9.out [] x11_1 p239 (by first | exact q239 | exact of_decide_eq_true AS | (have e_ := (Kd.S_reads' HO_9.out).1; omega))
       obtain ⟨ve239_0, rfl, ge239_0⟩ := hMe239
       have hv239_0 := hcc239 0 _ rfl
       rw [Nat.add_zero, show ((Kd.slice 3 (Kd.int .i64))).sz = 1 from rfl, Nat.mul_one] at hv239_0
       replace hv239_0 := Option.some.inj (hv239_0.symm.trans hx239_0)
       rw [hv239_0] at ge239_0
       have HL239_0 := Aside0.mk (show Kd.R (Kd.int .i64) 3 _ _ _ _ (rd_L2 t236 x11_1) from ge239_0)
       clear hv239_0 ge239_0
       clear hcc239 hce239
       have HR239_0 := Aside0.mk hi239_0
       have HC239_0 := Aside0.mk hl239_0
       clear hi239_0 hl239_0
       replace p239 := eq_true p239
       replace q239 := eq_true q239
       go_wp2_with (first | ((with_reducible refine gate_callee (f := 43) rfl ?_); refine goesL_ (some 18) rfl rfl Try.func43 (by kernel_rfl) rfl #[.slice A1 l1.length c1, .slice A239_0 (rd_L2 t236 x11_1).length c239_0] rfl TA ?_; (with_reducible refine (spec_doFull.calls k1 _ _ l1 _ _ (rd_L2 t236 x11_1) false _ ?side1 ?side2 ?side3 ?side4 A9.out).mono ?_); (case side1 => exact CW (Kd.C_below HR1.out HB.out)); (case side2 => exact HC1.out); (case side3 => exact CW (by repeat (first | (with_reducible exact HR239_0.out) | (with_reducible refine Kd.C_drewN ?_ _) | (with_reducible refine Kd.C_drew ?_) | (with_reducible refine Kd.C_alloc ?_ _) | exact HR239_0.out))); (case side4 => exact HC239_0.out); rintro e w' ⟨rfl, ⟨nd, rfl⟩⟩; refine ⟨_, rfl, ?_⟩))
       go_roundg k1
       case measure => have := HK1.out; omega
       case rel => exact ⟨(x5_1), (wrap64 (x11_1 + 1)), RF, H', ⟨by have := HK1.out; omega⟩, ⟨KR HO_5⟩, ⟨KS HO_9⟩, ⟨BB⟩⟩
     ·rw [if_neg c8] at H
      cases H
    ·rw [if_neg c7] at H
     cases H
   ·rw [if_neg c6] at H
    have c6b0 : decide (x11_1 < (t236.length : Int)) = false := decide_eq_false c6
    try (have c6bl := c6b0; rw [hl239_0] at c6bl)
    clear c6
    obtain rfl := Option.some.inj H
    go_wp2
    go_ret
    exact ⟨_, RE, KR HO_5, BB⟩

end Go.Proofs.Ytafjjbkkcedgnab.PFnDoorsOfRooms
