-- Written by a program of this session (wip/tools/pp.sh) out of the translation; Lean checks it.
import Derived.Test.YtgpplbaloajgdacPFnExactFindOppositex0
import Derived.Test.YtgpplbaloajgdacPFnExactFindOppositex1
import Derived.Test.YtgpplbaloajgdacPFnExactFindOppositex2
import Derived.Test.YtgpplbaloajgdacPFnExactFindOppositex4
namespace Go.Proofs.Ytgpplbaloajgdac.PFnExactFindOpposite
open Go.RowKit Go.Proofs.YtgpplbaloajgdacOwn Go.Proofs.YtgpplbaloajgdacW.PrintWords Go.Proofs.YtgpplbaloajgdacW.PrintLast Go.Proofs.YtgpplbaloajgdacW.PrintMore
attribute [local go_sem] max2_int min2_int max_two min_two max_three min_three max_four min_four   -- for this text's walks alone
set_option linter.unusedVariables false
set_option linter.unusedSimpArgs false

/-! ### spec_opIs: function 34 -/
def spec_opIs.l0 : Nat → Int → List Int → List Int → Int → Int → Option (Bool)
  | 0, _, _, _, _, _ => none
  | k + 1, x0, x1, x12, x13, x14 => if x14 < x13 then (if 0 ≤ x14 then (if x14 < (x12.length : Int) then (if 0 ≤ (rd x12 x14) then (if (rd x12 x14) < (x1.length : Int) then ((spec_opCount.f x0).bind fun t216 => (if 0 ≤ (wrap64 ((wrap64 (t216 - 1)) - (rd x12 x14))) then (if (wrap64 ((wrap64 (t216 - 1)) - (rd x12 x14))) < (x1.length : Int) then (if (wrap64 ((rd x1 (rd x12 x14)) + (rd x1 (wrap64 ((wrap64 (t216 - 1)) - (rd x12 x14)))))) = 0 then (spec_opIs.l0 k x0 x1 x12 x13 (wrap64 (x14 + 1))) else (some false)) else (none)) else (none))) else (none)) else (none)) else (none)) else (none)) else (some true)
def spec_opIs.f (k : Nat) (a0 : Int) (l1 : List Int) : Option (Bool) := (spec_opLabels.f k a0 l1).bind fun t210 => (if t210 = true then ((spec_opBorder.f k a0).bind fun t211 => (spec_opIs.l0 k a0 l1 t211 (t211.length : Int) 0)) else (some false))
theorem spec_opIs.mono_l : ∀ k, (∀ y0 y1 y2 y3 y4, LeO (spec_opIs.l0 k y0 y1 y2 y3 y4) (spec_opIs.l0 (k + 1) y0 y1 y2 y3 y4))
  | 0 => fun _ _ _ _ _ r h => by simp [spec_opIs.l0] at h
  | k + 1 => by
    have ih0 := spec_opIs.mono_l k
    · intro y0 y1 y2 y3 y4
      unfold spec_opIs.l0
      repeat' first
      | (with_reducible exact ih0 _ _ _ _ _)
      | (with_reducible exact spec_opBorder.mono _ _)
      | (with_reducible exact spec_opLabels.mono _ _ _)
      | (with_reducible exact LeO.refl _)
      | (with_reducible exact LeO.none _)
      | (with_reducible refine LeO.ite ?_ ?_)
      | (with_reducible refine LeO.bind ?_ (fun _ => ?_))
      | exact ih0 _ _ _ _ _
      | exact spec_opBorder.mono _ _
      | exact spec_opLabels.mono _ _ _
      | exact LeO.none _
      | refine LeO.ite ?_ ?_
      | refine LeO.bind ?_ (fun _ => ?_)
theorem spec_opIs.mono : ∀ a0 a1 k, LeO (spec_opIs.f k a0 a1) (spec_opIs.f (k + 1) a0 a1) := by
  intro a0 a1 k
  have ih0 := spec_opIs.mono_l k
  unfold spec_opIs.f
  repeat' first
      | (with_reducible exact ih0 _ _ _ _ _)
      | (with_reducible exact spec_opBorder.mono _ _)
      | (with_reducible exact spec_opLabels.mono _ _ _)
      | (with_reducible exact LeO.refl _)
      | (with_reducible exact LeO.none _)
      | (with_reducible refine LeO.ite ?_ ?_)
      | (with_reducible refine LeO.bind ?_ (fun _ => ?_))
      | exact ih0 _ _ _ _ _
      | exact spec_opBorder.mono _ _
      | exact spec_opLabels.mono _ _ _
      | exact LeO.none _
      | refine LeO.ite ?_ ?_
      | refine LeO.bind ?_ (fun _ => ?_)
set_option maxHeartbeats 8000000 in
set_option maxRecDepth 100000 in
theorem spec_opIs.calls (k : Nat) (a0 : Int) (A1 : Option Addr) (c1 : Nat) (l1 : List Int) (r : Bool) (w : World) (hr1 : Kd.C (Kd.int .i64) w A1 l1.length l1) (hc1 : l1.length ≤ c1) (h : spec_opIs.f k a0 l1 = some r) :
    Calls Try.prog 34 #[.int .i64 a0, .slice A1 l1.length c1] w fun e w' => e = .returned (.bool r) ∧ Below w.heap.size w w' := by
  have HR1 := Aside0.mk hr1
  have HC1 := Aside0.mk hc1
  clear hr1 hc1
  have HB := Aside0.mk (Below.refl w.heap.size w)
  have H : ((spec_opLabels.f k a0 l1).bind fun t210 => (if t210 = true then ((spec_opBorder.f k a0).bind fun t211 => (spec_opIs.l0 k a0 l1 t211 (t211.length : Int) 0)) else (some false))) = some r := h
  clear h
  replace H := Option.bind_eq_some_iff.mp H
  obtain ⟨t210, A30, H⟩ := H
  replace H : (if t210 = true then ((spec_opBorder.f k a0).bind fun t211 => (spec_opIs.l0 k a0 l1 t211 (t211.length : Int) 0)) else (some false)) = some r := H
  have A3 := Aside0.mk A30
  clear A30
  by_cases c4 : t210 = true
  · subst c4
    have H1 : ((spec_opBorder.f k a0).bind fun t211 => (spec_opIs.l0 k a0 l1 t211 (t211.length : Int) 0)) = some r := by rw [if_pos rfl] at H; exact H
    clear H
    have H := H1
    clear H1
    replace H := Option.bind_eq_some_iff.mp H
    obtain ⟨t211, A50, H⟩ := H
    replace H : (spec_opIs.l0 k a0 l1 t211 (t211.length : Int) 0) = some r := H
    have A5 := Aside0.mk A50
    clear A50
    have H' := Aside0.mk H
    clear H
    go_enter Try.func34, Try.ntmps34
    go_wp2_with (first | (go_at_call 19; (with_reducible refine (spec_opLabels.calls k a0 _ _ l1 true _ ?side1 ?side2 A3.out).mono ?_); (case side1 => repeat (first | exact HR1.out | (with_reducible refine Kd.C_drewN ?_ _) | (with_reducible refine Kd.C_drew ?_) | (with_reducible refine Kd.C_alloc ?_ _))); (case side2 => exact HC1.out); rintro e w' ⟨rfl, ⟨nd, rfl⟩⟩; (try first | exact ⟨rfl, _, World.drewN_drewN _ _ _⟩ | exact ⟨rfl, _, Eq.trans (World.drewN_drewN _ _ _) (congrArg (World.drewN _) (Nat.add_assoc _ _ _))⟩)) | (go_at_call 35; (with_reducible refine (spec_opBorder.calls k a0 t211 _ A5.out).mono ?_); rintro e w6 ⟨v212, rfl, ho0, hb⟩; have n0_ := Aside0.mk (Kd.R_lower ho0 (below_size BB)); have n1_ := Aside0.mk (below_step BB hb); clear HB; have HO213 := n0_; have HB := n1_; clear n0_ n1_; (try clear hb); (try clear hb2); (try clear hk); (try clear hi); (try clear ho0); obtain ⟨Ao7, co7, eo7⟩ := Kd.R_slice HO213.out; subst eo7))
    repeat (go_quiet (first | (go_at_call 19; (with_reducible refine (spec_opLabels.calls k a0 _ _ l1 true _ ?side1 ?side2 A3.out).mono ?_); (case side1 => repeat (first | exact HR1.out | (with_reducible refine Kd.C_drewN ?_ _) | (with_reducible refine Kd.C_drew ?_) | (with_reducible refine Kd.C_alloc ?_ _))); (case side2 => exact HC1.out); rintro e w' ⟨rfl, ⟨nd, rfl⟩⟩; (try first | exact ⟨rfl, _, World.drewN_drewN _ _ _⟩ | exact ⟨rfl, _, Eq.trans (World.drewN_drewN _ _ _) (congrArg (World.drewN _) (Nat.add_assoc _ _ _))⟩)) | (go_at_call 35; (with_reducible refine (spec_opBorder.calls k a0 t211 _ A5.out).mono ?_); rintro e w6 ⟨v212, rfl, ho0, hb⟩; have n0_ := Aside0.mk (Kd.R_lower ho0 (below_size BB)); have n1_ := Aside0.mk (below_step BB hb); clear HB; have HO213 := n0_; have HB := n1_; clear n0_ n1_; (try clear hb); (try clear hb2); (try clear hk); (try clear hi); (try clear ho0); obtain ⟨Ao7, co7, eo7⟩ := Kd.R_slice HO213.out; subst eo7)); try go_wp2_with (first | (go_at_call 19; (with_reducible refine (spec_opLabels.calls k a0 _ _ l1 true _ ?side1 ?side2 A3.out).mono ?_); (case side1 => repeat (first | exact HR1.out | (with_reducible refine Kd.C_drewN ?_ _) | (with_reducible refine Kd.C_drew ?_) | (with_reducible refine Kd.C_alloc ?_ _))); (case side2 => exact HC1.out); rintro e w' ⟨rfl, ⟨nd, rfl⟩⟩; (try first | exact ⟨rfl, _, World.drewN_drewN _ _ _⟩ | exact ⟨rfl, _, Eq.trans (World.drewN_drewN _ _ _) (congrArg (World.drewN _) (Nat.add_assoc _ _ _))⟩)) | (go_at_call 35; (with_reducible refine (spec_opBorder.calls k a0 t211 _ A5.out).mono ?_); rintro e w6 ⟨v212, rfl, ho0, hb⟩; have n0_ := Aside0.mk (Kd.R_lower ho0 (below_size BB)); have n1_ := Aside0.mk (below_step BB hb); clear HB; have HO213 := n0_; have HB := n1_; clear n0_ n1_; (try clear hb); (try clear hb2); (try clear hk); (try clear hi); (try clear ho0); obtain ⟨Ao7, co7, eo7⟩ := Kd.R_slice HO213.out; subst eo7)))
    go_loopg [14] k (fun kq v14 w' => ∃ (x14_1 : Int), v14 = .int .i64 x14_1 ∧ Aside0 (spec_opIs.l0 kq a0 l1 t211 (t211.length : Int) x14_1 = some r) ∧ Aside0 (kq ≤ k) ∧ Aside0 (Kd.R (Kd.int .i64) 3 w' w.heap.size (fun _ => True) (.slice Ao7 t211.length co7) t211) ∧ Aside0 (Below w.heap.size w w'))
    case atStart => exact ⟨(0), RF, H', ⟨Nat.le_refl _⟩, ⟨KR HO213⟩, ⟨BB⟩⟩
    case round =>
      clear H'
      try clear c1
      try clear p2
      try clear c3
      try clear c4
      try clear p6
      obtain ⟨x14_1, rfl, HA, HK1, HO_12, HB⟩ := hrel
      cases gk with
      | zero => exact absurd HA.out (by simp [spec_opIs.l0])
      | succ k1 =>
        have H := HA.out
        clear HA
        simp only [spec_opIs.l0] at H
        by_cases c8 : x14_1 < (t211.length : Int)
        · rw [if_pos c8] at H
          have c8b0 : decide (x14_1 < (t211.length : Int)) = true := decide_eq_true c8
          clear c8
          by_cases c9 : 0 ≤ x14_1
          · rw [if_pos c9] at H
            have c9b0 : decide (0 ≤ x14_1) = true := decide_eq_true c9
            clear c9
            by_cases c10 : x14_1 < (t211.length : Int)
            · rw [if_pos c10] at H
              have c10b0 : decide (x14_1 < (t211.length : Int)) = true := decide_eq_true c10
              clear c10
              by_cases c11 : 0 ≤ (rd t211 x14_1)
              · rw [if_pos c11] at H
                have c11b0 : decide (0 ≤ (rd t211 x14_1)) = true := decide_eq_true c11
                clear c11
                by_cases c12 : (rd t211 x14_1) < (l1.length : Int)
                · rw [if_pos c12] at H
                  have c12b0 : decide ((rd t211 x14_1) < (l1.length : Int)) = true := decide_eq_true c12
                  clear c12
                  replace H := Option.bind_eq_some_iff.mp H
                  obtain ⟨t216, A130, H⟩ := H
                  replace H : (if 0 ≤ (wrap64 ((wrap64 (t216 - 1)) - (rd t211 x14_1))) then (if (wrap64 ((wrap64 (t216 - 1)) - (rd t211 x14_1))) < (l1.length : Int) then (if (wrap64 ((rd l1 (rd t211 x14_1)) + (rd l1 (wrap64 ((wrap64 (t216 - 1)) - (rd t211 x14_1)))))) = 0 then (spec_opIs.l0 k1 a0 l1 t211 (t211.length : Int) (wrap64 (x14_1 + 1))) else (some false)) else (none)) else (none)) = some r := H
                  have A13 := Aside0.mk A130
                  clear A130
                  obtain ⟨ji14, hji14⟩ : ∃ j_ : Int, (wrap64 ((wrap64 (t216 - 1)) - (rd t211 x14_1))) = j_ := ⟨_, rfl⟩
                  replace H : (if 0 ≤ (ji14) then (if (ji14) < (l1.length : Int) then (if (wrap64 ((rd l1 (rd t211 x14_1)) + (rd l1 (ji14)))) = 0 then (spec_opIs.l0 k1 a0 l1 t211 (t211.length : Int) (wrap64 (x14_1 + 1))) else (some false)) else (none)) else (none)) = some r := by first | (rw [hji14] at H; exact H) | (simp only [hji14] at H ⊢; exact H)
                  (try rw [hji14] at A13)
                  have hji14w : (IntKind.i64.wrap ((wrap64 (t216 - 1)) - (rd t211 x14_1))) = ji14 := (i64_w _).trans hji14
                  by_cases c15 : 0 ≤ (ji14)
                  · rw [if_pos c15] at H
                    have c15b0 : decide (0 ≤ (ji14)) = true := decide_eq_true c15
                    clear c15
                    by_cases c16 : (ji14) < (l1.length : Int)
                    · rw [if_pos c16] at H
                      have c16b0 : decide ((ji14) < (l1.length : Int)) = true := decide_eq_true c16
                      clear c16
                      by_cases c17 : (wrap64 ((rd l1 (rd t211 x14_1)) + (rd l1 (ji14)))) = 0
                      · rw [if_pos c17] at H
                        have c17b0 : ((wrap64 ((rd l1 (rd t211 x14_1)) + (rd l1 (ji14)))) == 0) = true := beq_iff_eq.mpr c17
                        have c17b1 : ((wrap64 ((rd l1 (rd t211 x14_1)) + (rd l1 (ji14)))) != 0) = false := bne_eq_false_iff_eq.mpr c17
                        clear c17
                        have H' := Aside0.mk H
                        clear H
                        have p214 : 0 ≤ (x14_1 : Int) := of_decide_eq_true AS
                        have q214 : x14_1 < (t211.length : Int) := of_decide_eq_true AS
                        obtain ⟨ad214, e214, hx214_0⟩ := Kd.at_int (Kd.R_reads' HO_12.out).2.2 x14_1 p214 q214
                        cases e214
                        replace p214 := eq_true p214
                        replace q214 := eq_true q214
                        have p215 : 0 ≤ ((rd t211 x14_1) : Int) := of_decide_eq_true AS
                        have q215 : (rd t211 x14_1) < (l1.length : Int) := of_decide_eq_true AS
                        obtain ⟨ad215, e215, hx215_0⟩ := Kd.at_int HR1.out (rd t211 x14_1) p215 q215
                        cases e215
                        try (replace hx215_0 := (HB.out.cell (World.block_lt_of_cell? w _ hx215_0)).trans hx215_0)
                        replace p215 := eq_true p215
                        replace q215 := eq_true q215
                        have p217 : 0 ≤ ((ji14) : Int) := of_decide_eq_true AS
                        have q217 : (ji14) < (l1.length : Int) := of_decide_eq_true AS
                        obtain ⟨ad217, e217, hx217_0⟩ := Kd.at_int HR1.out (ji14) p217 q217
                        obtain rfl : ad215 = ad217 := (by injection e217)
                        replace hx217_0 := (HB.out.cell (World.block_lt_of_cell? w _ hx217_0)).trans hx217_0
                        replace p217 := eq_true p217
                        replace q217 := eq_true q217
                        go_wp2_with (first | (go_at_call 43; (with_reducible refine (spec_opCount.calls a0 t216 _ A13.out).mono ?_); rintro e w' ⟨rfl, ⟨nd, rfl⟩⟩; (first | exact ⟨rfl, _, World.drewN_drewN _ _ _⟩ | exact ⟨rfl, _, Eq.trans (World.drewN_drewN _ _ _) (congrArg (World.drewN _) (Nat.add_assoc _ _ _))⟩)) | (go_at_call 43; (with_reducible refine (spec_opCount.calls a0 t216 _ A13.out).mono ?_); rintro e w' ⟨rfl, ⟨nd, rfl⟩⟩; have p217 : 0 ≤ ((ji14) : Int) := of_decide_eq_true AS; have q217 : (ji14) < (l1.length : Int) := of_decide_eq_true AS; obtain ⟨ad217, e217, hx217_0⟩ := Kd.at_int HR1.out (ji14) p217 q217; obtain rfl : ad215 = ad217 := (by injection e217); replace hx217_0 := (HB.out.cell (World.block_lt_of_cell? w _ hx217_0)).trans hx217_0; replace p217 := eq_true p217; replace q217 := eq_true q217))
                        repeat (go_quiet (first | (go_at_call 43; (with_reducible refine (spec_opCount.calls a0 t216 _ A13.out).mono ?_); rintro e w' ⟨rfl, ⟨nd, rfl⟩⟩; (first | exact ⟨rfl, _, World.drewN_drewN _ _ _⟩ | exact ⟨rfl, _, Eq.trans (World.drewN_drewN _ _ _) (congrArg (World.drewN _) (Nat.add_assoc _ _ _))⟩)) | (go_at_call 43; (with_reducible refine (spec_opCount.calls a0 t216 _ A13.out).mono ?_); rintro e w' ⟨rfl, ⟨nd, rfl⟩⟩; have p217 : 0 ≤ ((ji14) : Int) := of_decide_eq_true AS; have q217 : (ji14) < (l1.length : Int) := of_decide_eq_true AS; obtain ⟨ad217, e217, hx217_0⟩ := Kd.at_int HR1.out (ji14) p217 q217; obtain rfl : ad215 = ad217 := (by injection e217); replace hx217_0 := (HB.out.cell (World.block_lt_of_cell? w _ hx217_0)).trans hx217_0; replace p217 := eq_true p217; replace q217 := eq_true q217)); try go_wp2_with (first | (go_at_call 43; (with_reducible refine (spec_opCount.calls a0 t216 _ A13.out).mono ?_); rintro e w' ⟨rfl, ⟨nd, rfl⟩⟩; (first | exact ⟨rfl, _, World.drewN_drewN _ _ _⟩ | exact ⟨rfl, _, Eq.trans (World.drewN_drewN _ _ _) (congrArg (World.drewN _) (Nat.add_assoc _ _ _))⟩)) | (go_at_call 43; (with_reducible refine (spec_opCount.calls a0 t216 _ A13.out).mono ?_); rintro e w' ⟨rfl, ⟨nd, rfl⟩⟩; have p217 : 0 ≤ ((ji14) : Int) := of_decide_eq_true AS; have q217 : (ji14) < (l1.length : Int) := of_decide_eq_true AS; obtain ⟨ad217, e217, hx217_0⟩ := Kd.at_int HR1.out (ji14) p217 q217; obtain rfl : ad215 = ad217 := (by injection e217); replace hx217_0 := (HB.out.cell (World.block_lt_of_cell? w _ hx217_0)).trans hx217_0; replace p217 := eq_true p217; replace q217 := eq_true q217)))
                        go_roundg k1
                        case measure => have := HK1.out; omega
                        case rel => exact ⟨(wrap64 (x14_1 + 1)), RF, H', ⟨by have := HK1.out; omega⟩, ⟨KR HO_12⟩, ⟨BB⟩⟩
                      · rw [if_neg c17] at H
                        have c17b0 : ((wrap64 ((rd l1 (rd t211 x14_1)) + (rd l1 (ji14)))) == 0) = false := beq_eq_false_iff_ne.mpr c17
                        have c17b1 : ((wrap64 ((rd l1 (rd t211 x14_1)) + (rd l1 (ji14)))) != 0) = true := bne_iff_ne.mpr c17
                        obtain rfl := Option.some.inj H
                        have p214 : 0 ≤ (x14_1 : Int) := of_decide_eq_true AS
                        have q214 : x14_1 < (t211.length : Int) := of_decide_eq_true AS
                        obtain ⟨ad214, e214, hx214_0⟩ := Kd.at_int (Kd.R_reads' HO_12.out).2.2 x14_1 p214 q214
                        cases e214
                        replace p214 := eq_true p214
                        replace q214 := eq_true q214
                        have p215 : 0 ≤ ((rd t211 x14_1) : Int) := of_decide_eq_true AS
                        have q215 : (rd t211 x14_1) < (l1.length : Int) := of_decide_eq_true AS
                        obtain ⟨ad215, e215, hx215_0⟩ := Kd.at_int HR1.out (rd t211 x14_1) p215 q215
                        cases e215
                        try (replace hx215_0 := (HB.out.cell (World.block_lt_of_cell? w _ hx215_0)).trans hx215_0)
                        replace p215 := eq_true p215
                        replace q215 := eq_true q215
                        have p217 : 0 ≤ ((ji14) : Int) := of_decide_eq_true AS
                        have q217 : (ji14) < (l1.length : Int) := of_decide_eq_true AS
                        obtain ⟨ad217, e217, hx217_0⟩ := Kd.at_int HR1.out (ji14) p217 q217
                        obtain rfl : ad215 = ad217 := (by injection e217)
                        replace hx217_0 := (HB.out.cell (World.block_lt_of_cell? w _ hx217_0)).trans hx217_0
                        replace p217 := eq_true p217
                        replace q217 := eq_true q217
                        go_wp2_with (first | (go_at_call 43; (with_reducible refine (spec_opCount.calls a0 t216 _ A13.out).mono ?_); rintro e w' ⟨rfl, ⟨nd, rfl⟩⟩; (first | exact ⟨rfl, _, World.drewN_drewN _ _ _⟩ | exact ⟨rfl, _, Eq.trans (World.drewN_drewN _ _ _) (congrArg (World.drewN _) (Nat.add_assoc _ _ _))⟩)) | (go_at_call 43; (with_reducible refine (spec_opCount.calls a0 t216 _ A13.out).mono ?_); rintro e w' ⟨rfl, ⟨nd, rfl⟩⟩; have p217 : 0 ≤ ((ji14) : Int) := of_decide_eq_true AS; have q217 : (ji14) < (l1.length : Int) := of_decide_eq_true AS; obtain ⟨ad217, e217, hx217_0⟩ := Kd.at_int HR1.out (ji14) p217 q217; obtain rfl : ad215 = ad217 := (by injection e217); replace hx217_0 := (HB.out.cell (World.block_lt_of_cell? w _ hx217_0)).trans hx217_0; replace p217 := eq_true p217; replace q217 := eq_true q217))
                        repeat (go_quiet (first | (go_at_call 43; (with_reducible refine (spec_opCount.calls a0 t216 _ A13.out).mono ?_); rintro e w' ⟨rfl, ⟨nd, rfl⟩⟩; (first | exact ⟨rfl, _, World.drewN_drewN _ _ _⟩ | exact ⟨rfl, _, Eq.trans (World.drewN_drewN _ _ _) (congrArg (World.drewN _) (Nat.add_assoc _ _ _))⟩)) | (go_at_call 43; (with_reducible refine (spec_opCount.calls a0 t216 _ A13.out).mono ?_); rintro e w' ⟨rfl, ⟨nd, rfl⟩⟩; have p217 : 0 ≤ ((ji14) : Int) := of_decide_eq_true AS; have q217 : (ji14) < (l1.length : Int) := of_decide_eq_true AS; obtain ⟨ad217, e217, hx217_0⟩ := Kd.at_int HR1.out (ji14) p217 q217; obtain rfl : ad215 = ad217 := (by injection e217); replace hx217_0 := (HB.out.cell (World.block_lt_of_cell? w _ hx217_0)).trans hx217_0; replace p217 := eq_true p217; replace q217 := eq_true q217)); try go_wp2_with (first | (go_at_call 43; (with_reducible refine (spec_opCount.calls a0 t216 _ A13.out).mono ?_); rintro e w' ⟨rfl, ⟨nd, rfl⟩⟩; (first | exact ⟨rfl, _, World.drewN_drewN _ _ _⟩ | exact ⟨rfl, _, Eq.trans (World.drewN_drewN _ _ _) (congrArg (World.drewN _) (Nat.add_assoc _ _ _))⟩)) | (go_at_call 43; (with_reducible refine (spec_opCount.calls a0 t216 _ A13.out).mono ?_); rintro e w' ⟨rfl, ⟨nd, rfl⟩⟩; have p217 : 0 ≤ ((ji14) : Int) := of_decide_eq_true AS; have q217 : (ji14) < (l1.length : Int) := of_decide_eq_true AS; obtain ⟨ad217, e217, hx217_0⟩ := Kd.at_int HR1.out (ji14) p217 q217; obtain rfl : ad215 = ad217 := (by injection e217); replace hx217_0 := (HB.out.cell (World.block_lt_of_cell? w _ hx217_0)).trans hx217_0; replace p217 := eq_true p217; replace q217 := eq_true q217)))
                        go_ret
                        exact ⟨by first | rfl | (simp [errW_none, errW_some] <;> rfl) | (simp only [← hji14]; first | rfl | (simp [errW_none, errW_some] <;> rfl)) | (simp [*, errW_none, errW_some] <;> rfl), BB⟩
                    · rw [if_neg c16] at H
                      exact absurd H (by simp)
                  · rw [if_neg c15] at H
                    exact absurd H (by simp)
                · rw [if_neg c12] at H
                  exact absurd H (by simp)
              · rw [if_neg c11] at H
                exact absurd H (by simp)
            · rw [if_neg c10] at H
              exact absurd H (by simp)
          · rw [if_neg c9] at H
            exact absurd H (by simp)
        · rw [if_neg c8] at H
          have c8b0 : decide (x14_1 < (t211.length : Int)) = false := decide_eq_false c8
          clear c8
          obtain rfl := Option.some.inj H
          go_wp2
          repeat (go_quiet (fail); try go_wp2)
          go_ret
          exact ⟨by first | rfl | (simp [errW_none, errW_some] <;> rfl) | (simp [*, errW_none, errW_some] <;> rfl), BB⟩
  · replace c4 := Bool.eq_false_iff.mpr c4
    subst c4
    have H1 : (some false) = some r := by rw [if_neg (show ¬ (false = true) by decide)] at H; exact H
    clear H
    have H := H1
    clear H1
    obtain rfl := Option.some.inj H
    go_enter Try.func34, Try.ntmps34
    go_wp2_with (first | (go_at_call 19; (with_reducible refine (spec_opLabels.calls k a0 _ _ l1 false _ ?side1 ?side2 A3.out).mono ?_); (case side1 => repeat (first | exact HR1.out | (with_reducible refine Kd.C_drewN ?_ _) | (with_reducible refine Kd.C_drew ?_) | (with_reducible refine Kd.C_alloc ?_ _))); (case side2 => exact HC1.out); rintro e w' ⟨rfl, ⟨nd, rfl⟩⟩; (try first | exact ⟨rfl, _, World.drewN_drewN _ _ _⟩ | exact ⟨rfl, _, Eq.trans (World.drewN_drewN _ _ _) (congrArg (World.drewN _) (Nat.add_assoc _ _ _))⟩)))
    repeat (go_quiet (first | (go_at_call 19; (with_reducible refine (spec_opLabels.calls k a0 _ _ l1 false _ ?side1 ?side2 A3.out).mono ?_); (case side1 => repeat (first | exact HR1.out | (with_reducible refine Kd.C_drewN ?_ _) | (with_reducible refine Kd.C_drew ?_) | (with_reducible refine Kd.C_alloc ?_ _))); (case side2 => exact HC1.out); rintro e w' ⟨rfl, ⟨nd, rfl⟩⟩; (try first | exact ⟨rfl, _, World.drewN_drewN _ _ _⟩ | exact ⟨rfl, _, Eq.trans (World.drewN_drewN _ _ _) (congrArg (World.drewN _) (Nat.add_assoc _ _ _))⟩))); try go_wp2_with (first | (go_at_call 19; (with_reducible refine (spec_opLabels.calls k a0 _ _ l1 false _ ?side1 ?side2 A3.out).mono ?_); (case side1 => repeat (first | exact HR1.out | (with_reducible refine Kd.C_drewN ?_ _) | (with_reducible refine Kd.C_drew ?_) | (with_reducible refine Kd.C_alloc ?_ _))); (case side2 => exact HC1.out); rintro e w' ⟨rfl, ⟨nd, rfl⟩⟩; (try first | exact ⟨rfl, _, World.drewN_drewN _ _ _⟩ | exact ⟨rfl, _, Eq.trans (World.drewN_drewN _ _ _) (congrArg (World.drewN _) (Nat.add_assoc _ _ _))⟩))))
    go_ret
    exact ⟨by first | rfl | (simp [errW_none, errW_some] <;> rfl) | (simp [*, errW_none, errW_some] <;> rfl), BB⟩

end Go.Proofs.Ytgpplbaloajgdac.PFnExactFindOpposite
