-- Written by a program of this session (wip/tools/pp.sh) out of the translation; Lean checks it.
import Derived.Test.YtgpplbaloajgdacPFnExactFindOppositex0
import Derived.Test.YtgpplbaloajgdacPFnExactFindOppositex7
import Derived.Test.YtgpplbaloajgdacPFnExactFindOppositex8
import Derived.Test.YtgpplbaloajgdacPFnExactFindOppositex9
import Derived.Test.YtgpplbaloajgdacPFnExactFindOppositex10
import Derived.Test.YtgpplbaloajgdacPFnExactFindOppositex11
import Derived.Test.YtgpplbaloajgdacPFnExactFindOppositex12
namespace Go.Proofs.Ytgpplbaloajgdac.PFnExactFindOpposite
open Go.RowKit Go.Proofs.YtgpplbaloajgdacOwn Go.Proofs.YtgpplbaloajgdacW.PrintWords Go.Proofs.YtgpplbaloajgdacW.PrintLast Go.Proofs.YtgpplbaloajgdacW.PrintMore
attribute [local go_sem] max2_int min2_int max_two min_two max_three min_three max_four min_four   -- for this text's walks alone
set_option linter.unusedVariables false
set_option linter.unusedSimpArgs false

/-! ### impl_FindOpposite: function 13 -/
mutual
def impl_FindOpposite.l0 : Nat → Int → List Int → List (List Int) → Int → Int → Option (List Int × Bool)
  | 0, _, _, _, _, _ => none
  | k + 1, x0, x1, x19, x20, x21 => if x21 < x20 then (if 0 ≤ x21 then (if x21 < (x19.length : Int) then (if 0 < ((rd_L1 x19 x21).length : Int) then (if 0 ≤ (rd (rd_L1 x19 x21) 0) then (if (rd (rd_L1 x19 x21) 0) < (x1.length : Int) then (if 1 < ((rd_L1 x19 x21).length : Int) then (if 0 ≤ (rd (rd_L1 x19 x21) 1) then (if (rd (rd_L1 x19 x21) 1) < (x1.length : Int) then (if (wrap64 ((rd x1 (rd (rd_L1 x19 x21) 0)) + (rd x1 (rd (rd_L1 x19 x21) 1)))) = 0 then ((impl_sorted.f (rd (rd_L1 x19 x21) 0) (rd (rd_L1 x19 x21) 1)).bind fun t358 => (some (t358, true))) else (impl_FindOpposite.l0 k x0 x1 x19 x20 (wrap64 (x21 + 1)))) else (none)) else (none)) else (none)) else (none)) else (none)) else (none)) else (none)) else (none)) else ((impl_square_cells.f k x0).bind fun t361 => ((impl_squareDoors.f k x0 x1).bind fun t364 => (impl_FindOpposite.l1 k x1 t361 t364 (t364.length : Int) 0)))
def impl_FindOpposite.l1 : Nat → List Int → List (List Int) → List (List Int) → Int → Int → Option (List Int × Bool)
  | 0, _, _, _, _, _ => none
  | k + 1, x1, x8, x52, x53, x54 => if x54 < x53 then (if 0 ≤ x54 then (if x54 < (x52.length : Int) then (if 0 < ((rd_L1 x52 x54).length : Int) then (if 1 < ((rd_L1 x52 x54).length : Int) then ((impl_squareWalk.f k x1 x8 (rd (rd_L1 x52 x54) 0) (rd (rd_L1 x52 x54) 1)).bind fun bt370 => (if bt370.2 ≥ 0 then (if 0 ≤ bt370.2 then (if bt370.2 < (x8.length : Int) then ((impl_firstEdge.f k x1 (rd_L1 x8 bt370.2)).bind fun t375 => (some (t375, true))) else (none)) else (none)) else (impl_FindOpposite.l1 k x1 x8 x52 x53 (wrap64 (x54 + 1))))) else (none)) else (none)) else (none)) else (none)) else (some (([] : List Int), false))
end
def impl_FindOpposite.f (k : Nat) (a0 : Int) (l1 : List Int) : Option (List Int × Bool) := (impl_areOpposite.f k a0 l1).bind fun t347 => (if t347 = true then ((impl_square_steps.f k a0).bind fun t348 => (impl_FindOpposite.l0 k a0 l1 t348 (t348.length : Int) 0)) else (some (([] : List Int), false)))
theorem impl_FindOpposite.mono_l : ∀ k, (∀ y0 y1 y2 y3 y4, LeO (impl_FindOpposite.l0 k y0 y1 y2 y3 y4) (impl_FindOpposite.l0 (k + 1) y0 y1 y2 y3 y4)) ∧ (∀ y0 y1 y2 y3 y4, LeO (impl_FindOpposite.l1 k y0 y1 y2 y3 y4) (impl_FindOpposite.l1 (k + 1) y0 y1 y2 y3 y4))
  | 0 => ⟨fun _ _ _ _ _ r h => by simp [impl_FindOpposite.l0] at h, fun _ _ _ _ _ r h => by simp [impl_FindOpposite.l1] at h⟩
  | k + 1 => by
    obtain ⟨ih0, ih1⟩ := impl_FindOpposite.mono_l k
    refine ⟨?_, ?_⟩
    · intro y0 y1 y2 y3 y4
      unfold impl_FindOpposite.l0
      repeat' first
      | (with_reducible exact ih0 _ _ _ _ _)
      | (with_reducible exact ih1 _ _ _ _ _)
      | (with_reducible exact impl_areOpposite.mono _ _ _)
      | (with_reducible exact impl_firstEdge.mono _ _ _)
      | (with_reducible exact impl_squareDoors.mono _ _ _)
      | (with_reducible exact impl_squareWalk.mono _ _ _ _ _)
      | (with_reducible exact impl_square_cells.mono _ _)
      | (with_reducible exact impl_square_steps.mono _ _)
      | (with_reducible exact LeO.refl _)
      | (with_reducible exact LeO.none _)
      | (with_reducible refine LeO.ite ?_ ?_)
      | (with_reducible refine LeO.bind ?_ (fun _ => ?_))
      | exact ih0 _ _ _ _ _
      | exact ih1 _ _ _ _ _
      | exact impl_areOpposite.mono _ _ _
      | exact impl_firstEdge.mono _ _ _
      | exact impl_squareDoors.mono _ _ _
      | exact impl_squareWalk.mono _ _ _ _ _
      | exact impl_square_cells.mono _ _
      | exact impl_square_steps.mono _ _
      | exact LeO.none _
      | refine LeO.ite ?_ ?_
      | refine LeO.bind ?_ (fun _ => ?_)
    · intro y0 y1 y2 y3 y4
      unfold impl_FindOpposite.l1
      repeat' first
      | (with_reducible exact ih0 _ _ _ _ _)
      | (with_reducible exact ih1 _ _ _ _ _)
      | (with_reducible exact impl_areOpposite.mono _ _ _)
      | (with_reducible exact impl_firstEdge.mono _ _ _)
      | (with_reducible exact impl_squareDoors.mono _ _ _)
      | (with_reducible exact impl_squareWalk.mono _ _ _ _ _)
      | (with_reducible exact impl_square_cells.mono _ _)
      | (with_reducible exact impl_square_steps.mono _ _)
      | (with_reducible exact LeO.refl _)
      | (with_reducible exact LeO.none _)
      | (with_reducible refine LeO.ite ?_ ?_)
      | (with_reducible refine LeO.bind ?_ (fun _ => ?_))
      | exact ih0 _ _ _ _ _
      | exact ih1 _ _ _ _ _
      | exact impl_areOpposite.mono _ _ _
      | exact impl_firstEdge.mono _ _ _
      | exact impl_squareDoors.mono _ _ _
      | exact impl_squareWalk.mono _ _ _ _ _
      | exact impl_square_cells.mono _ _
      | exact impl_square_steps.mono _ _
      | exact LeO.none _
      | refine LeO.ite ?_ ?_
      | refine LeO.bind ?_ (fun _ => ?_)
theorem impl_FindOpposite.mono : ∀ a0 a1 k, LeO (impl_FindOpposite.f k a0 a1) (impl_FindOpposite.f (k + 1) a0 a1) := by
  intro a0 a1 k
  obtain ⟨ih0, ih1⟩ := impl_FindOpposite.mono_l k
  unfold impl_FindOpposite.f
  repeat' first
      | (with_reducible exact ih0 _ _ _ _ _)
      | (with_reducible exact ih1 _ _ _ _ _)
      | (with_reducible exact impl_areOpposite.mono _ _ _)
      | (with_reducible exact impl_firstEdge.mono _ _ _)
      | (with_reducible exact impl_squareDoors.mono _ _ _)
      | (with_reducible exact impl_squareWalk.mono _ _ _ _ _)
      | (with_reducible exact impl_square_cells.mono _ _)
      | (with_reducible exact impl_square_steps.mono _ _)
      | (with_reducible exact LeO.refl _)
      | (with_reducible exact LeO.none _)
      | (with_reducible refine LeO.ite ?_ ?_)
      | (with_reducible refine LeO.bind ?_ (fun _ => ?_))
      | exact ih0 _ _ _ _ _
      | exact ih1 _ _ _ _ _
      | exact impl_areOpposite.mono _ _ _
      | exact impl_firstEdge.mono _ _ _
      | exact impl_squareDoors.mono _ _ _
      | exact impl_squareWalk.mono _ _ _ _ _
      | exact impl_square_cells.mono _ _
      | exact impl_square_steps.mono _ _
      | exact LeO.none _
      | refine LeO.ite ?_ ?_
      | refine LeO.bind ?_ (fun _ => ?_)
def impl_FindOpposite.T6 : Bool × List (List Nat × List Nat) := (true, [([], []), ([], []), ([1], [1]), ([2], [2]), ([0, 3], [0, 3]), ([4], [4]), ([], []), ([], []), ([7], [7]), ([8], [8]), ([6, 9], [6, 9]), ([10], [10]), ([5, 11], [5, 11]), ([12], [12])])
def impl_FindOpposite.B6 : List Nat := [0, 0, 2, 6, 15, 31, 0, 0, 128, 384, 960, 1984, 4095, 8191]
theorem impl_FindOpposite.tab6 : rtab .any (opsOf Try.f13 6) = impl_FindOpposite.T6 := by kernel_rfl
theorem impl_FindOpposite.bits6 : waitsOk impl_FindOpposite.T6.2 impl_FindOpposite.B6 = true := by kernel_rfl
def impl_FindOpposite.T7 : Bool × List (List Nat × List Nat) := (true, [([], []), ([0], [0]), ([1], [1]), ([], []), ([3], [3]), ([4], [4]), ([2, 5], [2, 5]), ([6, 6, 0, 1, 2, 3, 4, 5, 6], [6]), ([7, 0, 1, 2, 3, 4, 5, 6, 7], [])])
def impl_FindOpposite.B7 : List Nat := [0, 1, 3, 0, 8, 24, 63, 127, 255]
theorem impl_FindOpposite.tab7 : rtab .any (opsOf Try.f13 7) = impl_FindOpposite.T7 := by kernel_rfl
theorem impl_FindOpposite.bits7 : waitsOk impl_FindOpposite.T7.2 impl_FindOpposite.B7 = true := by kernel_rfl
def impl_FindOpposite.T13 : Bool × List (List Nat × List Nat) := (true, [([], []), ([], []), ([], []), ([2], [2]), ([3], [3]), ([], []), ([5], [5]), ([6], [6]), ([0, 1, 4, 7], [0, 1, 4, 7]), ([8], [8]), ([9], [9]), ([9], [9]), ([10, 8, 0, 1, 2, 3, 4, 5, 6, 7, 8, 9, 10], [10]), ([11, 12, 0, 1, 2, 3, 4, 5, 6, 7, 8, 9, 10, 11, 12], [11])])
def impl_FindOpposite.B13 : List Nat := [0, 0, 0, 4, 12, 0, 32, 96, 255, 511, 1023, 1023, 2047, 8191]
theorem impl_FindOpposite.tab13 : rtab .any (opsOf Try.f13 13) = impl_FindOpposite.T13 := by kernel_rfl
theorem impl_FindOpposite.bits13 : waitsOk impl_FindOpposite.T13.2 impl_FindOpposite.B13 = true := by kernel_rfl
set_option maxHeartbeats 8000000 in
set_option maxRecDepth 100000 in
theorem impl_FindOpposite.calls (k : Nat) (a0 : Int) (A1 : Option Addr) (c1 : Nat) (l1 : List Int) (r1 : List Int) (r2 : Bool) (w : World) (hr1 : Kd.C (Kd.int .i64) w A1 l1.length l1) (hc1 : l1.length ≤ c1) (h : impl_FindOpposite.f k a0 l1 = some (r1, r2)) :
    Calls Try.prog 13 #[.int .i64 a0, .slice A1 l1.length c1] w fun e w' => ∃ v0_ : Value, e = .returned (.tuple #[v0_, .bool r2]) ∧ Kd.R (Kd.int .i64) 3 w' w.heap.size (fun _ => True) v0_ r1 ∧ Below w.heap.size w w' := by
  have hu45 := Try.underlying45
  have HR1 := Aside0.mk hr1
  have HC1 := Aside0.mk hc1
  clear hr1 hc1
  have HB := Aside0.mk (Below.refl w.heap.size w)
  have H : ((impl_areOpposite.f k a0 l1).bind fun t347 => (if t347 = true then ((impl_square_steps.f k a0).bind fun t348 => (impl_FindOpposite.l0 k a0 l1 t348 (t348.length : Int) 0)) else (some (([] : List Int), false)))) = some (r1, r2) := h
  clear h
  replace H := Option.bind_eq_some_iff.mp H
  obtain ⟨t347, A30, H⟩ := H
  replace H : (if t347 = true then ((impl_square_steps.f k a0).bind fun t348 => (impl_FindOpposite.l0 k a0 l1 t348 (t348.length : Int) 0)) else (some (([] : List Int), false))) = some (r1, r2) := H
  have A3 := Aside0.mk A30
  clear A30
  by_cases c4 : t347 = true
  · subst c4
    have H1 : ((impl_square_steps.f k a0).bind fun t348 => (impl_FindOpposite.l0 k a0 l1 t348 (t348.length : Int) 0)) = some (r1, r2) := by rw [if_pos rfl] at H; exact H
    clear H
    have H := H1
    clear H1
    replace H := Option.bind_eq_some_iff.mp H
    obtain ⟨t348, A50, H⟩ := H
    replace H : (impl_FindOpposite.l0 k a0 l1 t348 (t348.length : Int) 0) = some (r1, r2) := H
    have A5 := Aside0.mk A50
    clear A50
    have H' := Aside0.mk H
    clear H
    go_enter Try.func13, Try.ntmps13
    go_wp2_with (first | ((with_reducible refine gate_callee (f := 36) rfl ?_); refine goesL_ (some 15) rfl rfl Try.func36 (by kernel_rfl) rfl #[.int .i64 a0, .slice A1 l1.length c1] rfl TA ?_; (with_reducible refine (impl_areOpposite.calls k a0 _ _ l1 true _ ?side1 ?side2 A3.out).mono ?_); (case side1 => repeat (first | exact HR1.out | (with_reducible refine Kd.C_drewN ?_ _) | (with_reducible refine Kd.C_drew ?_) | (with_reducible refine Kd.C_alloc ?_ _))); (case side2 => exact HC1.out); rintro e w6 ⟨rfl, hb⟩; refine ⟨_, rfl, ?_⟩; have n0_ := Aside0.mk (below_step BB hb); clear HB; have HB := n0_; clear n0_; (try clear hb); (try clear hb2); (try clear hk); (try clear hi)) | ((with_reducible refine gate_callee (f := 37) rfl ?_); refine goesL_ (some 19) rfl rfl Try.func37 (by kernel_rfl) rfl #[.agg #[.int .i64 a0]] rfl TA ?_; (with_reducible refine (impl_square_steps.calls k a0 t348 _ A5.out).mono ?_); rintro e w7 ⟨v349, rfl, ho0, hb⟩; refine ⟨_, rfl, ?_⟩; have n0_ := Aside0.mk (Kd.S_lower ho0 (below_size BB)); have n1_ := Aside0.mk (below_step BB hb); clear HB; have HO350 := n0_; have HB := n1_; clear n0_ n1_; (try clear hb); (try clear hb2); (try clear hk); (try clear hi); (try clear ho0); obtain ⟨Ao8, co8, eo8⟩ := Kd.S_slice HO350.out; subst eo8))
    go_loopg [21] k (fun kq v21 w' => ∃ (x21_1 : Int), v21 = .int .i64 x21_1 ∧ Aside0 (impl_FindOpposite.l0 kq a0 l1 t348 (t348.length : Int) x21_1 = some (r1, r2)) ∧ Aside0 (kq ≤ k) ∧ Aside0 (Kd.S (Kd.slice 3 (Kd.int .i64)) 22 w' w.heap.size (fun _ => True) (.slice Ao8 t348.length co8) t348) ∧ Aside0 (Below w.heap.size w w'))
    case atStart => exact ⟨(0), RF, H', ⟨Nat.le_refl _⟩, ⟨KS HO350⟩, ⟨BB⟩⟩
    case round =>
      clear H'
      try clear c1
      try clear p2
      try clear c3
      try clear c4
      try clear p6
      obtain ⟨x21_1, rfl, HA, HK1, HO_19, HB⟩ := hrel
      cases gk with
      | zero => exact absurd HA.out (by simp [impl_FindOpposite.l0])
      | succ k1 =>
        have H := HA.out
        clear HA
        simp only [impl_FindOpposite.l0] at H
        by_cases c9 : x21_1 < (t348.length : Int)
        · rw [if_pos c9] at H
          have c9b0 : decide (x21_1 < (t348.length : Int)) = true := decide_eq_true c9
          clear c9
          by_cases c10 : 0 ≤ x21_1
          · rw [if_pos c10] at H
            have c10b0 : decide (0 ≤ x21_1) = true := decide_eq_true c10
            clear c10
            by_cases c11 : x21_1 < (t348.length : Int)
            · rw [if_pos c11] at H
              have c11b0 : decide (x21_1 < (t348.length : Int)) = true := decide_eq_true c11
              clear c11
              by_cases c12 : 0 < ((rd_L1 t348 x21_1).length : Int)
              · rw [if_pos c12] at H
                have c12b0 : decide (0 < ((rd_L1 t348 x21_1).length : Int)) = true := decide_eq_true c12
                have c12b1 : decide (0 < (rd_L1 t348 x21_1).length) = true := decide_eq_true (by omega)
                clear c12
                by_cases c13 : 0 ≤ (rd (rd_L1 t348 x21_1) 0)
                · rw [if_pos c13] at H
                  have c13b0 : decide (0 ≤ (rd (rd_L1 t348 x21_1) 0)) = true := decide_eq_true c13
                  clear c13
                  by_cases c14 : (rd (rd_L1 t348 x21_1) 0) < (l1.length : Int)
                  · rw [if_pos c14] at H
                    have c14b0 : decide ((rd (rd_L1 t348 x21_1) 0) < (l1.length : Int)) = true := decide_eq_true c14
                    clear c14
                    by_cases c15 : 1 < ((rd_L1 t348 x21_1).length : Int)
                    · rw [if_pos c15] at H
                      have c15b0 : decide (1 < ((rd_L1 t348 x21_1).length : Int)) = true := decide_eq_true c15
                      have c15b1 : decide (1 < (rd_L1 t348 x21_1).length) = true := decide_eq_true (by omega)
                      clear c15
                      by_cases c16 : 0 ≤ (rd (rd_L1 t348 x21_1) 1)
                      · rw [if_pos c16] at H
                        have c16b0 : decide (0 ≤ (rd (rd_L1 t348 x21_1) 1)) = true := decide_eq_true c16
                        clear c16
                        by_cases c17 : (rd (rd_L1 t348 x21_1) 1) < (l1.length : Int)
                        · rw [if_pos c17] at H
                          have c17b0 : decide ((rd (rd_L1 t348 x21_1) 1) < (l1.length : Int)) = true := decide_eq_true c17
                          clear c17
                          by_cases c18 : (wrap64 ((rd l1 (rd (rd_L1 t348 x21_1) 0)) + (rd l1 (rd (rd_L1 t348 x21_1) 1)))) = 0
                          · rw [if_pos c18] at H
                            have c18b0 : ((wrap64 ((rd l1 (rd (rd_L1 t348 x21_1) 0)) + (rd l1 (rd (rd_L1 t348 x21_1) 1)))) == 0) = true := beq_iff_eq.mpr c18
                            have c18b1 : ((wrap64 ((rd l1 (rd (rd_L1 t348 x21_1) 0)) + (rd l1 (rd (rd_L1 t348 x21_1) 1)))) != 0) = false := bne_eq_false_iff_eq.mpr c18
                            clear c18
                            replace H := Option.bind_eq_some_iff.mp H
                            obtain ⟨t358, A190, H⟩ := H
                            replace H : (some (t358, true)) = some (r1, r2) := H
                            have A19 := Aside0.mk A190
                            clear A190
                            simp only [Option.some.injEq, Prod.mk.injEq] at H
                            obtain ⟨rfl, rfl⟩ := H
                            have p351 : 0 ≤ (x21_1 : Int) := of_decide_eq_true AS
                            have q351 : x21_1 < (t348.length : Int) := of_decide_eq_true AS
                            obtain ⟨ad351, A351_0, c351_0, e351, hx351_0, hl351_0, hi351_0⟩ := at_L1 (Kd.S_reads' HO_19.out).2.2 x21_1 p351 q351
                            cases e351
                            obtain ⟨ce351, hce351, hMe351, hcc351⟩ := Kd.S_get HO_19.out [] x21_1 p351 (by first | exact q351 | exact of_decide_eq_true AS | (have e_ := (Kd.S_reads' HO_19.out).1; omega))
                            obtain ⟨ve351_0, rfl, ge351_0⟩ := hMe351
                            have hv351_0 := hcc351 0 _ rfl
                            rw [Nat.add_zero, show ((Kd.slice 3 (Kd.int .i64))).sz = 1 from rfl, Nat.mul_one] at hv351_0
                            replace hv351_0 := Option.some.inj (hv351_0.symm.trans hx351_0)
                            rw [hv351_0] at ge351_0
                            have HL351_0 := Aside0.mk (show Kd.R (Kd.int .i64) 3 _ _ _ _ (rd_L1 t348 x21_1) from ge351_0)
                            clear hv351_0 ge351_0
                            clear hcc351 hce351
                            have HR351_0 := Aside0.mk hi351_0
                            have HC351_0 := Aside0.mk hl351_0
                            clear hi351_0 hl351_0
                            replace p351 := eq_true p351
                            replace q351 := eq_true q351
                            try go_wp2
                            have n0_ := Aside0.mk (Kd.S_drew HO_19.out)
                            have n1_ := Aside0.mk (Kd.R_drew HL351_0.out)
                            have n2_ := Aside0.mk (Kd.C_drew HR351_0.out)
                            have n3_ := Aside0.mk (below_drew1 HB.out)
                            clear HO_19
                            clear HL351_0
                            clear HR351_0
                            clear HB
                            have HO_19 := n0_
                            have HL351_0 := n1_
                            have HR351_0 := n2_
                            have HB := n3_
                            clear n0_ n1_ n2_ n3_
                            have p352 : 0 ≤ (0 : Int) := (by omega)
                            have q352 : 0 < ((rd_L1 t348 x21_1).length : Int) := of_decide_eq_true AS
                            obtain ⟨ad352, e352, hx352_0⟩ := Kd.at_int (by repeat (first | (with_reducible exact HR351_0.out) | (with_reducible refine Kd.C_drewN ?_ _) | (with_reducible refine Kd.C_drew ?_) | (with_reducible refine Kd.C_alloc ?_ _) | exact HR351_0.out)) 0 p352 q352
                            cases e352
                            have qi352 : (0 < (rd_L1 t348 x21_1).length) = True := eq_true (by omega)
                            (try rw [show ((0 : Int)).toNat = 0 from rfl] at hx352_0)
                            (try rw [Addr.add_zero'] at hx352_0)
                            replace p352 := eq_true p352
                            replace q352 := eq_true q352
                            have p353 : 0 ≤ ((rd (rd_L1 t348 x21_1) 0) : Int) := of_decide_eq_true AS
                            have q353 : (rd (rd_L1 t348 x21_1) 0) < (l1.length : Int) := of_decide_eq_true AS
                            obtain ⟨ad353, e353, hx353_0⟩ := Kd.at_int HR1.out (rd (rd_L1 t348 x21_1) 0) p353 q353
                            have hw353_0 := hx353_0
                            cases e353
                            try (replace hx353_0 := (HB.out.cell (World.block_lt_of_cell? w _ hx353_0)).trans hx353_0)
                            replace p353 := eq_true p353
                            replace q353 := eq_true q353
                            have p354 : 0 ≤ (1 : Int) := (by omega)
                            have q354 : 1 < ((rd_L1 t348 x21_1).length : Int) := of_decide_eq_true AS
                            obtain ⟨ad354, e354, hx354_0⟩ := Kd.at_int (by repeat (first | (with_reducible exact HR351_0.out) | (with_reducible refine Kd.C_drewN ?_ _) | (with_reducible refine Kd.C_drew ?_) | (with_reducible refine Kd.C_alloc ?_ _) | exact HR351_0.out)) 1 p354 q354
                            obtain rfl : ad352 = ad354 := (by injection e354)
                            (try simp only [show (1 : Int).toNat = 1 from rfl, Nat.reduceMul, Nat.reduceEqDiff, Go.Addr.add, ↓reduceIte] at hx354_0)
                            have qi354 : (1 < (rd_L1 t348 x21_1).length) = True := eq_true (by omega)
                            (try rw [show ((1 : Int)).toNat = 1 from rfl] at hx354_0)
                            replace p354 := eq_true p354
                            replace q354 := eq_true q354
                            have p355 : 0 ≤ ((rd (rd_L1 t348 x21_1) 1) : Int) := of_decide_eq_true AS
                            have q355 : (rd (rd_L1 t348 x21_1) 1) < (l1.length : Int) := of_decide_eq_true AS
                            obtain ⟨ad355, e355, hx355_0⟩ := Kd.at_int HR1.out (rd (rd_L1 t348 x21_1) 1) p355 q355
                            have hw355_0 := hx355_0
                            obtain rfl : ad353 = ad355 := (by injection e355)
                            try (replace hx355_0 := (HB.out.cell (World.block_lt_of_cell? w _ hx355_0)).trans hx355_0)
                            replace p355 := eq_true p355
                            replace q355 := eq_true q355
                            refine start_ (n := 14) (S := fun w' => w'.cell? ad352 = some (.int .i64 (rd (rd_L1 t348 x21_1) 0)) ∧ w'.cell? (ad353.add ((rd (rd_L1 t348 x21_1) 0)).toNat) = some (.int .i64 (rd l1 (rd (rd_L1 t348 x21_1) 0))) ∧ w'.cell? ⟨ad352.block, ad352.off + 1, none⟩ = some (.int .i64 (rd (rd_L1 t348 x21_1) 1)) ∧ w'.cell? (ad353.add ((rd (rd_L1 t348 x21_1) 1)).toNat) = some (.int .i64 (rd l1 (rd (rd_L1 t348 x21_1) 1)))) (ds := []) #[false, false, false, false, false, false, false, false, false, false, false, false, false, false] (by kernel_rfl) rfl rfl ⟨hx352_0, ((HB.out.cell (World.block_lt_of_cell? w _ hw353_0)).trans hw353_0), hx354_0, ((HB.out.cell (World.block_lt_of_cell? w _ hw355_0)).trans hw355_0)⟩ (fun hHeld => ?_); refine with_tabW impl_FindOpposite.tab6 impl_FindOpposite.bits6 (fun HT_ HW_ => ?_)
                            generalize wr.drew = w20 at HO_19 HL351_0 HR351_0 HB hx352_0 hx353_0 hx354_0 hx355_0 hHeld ⊢
                            refine pure_ (i := 0) (N := some 25) (v := ?_) (a' := ?_) #[true, false, false, false, false, false, false, false, false, false, false, false, false, false] rfl rfl (any_of HT_.out (by kernel_rfl)) (fun _ _ _ h => h) (Or.inl ⟨by rfl, ?_⟩) ?_ ?_
                            rotate_left
                            · intro w'
                              go_simp
                              with_reducible rfl
                            rotate_left
                            · simp only [Act.put, List.setIfInBounds_toArray, List.set_cons_zero, List.set_cons_succ, i64_w, i32_w]
                              rfl
                            refine pure_ (i := 1) (N := some 26) (v := ?_) (a' := ?_) #[true, true, false, false, false, false, false, false, false, false, false, false, false, false] rfl rfl (any_of HT_.out (by kernel_rfl)) (fun _ _ _ h => h) (Or.inl ⟨by rfl, ?_⟩) ?_ ?_
                            rotate_left
                            · intro w'
                              go_simp
                              with_reducible rfl
                            rotate_left
                            · simp only [Act.put, List.setIfInBounds_toArray, List.set_cons_zero, List.set_cons_succ, i64_w, i32_w]
                              rfl
                            refine pure_ (i := 2) (N := some 27) (v := ?_) (a' := ?_) #[true, true, true, false, false, false, false, false, false, false, false, false, false, false] rfl rfl (any_of HT_.out (by kernel_rfl)) (fun _ _ _ h => h) (Or.inl ⟨by rfl, ?_⟩) ?_ ?_
                            rotate_left
                            · intro w'
                              go_simp
                              with_reducible rfl
                            rotate_left
                            · simp only [Act.put, List.setIfInBounds_toArray, List.set_cons_zero, List.set_cons_succ, i64_w, i32_w]
                              rfl
                            refine pure_ (i := 6) (N := some 31) (v := ?_) (a' := ?_) #[true, true, true, false, false, false, true, false, false, false, false, false, false, false] rfl rfl (any_of HT_.out (by kernel_rfl)) (fun _ _ _ h => h) (Or.inl ⟨by rfl, ?_⟩) ?_ ?_
                            rotate_left
                            · intro w'
                              go_simp
                              with_reducible rfl
                            rotate_left
                            · simp only [Act.put, List.setIfInBounds_toArray, List.set_cons_zero, List.set_cons_succ, i64_w, i32_w]
                              rfl
                            refine pure_ (i := 7) (N := some 32) (v := ?_) (a' := ?_) #[true, true, true, false, false, false, true, true, false, false, false, false, false, false] rfl rfl (any_of HT_.out (by kernel_rfl)) (fun _ _ _ h => h) (Or.inl ⟨by rfl, ?_⟩) ?_ ?_
                            rotate_left
                            · intro w'
                              go_simp
                              with_reducible rfl
                            rotate_left
                            · simp only [Act.put, List.setIfInBounds_toArray, List.set_cons_zero, List.set_cons_succ, i64_w, i32_w]
                              rfl
                            refine pure_ (i := 8) (N := some 33) (v := ?_) (a' := ?_) #[true, true, true, false, false, false, true, true, true, false, false, false, false, false] rfl rfl (any_of HT_.out (by kernel_rfl)) (fun _ _ _ h => h) (Or.inl ⟨by rfl, ?_⟩) ?_ ?_
                            rotate_left
                            · intro w'
                              go_simp
                              with_reducible rfl
                            rotate_left
                            · simp only [Act.put, List.setIfInBounds_toArray, List.set_cons_zero, List.set_cons_succ, i64_w, i32_w]
                              rfl
                            refine take_ (i := 3) (N := some 28) (v := ?_) (a' := ?_) #[true, true, true, true, false, false, true, true, true, false, false, false, false, false] rfl rfl (take_ofW HT_.out HW_.out (by kernel_rfl)) (fun _ _ _ h => h) (Or.inl ⟨by rfl, ?_⟩) hHeld ?_ ?_
                            rotate_left
                            · rintro w' ⟨s0, s1, s2, s3⟩
                              go_simp
                              with_reducible rfl
                            rotate_left
                            · simp only [Act.put, List.setIfInBounds_toArray, List.set_cons_zero, List.set_cons_succ, i64_w, i32_w]
                              rfl
                            refine pure_ (i := 4) (N := some 29) (v := ?_) (a' := ?_) #[true, true, true, true, true, false, true, true, true, false, false, false, false, false] rfl rfl (any_of HT_.out (by kernel_rfl)) (fun _ _ _ h => h) (Or.inl ⟨by rfl, ?_⟩) ?_ ?_
                            rotate_left
                            · intro w'
                              go_simp
                              with_reducible rfl
                            rotate_left
                            · simp only [Act.put, List.setIfInBounds_toArray, List.set_cons_zero, List.set_cons_succ, i64_w, i32_w]
                              rfl
                            refine take_ (i := 5) (N := some 30) (v := ?_) (a' := ?_) #[true, true, true, true, true, true, true, true, true, false, false, false, false, false] rfl rfl (take_ofW HT_.out HW_.out (by kernel_rfl)) (fun _ _ _ h => h) (Or.inl ⟨by rfl, ?_⟩) hHeld ?_ ?_
                            rotate_left
                            · rintro w' ⟨s0, s1, s2, s3⟩
                              go_simp
                              with_reducible rfl
                            rotate_left
                            · simp only [Act.put, List.setIfInBounds_toArray, List.set_cons_zero, List.set_cons_succ, i64_w, i32_w]
                              rfl
                            refine take_ (i := 9) (N := some 34) (v := ?_) (a' := ?_) #[true, true, true, true, true, true, true, true, true, true, false, false, false, false] rfl rfl (take_ofW HT_.out HW_.out (by kernel_rfl)) (fun _ _ _ h => h) (Or.inl ⟨by rfl, ?_⟩) hHeld ?_ ?_
                            rotate_left
                            · rintro w' ⟨s0, s1, s2, s3⟩
                              go_simp
                              with_reducible rfl
                            rotate_left
                            · simp only [Act.put, List.setIfInBounds_toArray, List.set_cons_zero, List.set_cons_succ, i64_w, i32_w]
                              rfl
                            refine pure_ (i := 10) (N := some 35) (v := ?_) (a' := ?_) #[true, true, true, true, true, true, true, true, true, true, true, false, false, false] rfl rfl (any_of HT_.out (by kernel_rfl)) (fun _ _ _ h => h) (Or.inl ⟨by rfl, ?_⟩) ?_ ?_
                            rotate_left
                            · intro w'
                              go_simp
                              with_reducible rfl
                            rotate_left
                            · simp only [Act.put, List.setIfInBounds_toArray, List.set_cons_zero, List.set_cons_succ, i64_w, i32_w]
                              rfl
                            refine take_ (i := 11) (N := some 36) (v := ?_) (a' := ?_) #[true, true, true, true, true, true, true, true, true, true, true, true, false, false] rfl rfl (take_ofW HT_.out HW_.out (by kernel_rfl)) (fun _ _ _ h => h) (Or.inl ⟨by rfl, ?_⟩) hHeld ?_ ?_
                            rotate_left
                            · rintro w' ⟨s0, s1, s2, s3⟩
                              go_simp
                              with_reducible rfl
                            rotate_left
                            · simp only [Act.put, List.setIfInBounds_toArray, List.set_cons_zero, List.set_cons_succ, i64_w, i32_w]
                              rfl
                            refine pure_ (i := 12) (N := some 37) (v := ?_) (a' := ?_) #[true, true, true, true, true, true, true, true, true, true, true, true, true, false] rfl rfl (any_of HT_.out (by kernel_rfl)) (fun _ _ _ h => h) (Or.inl ⟨by rfl, ?_⟩) ?_ ?_
                            rotate_left
                            · intro w'
                              go_simp
                              with_reducible rfl
                            rotate_left
                            · simp only [Act.put, List.setIfInBounds_toArray, List.set_cons_zero, List.set_cons_succ, i64_w, i32_w]
                              rfl
                            refine pure_ (i := 13) (N := some 38) (v := ?_) (a' := ?_) #[true, true, true, true, true, true, true, true, true, true, true, true, true, true] rfl rfl (any_of HT_.out (by kernel_rfl)) (fun _ _ _ h => h) (Or.inl ⟨by rfl, ?_⟩) ?_ ?_
                            rotate_left
                            · intro w'
                              go_simp
                              with_reducible rfl
                            rotate_left
                            · simp only [Act.put, List.setIfInBounds_toArray, List.set_cons_zero, List.set_cons_succ, i64_w, i32_w]
                              rfl
                            refine done_ (done_of HT_.out (by kernel_rfl)) ?_
                            try go_wp2
                            have n0_ := Aside0.mk (Kd.S_drew HO_19.out)
                            have n1_ := Aside0.mk (Kd.R_drew HL351_0.out)
                            have n2_ := Aside0.mk (Kd.C_drew HR351_0.out)
                            have n3_ := Aside0.mk (below_drew1 HB.out)
                            clear HO_19
                            clear HL351_0
                            clear HR351_0
                            clear HB
                            have HO_19 := n0_
                            have HL351_0 := n1_
                            have HR351_0 := n2_
                            have HB := n3_
                            clear n0_ n1_ n2_ n3_
                            have p356 : 0 ≤ (0 : Int) := (by omega)
                            have q356 : 0 < ((rd_L1 t348 x21_1).length : Int) := of_decide_eq_true AS
                            obtain ⟨ad356, e356, hx356_0⟩ := Kd.at_int (by repeat (first | (with_reducible exact HR351_0.out) | (with_reducible refine Kd.C_drewN ?_ _) | (with_reducible refine Kd.C_drew ?_) | (with_reducible refine Kd.C_alloc ?_ _) | exact HR351_0.out)) 0 p356 q356
                            obtain rfl : ad352 = ad356 := (by injection e356)
                            have qi356 : (0 < (rd_L1 t348 x21_1).length) = True := eq_true (by omega)
                            (try rw [show ((0 : Int)).toNat = 0 from rfl] at hx356_0)
                            (try rw [Addr.add_zero'] at hx356_0)
                            replace p356 := eq_true p356
                            replace q356 := eq_true q356
                            have p357 : 0 ≤ (1 : Int) := (by omega)
                            have q357 : 1 < ((rd_L1 t348 x21_1).length : Int) := of_decide_eq_true AS
                            obtain ⟨ad357, e357, hx357_0⟩ := Kd.at_int (by repeat (first | (with_reducible exact HR351_0.out) | (with_reducible refine Kd.C_drewN ?_ _) | (with_reducible refine Kd.C_drew ?_) | (with_reducible refine Kd.C_alloc ?_ _) | exact HR351_0.out)) 1 p357 q357
                            obtain rfl : ad352 = ad357 := (by injection e357)
                            (try simp only [show (1 : Int).toNat = 1 from rfl, Nat.reduceMul, Nat.reduceEqDiff, Go.Addr.add, ↓reduceIte] at hx357_0)
                            have qi357 : (1 < (rd_L1 t348 x21_1).length) = True := eq_true (by omega)
                            (try rw [show ((1 : Int)).toNat = 1 from rfl] at hx357_0)
                            replace p357 := eq_true p357
                            replace q357 := eq_true q357
                            refine start_ (n := 9) (S := fun w' => w'.cell? ad352 = some (.int .i64 (rd (rd_L1 t348 x21_1) 0)) ∧ w'.cell? ⟨ad352.block, ad352.off + 1, none⟩ = some (.int .i64 (rd (rd_L1 t348 x21_1) 1))) (ds := []) #[false, false, false, false, false, false, false, false, false] (by kernel_rfl) rfl rfl ⟨hx356_0, hx357_0⟩ (fun hHeld => ?_); refine with_tabW impl_FindOpposite.tab7 impl_FindOpposite.bits7 (fun HT_ HW_ => ?_)
                            generalize w20.drew = w21 at HO_19 HL351_0 HR351_0 HB hx356_0 hx357_0 hHeld ⊢
                            refine pure_ (i := 0) (N := some 39) (v := ?_) (a' := ?_) #[true, false, false, false, false, false, false, false, false] rfl rfl (any_of HT_.out (by kernel_rfl)) (fun _ _ _ h => h) (Or.inl ⟨by rfl, ?_⟩) ?_ ?_
                            rotate_left
                            · intro w'
                              go_simp
                              with_reducible rfl
                            rotate_left
                            · simp only [Act.put, List.setIfInBounds_toArray, List.set_cons_zero, List.set_cons_succ, i64_w, i32_w]
                              rfl
                            refine pure_ (i := 1) (N := some 40) (v := ?_) (a' := ?_) #[true, true, false, false, false, false, false, false, false] rfl rfl (any_of HT_.out (by kernel_rfl)) (fun _ _ _ h => h) (Or.inl ⟨by rfl, ?_⟩) ?_ ?_
                            rotate_left
                            · intro w'
                              go_simp
                              with_reducible rfl
                            rotate_left
                            · simp only [Act.put, List.setIfInBounds_toArray, List.set_cons_zero, List.set_cons_succ, i64_w, i32_w]
                              rfl
                            refine pure_ (i := 3) (N := some 42) (v := ?_) (a' := ?_) #[true, true, false, true, false, false, false, false, false] rfl rfl (any_of HT_.out (by kernel_rfl)) (fun _ _ _ h => h) (Or.inl ⟨by rfl, ?_⟩) ?_ ?_
                            rotate_left
                            · intro w'
                              go_simp
                              with_reducible rfl
                            rotate_left
                            · simp only [Act.put, List.setIfInBounds_toArray, List.set_cons_zero, List.set_cons_succ, i64_w, i32_w]
                              rfl
                            refine pure_ (i := 4) (N := some 43) (v := ?_) (a' := ?_) #[true, true, false, true, true, false, false, false, false] rfl rfl (any_of HT_.out (by kernel_rfl)) (fun _ _ _ h => h) (Or.inl ⟨by rfl, ?_⟩) ?_ ?_
                            rotate_left
                            · intro w'
                              go_simp
                              with_reducible rfl
                            rotate_left
                            · simp only [Act.put, List.setIfInBounds_toArray, List.set_cons_zero, List.set_cons_succ, i64_w, i32_w]
                              rfl
                            refine take_ (i := 2) (N := some 41) (v := ?_) (a' := ?_) #[true, true, true, true, true, false, false, false, false] rfl rfl (take_ofW HT_.out HW_.out (by kernel_rfl)) (fun _ _ _ h => h) (Or.inl ⟨by rfl, ?_⟩) hHeld ?_ ?_
                            rotate_left
                            · rintro w' ⟨s0, s1⟩
                              go_simp
                              with_reducible rfl
                            rotate_left
                            · simp only [Act.put, List.setIfInBounds_toArray, List.set_cons_zero, List.set_cons_succ, i64_w, i32_w]
                              rfl
                            refine take_ (i := 5) (N := some 44) (v := ?_) (a' := ?_) #[true, true, true, true, true, true, false, false, false] rfl rfl (take_ofW HT_.out HW_.out (by kernel_rfl)) (fun _ _ _ h => h) (Or.inl ⟨by rfl, ?_⟩) hHeld ?_ ?_
                            rotate_left
                            · rintro w' ⟨s0, s1⟩
                              go_simp
                              with_reducible rfl
                            rotate_left
                            · simp only [Act.put, List.setIfInBounds_toArray, List.set_cons_zero, List.set_cons_succ, i64_w, i32_w]
                              rfl
                            refine one_ (i := 6) (N := some 45) #[true, true, true, true, true, true, true, false, false] rfl rfl (one_of HT_.out (by kernel_rfl)) (by decide) (fun K hK => ?_)
                            refine goes_ Try.func29 (by kernel_rfl) rfl #[.int .i64 (rd (rd_L1 t348 x21_1) 0), .int .i64 (rd (rd_L1 t348 x21_1) 1)] (by rfl) rfl rfl TA ?_
                            with_reducible refine (impl_sorted.calls (rd (rd_L1 t348 x21_1) 0) (rd (rd_L1 t348 x21_1) 1) t358 _ A19.out).mono ?_
                            rintro e w22 ⟨v359, rfl, ho0, hb⟩
                            have HS0_ := (hb.cell (World.block_lt_of_cell? _ _ (hHeld.1))).trans (hHeld.1)
                            have HS1_ := (hb.cell (World.block_lt_of_cell? _ _ (hHeld.2))).trans (hHeld.2)
                            refine ⟨_, rfl, ?_⟩
                            have n0_ := Aside0.mk (Kd.S_elder' (KS HO_19) (Kd.R_base ho0) hb)
                            have n1_ := Aside0.mk (Kd.R_elder' (KR HL351_0) (Kd.R_base ho0) hb)
                            have n2_ := Aside0.mk (Kd.R_lower (Kd.R_new' ho0 (Kd.R_lt (KR HL351_0))) (below_size BB))
                            have n3_ := Aside0.mk (Kd.C_below (by repeat (first | (with_reducible exact HR351_0.out) | (with_reducible refine Kd.C_drewN ?_ _) | (with_reducible refine Kd.C_drew ?_) | (with_reducible refine Kd.C_alloc ?_ _) | exact HR351_0.out)) hb)
                            have n4_ := Aside0.mk (below_step BB hb)
                            clear HO_19
                            clear HL351_0
                            clear HR351_0
                            clear HB
                            have HO_19 := n0_
                            have HL351_0 := n1_
                            have HO360 := n2_
                            have HR351_0 := n3_
                            have HB := n4_
                            clear n0_ n1_ n2_ n3_ n4_
                            (try clear hb)
                            (try clear hb2)
                            (try clear hk)
                            (try clear hi)
                            (try clear ho0)
                            refine hK.out _ _ ⟨HS0_, HS1_⟩ (fun hHeld => ?_)
                            clear hK K
                            refine norm_ (a' := ?_) ?_ ?_
                            rotate_left
                            · show Act.put _ (some 45) _ = _
                              simp only [Act.put, List.setIfInBounds_toArray, List.set_cons_zero, List.set_cons_succ, i64_w, i32_w]
                              rfl
                            refine pure_ (i := 7) (N := some 4) (v := ?_) (a' := ?_) #[true, true, true, true, true, true, true, true, false] rfl rfl (any_of HT_.out (by kernel_rfl)) (fun _ _ _ h => h) (Or.inl ⟨by rfl, ?_⟩) ?_ ?_
                            rotate_left
                            · intro w'
                              go_simp
                              with_reducible rfl
                            rotate_left
                            · simp only [Act.put, List.setIfInBounds_toArray, List.set_cons_zero, List.set_cons_succ, i64_w, i32_w]
                              rfl
                            refine pure_ (i := 8) (N := some 5) (v := ?_) (a' := ?_) #[true, true, true, true, true, true, true, true, true] rfl rfl (any_of HT_.out (by kernel_rfl)) (fun _ _ _ h => h) (Or.inl ⟨by rfl, ?_⟩) ?_ ?_
                            rotate_left
                            · intro w'
                              go_simp
                              with_reducible rfl
                            rotate_left
                            · simp only [Act.put, List.setIfInBounds_toArray, List.set_cons_zero, List.set_cons_succ, i64_w, i32_w]
                              rfl
                            refine done_ (done_of HT_.out (by kernel_rfl)) ?_
                            try go_wp2
                            go_ret2
                            exact ⟨_, by first | rfl | (simp [errW_none, errW_some] <;> rfl) | (simp [*, errW_none, errW_some] <;> rfl), by (with_reducible repeat (first | apply Kd.R_alloc | apply Kd.R_drewN | apply Kd.R_drew)); exact Kd.R_mono HO360.out (fun _ hk => trivial), BB⟩
                          · rw [if_neg c18] at H
                            have c18b0 : ((wrap64 ((rd l1 (rd (rd_L1 t348 x21_1) 0)) + (rd l1 (rd (rd_L1 t348 x21_1) 1)))) == 0) = false := beq_eq_false_iff_ne.mpr c18
                            have c18b1 : ((wrap64 ((rd l1 (rd (rd_L1 t348 x21_1) 0)) + (rd l1 (rd (rd_L1 t348 x21_1) 1)))) != 0) = true := bne_iff_ne.mpr c18
                            have H' := Aside0.mk H
                            clear H
                            have p351 : 0 ≤ (x21_1 : Int) := of_decide_eq_true AS
                            have q351 : x21_1 < (t348.length : Int) := of_decide_eq_true AS
                            obtain ⟨ad351, A351_0, c351_0, e351, hx351_0, hl351_0, hi351_0⟩ := at_L1 (Kd.S_reads' HO_19.out).2.2 x21_1 p351 q351
                            cases e351
                            obtain ⟨ce351, hce351, hMe351, hcc351⟩ := Kd.S_get HO_19.out [] x21_1 p351 (by first | exact q351 | exact of_decide_eq_true AS | (have e_ := (Kd.S_reads' HO_19.out).1; omega))
                            obtain ⟨ve351_0, rfl, ge351_0⟩ := hMe351
                            have hv351_0 := hcc351 0 _ rfl
                            rw [Nat.add_zero, show ((Kd.slice 3 (Kd.int .i64))).sz = 1 from rfl, Nat.mul_one] at hv351_0
                            replace hv351_0 := Option.some.inj (hv351_0.symm.trans hx351_0)
                            rw [hv351_0] at ge351_0
                            have HL351_0 := Aside0.mk (show Kd.R (Kd.int .i64) 3 _ _ _ _ (rd_L1 t348 x21_1) from ge351_0)
                            clear hv351_0 ge351_0
                            clear hcc351 hce351
                            have HR351_0 := Aside0.mk hi351_0
                            have HC351_0 := Aside0.mk hl351_0
                            clear hi351_0 hl351_0
                            replace p351 := eq_true p351
                            replace q351 := eq_true q351
                            try go_wp2
                            have n0_ := Aside0.mk (Kd.S_drew HO_19.out)
                            have n1_ := Aside0.mk (Kd.R_drew HL351_0.out)
                            have n2_ := Aside0.mk (Kd.C_drew HR351_0.out)
                            have n3_ := Aside0.mk (below_drew1 HB.out)
                            clear HO_19
                            clear HL351_0
                            clear HR351_0
                            clear HB
                            have HO_19 := n0_
                            have HL351_0 := n1_
                            have HR351_0 := n2_
                            have HB := n3_
                            clear n0_ n1_ n2_ n3_
                            have p352 : 0 ≤ (0 : Int) := (by omega)
                            have q352 : 0 < ((rd_L1 t348 x21_1).length : Int) := of_decide_eq_true AS
                            obtain ⟨ad352, e352, hx352_0⟩ := Kd.at_int (by repeat (first | (with_reducible exact HR351_0.out) | (with_reducible refine Kd.C_drewN ?_ _) | (with_reducible refine Kd.C_drew ?_) | (with_reducible refine Kd.C_alloc ?_ _) | exact HR351_0.out)) 0 p352 q352
                            cases e352
                            have qi352 : (0 < (rd_L1 t348 x21_1).length) = True := eq_true (by omega)
                            (try rw [show ((0 : Int)).toNat = 0 from rfl] at hx352_0)
                            (try rw [Addr.add_zero'] at hx352_0)
                            replace p352 := eq_true p352
                            replace q352 := eq_true q352
                            have p353 : 0 ≤ ((rd (rd_L1 t348 x21_1) 0) : Int) := of_decide_eq_true AS
                            have q353 : (rd (rd_L1 t348 x21_1) 0) < (l1.length : Int) := of_decide_eq_true AS
                            obtain ⟨ad353, e353, hx353_0⟩ := Kd.at_int HR1.out (rd (rd_L1 t348 x21_1) 0) p353 q353
                            have hw353_0 := hx353_0
                            cases e353
                            try (replace hx353_0 := (HB.out.cell (World.block_lt_of_cell? w _ hx353_0)).trans hx353_0)
                            replace p353 := eq_true p353
                            replace q353 := eq_true q353
                            have p354 : 0 ≤ (1 : Int) := (by omega)
                            have q354 : 1 < ((rd_L1 t348 x21_1).length : Int) := of_decide_eq_true AS
                            obtain ⟨ad354, e354, hx354_0⟩ := Kd.at_int (by repeat (first | (with_reducible exact HR351_0.out) | (with_reducible refine Kd.C_drewN ?_ _) | (with_reducible refine Kd.C_drew ?_) | (with_reducible refine Kd.C_alloc ?_ _) | exact HR351_0.out)) 1 p354 q354
                            obtain rfl : ad352 = ad354 := (by injection e354)
                            (try simp only [show (1 : Int).toNat = 1 from rfl, Nat.reduceMul, Nat.reduceEqDiff, Go.Addr.add, ↓reduceIte] at hx354_0)
                            have qi354 : (1 < (rd_L1 t348 x21_1).length) = True := eq_true (by omega)
                            (try rw [show ((1 : Int)).toNat = 1 from rfl] at hx354_0)
                            replace p354 := eq_true p354
                            replace q354 := eq_true q354
                            have p355 : 0 ≤ ((rd (rd_L1 t348 x21_1) 1) : Int) := of_decide_eq_true AS
                            have q355 : (rd (rd_L1 t348 x21_1) 1) < (l1.length : Int) := of_decide_eq_true AS
                            obtain ⟨ad355, e355, hx355_0⟩ := Kd.at_int HR1.out (rd (rd_L1 t348 x21_1) 1) p355 q355
                            have hw355_0 := hx355_0
                            obtain rfl : ad353 = ad355 := (by injection e355)
                            try (replace hx355_0 := (HB.out.cell (World.block_lt_of_cell? w _ hx355_0)).trans hx355_0)
                            replace p355 := eq_true p355
                            replace q355 := eq_true q355
                            refine start_ (n := 14) (S := fun w' => w'.cell? ad352 = some (.int .i64 (rd (rd_L1 t348 x21_1) 0)) ∧ w'.cell? (ad353.add ((rd (rd_L1 t348 x21_1) 0)).toNat) = some (.int .i64 (rd l1 (rd (rd_L1 t348 x21_1) 0))) ∧ w'.cell? ⟨ad352.block, ad352.off + 1, none⟩ = some (.int .i64 (rd (rd_L1 t348 x21_1) 1)) ∧ w'.cell? (ad353.add ((rd (rd_L1 t348 x21_1) 1)).toNat) = some (.int .i64 (rd l1 (rd (rd_L1 t348 x21_1) 1)))) (ds := []) #[false, false, false, false, false, false, false, false, false, false, false, false, false, false] (by kernel_rfl) rfl rfl ⟨hx352_0, ((HB.out.cell (World.block_lt_of_cell? w _ hw353_0)).trans hw353_0), hx354_0, ((HB.out.cell (World.block_lt_of_cell? w _ hw355_0)).trans hw355_0)⟩ (fun hHeld => ?_); refine with_tabW impl_FindOpposite.tab6 impl_FindOpposite.bits6 (fun HT_ HW_ => ?_)
                            generalize wr.drew = w23 at HO_19 HL351_0 HR351_0 HB hx352_0 hx353_0 hx354_0 hx355_0 hHeld ⊢
                            refine pure_ (i := 0) (N := some 25) (v := ?_) (a' := ?_) #[true, false, false, false, false, false, false, false, false, false, false, false, false, false] rfl rfl (any_of HT_.out (by kernel_rfl)) (fun _ _ _ h => h) (Or.inl ⟨by rfl, ?_⟩) ?_ ?_
                            rotate_left
                            · intro w'
                              go_simp
                              with_reducible rfl
                            rotate_left
                            · simp only [Act.put, List.setIfInBounds_toArray, List.set_cons_zero, List.set_cons_succ, i64_w, i32_w]
                              rfl
                            refine pure_ (i := 1) (N := some 26) (v := ?_) (a' := ?_) #[true, true, false, false, false, false, false, false, false, false, false, false, false, false] rfl rfl (any_of HT_.out (by kernel_rfl)) (fun _ _ _ h => h) (Or.inl ⟨by rfl, ?_⟩) ?_ ?_
                            rotate_left
                            · intro w'
                              go_simp
                              with_reducible rfl
                            rotate_left
                            · simp only [Act.put, List.setIfInBounds_toArray, List.set_cons_zero, List.set_cons_succ, i64_w, i32_w]
                              rfl
                            refine pure_ (i := 2) (N := some 27) (v := ?_) (a' := ?_) #[true, true, true, false, false, false, false, false, false, false, false, false, false, false] rfl rfl (any_of HT_.out (by kernel_rfl)) (fun _ _ _ h => h) (Or.inl ⟨by rfl, ?_⟩) ?_ ?_
                            rotate_left
                            · intro w'
                              go_simp
                              with_reducible rfl
                            rotate_left
                            · simp only [Act.put, List.setIfInBounds_toArray, List.set_cons_zero, List.set_cons_succ, i64_w, i32_w]
                              rfl
                            refine pure_ (i := 6) (N := some 31) (v := ?_) (a' := ?_) #[true, true, true, false, false, false, true, false, false, false, false, false, false, false] rfl rfl (any_of HT_.out (by kernel_rfl)) (fun _ _ _ h => h) (Or.inl ⟨by rfl, ?_⟩) ?_ ?_
                            rotate_left
                            · intro w'
                              go_simp
                              with_reducible rfl
                            rotate_left
                            · simp only [Act.put, List.setIfInBounds_toArray, List.set_cons_zero, List.set_cons_succ, i64_w, i32_w]
                              rfl
                            refine pure_ (i := 7) (N := some 32) (v := ?_) (a' := ?_) #[true, true, true, false, false, false, true, true, false, false, false, false, false, false] rfl rfl (any_of HT_.out (by kernel_rfl)) (fun _ _ _ h => h) (Or.inl ⟨by rfl, ?_⟩) ?_ ?_
                            rotate_left
                            · intro w'
                              go_simp
                              with_reducible rfl
                            rotate_left
                            · simp only [Act.put, List.setIfInBounds_toArray, List.set_cons_zero, List.set_cons_succ, i64_w, i32_w]
                              rfl
                            refine pure_ (i := 8) (N := some 33) (v := ?_) (a' := ?_) #[true, true, true, false, false, false, true, true, true, false, false, false, false, false] rfl rfl (any_of HT_.out (by kernel_rfl)) (fun _ _ _ h => h) (Or.inl ⟨by rfl, ?_⟩) ?_ ?_
                            rotate_left
                            · intro w'
                              go_simp
                              with_reducible rfl
                            rotate_left
                            · simp only [Act.put, List.setIfInBounds_toArray, List.set_cons_zero, List.set_cons_succ, i64_w, i32_w]
                              rfl
                            refine take_ (i := 3) (N := some 28) (v := ?_) (a' := ?_) #[true, true, true, true, false, false, true, true, true, false, false, false, false, false] rfl rfl (take_ofW HT_.out HW_.out (by kernel_rfl)) (fun _ _ _ h => h) (Or.inl ⟨by rfl, ?_⟩) hHeld ?_ ?_
                            rotate_left
                            · rintro w' ⟨s0, s1, s2, s3⟩
                              go_simp
                              with_reducible rfl
                            rotate_left
                            · simp only [Act.put, List.setIfInBounds_toArray, List.set_cons_zero, List.set_cons_succ, i64_w, i32_w]
                              rfl
                            refine pure_ (i := 4) (N := some 29) (v := ?_) (a' := ?_) #[true, true, true, true, true, false, true, true, true, false, false, false, false, false] rfl rfl (any_of HT_.out (by kernel_rfl)) (fun _ _ _ h => h) (Or.inl ⟨by rfl, ?_⟩) ?_ ?_
                            rotate_left
                            · intro w'
                              go_simp
                              with_reducible rfl
                            rotate_left
                            · simp only [Act.put, List.setIfInBounds_toArray, List.set_cons_zero, List.set_cons_succ, i64_w, i32_w]
                              rfl
                            refine take_ (i := 5) (N := some 30) (v := ?_) (a' := ?_) #[true, true, true, true, true, true, true, true, true, false, false, false, false, false] rfl rfl (take_ofW HT_.out HW_.out (by kernel_rfl)) (fun _ _ _ h => h) (Or.inl ⟨by rfl, ?_⟩) hHeld ?_ ?_
                            rotate_left
                            · rintro w' ⟨s0, s1, s2, s3⟩
                              go_simp
                              with_reducible rfl
                            rotate_left
                            · simp only [Act.put, List.setIfInBounds_toArray, List.set_cons_zero, List.set_cons_succ, i64_w, i32_w]
                              rfl
                            refine take_ (i := 9) (N := some 34) (v := ?_) (a' := ?_) #[true, true, true, true, true, true, true, true, true, true, false, false, false, false] rfl rfl (take_ofW HT_.out HW_.out (by kernel_rfl)) (fun _ _ _ h => h) (Or.inl ⟨by rfl, ?_⟩) hHeld ?_ ?_
                            rotate_left
                            · rintro w' ⟨s0, s1, s2, s3⟩
                              go_simp
                              with_reducible rfl
                            rotate_left
                            · simp only [Act.put, List.setIfInBounds_toArray, List.set_cons_zero, List.set_cons_succ, i64_w, i32_w]
                              rfl
                            refine pure_ (i := 10) (N := some 35) (v := ?_) (a' := ?_) #[true, true, true, true, true, true, true, true, true, true, true, false, false, false] rfl rfl (any_of HT_.out (by kernel_rfl)) (fun _ _ _ h => h) (Or.inl ⟨by rfl, ?_⟩) ?_ ?_
                            rotate_left
                            · intro w'
                              go_simp
                              with_reducible rfl
                            rotate_left
                            · simp only [Act.put, List.setIfInBounds_toArray, List.set_cons_zero, List.set_cons_succ, i64_w, i32_w]
                              rfl
                            refine take_ (i := 11) (N := some 36) (v := ?_) (a' := ?_) #[true, true, true, true, true, true, true, true, true, true, true, true, false, false] rfl rfl (take_ofW HT_.out HW_.out (by kernel_rfl)) (fun _ _ _ h => h) (Or.inl ⟨by rfl, ?_⟩) hHeld ?_ ?_
                            rotate_left
                            · rintro w' ⟨s0, s1, s2, s3⟩
                              go_simp
                              with_reducible rfl
                            rotate_left
                            · simp only [Act.put, List.setIfInBounds_toArray, List.set_cons_zero, List.set_cons_succ, i64_w, i32_w]
                              rfl
                            refine pure_ (i := 12) (N := some 37) (v := ?_) (a' := ?_) #[true, true, true, true, true, true, true, true, true, true, true, true, true, false] rfl rfl (any_of HT_.out (by kernel_rfl)) (fun _ _ _ h => h) (Or.inl ⟨by rfl, ?_⟩) ?_ ?_
                            rotate_left
                            · intro w'
                              go_simp
                              with_reducible rfl
                            rotate_left
                            · simp only [Act.put, List.setIfInBounds_toArray, List.set_cons_zero, List.set_cons_succ, i64_w, i32_w]
                              rfl
                            refine pure_ (i := 13) (N := some 38) (v := ?_) (a' := ?_) #[true, true, true, true, true, true, true, true, true, true, true, true, true, true] rfl rfl (any_of HT_.out (by kernel_rfl)) (fun _ _ _ h => h) (Or.inl ⟨by rfl, ?_⟩) ?_ ?_
                            rotate_left
                            · intro w'
                              go_simp
                              with_reducible rfl
                            rotate_left
                            · simp only [Act.put, List.setIfInBounds_toArray, List.set_cons_zero, List.set_cons_succ, i64_w, i32_w]
                              rfl
                            refine done_ (done_of HT_.out (by kernel_rfl)) ?_
                            try go_wp2
                            go_roundg k1
                            case measure => have := HK1.out; omega
                            case rel => exact ⟨(wrap64 (x21_1 + 1)), RF, H', ⟨by have := HK1.out; omega⟩, ⟨KS HO_19⟩, ⟨BB⟩⟩
                        · rw [if_neg c17] at H
                          exact absurd H (by simp)
                      · rw [if_neg c16] at H
                        exact absurd H (by simp)
                    · rw [if_neg c15] at H
                      exact absurd H (by simp)
                  · rw [if_neg c14] at H
                    exact absurd H (by simp)
                · rw [if_neg c13] at H
                  exact absurd H (by simp)
              · rw [if_neg c12] at H
                exact absurd H (by simp)
            · rw [if_neg c11] at H
              exact absurd H (by simp)
          · rw [if_neg c10] at H
            exact absurd H (by simp)
        · rw [if_neg c9] at H
          have c9b0 : decide (x21_1 < (t348.length : Int)) = false := decide_eq_false c9
          clear c9
          replace H := Option.bind_eq_some_iff.mp H
          obtain ⟨t361, A240, H⟩ := H
          replace H : ((impl_squareDoors.f k1 a0 l1).bind fun t364 => (impl_FindOpposite.l1 k1 l1 t361 t364 (t364.length : Int) 0)) = some (r1, r2) := H
          have A24 := Aside0.mk A240
          clear A240
          replace H := Option.bind_eq_some_iff.mp H
          obtain ⟨t364, A250, H⟩ := H
          replace H : (impl_FindOpposite.l1 k1 l1 t361 t364 (t364.length : Int) 0) = some (r1, r2) := H
          have A25 := Aside0.mk A250
          clear A250
          have H' := Aside0.mk H
          clear H
          go_wp2_with (first | ((with_reducible refine gate_callee (f := 30) rfl ?_); refine goesL_ (some 49) rfl rfl Try.func30 (by kernel_rfl) rfl #[.agg #[.int .i64 a0]] rfl TA ?_; (with_reducible refine (impl_square_cells.calls k1 a0 t361 _ A24.out).mono ?_); rintro e w26 ⟨v362, rfl, ho0, hb⟩; refine ⟨_, rfl, ?_⟩; have n0_ := Aside0.mk (Kd.S_elder' (KS HO_19) (Kd.S_base ho0) hb); have n1_ := Aside0.mk (Kd.S_lower (Kd.S_new' ho0 (Kd.S_lt (KS HO_19))) (below_size BB)); have n2_ := Aside0.mk (below_step BB hb); clear HO_19; clear HB; have HO_19 := n0_; have HO363 := n1_; have HB := n2_; clear n0_ n1_ n2_; (try clear hb); (try clear hb2); (try clear hk); (try clear hi); (try clear ho0)) | ((with_reducible refine gate_callee (f := 26) rfl ?_); refine goesL_ (some 52) rfl rfl Try.func26 (by kernel_rfl) rfl #[.int .i64 a0, .slice A1 l1.length c1] rfl TA ?_; (with_reducible refine (impl_squareDoors.calls k1 a0 _ _ l1 t364 _ ?side1 ?side2 A25.out).mono ?_); (case side1 => repeat (first | exact (Kd.C_below HR1.out HB.out) | (with_reducible refine Kd.C_drewN ?_ _) | (with_reducible refine Kd.C_drew ?_) | (with_reducible refine Kd.C_alloc ?_ _))); (case side2 => exact HC1.out); rintro e w27 ⟨v365, rfl, ho0, hb⟩; refine ⟨_, rfl, ?_⟩; have n0_ := Aside0.mk (Kd.S_elder' (KS HO_19) (Kd.S_base ho0) hb); have n1_ := Aside0.mk (Kd.S_elder' (KS HO363) (Kd.S_base ho0) hb); have n2_ := Aside0.mk (Kd.S_lower (Kd.S_new' (Kd.S_new' ho0 (Kd.S_lt (KS HO_19))) (Kd.S_lt (KS HO363))) (below_size BB)); have n3_ := Aside0.mk (below_step BB hb); clear HO_19; clear HO363; clear HB; have HO_19 := n0_; have HO363 := n1_; have HO366 := n2_; have HB := n3_; clear n0_ n1_ n2_ n3_; (try clear hb); (try clear hb2); (try clear hk); (try clear hi); (try clear ho0); obtain ⟨Ao28, co28, eo28⟩ := Kd.S_slice HO366.out; subst eo28))
          go_loopg [54] k1 (fun kq v54 w' => ∃ (x54_2 : Int), v54 = .int .i64 x54_2 ∧ Aside0 (impl_FindOpposite.l1 kq l1 t361 t364 (t364.length : Int) x54_2 = some (r1, r2)) ∧ Aside0 (kq ≤ k1) ∧ Aside0 (Kd.S (Kd.slice 3 (Kd.int .i64)) 22 w' w.heap.size (fun k_ => some k_ ≠ ((.slice Ao28 t364.length co28) : Value).ownBlock) v362 t361) ∧ Aside0 (Kd.S (Kd.slice 3 (Kd.int .i64)) 22 w' w.heap.size (fun k_ => some k_ ≠ (v362 : Value).ownBlock) (.slice Ao28 t364.length co28) t364) ∧ Aside0 (Below w.heap.size w w'))
          case atStart => exact ⟨(0), RF, H', ⟨Nat.le_refl _⟩, ⟨by (with_reducible repeat (first | apply Kd.S_alloc | apply Kd.S_drewN | apply Kd.S_drew)); exact Kd.S_mono HO363.out (fun _ hk => hk.2)⟩, ⟨by (with_reducible repeat (first | apply Kd.S_alloc | apply Kd.S_drewN | apply Kd.S_drew)); exact Kd.S_mono HO366.out (fun _ hk => hk.2)⟩, ⟨BB⟩⟩
          case round =>
            clear H'
            try clear c1
            try clear c2
            try clear p2
            try clear c3
            try clear p3
            try clear q3
            try clear hx3
            try clear qi3
            try clear p6
            try clear c9
            try clear c9b0
            try clear c10
            try clear c10b0
            try clear c11
            try clear c11b0
            try clear c12
            try clear c12b0
            try clear c12b1
            try clear c13
            try clear c13b0
            try clear c14
            try clear c14b0
            try clear c15
            try clear c15b0
            try clear c15b1
            try clear c16
            try clear c16b0
            try clear c17
            try clear c17b0
            try clear c18
            try clear c18b0
            try clear c18b1
            try clear c26
            try clear hx351_0
            try clear hx352_0
            try clear hx353_0
            try clear hx354_0
            try clear hx355_0
            try clear hx356_0
            try clear hx357_0
            try clear p351
            try clear p352
            try clear p353
            try clear p354
            try clear p355
            try clear p356
            try clear p357
            try clear q351
            try clear q352
            try clear q353
            try clear q354
            try clear q355
            try clear q356
            try clear q357
            obtain ⟨x54_2, rfl, HA, HK2, HO_8, HO_52, HB⟩ := hrel
            cases gk with
            | zero => exact absurd HA.out (by simp [impl_FindOpposite.l1])
            | succ k2 =>
              have H := HA.out
              clear HA
              simp only [impl_FindOpposite.l1] at H
              by_cases c29 : x54_2 < (t364.length : Int)
              · rw [if_pos c29] at H
                have c29b0 : decide (x54_2 < (t364.length : Int)) = true := decide_eq_true c29
                clear c29
                by_cases c30 : 0 ≤ x54_2
                · rw [if_pos c30] at H
                  have c30b0 : decide (0 ≤ x54_2) = true := decide_eq_true c30
                  clear c30
                  by_cases c31 : x54_2 < (t364.length : Int)
                  · rw [if_pos c31] at H
                    have c31b0 : decide (x54_2 < (t364.length : Int)) = true := decide_eq_true c31
                    clear c31
                    by_cases c32 : 0 < ((rd_L1 t364 x54_2).length : Int)
                    · rw [if_pos c32] at H
                      have c32b0 : decide (0 < ((rd_L1 t364 x54_2).length : Int)) = true := decide_eq_true c32
                      have c32b1 : decide (0 < (rd_L1 t364 x54_2).length) = true := decide_eq_true (by omega)
                      clear c32
                      by_cases c33 : 1 < ((rd_L1 t364 x54_2).length : Int)
                      · rw [if_pos c33] at H
                        have c33b0 : decide (1 < ((rd_L1 t364 x54_2).length : Int)) = true := decide_eq_true c33
                        have c33b1 : decide (1 < (rd_L1 t364 x54_2).length) = true := decide_eq_true (by omega)
                        clear c33
                        replace H := Option.bind_eq_some_iff.mp H
                        obtain ⟨⟨t370, t371⟩, A340, H⟩ := H
                        replace H : (if t371 ≥ 0 then (if 0 ≤ t371 then (if t371 < (t361.length : Int) then ((impl_firstEdge.f k2 l1 (rd_L1 t361 t371)).bind fun t375 => (some (t375, true))) else (none)) else (none)) else (impl_FindOpposite.l1 k2 l1 t361 t364 (t364.length : Int) (wrap64 (x54_2 + 1)))) = some (r1, r2) := H
                        have A34 := Aside0.mk A340
                        clear A340
                        by_cases c35 : t371 ≥ 0
                        · rw [if_pos c35] at H
                          have c35b0 : decide (0 ≤ t371) = true := decide_eq_true c35
                          clear c35
                          by_cases c36 : 0 ≤ t371
                          · rw [if_pos c36] at H
                            have c36b0 : decide (0 ≤ t371) = true := decide_eq_true c36
                            clear c36
                            by_cases c37 : t371 < (t361.length : Int)
                            · rw [if_pos c37] at H
                              have c37b0 : decide (t371 < (t361.length : Int)) = true := decide_eq_true c37
                              clear c37
                              replace H := Option.bind_eq_some_iff.mp H
                              obtain ⟨t375, A380, H⟩ := H
                              replace H : (some (t375, true)) = some (r1, r2) := H
                              have A38 := Aside0.mk A380
                              clear A380
                              simp only [Option.some.injEq, Prod.mk.injEq] at H
                              obtain ⟨rfl, rfl⟩ := H
                              have p367 : 0 ≤ (x54_2 : Int) := of_decide_eq_true AS
                              have q367 : x54_2 < (t364.length : Int) := of_decide_eq_true AS
                              obtain ⟨ad367, A367_0, c367_0, e367, hx367_0, hl367_0, hi367_0⟩ := at_L1 (Kd.S_reads' HO_52.out).2.2 x54_2 p367 q367
                              cases e367
                              obtain ⟨ce367, hce367, hMe367, hcc367⟩ := Kd.S_get HO_52.out [] x54_2 p367 (by first | exact q367 | exact of_decide_eq_true AS | (have e_ := (Kd.S_reads' HO_52.out).1; omega))
                              obtain ⟨ve367_0, rfl, ge367_0⟩ := hMe367
                              have hv367_0 := hcc367 0 _ rfl
                              rw [Nat.add_zero, show ((Kd.slice 3 (Kd.int .i64))).sz = 1 from rfl, Nat.mul_one] at hv367_0
                              replace hv367_0 := Option.some.inj (hv367_0.symm.trans hx367_0)
                              rw [hv367_0] at ge367_0
                              have HL367_0 := Aside0.mk (show Kd.R (Kd.int .i64) 3 _ _ _ _ (rd_L1 t364 x54_2) from ge367_0)
                              clear hv367_0 ge367_0
                              clear hcc367 hce367
                              have HR367_0 := Aside0.mk hi367_0
                              have HC367_0 := Aside0.mk hl367_0
                              clear hi367_0 hl367_0
                              replace p367 := eq_true p367
                              replace q367 := eq_true q367
                              try go_wp2
                              have n0_ := Aside0.mk (Kd.S_drew HO_8.out)
                              have n1_ := Aside0.mk (Kd.S_drew HO_52.out)
                              have n2_ := Aside0.mk (Kd.R_drew HL367_0.out)
                              have n3_ := Aside0.mk (Kd.C_drew HR367_0.out)
                              have n4_ := Aside0.mk (below_drew1 HB.out)
                              clear HO_8
                              clear HO_52
                              clear HL367_0
                              clear HR367_0
                              clear HB
                              have HO_8 := n0_
                              have HO_52 := n1_
                              have HL367_0 := n2_
                              have HR367_0 := n3_
                              have HB := n4_
                              clear n0_ n1_ n2_ n3_ n4_
                              have p368 : 0 ≤ (0 : Int) := (by omega)
                              have q368 : 0 < ((rd_L1 t364 x54_2).length : Int) := of_decide_eq_true AS
                              obtain ⟨ad368, e368, hx368_0⟩ := Kd.at_int (by repeat (first | (with_reducible exact HR367_0.out) | (with_reducible refine Kd.C_drewN ?_ _) | (with_reducible refine Kd.C_drew ?_) | (with_reducible refine Kd.C_alloc ?_ _) | exact HR367_0.out)) 0 p368 q368
                              cases e368
                              have qi368 : (0 < (rd_L1 t364 x54_2).length) = True := eq_true (by omega)
                              (try rw [show ((0 : Int)).toNat = 0 from rfl] at hx368_0)
                              (try rw [Addr.add_zero'] at hx368_0)
                              replace p368 := eq_true p368
                              replace q368 := eq_true q368
                              have p369 : 0 ≤ (1 : Int) := (by omega)
                              have q369 : 1 < ((rd_L1 t364 x54_2).length : Int) := of_decide_eq_true AS
                              obtain ⟨ad369, e369, hx369_0⟩ := Kd.at_int (by repeat (first | (with_reducible exact HR367_0.out) | (with_reducible refine Kd.C_drewN ?_ _) | (with_reducible refine Kd.C_drew ?_) | (with_reducible refine Kd.C_alloc ?_ _) | exact HR367_0.out)) 1 p369 q369
                              obtain rfl : ad368 = ad369 := (by injection e369)
                              (try simp only [show (1 : Int).toNat = 1 from rfl, Nat.reduceMul, Nat.reduceEqDiff, Go.Addr.add, ↓reduceIte] at hx369_0)
                              have qi369 : (1 < (rd_L1 t364 x54_2).length) = True := eq_true (by omega)
                              (try rw [show ((1 : Int)).toNat = 1 from rfl] at hx369_0)
                              replace p369 := eq_true p369
                              replace q369 := eq_true q369
                              obtain ⟨Ao40, co40, eo40⟩ := Kd.S_slice HO_8.out
                              (first | subst eo40 | (injection eo40 with f1_ f2_ f3_; have f4_ := f1_.symm; have f5_ := f3_.symm; clear f1_ f2_ f3_; subst f4_; subst f5_))
                              refine start_ (n := 14) (S := fun w' => w'.cell? ad368 = some (.int .i64 (rd (rd_L1 t364 x54_2) 0)) ∧ w'.cell? ⟨ad368.block, ad368.off + 1, none⟩ = some (.int .i64 (rd (rd_L1 t364 x54_2) 1))) (ds := []) #[false, false, false, false, false, false, false, false, false, false, false, false, false, false] (by kernel_rfl) rfl rfl ⟨hx368_0, hx369_0⟩ (fun hHeld => ?_); refine with_tabW impl_FindOpposite.tab13 impl_FindOpposite.bits13 (fun HT_ HW_ => ?_)
                              generalize wr.drew = w39 at HO_8 HO_52 HL367_0 HR367_0 HB hx368_0 hx369_0 hHeld ⊢
                              refine pure_ (i := 0) (N := some 59) (v := ?_) (a' := ?_) #[true, false, false, false, false, false, false, false, false, false, false, false, false, false] rfl rfl (any_of HT_.out (by kernel_rfl)) (fun _ _ _ h => h) (Or.inl ⟨by rfl, ?_⟩) ?_ ?_
                              rotate_left
                              · intro w'
                                go_simp
                                with_reducible rfl
                              rotate_left
                              · simp only [Act.put, List.setIfInBounds_toArray, List.set_cons_zero, List.set_cons_succ, i64_w, i32_w]
                                rfl
                              refine pure_ (i := 1) (N := some 60) (v := ?_) (a' := ?_) #[true, true, false, false, false, false, false, false, false, false, false, false, false, false] rfl rfl (any_of HT_.out (by kernel_rfl)) (fun _ _ _ h => h) (Or.inl ⟨by rfl, ?_⟩) ?_ ?_
                              rotate_left
                              · intro w'
                                go_simp
                                with_reducible rfl
                              rotate_left
                              · simp only [Act.put, List.setIfInBounds_toArray, List.set_cons_zero, List.set_cons_succ, i64_w, i32_w]
                                rfl
                              refine pure_ (i := 2) (N := some 61) (v := ?_) (a' := ?_) #[true, true, true, false, false, false, false, false, false, false, false, false, false, false] rfl rfl (any_of HT_.out (by kernel_rfl)) (fun _ _ _ h => h) (Or.inl ⟨by rfl, ?_⟩) ?_ ?_
                              rotate_left
                              · intro w'
                                go_simp
                                with_reducible rfl
                              rotate_left
                              · simp only [Act.put, List.setIfInBounds_toArray, List.set_cons_zero, List.set_cons_succ, i64_w, i32_w]
                                rfl
                              refine pure_ (i := 3) (N := some 62) (v := ?_) (a' := ?_) #[true, true, true, true, false, false, false, false, false, false, false, false, false, false] rfl rfl (any_of HT_.out (by kernel_rfl)) (fun _ _ _ h => h) (Or.inl ⟨by rfl, ?_⟩) ?_ ?_
                              rotate_left
                              · intro w'
                                go_simp
                                with_reducible rfl
                              rotate_left
                              · simp only [Act.put, List.setIfInBounds_toArray, List.set_cons_zero, List.set_cons_succ, i64_w, i32_w]
                                rfl
                              refine pure_ (i := 5) (N := some 64) (v := ?_) (a' := ?_) #[true, true, true, true, false, true, false, false, false, false, false, false, false, false] rfl rfl (any_of HT_.out (by kernel_rfl)) (fun _ _ _ h => h) (Or.inl ⟨by rfl, ?_⟩) ?_ ?_
                              rotate_left
                              · intro w'
                                go_simp
                                with_reducible rfl
                              rotate_left
                              · simp only [Act.put, List.setIfInBounds_toArray, List.set_cons_zero, List.set_cons_succ, i64_w, i32_w]
                                rfl
                              refine pure_ (i := 6) (N := some 65) (v := ?_) (a' := ?_) #[true, true, true, true, false, true, true, false, false, false, false, false, false, false] rfl rfl (any_of HT_.out (by kernel_rfl)) (fun _ _ _ h => h) (Or.inl ⟨by rfl, ?_⟩) ?_ ?_
                              rotate_left
                              · intro w'
                                go_simp
                                with_reducible rfl
                              rotate_left
                              · simp only [Act.put, List.setIfInBounds_toArray, List.set_cons_zero, List.set_cons_succ, i64_w, i32_w]
                                rfl
                              refine take_ (i := 4) (N := some 63) (v := ?_) (a' := ?_) #[true, true, true, true, true, true, true, false, false, false, false, false, false, false] rfl rfl (take_ofW HT_.out HW_.out (by kernel_rfl)) (fun _ _ _ h => h) (Or.inl ⟨by rfl, ?_⟩) hHeld ?_ ?_
                              rotate_left
                              · rintro w' ⟨s0, s1⟩
                                go_simp
                                with_reducible rfl
                              rotate_left
                              · simp only [Act.put, List.setIfInBounds_toArray, List.set_cons_zero, List.set_cons_succ, i64_w, i32_w]
                                rfl
                              refine take_ (i := 7) (N := some 66) (v := ?_) (a' := ?_) #[true, true, true, true, true, true, true, true, false, false, false, false, false, false] rfl rfl (take_ofW HT_.out HW_.out (by kernel_rfl)) (fun _ _ _ h => h) (Or.inl ⟨by rfl, ?_⟩) hHeld ?_ ?_
                              rotate_left
                              · rintro w' ⟨s0, s1⟩
                                go_simp
                                with_reducible rfl
                              rotate_left
                              · simp only [Act.put, List.setIfInBounds_toArray, List.set_cons_zero, List.set_cons_succ, i64_w, i32_w]
                                rfl
                              refine one_ (i := 8) (N := some 67) #[true, true, true, true, true, true, true, true, true, false, false, false, false, false] rfl rfl (one_of HT_.out (by kernel_rfl)) (by decide) (fun K hK => ?_)
                              refine goes_ Try.func31 (by kernel_rfl) rfl #[.slice A1 l1.length c1, .slice Ao40 t361.length co40, .int .i64 (rd (rd_L1 t364 x54_2) 0), .int .i64 (rd (rd_L1 t364 x54_2) 1)] (by rfl) rfl rfl TA ?_
                              with_reducible refine (impl_squareWalk.calls k2 _ _ l1 _ _ t361 (rd (rd_L1 t364 x54_2) 0) (rd (rd_L1 t364 x54_2) 1) t370 t371 _ ?side1 ?side2 ?side3 ?side4 A34.out).mono ?_
                              (case side1 => repeat (first | exact (Kd.C_below HR1.out HB.out) | (with_reducible refine Kd.C_drewN ?_ _) | (with_reducible refine Kd.C_drew ?_) | (with_reducible refine Kd.C_alloc ?_ _)))
                              (case side2 => exact HC1.out)
                              (case side3 => repeat (first | exact (Kd.S_reads' HO_8.out).2.2 | (with_reducible refine Kd.C_drewN ?_ _) | (with_reducible refine Kd.C_drew ?_) | (with_reducible refine Kd.C_alloc ?_ _)))
                              (case side4 => exact (Kd.S_reads' HO_8.out).2.1)
                              rintro e w41 ⟨v372, rfl, ho0, hb⟩
                              have HS0_ := (hb.cell (World.block_lt_of_cell? _ _ (hHeld.1))).trans (hHeld.1)
                              have HS1_ := (hb.cell (World.block_lt_of_cell? _ _ (hHeld.2))).trans (hHeld.2)
                              refine ⟨_, rfl, ?_⟩
                              have n0_ := Aside0.mk (Kd.S_elder' (KS HO_8) (Kd.R_base ho0) hb)
                              have n1_ := Aside0.mk (Kd.S_elder' (KS HO_52) (Kd.R_base ho0) hb)
                              have n2_ := Aside0.mk (Kd.R_elder' (KR HL367_0) (Kd.R_base ho0) hb)
                              have n3_ := Aside0.mk (Kd.R_lower (Kd.R_new' ho0 (Kd.R_lt (KR HL367_0))) (below_size BB))
                              have n4_ := Aside0.mk (Kd.C_below (by repeat (first | (with_reducible exact HR367_0.out) | (with_reducible refine Kd.C_drewN ?_ _) | (with_reducible refine Kd.C_drew ?_) | (with_reducible refine Kd.C_alloc ?_ _) | exact HR367_0.out)) hb)
                              have n5_ := Aside0.mk (below_step BB hb)
                              clear HO_8
                              clear HO_52
                              clear HL367_0
                              clear HR367_0
                              clear HB
                              have HO_8 := n0_
                              have HO_52 := n1_
                              have HL367_0 := n2_
                              have HO373 := n3_
                              have HR367_0 := n4_
                              have HB := n5_
                              clear n0_ n1_ n2_ n3_ n4_ n5_
                              (try clear hb)
                              (try clear hb2)
                              (try clear hk)
                              (try clear hi)
                              (try clear ho0)
                              refine hK.out _ _ ⟨HS0_, HS1_⟩ (fun hHeld => ?_)
                              clear hK K
                              refine norm_ (a' := ?_) ?_ ?_
                              rotate_left
                              · show Act.put _ (some 67) _ = _
                                simp only [Act.put, List.setIfInBounds_toArray, List.set_cons_zero, List.set_cons_succ, i64_w, i32_w]
                                rfl
                              refine pure_ (i := 9) (N := some 58) (v := ?_) (a' := ?_) #[true, true, true, true, true, true, true, true, true, true, false, false, false, false] rfl rfl (any_of HT_.out (by kernel_rfl)) (fun _ _ _ h => h) (Or.inl ⟨by rfl, ?_⟩) ?_ ?_
                              rotate_left
                              · intro w'
                                go_simp
                                with_reducible rfl
                              rotate_left
                              · simp only [Act.put, List.setIfInBounds_toArray, List.set_cons_zero, List.set_cons_succ, i64_w, i32_w]
                                rfl
                              refine pure_ (i := 10) (N := some 68) (v := ?_) (a' := ?_) #[true, true, true, true, true, true, true, true, true, true, true, false, false, false] rfl rfl (any_of HT_.out (by kernel_rfl)) (fun _ _ _ h => h) (Or.inl ⟨by rfl, ?_⟩) ?_ ?_
                              rotate_left
                              · intro w'
                                go_simp
                                with_reducible rfl
                              rotate_left
                              · simp only [Act.put, List.setIfInBounds_toArray, List.set_cons_zero, List.set_cons_succ, i64_w, i32_w]
                                rfl
                              refine pure_ (i := 11) (N := some 69) (v := ?_) (a' := ?_) #[true, true, true, true, true, true, true, true, true, true, true, true, false, false] rfl rfl (any_of HT_.out (by kernel_rfl)) (fun _ _ _ h => h) (Or.inl ⟨by rfl, ?_⟩) ?_ ?_
                              rotate_left
                              · intro w'
                                go_simp
                                with_reducible rfl
                              rotate_left
                              · simp only [Act.put, List.setIfInBounds_toArray, List.set_cons_zero, List.set_cons_succ, i64_w, i32_w]
                                rfl
                              refine pure_ (i := 12) (N := some 11) (v := ?_) (a' := ?_) #[true, true, true, true, true, true, true, true, true, true, true, true, true, false] rfl rfl (any_of HT_.out (by kernel_rfl)) (fun _ _ _ h => h) (Or.inl ⟨by rfl, ?_⟩) ?_ ?_
                              rotate_left
                              · intro w'
                                go_simp
                                with_reducible rfl
                              rotate_left
                              · simp only [Act.put, List.setIfInBounds_toArray, List.set_cons_zero, List.set_cons_succ, i64_w, i32_w]
                                rfl
                              refine pure_ (i := 13) (N := some 12) (v := ?_) (a' := ?_) #[true, true, true, true, true, true, true, true, true, true, true, true, true, true] rfl rfl (any_of HT_.out (by kernel_rfl)) (fun _ _ _ h => h) (Or.inl ⟨by rfl, ?_⟩) ?_ ?_
                              rotate_left
                              · intro w'
                                go_simp
                                with_reducible rfl
                              rotate_left
                              · simp only [Act.put, List.setIfInBounds_toArray, List.set_cons_zero, List.set_cons_succ, i64_w, i32_w]
                                rfl
                              refine done_ (done_of HT_.out (by kernel_rfl)) ?_
                              have p374 : 0 ≤ (t371 : Int) := of_decide_eq_true AS
                              have q374 : t371 < (t361.length : Int) := of_decide_eq_true AS
                              obtain ⟨ad374, A374_0, c374_0, e374, hx374_0, hl374_0, hi374_0⟩ := at_L1 (Kd.S_reads' HO_8.out).2.2 t371 p374 q374
                              cases e374
                              obtain ⟨ce374, hce374, hMe374, hcc374⟩ := Kd.S_get HO_8.out [] t371 p374 (by first | exact q374 | exact of_decide_eq_true AS | (have e_ := (Kd.S_reads' HO_8.out).1; omega))
                              obtain ⟨ve374_0, rfl, ge374_0⟩ := hMe374
                              have hv374_0 := hcc374 0 _ rfl
                              rw [Nat.add_zero, show ((Kd.slice 3 (Kd.int .i64))).sz = 1 from rfl, Nat.mul_one] at hv374_0
                              replace hv374_0 := Option.some.inj (hv374_0.symm.trans hx374_0)
                              rw [hv374_0] at ge374_0
                              have HL374_0 := Aside0.mk (show Kd.R (Kd.int .i64) 3 _ _ _ _ (rd_L1 t361 t371) from ge374_0)
                              clear hv374_0 ge374_0
                              clear hcc374 hce374
                              have HR374_0 := Aside0.mk hi374_0
                              have HC374_0 := Aside0.mk hl374_0
                              clear hi374_0 hl374_0
                              replace p374 := eq_true p374
                              replace q374 := eq_true q374
                              try go_wp2_with (first | ((with_reducible refine gate_callee (f := 32) rfl ?_); refine goesL_ (some 77) rfl rfl Try.func32 (by kernel_rfl) rfl #[.slice A1 l1.length c1, .slice A374_0 (rd_L1 t361 t371).length c374_0] rfl TA ?_; (with_reducible refine (impl_firstEdge.calls k2 _ _ l1 _ _ (rd_L1 t361 t371) t375 _ ?side1 ?side2 ?side3 ?side4 A38.out).mono ?_); (case side1 => repeat (first | exact (Kd.C_below HR1.out HB.out) | (with_reducible refine Kd.C_drewN ?_ _) | (with_reducible refine Kd.C_drew ?_) | (with_reducible refine Kd.C_alloc ?_ _))); (case side2 => exact HC1.out); (case side3 => repeat (first | exact (by repeat (first | (with_reducible exact HR374_0.out) | (with_reducible refine Kd.C_drewN ?_ _) | (with_reducible refine Kd.C_drew ?_) | (with_reducible refine Kd.C_alloc ?_ _) | exact HR374_0.out)) | (with_reducible refine Kd.C_drewN ?_ _) | (with_reducible refine Kd.C_drew ?_) | (with_reducible refine Kd.C_alloc ?_ _))); (case side4 => exact HC374_0.out); rintro e w42 ⟨v376, rfl, ho0, hb⟩; refine ⟨_, rfl, ?_⟩; have n0_ := Aside0.mk (Kd.S_elder' (KS HO_8) (Kd.R_base ho0) hb); have n1_ := Aside0.mk (Kd.S_elder' (KS HO_52) (Kd.R_base ho0) hb); have n2_ := Aside0.mk (Kd.R_elder' (KR HL367_0) (Kd.R_base ho0) hb); have n3_ := Aside0.mk (Kd.R_elder' (KR HO373) (Kd.R_base ho0) hb); have n4_ := Aside0.mk (Kd.R_elder' (KR HL374_0) (Kd.R_base ho0) hb); have n5_ := Aside0.mk (Kd.R_lower (Kd.R_new' (Kd.R_new' (Kd.R_new' ho0 (Kd.R_lt (KR HL367_0))) (Kd.R_lt (KR HO373))) (Kd.R_lt (KR HL374_0))) (below_size BB)); have n6_ := Aside0.mk (Kd.C_below (by repeat (first | (with_reducible exact HR367_0.out) | (with_reducible refine Kd.C_drewN ?_ _) | (with_reducible refine Kd.C_drew ?_) | (with_reducible refine Kd.C_alloc ?_ _) | exact HR367_0.out)) hb); have n7_ := Aside0.mk (Kd.C_below (by repeat (first | (with_reducible exact HR374_0.out) | (with_reducible refine Kd.C_drewN ?_ _) | (with_reducible refine Kd.C_drew ?_) | (with_reducible refine Kd.C_alloc ?_ _) | exact HR374_0.out)) hb); have n8_ := Aside0.mk (below_step BB hb); clear HO_8; clear HO_52; clear HL367_0; clear HO373; clear HL374_0; clear HR367_0; clear HR374_0; clear HB; have HO_8 := n0_; have HO_52 := n1_; have HL367_0 := n2_; have HO373 := n3_; have HL374_0 := n4_; have HO377 := n5_; have HR367_0 := n6_; have HR374_0 := n7_; have HB := n8_; clear n0_ n1_ n2_ n3_ n4_ n5_ n6_ n7_ n8_; (try clear hb); (try clear hb2); (try clear hk); (try clear hi); (try clear ho0)))
                              go_ret2
                              exact ⟨_, by first | rfl | (simp [errW_none, errW_some] <;> rfl) | (simp [*, errW_none, errW_some] <;> rfl), by (with_reducible repeat (first | apply Kd.R_alloc | apply Kd.R_drewN | apply Kd.R_drew)); exact Kd.R_mono HO377.out (fun _ hk => trivial), BB⟩
                            · rw [if_neg c37] at H
                              exact absurd H (by simp)
                          · rw [if_neg c36] at H
                            exact absurd H (by simp)
                        · rw [if_neg c35] at H
                          have c35b0 : decide (0 ≤ t371) = false := decide_eq_false c35
                          clear c35
                          have H' := Aside0.mk H
                          clear H
                          have p367 : 0 ≤ (x54_2 : Int) := of_decide_eq_true AS
                          have q367 : x54_2 < (t364.length : Int) := of_decide_eq_true AS
                          obtain ⟨ad367, A367_0, c367_0, e367, hx367_0, hl367_0, hi367_0⟩ := at_L1 (Kd.S_reads' HO_52.out).2.2 x54_2 p367 q367
                          cases e367
                          obtain ⟨ce367, hce367, hMe367, hcc367⟩ := Kd.S_get HO_52.out [] x54_2 p367 (by first | exact q367 | exact of_decide_eq_true AS | (have e_ := (Kd.S_reads' HO_52.out).1; omega))
                          obtain ⟨ve367_0, rfl, ge367_0⟩ := hMe367
                          have hv367_0 := hcc367 0 _ rfl
                          rw [Nat.add_zero, show ((Kd.slice 3 (Kd.int .i64))).sz = 1 from rfl, Nat.mul_one] at hv367_0
                          replace hv367_0 := Option.some.inj (hv367_0.symm.trans hx367_0)
                          rw [hv367_0] at ge367_0
                          have HL367_0 := Aside0.mk (show Kd.R (Kd.int .i64) 3 _ _ _ _ (rd_L1 t364 x54_2) from ge367_0)
                          clear hv367_0 ge367_0
                          clear hcc367 hce367
                          have HR367_0 := Aside0.mk hi367_0
                          have HC367_0 := Aside0.mk hl367_0
                          clear hi367_0 hl367_0
                          replace p367 := eq_true p367
                          replace q367 := eq_true q367
                          try go_wp2
                          have n0_ := Aside0.mk (Kd.S_drew HO_8.out)
                          have n1_ := Aside0.mk (Kd.S_drew HO_52.out)
                          have n2_ := Aside0.mk (Kd.R_drew HL367_0.out)
                          have n3_ := Aside0.mk (Kd.C_drew HR367_0.out)
                          have n4_ := Aside0.mk (below_drew1 HB.out)
                          clear HO_8
                          clear HO_52
                          clear HL367_0
                          clear HR367_0
                          clear HB
                          have HO_8 := n0_
                          have HO_52 := n1_
                          have HL367_0 := n2_
                          have HR367_0 := n3_
                          have HB := n4_
                          clear n0_ n1_ n2_ n3_ n4_
                          have p368 : 0 ≤ (0 : Int) := (by omega)
                          have q368 : 0 < ((rd_L1 t364 x54_2).length : Int) := of_decide_eq_true AS
                          obtain ⟨ad368, e368, hx368_0⟩ := Kd.at_int (by repeat (first | (with_reducible exact HR367_0.out) | (with_reducible refine Kd.C_drewN ?_ _) | (with_reducible refine Kd.C_drew ?_) | (with_reducible refine Kd.C_alloc ?_ _) | exact HR367_0.out)) 0 p368 q368
                          cases e368
                          have qi368 : (0 < (rd_L1 t364 x54_2).length) = True := eq_true (by omega)
                          (try rw [show ((0 : Int)).toNat = 0 from rfl] at hx368_0)
                          (try rw [Addr.add_zero'] at hx368_0)
                          replace p368 := eq_true p368
                          replace q368 := eq_true q368
                          have p369 : 0 ≤ (1 : Int) := (by omega)
                          have q369 : 1 < ((rd_L1 t364 x54_2).length : Int) := of_decide_eq_true AS
                          obtain ⟨ad369, e369, hx369_0⟩ := Kd.at_int (by repeat (first | (with_reducible exact HR367_0.out) | (with_reducible refine Kd.C_drewN ?_ _) | (with_reducible refine Kd.C_drew ?_) | (with_reducible refine Kd.C_alloc ?_ _) | exact HR367_0.out)) 1 p369 q369
                          obtain rfl : ad368 = ad369 := (by injection e369)
                          (try simp only [show (1 : Int).toNat = 1 from rfl, Nat.reduceMul, Nat.reduceEqDiff, Go.Addr.add, ↓reduceIte] at hx369_0)
                          have qi369 : (1 < (rd_L1 t364 x54_2).length) = True := eq_true (by omega)
                          (try rw [show ((1 : Int)).toNat = 1 from rfl] at hx369_0)
                          replace p369 := eq_true p369
                          replace q369 := eq_true q369
                          obtain ⟨Ao44, co44, eo44⟩ := Kd.S_slice HO_8.out
                          (first | subst eo44 | (injection eo44 with f1_ f2_ f3_; have f4_ := f1_.symm; have f5_ := f3_.symm; clear f1_ f2_ f3_; subst f4_; subst f5_))
                          refine start_ (n := 14) (S := fun w' => w'.cell? ad368 = some (.int .i64 (rd (rd_L1 t364 x54_2) 0)) ∧ w'.cell? ⟨ad368.block, ad368.off + 1, none⟩ = some (.int .i64 (rd (rd_L1 t364 x54_2) 1))) (ds := []) #[false, false, false, false, false, false, false, false, false, false, false, false, false, false] (by kernel_rfl) rfl rfl ⟨hx368_0, hx369_0⟩ (fun hHeld => ?_); refine with_tabW impl_FindOpposite.tab13 impl_FindOpposite.bits13 (fun HT_ HW_ => ?_)
                          generalize wr.drew = w43 at HO_8 HO_52 HL367_0 HR367_0 HB hx368_0 hx369_0 hHeld ⊢
                          refine pure_ (i := 0) (N := some 59) (v := ?_) (a' := ?_) #[true, false, false, false, false, false, false, false, false, false, false, false, false, false] rfl rfl (any_of HT_.out (by kernel_rfl)) (fun _ _ _ h => h) (Or.inl ⟨by rfl, ?_⟩) ?_ ?_
                          rotate_left
                          · intro w'
                            go_simp
                            with_reducible rfl
                          rotate_left
                          · simp only [Act.put, List.setIfInBounds_toArray, List.set_cons_zero, List.set_cons_succ, i64_w, i32_w]
                            rfl
                          refine pure_ (i := 1) (N := some 60) (v := ?_) (a' := ?_) #[true, true, false, false, false, false, false, false, false, false, false, false, false, false] rfl rfl (any_of HT_.out (by kernel_rfl)) (fun _ _ _ h => h) (Or.inl ⟨by rfl, ?_⟩) ?_ ?_
                          rotate_left
                          · intro w'
                            go_simp
                            with_reducible rfl
                          rotate_left
                          · simp only [Act.put, List.setIfInBounds_toArray, List.set_cons_zero, List.set_cons_succ, i64_w, i32_w]
                            rfl
                          refine pure_ (i := 2) (N := some 61) (v := ?_) (a' := ?_) #[true, true, true, false, false, false, false, false, false, false, false, false, false, false] rfl rfl (any_of HT_.out (by kernel_rfl)) (fun _ _ _ h => h) (Or.inl ⟨by rfl, ?_⟩) ?_ ?_
                          rotate_left
                          · intro w'
                            go_simp
                            with_reducible rfl
                          rotate_left
                          · simp only [Act.put, List.setIfInBounds_toArray, List.set_cons_zero, List.set_cons_succ, i64_w, i32_w]
                            rfl
                          refine pure_ (i := 3) (N := some 62) (v := ?_) (a' := ?_) #[true, true, true, true, false, false, false, false, false, false, false, false, false, false] rfl rfl (any_of HT_.out (by kernel_rfl)) (fun _ _ _ h => h) (Or.inl ⟨by rfl, ?_⟩) ?_ ?_
                          rotate_left
                          · intro w'
                            go_simp
                            with_reducible rfl
                          rotate_left
                          · simp only [Act.put, List.setIfInBounds_toArray, List.set_cons_zero, List.set_cons_succ, i64_w, i32_w]
                            rfl
                          refine pure_ (i := 5) (N := some 64) (v := ?_) (a' := ?_) #[true, true, true, true, false, true, false, false, false, false, false, false, false, false] rfl rfl (any_of HT_.out (by kernel_rfl)) (fun _ _ _ h => h) (Or.inl ⟨by rfl, ?_⟩) ?_ ?_
                          rotate_left
                          · intro w'
                            go_simp
                            with_reducible rfl
                          rotate_left
                          · simp only [Act.put, List.setIfInBounds_toArray, List.set_cons_zero, List.set_cons_succ, i64_w, i32_w]
                            rfl
                          refine pure_ (i := 6) (N := some 65) (v := ?_) (a' := ?_) #[true, true, true, true, false, true, true, false, false, false, false, false, false, false] rfl rfl (any_of HT_.out (by kernel_rfl)) (fun _ _ _ h => h) (Or.inl ⟨by rfl, ?_⟩) ?_ ?_
                          rotate_left
                          · intro w'
                            go_simp
                            with_reducible rfl
                          rotate_left
                          · simp only [Act.put, List.setIfInBounds_toArray, List.set_cons_zero, List.set_cons_succ, i64_w, i32_w]
                            rfl
                          refine take_ (i := 4) (N := some 63) (v := ?_) (a' := ?_) #[true, true, true, true, true, true, true, false, false, false, false, false, false, false] rfl rfl (take_ofW HT_.out HW_.out (by kernel_rfl)) (fun _ _ _ h => h) (Or.inl ⟨by rfl, ?_⟩) hHeld ?_ ?_
                          rotate_left
                          · rintro w' ⟨s0, s1⟩
                            go_simp
                            with_reducible rfl
                          rotate_left
                          · simp only [Act.put, List.setIfInBounds_toArray, List.set_cons_zero, List.set_cons_succ, i64_w, i32_w]
                            rfl
                          refine take_ (i := 7) (N := some 66) (v := ?_) (a' := ?_) #[true, true, true, true, true, true, true, true, false, false, false, false, false, false] rfl rfl (take_ofW HT_.out HW_.out (by kernel_rfl)) (fun _ _ _ h => h) (Or.inl ⟨by rfl, ?_⟩) hHeld ?_ ?_
                          rotate_left
                          · rintro w' ⟨s0, s1⟩
                            go_simp
                            with_reducible rfl
                          rotate_left
                          · simp only [Act.put, List.setIfInBounds_toArray, List.set_cons_zero, List.set_cons_succ, i64_w, i32_w]
                            rfl
                          refine one_ (i := 8) (N := some 67) #[true, true, true, true, true, true, true, true, true, false, false, false, false, false] rfl rfl (one_of HT_.out (by kernel_rfl)) (by decide) (fun K hK => ?_)
                          refine goes_ Try.func31 (by kernel_rfl) rfl #[.slice A1 l1.length c1, .slice Ao44 t361.length co44, .int .i64 (rd (rd_L1 t364 x54_2) 0), .int .i64 (rd (rd_L1 t364 x54_2) 1)] (by rfl) rfl rfl TA ?_
                          with_reducible refine (impl_squareWalk.calls k2 _ _ l1 _ _ t361 (rd (rd_L1 t364 x54_2) 0) (rd (rd_L1 t364 x54_2) 1) t370 t371 _ ?side1 ?side2 ?side3 ?side4 A34.out).mono ?_
                          (case side1 => repeat (first | exact (Kd.C_below HR1.out HB.out) | (with_reducible refine Kd.C_drewN ?_ _) | (with_reducible refine Kd.C_drew ?_) | (with_reducible refine Kd.C_alloc ?_ _)))
                          (case side2 => exact HC1.out)
                          (case side3 => repeat (first | exact (Kd.S_reads' HO_8.out).2.2 | (with_reducible refine Kd.C_drewN ?_ _) | (with_reducible refine Kd.C_drew ?_) | (with_reducible refine Kd.C_alloc ?_ _)))
                          (case side4 => exact (Kd.S_reads' HO_8.out).2.1)
                          rintro e w45 ⟨v372, rfl, ho0, hb⟩
                          have HS0_ := (hb.cell (World.block_lt_of_cell? _ _ (hHeld.1))).trans (hHeld.1)
                          have HS1_ := (hb.cell (World.block_lt_of_cell? _ _ (hHeld.2))).trans (hHeld.2)
                          refine ⟨_, rfl, ?_⟩
                          have n0_ := Aside0.mk (Kd.S_elder' (KS HO_8) (Kd.R_base ho0) hb)
                          have n1_ := Aside0.mk (Kd.S_elder' (KS HO_52) (Kd.R_base ho0) hb)
                          have n2_ := Aside0.mk (Kd.R_elder' (KR HL367_0) (Kd.R_base ho0) hb)
                          have n3_ := Aside0.mk (Kd.R_lower (Kd.R_new' ho0 (Kd.R_lt (KR HL367_0))) (below_size BB))
                          have n4_ := Aside0.mk (Kd.C_below (by repeat (first | (with_reducible exact HR367_0.out) | (with_reducible refine Kd.C_drewN ?_ _) | (with_reducible refine Kd.C_drew ?_) | (with_reducible refine Kd.C_alloc ?_ _) | exact HR367_0.out)) hb)
                          have n5_ := Aside0.mk (below_step BB hb)
                          clear HO_8
                          clear HO_52
                          clear HL367_0
                          clear HR367_0
                          clear HB
                          have HO_8 := n0_
                          have HO_52 := n1_
                          have HL367_0 := n2_
                          have HO373 := n3_
                          have HR367_0 := n4_
                          have HB := n5_
                          clear n0_ n1_ n2_ n3_ n4_ n5_
                          (try clear hb)
                          (try clear hb2)
                          (try clear hk)
                          (try clear hi)
                          (try clear ho0)
                          refine hK.out _ _ ⟨HS0_, HS1_⟩ (fun hHeld => ?_)
                          clear hK K
                          refine norm_ (a' := ?_) ?_ ?_
                          rotate_left
                          · show Act.put _ (some 67) _ = _
                            simp only [Act.put, List.setIfInBounds_toArray, List.set_cons_zero, List.set_cons_succ, i64_w, i32_w]
                            rfl
                          refine pure_ (i := 9) (N := some 58) (v := ?_) (a' := ?_) #[true, true, true, true, true, true, true, true, true, true, false, false, false, false] rfl rfl (any_of HT_.out (by kernel_rfl)) (fun _ _ _ h => h) (Or.inl ⟨by rfl, ?_⟩) ?_ ?_
                          rotate_left
                          · intro w'
                            go_simp
                            with_reducible rfl
                          rotate_left
                          · simp only [Act.put, List.setIfInBounds_toArray, List.set_cons_zero, List.set_cons_succ, i64_w, i32_w]
                            rfl
                          refine pure_ (i := 10) (N := some 68) (v := ?_) (a' := ?_) #[true, true, true, true, true, true, true, true, true, true, true, false, false, false] rfl rfl (any_of HT_.out (by kernel_rfl)) (fun _ _ _ h => h) (Or.inl ⟨by rfl, ?_⟩) ?_ ?_
                          rotate_left
                          · intro w'
                            go_simp
                            with_reducible rfl
                          rotate_left
                          · simp only [Act.put, List.setIfInBounds_toArray, List.set_cons_zero, List.set_cons_succ, i64_w, i32_w]
                            rfl
                          refine pure_ (i := 11) (N := some 69) (v := ?_) (a' := ?_) #[true, true, true, true, true, true, true, true, true, true, true, true, false, false] rfl rfl (any_of HT_.out (by kernel_rfl)) (fun _ _ _ h => h) (Or.inl ⟨by rfl, ?_⟩) ?_ ?_
                          rotate_left
                          · intro w'
                            go_simp
                            with_reducible rfl
                          rotate_left
                          · simp only [Act.put, List.setIfInBounds_toArray, List.set_cons_zero, List.set_cons_succ, i64_w, i32_w]
                            rfl
                          refine pure_ (i := 12) (N := some 11) (v := ?_) (a' := ?_) #[true, true, true, true, true, true, true, true, true, true, true, true, true, false] rfl rfl (any_of HT_.out (by kernel_rfl)) (fun _ _ _ h => h) (Or.inl ⟨by rfl, ?_⟩) ?_ ?_
                          rotate_left
                          · intro w'
                            go_simp
                            with_reducible rfl
                          rotate_left
                          · simp only [Act.put, List.setIfInBounds_toArray, List.set_cons_zero, List.set_cons_succ, i64_w, i32_w]
                            rfl
                          refine pure_ (i := 13) (N := some 12) (v := ?_) (a' := ?_) #[true, true, true, true, true, true, true, true, true, true, true, true, true, true] rfl rfl (any_of HT_.out (by kernel_rfl)) (fun _ _ _ h => h) (Or.inl ⟨by rfl, ?_⟩) ?_ ?_
                          rotate_left
                          · intro w'
                            go_simp
                            with_reducible rfl
                          rotate_left
                          · simp only [Act.put, List.setIfInBounds_toArray, List.set_cons_zero, List.set_cons_succ, i64_w, i32_w]
                            rfl
                          refine done_ (done_of HT_.out (by kernel_rfl)) ?_
                          try go_wp2
                          go_roundg k2
                          case measure => have := HK1.out; have := HK2.out; omega
                          case rel => exact ⟨(wrap64 (x54_2 + 1)), RF, H', ⟨by have := HK1.out; have := HK2.out; omega⟩, ⟨by (with_reducible repeat (first | apply Kd.S_alloc | apply Kd.S_drewN | apply Kd.S_drew)); exact Kd.S_mono HO_8.out (fun _ hk => hk.1)⟩, ⟨by (with_reducible repeat (first | apply Kd.S_alloc | apply Kd.S_drewN | apply Kd.S_drew)); exact Kd.S_mono HO_52.out (fun _ hk => hk.1)⟩, ⟨BB⟩⟩
                      · rw [if_neg c33] at H
                        exact absurd H (by simp)
                    · rw [if_neg c32] at H
                      exact absurd H (by simp)
                  · rw [if_neg c31] at H
                    exact absurd H (by simp)
                · rw [if_neg c30] at H
                  exact absurd H (by simp)
              · rw [if_neg c29] at H
                have c29b0 : decide (x54_2 < (t364.length : Int)) = false := decide_eq_false c29
                clear c29
                simp only [Option.some.injEq, Prod.mk.injEq] at H
                obtain ⟨rfl, rfl⟩ := H
                go_wp2
                go_ret2
                exact ⟨_, by first | rfl | (simp [errW_none, errW_some] <;> rfl) | (simp [*, errW_none, errW_some] <;> rfl), by first | exact Kd.R_nil _ _ _ _ _ | exact Kd.N_nil _ _ _ _ _ | exact Kd.V_nil _ _ _ _ _ | exact Kd.Q_nil _ _ _ _ _ | exact Kd.S_nil _ _ _ _ _, BB⟩
  · replace c4 := Bool.eq_false_iff.mpr c4
    subst c4
    have H1 : (some (([] : List Int), false)) = some (r1, r2) := by rw [if_neg (show ¬ (false = true) by decide)] at H; exact H
    clear H
    have H := H1
    clear H1
    simp only [Option.some.injEq, Prod.mk.injEq] at H
    obtain ⟨rfl, rfl⟩ := H
    go_enter Try.func13, Try.ntmps13
    go_wp2_with (first | ((with_reducible refine gate_callee (f := 36) rfl ?_); refine goesL_ (some 15) rfl rfl Try.func36 (by kernel_rfl) rfl #[.int .i64 a0, .slice A1 l1.length c1] rfl TA ?_; (with_reducible refine (impl_areOpposite.calls k a0 _ _ l1 false _ ?side1 ?side2 A3.out).mono ?_); (case side1 => repeat (first | exact HR1.out | (with_reducible refine Kd.C_drewN ?_ _) | (with_reducible refine Kd.C_drew ?_) | (with_reducible refine Kd.C_alloc ?_ _))); (case side2 => exact HC1.out); rintro e w46 ⟨rfl, hb⟩; refine ⟨_, rfl, ?_⟩; have n0_ := Aside0.mk (below_step BB hb); clear HB; have HB := n0_; clear n0_; (try clear hb); (try clear hb2); (try clear hk); (try clear hi)))
    go_ret2
    exact ⟨_, by first | rfl | (simp [errW_none, errW_some] <;> rfl) | (simp [*, errW_none, errW_some] <;> rfl), by first | exact Kd.R_nil _ _ _ _ _ | exact Kd.N_nil _ _ _ _ _ | exact Kd.V_nil _ _ _ _ _ | exact Kd.Q_nil _ _ _ _ _ | exact Kd.S_nil _ _ _ _ _, BB⟩

end Go.Proofs.Ytgpplbaloajgdac.PFnExactFindOpposite
