-- Written by a program of this session (wip/tools/pp.sh) out of the translation; Lean checks it.
import Derived.Test.YthkdkgbcokpbaabPFnTrianglesAreCutx0
import Derived.Test.YthkdkgbcokpbaabPFnTrianglesAreCutx1
import Derived.Test.YthkdkgbcokpbaabPFnTrianglesAreCutx6
import Derived.Test.YthkdkgbcokpbaabPFnTrianglesAreCutx8
namespace Go.Proofs.Ythkdkgbcokpbaab.PFnTrianglesAreCut
open Go.RowKit Go.Proofs.YthkdkgbcokpbaabOwn Go.Proofs.YthkdkgbcokpbaabW.PrintWords Go.Proofs.YthkdkgbcokpbaabW.PrintLast Go.Proofs.YthkdkgbcokpbaabW.PrintMore
attribute [local go_sem] max2_int min2_int max_two min_two max_three min_three max_four min_four   -- for this text's walks alone
set_option linter.unusedVariables false
set_option maxHeartbeats 8000000
set_option maxRecDepth 100000
set_option linter.unusedSimpArgs false

/-! ### impl_isUp: function 51 -/
def impl_isUp.l0 : Nat → Int → List Int → List (S54) → Int → Int → Option (Bool)
 | 0, _, _, _, _, _ => none
 | k + 1, x0, x1, x5, x6, x10 => if x10 < 3 then (if 0 < (x1.length : Int) then (if 0 ≤ (rd x1 0) then (if (rd x1 0) < (x5.length : Int) then (if 0 = x10 then (if 1 < (x1.length : Int) then (if 0 ≤ (rd x1 1) then (if (rd x1 1) < (x5.length : Int) then (if 2 < (x1.length : Int) then (if 0 ≤ (rd x1 2) then (if (rd x1 2) < (x5.length : Int) then (impl_isUp.l0 k x0 x1 x5 (wrap64 (x6 + (mn (mn ((rd_T54 x5 (rd x1 0)).f0) ((rd_T54 x5 (rd x1 1)).f0)) ((rd_T54 x5 (rd x1 2)).f0)))) (wrap64 (x10 + 1))) else (none)) else (none)) else (none)) else (none)) else (none)) else (none)) else (if 1 = x10 then (if 1 < (x1.length : Int) then (if 0 ≤ (rd x1 1) then (if (rd x1 1) < (x5.length : Int) then (if 2 < (x1.length : Int) then (if 0 ≤ (rd x1 2) then (if (rd x1 2) < (x5.length : Int) then (impl_isUp.l0 k x0 x1 x5 (wrap64 (x6 + (mn (mn ((rd_T54 x5 (rd x1 0)).f1) ((rd_T54 x5 (rd x1 1)).f1)) ((rd_T54 x5 (rd x1 2)).f1)))) (wrap64 (x10 + 1))) else (none)) else (none)) else (none)) else (none)) else (none)) else (none)) else (if 2 = x10 then (if 1 < (x1.length : Int) then (if 0 ≤ (rd x1 1) then (if (rd x1 1) < (x5.length : Int) then (if 2 < (x1.length : Int) then (if 0 ≤ (rd x1 2) then (if (rd x1 2) < (x5.length : Int) then (impl_isUp.l0 k x0 x1 x5 (wrap64 (x6 + (mn (mn ((rd_T54 x5 (rd x1 0)).f2) ((rd_T54 x5 (rd x1 1)).f2)) ((rd_T54 x5 (rd x1 2)).f2)))) (wrap64 (x10 + 1))) else (none)) else (none)) else (none)) else (none)) else (none)) else (none)) else (none)))) else (none)) else (none)) else (none)) else (some (x6 == (wrap64 (x0 - 1))))
def impl_isUp.f (k : Nat) (a0 : Int) (l1 : List Int) : Option (Bool) := (impl_points.f k a0).bind fun t351 => (impl_isUp.l0 k a0 l1 t351 0 0)
theorem impl_isUp.mono_l : ∀ k, (∀ y0 y1 y2 y3 y4, LeO (impl_isUp.l0 k y0 y1 y2 y3 y4) (impl_isUp.l0 (k + 1) y0 y1 y2 y3 y4))
 | 0 => fun _ _ _ _ _ r h => by simp [impl_isUp.l0] at h
 | k + 1 => by
  have ih0 := impl_isUp.mono_l k
  ·intro y0 y1 y2 y3 y4
   unfold impl_isUp.l0
   repeat' first
   | with_reducible first | exact ih0 _ _ _ _ _ | exact impl_points.mono _ _ | exact LeO.refl _ | exact LeO.none _ | refine LeO.ite ?_ ?_ | refine LeO.bind ?_ (fun _ => ?_)
   | exact LeO.none _ | refine LeO.ite ?_ ?_ | refine LeO.bind ?_ (fun _ => ?_)
theorem impl_isUp.mono : ∀ a0 a1 k, LeO (impl_isUp.f k a0 a1) (impl_isUp.f (k + 1) a0 a1) := by
 intro a0 a1 k
 have ih0 := impl_isUp.mono_l k
 unfold impl_isUp.f
 repeat' first
   | with_reducible first | exact ih0 _ _ _ _ _ | exact impl_points.mono _ _ | exact LeO.refl _ | exact LeO.none _ | refine LeO.ite ?_ ?_ | refine LeO.bind ?_ (fun _ => ?_)
   | exact LeO.none _ | refine LeO.ite ?_ ?_ | refine LeO.bind ?_ (fun _ => ?_)
theorem impl_isUp.calls (k : Nat) (a0 : Int) (A1 : Option Addr) (c1 : Nat) (l1 : List Int) (r : Bool) (w : World) (hr1 : Kd.C (Kd.int .i64) w A1 l1.length l1) (hc1 : l1.length ≤ c1) (h : impl_isUp.f k a0 l1 = some r) :
  Calls Try.prog 51 #[.int .i64 a0, .slice A1 l1.length c1] w fun e w' => e = .returned (.bool r) ∧ Below w.heap.size w w' := by
 have HR1 := Aside0.mk hr1
 have HC1 := Aside0.mk hc1
 clear hr1 hc1
 have HB := Aside0.mk (Below.refl w.heap.size w)
 have H : ((impl_points.f k a0).bind fun t351 => (impl_isUp.l0 k a0 l1 t351 0 0)) = some r := h
 clear h
 replace H := EA H
 obtain ⟨t351, A3, H⟩ := H
 have H' := Aside0.mk H
 clear H
 go_enter Try.func51, Try.ntmps51
 go_wp2_with (first | (go_at_call 34; (with_reducible refine (impl_points.calls k a0 t351 _ A3.out).mono ?_); rintro e w4 ⟨v352, rfl, ho0, hb⟩; have n0_ := Aside0.mk (Kd.R_lower ho0 (below_size BB)); have n1_ := Aside0.mk (below_step BB hb); clear HB; have HO353 := n0_; have HB := n1_; clear n0_ n1_; (try clear hb); (try clear hb2); (try clear hk); (try clear hi); (try clear ho0)))
 repeat (go_quiet (first | (go_at_call 34; (with_reducible refine (impl_points.calls k a0 t351 _ A3.out).mono ?_); rintro e w4 ⟨v352, rfl, ho0, hb⟩; have n0_ := Aside0.mk (Kd.R_lower ho0 (below_size BB)); have n1_ := Aside0.mk (below_step BB hb); clear HB; have HO353 := n0_; have HB := n1_; clear n0_ n1_; (try clear hb); (try clear hb2); (try clear hk); (try clear hi); (try clear ho0))); try go_wp2_with (first | (go_at_call 34; (with_reducible refine (impl_points.calls k a0 t351 _ A3.out).mono ?_); rintro e w4 ⟨v352, rfl, ho0, hb⟩; have n0_ := Aside0.mk (Kd.R_lower ho0 (below_size BB)); have n1_ := Aside0.mk (below_step BB hb); clear HB; have HO353 := n0_; have HB := n1_; clear n0_ n1_; (try clear hb); (try clear hb2); (try clear hk); (try clear hi); (try clear ho0))))
 go_loopg [6, 10] k (fun kq v6 v10 w' => ∃ (x6_1 : Int) (x10_1 : Int), v6 = .int .i64 x6_1 ∧ v10 = .int .i64 x10_1 ∧ Aside0 (impl_isUp.l0 kq a0 l1 t351 x6_1 x10_1 = some r) ∧ Aside0 (kq ≤ k) ∧ Aside0 (Kd.R k54 54 w' w.heap.size (fun _ => True) v352 t351) ∧ Aside0 (Below w.heap.size w w'))
 case atStart => exact ⟨(0), (0), RF, RF, H', ⟨Nat.le_refl _⟩, ⟨KR HO353⟩, ⟨BB⟩⟩
 case round =>
  clear H'
  try clear c1
  try clear p2
  obtain ⟨x6_1, x10_1, rfl, rfl, HA, HK1, HO_5, HB⟩ := hrel
  cases gk with
  | zero => exact absurd HA.out (by simp [impl_isUp.l0])
  | succ k1 =>
   have H := HA.out
   clear HA
   simp only [impl_isUp.l0] at H
   by_cases c5 : x10_1 < 3
   ·rw [if_pos c5] at H
    have c5b0 : decide (x10_1 < 3) = true := decide_eq_true c5
    clear c5
    by_cases c6 : 0 < (l1.length : Int)
    ·rw [if_pos c6] at H
     have c6b0 : decide (0 < (l1.length : Int)) = true := decide_eq_true c6
     have c6b1 : decide (0 < l1.length) = true := decide_eq_true (by omega)
     clear c6
     by_cases c7 : 0 ≤ (rd l1 0)
     ·rw [if_pos c7] at H
      have c7b0 : decide (0 ≤ (rd l1 0)) = true := decide_eq_true c7
      clear c7
      by_cases c8 : (rd l1 0) < (t351.length : Int)
      ·rw [if_pos c8] at H
       have c8b0 : decide ((rd l1 0) < (t351.length : Int)) = true := decide_eq_true c8
       clear c8
       by_cases c9 : 0 = x10_1
       ·rw [if_pos c9] at H
        have c9b0 : x10_1 = 0 := c9.symm
        clear c9
        by_cases c10 : 1 < (l1.length : Int)
        ·rw [if_pos c10] at H
         have c10b0 : decide (1 < (l1.length : Int)) = true := decide_eq_true c10
         have c10b1 : decide (1 < l1.length) = true := decide_eq_true (by omega)
         clear c10
         by_cases c11 : 0 ≤ (rd l1 1)
         ·rw [if_pos c11] at H
          have c11b0 : decide (0 ≤ (rd l1 1)) = true := decide_eq_true c11
          clear c11
          by_cases c12 : (rd l1 1) < (t351.length : Int)
          ·rw [if_pos c12] at H
           have c12b0 : decide ((rd l1 1) < (t351.length : Int)) = true := decide_eq_true c12
           clear c12
           by_cases c13 : 2 < (l1.length : Int)
           ·rw [if_pos c13] at H
            have c13b0 : decide (2 < (l1.length : Int)) = true := decide_eq_true c13
            have c13b1 : decide (2 < l1.length) = true := decide_eq_true (by omega)
            clear c13
            by_cases c14 : 0 ≤ (rd l1 2)
            ·rw [if_pos c14] at H
             have c14b0 : decide (0 ≤ (rd l1 2)) = true := decide_eq_true c14
             clear c14
             by_cases c15 : (rd l1 2) < (t351.length : Int)
             ·rw [if_pos c15] at H
              have c15b0 : decide ((rd l1 2) < (t351.length : Int)) = true := decide_eq_true c15
              clear c15
              obtain ⟨ji16, hji16⟩ : ∃ j_ : Int, (mn ((rd_T54 t351 (rd l1 0)).f0) ((rd_T54 t351 (rd l1 1)).f0)) = j_ := ⟨_, rfl⟩
              replace H : (impl_isUp.l0 k1 a0 l1 t351 (wrap64 (x6_1 + (mn (ji16) ((rd_T54 t351 (rd l1 2)).f0)))) (wrap64 (x10_1 + 1))) = some r := by first | (rw [hji16] at H; exact H) | (simp only [hji16] at H ⊢; exact H)
              have hji16_ : (if ((rd_T54 t351 (rd l1 1)).f0) < ((rd_T54 t351 (rd l1 0)).f0) then ((rd_T54 t351 (rd l1 1)).f0) else ((rd_T54 t351 (rd l1 0)).f0)) = ji16 := hji16
              obtain ⟨ji17, hji17⟩ : ∃ j_ : Int, (mn (ji16) ((rd_T54 t351 (rd l1 2)).f0)) = j_ := ⟨_, rfl⟩
              replace H : (impl_isUp.l0 k1 a0 l1 t351 (wrap64 (x6_1 + (ji17))) (wrap64 (x10_1 + 1))) = some r := by first | (rw [hji17] at H; exact H) | (simp only [hji17] at H ⊢; exact H)
              have hji17_ : (if ((rd_T54 t351 (rd l1 2)).f0) < (ji16) then ((rd_T54 t351 (rd l1 2)).f0) else (ji16)) = ji17 := hji17
              have H' := Aside0.mk H
              clear H
              have p354 : 0 ≤ (0 : Int) := (by omega)
              have q354 : 0 < (l1.length : Int) := of_decide_eq_true AS
              obtain ⟨ad354, e354, hx354_0⟩ := Kd.at_int HR1.out 0 p354 q354
              cases e354
              have qi354 : (0 < l1.length) = True := eq_true (by omega)
              (try rw [show ((0 : Int)).toNat = 0 from rfl] at hx354_0)
              (try rw [Addr.add_zero'] at hx354_0)
              try (replace hx354_0 := (HB.out.cell (World.block_lt_of_cell? w _ hx354_0)).trans hx354_0)
              replace p354 := eq_true p354
              replace q354 := eq_true q354
              obtain ⟨Ao18, co18, eo18⟩ := Kd.R_slice HO_5.out
              subst eo18
              have p355 : 0 ≤ ((rd l1 0) : Int) := of_decide_eq_true AS
              have q355 : (rd l1 0) < (t351.length : Int) := of_decide_eq_true AS
              obtain ⟨ad355, e355, hx355_0, hx355_1, hx355_2⟩ := at_T54 (Kd.R_reads' HO_5.out).2.2 (rd l1 0) p355 q355
              cases e355
              replace p355 := eq_true p355
              replace q355 := eq_true q355
              have p356 : 0 ≤ (1 : Int) := (by omega)
              have q356 : 1 < (l1.length : Int) := of_decide_eq_true AS
              obtain ⟨ad356, e356, hx356_0⟩ := Kd.at_int HR1.out 1 p356 q356
              obtain rfl : ad354 = ad356 := (by injection e356)
              (try simp only [show (1 : Int).toNat = 1 from rfl, Nat.reduceMul, Nat.reduceEqDiff, Go.Addr.add, ↓reduceIte] at hx356_0)
              have qi356 : (1 < l1.length) = True := eq_true (by omega)
              (try rw [show ((1 : Int)).toNat = 1 from rfl] at hx356_0)
              try (replace hx356_0 := (HB.out.cell (World.block_lt_of_cell? w _ hx356_0)).trans hx356_0)
              replace p356 := eq_true p356
              replace q356 := eq_true q356
              have p357 : 0 ≤ ((rd l1 1) : Int) := of_decide_eq_true AS
              have q357 : (rd l1 1) < (t351.length : Int) := of_decide_eq_true AS
              obtain ⟨ad357, e357, hx357_0, hx357_1, hx357_2⟩ := at_T54 (Kd.R_reads' HO_5.out).2.2 (rd l1 1) p357 q357
              obtain rfl : ad355 = ad357 := (by injection e357)
              replace p357 := eq_true p357
              replace q357 := eq_true q357
              have p358 : 0 ≤ (2 : Int) := (by omega)
              have q358 : 2 < (l1.length : Int) := of_decide_eq_true AS
              obtain ⟨ad358, e358, hx358_0⟩ := Kd.at_int HR1.out 2 p358 q358
              obtain rfl : ad354 = ad358 := (by injection e358)
              (try simp only [show (2 : Int).toNat = 2 from rfl, Nat.reduceMul, Nat.reduceEqDiff, Go.Addr.add, ↓reduceIte] at hx358_0)
              have qi358 : (2 < l1.length) = True := eq_true (by omega)
              (try rw [show ((2 : Int)).toNat = 2 from rfl] at hx358_0)
              try (replace hx358_0 := (HB.out.cell (World.block_lt_of_cell? w _ hx358_0)).trans hx358_0)
              replace p358 := eq_true p358
              replace q358 := eq_true q358
              have p359 : 0 ≤ ((rd l1 2) : Int) := of_decide_eq_true AS
              have q359 : (rd l1 2) < (t351.length : Int) := of_decide_eq_true AS
              obtain ⟨ad359, e359, hx359_0, hx359_1, hx359_2⟩ := at_T54 (Kd.R_reads' HO_5.out).2.2 (rd l1 2) p359 q359
              obtain rfl : ad355 = ad359 := (by injection e359)
              replace p359 := eq_true p359
              replace q359 := eq_true q359
              go_wp2
              repeat (go_quiet (fail); try go_wp2)
              go_roundg k1
              case measure => have := HK1.out; omega
              case rel => exact ⟨(wrap64 (x6_1 + (ji17))), (wrap64 (x10_1 + 1)), (by first | rfl | (simp; done) | (simp only [← hji17] <;> (first | rfl | simp)) | (simp [*]; done) | (simp [*, wrap64]; done)), RF, H', ⟨by have := HK1.out; omega⟩, ⟨KR HO_5⟩, ⟨BB⟩⟩
             ·rw [if_neg c15] at H
              cases H
            ·rw [if_neg c14] at H
             cases H
           ·rw [if_neg c13] at H
            cases H
          ·rw [if_neg c12] at H
           cases H
         ·rw [if_neg c11] at H
          cases H
        ·rw [if_neg c10] at H
         cases H
       ·rw [if_neg c9] at H
        by_cases c19 : 1 = x10_1
        ·rw [if_pos c19] at H
         have c19b0 : x10_1 = 1 := c19.symm
         clear c19
         by_cases c20 : 1 < (l1.length : Int)
         ·rw [if_pos c20] at H
          have c20b0 : decide (1 < (l1.length : Int)) = true := decide_eq_true c20
          have c20b1 : decide (1 < l1.length) = true := decide_eq_true (by omega)
          clear c20
          by_cases c21 : 0 ≤ (rd l1 1)
          ·rw [if_pos c21] at H
           have c21b0 : decide (0 ≤ (rd l1 1)) = true := decide_eq_true c21
           clear c21
           by_cases c22 : (rd l1 1) < (t351.length : Int)
           ·rw [if_pos c22] at H
            have c22b0 : decide ((rd l1 1) < (t351.length : Int)) = true := decide_eq_true c22
            clear c22
            by_cases c23 : 2 < (l1.length : Int)
            ·rw [if_pos c23] at H
             have c23b0 : decide (2 < (l1.length : Int)) = true := decide_eq_true c23
             have c23b1 : decide (2 < l1.length) = true := decide_eq_true (by omega)
             clear c23
             by_cases c24 : 0 ≤ (rd l1 2)
             ·rw [if_pos c24] at H
              have c24b0 : decide (0 ≤ (rd l1 2)) = true := decide_eq_true c24
              clear c24
              by_cases c25 : (rd l1 2) < (t351.length : Int)
              ·rw [if_pos c25] at H
               have c25b0 : decide ((rd l1 2) < (t351.length : Int)) = true := decide_eq_true c25
               clear c25
               obtain ⟨ji26, hji26⟩ : ∃ j_ : Int, (mn ((rd_T54 t351 (rd l1 0)).f1) ((rd_T54 t351 (rd l1 1)).f1)) = j_ := ⟨_, rfl⟩
               replace H : (impl_isUp.l0 k1 a0 l1 t351 (wrap64 (x6_1 + (mn (ji26) ((rd_T54 t351 (rd l1 2)).f1)))) (wrap64 (x10_1 + 1))) = some r := by first | (rw [hji26] at H; exact H) | (simp only [hji26] at H ⊢; exact H)
               have hji26_ : (if ((rd_T54 t351 (rd l1 1)).f1) < ((rd_T54 t351 (rd l1 0)).f1) then ((rd_T54 t351 (rd l1 1)).f1) else ((rd_T54 t351 (rd l1 0)).f1)) = ji26 := hji26
               obtain ⟨ji27, hji27⟩ : ∃ j_ : Int, (mn (ji26) ((rd_T54 t351 (rd l1 2)).f1)) = j_ := ⟨_, rfl⟩
               replace H : (impl_isUp.l0 k1 a0 l1 t351 (wrap64 (x6_1 + (ji27))) (wrap64 (x10_1 + 1))) = some r := by first | (rw [hji27] at H; exact H) | (simp only [hji27] at H ⊢; exact H)
               have hji27_ : (if ((rd_T54 t351 (rd l1 2)).f1) < (ji26) then ((rd_T54 t351 (rd l1 2)).f1) else (ji26)) = ji27 := hji27
               have H' := Aside0.mk H
               clear H
               have p354 : 0 ≤ (0 : Int) := (by omega)
               have q354 : 0 < (l1.length : Int) := of_decide_eq_true AS
               obtain ⟨ad354, e354, hx354_0⟩ := Kd.at_int HR1.out 0 p354 q354
               cases e354
               have qi354 : (0 < l1.length) = True := eq_true (by omega)
               (try rw [show ((0 : Int)).toNat = 0 from rfl] at hx354_0)
               (try rw [Addr.add_zero'] at hx354_0)
               try (replace hx354_0 := (HB.out.cell (World.block_lt_of_cell? w _ hx354_0)).trans hx354_0)
               replace p354 := eq_true p354
               replace q354 := eq_true q354
               obtain ⟨Ao28, co28, eo28⟩ := Kd.R_slice HO_5.out
               subst eo28
               have p355 : 0 ≤ ((rd l1 0) : Int) := of_decide_eq_true AS
               have q355 : (rd l1 0) < (t351.length : Int) := of_decide_eq_true AS
               obtain ⟨ad355, e355, hx355_0, hx355_1, hx355_2⟩ := at_T54 (Kd.R_reads' HO_5.out).2.2 (rd l1 0) p355 q355
               cases e355
               replace p355 := eq_true p355
               replace q355 := eq_true q355
               have p360 : 0 ≤ (1 : Int) := (by omega)
               have q360 : 1 < (l1.length : Int) := of_decide_eq_true AS
               obtain ⟨ad360, e360, hx360_0⟩ := Kd.at_int HR1.out 1 p360 q360
               obtain rfl : ad354 = ad360 := (by injection e360)
               (try simp only [show (1 : Int).toNat = 1 from rfl, Nat.reduceMul, Nat.reduceEqDiff, Go.Addr.add, ↓reduceIte] at hx360_0)
               have qi360 : (1 < l1.length) = True := eq_true (by omega)
               (try rw [show ((1 : Int)).toNat = 1 from rfl] at hx360_0)
               try (replace hx360_0 := (HB.out.cell (World.block_lt_of_cell? w _ hx360_0)).trans hx360_0)
               replace p360 := eq_true p360
               replace q360 := eq_true q360
               have p361 : 0 ≤ ((rd l1 1) : Int) := of_decide_eq_true AS
               have q361 : (rd l1 1) < (t351.length : Int) := of_decide_eq_true AS
               obtain ⟨ad361, e361, hx361_0, hx361_1, hx361_2⟩ := at_T54 (Kd.R_reads' HO_5.out).2.2 (rd l1 1) p361 q361
               obtain rfl : ad355 = ad361 := (by injection e361)
               replace p361 := eq_true p361
               replace q361 := eq_true q361
               have p362 : 0 ≤ (2 : Int) := (by omega)
               have q362 : 2 < (l1.length : Int) := of_decide_eq_true AS
               obtain ⟨ad362, e362, hx362_0⟩ := Kd.at_int HR1.out 2 p362 q362
               obtain rfl : ad354 = ad362 := (by injection e362)
               (try simp only [show (2 : Int).toNat = 2 from rfl, Nat.reduceMul, Nat.reduceEqDiff, Go.Addr.add, ↓reduceIte] at hx362_0)
               have qi362 : (2 < l1.length) = True := eq_true (by omega)
               (try rw [show ((2 : Int)).toNat = 2 from rfl] at hx362_0)
               try (replace hx362_0 := (HB.out.cell (World.block_lt_of_cell? w _ hx362_0)).trans hx362_0)
               replace p362 := eq_true p362
               replace q362 := eq_true q362
               have p363 : 0 ≤ ((rd l1 2) : Int) := of_decide_eq_true AS
               have q363 : (rd l1 2) < (t351.length : Int) := of_decide_eq_true AS
               obtain ⟨ad363, e363, hx363_0, hx363_1, hx363_2⟩ := at_T54 (Kd.R_reads' HO_5.out).2.2 (rd l1 2) p363 q363
               obtain rfl : ad355 = ad363 := (by injection e363)
               replace p363 := eq_true p363
               replace q363 := eq_true q363
               go_wp2
               repeat (go_quiet (fail); try go_wp2)
               go_roundg k1
               case measure => have := HK1.out; omega
               case rel => exact ⟨(wrap64 (x6_1 + (ji27))), (wrap64 (x10_1 + 1)), (by first | rfl | (simp; done) | (simp only [← hji27] <;> (first | rfl | simp)) | (simp [*]; done) | (simp [*, wrap64]; done)), RF, H', ⟨by have := HK1.out; omega⟩, ⟨KR HO_5⟩, ⟨BB⟩⟩
              ·rw [if_neg c25] at H
               cases H
             ·rw [if_neg c24] at H
              cases H
            ·rw [if_neg c23] at H
             cases H
           ·rw [if_neg c22] at H
            cases H
          ·rw [if_neg c21] at H
           cases H
         ·rw [if_neg c20] at H
          cases H
        ·rw [if_neg c19] at H
         by_cases c29 : 2 = x10_1
         ·rw [if_pos c29] at H
          have c29b0 : x10_1 = 2 := c29.symm
          clear c29
          by_cases c30 : 1 < (l1.length : Int)
          ·rw [if_pos c30] at H
           have c30b0 : decide (1 < (l1.length : Int)) = true := decide_eq_true c30
           have c30b1 : decide (1 < l1.length) = true := decide_eq_true (by omega)
           clear c30
           by_cases c31 : 0 ≤ (rd l1 1)
           ·rw [if_pos c31] at H
            have c31b0 : decide (0 ≤ (rd l1 1)) = true := decide_eq_true c31
            clear c31
            by_cases c32 : (rd l1 1) < (t351.length : Int)
            ·rw [if_pos c32] at H
             have c32b0 : decide ((rd l1 1) < (t351.length : Int)) = true := decide_eq_true c32
             clear c32
             by_cases c33 : 2 < (l1.length : Int)
             ·rw [if_pos c33] at H
              have c33b0 : decide (2 < (l1.length : Int)) = true := decide_eq_true c33
              have c33b1 : decide (2 < l1.length) = true := decide_eq_true (by omega)
              clear c33
              by_cases c34 : 0 ≤ (rd l1 2)
              ·rw [if_pos c34] at H
               have c34b0 : decide (0 ≤ (rd l1 2)) = true := decide_eq_true c34
               clear c34
               by_cases c35 : (rd l1 2) < (t351.length : Int)
               ·rw [if_pos c35] at H
                have c35b0 : decide ((rd l1 2) < (t351.length : Int)) = true := decide_eq_true c35
                clear c35
                obtain ⟨ji36, hji36⟩ : ∃ j_ : Int, (mn ((rd_T54 t351 (rd l1 0)).f2) ((rd_T54 t351 (rd l1 1)).f2)) = j_ := ⟨_, rfl⟩
                replace H : (impl_isUp.l0 k1 a0 l1 t351 (wrap64 (x6_1 + (mn (ji36) ((rd_T54 t351 (rd l1 2)).f2)))) (wrap64 (x10_1 + 1))) = some r := by first | (rw [hji36] at H; exact H) | (simp only [hji36] at H ⊢; exact H)
                have hji36_ : (if ((rd_T54 t351 (rd l1 1)).f2) < ((rd_T54 t351 (rd l1 0)).f2) then ((rd_T54 t351 (rd l1 1)).f2) else ((rd_T54 t351 (rd l1 0)).f2)) = ji36 := hji36
                obtain ⟨ji37, hji37⟩ : ∃ j_ : Int, (mn (ji36) ((rd_T54 t351 (rd l1 2)).f2)) = j_ := ⟨_, rfl⟩
                replace H : (impl_isUp.l0 k1 a0 l1 t351 (wrap64 (x6_1 + (ji37))) (wrap64 (x10_1 + 1))) = some r := by first | (rw [hji37] at H; exact H) | (simp only [hji37] at H ⊢; exact H)
                have hji37_ : (if ((rd_T54 t351 (rd l1 2)).f2) < (ji36) then ((rd_T54 t351 (rd l1 2)).f2) else (ji36)) = ji37 := hji37
                have H' := Aside0.mk H
                clear H
                have p354 : 0 ≤ (0 : Int) := (by omega)
                have q354 : 0 < (l1.length : Int) := of_decide_eq_true AS
                obtain ⟨ad354, e354, hx354_0⟩ := Kd.at_int HR1.out 0 p354 q354
                cases e354
                have qi354 : (0 < l1.length) = True := eq_true (by omega)
                (try rw [show ((0 : Int)).toNat = 0 from rfl] at hx354_0)
                (try rw [Addr.add_zero'] at hx354_0)
                try (replace hx354_0 := (HB.out.cell (World.block_lt_of_cell? w _ hx354_0)).trans hx354_0)
                replace p354 := eq_true p354
                replace q354 := eq_true q354
                obtain ⟨Ao38, co38, eo38⟩ := Kd.R_slice HO_5.out
                subst eo38
                have p355 : 0 ≤ ((rd l1 0) : Int) := of_decide_eq_true AS
                have q355 : (rd l1 0) < (t351.length : Int) := of_decide_eq_true AS
                obtain ⟨ad355, e355, hx355_0, hx355_1, hx355_2⟩ := at_T54 (Kd.R_reads' HO_5.out).2.2 (rd l1 0) p355 q355
                cases e355
                replace p355 := eq_true p355
                replace q355 := eq_true q355
                have p364 : 0 ≤ (1 : Int) := (by omega)
                have q364 : 1 < (l1.length : Int) := of_decide_eq_true AS
                obtain ⟨ad364, e364, hx364_0⟩ := Kd.at_int HR1.out 1 p364 q364
                obtain rfl : ad354 = ad364 := (by injection e364)
                (try simp only [show (1 : Int).toNat = 1 from rfl, Nat.reduceMul, Nat.reduceEqDiff, Go.Addr.add, ↓reduceIte] at hx364_0)
                have qi364 : (1 < l1.length) = True := eq_true (by omega)
                (try rw [show ((1 : Int)).toNat = 1 from rfl] at hx364_0)
                try (replace hx364_0 := (HB.out.cell (World.block_lt_of_cell? w _ hx364_0)).trans hx364_0)
                replace p364 := eq_true p364
                replace q364 := eq_true q364
                have p365 : 0 ≤ ((rd l1 1) : Int) := of_decide_eq_true AS
                have q365 : (rd l1 1) < (t351.length : Int) := of_decide_eq_true AS
                obtain ⟨ad365, e365, hx365_0, hx365_1, hx365_2⟩ := at_T54 (Kd.R_reads' HO_5.out).2.2 (rd l1 1) p365 q365
                obtain rfl : ad355 = ad365 := (by injection e365)
                replace p365 := eq_true p365
                replace q365 := eq_true q365
                have p366 : 0 ≤ (2 : Int) := (by omega)
                have q366 : 2 < (l1.length : Int) := of_decide_eq_true AS
                obtain ⟨ad366, e366, hx366_0⟩ := Kd.at_int HR1.out 2 p366 q366
                obtain rfl : ad354 = ad366 := (by injection e366)
                (try simp only [show (2 : Int).toNat = 2 from rfl, Nat.reduceMul, Nat.reduceEqDiff, Go.Addr.add, ↓reduceIte] at hx366_0)
                have qi366 : (2 < l1.length) = True := eq_true (by omega)
                (try rw [show ((2 : Int)).toNat = 2 from rfl] at hx366_0)
                try (replace hx366_0 := (HB.out.cell (World.block_lt_of_cell? w _ hx366_0)).trans hx366_0)
                replace p366 := eq_true p366
                replace q366 := eq_true q366
                have p367 : 0 ≤ ((rd l1 2) : Int) := of_decide_eq_true AS
                have q367 : (rd l1 2) < (t351.length : Int) := of_decide_eq_true AS
                obtain ⟨ad367, e367, hx367_0, hx367_1, hx367_2⟩ := at_T54 (Kd.R_reads' HO_5.out).2.2 (rd l1 2) p367 q367
                obtain rfl : ad355 = ad367 := (by injection e367)
                replace p367 := eq_true p367
                replace q367 := eq_true q367
                go_wp2
                repeat (go_quiet (fail); try go_wp2)
                go_roundg k1
                case measure => have := HK1.out; omega
                case rel => exact ⟨(wrap64 (x6_1 + (ji37))), (wrap64 (x10_1 + 1)), (by first | rfl | (simp; done) | (simp only [← hji37] <;> (first | rfl | simp)) | (simp [*]; done) | (simp [*, wrap64]; done)), RF, H', ⟨by have := HK1.out; omega⟩, ⟨KR HO_5⟩, ⟨BB⟩⟩
               ·rw [if_neg c35] at H
                cases H
              ·rw [if_neg c34] at H
               cases H
             ·rw [if_neg c33] at H
              cases H
            ·rw [if_neg c32] at H
             cases H
           ·rw [if_neg c31] at H
            cases H
          ·rw [if_neg c30] at H
           cases H
         ·rw [if_neg c29] at H
          cases H
      ·rw [if_neg c8] at H
       cases H
     ·rw [if_neg c7] at H
      cases H
    ·rw [if_neg c6] at H
     cases H
   ·rw [if_neg c5] at H
    have c5b0 : decide (x10_1 < 3) = false := decide_eq_false c5
    clear c5
    obtain rfl := Option.some.inj H
    go_wp2
    repeat (go_quiet (fail); try go_wp2)
    go_ret
    exact ⟨RE, BB⟩

/-! ### impl_IsUpCell: function 24 -/
def impl_IsUpCell.f (k : Nat) (a0 : Int) (a1 : Int) : Option (Bool × Bool) := (impl_isCell.f a0 a1).bind fun t368 => (if t368 = true then ((impl_cells.f k a0).bind fun t369 => (if 0 ≤ a1 then (if a1 < (t369.length : Int) then ((impl_isUp.f k a0 (rd_L3 t369 a1)).bind fun t373 => (some (t373, true))) else (none)) else (none))) else (some (false, false)))
theorem impl_IsUpCell.mono : ∀ a0 a1 k, LeO (impl_IsUpCell.f k a0 a1) (impl_IsUpCell.f (k + 1) a0 a1) := by
 intro a0 a1 k
 unfold impl_IsUpCell.f
 repeat' first
   | with_reducible first | exact impl_cells.mono _ _ | exact impl_isUp.mono _ _ _ | exact LeO.refl _ | exact LeO.none _ | refine LeO.ite ?_ ?_ | refine LeO.bind ?_ (fun _ => ?_)
   | exact LeO.none _ | refine LeO.ite ?_ ?_ | refine LeO.bind ?_ (fun _ => ?_)
theorem impl_IsUpCell.calls (k : Nat) (a0 : Int) (a1 : Int) (r1 : Bool) (r2 : Bool) (w : World) (h : impl_IsUpCell.f k a0 a1 = some (r1, r2)) :
  Calls Try.prog 24 #[.int .i64 a0, .int .i64 a1] w fun e w' => e = .returned (.tuple #[.bool r1, .bool r2]) ∧ Below w.heap.size w w' := by
 have HB := Aside0.mk (Below.refl w.heap.size w)
 have H : ((impl_isCell.f a0 a1).bind fun t368 => (if t368 = true then ((impl_cells.f k a0).bind fun t369 => (if 0 ≤ a1 then (if a1 < (t369.length : Int) then ((impl_isUp.f k a0 (rd_L3 t369 a1)).bind fun t373 => (some (t373, true))) else (none)) else (none))) else (some (false, false)))) = some (r1, r2) := h
 clear h
 replace H := EA H
 obtain ⟨t368, A3, H⟩ := H
 by_cases c4 : t368 = true
 ·subst c4
  replace H := IP H
  replace H := EA H
  obtain ⟨t369, A5, H⟩ := H
  by_cases c6 : 0 ≤ a1
  ·rw [if_pos c6] at H
   have c6b0 : decide (0 ≤ a1) = true := decide_eq_true c6
   clear c6
   by_cases c7 : a1 < (t369.length : Int)
   ·rw [if_pos c7] at H
    have c7b0 : decide (a1 < (t369.length : Int)) = true := decide_eq_true c7
    clear c7
    replace H := EA H
    obtain ⟨t373, A8, H⟩ := H
    simp only [Option.some.injEq, Prod.mk.injEq] at H
    obtain ⟨rfl, rfl⟩ := H
    go_enter Try.func24, Try.ntmps24
    go_wp2_with (first | ((with_reducible refine gate_callee (f := 50) rfl ?_); refine goesL_ (some 8) rfl rfl Try.func50 (by kernel_rfl) rfl #[.int .i64 a0, .int .i64 a1] rfl TA ?_; (with_reducible refine (impl_isCell.calls a0 a1 true _ A3.out).mono ?_); rintro e w' ⟨rfl, ⟨nd, rfl⟩⟩; refine ⟨_, rfl, ?_⟩) | ((with_reducible refine gate_callee (f := 45) rfl ?_); refine goesL_ (some 12) rfl rfl Try.func45 (by kernel_rfl) rfl #[.int .i64 a0] rfl TA ?_; (with_reducible refine (impl_cells.calls k a0 t369 _ A5.out).mono ?_); rintro e w9 ⟨v370, rfl, ho0, hb⟩; refine ⟨_, rfl, ?_⟩; have n0_ := Aside0.mk (Kd.S_lower ho0 (below_size BB)); have n1_ := Aside0.mk (below_step BB hb); clear HB; have HO371 := n0_; have HB := n1_; clear n0_ n1_; (try clear hb); (try clear hb2); (try clear hk); (try clear hi); (try clear ho0); obtain ⟨Ao10, co10, eo10⟩ := Kd.S_slice HO371.out; subst eo10; have p372 : 0 ≤ (a1 : Int) := of_decide_eq_true AS; have q372 : a1 < (t369.length : Int) := of_decide_eq_true AS; obtain ⟨ad372, A372_0, c372_0, e372, hx372_0, hl372_0, hi372_0⟩ := at_L3 (Kd.S_reads' HO371.out).2.2 a1 p372 q372; cases e372; obtain ⟨ce372, hce372, hMe372, hcc372⟩ := Kd.S_get HO371.out [] a1 p372 (by first | exact q372 | exact of_decide_eq_true AS | (have e_ := (Kd.S_reads' HO371.out).1; omega)); obtain ⟨ve372_0, rfl, ge372_0⟩ := hMe372; have hv372_0 := hcc372 0 _ rfl; rw [Nat.add_zero, show ((Kd.slice 3 (Kd.int .i64))).sz = 1 from rfl, Nat.mul_one] at hv372_0; replace hv372_0 := Option.some.inj (hv372_0.symm.trans hx372_0); rw [hv372_0] at ge372_0; have HL372_0 := Aside0.mk (show Kd.R (Kd.int .i64) 3 _ _ _ _ (rd_L3 t369 a1) from ge372_0); clear hv372_0 ge372_0; clear hcc372 hce372; have HR372_0 := Aside0.mk hi372_0; have HC372_0 := Aside0.mk hl372_0; clear hi372_0 hl372_0; replace p372 := eq_true p372; replace q372 := eq_true q372) | ((with_reducible refine gate_callee (f := 51) rfl ?_); refine goesL_ (some 16) rfl rfl Try.func51 (by kernel_rfl) rfl #[.int .i64 a0, .slice A372_0 (rd_L3 t369 a1).length c372_0] rfl TA ?_; (with_reducible refine (impl_isUp.calls k a0 _ _ (rd_L3 t369 a1) t373 _ ?side1 ?side2 A8.out).mono ?_); (case side1 => exact CW (by repeat (first | (with_reducible exact HR372_0.out) | (with_reducible refine Kd.C_drewN ?_ _) | (with_reducible refine Kd.C_drew ?_) | (with_reducible refine Kd.C_alloc ?_ _) | exact HR372_0.out))); (case side2 => exact HC372_0.out); rintro e w11 ⟨rfl, hb⟩; refine ⟨_, rfl, ?_⟩; have n0_ := Aside0.mk (Kd.S_below (KS HO371) hb); have n1_ := Aside0.mk (Kd.R_below (KR HL372_0) hb); have n2_ := Aside0.mk (Kd.C_below (by repeat (first | (with_reducible exact HR372_0.out) | (with_reducible refine Kd.C_drewN ?_ _) | (with_reducible refine Kd.C_drew ?_) | (with_reducible refine Kd.C_alloc ?_ _) | exact HR372_0.out)) hb); have n3_ := Aside0.mk (below_step BB hb); clear HO371; clear HL372_0; clear HR372_0; clear HB; have HO371 := n0_; have HL372_0 := n1_; have HR372_0 := n2_; have HB := n3_; clear n0_ n1_ n2_ n3_; (try clear hb); (try clear hb2); (try clear hk); (try clear hi)))
    go_ret2
    exact ⟨RE, BB⟩
   ·rw [if_neg c7] at H
    cases H
  ·rw [if_neg c6] at H
   cases H
 ·replace c4 := Bool.eq_false_iff.mpr c4
  subst c4
  replace H := IN H
  simp only [Option.some.injEq, Prod.mk.injEq] at H
  obtain ⟨rfl, rfl⟩ := H
  go_enter Try.func24, Try.ntmps24
  go_wp2_with (first | ((with_reducible refine gate_callee (f := 50) rfl ?_); refine goesL_ (some 8) rfl rfl Try.func50 (by kernel_rfl) rfl #[.int .i64 a0, .int .i64 a1] rfl TA ?_; (with_reducible refine (impl_isCell.calls a0 a1 false _ A3.out).mono ?_); rintro e w' ⟨rfl, ⟨nd, rfl⟩⟩; refine ⟨_, rfl, ?_⟩))
  go_ret2
  exact ⟨RE, BB⟩

/-! ### laws_uLess: function 25 -/
def laws_uLess.l0 : Nat → List Int → List Int → Int → Int → Option (Bool)
 | 0, _, _, _, _ => none
 | k + 1, x0, x1, x7, x8 => if x8 < x7 then (if 0 ≤ x8 then (if x8 < (x0.length : Int) then (if x8 < (x1.length : Int) then (if (rd x0 x8) = (rd x1 x8) then (laws_uLess.l0 k x0 x1 x7 (wrap64 (x8 + 1))) else (some (decide ((rd x0 x8) < (rd x1 x8))))) else (none)) else (none)) else (none)) else (some false)
def laws_uLess.f (k : Nat) (l0 : List Int) (l1 : List Int) : Option (Bool) := laws_uLess.l0 k l0 l1 (l0.length : Int) 0
theorem laws_uLess.mono_l : ∀ k, (∀ y0 y1 y2 y3, LeO (laws_uLess.l0 k y0 y1 y2 y3) (laws_uLess.l0 (k + 1) y0 y1 y2 y3))
 | 0 => fun _ _ _ _ r h => by simp [laws_uLess.l0] at h
 | k + 1 => by
  have ih0 := laws_uLess.mono_l k
  ·intro y0 y1 y2 y3
   unfold laws_uLess.l0
   repeat' first
   | with_reducible first | exact ih0 _ _ _ _ | exact LeO.refl _ | exact LeO.none _ | refine LeO.ite ?_ ?_ | refine LeO.bind ?_ (fun _ => ?_)
   | exact LeO.none _ | refine LeO.ite ?_ ?_ | refine LeO.bind ?_ (fun _ => ?_)
theorem laws_uLess.mono : ∀ a0 a1 k, LeO (laws_uLess.f k a0 a1) (laws_uLess.f (k + 1) a0 a1) := by
 intro a0 a1 k
 have ih0 := laws_uLess.mono_l k
 unfold laws_uLess.f
 repeat' first
   | with_reducible first | exact ih0 _ _ _ _ | exact LeO.refl _ | exact LeO.none _ | refine LeO.ite ?_ ?_ | refine LeO.bind ?_ (fun _ => ?_)
   | exact LeO.none _ | refine LeO.ite ?_ ?_ | refine LeO.bind ?_ (fun _ => ?_)
theorem laws_uLess.calls (k : Nat) (A0 : Option Addr) (c0 : Nat) (l0 : List Int) (A1 : Option Addr) (c1 : Nat) (l1 : List Int) (r : Bool) (w : World) (hr0 : Kd.C (Kd.int .i64) w A0 l0.length l0) (hc0 : l0.length ≤ c0) (hr1 : Kd.C (Kd.int .i64) w A1 l1.length l1) (hc1 : l1.length ≤ c1) (h : laws_uLess.f k l0 l1 = some r) :
  Calls Try.prog 25 #[.slice A0 l0.length c0, .slice A1 l1.length c1] w fun e w' => e = .returned (.bool r) ∧ Drawn0 w w' := by
 have HR0 := Aside0.mk hr0
 have HC0 := Aside0.mk hc0
 clear hr0 hc0
 have HR1 := Aside0.mk hr1
 have HC1 := Aside0.mk hc1
 clear hr1 hc1
 have H : (laws_uLess.l0 k l0 l1 (l0.length : Int) 0) = some r := h
 clear h
 have H' := Aside0.mk H
 clear H
 go_enter Try.func25, Try.ntmps25
 go_wp2
 repeat (go_quiet (fail); try go_wp2)
 go_loopg [8] k (fun kq v8 w' => ∃ (x8_1 : Int), v8 = .int .i64 x8_1 ∧ Aside0 (laws_uLess.l0 kq l0 l1 (l0.length : Int) x8_1 = some r) ∧ Aside0 (kq ≤ k) ∧ Drawn0 w w')
 case atStart => exact ⟨(0), RF, H', ⟨Nat.le_refl _⟩, by repeat (first | exact Drawn0.refl _ | apply Drawn0.step)⟩
 case round =>
  clear H'
  try clear c1
  try clear c2
  try clear p2
  obtain ⟨x8_1, rfl, HA, HK1, ⟨m1, rfl⟩⟩ := hrel
  cases gk with
  | zero => exact absurd HA.out (by simp [laws_uLess.l0])
  | succ k1 =>
   have H := HA.out
   clear HA
   simp only [laws_uLess.l0] at H
   by_cases c3 : x8_1 < (l0.length : Int)
   ·rw [if_pos c3] at H
    have c3b0 : decide (x8_1 < (l0.length : Int)) = true := decide_eq_true c3
    clear c3
    by_cases c4 : 0 ≤ x8_1
    ·rw [if_pos c4] at H
     have c4b0 : decide (0 ≤ x8_1) = true := decide_eq_true c4
     clear c4
     by_cases c5 : x8_1 < (l0.length : Int)
     ·rw [if_pos c5] at H
      have c5b0 : decide (x8_1 < (l0.length : Int)) = true := decide_eq_true c5
      clear c5
      by_cases c6 : x8_1 < (l1.length : Int)
      ·rw [if_pos c6] at H
       have c6b0 : decide (x8_1 < (l1.length : Int)) = true := decide_eq_true c6
       clear c6
       by_cases c7 : (rd l0 x8_1) = (rd l1 x8_1)
       ·rw [if_pos c7] at H
        have c7b0 : ((rd l0 x8_1) == (rd l1 x8_1)) = true := beq_iff_eq.mpr c7
        have c7b1 : ((rd l0 x8_1) != (rd l1 x8_1)) = false := bne_eq_false_iff_eq.mpr c7
        clear c7
        have H' := Aside0.mk H
        clear H
        have p374 : 0 ≤ (x8_1 : Int) := of_decide_eq_true AS
        have q374 : x8_1 < (l0.length : Int) := of_decide_eq_true AS
        obtain ⟨ad374, e374, hx374_0⟩ := Kd.at_int HR0.out x8_1 p374 q374
        cases e374
        replace p374 := eq_true p374
        replace q374 := eq_true q374
        have p375 : 0 ≤ (x8_1 : Int) := of_decide_eq_true AS
        have q375 : x8_1 < (l1.length : Int) := of_decide_eq_true AS
        obtain ⟨ad375, e375, hx375_0⟩ := Kd.at_int HR1.out x8_1 p375 q375
        cases e375
        replace p375 := eq_true p375
        replace q375 := eq_true q375
        go_wp2
        repeat (go_quiet (fail); try go_wp2)
        go_roundg k1
        case measure => have := HK1.out; omega
        case rel => exact ⟨(wrap64 (x8_1 + 1)), RF, H', ⟨by have := HK1.out; omega⟩, by repeat (first | exact Drawn0.refl _ | apply Drawn0.step)⟩
       ·rw [if_neg c7] at H
        have c7b0 : ((rd l0 x8_1) == (rd l1 x8_1)) = false := beq_eq_false_iff_ne.mpr c7
        have c7b1 : ((rd l0 x8_1) != (rd l1 x8_1)) = true := bne_iff_ne.mpr c7
        obtain rfl := Option.some.inj H
        have p374 : 0 ≤ (x8_1 : Int) := of_decide_eq_true AS
        have q374 : x8_1 < (l0.length : Int) := of_decide_eq_true AS
        obtain ⟨ad374, e374, hx374_0⟩ := Kd.at_int HR0.out x8_1 p374 q374
        cases e374
        replace p374 := eq_true p374
        replace q374 := eq_true q374
        have p375 : 0 ≤ (x8_1 : Int) := of_decide_eq_true AS
        have q375 : x8_1 < (l1.length : Int) := of_decide_eq_true AS
        obtain ⟨ad375, e375, hx375_0⟩ := Kd.at_int HR1.out x8_1 p375 q375
        cases e375
        replace p375 := eq_true p375
        replace q375 := eq_true q375
        have p376 : 0 ≤ (x8_1 : Int) := of_decide_eq_true AS
        have q376 : x8_1 < (l0.length : Int) := of_decide_eq_true AS
        obtain ⟨ad376, e376, hx376_0⟩ := Kd.at_int HR0.out x8_1 p376 q376
        obtain rfl : ad374 = ad376 := (by injection e376)
        replace p376 := eq_true p376
        replace q376 := eq_true q376
        have p377 : 0 ≤ (x8_1 : Int) := of_decide_eq_true AS
        have q377 : x8_1 < (l1.length : Int) := of_decide_eq_true AS
        obtain ⟨ad377, e377, hx377_0⟩ := Kd.at_int HR1.out x8_1 p377 q377
        obtain rfl : ad375 = ad377 := (by injection e377)
        replace p377 := eq_true p377
        replace q377 := eq_true q377
        go_wp2
        repeat (go_quiet (fail); try go_wp2)
        go_ret
        exact ⟨RF, DR⟩
      ·rw [if_neg c6] at H
       cases H
     ·rw [if_neg c5] at H
      cases H
    ·rw [if_neg c4] at H
     cases H
   ·rw [if_neg c3] at H
    have c3b0 : decide (x8_1 < (l0.length : Int)) = false := decide_eq_false c3
    clear c3
    obtain rfl := Option.some.inj H
    go_wp2
    repeat (go_quiet (fail); try go_wp2)
    go_ret
    exact ⟨RF, DR⟩

/-! ### impl_CountPoints: function 26 -/
def impl_CountPoints.f (a0 : Int) : Option (Int × Bool) := (impl_isSide.f a0).bind fun t378 => (if t378 = true then ((impl_many.f a0).bind fun t379 => (some (t379, true))) else (some (0, false)))
theorem impl_CountPoints.calls (a0 : Int) (r1 : Int) (r2 : Bool) (w : World) (h : impl_CountPoints.f a0 = some (r1, r2)) :
  Calls Try.prog 26 #[.int .i64 a0] w fun e w' => e = .returned (.tuple #[.int .i64 r1, .bool r2]) ∧ Drawn0 w w' := by
 have H : ((impl_isSide.f a0).bind fun t378 => (if t378 = true then ((impl_many.f a0).bind fun t379 => (some (t379, true))) else (some (0, false)))) = some (r1, r2) := h
 clear h
 replace H := EA H
 obtain ⟨t378, A2, H⟩ := H
 by_cases c3 : t378 = true
 ·subst c3
  replace H := IP H
  replace H := EA H
  obtain ⟨t379, A4, H⟩ := H
  simp only [Option.some.injEq, Prod.mk.injEq] at H
  obtain ⟨rfl, rfl⟩ := H
  go_enter Try.func26, Try.ntmps26
  go_wp2_with (first | ((with_reducible refine gate_callee (f := 41) rfl ?_); refine goesL_ (some 5) rfl rfl Try.func41 (by kernel_rfl) rfl #[.int .i64 a0] rfl TA ?_; (with_reducible refine (impl_isSide.calls a0 true _ A2.out).mono ?_); rintro e w' ⟨rfl, ⟨nd, rfl⟩⟩; refine ⟨_, rfl, ?_⟩) | ((with_reducible refine gate_callee (f := 52) rfl ?_); refine goesL_ (some 8) rfl rfl Try.func52 (by kernel_rfl) rfl #[.int .i64 a0] rfl TA ?_; (with_reducible refine (impl_many.calls a0 t379 _ A4.out).mono ?_); rintro e w' ⟨rfl, ⟨nd, rfl⟩⟩; refine ⟨_, rfl, ?_⟩))
  go_ret2
  exact ⟨RF, DR⟩
 ·replace c3 := Bool.eq_false_iff.mpr c3
  subst c3
  replace H := IN H
  simp only [Option.some.injEq, Prod.mk.injEq] at H
  obtain ⟨rfl, rfl⟩ := H
  go_enter Try.func26, Try.ntmps26
  go_wp2_with (first | ((with_reducible refine gate_callee (f := 41) rfl ?_); refine goesL_ (some 5) rfl rfl Try.func41 (by kernel_rfl) rfl #[.int .i64 a0] rfl TA ?_; (with_reducible refine (impl_isSide.calls a0 false _ A2.out).mono ?_); rintro e w' ⟨rfl, ⟨nd, rfl⟩⟩; refine ⟨_, rfl, ?_⟩))
  go_ret2
  exact ⟨RF, DR⟩

/-! ### spec_DrawCellsWith: function 27 -/
def spec_DrawCellsWith.f (l0 : List Int) : Option (Int × Int × Int) := (spec_l1Cur_side.f l0 0 0 5).bind fun bt381 => ((spec_l1Cur_pick.f l0 bt381.2.1 bt381.2.2 22).bind fun bt384 => ((spec_l1Cur_among.f l0 bt384.2.1 bt384.2.2 (([1, 1, 2, 3, 4, 5, (-1), 0] : List Int))).bind fun bt390 => (some (bt381.1, wrap64 (bt384.1 - 1), wrap64 ((wrap64 (bt384.1 - 1)) + bt390.1)))))
theorem spec_DrawCellsWith.calls (A0 : Option Addr) (c0 : Nat) (l0 : List Int) (r1 : Int) (r2 : Int) (r3 : Int) (w : World) (hr0 : Kd.C (Kd.int .u8) w A0 l0.length l0) (hc0 : l0.length ≤ c0) (h : spec_DrawCellsWith.f l0 = some (r1, r2, r3)) :
  Calls Try.prog 27 #[.slice A0 l0.length c0] w fun e w' => e = .returned (.tuple #[.int .i64 r1, .int .i64 r2, .int .i64 r3]) ∧ Below w.heap.size w w' := by
 have hu51 := Try.underlying51
 have HR0 := Aside0.mk hr0
 have HC0 := Aside0.mk hc0
 clear hr0 hc0
 have HB := Aside0.mk (Below.refl w.heap.size w)
 have H : ((spec_l1Cur_side.f l0 0 0 5).bind fun bt381 => ((spec_l1Cur_pick.f l0 bt381.2.1 bt381.2.2 22).bind fun bt384 => ((spec_l1Cur_among.f l0 bt384.2.1 bt384.2.2 (([1, 1, 2, 3, 4, 5, (-1), 0] : List Int))).bind fun bt390 => (some (bt381.1, wrap64 (bt384.1 - 1), wrap64 ((wrap64 (bt384.1 - 1)) + bt390.1)))))) = some (r1, r2, r3) := h
 clear h
 replace H := EA H
 obtain ⟨⟨t381, t382, t383⟩, A2, H⟩ := H
 try dsimp only at H
 replace H := EA H
 obtain ⟨⟨t384, t385, t386⟩, A3, H⟩ := H
 try dsimp only at H
 obtain ⟨y387, hy387⟩ : ∃ y_ : List Int, y_ = (([1, 1, 2, 3, 4, 5, (-1), 0] : List Int)) := ⟨_, rfl⟩
 replace H : ((spec_l1Cur_among.f l0 t385 t386 y387).bind fun bt390 => (some (t381, wrap64 (t384 - 1), wrap64 ((wrap64 (t384 - 1)) + bt390.1)))) = some (r1, r2, r3) := HY H hy387
 have Ny387 := Aside0.mk hy387
 clear hy387
 replace H := EA H
 obtain ⟨⟨t390, t391, t392⟩, A4, H⟩ := H
 try dsimp only at H
 simp only [Option.some.injEq, Prod.mk.injEq] at H
 obtain ⟨rfl, rfl, rfl⟩ := H
 go_enter Try.func27, Try.ntmps27
 go_wp2_with (first | ((with_reducible refine gate_dst (N := 11) rfl ?_); refine box_event ?hg (N := 11) ?hd (cs := #[.slice A0 l0.length c0, .int .i64 0, .int .u64 0]) (t := 51) ?hr ?_; (case hd => rfl); (case hg => rfl); (case hr => exact GS); intro gb380 hg w5 hbox hb; have n0_ := Aside0.mk (below_step BB hb); have n1_ := Aside0.mk ((by rw [hg]; exact (below_size BB) : w.heap.size ≤ gb380)); have n2_ := Aside0.mk ((by rw [hg]; exact (below_size BB) : w.heap.size ≤ gb380)); have n3_ := Aside0.mk ((show IsS51 w w5 gb380 l0 0 0 from ⟨A0, c0, hbox, (by rw [hg]; exact (below_size BB) : w.heap.size ≤ gb380), HR0.out⟩)); clear HB; have HB := n0_; have GW380 := n1_; have GE380 := n2_; have HI380 := n3_; clear n0_ n1_ n2_ n3_; clear hb hbox hg) | ((with_reducible refine gate_callee (f := 31) rfl ?_); refine goesL_ (some 13) rfl rfl Try.func31 (by kernel_rfl) rfl #[.pointer (some ⟨gb380, 0, none⟩), .int .i64 5] rfl TA ?_; (with_reducible refine (spec_l1Cur_side.calls gb380 l0 0 0 5 t381 t382 t383 w _ ?side1 ?side2 A2.out).mono ?_); (case side1 => repeat (first | (with_reducible first | exact HI380.out | apply IsS51.alloc | apply IsS51.drewN | apply IsS51.drew | apply IsS51.set_1 | apply IsS51.set_2) | exact HI380.out)); (case side2 => repeat (first | (with_reducible first | exact HB.out | apply below_alloc | apply pw_below_drewN | apply below_drew1 | refine below_set ?_ (IsS51.ge HI380.out)) | exact HB.out)); rintro e w6 ⟨rfl, hi, hb, hk⟩; refine ⟨_, rfl, ?_⟩; have n0_ := Aside0.mk (hb); have n1_ := Aside0.mk (hi); clear HB; clear HI380; have HB := n0_; have HI380 := n1_; clear n0_ n1_; (try clear hb); (try clear hb2); (try clear hk); (try clear hi)) | ((with_reducible refine gate_callee (f := 32) rfl ?_); refine goesL_ (some 15) rfl rfl Try.func32 (by kernel_rfl) rfl #[.pointer (some ⟨gb380, 0, none⟩), .int .i64 22] rfl TA ?_; (with_reducible refine (spec_l1Cur_pick.calls gb380 l0 t382 t383 22 t384 t385 t386 w _ ?side1 ?side2 A3.out).mono ?_); (case side1 => repeat (first | (with_reducible first | exact HI380.out | apply IsS51.alloc | apply IsS51.drewN | apply IsS51.drew | apply IsS51.set_1 | apply IsS51.set_2) | exact HI380.out)); (case side2 => repeat (first | (with_reducible first | exact HB.out | apply below_alloc | apply pw_below_drewN | apply below_drew1 | refine below_set ?_ (IsS51.ge HI380.out)) | exact HB.out)); rintro e w7 ⟨rfl, hi, hb, hk⟩; refine ⟨_, rfl, ?_⟩; have n0_ := Aside0.mk (hb); have n1_ := Aside0.mk (hi); clear HB; clear HI380; have HB := n0_; have HI380 := n1_; clear n0_ n1_; (try clear hb); (try clear hb2); (try clear hk); (try clear hi)) | ((with_reducible refine gate_dst (N := 19) rfl ?_); refine Kd.R_lit (Kd.int .i64) _ 3 ?hg (N := 19) ?hd (xs := ([1, 1, 2, 3, 4, 5, (-1), 0] : List Int)) (inner := [.int .i64 1, .int .i64 1, .int .i64 2, .int .i64 3, .int .i64 4, .int .i64 5, .int .i64 (-1), .int .i64 0]) (ok := fun _ => True) (okp := fun _ => True) ?hr ?hp (fun _ hk => hk) trivial (Below.refl _ _) (Nat.le_refl _) (by simp) ?_; (case hd => rfl); (case hg => rfl); (case hr => exact GS); (case hp => exact (Reps.one (show Kd.M (Kd.int .i64) _ _ _ 1 [.int .i64 1] from rfl) (Reps.one (show Kd.M (Kd.int .i64) _ _ _ 1 [.int .i64 1] from rfl) (Reps.one (show Kd.M (Kd.int .i64) _ _ _ 2 [.int .i64 2] from rfl) (Reps.one (show Kd.M (Kd.int .i64) _ _ _ 3 [.int .i64 3] from rfl) (Reps.one (show Kd.M (Kd.int .i64) _ _ _ 4 [.int .i64 4] from rfl) (Reps.one (show Kd.M (Kd.int .i64) _ _ _ 5 [.int .i64 5] from rfl) (Reps.one (show Kd.M (Kd.int .i64) _ _ _ (-1) [.int .i64 (-1)] from rfl) (Reps.one (show Kd.M (Kd.int .i64) _ _ _ 0 [.int .i64 0] from rfl) (Reps.none _ _)))))))))); intro v388 w8 ho9 hb hg_ hnew_; clear hg_ hnew_; (first | rw [← Ny387.out] at ho9 | (simp only [Int.reduceToNat] at ho9; rw [← Ny387.out] at ho9)); have n0_ := Aside0.mk (Kd.R_lower ho9 (below_size (by repeat (first | (with_reducible first | exact HB.out | apply below_alloc | apply pw_below_drewN | apply below_drew1 | refine below_set ?_ (IsS51.ge HI380.out)) | exact HB.out)))); have n1_ := Aside0.mk (IsS51.below (by repeat (first | (with_reducible first | exact HI380.out | apply IsS51.alloc | apply IsS51.drewN | apply IsS51.drew | apply IsS51.set_1 | apply IsS51.set_2) | exact HI380.out)) hb); have n2_ := Aside0.mk (below_step (by repeat (first | (with_reducible first | exact HB.out | apply below_alloc | apply pw_below_drewN | apply below_drew1 | refine below_set ?_ (IsS51.ge HI380.out)) | exact HB.out)) hb); clear HI380; clear HB; have HO389 := n0_; have HI380 := n1_; have HB := n2_; clear n0_ n1_ n2_; clear hb ho9; obtain ⟨Ao10, co10, eo10⟩ := Kd.R_slice HO389.out; subst eo10) | ((with_reducible refine gate_callee (f := 53) rfl ?_); refine goesL_ (some 20) rfl rfl Try.func53 (by kernel_rfl) rfl #[.pointer (some ⟨gb380, 0, none⟩), .slice Ao10 y387.length co10] rfl TA ?_; (with_reducible refine (spec_l1Cur_among.calls gb380 l0 t385 t386 _ _ y387 t390 t391 t392 w _ ?side1 ?side2 ?side3 ?side4 ?side5 A4.out).mono ?_); (case side1 => repeat (first | (with_reducible first | exact HI380.out | apply IsS51.alloc | apply IsS51.drewN | apply IsS51.drew | apply IsS51.set_1 | apply IsS51.set_2) | exact HI380.out)); (case side2 => repeat (first | (with_reducible first | exact HB.out | apply below_alloc | apply pw_below_drewN | apply below_drew1 | refine below_set ?_ (IsS51.ge HI380.out)) | exact HB.out)); (case side3 => exact CW (Kd.R_reads' HO389.out).2.2); (case side4 => exact (Kd.R_reads' HO389.out).2.1); (case side5 => exact far_slice (IsS51.own_ne HI380.out HO389.out (by decide))); rintro e w11 ⟨rfl, hi, hb, hk⟩; refine ⟨_, rfl, ?_⟩; have n0_ := Aside0.mk (Kd.R_mono (Kd.R_keep (IsS51.apart (show IsS51 w _ gb380 l0 t385 t386 from by repeat (first | (with_reducible first | exact HI380.out | apply IsS51.alloc | apply IsS51.drewN | apply IsS51.drew | apply IsS51.set_1 | apply IsS51.set_2) | exact HI380.out)) (KR HO389) (by decide)) hk (fun _ h => h.2)) (fun _ h => h.1)); have n1_ := Aside0.mk (hb); have n2_ := Aside0.mk (hi); clear HO389; clear HB; clear HI380; have HO389 := n0_; have HB := n1_; have HI380 := n2_; clear n0_ n1_ n2_; (try clear hb); (try clear hb2); (try clear hk); (try clear hi)))
 go_ret3
 exact ⟨RE, by repeat (first | (with_reducible first | exact HB.out | apply below_alloc | apply pw_below_drewN | apply below_drew1 | refine below_set ?_ (IsS51.ge HI380.out)) | exact HB.out)⟩

/-! ### spec_l1Has: function 64 -/
def spec_l1Has.l0 : Nat → Int → List Int → Int → Int → Option (Bool)
 | 0, _, _, _, _ => none
 | k + 1, x1, x7, x8, x9 => if x9 < x8 then (if 0 ≤ x9 then (if x9 < (x7.length : Int) then (if (rd x7 x9) = x1 then (some true) else (spec_l1Has.l0 k x1 x7 x8 (wrap64 (x9 + 1)))) else (none)) else (none)) else (some false)
def spec_l1Has.f (k : Nat) (l0 : List Int) (a1 : Int) : Option (Bool) := spec_l1Has.l0 k a1 l0 (l0.length : Int) 0
theorem spec_l1Has.mono_l : ∀ k, (∀ y0 y1 y2 y3, LeO (spec_l1Has.l0 k y0 y1 y2 y3) (spec_l1Has.l0 (k + 1) y0 y1 y2 y3))
 | 0 => fun _ _ _ _ r h => by simp [spec_l1Has.l0] at h
 | k + 1 => by
  have ih0 := spec_l1Has.mono_l k
  ·intro y0 y1 y2 y3
   unfold spec_l1Has.l0
   repeat' first
   | with_reducible first | exact ih0 _ _ _ _ | exact LeO.refl _ | exact LeO.none _ | refine LeO.ite ?_ ?_ | refine LeO.bind ?_ (fun _ => ?_)
   | exact LeO.none _ | refine LeO.ite ?_ ?_ | refine LeO.bind ?_ (fun _ => ?_)
theorem spec_l1Has.mono : ∀ a0 a1 k, LeO (spec_l1Has.f k a0 a1) (spec_l1Has.f (k + 1) a0 a1) := by
 intro a0 a1 k
 have ih0 := spec_l1Has.mono_l k
 unfold spec_l1Has.f
 repeat' first
   | with_reducible first | exact ih0 _ _ _ _ | exact LeO.refl _ | exact LeO.none _ | refine LeO.ite ?_ ?_ | refine LeO.bind ?_ (fun _ => ?_)
   | exact LeO.none _ | refine LeO.ite ?_ ?_ | refine LeO.bind ?_ (fun _ => ?_)
theorem spec_l1Has.calls (k : Nat) (A0 : Option Addr) (c0 : Nat) (l0 : List Int) (a1 : Int) (r : Bool) (w : World) (hr0 : Kd.C (Kd.int .i64) w A0 l0.length l0) (hc0 : l0.length ≤ c0) (h : spec_l1Has.f k l0 a1 = some r) :
  Calls Try.prog 64 #[.slice A0 l0.length c0, .int .i64 a1] w fun e w' => e = .returned (.bool r) ∧ Drawn0 w w' := by
 have HR0 := Aside0.mk hr0
 have HC0 := Aside0.mk hc0
 clear hr0 hc0
 have H : (spec_l1Has.l0 k a1 l0 (l0.length : Int) 0) = some r := h
 clear h
 have H' := Aside0.mk H
 clear H
 go_enter Try.func64, Try.ntmps64
 go_wp2
 go_loopg [9] k (fun kq v9 w' => ∃ (x9_1 : Int), v9 = .int .i64 x9_1 ∧ Aside0 (spec_l1Has.l0 kq a1 l0 (l0.length : Int) x9_1 = some r) ∧ Aside0 (kq ≤ k) ∧ Drawn0 w w')
 case atStart => exact ⟨(0), RF, H', ⟨Nat.le_refl _⟩, by repeat (first | exact Drawn0.refl _ | apply Drawn0.step)⟩
 case round =>
  clear H'
  try clear p2
  obtain ⟨x9_1, rfl, HA, HK1, ⟨m1, rfl⟩⟩ := hrel
  cases gk with
  | zero => exact absurd HA.out (by simp [spec_l1Has.l0])
  | succ k1 =>
   have H := HA.out
   clear HA
   simp only [spec_l1Has.l0] at H
   by_cases c3 : x9_1 < (l0.length : Int)
   ·rw [if_pos c3] at H
    have c3b0 : decide (x9_1 < (l0.length : Int)) = true := decide_eq_true c3
    clear c3
    by_cases c4 : 0 ≤ x9_1
    ·rw [if_pos c4] at H
     have c4b0 : decide (0 ≤ x9_1) = true := decide_eq_true c4
     clear c4
     by_cases c5 : x9_1 < (l0.length : Int)
     ·rw [if_pos c5] at H
      have c5b0 : decide (x9_1 < (l0.length : Int)) = true := decide_eq_true c5
      clear c5
      by_cases c6 : (rd l0 x9_1) = a1
      ·rw [if_pos c6] at H
       have c6b0 : ((rd l0 x9_1) == a1) = true := beq_iff_eq.mpr c6
       have c6b1 : ((rd l0 x9_1) != a1) = false := bne_eq_false_iff_eq.mpr c6
       clear c6
       obtain rfl := Option.some.inj H
       have p393 : 0 ≤ (x9_1 : Int) := of_decide_eq_true AS
       have q393 : x9_1 < (l0.length : Int) := of_decide_eq_true AS
       obtain ⟨ad393, e393, hx393_0⟩ := Kd.at_int HR0.out x9_1 p393 q393
       cases e393
       replace p393 := eq_true p393
       replace q393 := eq_true q393
       go_wp2
       go_ret
       exact ⟨RF, DR⟩
      ·rw [if_neg c6] at H
       have c6b0 : ((rd l0 x9_1) == a1) = false := beq_eq_false_iff_ne.mpr c6
       have c6b1 : ((rd l0 x9_1) != a1) = true := bne_iff_ne.mpr c6
       have H' := Aside0.mk H
       clear H
       have p393 : 0 ≤ (x9_1 : Int) := of_decide_eq_true AS
       have q393 : x9_1 < (l0.length : Int) := of_decide_eq_true AS
       obtain ⟨ad393, e393, hx393_0⟩ := Kd.at_int HR0.out x9_1 p393 q393
       cases e393
       replace p393 := eq_true p393
       replace q393 := eq_true q393
       go_wp2
       go_roundg k1
       case measure => have := HK1.out; omega
       case rel => exact ⟨(wrap64 (x9_1 + 1)), RF, H', ⟨by have := HK1.out; omega⟩, by repeat (first | exact Drawn0.refl _ | apply Drawn0.step)⟩
     ·rw [if_neg c5] at H
      cases H
    ·rw [if_neg c4] at H
     cases H
   ·rw [if_neg c3] at H
    have c3b0 : decide (x9_1 < (l0.length : Int)) = false := decide_eq_false c3
    clear c3
    obtain rfl := Option.some.inj H
    go_wp2
    go_ret
    exact ⟨RF, DR⟩

end Go.Proofs.Ythkdkgbcokpbaab.PFnTrianglesAreCut
