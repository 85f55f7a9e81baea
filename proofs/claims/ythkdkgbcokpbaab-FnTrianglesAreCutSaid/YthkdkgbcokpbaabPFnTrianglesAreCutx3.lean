-- Written by a program of this session (wip/tools/pp.sh) out of the translation; Lean checks it.
import Derived.Test.YthkdkgbcokpbaabPFnTrianglesAreCutx0
import Derived.Test.YthkdkgbcokpbaabPFnTrianglesAreCutx1
import Derived.Test.YthkdkgbcokpbaabPFnTrianglesAreCutx2
namespace Go.Proofs.Ythkdkgbcokpbaab.PFnTrianglesAreCut
open Go.RowKit Go.Proofs.YthkdkgbcokpbaabOwn Go.Proofs.YthkdkgbcokpbaabW.PrintWords Go.Proofs.YthkdkgbcokpbaabW.PrintLast Go.Proofs.YthkdkgbcokpbaabW.PrintMore
attribute [local go_sem] max2_int min2_int max_two min_two max_three min_three max_four min_four   -- for this text's walks alone
set_option linter.unusedVariables false
set_option maxHeartbeats 8000000
set_option maxRecDepth 100000
set_option linter.unusedSimpArgs false

/-! ### impl_NeighboursOf: function 8 -/
def impl_NeighboursOf.l0 : Nat → Int → List Int → List (S54) → List (S54) → Int → Int → Option (List Int × Bool)
 | 0, _, _, _, _, _, _ => none
 | k + 1, x1, x6, x7, x18, x19, x20 => if x20 < x19 then (if 0 ≤ x20 then (if x20 < (x18.length : Int) then (if 0 ≤ x1 then (if x1 < (x7.length : Int) then ((impl_near.f k ((rd_T54 x18 x20).f0) ((rd_T54 x18 x20).f1) ((rd_T54 x18 x20).f2) ((rd_T54 x7 x1).f0) ((rd_T54 x7 x1).f1) ((rd_T54 x7 x1).f2)).bind fun t173 => (if t173 = true then (if x6.length < 17592186044416 then (impl_NeighboursOf.l0 k x1 (x6 ++ [x20]) x7 x18 x19 (wrap64 (x20 + 1))) else (none)) else (impl_NeighboursOf.l0 k x1 x6 x7 x18 x19 (wrap64 (x20 + 1))))) else (none)) else (none)) else (none)) else (none)) else (some (x6, true))
def impl_NeighboursOf.f (k : Nat) (a0 : Int) (a1 : Int) : Option (List Int × Bool) := (impl_isPoint.f k a0 (([a1] : List Int))).bind fun t163 => (if t163 = true then ((impl_points.f k a0).bind fun t167 => (impl_NeighboursOf.l0 k a1 (([] : List Int)) t167 t167 (t167.length : Int) 0)) else (some (([] : List Int), false)))
theorem impl_NeighboursOf.mono_l : ∀ k, (∀ y0 y1 y2 y3 y4 y5, LeO (impl_NeighboursOf.l0 k y0 y1 y2 y3 y4 y5) (impl_NeighboursOf.l0 (k + 1) y0 y1 y2 y3 y4 y5))
 | 0 => fun _ _ _ _ _ _ r h => by simp [impl_NeighboursOf.l0] at h
 | k + 1 => by
  have ih0 := impl_NeighboursOf.mono_l k
  ·intro y0 y1 y2 y3 y4 y5
   unfold impl_NeighboursOf.l0
   repeat' first
   | with_reducible first | exact ih0 _ _ _ _ _ _ | exact impl_isPoint.mono _ _ _ | exact impl_near.mono _ _ _ _ _ _ _ | exact impl_points.mono _ _ | exact LeO.refl _ | exact LeO.none _ | refine LeO.ite ?_ ?_ | refine LeO.bind ?_ (fun _ => ?_)
   | exact LeO.none _ | refine LeO.ite ?_ ?_ | refine LeO.bind ?_ (fun _ => ?_)
theorem impl_NeighboursOf.mono : ∀ a0 a1 k, LeO (impl_NeighboursOf.f k a0 a1) (impl_NeighboursOf.f (k + 1) a0 a1) := by
 intro a0 a1 k
 have ih0 := impl_NeighboursOf.mono_l k
 unfold impl_NeighboursOf.f
 repeat' first
   | with_reducible first | exact ih0 _ _ _ _ _ _ | exact impl_isPoint.mono _ _ _ | exact impl_near.mono _ _ _ _ _ _ _ | exact impl_points.mono _ _ | exact LeO.refl _ | exact LeO.none _ | refine LeO.ite ?_ ?_ | refine LeO.bind ?_ (fun _ => ?_)
   | exact LeO.none _ | refine LeO.ite ?_ ?_ | refine LeO.bind ?_ (fun _ => ?_)
theorem impl_NeighboursOf.calls (k : Nat) (a0 : Int) (a1 : Int) (r1 : List Int) (r2 : Bool) (w : World) (h : impl_NeighboursOf.f k a0 a1 = some (r1, r2)) :
  Calls Try.prog 8 #[.int .i64 a0, .int .i64 a1] w fun e w' => ∃ v0_ : Value, e = .returned (.tuple #[v0_, .bool r2]) ∧ Kd.R (Kd.int .i64) 3 w' w.heap.size (fun _ => True) v0_ r1 ∧ Below w.heap.size w w' := by
 have hu54 := Try.underlying54
 have HB := Aside0.mk (Below.refl w.heap.size w)
 have H : ((impl_isPoint.f k a0 (([a1] : List Int))).bind fun t163 => (if t163 = true then ((impl_points.f k a0).bind fun t167 => (impl_NeighboursOf.l0 k a1 (([] : List Int)) t167 t167 (t167.length : Int) 0)) else (some (([] : List Int), false)))) = some (r1, r2) := h
 clear h
 obtain ⟨y160, hy160⟩ : ∃ y_ : List Int, y_ = (([a1] : List Int)) := ⟨_, rfl⟩
 replace H : ((impl_isPoint.f k a0 y160).bind fun t163 => (if t163 = true then ((impl_points.f k a0).bind fun t167 => (impl_NeighboursOf.l0 k a1 (([] : List Int)) t167 t167 (t167.length : Int) 0)) else (some (([] : List Int), false)))) = some (r1, r2) := HY H hy160
 have Ny160 := Aside0.mk hy160
 clear hy160
 replace H := EA H
 obtain ⟨t163, A3, H⟩ := H
 by_cases c4 : t163 = true
 ·subst c4
  replace H := IP H
  obtain ⟨y164, hy164⟩ : ∃ y_ : List Int, y_ = (([] : List Int)) := ⟨_, rfl⟩
  replace H : ((impl_points.f k a0).bind fun t167 => (impl_NeighboursOf.l0 k a1 y164 t167 t167 (t167.length : Int) 0)) = some (r1, r2) := HY H hy164
  have Ny164 := Aside0.mk hy164
  clear hy164
  replace H := EA H
  obtain ⟨t167, A5, H⟩ := H
  have H' := Aside0.mk H
  clear H
  go_enter Try.func8, Try.ntmps8
  go_wp2_with (first | ((with_reducible refine gate_dst (N := 12) rfl ?_); refine Kd.R_lit (Kd.int .i64) _ 3 ?hg (N := 12) ?hd (xs := ([a1] : List Int)) (inner := [.int .i64 a1]) (ok := fun _ => True) (okp := fun _ => True) ?hr ?hp (fun _ hk => hk) trivial (Below.refl _ _) (Nat.le_refl _) (by simp) ?_; (case hd => rfl); (case hg => rfl); (case hr => exact GS); (case hp => exact (Reps.one (show Kd.M (Kd.int .i64) _ _ _ a1 [.int .i64 a1] from rfl) (Reps.none _ _))); intro v161 w6 ho7 hb hg_ hnew_; clear hg_ hnew_; (first | rw [← Ny160.out] at ho7 | (simp only [Int.reduceToNat] at ho7; rw [← Ny160.out] at ho7)); have n0_ := Aside0.mk (Kd.R_lower ho7 (below_size BB)); have n1_ := Aside0.mk (below_step BB hb); clear HB; have HO162 := n0_; have HB := n1_; clear n0_ n1_; clear hb ho7; obtain ⟨Ao8, co8, eo8⟩ := Kd.R_slice HO162.out; subst eo8) | ((with_reducible refine gate_callee (f := 33) rfl ?_); refine goesL_ (some 13) rfl rfl Try.func33 (by kernel_rfl) rfl #[.int .i64 a0, .slice Ao8 y160.length co8] rfl TA ?_; (with_reducible refine (impl_isPoint.calls k a0 _ _ y160 true _ ?side1 ?side2 A3.out).mono ?_); (case side1 => exact CW (Kd.R_reads' HO162.out).2.2); (case side2 => exact (Kd.R_reads' HO162.out).2.1); rintro e w9 ⟨rfl, hb⟩; refine ⟨_, rfl, ?_⟩; have n0_ := Aside0.mk (Kd.R_below (KR HO162) hb); have n1_ := Aside0.mk (below_step BB hb); clear HO162; clear HB; have HO162 := n0_; have HB := n1_; clear n0_ n1_; (try clear hb); (try clear hb2); (try clear hk); (try clear hi)) | ((with_reducible refine gate_dst (N := 15) rfl ?_); refine Kd.R_lit (Kd.int .i64) _ 3 ?hg (N := 15) ?hd (xs := ([] : List Int)) (inner := []) (ok := fun _ => True) (okp := fun _ => True) ?hr ?hp (fun _ hk => hk) trivial (Below.refl _ _) (Nat.le_refl _) (by simp) ?_; (case hd => rfl); (case hg => rfl); (case hr => exact GS); (case hp => exact (Reps.none _ _)); intro v165 w10 ho11 hb hg_ hnew_; clear hg_ hnew_; (first | rw [← Ny164.out] at ho11 | (simp only [Int.reduceToNat] at ho11; rw [← Ny164.out] at ho11)); have n0_ := Aside0.mk (Kd.R_elder' (KR HO162) (Kd.R_base ho11) hb); have n1_ := Aside0.mk (Kd.R_lower (Kd.R_new' ho11 (Kd.R_lt (KR HO162))) (below_size BB)); have n2_ := Aside0.mk (below_step BB hb); clear HO162; clear HB; have HO162 := n0_; have HO166 := n1_; have HB := n2_; clear n0_ n1_ n2_; clear hb ho11) | ((with_reducible refine gate_callee (f := 34) rfl ?_); refine goesL_ (some 17) rfl rfl Try.func34 (by kernel_rfl) rfl #[.int .i64 a0] rfl TA ?_; (with_reducible refine (impl_points.calls k a0 t167 _ A5.out).mono ?_); rintro e w12 ⟨v168, rfl, ho0, hb⟩; refine ⟨_, rfl, ?_⟩; have n0_ := Aside0.mk (Kd.R_below (KR HO162) hb); have n1_ := Aside0.mk (Kd.R_below (KR HO166) hb); have n2_ := Aside0.mk (Kd.R_lower ho0 (below_size BB)); have n3_ := Aside0.mk (below_step BB hb); clear HO162; clear HO166; clear HB; have HO162 := n0_; have HO166 := n1_; have HO169 := n2_; have HB := n3_; clear n0_ n1_ n2_ n3_; (try clear hb); (try clear hb2); (try clear hk); (try clear hi); (try clear ho0); obtain ⟨Ao13, co13, eo13⟩ := Kd.R_slice HO169.out; subst eo13))
  go_loopg [6, 20] k (fun kq v6 v20 w' => ∃ (x6_1 : List Int) (x20_1 : Int), v20 = .int .i64 x20_1 ∧ Aside0 (impl_NeighboursOf.l0 kq a1 x6_1 t167 t167 (t167.length : Int) x20_1 = some (r1, r2)) ∧ Aside0 (kq ≤ k) ∧ Aside0 (Kd.R (Kd.int .i64) 3 w' w.heap.size (fun _ => True) v6 x6_1) ∧ Aside0 (Kd.R k54 54 w' w.heap.size (fun _ => True) (.slice Ao13 t167.length co13) t167) ∧ Aside0 (Kd.R k54 54 w' w.heap.size (fun _ => True) (.slice Ao13 t167.length co13) t167) ∧ Aside0 (Below w.heap.size w w'))
  case atStart => exact ⟨(y164), (0), RF, H', ⟨Nat.le_refl _⟩, ⟨by (with_reducible repeat (first | apply Kd.R_alloc | apply Kd.R_drewN | apply Kd.R_drew)); exact Kd.R_mono HO166.out (fun _ hk => trivial)⟩, ⟨KR HO169⟩, ⟨KR HO169⟩, ⟨BB⟩⟩
  case round =>
   clear H'
   try clear p2
   try clear c3
   try clear c4
   try clear p6
   try clear c8
   obtain ⟨x6_1, x20_1, rfl, HA, HK1, HO_6, HO_7, HO_18, HB⟩ := hrel
   cases gk with
   | zero => exact absurd HA.out (by simp [impl_NeighboursOf.l0])
   | succ k1 =>
    have H := HA.out
    clear HA
    simp only [impl_NeighboursOf.l0] at H
    by_cases c14 : x20_1 < (t167.length : Int)
    ·rw [if_pos c14] at H
     have c14b0 : decide (x20_1 < (t167.length : Int)) = true := decide_eq_true c14
     clear c14
     by_cases c15 : 0 ≤ x20_1
     ·rw [if_pos c15] at H
      have c15b0 : decide (0 ≤ x20_1) = true := decide_eq_true c15
      clear c15
      by_cases c16 : x20_1 < (t167.length : Int)
      ·rw [if_pos c16] at H
       have c16b0 : decide (x20_1 < (t167.length : Int)) = true := decide_eq_true c16
       clear c16
       by_cases c17 : 0 ≤ a1
       ·rw [if_pos c17] at H
        have c17b0 : decide (0 ≤ a1) = true := decide_eq_true c17
        clear c17
        by_cases c18 : a1 < (t167.length : Int)
        ·rw [if_pos c18] at H
         have c18b0 : decide (a1 < (t167.length : Int)) = true := decide_eq_true c18
         clear c18
         replace H := EA H
         obtain ⟨t173, A19, H⟩ := H
         by_cases c20 : t173 = true
         ·subst c20
          replace H := IP H
          by_cases c21 : x6_1.length < 17592186044416
          ·rw [if_pos c21] at H
           have LMc21 := Aside0.mk c21
           clear c21
           obtain ⟨y174, hy174⟩ : ∃ y_ : List Int, y_ = (x6_1 ++ [x20_1]) := ⟨_, rfl⟩
           replace H : (impl_NeighboursOf.l0 k1 a1 y174 t167 t167 (t167.length : Int) (wrap64 (x20_1 + 1))) = some (r1, r2) := HY H hy174
           have Ny174 := Aside0.mk hy174
           clear hy174
           have H' := Aside0.mk H
           clear H
           have p170 : 0 ≤ (x20_1 : Int) := of_decide_eq_true AS
           have q170 : x20_1 < (t167.length : Int) := of_decide_eq_true AS
           obtain ⟨ad170, e170, hx170_0, hx170_1, hx170_2⟩ := at_T54 (Kd.R_reads' HO_18.out).2.2 x20_1 p170 q170
           cases e170
           replace p170 := eq_true p170
           replace q170 := eq_true q170
           try go_wp2_with (first | ((with_reducible refine gate_dst (N := 9) rfl ?_); refine box_event ?hg (N := 9) ?hd (cs := #[.int .i64 0, .int .i64 0, .int .i64 0]) (t := 54) ?hr ?_; (case hd => rfl); (case hg => rfl); (case hr => exact GS); intro gb171 hg w22 hbox hb; have n0_ := Aside0.mk (Kd.R_below (KR HO_6) hb); have n1_ := Aside0.mk (Kd.R_below (Kd.R_elderB (KR HO_7) gb171 (Nat.le_of_eq hg.symm)) hb); have n2_ := Aside0.mk (Kd.R_below (Kd.R_elderB (KR HO_18) gb171 (Nat.le_of_eq hg.symm)) hb); have n3_ := Aside0.mk (below_step BB hb); have n4_ := Aside0.mk (hbox); have n5_ := Aside0.mk ((by rw [hg]; exact (below_size BB) : w.heap.size ≤ gb171)); have n6_ := Aside0.mk ((by rw [hg]; exact (below_size BB) : w.heap.size ≤ gb171)); clear HO_6; clear HO_7; clear HO_18; clear HB; have HO_6 := n0_; have HO_7 := n1_; have HO_18 := n2_; have HB := n3_; have BK171 := n4_; have GW171 := n5_; have GE171 := n6_; clear n0_ n1_ n2_ n3_ n4_ n5_ n6_; clear hb hbox hg; have hcz23_0 : w22.cell? ⟨gb171, 0, none⟩ = some (.int .i64 0) := (blk_cell BK171.out 0).trans rfl; have hcz23_1 : w22.cell? ⟨gb171, 1, none⟩ = some (.int .i64 0) := (blk_cell BK171.out 1).trans rfl; have hcz23_2 : w22.cell? ⟨gb171, 2, none⟩ = some (.int .i64 0) := (blk_cell BK171.out 2).trans rfl; have hfz23_0 := blk_frozen BK171.out 0; have hfz23_1 := blk_frozen BK171.out 1; have hfz23_2 := blk_frozen BK171.out 2))
           have n0_ : Aside0 (Kd.R (Kd.int .i64) 3 (((w22.setCell ⟨gb171, 0, none⟩ (.int .i64 ((rd_T54 t167 x20_1).f0))).setCell ⟨gb171, 1, none⟩ (.int .i64 ((rd_T54 t167 x20_1).f1))).setCell ⟨gb171, 2, none⟩ (.int .i64 ((rd_T54 t167 x20_1).f2))) w.heap.size (fun _ => True) u6 x6_1) := ⟨by (with_reducible repeat (first | apply Kd.R_alloc | apply Kd.R_drewN | apply Kd.R_drew)); exact Kd.R_mono (Kd.R_far (p := ⟨gb171, 2, none⟩) (Kd.R_far (p := ⟨gb171, 1, none⟩) (Kd.R_far (p := ⟨gb171, 0, none⟩) (Kd.R_types HO_6.out BK171.out (by decide)) (fun _ hk => hk.2) (.int .i64 ((rd_T54 t167 x20_1).f0))) (fun _ hk => hk.2) (.int .i64 ((rd_T54 t167 x20_1).f1))) (fun _ hk => hk.2) (.int .i64 ((rd_T54 t167 x20_1).f2))) (fun _ hk => trivial)⟩
           have n1_ : Aside0 (Kd.R k54 54 (((w22.setCell ⟨gb171, 0, none⟩ (.int .i64 ((rd_T54 t167 x20_1).f0))).setCell ⟨gb171, 1, none⟩ (.int .i64 ((rd_T54 t167 x20_1).f1))).setCell ⟨gb171, 2, none⟩ (.int .i64 ((rd_T54 t167 x20_1).f2))) w.heap.size (fun k_ => k_ ≠ gb171) (.slice (some ad170) t167.length co13) t167) := ⟨by (with_reducible repeat (first | apply Kd.R_alloc | apply Kd.R_drewN | apply Kd.R_drew)); exact Kd.R_mono (Kd.R_far (p := ⟨gb171, 2, none⟩) (Kd.R_far (p := ⟨gb171, 1, none⟩) (Kd.R_far (p := ⟨gb171, 0, none⟩) (Kd.R_mono HO_7.out (fun k_ hk => (⟨hk, hk.2⟩ : _ ∧ k_ ≠ gb171))) (fun _ hk => hk.2) (.int .i64 ((rd_T54 t167 x20_1).f0))) (fun _ hk => hk.2) (.int .i64 ((rd_T54 t167 x20_1).f1))) (fun _ hk => hk.2) (.int .i64 ((rd_T54 t167 x20_1).f2))) (fun _ hk => hk.1.2)⟩
           have n2_ : Aside0 (Kd.R k54 54 (((w22.setCell ⟨gb171, 0, none⟩ (.int .i64 ((rd_T54 t167 x20_1).f0))).setCell ⟨gb171, 1, none⟩ (.int .i64 ((rd_T54 t167 x20_1).f1))).setCell ⟨gb171, 2, none⟩ (.int .i64 ((rd_T54 t167 x20_1).f2))) w.heap.size (fun k_ => k_ ≠ gb171) (.slice (some ad170) t167.length co13) t167) := ⟨by (with_reducible repeat (first | apply Kd.R_alloc | apply Kd.R_drewN | apply Kd.R_drew)); exact Kd.R_mono (Kd.R_far (p := ⟨gb171, 2, none⟩) (Kd.R_far (p := ⟨gb171, 1, none⟩) (Kd.R_far (p := ⟨gb171, 0, none⟩) (Kd.R_mono HO_18.out (fun k_ hk => (⟨hk, hk.2⟩ : _ ∧ k_ ≠ gb171))) (fun _ hk => hk.2) (.int .i64 ((rd_T54 t167 x20_1).f0))) (fun _ hk => hk.2) (.int .i64 ((rd_T54 t167 x20_1).f1))) (fun _ hk => hk.2) (.int .i64 ((rd_T54 t167 x20_1).f2))) (fun _ hk => hk.1.2)⟩
           have n3_ : Aside0 ((((w22.setCell ⟨gb171, 0, none⟩ (.int .i64 ((rd_T54 t167 x20_1).f0))).setCell ⟨gb171, 1, none⟩ (.int .i64 ((rd_T54 t167 x20_1).f1))).setCell ⟨gb171, 2, none⟩ (.int .i64 ((rd_T54 t167 x20_1).f2))).heap[gb171]? = some (.cells #[.int .i64 ((rd_T54 t167 x20_1).f0), .int .i64 ((rd_T54 t167 x20_1).f1), .int .i64 ((rd_T54 t167 x20_1).f2)] 54 (0, 0))) := ⟨by (with_reducible repeat (first | refine blk_drewN ?_ _ | refine blk_drew ?_ | refine blk_alloc ?_ _)); refine blk_put (cs := #[.int .i64 ((rd_T54 t167 x20_1).f0), .int .i64 ((rd_T54 t167 x20_1).f1), .int .i64 0]) ?_ 2 _ rfl; (with_reducible repeat (first | refine blk_drewN ?_ _ | refine blk_drew ?_ | refine blk_alloc ?_ _)); refine blk_put (cs := #[.int .i64 ((rd_T54 t167 x20_1).f0), .int .i64 0, .int .i64 0]) ?_ 1 _ rfl; (with_reducible repeat (first | refine blk_drewN ?_ _ | refine blk_drew ?_ | refine blk_alloc ?_ _)); refine blk_put (cs := #[.int .i64 0, .int .i64 0, .int .i64 0]) ?_ 0 _ rfl; (with_reducible repeat (first | refine blk_drewN ?_ _ | refine blk_drew ?_ | refine blk_alloc ?_ _)); exact BK171.out⟩
           have n4_ : Aside0 (Below w.heap.size w (((w22.setCell ⟨gb171, 0, none⟩ (.int .i64 ((rd_T54 t167 x20_1).f0))).setCell ⟨gb171, 1, none⟩ (.int .i64 ((rd_T54 t167 x20_1).f1))).setCell ⟨gb171, 2, none⟩ (.int .i64 ((rd_T54 t167 x20_1).f2)))) := ⟨by repeat (first | (with_reducible first | exact HB.out | apply below_alloc | apply pw_below_drewN | apply below_drew1 | refine below_set ?_ GE171.out) | exact HB.out)⟩
           (try clear HO_6)
           (try clear HO_7)
           (try clear HO_18)
           (try clear BK171)
           (try clear HB)
           generalize (((w22.setCell ⟨gb171, 0, none⟩ (.int .i64 ((rd_T54 t167 x20_1).f0))).setCell ⟨gb171, 1, none⟩ (.int .i64 ((rd_T54 t167 x20_1).f1))).setCell ⟨gb171, 2, none⟩ (.int .i64 ((rd_T54 t167 x20_1).f2))) = w24 at n0_ n1_ n2_ n3_ n4_ ⊢
           have HO_6 := n0_
           have HO_7 := n1_
           have HO_18 := n2_
           have BK171 := n3_
           have HB := n4_
           clear n0_ n1_ n2_ n3_ n4_
           have n0_ := Aside0.mk (Kd.R_drew HO_6.out)
           have n1_ := Aside0.mk (Kd.R_drew HO_7.out)
           have n2_ := Aside0.mk (Kd.R_drew HO_18.out)
           have n3_ := Aside0.mk (blk_drew BK171.out)
           have n4_ := Aside0.mk (below_drew1 HB.out)
           clear HO_6
           clear HO_7
           clear HO_18
           clear BK171
           clear HB
           have HO_6 := n0_
           have HO_7 := n1_
           have HO_18 := n2_
           have BK171 := n3_
           have HB := n4_
           clear n0_ n1_ n2_ n3_ n4_
           have p172 : 0 ≤ (a1 : Int) := of_decide_eq_true AS
           have q172 : a1 < (t167.length : Int) := of_decide_eq_true AS
           obtain ⟨ad172, e172, hx172_0, hx172_1, hx172_2⟩ := at_T54 (Kd.R_reads' HO_7.out).2.2 a1 p172 q172
           obtain rfl : ad170 = ad172 := (by injection e172)
           replace p172 := eq_true p172
           replace q172 := eq_true q172
           refine start_ (n := 6) (S := fun w' => w'.cell? ⟨gb171, 0, none⟩ = some (.int .i64 ((rd_T54 t167 x20_1).f0)) ∧ w'.cell? ⟨gb171, 1, none⟩ = some (.int .i64 ((rd_T54 t167 x20_1).f1)) ∧ w'.cell? ⟨gb171, 2, none⟩ = some (.int .i64 ((rd_T54 t167 x20_1).f2)) ∧ w'.cell? (ad170.add ((a1).toNat * 3)) = some (.int .i64 ((rd_T54 t167 a1).f0)) ∧ w'.cell? ⟨(ad170.add ((a1).toNat * 3)).block, (ad170.add ((a1).toNat * 3)).off + 1, none⟩ = some (.int .i64 ((rd_T54 t167 a1).f1)) ∧ w'.cell? ⟨(ad170.add ((a1).toNat * 3)).block, (ad170.add ((a1).toNat * 3)).off + 2, none⟩ = some (.int .i64 ((rd_T54 t167 a1).f2))) (ds := []) #[false, false, false, false, false, false] (by kernel_rfl) rfl rfl ⟨(blk_cell BK171.out 0).trans rfl, (blk_cell BK171.out 1).trans rfl, (blk_cell BK171.out 2).trans rfl, hx172_0, hx172_1, hx172_2⟩ (fun hHeld => ?_)
           generalize w24.drew = w25 at HO_6 HO_7 HO_18 BK171 HB hx172_0 hx172_1 hx172_2 hHeld ⊢
           refine pure_ (i := 1) (N := some 26) #[false, true, false, false, false, false] rfl rfl (by kernel_rfl) (fun _ _ _ h => h) (Or.inl ⟨by rfl, PW⟩) PU ?_
           refine pure_ (i := 2) (N := some 27) #[false, true, true, false, false, false] rfl rfl (by kernel_rfl) (fun _ _ _ h => h) (Or.inl ⟨by rfl, PW⟩) PU ?_
           refine pure_ (i := 3) (N := some 28) #[false, true, true, true, false, false] rfl rfl (by kernel_rfl) (fun _ _ _ h => h) (Or.inl ⟨by rfl, PW⟩) PU ?_
           refine take_ (i := 0) (N := some 25) #[true, true, true, true, false, false] rfl rfl (by kernel_rfl) (fun _ _ _ h => h) (Or.inl ⟨by rfl, PT⟩) hHeld PU ?_
           refine take_ (i := 4) (N := some 29) #[true, true, true, true, true, false] rfl rfl (by kernel_rfl) (fun _ _ _ h => h) (Or.inl ⟨by rfl, PT⟩) hHeld PU ?_
           refine one_ (i := 5) (N := some 30) #[true, true, true, true, true, true] rfl rfl (by kernel_rfl) (by decide) (fun K hK => ?_)
           refine goes_ Try.func37 (by kernel_rfl) rfl #[.agg #[.int .i64 ((rd_T54 t167 x20_1).f0), .int .i64 ((rd_T54 t167 x20_1).f1), .int .i64 ((rd_T54 t167 x20_1).f2)], .agg #[.int .i64 ((rd_T54 t167 a1).f0), .int .i64 ((rd_T54 t167 a1).f1), .int .i64 ((rd_T54 t167 a1).f2)]] (by rfl) rfl rfl TA ?_
           with_reducible refine (impl_near.calls k1 ((rd_T54 t167 x20_1).f0) ((rd_T54 t167 x20_1).f1) ((rd_T54 t167 x20_1).f2) ((rd_T54 t167 a1).f0) ((rd_T54 t167 a1).f1) ((rd_T54 t167 a1).f2) true _ A19.out).mono ?_
           rintro e w26 ⟨rfl, hb⟩
           have HS3_ := (hb.cell (World.block_lt_of_cell? _ _ (hHeld.2.2.2.1))).trans (hHeld.2.2.2.1)
           have HS4_ := (hb.cell (World.block_lt_of_cell? _ _ (hHeld.2.2.2.2.1))).trans (hHeld.2.2.2.2.1)
           have HS5_ := (hb.cell (World.block_lt_of_cell? _ _ (hHeld.2.2.2.2.2))).trans (hHeld.2.2.2.2.2)
           refine ⟨_, rfl, ?_⟩
           have n0_ := Aside0.mk (Kd.R_below (KR HO_6) hb)
           have n1_ := Aside0.mk (Kd.R_below (KR HO_7) hb)
           have n2_ := Aside0.mk (Kd.R_below (KR HO_18) hb)
           have n3_ := Aside0.mk (blk_below (g := gb171) (o := .cells #[.int .i64 ((rd_T54 t167 x20_1).f0), .int .i64 ((rd_T54 t167 x20_1).f1), .int .i64 ((rd_T54 t167 x20_1).f2)] 54 (0, 0)) (BW BK171) hb)
           have n4_ := Aside0.mk (below_step (by repeat (first | (with_reducible first | exact HB.out | apply below_alloc | apply pw_below_drewN | apply below_drew1 | refine below_set ?_ GE171.out) | exact HB.out)) hb)
           clear HO_6
           clear HO_7
           clear HO_18
           clear BK171
           clear HB
           have HO_6 := n0_
           have HO_7 := n1_
           have HO_18 := n2_
           have BK171 := n3_
           have HB := n4_
           clear n0_ n1_ n2_ n3_ n4_
           (try clear hb)
           (try clear hb2)
           (try clear hk)
           (try clear hi)
           refine hK.out _ _ ⟨(blk_cell BK171.out 0).trans rfl, (blk_cell BK171.out 1).trans rfl, (blk_cell BK171.out 2).trans rfl, HS3_, HS4_, HS5_⟩ (fun hHeld => ?_)
           clear hK K
           refine norm_ (a' := ?_) ?_ ?_
           rotate_left
           ·show Act.put _ (some 30) _ = _
            simp only [Act.put, List.setIfInBounds_toArray, List.set_cons_zero, List.set_cons_succ, i64_w, i32_w]
            rfl
           refine done_ (by kernel_rfl) ?_
           try go_wp2_with (first | ((with_reducible refine gate_builtin (b := .append) (xs := #[.tmp 31, .tmp 33]) rfl ?_); at_builtin; refine Kd.R_append (Kd.int .i64) (w0 := w) w.heap.size rfl (.tmp 31) (.tmp 33) 26 3 (.int .i64 0) 8 rfl Try.underlying26 info3 rfl (by decide) (by omega) u6 x6_1 x20_1 [.int .i64 x20_1] (fun _ => True) (fun _ => False) rfl rfl ?aP (fun _ hk => hk.elim) ?aF ?aO ?aB ?aS ?aL ?_; (case aP => exact rfl); (case aB => exact (by repeat (first | (with_reducible first | exact HB.out | apply below_alloc | apply pw_below_drewN | apply below_drew1 | refine below_set ?_ GE171.out) | exact HB.out))); (case aF => exact (fun _ _ => trivial)); (case aO => exact (KR HO_6)); (case aS => exact (below_size (by repeat (first | (with_reducible first | exact HB.out | apply below_alloc | apply pw_below_drewN | apply below_drew1 | refine below_set ?_ GE171.out) | exact HB.out)))); (case aL => have := LMc21.out; omega); intro v175 w27 ho hb hg hat; rw [← Ny174.out] at ho; have n0_ := Aside0.mk (Kd.R_over' (KR HO_7) (Kd.R_typed (KR HO_6)) (by decide) hg); have n1_ := Aside0.mk (Kd.R_over' (KR HO_18) (Kd.R_typed (KR HO_6)) (by decide) hg); have n2_ := Aside0.mk (blk_grown (g := gb171) (o := .cells #[.int .i64 ((rd_T54 t167 x20_1).f0), .int .i64 ((rd_T54 t167 x20_1).f1), .int .i64 ((rd_T54 t167 x20_1).f2)] 54 (0, 0)) (BW BK171) hg (Kd.R_ne HO_6.out BK171.out (by decide))); have n3_ := Aside0.mk (hb); have n4_ := Aside0.mk (ho); clear HO_7; clear HO_18; clear BK171; clear HB; clear HO_6; have HO_7 := n0_; have HO_18 := n1_; have BK171 := n2_; have HB := n3_; have HO176 := n4_; clear n0_ n1_ n2_ n3_ n4_; clear ho hb hg hat))
           go_roundg k1
           case measure => have := HK1.out; omega
           case rel => exact ⟨(y174), (wrap64 (x20_1 + 1)), RF, H', ⟨by have := HK1.out; omega⟩, ⟨KR HO176⟩, ⟨by (with_reducible repeat (first | apply Kd.R_alloc | apply Kd.R_drewN | apply Kd.R_drew)); exact Kd.R_mono HO_7.out (fun _ hk => trivial)⟩, ⟨by (with_reducible repeat (first | apply Kd.R_alloc | apply Kd.R_drewN | apply Kd.R_drew)); exact Kd.R_mono HO_18.out (fun _ hk => trivial)⟩, ⟨by repeat (first | (with_reducible first | exact HB.out | apply below_alloc | apply pw_below_drewN | apply below_drew1 | refine below_set ?_ GE171.out) | exact HB.out)⟩⟩
          ·rw [if_neg c21] at H
           cases H
         ·replace c20 := Bool.eq_false_iff.mpr c20
          subst c20
          replace H := IN H
          have H' := Aside0.mk H
          clear H
          have p170 : 0 ≤ (x20_1 : Int) := of_decide_eq_true AS
          have q170 : x20_1 < (t167.length : Int) := of_decide_eq_true AS
          obtain ⟨ad170, e170, hx170_0, hx170_1, hx170_2⟩ := at_T54 (Kd.R_reads' HO_18.out).2.2 x20_1 p170 q170
          cases e170
          replace p170 := eq_true p170
          replace q170 := eq_true q170
          try go_wp2_with (first | ((with_reducible refine gate_dst (N := 9) rfl ?_); refine box_event ?hg (N := 9) ?hd (cs := #[.int .i64 0, .int .i64 0, .int .i64 0]) (t := 54) ?hr ?_; (case hd => rfl); (case hg => rfl); (case hr => exact GS); intro gb171 hg w28 hbox hb; have n0_ := Aside0.mk (Kd.R_below (KR HO_6) hb); have n1_ := Aside0.mk (Kd.R_below (Kd.R_elderB (KR HO_7) gb171 (Nat.le_of_eq hg.symm)) hb); have n2_ := Aside0.mk (Kd.R_below (Kd.R_elderB (KR HO_18) gb171 (Nat.le_of_eq hg.symm)) hb); have n3_ := Aside0.mk (below_step BB hb); have n4_ := Aside0.mk (hbox); have n5_ := Aside0.mk ((by rw [hg]; exact (below_size BB) : w.heap.size ≤ gb171)); have n6_ := Aside0.mk ((by rw [hg]; exact (below_size BB) : w.heap.size ≤ gb171)); clear HO_6; clear HO_7; clear HO_18; clear HB; have HO_6 := n0_; have HO_7 := n1_; have HO_18 := n2_; have HB := n3_; have BK171 := n4_; have GW171 := n5_; have GE171 := n6_; clear n0_ n1_ n2_ n3_ n4_ n5_ n6_; clear hb hbox hg; have hcz29_0 : w28.cell? ⟨gb171, 0, none⟩ = some (.int .i64 0) := (blk_cell BK171.out 0).trans rfl; have hcz29_1 : w28.cell? ⟨gb171, 1, none⟩ = some (.int .i64 0) := (blk_cell BK171.out 1).trans rfl; have hcz29_2 : w28.cell? ⟨gb171, 2, none⟩ = some (.int .i64 0) := (blk_cell BK171.out 2).trans rfl; have hfz29_0 := blk_frozen BK171.out 0; have hfz29_1 := blk_frozen BK171.out 1; have hfz29_2 := blk_frozen BK171.out 2))
          have n0_ : Aside0 (Kd.R (Kd.int .i64) 3 (((w28.setCell ⟨gb171, 0, none⟩ (.int .i64 ((rd_T54 t167 x20_1).f0))).setCell ⟨gb171, 1, none⟩ (.int .i64 ((rd_T54 t167 x20_1).f1))).setCell ⟨gb171, 2, none⟩ (.int .i64 ((rd_T54 t167 x20_1).f2))) w.heap.size (fun _ => True) u6 x6_1) := ⟨by (with_reducible repeat (first | apply Kd.R_alloc | apply Kd.R_drewN | apply Kd.R_drew)); exact Kd.R_mono (Kd.R_far (p := ⟨gb171, 2, none⟩) (Kd.R_far (p := ⟨gb171, 1, none⟩) (Kd.R_far (p := ⟨gb171, 0, none⟩) (Kd.R_types HO_6.out BK171.out (by decide)) (fun _ hk => hk.2) (.int .i64 ((rd_T54 t167 x20_1).f0))) (fun _ hk => hk.2) (.int .i64 ((rd_T54 t167 x20_1).f1))) (fun _ hk => hk.2) (.int .i64 ((rd_T54 t167 x20_1).f2))) (fun _ hk => trivial)⟩
          have n1_ : Aside0 (Kd.R k54 54 (((w28.setCell ⟨gb171, 0, none⟩ (.int .i64 ((rd_T54 t167 x20_1).f0))).setCell ⟨gb171, 1, none⟩ (.int .i64 ((rd_T54 t167 x20_1).f1))).setCell ⟨gb171, 2, none⟩ (.int .i64 ((rd_T54 t167 x20_1).f2))) w.heap.size (fun k_ => k_ ≠ gb171) (.slice (some ad170) t167.length co13) t167) := ⟨by (with_reducible repeat (first | apply Kd.R_alloc | apply Kd.R_drewN | apply Kd.R_drew)); exact Kd.R_mono (Kd.R_far (p := ⟨gb171, 2, none⟩) (Kd.R_far (p := ⟨gb171, 1, none⟩) (Kd.R_far (p := ⟨gb171, 0, none⟩) (Kd.R_mono HO_7.out (fun k_ hk => (⟨hk, hk.2⟩ : _ ∧ k_ ≠ gb171))) (fun _ hk => hk.2) (.int .i64 ((rd_T54 t167 x20_1).f0))) (fun _ hk => hk.2) (.int .i64 ((rd_T54 t167 x20_1).f1))) (fun _ hk => hk.2) (.int .i64 ((rd_T54 t167 x20_1).f2))) (fun _ hk => hk.1.2)⟩
          have n2_ : Aside0 (Kd.R k54 54 (((w28.setCell ⟨gb171, 0, none⟩ (.int .i64 ((rd_T54 t167 x20_1).f0))).setCell ⟨gb171, 1, none⟩ (.int .i64 ((rd_T54 t167 x20_1).f1))).setCell ⟨gb171, 2, none⟩ (.int .i64 ((rd_T54 t167 x20_1).f2))) w.heap.size (fun k_ => k_ ≠ gb171) (.slice (some ad170) t167.length co13) t167) := ⟨by (with_reducible repeat (first | apply Kd.R_alloc | apply Kd.R_drewN | apply Kd.R_drew)); exact Kd.R_mono (Kd.R_far (p := ⟨gb171, 2, none⟩) (Kd.R_far (p := ⟨gb171, 1, none⟩) (Kd.R_far (p := ⟨gb171, 0, none⟩) (Kd.R_mono HO_18.out (fun k_ hk => (⟨hk, hk.2⟩ : _ ∧ k_ ≠ gb171))) (fun _ hk => hk.2) (.int .i64 ((rd_T54 t167 x20_1).f0))) (fun _ hk => hk.2) (.int .i64 ((rd_T54 t167 x20_1).f1))) (fun _ hk => hk.2) (.int .i64 ((rd_T54 t167 x20_1).f2))) (fun _ hk => hk.1.2)⟩
          have n3_ : Aside0 ((((w28.setCell ⟨gb171, 0, none⟩ (.int .i64 ((rd_T54 t167 x20_1).f0))).setCell ⟨gb171, 1, none⟩ (.int .i64 ((rd_T54 t167 x20_1).f1))).setCell ⟨gb171, 2, none⟩ (.int .i64 ((rd_T54 t167 x20_1).f2))).heap[gb171]? = some (.cells #[.int .i64 ((rd_T54 t167 x20_1).f0), .int .i64 ((rd_T54 t167 x20_1).f1), .int .i64 ((rd_T54 t167 x20_1).f2)] 54 (0, 0))) := ⟨by (with_reducible repeat (first | refine blk_drewN ?_ _ | refine blk_drew ?_ | refine blk_alloc ?_ _)); refine blk_put (cs := #[.int .i64 ((rd_T54 t167 x20_1).f0), .int .i64 ((rd_T54 t167 x20_1).f1), .int .i64 0]) ?_ 2 _ rfl; (with_reducible repeat (first | refine blk_drewN ?_ _ | refine blk_drew ?_ | refine blk_alloc ?_ _)); refine blk_put (cs := #[.int .i64 ((rd_T54 t167 x20_1).f0), .int .i64 0, .int .i64 0]) ?_ 1 _ rfl; (with_reducible repeat (first | refine blk_drewN ?_ _ | refine blk_drew ?_ | refine blk_alloc ?_ _)); refine blk_put (cs := #[.int .i64 0, .int .i64 0, .int .i64 0]) ?_ 0 _ rfl; (with_reducible repeat (first | refine blk_drewN ?_ _ | refine blk_drew ?_ | refine blk_alloc ?_ _)); exact BK171.out⟩
          have n4_ : Aside0 (Below w.heap.size w (((w28.setCell ⟨gb171, 0, none⟩ (.int .i64 ((rd_T54 t167 x20_1).f0))).setCell ⟨gb171, 1, none⟩ (.int .i64 ((rd_T54 t167 x20_1).f1))).setCell ⟨gb171, 2, none⟩ (.int .i64 ((rd_T54 t167 x20_1).f2)))) := ⟨by repeat (first | (with_reducible first | exact HB.out | apply below_alloc | apply pw_below_drewN | apply below_drew1 | refine below_set ?_ GE171.out) | exact HB.out)⟩
          (try clear HO_6)
          (try clear HO_7)
          (try clear HO_18)
          (try clear BK171)
          (try clear HB)
          generalize (((w28.setCell ⟨gb171, 0, none⟩ (.int .i64 ((rd_T54 t167 x20_1).f0))).setCell ⟨gb171, 1, none⟩ (.int .i64 ((rd_T54 t167 x20_1).f1))).setCell ⟨gb171, 2, none⟩ (.int .i64 ((rd_T54 t167 x20_1).f2))) = w30 at n0_ n1_ n2_ n3_ n4_ ⊢
          have HO_6 := n0_
          have HO_7 := n1_
          have HO_18 := n2_
          have BK171 := n3_
          have HB := n4_
          clear n0_ n1_ n2_ n3_ n4_
          have n0_ := Aside0.mk (Kd.R_drew HO_6.out)
          have n1_ := Aside0.mk (Kd.R_drew HO_7.out)
          have n2_ := Aside0.mk (Kd.R_drew HO_18.out)
          have n3_ := Aside0.mk (blk_drew BK171.out)
          have n4_ := Aside0.mk (below_drew1 HB.out)
          clear HO_6
          clear HO_7
          clear HO_18
          clear BK171
          clear HB
          have HO_6 := n0_
          have HO_7 := n1_
          have HO_18 := n2_
          have BK171 := n3_
          have HB := n4_
          clear n0_ n1_ n2_ n3_ n4_
          have p172 : 0 ≤ (a1 : Int) := of_decide_eq_true AS
          have q172 : a1 < (t167.length : Int) := of_decide_eq_true AS
          obtain ⟨ad172, e172, hx172_0, hx172_1, hx172_2⟩ := at_T54 (Kd.R_reads' HO_7.out).2.2 a1 p172 q172
          obtain rfl : ad170 = ad172 := (by injection e172)
          replace p172 := eq_true p172
          replace q172 := eq_true q172
          refine start_ (n := 6) (S := fun w' => w'.cell? ⟨gb171, 0, none⟩ = some (.int .i64 ((rd_T54 t167 x20_1).f0)) ∧ w'.cell? ⟨gb171, 1, none⟩ = some (.int .i64 ((rd_T54 t167 x20_1).f1)) ∧ w'.cell? ⟨gb171, 2, none⟩ = some (.int .i64 ((rd_T54 t167 x20_1).f2)) ∧ w'.cell? (ad170.add ((a1).toNat * 3)) = some (.int .i64 ((rd_T54 t167 a1).f0)) ∧ w'.cell? ⟨(ad170.add ((a1).toNat * 3)).block, (ad170.add ((a1).toNat * 3)).off + 1, none⟩ = some (.int .i64 ((rd_T54 t167 a1).f1)) ∧ w'.cell? ⟨(ad170.add ((a1).toNat * 3)).block, (ad170.add ((a1).toNat * 3)).off + 2, none⟩ = some (.int .i64 ((rd_T54 t167 a1).f2))) (ds := []) #[false, false, false, false, false, false] (by kernel_rfl) rfl rfl ⟨(blk_cell BK171.out 0).trans rfl, (blk_cell BK171.out 1).trans rfl, (blk_cell BK171.out 2).trans rfl, hx172_0, hx172_1, hx172_2⟩ (fun hHeld => ?_)
          generalize w30.drew = w31 at HO_6 HO_7 HO_18 BK171 HB hx172_0 hx172_1 hx172_2 hHeld ⊢
          refine pure_ (i := 1) (N := some 26) #[false, true, false, false, false, false] rfl rfl (by kernel_rfl) (fun _ _ _ h => h) (Or.inl ⟨by rfl, PW⟩) PU ?_
          refine pure_ (i := 2) (N := some 27) #[false, true, true, false, false, false] rfl rfl (by kernel_rfl) (fun _ _ _ h => h) (Or.inl ⟨by rfl, PW⟩) PU ?_
          refine pure_ (i := 3) (N := some 28) #[false, true, true, true, false, false] rfl rfl (by kernel_rfl) (fun _ _ _ h => h) (Or.inl ⟨by rfl, PW⟩) PU ?_
          refine take_ (i := 0) (N := some 25) #[true, true, true, true, false, false] rfl rfl (by kernel_rfl) (fun _ _ _ h => h) (Or.inl ⟨by rfl, PT⟩) hHeld PU ?_
          refine take_ (i := 4) (N := some 29) #[true, true, true, true, true, false] rfl rfl (by kernel_rfl) (fun _ _ _ h => h) (Or.inl ⟨by rfl, PT⟩) hHeld PU ?_
          refine one_ (i := 5) (N := some 30) #[true, true, true, true, true, true] rfl rfl (by kernel_rfl) (by decide) (fun K hK => ?_)
          refine goes_ Try.func37 (by kernel_rfl) rfl #[.agg #[.int .i64 ((rd_T54 t167 x20_1).f0), .int .i64 ((rd_T54 t167 x20_1).f1), .int .i64 ((rd_T54 t167 x20_1).f2)], .agg #[.int .i64 ((rd_T54 t167 a1).f0), .int .i64 ((rd_T54 t167 a1).f1), .int .i64 ((rd_T54 t167 a1).f2)]] (by rfl) rfl rfl TA ?_
          with_reducible refine (impl_near.calls k1 ((rd_T54 t167 x20_1).f0) ((rd_T54 t167 x20_1).f1) ((rd_T54 t167 x20_1).f2) ((rd_T54 t167 a1).f0) ((rd_T54 t167 a1).f1) ((rd_T54 t167 a1).f2) false _ A19.out).mono ?_
          rintro e w32 ⟨rfl, hb⟩
          have HS3_ := (hb.cell (World.block_lt_of_cell? _ _ (hHeld.2.2.2.1))).trans (hHeld.2.2.2.1)
          have HS4_ := (hb.cell (World.block_lt_of_cell? _ _ (hHeld.2.2.2.2.1))).trans (hHeld.2.2.2.2.1)
          have HS5_ := (hb.cell (World.block_lt_of_cell? _ _ (hHeld.2.2.2.2.2))).trans (hHeld.2.2.2.2.2)
          refine ⟨_, rfl, ?_⟩
          have n0_ := Aside0.mk (Kd.R_below (KR HO_6) hb)
          have n1_ := Aside0.mk (Kd.R_below (KR HO_7) hb)
          have n2_ := Aside0.mk (Kd.R_below (KR HO_18) hb)
          have n3_ := Aside0.mk (blk_below (g := gb171) (o := .cells #[.int .i64 ((rd_T54 t167 x20_1).f0), .int .i64 ((rd_T54 t167 x20_1).f1), .int .i64 ((rd_T54 t167 x20_1).f2)] 54 (0, 0)) (BW BK171) hb)
          have n4_ := Aside0.mk (below_step (by repeat (first | (with_reducible first | exact HB.out | apply below_alloc | apply pw_below_drewN | apply below_drew1 | refine below_set ?_ GE171.out) | exact HB.out)) hb)
          clear HO_6
          clear HO_7
          clear HO_18
          clear BK171
          clear HB
          have HO_6 := n0_
          have HO_7 := n1_
          have HO_18 := n2_
          have BK171 := n3_
          have HB := n4_
          clear n0_ n1_ n2_ n3_ n4_
          (try clear hb)
          (try clear hb2)
          (try clear hk)
          (try clear hi)
          refine hK.out _ _ ⟨(blk_cell BK171.out 0).trans rfl, (blk_cell BK171.out 1).trans rfl, (blk_cell BK171.out 2).trans rfl, HS3_, HS4_, HS5_⟩ (fun hHeld => ?_)
          clear hK K
          refine norm_ (a' := ?_) ?_ ?_
          rotate_left
          ·show Act.put _ (some 30) _ = _
           simp only [Act.put, List.setIfInBounds_toArray, List.set_cons_zero, List.set_cons_succ, i64_w, i32_w]
           rfl
          refine done_ (by kernel_rfl) ?_
          try go_wp2
          go_roundg k1
          case measure => have := HK1.out; omega
          case rel => exact ⟨(x6_1), (wrap64 (x20_1 + 1)), RF, H', ⟨by have := HK1.out; omega⟩, ⟨KR HO_6⟩, ⟨by (with_reducible repeat (first | apply Kd.R_alloc | apply Kd.R_drewN | apply Kd.R_drew)); exact Kd.R_mono HO_7.out (fun _ hk => trivial)⟩, ⟨by (with_reducible repeat (first | apply Kd.R_alloc | apply Kd.R_drewN | apply Kd.R_drew)); exact Kd.R_mono HO_18.out (fun _ hk => trivial)⟩, ⟨by repeat (first | (with_reducible first | exact HB.out | apply below_alloc | apply pw_below_drewN | apply below_drew1 | refine below_set ?_ GE171.out) | exact HB.out)⟩⟩
        ·rw [if_neg c18] at H
         cases H
       ·rw [if_neg c17] at H
        cases H
      ·rw [if_neg c16] at H
       cases H
     ·rw [if_neg c15] at H
      cases H
    ·rw [if_neg c14] at H
     have c14b0 : decide (x20_1 < (t167.length : Int)) = false := decide_eq_false c14
     clear c14
     simp only [Option.some.injEq, Prod.mk.injEq] at H
     obtain ⟨rfl, rfl⟩ := H
     go_wp2
     go_ret2
     exact ⟨_, RE, KR HO_6, BB⟩
 ·replace c4 := Bool.eq_false_iff.mpr c4
  subst c4
  replace H := IN H
  simp only [Option.some.injEq, Prod.mk.injEq] at H
  obtain ⟨rfl, rfl⟩ := H
  go_enter Try.func8, Try.ntmps8
  go_wp2_with (first | ((with_reducible refine gate_dst (N := 12) rfl ?_); refine Kd.R_lit (Kd.int .i64) _ 3 ?hg (N := 12) ?hd (xs := ([a1] : List Int)) (inner := [.int .i64 a1]) (ok := fun _ => True) (okp := fun _ => True) ?hr ?hp (fun _ hk => hk) trivial (Below.refl _ _) (Nat.le_refl _) (by simp) ?_; (case hd => rfl); (case hg => rfl); (case hr => exact GS); (case hp => exact (Reps.one (show Kd.M (Kd.int .i64) _ _ _ a1 [.int .i64 a1] from rfl) (Reps.none _ _))); intro v161 w33 ho34 hb hg_ hnew_; clear hg_ hnew_; (first | rw [← Ny160.out] at ho34 | (simp only [Int.reduceToNat] at ho34; rw [← Ny160.out] at ho34)); have n0_ := Aside0.mk (Kd.R_lower ho34 (below_size BB)); have n1_ := Aside0.mk (below_step BB hb); clear HB; have HO162 := n0_; have HB := n1_; clear n0_ n1_; clear hb ho34; obtain ⟨Ao35, co35, eo35⟩ := Kd.R_slice HO162.out; subst eo35) | ((with_reducible refine gate_callee (f := 33) rfl ?_); refine goesL_ (some 13) rfl rfl Try.func33 (by kernel_rfl) rfl #[.int .i64 a0, .slice Ao35 y160.length co35] rfl TA ?_; (with_reducible refine (impl_isPoint.calls k a0 _ _ y160 false _ ?side1 ?side2 A3.out).mono ?_); (case side1 => exact CW (Kd.R_reads' HO162.out).2.2); (case side2 => exact (Kd.R_reads' HO162.out).2.1); rintro e w36 ⟨rfl, hb⟩; refine ⟨_, rfl, ?_⟩; have n0_ := Aside0.mk (Kd.R_below (KR HO162) hb); have n1_ := Aside0.mk (below_step BB hb); clear HO162; clear HB; have HO162 := n0_; have HB := n1_; clear n0_ n1_; (try clear hb); (try clear hb2); (try clear hk); (try clear hi)))
  go_ret2
  exact ⟨_, RE, by first | exact Kd.R_nil _ _ _ _ _ | exact Kd.N_nil _ _ _ _ _ | exact Kd.V_nil _ _ _ _ _ | exact Kd.Q_nil _ _ _ _ _ | exact Kd.S_nil _ _ _ _ _, BB⟩

/-! ### spec_l1Most: function 65 -/
def spec_l1Most.f (a0 : Int) (a1 : Int) : Option (Int) := if a0 > a1 then (some a0) else (some a1)
theorem spec_l1Most.calls (a0 : Int) (a1 : Int) (r : Int) (w : World) (h : spec_l1Most.f a0 a1 = some r) :
  Calls Try.prog 65 #[.int .i64 a0, .int .i64 a1] w fun e w' => e = .returned (.int .i64 r) ∧ Drawn0 w w' := by
 have H : (if a0 > a1 then (some a0) else (some a1)) = some r := h
 clear h
 by_cases c3 : a0 > a1
 ·rw [if_pos c3] at H
  have c3b0 : decide (a1 < a0) = true := decide_eq_true c3
  clear c3
  obtain rfl := Option.some.inj H
  go_enter Try.func65, Try.ntmps65
  go_wp2
  go_ret
  exact ⟨RF, DR⟩
 ·rw [if_neg c3] at H
  have c3b0 : decide (a1 < a0) = false := decide_eq_false c3
  clear c3
  obtain rfl := Option.some.inj H
  go_enter Try.func65, Try.ntmps65
  go_wp2
  go_ret
  exact ⟨RF, DR⟩

/-! ### spec_l1Abs: function 62 -/
def spec_l1Abs.f (a0 : Int) : Option (Int) := (spec_l1Most.f a0 (wrap64 (-a0))).bind fun t177 => (some t177)
theorem spec_l1Abs.calls (a0 : Int) (r : Int) (w : World) (h : spec_l1Abs.f a0 = some r) :
  Calls Try.prog 62 #[.int .i64 a0] w fun e w' => e = .returned (.int .i64 r) ∧ Drawn0 w w' := by
 have H : ((spec_l1Most.f a0 (wrap64 (-a0))).bind fun t177 => (some t177)) = some r := h
 clear h
 replace H := EA H
 obtain ⟨t177, A2, H⟩ := H
 obtain rfl := Option.some.inj H
 go_enter Try.func62, Try.ntmps62
 go_wp2_with (first | ((with_reducible refine gate_callee (f := 65) rfl ?_); refine goesL_ (some 6) rfl rfl Try.func65 (by kernel_rfl) rfl #[.int .i64 a0, .int .i64 (wrap64 (-a0))] rfl TA ?_; (with_reducible refine (spec_l1Most.calls a0 (wrap64 (-a0)) t177 _ A2.out).mono ?_); rintro e w' ⟨rfl, ⟨nd, rfl⟩⟩; refine ⟨_, rfl, ?_⟩))
 go_ret
 exact ⟨RF, DR⟩

/-! ### spec_meNear: function 39 -/
def spec_meNear.l0 : Nat → List Int → List Int → Int → Int → Int → Option (Bool)
 | 0, _, _, _, _, _ => none
 | k + 1, x7, x8, x9, x18, x19 => if x19 < x18 then (if 0 ≤ x19 then (if x19 < (x7.length : Int) then (if x19 < (x8.length : Int) then ((spec_l1Abs.f (wrap64 ((rd x7 x19) - (rd x8 x19)))).bind fun t186 => (if t186 > 1 then (some false) else (spec_meNear.l0 k x7 x8 (wrap64 (x9 + t186)) x18 (wrap64 (x19 + 1))))) else (none)) else (none)) else (none)) else (some (x9 == 2))
def spec_meNear.f (k : Nat) (a0 : Int) (a1 : Int) (a2 : Int) : Option (Bool) := (spec_meAt.f k a0 a1).bind fun t178 => ((spec_meAt.f k a0 a2).bind fun t181 => (spec_meNear.l0 k t178 t181 0 (t178.length : Int) 0))
theorem spec_meNear.mono_l : ∀ k, (∀ y0 y1 y2 y3 y4, LeO (spec_meNear.l0 k y0 y1 y2 y3 y4) (spec_meNear.l0 (k + 1) y0 y1 y2 y3 y4))
 | 0 => fun _ _ _ _ _ r h => by simp [spec_meNear.l0] at h
 | k + 1 => by
  have ih0 := spec_meNear.mono_l k
  ·intro y0 y1 y2 y3 y4
   unfold spec_meNear.l0
   repeat' first
   | with_reducible first | exact ih0 _ _ _ _ _ | exact spec_meAt.mono _ _ _ | exact LeO.refl _ | exact LeO.none _ | refine LeO.ite ?_ ?_ | refine LeO.bind ?_ (fun _ => ?_)
   | exact LeO.none _ | refine LeO.ite ?_ ?_ | refine LeO.bind ?_ (fun _ => ?_)
theorem spec_meNear.mono : ∀ a0 a1 a2 k, LeO (spec_meNear.f k a0 a1 a2) (spec_meNear.f (k + 1) a0 a1 a2) := by
 intro a0 a1 a2 k
 have ih0 := spec_meNear.mono_l k
 unfold spec_meNear.f
 repeat' first
   | with_reducible first | exact ih0 _ _ _ _ _ | exact spec_meAt.mono _ _ _ | exact LeO.refl _ | exact LeO.none _ | refine LeO.ite ?_ ?_ | refine LeO.bind ?_ (fun _ => ?_)
   | exact LeO.none _ | refine LeO.ite ?_ ?_ | refine LeO.bind ?_ (fun _ => ?_)
theorem spec_meNear.calls (k : Nat) (a0 : Int) (a1 : Int) (a2 : Int) (r : Bool) (w : World) (h : spec_meNear.f k a0 a1 a2 = some r) :
  Calls Try.prog 39 #[.int .i64 a0, .int .i64 a1, .int .i64 a2] w fun e w' => e = .returned (.bool r) ∧ Below w.heap.size w w' := by
 have HB := Aside0.mk (Below.refl w.heap.size w)
 have H : ((spec_meAt.f k a0 a1).bind fun t178 => ((spec_meAt.f k a0 a2).bind fun t181 => (spec_meNear.l0 k t178 t181 0 (t178.length : Int) 0))) = some r := h
 clear h
 replace H := EA H
 obtain ⟨t178, A4, H⟩ := H
 replace H := EA H
 obtain ⟨t181, A5, H⟩ := H
 have H' := Aside0.mk H
 clear H
 go_enter Try.func39, Try.ntmps39
 go_wp2_with (first | (go_at_call 36; (with_reducible refine (spec_meAt.calls k a0 a1 t178 _ A4.out).mono ?_); rintro e w6 ⟨v179, rfl, ho0, hb⟩; have n0_ := Aside0.mk (Kd.R_lower ho0 (below_size BB)); have n1_ := Aside0.mk (below_step BB hb); clear HB; have HO180 := n0_; have HB := n1_; clear n0_ n1_; (try clear hb); (try clear hb2); (try clear hk); (try clear hi); (try clear ho0)) | (go_at_call 36; (with_reducible refine (spec_meAt.calls k a0 a2 t181 _ A5.out).mono ?_); rintro e w7 ⟨v182, rfl, ho0, hb⟩; have n0_ := Aside0.mk (Kd.R_elder' (KR HO180) (Kd.R_base ho0) hb); have n1_ := Aside0.mk (Kd.R_lower (Kd.R_new' ho0 (Kd.R_lt (KR HO180))) (below_size BB)); have n2_ := Aside0.mk (below_step BB hb); clear HO180; clear HB; have HO180 := n0_; have HO183 := n1_; have HB := n2_; clear n0_ n1_ n2_; (try clear hb); (try clear hb2); (try clear hk); (try clear hi); (try clear ho0); obtain ⟨Ao8, co8, eo8⟩ := Kd.R_slice HO180.out; subst eo8))
 repeat (go_quiet (first | (go_at_call 36; (with_reducible refine (spec_meAt.calls k a0 a1 t178 _ A4.out).mono ?_); rintro e w6 ⟨v179, rfl, ho0, hb⟩; have n0_ := Aside0.mk (Kd.R_lower ho0 (below_size BB)); have n1_ := Aside0.mk (below_step BB hb); clear HB; have HO180 := n0_; have HB := n1_; clear n0_ n1_; (try clear hb); (try clear hb2); (try clear hk); (try clear hi); (try clear ho0)) | (go_at_call 36; (with_reducible refine (spec_meAt.calls k a0 a2 t181 _ A5.out).mono ?_); rintro e w7 ⟨v182, rfl, ho0, hb⟩; have n0_ := Aside0.mk (Kd.R_elder' (KR HO180) (Kd.R_base ho0) hb); have n1_ := Aside0.mk (Kd.R_lower (Kd.R_new' ho0 (Kd.R_lt (KR HO180))) (below_size BB)); have n2_ := Aside0.mk (below_step BB hb); clear HO180; clear HB; have HO180 := n0_; have HO183 := n1_; have HB := n2_; clear n0_ n1_ n2_; (try clear hb); (try clear hb2); (try clear hk); (try clear hi); (try clear ho0); obtain ⟨Ao8, co8, eo8⟩ := Kd.R_slice HO180.out; subst eo8)); try go_wp2_with (first | (go_at_call 36; (with_reducible refine (spec_meAt.calls k a0 a1 t178 _ A4.out).mono ?_); rintro e w6 ⟨v179, rfl, ho0, hb⟩; have n0_ := Aside0.mk (Kd.R_lower ho0 (below_size BB)); have n1_ := Aside0.mk (below_step BB hb); clear HB; have HO180 := n0_; have HB := n1_; clear n0_ n1_; (try clear hb); (try clear hb2); (try clear hk); (try clear hi); (try clear ho0)) | (go_at_call 36; (with_reducible refine (spec_meAt.calls k a0 a2 t181 _ A5.out).mono ?_); rintro e w7 ⟨v182, rfl, ho0, hb⟩; have n0_ := Aside0.mk (Kd.R_elder' (KR HO180) (Kd.R_base ho0) hb); have n1_ := Aside0.mk (Kd.R_lower (Kd.R_new' ho0 (Kd.R_lt (KR HO180))) (below_size BB)); have n2_ := Aside0.mk (below_step BB hb); clear HO180; clear HB; have HO180 := n0_; have HO183 := n1_; have HB := n2_; clear n0_ n1_ n2_; (try clear hb); (try clear hb2); (try clear hk); (try clear hi); (try clear ho0); obtain ⟨Ao8, co8, eo8⟩ := Kd.R_slice HO180.out; subst eo8)))
 go_loopg [9, 19] k (fun kq v9 v19 w' => ∃ (x9_1 : Int) (x19_1 : Int), v9 = .int .i64 x9_1 ∧ v19 = .int .i64 x19_1 ∧ Aside0 (spec_meNear.l0 kq t178 t181 x9_1 (t178.length : Int) x19_1 = some r) ∧ Aside0 (kq ≤ k) ∧ Aside0 (Kd.R (Kd.int .i64) 3 w' w.heap.size (fun k_ => some k_ ≠ (v182 : Value).ownBlock) (.slice Ao8 t178.length co8) t178) ∧ Aside0 (Kd.R (Kd.int .i64) 3 w' w.heap.size (fun k_ => some k_ ≠ ((.slice Ao8 t178.length co8) : Value).ownBlock) v182 t181) ∧ Aside0 (Below w.heap.size w w'))
 case atStart => exact ⟨(0), (0), RF, RF, H', ⟨Nat.le_refl _⟩, ⟨by (with_reducible repeat (first | apply Kd.R_alloc | apply Kd.R_drewN | apply Kd.R_drew)); exact Kd.R_mono HO180.out (fun _ hk => hk.2)⟩, ⟨by (with_reducible repeat (first | apply Kd.R_alloc | apply Kd.R_drewN | apply Kd.R_drew)); exact Kd.R_mono HO183.out (fun _ hk => hk.2)⟩, ⟨BB⟩⟩
 case round =>
  clear H'
  try clear p2
  try clear c3
  try clear p6
  obtain ⟨x9_1, x19_1, rfl, rfl, HA, HK1, HO_7, HO_8, HB⟩ := hrel
  cases gk with
  | zero => exact absurd HA.out (by simp [spec_meNear.l0])
  | succ k1 =>
   have H := HA.out
   clear HA
   simp only [spec_meNear.l0] at H
   by_cases c9 : x19_1 < (t178.length : Int)
   ·rw [if_pos c9] at H
    have c9b0 : decide (x19_1 < (t178.length : Int)) = true := decide_eq_true c9
    clear c9
    by_cases c10 : 0 ≤ x19_1
    ·rw [if_pos c10] at H
     have c10b0 : decide (0 ≤ x19_1) = true := decide_eq_true c10
     clear c10
     by_cases c11 : x19_1 < (t178.length : Int)
     ·rw [if_pos c11] at H
      have c11b0 : decide (x19_1 < (t178.length : Int)) = true := decide_eq_true c11
      clear c11
      by_cases c12 : x19_1 < (t181.length : Int)
      ·rw [if_pos c12] at H
       have c12b0 : decide (x19_1 < (t181.length : Int)) = true := decide_eq_true c12
       clear c12
       replace H := EA H
       obtain ⟨t186, A13, H⟩ := H
       by_cases c14 : t186 > 1
       ·rw [if_pos c14] at H
        have c14b0 : decide (1 < t186) = true := decide_eq_true c14
        clear c14
        obtain rfl := Option.some.inj H
        have p184 : 0 ≤ (x19_1 : Int) := of_decide_eq_true AS
        have q184 : x19_1 < (t178.length : Int) := of_decide_eq_true AS
        obtain ⟨ad184, e184, hx184_0⟩ := Kd.at_int (Kd.R_reads' HO_7.out).2.2 x19_1 p184 q184
        cases e184
        replace p184 := eq_true p184
        replace q184 := eq_true q184
        obtain ⟨Ao15, co15, eo15⟩ := Kd.R_slice HO_8.out
        subst eo15
        have p185 : 0 ≤ (x19_1 : Int) := of_decide_eq_true AS
        have q185 : x19_1 < (t181.length : Int) := of_decide_eq_true AS
        obtain ⟨ad185, e185, hx185_0⟩ := Kd.at_int (Kd.R_reads' HO_8.out).2.2 x19_1 p185 q185
        cases e185
        replace p185 := eq_true p185
        replace q185 := eq_true q185
        go_wp2_with (first | (go_at_call 62; (with_reducible refine (spec_l1Abs.calls (wrap64 ((rd t178 x19_1) - (rd t181 x19_1))) t186 _ A13.out).mono ?_); rintro e w' ⟨rfl, ⟨nd, rfl⟩⟩; (try first | exact ⟨rfl, _, World.drewN_drewN _ _ _⟩ | exact ⟨rfl, _, Eq.trans (World.drewN_drewN _ _ _) (congrArg (World.drewN _) (Nat.add_assoc _ _ _))⟩)))
        repeat (go_quiet (first | (go_at_call 62; (with_reducible refine (spec_l1Abs.calls (wrap64 ((rd t178 x19_1) - (rd t181 x19_1))) t186 _ A13.out).mono ?_); rintro e w' ⟨rfl, ⟨nd, rfl⟩⟩; (try first | exact ⟨rfl, _, World.drewN_drewN _ _ _⟩ | exact ⟨rfl, _, Eq.trans (World.drewN_drewN _ _ _) (congrArg (World.drewN _) (Nat.add_assoc _ _ _))⟩))); try go_wp2_with (first | (go_at_call 62; (with_reducible refine (spec_l1Abs.calls (wrap64 ((rd t178 x19_1) - (rd t181 x19_1))) t186 _ A13.out).mono ?_); rintro e w' ⟨rfl, ⟨nd, rfl⟩⟩; (try first | exact ⟨rfl, _, World.drewN_drewN _ _ _⟩ | exact ⟨rfl, _, Eq.trans (World.drewN_drewN _ _ _) (congrArg (World.drewN _) (Nat.add_assoc _ _ _))⟩))))
        go_ret
        exact ⟨RE, BB⟩
       ·rw [if_neg c14] at H
        have c14b0 : decide (1 < t186) = false := decide_eq_false c14
        clear c14
        have H' := Aside0.mk H
        clear H
        have p184 : 0 ≤ (x19_1 : Int) := of_decide_eq_true AS
        have q184 : x19_1 < (t178.length : Int) := of_decide_eq_true AS
        obtain ⟨ad184, e184, hx184_0⟩ := Kd.at_int (Kd.R_reads' HO_7.out).2.2 x19_1 p184 q184
        cases e184
        replace p184 := eq_true p184
        replace q184 := eq_true q184
        obtain ⟨Ao16, co16, eo16⟩ := Kd.R_slice HO_8.out
        subst eo16
        have p185 : 0 ≤ (x19_1 : Int) := of_decide_eq_true AS
        have q185 : x19_1 < (t181.length : Int) := of_decide_eq_true AS
        obtain ⟨ad185, e185, hx185_0⟩ := Kd.at_int (Kd.R_reads' HO_8.out).2.2 x19_1 p185 q185
        cases e185
        replace p185 := eq_true p185
        replace q185 := eq_true q185
        go_wp2_with (first | (go_at_call 62; (with_reducible refine (spec_l1Abs.calls (wrap64 ((rd t178 x19_1) - (rd t181 x19_1))) t186 _ A13.out).mono ?_); rintro e w' ⟨rfl, ⟨nd, rfl⟩⟩; (first | exact ⟨rfl, _, World.drewN_drewN _ _ _⟩ | exact ⟨rfl, _, Eq.trans (World.drewN_drewN _ _ _) (congrArg (World.drewN _) (Nat.add_assoc _ _ _))⟩)) | (go_at_call 62; (with_reducible refine (spec_l1Abs.calls (wrap64 ((rd t178 x19_1) - (rd t181 x19_1))) t186 _ A13.out).mono ?_); rintro e w' ⟨rfl, ⟨nd, rfl⟩⟩; have p187 : 0 ≤ (x19_1 : Int) := of_decide_eq_true AS; have q187 : x19_1 < (t178.length : Int) := of_decide_eq_true AS; obtain ⟨ad187, e187, hx187_0⟩ := Kd.at_int (Kd.R_reads' HO_7.out).2.2 x19_1 p187 q187; obtain rfl : ad184 = ad187 := (by injection e187); replace p187 := eq_true p187; replace q187 := eq_true q187; have p188 : 0 ≤ (x19_1 : Int) := of_decide_eq_true AS; have q188 : x19_1 < (t181.length : Int) := of_decide_eq_true AS; obtain ⟨ad188, e188, hx188_0⟩ := Kd.at_int (Kd.R_reads' HO_8.out).2.2 x19_1 p188 q188; obtain rfl : ad185 = ad188 := (by injection e188); replace p188 := eq_true p188; replace q188 := eq_true q188))
        repeat (go_quiet (first | (go_at_call 62; (with_reducible refine (spec_l1Abs.calls (wrap64 ((rd t178 x19_1) - (rd t181 x19_1))) t186 _ A13.out).mono ?_); rintro e w' ⟨rfl, ⟨nd, rfl⟩⟩; (first | exact ⟨rfl, _, World.drewN_drewN _ _ _⟩ | exact ⟨rfl, _, Eq.trans (World.drewN_drewN _ _ _) (congrArg (World.drewN _) (Nat.add_assoc _ _ _))⟩)) | (go_at_call 62; (with_reducible refine (spec_l1Abs.calls (wrap64 ((rd t178 x19_1) - (rd t181 x19_1))) t186 _ A13.out).mono ?_); rintro e w' ⟨rfl, ⟨nd, rfl⟩⟩; have p187 : 0 ≤ (x19_1 : Int) := of_decide_eq_true AS; have q187 : x19_1 < (t178.length : Int) := of_decide_eq_true AS; obtain ⟨ad187, e187, hx187_0⟩ := Kd.at_int (Kd.R_reads' HO_7.out).2.2 x19_1 p187 q187; obtain rfl : ad184 = ad187 := (by injection e187); replace p187 := eq_true p187; replace q187 := eq_true q187; have p188 : 0 ≤ (x19_1 : Int) := of_decide_eq_true AS; have q188 : x19_1 < (t181.length : Int) := of_decide_eq_true AS; obtain ⟨ad188, e188, hx188_0⟩ := Kd.at_int (Kd.R_reads' HO_8.out).2.2 x19_1 p188 q188; obtain rfl : ad185 = ad188 := (by injection e188); replace p188 := eq_true p188; replace q188 := eq_true q188)); try go_wp2_with (first | (go_at_call 62; (with_reducible refine (spec_l1Abs.calls (wrap64 ((rd t178 x19_1) - (rd t181 x19_1))) t186 _ A13.out).mono ?_); rintro e w' ⟨rfl, ⟨nd, rfl⟩⟩; (first | exact ⟨rfl, _, World.drewN_drewN _ _ _⟩ | exact ⟨rfl, _, Eq.trans (World.drewN_drewN _ _ _) (congrArg (World.drewN _) (Nat.add_assoc _ _ _))⟩)) | (go_at_call 62; (with_reducible refine (spec_l1Abs.calls (wrap64 ((rd t178 x19_1) - (rd t181 x19_1))) t186 _ A13.out).mono ?_); rintro e w' ⟨rfl, ⟨nd, rfl⟩⟩; have p187 : 0 ≤ (x19_1 : Int) := of_decide_eq_true AS; have q187 : x19_1 < (t178.length : Int) := of_decide_eq_true AS; obtain ⟨ad187, e187, hx187_0⟩ := Kd.at_int (Kd.R_reads' HO_7.out).2.2 x19_1 p187 q187; obtain rfl : ad184 = ad187 := (by injection e187); replace p187 := eq_true p187; replace q187 := eq_true q187; have p188 : 0 ≤ (x19_1 : Int) := of_decide_eq_true AS; have q188 : x19_1 < (t181.length : Int) := of_decide_eq_true AS; obtain ⟨ad188, e188, hx188_0⟩ := Kd.at_int (Kd.R_reads' HO_8.out).2.2 x19_1 p188 q188; obtain rfl : ad185 = ad188 := (by injection e188); replace p188 := eq_true p188; replace q188 := eq_true q188)))
        go_roundg k1
        case measure => have := HK1.out; omega
        case rel => exact ⟨(wrap64 (x9_1 + t186)), (wrap64 (x19_1 + 1)), RF, RF, H', ⟨by have := HK1.out; omega⟩, ⟨KR HO_7⟩, ⟨KR HO_8⟩, ⟨BB⟩⟩
      ·rw [if_neg c12] at H
       cases H
     ·rw [if_neg c11] at H
      cases H
    ·rw [if_neg c10] at H
     cases H
   ·rw [if_neg c9] at H
    have c9b0 : decide (x19_1 < (t178.length : Int)) = false := decide_eq_false c9
    clear c9
    obtain rfl := Option.some.inj H
    go_wp2
    repeat (go_quiet (fail); try go_wp2)
    go_ret
    exact ⟨RE, BB⟩

/-! ### spec_NeighboursOf: function 9 -/
def spec_NeighboursOf.l0 : Nat → Int → Int → List Int → Int → Option (List Int × Bool)
 | 0, _, _, _, _ => none
 | k + 1, x0, x1, x6, x7 => (spec_meCount.f x0).bind fun t190 => (if x7 < t190 then ((spec_meNear.f k x0 x1 x7).bind fun t191 => (if t191 = true then (if x6.length < 17592186044416 then (spec_NeighboursOf.l0 k x0 x1 (x6 ++ [x7]) (wrap64 (x7 + 1))) else (none)) else (spec_NeighboursOf.l0 k x0 x1 x6 (wrap64 (x7 + 1))))) else (some (x6, true)))
def spec_NeighboursOf.f (k : Nat) (a0 : Int) (a1 : Int) : Option (List Int × Bool) := (spec_mePoint.f a0 a1).bind fun t189 => (if t189 = true then (spec_NeighboursOf.l0 k a0 a1 ([] : List Int) 0) else (some (([] : List Int), false)))
theorem spec_NeighboursOf.mono_l : ∀ k, (∀ y0 y1 y2 y3, LeO (spec_NeighboursOf.l0 k y0 y1 y2 y3) (spec_NeighboursOf.l0 (k + 1) y0 y1 y2 y3))
 | 0 => fun _ _ _ _ r h => by simp [spec_NeighboursOf.l0] at h
 | k + 1 => by
  have ih0 := spec_NeighboursOf.mono_l k
  ·intro y0 y1 y2 y3
   unfold spec_NeighboursOf.l0
   repeat' first
   | with_reducible first | exact ih0 _ _ _ _ | exact spec_meNear.mono _ _ _ _ | exact LeO.refl _ | exact LeO.none _ | refine LeO.ite ?_ ?_ | refine LeO.bind ?_ (fun _ => ?_)
   | exact LeO.none _ | refine LeO.ite ?_ ?_ | refine LeO.bind ?_ (fun _ => ?_)
theorem spec_NeighboursOf.mono : ∀ a0 a1 k, LeO (spec_NeighboursOf.f k a0 a1) (spec_NeighboursOf.f (k + 1) a0 a1) := by
 intro a0 a1 k
 have ih0 := spec_NeighboursOf.mono_l k
 unfold spec_NeighboursOf.f
 repeat' first
   | with_reducible first | exact ih0 _ _ _ _ | exact spec_meNear.mono _ _ _ _ | exact LeO.refl _ | exact LeO.none _ | refine LeO.ite ?_ ?_ | refine LeO.bind ?_ (fun _ => ?_)
   | exact LeO.none _ | refine LeO.ite ?_ ?_ | refine LeO.bind ?_ (fun _ => ?_)
theorem spec_NeighboursOf.calls (k : Nat) (a0 : Int) (a1 : Int) (r1 : List Int) (r2 : Bool) (w : World) (h : spec_NeighboursOf.f k a0 a1 = some (r1, r2)) :
  Calls Try.prog 9 #[.int .i64 a0, .int .i64 a1] w fun e w' => ∃ v0_ : Value, e = .returned (.tuple #[v0_, .bool r2]) ∧ Kd.R (Kd.int .i64) 3 w' w.heap.size (fun _ => True) v0_ r1 ∧ Below w.heap.size w w' := by
 have HB := Aside0.mk (Below.refl w.heap.size w)
 have H : ((spec_mePoint.f a0 a1).bind fun t189 => (if t189 = true then (spec_NeighboursOf.l0 k a0 a1 ([] : List Int) 0) else (some (([] : List Int), false)))) = some (r1, r2) := h
 clear h
 replace H := EA H
 obtain ⟨t189, A3, H⟩ := H
 by_cases c4 : t189 = true
 ·subst c4
  replace H := IP H
  have H' := Aside0.mk H
  clear H
  go_enter Try.func9, Try.ntmps9
  go_wp2_with (first | ((with_reducible refine gate_callee (f := 35) rfl ?_); refine goesL_ (some 10) rfl rfl Try.func35 (by kernel_rfl) rfl #[.int .i64 a0, .int .i64 a1] rfl TA ?_; (with_reducible refine (spec_mePoint.calls a0 a1 true _ A3.out).mono ?_); rintro e w' ⟨rfl, ⟨nd, rfl⟩⟩; refine ⟨_, rfl, ?_⟩))
  go_loopg [6, 7] k (fun kq v6 v7 w' => ∃ (x6_1 : List Int) (x7_1 : Int), v7 = .int .i64 x7_1 ∧ Aside0 (spec_NeighboursOf.l0 kq a0 a1 x6_1 x7_1 = some (r1, r2)) ∧ Aside0 (kq ≤ k) ∧ Aside0 (Kd.R (Kd.int .i64) 3 w' w.heap.size (fun _ => True) v6 x6_1) ∧ Aside0 (Below w.heap.size w w'))
  case atStart => exact ⟨(([] : List Int)), (0), RF, H', ⟨Nat.le_refl _⟩, ⟨by first | exact Kd.R_nil _ _ _ _ _ | exact Kd.N_nil _ _ _ _ _ | exact Kd.V_nil _ _ _ _ _ | exact Kd.Q_nil _ _ _ _ _ | exact Kd.S_nil _ _ _ _ _⟩, ⟨BB⟩⟩
  case round =>
   clear H'
   try clear p2
   try clear c3
   try clear c4
   obtain ⟨x6_1, x7_1, rfl, HA, HK1, HO_6, HB⟩ := hrel
   cases gk with
   | zero => exact absurd HA.out (by simp [spec_NeighboursOf.l0])
   | succ k1 =>
    have H := HA.out
    clear HA
    simp only [spec_NeighboursOf.l0] at H
    replace H := EA H
    obtain ⟨t190, A5, H⟩ := H
    by_cases c6 : x7_1 < t190
    ·rw [if_pos c6] at H
     have c6b0 : decide (x7_1 < t190) = true := decide_eq_true c6
     clear c6
     replace H := EA H
     obtain ⟨t191, A7, H⟩ := H
     by_cases c8 : t191 = true
     ·subst c8
      replace H := IP H
      by_cases c9 : x6_1.length < 17592186044416
      ·rw [if_pos c9] at H
       have LMc9 := Aside0.mk c9
       clear c9
       obtain ⟨y192, hy192⟩ : ∃ y_ : List Int, y_ = (x6_1 ++ [x7_1]) := ⟨_, rfl⟩
       replace H : (spec_NeighboursOf.l0 k1 a0 a1 y192 (wrap64 (x7_1 + 1))) = some (r1, r2) := HY H hy192
       have Ny192 := Aside0.mk hy192
       clear hy192
       have H' := Aside0.mk H
       clear H
       go_wp2_with (first | ((with_reducible refine gate_callee (f := 38) rfl ?_); refine goesL_ (some 14) rfl rfl Try.func38 (by kernel_rfl) rfl #[.int .i64 a0] rfl TA ?_; (with_reducible refine (spec_meCount.calls a0 t190 _ A5.out).mono ?_); rintro e w' ⟨rfl, ⟨nd, rfl⟩⟩; refine ⟨_, rfl, ?_⟩) | ((with_reducible refine gate_callee (f := 39) rfl ?_); refine goesL_ (some 21) rfl rfl Try.func39 (by kernel_rfl) rfl #[.int .i64 a0, .int .i64 a1, .int .i64 x7_1] rfl TA ?_; (with_reducible refine (spec_meNear.calls k1 a0 a1 x7_1 true _ A7.out).mono ?_); rintro e w10 ⟨rfl, hb⟩; refine ⟨_, rfl, ?_⟩; have n0_ := Aside0.mk (Kd.R_below (KR HO_6) hb); have n1_ := Aside0.mk (below_step BB hb); clear HO_6; clear HB; have HO_6 := n0_; have HB := n1_; clear n0_ n1_; (try clear hb); (try clear hb2); (try clear hk); (try clear hi)) | ((with_reducible refine gate_builtin (b := .append) (xs := #[.tmp 22, .tmp 24]) rfl ?_); at_builtin; refine Kd.R_append (Kd.int .i64) (w0 := w) w.heap.size rfl (.tmp 22) (.tmp 24) 26 3 (.int .i64 0) 8 rfl Try.underlying26 info3 rfl (by decide) (by omega) u6 x6_1 x7_1 [.int .i64 x7_1] (fun _ => True) (fun _ => False) rfl rfl ?aP (fun _ hk => hk.elim) ?aF ?aO ?aB ?aS ?aL ?_; (case aP => exact rfl); (case aB => exact BB); (case aF => exact (fun _ _ => trivial)); (case aO => exact (KR HO_6)); (case aS => exact (below_size BB)); (case aL => have := LMc9.out; omega); intro v193 w11 ho hb hg hat; rw [← Ny192.out] at ho; have n0_ := Aside0.mk (hb); have n1_ := Aside0.mk (ho); clear HB; clear HO_6; have HB := n0_; have HO194 := n1_; clear n0_ n1_; clear ho hb hg hat))
       go_roundg k1
       case measure => have := HK1.out; omega
       case rel => exact ⟨(y192), (wrap64 (x7_1 + 1)), RF, H', ⟨by have := HK1.out; omega⟩, ⟨KR HO194⟩, ⟨BB⟩⟩
      ·rw [if_neg c9] at H
       cases H
     ·replace c8 := Bool.eq_false_iff.mpr c8
      subst c8
      replace H := IN H
      have H' := Aside0.mk H
      clear H
      go_wp2_with (first | ((with_reducible refine gate_callee (f := 38) rfl ?_); refine goesL_ (some 14) rfl rfl Try.func38 (by kernel_rfl) rfl #[.int .i64 a0] rfl TA ?_; (with_reducible refine (spec_meCount.calls a0 t190 _ A5.out).mono ?_); rintro e w' ⟨rfl, ⟨nd, rfl⟩⟩; refine ⟨_, rfl, ?_⟩) | ((with_reducible refine gate_callee (f := 39) rfl ?_); refine goesL_ (some 21) rfl rfl Try.func39 (by kernel_rfl) rfl #[.int .i64 a0, .int .i64 a1, .int .i64 x7_1] rfl TA ?_; (with_reducible refine (spec_meNear.calls k1 a0 a1 x7_1 false _ A7.out).mono ?_); rintro e w12 ⟨rfl, hb⟩; refine ⟨_, rfl, ?_⟩; have n0_ := Aside0.mk (Kd.R_below (KR HO_6) hb); have n1_ := Aside0.mk (below_step BB hb); clear HO_6; clear HB; have HO_6 := n0_; have HB := n1_; clear n0_ n1_; (try clear hb); (try clear hb2); (try clear hk); (try clear hi)))
      go_roundg k1
      case measure => have := HK1.out; omega
      case rel => exact ⟨(x6_1), (wrap64 (x7_1 + 1)), RF, H', ⟨by have := HK1.out; omega⟩, ⟨KR HO_6⟩, ⟨BB⟩⟩
    ·rw [if_neg c6] at H
     have c6b0 : decide (x7_1 < t190) = false := decide_eq_false c6
     clear c6
     simp only [Option.some.injEq, Prod.mk.injEq] at H
     obtain ⟨rfl, rfl⟩ := H
     go_wp2_with (first | ((with_reducible refine gate_callee (f := 38) rfl ?_); refine goesL_ (some 14) rfl rfl Try.func38 (by kernel_rfl) rfl #[.int .i64 a0] rfl TA ?_; (with_reducible refine (spec_meCount.calls a0 t190 _ A5.out).mono ?_); rintro e w' ⟨rfl, ⟨nd, rfl⟩⟩; refine ⟨_, rfl, ?_⟩))
     go_ret2
     exact ⟨_, RE, KR HO_6, BB⟩
 ·replace c4 := Bool.eq_false_iff.mpr c4
  subst c4
  replace H := IN H
  simp only [Option.some.injEq, Prod.mk.injEq] at H
  obtain ⟨rfl, rfl⟩ := H
  go_enter Try.func9, Try.ntmps9
  go_wp2_with (first | ((with_reducible refine gate_callee (f := 35) rfl ?_); refine goesL_ (some 10) rfl rfl Try.func35 (by kernel_rfl) rfl #[.int .i64 a0, .int .i64 a1] rfl TA ?_; (with_reducible refine (spec_mePoint.calls a0 a1 false _ A3.out).mono ?_); rintro e w' ⟨rfl, ⟨nd, rfl⟩⟩; refine ⟨_, rfl, ?_⟩))
  go_ret2
  exact ⟨_, RE, by first | exact Kd.R_nil _ _ _ _ _ | exact Kd.N_nil _ _ _ _ _ | exact Kd.V_nil _ _ _ _ _ | exact Kd.Q_nil _ _ _ _ _ | exact Kd.S_nil _ _ _ _ _, BB⟩

end Go.Proofs.Ythkdkgbcokpbaab.PFnTrianglesAreCut
