-- Written by a program of this session (wip/tools/pp.sh) out of the translation; Lean checks it.
import Derived.Test.YthkdkgbcokpbaabPFnTrianglesAreCutx0
import Derived.Test.YthkdkgbcokpbaabPFnTrianglesAreCutx1
import Derived.Test.YthkdkgbcokpbaabPFnTrianglesAreCutx2
namespace Go.Proofs.Ythkdkgbcokpbaab.PFnTrianglesAreCut
open Go.RowKit Go.Proofs.YthkdkgbcokpbaabOwn Go.Proofs.YthkdkgbcokpbaabW.PrintWords Go.Proofs.YthkdkgbcokpbaabW.PrintLast Go.Proofs.YthkdkgbcokpbaabW.PrintMore
attribute [local go_sem] max2_int min2_int max_two min_two max_three min_three max_four min_four   -- for this text's walks alone
set_option linter.unusedVariables false
set_option maxHeartbeats 8000000
set_option maxRecDepth 100000
set_option linter.unusedSimpArgs false

/-! ### impl_SidesOf: function 10 -/
def impl_SidesOf.l0 : Nat → List Int → Int → Int → Int → Int → Option (List Int × Bool)
 | 0, _, _, _, _, _ => none
 | k + 1, x6, x20, x800, x801, x802 => if x20 < 3 then (if 0 = x20 then (if x800 = 0 then (if x6.length < 17592186044416 then (impl_SidesOf.l0 k (x6 ++ [x20]) (wrap64 (x20 + 1)) x800 x801 x802) else (none)) else (impl_SidesOf.l0 k x6 (wrap64 (x20 + 1)) x800 x801 x802)) else (if 1 = x20 then (if x801 = 0 then (if x6.length < 17592186044416 then (impl_SidesOf.l0 k (x6 ++ [x20]) (wrap64 (x20 + 1)) x800 x801 x802) else (none)) else (impl_SidesOf.l0 k x6 (wrap64 (x20 + 1)) x800 x801 x802)) else (if 2 = x20 then (if x802 = 0 then (if x6.length < 17592186044416 then (impl_SidesOf.l0 k (x6 ++ [x20]) (wrap64 (x20 + 1)) x800 x801 x802) else (none)) else (impl_SidesOf.l0 k x6 (wrap64 (x20 + 1)) x800 x801 x802)) else (none)))) else (some (x6, true))
def impl_SidesOf.f (k : Nat) (a0 : Int) (a1 : Int) : Option (List Int × Bool) := (impl_isPoint.f k a0 (([a1] : List Int))).bind fun t198 => (if t198 = true then ((impl_points.f k a0).bind fun t202 => (if 0 ≤ a1 then (if a1 < (t202.length : Int) then (impl_SidesOf.l0 k (([] : List Int)) 0 ((rd_T54 t202 a1).f0) ((rd_T54 t202 a1).f1) ((rd_T54 t202 a1).f2)) else (none)) else (none))) else (some (([] : List Int), false)))
theorem impl_SidesOf.mono_l : ∀ k, (∀ y0 y1 y2 y3 y4, LeO (impl_SidesOf.l0 k y0 y1 y2 y3 y4) (impl_SidesOf.l0 (k + 1) y0 y1 y2 y3 y4))
 | 0 => fun _ _ _ _ _ r h => by simp [impl_SidesOf.l0] at h
 | k + 1 => by
  have ih0 := impl_SidesOf.mono_l k
  ·intro y0 y1 y2 y3 y4
   unfold impl_SidesOf.l0
   repeat' first
   | with_reducible first | exact ih0 _ _ _ _ _ | exact impl_isPoint.mono _ _ _ | exact impl_points.mono _ _ | exact LeO.refl _ | exact LeO.none _ | refine LeO.ite ?_ ?_ | refine LeO.bind ?_ (fun _ => ?_)
   | exact LeO.none _ | refine LeO.ite ?_ ?_ | refine LeO.bind ?_ (fun _ => ?_)
theorem impl_SidesOf.mono : ∀ a0 a1 k, LeO (impl_SidesOf.f k a0 a1) (impl_SidesOf.f (k + 1) a0 a1) := by
 intro a0 a1 k
 have ih0 := impl_SidesOf.mono_l k
 unfold impl_SidesOf.f
 repeat' first
   | with_reducible first | exact ih0 _ _ _ _ _ | exact impl_isPoint.mono _ _ _ | exact impl_points.mono _ _ | exact LeO.refl _ | exact LeO.none _ | refine LeO.ite ?_ ?_ | refine LeO.bind ?_ (fun _ => ?_)
   | exact LeO.none _ | refine LeO.ite ?_ ?_ | refine LeO.bind ?_ (fun _ => ?_)
theorem impl_SidesOf.calls (k : Nat) (a0 : Int) (a1 : Int) (r1 : List Int) (r2 : Bool) (w : World) (h : impl_SidesOf.f k a0 a1 = some (r1, r2)) :
  Calls Try.prog 10 #[.int .i64 a0, .int .i64 a1] w fun e w' => ∃ v0_ : Value, e = .returned (.tuple #[v0_, .bool r2]) ∧ Kd.R (Kd.int .i64) 3 w' w.heap.size (fun _ => True) v0_ r1 ∧ Below w.heap.size w w' := by
 have hu54 := Try.underlying54
 have HB := Aside0.mk (Below.refl w.heap.size w)
 have H : ((impl_isPoint.f k a0 (([a1] : List Int))).bind fun t198 => (if t198 = true then ((impl_points.f k a0).bind fun t202 => (if 0 ≤ a1 then (if a1 < (t202.length : Int) then (impl_SidesOf.l0 k (([] : List Int)) 0 ((rd_T54 t202 a1).f0) ((rd_T54 t202 a1).f1) ((rd_T54 t202 a1).f2)) else (none)) else (none))) else (some (([] : List Int), false)))) = some (r1, r2) := h
 clear h
 obtain ⟨y195, hy195⟩ : ∃ y_ : List Int, y_ = (([a1] : List Int)) := ⟨_, rfl⟩
 replace H : ((impl_isPoint.f k a0 y195).bind fun t198 => (if t198 = true then ((impl_points.f k a0).bind fun t202 => (if 0 ≤ a1 then (if a1 < (t202.length : Int) then (impl_SidesOf.l0 k (([] : List Int)) 0 ((rd_T54 t202 a1).f0) ((rd_T54 t202 a1).f1) ((rd_T54 t202 a1).f2)) else (none)) else (none))) else (some (([] : List Int), false)))) = some (r1, r2) := HY H hy195
 have Ny195 := Aside0.mk hy195
 clear hy195
 replace H := EA H
 obtain ⟨t198, A3, H⟩ := H
 by_cases c4 : t198 = true
 ·subst c4
  replace H := IP H
  obtain ⟨y199, hy199⟩ : ∃ y_ : List Int, y_ = (([] : List Int)) := ⟨_, rfl⟩
  replace H : ((impl_points.f k a0).bind fun t202 => (if 0 ≤ a1 then (if a1 < (t202.length : Int) then (impl_SidesOf.l0 k y199 0 ((rd_T54 t202 a1).f0) ((rd_T54 t202 a1).f1) ((rd_T54 t202 a1).f2)) else (none)) else (none))) = some (r1, r2) := HY H hy199
  have Ny199 := Aside0.mk hy199
  clear hy199
  replace H := EA H
  obtain ⟨t202, A5, H⟩ := H
  by_cases c6 : 0 ≤ a1
  ·rw [if_pos c6] at H
   have c6b0 : decide (0 ≤ a1) = true := decide_eq_true c6
   clear c6
   by_cases c7 : a1 < (t202.length : Int)
   ·rw [if_pos c7] at H
    have c7b0 : decide (a1 < (t202.length : Int)) = true := decide_eq_true c7
    clear c7
    have H' := Aside0.mk H
    clear H
    go_enter Try.func10, Try.ntmps10
    go_wp2_with (first | ((with_reducible refine gate_dst (N := 11) rfl ?_); refine Kd.R_lit (Kd.int .i64) _ 3 ?hg (N := 11) ?hd (xs := ([a1] : List Int)) (inner := [.int .i64 a1]) (ok := fun _ => True) (okp := fun _ => True) ?hr ?hp (fun _ hk => hk) trivial (Below.refl _ _) (Nat.le_refl _) (by simp) ?_; (case hd => rfl); (case hg => rfl); (case hr => exact GS); (case hp => exact (Reps.one (show Kd.M (Kd.int .i64) _ _ _ a1 [.int .i64 a1] from rfl) (Reps.none _ _))); intro v196 w8 ho9 hb hg_ hnew_; clear hg_ hnew_; (first | rw [← Ny195.out] at ho9 | (simp only [Int.reduceToNat] at ho9; rw [← Ny195.out] at ho9)); have n0_ := Aside0.mk (Kd.R_lower ho9 (below_size BB)); have n1_ := Aside0.mk (below_step BB hb); clear HB; have HO197 := n0_; have HB := n1_; clear n0_ n1_; clear hb ho9; obtain ⟨Ao10, co10, eo10⟩ := Kd.R_slice HO197.out; subst eo10) | ((with_reducible refine gate_callee (f := 33) rfl ?_); refine goesL_ (some 12) rfl rfl Try.func33 (by kernel_rfl) rfl #[.int .i64 a0, .slice Ao10 y195.length co10] rfl TA ?_; (with_reducible refine (impl_isPoint.calls k a0 _ _ y195 true _ ?side1 ?side2 A3.out).mono ?_); (case side1 => exact CW (Kd.R_reads' HO197.out).2.2); (case side2 => exact (Kd.R_reads' HO197.out).2.1); rintro e w11 ⟨rfl, hb⟩; refine ⟨_, rfl, ?_⟩; have n0_ := Aside0.mk (Kd.R_below (KR HO197) hb); have n1_ := Aside0.mk (below_step BB hb); clear HO197; clear HB; have HO197 := n0_; have HB := n1_; clear n0_ n1_; (try clear hb); (try clear hb2); (try clear hk); (try clear hi)) | ((with_reducible refine gate_dst (N := 14) rfl ?_); refine Kd.R_lit (Kd.int .i64) _ 3 ?hg (N := 14) ?hd (xs := ([] : List Int)) (inner := []) (ok := fun _ => True) (okp := fun _ => True) ?hr ?hp (fun _ hk => hk) trivial (Below.refl _ _) (Nat.le_refl _) (by simp) ?_; (case hd => rfl); (case hg => rfl); (case hr => exact GS); (case hp => exact (Reps.none _ _)); intro v200 w12 ho13 hb hg_ hnew_; clear hg_ hnew_; (first | rw [← Ny199.out] at ho13 | (simp only [Int.reduceToNat] at ho13; rw [← Ny199.out] at ho13)); have n0_ := Aside0.mk (Kd.R_elder' (KR HO197) (Kd.R_base ho13) hb); have n1_ := Aside0.mk (Kd.R_lower (Kd.R_new' ho13 (Kd.R_lt (KR HO197))) (below_size BB)); have n2_ := Aside0.mk (below_step BB hb); clear HO197; clear HB; have HO197 := n0_; have HO201 := n1_; have HB := n2_; clear n0_ n1_ n2_; clear hb ho13) | ((with_reducible refine gate_callee (f := 34) rfl ?_); refine goesL_ (some 16) rfl rfl Try.func34 (by kernel_rfl) rfl #[.int .i64 a0] rfl TA ?_; (with_reducible refine (impl_points.calls k a0 t202 _ A5.out).mono ?_); rintro e w14 ⟨v203, rfl, ho0, hb⟩; refine ⟨_, rfl, ?_⟩; have n0_ := Aside0.mk (Kd.R_below (KR HO197) hb); have n1_ := Aside0.mk (Kd.R_below (KR HO201) hb); have n2_ := Aside0.mk (Kd.R_lower ho0 (below_size BB)); have n3_ := Aside0.mk (below_step BB hb); clear HO197; clear HO201; clear HB; have HO197 := n0_; have HO201 := n1_; have HO204 := n2_; have HB := n3_; clear n0_ n1_ n2_ n3_; (try clear hb); (try clear hb2); (try clear hk); (try clear hi); (try clear ho0); obtain ⟨Ao15, co15, eo15⟩ := Kd.R_slice HO204.out; subst eo15; have p205 : 0 ≤ (a1 : Int) := of_decide_eq_true AS; have q205 : a1 < (t202.length : Int) := of_decide_eq_true AS; obtain ⟨ad205, e205, hx205_0, hx205_1, hx205_2⟩ := at_T54 (Kd.R_reads' HO204.out).2.2 a1 p205 q205; cases e205; replace p205 := eq_true p205; replace q205 := eq_true q205))
    go_loopg [6, 20] k (fun kq v6 v20 w' => ∃ (x6_1 : List Int) (x20_1 : Int), v20 = .int .i64 x20_1 ∧ Aside0 (impl_SidesOf.l0 kq x6_1 x20_1 ((rd_T54 t202 a1).f0) ((rd_T54 t202 a1).f1) ((rd_T54 t202 a1).f2) = some (r1, r2)) ∧ Aside0 (kq ≤ k) ∧ Aside0 (Kd.R (Kd.int .i64) 3 w' w.heap.size (fun _ => True) v6 x6_1) ∧ Aside0 (Below w.heap.size w w'))
    case atStart => exact ⟨(y199), (0), RF, H', ⟨Nat.le_refl _⟩, ⟨by (with_reducible repeat (first | apply Kd.R_alloc | apply Kd.R_drewN | apply Kd.R_drew)); exact Kd.R_mono HO201.out (fun _ hk => trivial)⟩, ⟨BB⟩⟩
    case round =>
     clear H'
     try clear c1
     try clear p2
     try clear q2
     try clear hx2
     try clear c3
     try clear c4
     try clear c6
     try clear c6b0
     try clear p6
     try clear c7
     try clear c7b0
     try clear c10
     try clear hx205_0
     try clear hx205_1
     try clear hx205_2
     try clear p205
     try clear q205
     obtain ⟨x6_1, x20_1, rfl, HA, HK1, HO_6, HB⟩ := hrel
     cases gk with
     | zero => exact absurd HA.out (by simp [impl_SidesOf.l0])
     | succ k1 =>
      have H := HA.out
      clear HA
      simp only [impl_SidesOf.l0] at H
      by_cases c16 : x20_1 < 3
      ·rw [if_pos c16] at H
       have c16b0 : decide (x20_1 < 3) = true := decide_eq_true c16
       clear c16
       by_cases c17 : 0 = x20_1
       ·rw [if_pos c17] at H
        cases c17
        have i0_ : ∀ w : World, (Instr.index 54 (.agg #[.int .i64 (rd_T54 t202 a1).f0, .int .i64 (rd_T54 t202 a1).f1, .int .i64 (rd_T54 t202 a1).f2]) (.int .i64 0)).run Try.prog w = .ok (.int .i64 (rd_T54 t202 a1).f0) w := fun _ => by kernel_rfl
        by_cases c18 : ((rd_T54 t202 a1).f0) = 0
        ·rw [if_pos c18] at H
         have c18b0 : (((rd_T54 t202 a1).f0) == 0) = true := beq_iff_eq.mpr c18
         have c18b1 : (((rd_T54 t202 a1).f0) != 0) = false := bne_eq_false_iff_eq.mpr c18
         clear c18
         by_cases c19 : x6_1.length < 17592186044416
         ·rw [if_pos c19] at H
          have LMc19 := Aside0.mk c19
          clear c19
          obtain ⟨y206, hy206⟩ : ∃ y_ : List Int, y_ = (x6_1 ++ [(0 : Int)]) := ⟨_, rfl⟩
          replace H : (impl_SidesOf.l0 k1 y206 (wrap64 ((0 : Int) + 1)) ((rd_T54 t202 a1).f0) ((rd_T54 t202 a1).f1) ((rd_T54 t202 a1).f2)) = some (r1, r2) := HY H hy206
          have Ny206 := Aside0.mk hy206
          clear hy206
          have H' := Aside0.mk H
          clear H
          go_wp2_with (first | ((with_reducible refine gate_builtin (b := .append) (xs := #[.tmp 26, .tmp 28]) rfl ?_); at_builtin; refine Kd.R_append (Kd.int .i64) (w0 := w) w.heap.size rfl (.tmp 26) (.tmp 28) 26 3 (.int .i64 0) 8 rfl Try.underlying26 info3 rfl (by decide) (by omega) u6 x6_1 (0 : Int) [.int .i64 (0 : Int)] (fun _ => True) (fun _ => False) rfl rfl ?aP (fun _ hk => hk.elim) ?aF ?aO ?aB ?aS ?aL ?_; (case aP => exact rfl); (case aB => exact BB); (case aF => exact (fun _ _ => trivial)); (case aO => exact (KR HO_6)); (case aS => exact (below_size BB)); (case aL => have := LMc19.out; omega); intro v207 w20 ho hb hg hat; rw [← Ny206.out] at ho; have n0_ := Aside0.mk (hb); have n1_ := Aside0.mk (ho); clear HB; clear HO_6; have HB := n0_; have HO208 := n1_; clear n0_ n1_; clear ho hb hg hat))
          go_roundg k1
          case measure => have := HK1.out; omega
          case rel => exact ⟨(y206), (wrap64 ((0 : Int) + 1)), RF, H', ⟨by have := HK1.out; omega⟩, ⟨KR HO208⟩, ⟨BB⟩⟩
         ·rw [if_neg c19] at H
          cases H
        ·rw [if_neg c18] at H
         have c18b0 : (((rd_T54 t202 a1).f0) == 0) = false := beq_eq_false_iff_ne.mpr c18
         have c18b1 : (((rd_T54 t202 a1).f0) != 0) = true := bne_iff_ne.mpr c18
         have H' := Aside0.mk H
         clear H
         go_wp2
         go_roundg k1
         case measure => have := HK1.out; omega
         case rel => exact ⟨(x6_1), (wrap64 ((0 : Int) + 1)), RF, H', ⟨by have := HK1.out; omega⟩, ⟨KR HO_6⟩, ⟨BB⟩⟩
       ·rw [if_neg c17] at H
        by_cases c21 : 1 = x20_1
        ·rw [if_pos c21] at H
         cases c21
         have i0_ : ∀ w : World, (Instr.index 54 (.agg #[.int .i64 (rd_T54 t202 a1).f0, .int .i64 (rd_T54 t202 a1).f1, .int .i64 (rd_T54 t202 a1).f2]) (.int .i64 1)).run Try.prog w = .ok (.int .i64 (rd_T54 t202 a1).f1) w := fun _ => by kernel_rfl
         by_cases c22 : ((rd_T54 t202 a1).f1) = 0
         ·rw [if_pos c22] at H
          have c22b0 : (((rd_T54 t202 a1).f1) == 0) = true := beq_iff_eq.mpr c22
          have c22b1 : (((rd_T54 t202 a1).f1) != 0) = false := bne_eq_false_iff_eq.mpr c22
          clear c22
          by_cases c23 : x6_1.length < 17592186044416
          ·rw [if_pos c23] at H
           have LMc23 := Aside0.mk c23
           clear c23
           obtain ⟨y209, hy209⟩ : ∃ y_ : List Int, y_ = (x6_1 ++ [(1 : Int)]) := ⟨_, rfl⟩
           replace H : (impl_SidesOf.l0 k1 y209 (wrap64 ((1 : Int) + 1)) ((rd_T54 t202 a1).f0) ((rd_T54 t202 a1).f1) ((rd_T54 t202 a1).f2)) = some (r1, r2) := HY H hy209
           have Ny209 := Aside0.mk hy209
           clear hy209
           have H' := Aside0.mk H
           clear H
           go_wp2_with (first | ((with_reducible refine gate_builtin (b := .append) (xs := #[.tmp 26, .tmp 28]) rfl ?_); at_builtin; refine Kd.R_append (Kd.int .i64) (w0 := w) w.heap.size rfl (.tmp 26) (.tmp 28) 26 3 (.int .i64 0) 8 rfl Try.underlying26 info3 rfl (by decide) (by omega) u6 x6_1 (1 : Int) [.int .i64 (1 : Int)] (fun _ => True) (fun _ => False) rfl rfl ?aP (fun _ hk => hk.elim) ?aF ?aO ?aB ?aS ?aL ?_; (case aP => exact rfl); (case aB => exact BB); (case aF => exact (fun _ _ => trivial)); (case aO => exact (KR HO_6)); (case aS => exact (below_size BB)); (case aL => have := LMc23.out; omega); intro v210 w24 ho hb hg hat; rw [← Ny209.out] at ho; have n0_ := Aside0.mk (hb); have n1_ := Aside0.mk (ho); clear HB; clear HO_6; have HB := n0_; have HO211 := n1_; clear n0_ n1_; clear ho hb hg hat))
           go_roundg k1
           case measure => have := HK1.out; omega
           case rel => exact ⟨(y209), (wrap64 ((1 : Int) + 1)), RF, H', ⟨by have := HK1.out; omega⟩, ⟨KR HO211⟩, ⟨BB⟩⟩
          ·rw [if_neg c23] at H
           cases H
         ·rw [if_neg c22] at H
          have c22b0 : (((rd_T54 t202 a1).f1) == 0) = false := beq_eq_false_iff_ne.mpr c22
          have c22b1 : (((rd_T54 t202 a1).f1) != 0) = true := bne_iff_ne.mpr c22
          have H' := Aside0.mk H
          clear H
          go_wp2
          go_roundg k1
          case measure => have := HK1.out; omega
          case rel => exact ⟨(x6_1), (wrap64 ((1 : Int) + 1)), RF, H', ⟨by have := HK1.out; omega⟩, ⟨KR HO_6⟩, ⟨BB⟩⟩
        ·rw [if_neg c21] at H
         by_cases c25 : 2 = x20_1
         ·rw [if_pos c25] at H
          cases c25
          have i0_ : ∀ w : World, (Instr.index 54 (.agg #[.int .i64 (rd_T54 t202 a1).f0, .int .i64 (rd_T54 t202 a1).f1, .int .i64 (rd_T54 t202 a1).f2]) (.int .i64 2)).run Try.prog w = .ok (.int .i64 (rd_T54 t202 a1).f2) w := fun _ => by kernel_rfl
          by_cases c26 : ((rd_T54 t202 a1).f2) = 0
          ·rw [if_pos c26] at H
           have c26b0 : (((rd_T54 t202 a1).f2) == 0) = true := beq_iff_eq.mpr c26
           have c26b1 : (((rd_T54 t202 a1).f2) != 0) = false := bne_eq_false_iff_eq.mpr c26
           clear c26
           by_cases c27 : x6_1.length < 17592186044416
           ·rw [if_pos c27] at H
            have LMc27 := Aside0.mk c27
            clear c27
            obtain ⟨y212, hy212⟩ : ∃ y_ : List Int, y_ = (x6_1 ++ [(2 : Int)]) := ⟨_, rfl⟩
            replace H : (impl_SidesOf.l0 k1 y212 (wrap64 ((2 : Int) + 1)) ((rd_T54 t202 a1).f0) ((rd_T54 t202 a1).f1) ((rd_T54 t202 a1).f2)) = some (r1, r2) := HY H hy212
            have Ny212 := Aside0.mk hy212
            clear hy212
            have H' := Aside0.mk H
            clear H
            go_wp2_with (first | ((with_reducible refine gate_builtin (b := .append) (xs := #[.tmp 26, .tmp 28]) rfl ?_); at_builtin; refine Kd.R_append (Kd.int .i64) (w0 := w) w.heap.size rfl (.tmp 26) (.tmp 28) 26 3 (.int .i64 0) 8 rfl Try.underlying26 info3 rfl (by decide) (by omega) u6 x6_1 (2 : Int) [.int .i64 (2 : Int)] (fun _ => True) (fun _ => False) rfl rfl ?aP (fun _ hk => hk.elim) ?aF ?aO ?aB ?aS ?aL ?_; (case aP => exact rfl); (case aB => exact BB); (case aF => exact (fun _ _ => trivial)); (case aO => exact (KR HO_6)); (case aS => exact (below_size BB)); (case aL => have := LMc27.out; omega); intro v213 w28 ho hb hg hat; rw [← Ny212.out] at ho; have n0_ := Aside0.mk (hb); have n1_ := Aside0.mk (ho); clear HB; clear HO_6; have HB := n0_; have HO214 := n1_; clear n0_ n1_; clear ho hb hg hat))
            go_roundg k1
            case measure => have := HK1.out; omega
            case rel => exact ⟨(y212), (wrap64 ((2 : Int) + 1)), RF, H', ⟨by have := HK1.out; omega⟩, ⟨KR HO214⟩, ⟨BB⟩⟩
           ·rw [if_neg c27] at H
            cases H
          ·rw [if_neg c26] at H
           have c26b0 : (((rd_T54 t202 a1).f2) == 0) = false := beq_eq_false_iff_ne.mpr c26
           have c26b1 : (((rd_T54 t202 a1).f2) != 0) = true := bne_iff_ne.mpr c26
           have H' := Aside0.mk H
           clear H
           go_wp2
           go_roundg k1
           case measure => have := HK1.out; omega
           case rel => exact ⟨(x6_1), (wrap64 ((2 : Int) + 1)), RF, H', ⟨by have := HK1.out; omega⟩, ⟨KR HO_6⟩, ⟨BB⟩⟩
         ·rw [if_neg c25] at H
          cases H
      ·rw [if_neg c16] at H
       have c16b0 : decide (x20_1 < 3) = false := decide_eq_false c16
       clear c16
       simp only [Option.some.injEq, Prod.mk.injEq] at H
       obtain ⟨rfl, rfl⟩ := H
       go_wp2
       go_ret2
       exact ⟨_, RE, KR HO_6, BB⟩
   ·rw [if_neg c7] at H
    cases H
  ·rw [if_neg c6] at H
   cases H
 ·replace c4 := Bool.eq_false_iff.mpr c4
  subst c4
  replace H := IN H
  simp only [Option.some.injEq, Prod.mk.injEq] at H
  obtain ⟨rfl, rfl⟩ := H
  go_enter Try.func10, Try.ntmps10
  go_wp2_with (first | ((with_reducible refine gate_dst (N := 11) rfl ?_); refine Kd.R_lit (Kd.int .i64) _ 3 ?hg (N := 11) ?hd (xs := ([a1] : List Int)) (inner := [.int .i64 a1]) (ok := fun _ => True) (okp := fun _ => True) ?hr ?hp (fun _ hk => hk) trivial (Below.refl _ _) (Nat.le_refl _) (by simp) ?_; (case hd => rfl); (case hg => rfl); (case hr => exact GS); (case hp => exact (Reps.one (show Kd.M (Kd.int .i64) _ _ _ a1 [.int .i64 a1] from rfl) (Reps.none _ _))); intro v196 w29 ho30 hb hg_ hnew_; clear hg_ hnew_; (first | rw [← Ny195.out] at ho30 | (simp only [Int.reduceToNat] at ho30; rw [← Ny195.out] at ho30)); have n0_ := Aside0.mk (Kd.R_lower ho30 (below_size BB)); have n1_ := Aside0.mk (below_step BB hb); clear HB; have HO197 := n0_; have HB := n1_; clear n0_ n1_; clear hb ho30; obtain ⟨Ao31, co31, eo31⟩ := Kd.R_slice HO197.out; subst eo31) | ((with_reducible refine gate_callee (f := 33) rfl ?_); refine goesL_ (some 12) rfl rfl Try.func33 (by kernel_rfl) rfl #[.int .i64 a0, .slice Ao31 y195.length co31] rfl TA ?_; (with_reducible refine (impl_isPoint.calls k a0 _ _ y195 false _ ?side1 ?side2 A3.out).mono ?_); (case side1 => exact CW (Kd.R_reads' HO197.out).2.2); (case side2 => exact (Kd.R_reads' HO197.out).2.1); rintro e w32 ⟨rfl, hb⟩; refine ⟨_, rfl, ?_⟩; have n0_ := Aside0.mk (Kd.R_below (KR HO197) hb); have n1_ := Aside0.mk (below_step BB hb); clear HO197; clear HB; have HO197 := n0_; have HB := n1_; clear n0_ n1_; (try clear hb); (try clear hb2); (try clear hk); (try clear hi)))
  go_ret2
  exact ⟨_, RE, by first | exact Kd.R_nil _ _ _ _ _ | exact Kd.N_nil _ _ _ _ _ | exact Kd.V_nil _ _ _ _ _ | exact Kd.Q_nil _ _ _ _ _ | exact Kd.S_nil _ _ _ _ _, BB⟩

/-! ### spec_meSides: function 40 -/
def spec_meSides.l0 : Nat → List Int → List Int → Int → Int → Option (List Int)
 | 0, _, _, _, _ => none
 | k + 1, x5, x10, x11, x12 => if x12 < x11 then (if 0 ≤ x12 then (if x12 < (x10.length : Int) then (if (rd x10 x12) = 0 then (if x5.length < 17592186044416 then (spec_meSides.l0 k (x5 ++ [x12]) x10 x11 (wrap64 (x12 + 1))) else (none)) else (spec_meSides.l0 k x5 x10 x11 (wrap64 (x12 + 1)))) else (none)) else (none)) else (some x5)
def spec_meSides.f (k : Nat) (a0 : Int) (a1 : Int) : Option (List Int) := (spec_meAt.f k a0 a1).bind fun t215 => (spec_meSides.l0 k ([] : List Int) t215 (t215.length : Int) 0)
theorem spec_meSides.mono_l : ∀ k, (∀ y0 y1 y2 y3, LeO (spec_meSides.l0 k y0 y1 y2 y3) (spec_meSides.l0 (k + 1) y0 y1 y2 y3))
 | 0 => fun _ _ _ _ r h => by simp [spec_meSides.l0] at h
 | k + 1 => by
  have ih0 := spec_meSides.mono_l k
  ·intro y0 y1 y2 y3
   unfold spec_meSides.l0
   repeat' first
   | with_reducible first | exact ih0 _ _ _ _ | exact spec_meAt.mono _ _ _ | exact LeO.refl _ | exact LeO.none _ | refine LeO.ite ?_ ?_ | refine LeO.bind ?_ (fun _ => ?_)
   | exact LeO.none _ | refine LeO.ite ?_ ?_ | refine LeO.bind ?_ (fun _ => ?_)
theorem spec_meSides.mono : ∀ a0 a1 k, LeO (spec_meSides.f k a0 a1) (spec_meSides.f (k + 1) a0 a1) := by
 intro a0 a1 k
 have ih0 := spec_meSides.mono_l k
 unfold spec_meSides.f
 repeat' first
   | with_reducible first | exact ih0 _ _ _ _ | exact spec_meAt.mono _ _ _ | exact LeO.refl _ | exact LeO.none _ | refine LeO.ite ?_ ?_ | refine LeO.bind ?_ (fun _ => ?_)
   | exact LeO.none _ | refine LeO.ite ?_ ?_ | refine LeO.bind ?_ (fun _ => ?_)
theorem spec_meSides.calls (k : Nat) (a0 : Int) (a1 : Int) (r : List Int) (w : World) (h : spec_meSides.f k a0 a1 = some r) :
  Calls Try.prog 40 #[.int .i64 a0, .int .i64 a1] w fun e w' => ∃ v0_ : Value, e = .returned (v0_) ∧ Kd.R (Kd.int .i64) 3 w' w.heap.size (fun _ => True) v0_ r ∧ Below w.heap.size w w' := by
 have HB := Aside0.mk (Below.refl w.heap.size w)
 have H : ((spec_meAt.f k a0 a1).bind fun t215 => (spec_meSides.l0 k ([] : List Int) t215 (t215.length : Int) 0)) = some r := h
 clear h
 replace H := EA H
 obtain ⟨t215, A3, H⟩ := H
 have H' := Aside0.mk H
 clear H
 go_enter Try.func40, Try.ntmps40
 go_wp2_with (first | ((with_reducible refine gate_callee (f := 36) rfl ?_); refine goesL_ (some 10) rfl rfl Try.func36 (by kernel_rfl) rfl #[.int .i64 a0, .int .i64 a1] rfl TA ?_; (with_reducible refine (spec_meAt.calls k a0 a1 t215 _ A3.out).mono ?_); rintro e w4 ⟨v216, rfl, ho0, hb⟩; refine ⟨_, rfl, ?_⟩; have n0_ := Aside0.mk (Kd.R_lower ho0 (below_size BB)); have n1_ := Aside0.mk (below_step BB hb); clear HB; have HO217 := n0_; have HB := n1_; clear n0_ n1_; (try clear hb); (try clear hb2); (try clear hk); (try clear hi); (try clear ho0); obtain ⟨Ao5, co5, eo5⟩ := Kd.R_slice HO217.out; subst eo5))
 go_loopg [5, 12] k (fun kq v5 v12 w' => ∃ (x5_1 : List Int) (x12_1 : Int), v12 = .int .i64 x12_1 ∧ Aside0 (spec_meSides.l0 kq x5_1 t215 (t215.length : Int) x12_1 = some r) ∧ Aside0 (kq ≤ k) ∧ Aside0 (Kd.R (Kd.int .i64) 3 w' w.heap.size (fun k_ => some k_ ≠ ((.slice Ao5 t215.length co5) : Value).ownBlock) v5 x5_1) ∧ Aside0 (Kd.R (Kd.int .i64) 3 w' w.heap.size (fun k_ => some k_ ≠ (v5 : Value).ownBlock) (.slice Ao5 t215.length co5) t215) ∧ Aside0 (Below w.heap.size w w'))
 case atStart => exact ⟨(([] : List Int)), (0), RF, H', ⟨Nat.le_refl _⟩, ⟨by first | exact Kd.R_nil _ _ _ _ _ | exact Kd.N_nil _ _ _ _ _ | exact Kd.V_nil _ _ _ _ _ | exact Kd.Q_nil _ _ _ _ _ | exact Kd.S_nil _ _ _ _ _⟩, ⟨by (with_reducible repeat (first | apply Kd.R_alloc | apply Kd.R_drewN | apply Kd.R_drew)); exact Kd.R_mono HO217.out (fun _ hk => (by simp [Value.ownBlock]))⟩, ⟨BB⟩⟩
 case round =>
  clear H'
  try clear p2
  try clear c3
  try clear c4
  obtain ⟨x5_1, x12_1, rfl, HA, HK1, HO_5, HO_10, HB⟩ := hrel
  cases gk with
  | zero => exact absurd HA.out (by simp [spec_meSides.l0])
  | succ k1 =>
   have H := HA.out
   clear HA
   simp only [spec_meSides.l0] at H
   by_cases c6 : x12_1 < (t215.length : Int)
   ·rw [if_pos c6] at H
    have c6b0 : decide (x12_1 < (t215.length : Int)) = true := decide_eq_true c6
    clear c6
    by_cases c7 : 0 ≤ x12_1
    ·rw [if_pos c7] at H
     have c7b0 : decide (0 ≤ x12_1) = true := decide_eq_true c7
     clear c7
     by_cases c8 : x12_1 < (t215.length : Int)
     ·rw [if_pos c8] at H
      have c8b0 : decide (x12_1 < (t215.length : Int)) = true := decide_eq_true c8
      clear c8
      by_cases c9 : (rd t215 x12_1) = 0
      ·rw [if_pos c9] at H
       have c9b0 : ((rd t215 x12_1) == 0) = true := beq_iff_eq.mpr c9
       have c9b1 : ((rd t215 x12_1) != 0) = false := bne_eq_false_iff_eq.mpr c9
       clear c9
       by_cases c10 : x5_1.length < 17592186044416
       ·rw [if_pos c10] at H
        have LMc10 := Aside0.mk c10
        clear c10
        obtain ⟨y219, hy219⟩ : ∃ y_ : List Int, y_ = (x5_1 ++ [x12_1]) := ⟨_, rfl⟩
        replace H : (spec_meSides.l0 k1 y219 t215 (t215.length : Int) (wrap64 (x12_1 + 1))) = some r := HY H hy219
        have Ny219 := Aside0.mk hy219
        clear hy219
        have H' := Aside0.mk H
        clear H
        have p218 : 0 ≤ (x12_1 : Int) := of_decide_eq_true AS
        have q218 : x12_1 < (t215.length : Int) := of_decide_eq_true AS
        obtain ⟨ad218, e218, hx218_0⟩ := Kd.at_int (Kd.R_reads' HO_10.out).2.2 x12_1 p218 q218
        cases e218
        replace p218 := eq_true p218
        replace q218 := eq_true q218
        go_wp2_with (first | ((with_reducible refine gate_builtin (b := .append) (xs := #[.tmp 19, .tmp 21]) rfl ?_); at_builtin; refine Kd.R_append (Kd.int .i64) (w0 := w) w.heap.size rfl (.tmp 19) (.tmp 21) 26 3 (.int .i64 0) 8 rfl Try.underlying26 info3 rfl (by decide) (by omega) u5 x5_1 x12_1 [.int .i64 x12_1] (fun k_ => some k_ ≠ (.slice (some ad218) t215.length co5 : Value).ownBlock) (fun _ => False) rfl rfl ?aP (fun _ hk => hk.elim) ?aF ?aO ?aB ?aS ?aL ?_; (case aP => exact rfl); (case aB => exact BB); (case aF => exact (fun k_ hk => Kd.fresh' (Kd.R_lt (KR HO_10)) k_ hk)); (case aO => exact (KR HO_5)); (case aS => exact (below_size BB)); (case aL => have := LMc10.out; omega); intro v220 w11 ho hb hg hat; rw [← Ny219.out] at ho; have n0_ := Aside0.mk (Kd.R_after (ok := (fun _ => True)) (by (with_reducible repeat (first | apply Kd.R_alloc | apply Kd.R_drewN | apply Kd.R_drew)); exact Kd.R_mono HO_10.out (fun _ hk => ⟨trivial, hk⟩)) hg hat); have n1_ := Aside0.mk (hb); have n2_ := Aside0.mk (ho); clear HO_10; clear HB; clear HO_5; have HO_10 := n0_; have HB := n1_; have HO221 := n2_; clear n0_ n1_ n2_; clear ho hb hg hat))
        go_roundg k1
        case measure => have := HK1.out; omega
        case rel => exact ⟨(y219), (wrap64 (x12_1 + 1)), RF, H', ⟨by have := HK1.out; omega⟩, ⟨KR HO221⟩, ⟨by (with_reducible repeat (first | apply Kd.R_alloc | apply Kd.R_drewN | apply Kd.R_drew)); exact Kd.R_mono HO_10.out (fun _ hk => hk.2)⟩, ⟨BB⟩⟩
       ·rw [if_neg c10] at H
        cases H
      ·rw [if_neg c9] at H
       have c9b0 : ((rd t215 x12_1) == 0) = false := beq_eq_false_iff_ne.mpr c9
       have c9b1 : ((rd t215 x12_1) != 0) = true := bne_iff_ne.mpr c9
       have H' := Aside0.mk H
       clear H
       have p218 : 0 ≤ (x12_1 : Int) := of_decide_eq_true AS
       have q218 : x12_1 < (t215.length : Int) := of_decide_eq_true AS
       obtain ⟨ad218, e218, hx218_0⟩ := Kd.at_int (Kd.R_reads' HO_10.out).2.2 x12_1 p218 q218
       cases e218
       replace p218 := eq_true p218
       replace q218 := eq_true q218
       go_wp2
       go_roundg k1
       case measure => have := HK1.out; omega
       case rel => exact ⟨(x5_1), (wrap64 (x12_1 + 1)), RF, H', ⟨by have := HK1.out; omega⟩, ⟨KR HO_5⟩, ⟨KR HO_10⟩, ⟨BB⟩⟩
     ·rw [if_neg c8] at H
      cases H
    ·rw [if_neg c7] at H
     cases H
   ·rw [if_neg c6] at H
    have c6b0 : decide (x12_1 < (t215.length : Int)) = false := decide_eq_false c6
    clear c6
    obtain rfl := Option.some.inj H
    go_wp2
    go_ret
    exact ⟨_, RE, by (with_reducible repeat (first | apply Kd.R_alloc | apply Kd.R_drewN | apply Kd.R_drew)); exact Kd.R_mono HO_5.out (fun _ hk => trivial), BB⟩

/-! ### spec_SidesOf: function 11 -/
def spec_SidesOf.f (k : Nat) (a0 : Int) (a1 : Int) : Option (List Int × Bool) := (spec_mePoint.f a0 a1).bind fun t222 => (if t222 = true then ((spec_meSides.f k a0 a1).bind fun t223 => (some (t223, true))) else (some (([] : List Int), false)))
theorem spec_SidesOf.mono : ∀ a0 a1 k, LeO (spec_SidesOf.f k a0 a1) (spec_SidesOf.f (k + 1) a0 a1) := by
 intro a0 a1 k
 unfold spec_SidesOf.f
 repeat' first
   | with_reducible first | exact spec_meSides.mono _ _ _ | exact LeO.refl _ | exact LeO.none _ | refine LeO.ite ?_ ?_ | refine LeO.bind ?_ (fun _ => ?_)
   | exact LeO.none _ | refine LeO.ite ?_ ?_ | refine LeO.bind ?_ (fun _ => ?_)
theorem spec_SidesOf.calls (k : Nat) (a0 : Int) (a1 : Int) (r1 : List Int) (r2 : Bool) (w : World) (h : spec_SidesOf.f k a0 a1 = some (r1, r2)) :
  Calls Try.prog 11 #[.int .i64 a0, .int .i64 a1] w fun e w' => ∃ v0_ : Value, e = .returned (.tuple #[v0_, .bool r2]) ∧ Kd.R (Kd.int .i64) 3 w' w.heap.size (fun _ => True) v0_ r1 ∧ Below w.heap.size w w' := by
 have HB := Aside0.mk (Below.refl w.heap.size w)
 have H : ((spec_mePoint.f a0 a1).bind fun t222 => (if t222 = true then ((spec_meSides.f k a0 a1).bind fun t223 => (some (t223, true))) else (some (([] : List Int), false)))) = some (r1, r2) := h
 clear h
 replace H := EA H
 obtain ⟨t222, A3, H⟩ := H
 by_cases c4 : t222 = true
 ·subst c4
  replace H := IP H
  replace H := EA H
  obtain ⟨t223, A5, H⟩ := H
  simp only [Option.some.injEq, Prod.mk.injEq] at H
  obtain ⟨rfl, rfl⟩ := H
  go_enter Try.func11, Try.ntmps11
  go_wp2_with (first | ((with_reducible refine gate_callee (f := 35) rfl ?_); refine goesL_ (some 8) rfl rfl Try.func35 (by kernel_rfl) rfl #[.int .i64 a0, .int .i64 a1] rfl TA ?_; (with_reducible refine (spec_mePoint.calls a0 a1 true _ A3.out).mono ?_); rintro e w' ⟨rfl, ⟨nd, rfl⟩⟩; refine ⟨_, rfl, ?_⟩) | ((with_reducible refine gate_callee (f := 40) rfl ?_); refine goesL_ (some 12) rfl rfl Try.func40 (by kernel_rfl) rfl #[.int .i64 a0, .int .i64 a1] rfl TA ?_; (with_reducible refine (spec_meSides.calls k a0 a1 t223 _ A5.out).mono ?_); rintro e w6 ⟨v224, rfl, ho0, hb⟩; refine ⟨_, rfl, ?_⟩; have n0_ := Aside0.mk (Kd.R_lower ho0 (below_size BB)); have n1_ := Aside0.mk (below_step BB hb); clear HB; have HO225 := n0_; have HB := n1_; clear n0_ n1_; (try clear hb); (try clear hb2); (try clear hk); (try clear hi); (try clear ho0)))
  go_ret2
  exact ⟨_, RE, KR HO225, BB⟩
 ·replace c4 := Bool.eq_false_iff.mpr c4
  subst c4
  replace H := IN H
  simp only [Option.some.injEq, Prod.mk.injEq] at H
  obtain ⟨rfl, rfl⟩ := H
  go_enter Try.func11, Try.ntmps11
  go_wp2_with (first | ((with_reducible refine gate_callee (f := 35) rfl ?_); refine goesL_ (some 8) rfl rfl Try.func35 (by kernel_rfl) rfl #[.int .i64 a0, .int .i64 a1] rfl TA ?_; (with_reducible refine (spec_mePoint.calls a0 a1 false _ A3.out).mono ?_); rintro e w' ⟨rfl, ⟨nd, rfl⟩⟩; refine ⟨_, rfl, ?_⟩))
  go_ret2
  exact ⟨_, RE, by first | exact Kd.R_nil _ _ _ _ _ | exact Kd.N_nil _ _ _ _ _ | exact Kd.V_nil _ _ _ _ _ | exact Kd.Q_nil _ _ _ _ _ | exact Kd.S_nil _ _ _ _ _, BB⟩

/-! ### laws_uSame: function 12 -/
def laws_uSame.l0 : Nat → List Int → List Int → Int → Int → Option (Bool)
 | 0, _, _, _, _ => none
 | k + 1, x0, x1, x12, x13 => if x13 < x12 then (if 0 ≤ x13 then (if x13 < (x0.length : Int) then (if x13 < (x1.length : Int) then (if (rd x0 x13) = (rd x1 x13) then (laws_uSame.l0 k x0 x1 x12 (wrap64 (x13 + 1))) else (some false)) else (none)) else (none)) else (none)) else (some true)
def laws_uSame.f (k : Nat) (l0 : List Int) (l1 : List Int) : Option (Bool) := if (l0.length : Int) = (l1.length : Int) then (laws_uSame.l0 k l0 l1 (l0.length : Int) 0) else (some false)
theorem laws_uSame.mono_l : ∀ k, (∀ y0 y1 y2 y3, LeO (laws_uSame.l0 k y0 y1 y2 y3) (laws_uSame.l0 (k + 1) y0 y1 y2 y3))
 | 0 => fun _ _ _ _ r h => by simp [laws_uSame.l0] at h
 | k + 1 => by
  have ih0 := laws_uSame.mono_l k
  ·intro y0 y1 y2 y3
   unfold laws_uSame.l0
   repeat' first
   | with_reducible first | exact ih0 _ _ _ _ | exact LeO.refl _ | exact LeO.none _ | refine LeO.ite ?_ ?_ | refine LeO.bind ?_ (fun _ => ?_)
   | exact LeO.none _ | refine LeO.ite ?_ ?_ | refine LeO.bind ?_ (fun _ => ?_)
theorem laws_uSame.mono : ∀ a0 a1 k, LeO (laws_uSame.f k a0 a1) (laws_uSame.f (k + 1) a0 a1) := by
 intro a0 a1 k
 have ih0 := laws_uSame.mono_l k
 unfold laws_uSame.f
 repeat' first
   | with_reducible first | exact ih0 _ _ _ _ | exact LeO.refl _ | exact LeO.none _ | refine LeO.ite ?_ ?_ | refine LeO.bind ?_ (fun _ => ?_)
   | exact LeO.none _ | refine LeO.ite ?_ ?_ | refine LeO.bind ?_ (fun _ => ?_)
theorem laws_uSame.calls (k : Nat) (A0 : Option Addr) (c0 : Nat) (l0 : List Int) (A1 : Option Addr) (c1 : Nat) (l1 : List Int) (r : Bool) (w : World) (hr0 : Kd.C (Kd.int .i64) w A0 l0.length l0) (hc0 : l0.length ≤ c0) (hr1 : Kd.C (Kd.int .i64) w A1 l1.length l1) (hc1 : l1.length ≤ c1) (h : laws_uSame.f k l0 l1 = some r) :
  Calls Try.prog 12 #[.slice A0 l0.length c0, .slice A1 l1.length c1] w fun e w' => e = .returned (.bool r) ∧ Drawn0 w w' := by
 have HR0 := Aside0.mk hr0
 have HC0 := Aside0.mk hc0
 clear hr0 hc0
 have HR1 := Aside0.mk hr1
 have HC1 := Aside0.mk hc1
 clear hr1 hc1
 have H : (if (l0.length : Int) = (l1.length : Int) then (laws_uSame.l0 k l0 l1 (l0.length : Int) 0) else (some false)) = some r := h
 clear h
 by_cases c3 : (l0.length : Int) = (l1.length : Int)
 ·rw [if_pos c3] at H
  have c3b0 : ((l0.length : Int) == (l1.length : Int)) = true := beq_iff_eq.mpr c3
  have c3b1 : ((l0.length : Int) != (l1.length : Int)) = false := bne_eq_false_iff_eq.mpr c3
  have c3b2 : (l0.length == l1.length) = true := by first | simpa using c3 | (simp at c3 ⊢; omega)
  clear c3
  have H' := Aside0.mk H
  clear H
  go_enter Try.func12, Try.ntmps12
  go_wp2
  repeat (go_quiet (fail); try go_wp2)
  go_loopg [13] k (fun kq v13 w' => ∃ (x13_1 : Int), v13 = .int .i64 x13_1 ∧ Aside0 (laws_uSame.l0 kq l0 l1 (l0.length : Int) x13_1 = some r) ∧ Aside0 (kq ≤ k) ∧ Drawn0 w w')
  case atStart => exact ⟨(0), RF, H', ⟨Nat.le_refl _⟩, by repeat (first | exact Drawn0.refl _ | apply Drawn0.step)⟩
  case round =>
   clear H'
   try clear c1
   try clear p2
   try clear c3
   try clear c3b0
   try clear c3b1
   try clear c3b2
   obtain ⟨x13_1, rfl, HA, HK1, ⟨m1, rfl⟩⟩ := hrel
   cases gk with
   | zero => exact absurd HA.out (by simp [laws_uSame.l0])
   | succ k1 =>
    have H := HA.out
    clear HA
    simp only [laws_uSame.l0] at H
    by_cases c4 : x13_1 < (l0.length : Int)
    ·rw [if_pos c4] at H
     have c4b0 : decide (x13_1 < (l0.length : Int)) = true := decide_eq_true c4
     clear c4
     by_cases c5 : 0 ≤ x13_1
     ·rw [if_pos c5] at H
      have c5b0 : decide (0 ≤ x13_1) = true := decide_eq_true c5
      clear c5
      by_cases c6 : x13_1 < (l0.length : Int)
      ·rw [if_pos c6] at H
       have c6b0 : decide (x13_1 < (l0.length : Int)) = true := decide_eq_true c6
       clear c6
       by_cases c7 : x13_1 < (l1.length : Int)
       ·rw [if_pos c7] at H
        have c7b0 : decide (x13_1 < (l1.length : Int)) = true := decide_eq_true c7
        clear c7
        by_cases c8 : (rd l0 x13_1) = (rd l1 x13_1)
        ·rw [if_pos c8] at H
         have c8b0 : ((rd l0 x13_1) == (rd l1 x13_1)) = true := beq_iff_eq.mpr c8
         have c8b1 : ((rd l0 x13_1) != (rd l1 x13_1)) = false := bne_eq_false_iff_eq.mpr c8
         clear c8
         have H' := Aside0.mk H
         clear H
         have p226 : 0 ≤ (x13_1 : Int) := of_decide_eq_true AS
         have q226 : x13_1 < (l0.length : Int) := of_decide_eq_true AS
         obtain ⟨ad226, e226, hx226_0⟩ := Kd.at_int HR0.out x13_1 p226 q226
         cases e226
         replace p226 := eq_true p226
         replace q226 := eq_true q226
         have p227 : 0 ≤ (x13_1 : Int) := of_decide_eq_true AS
         have q227 : x13_1 < (l1.length : Int) := of_decide_eq_true AS
         obtain ⟨ad227, e227, hx227_0⟩ := Kd.at_int HR1.out x13_1 p227 q227
         cases e227
         replace p227 := eq_true p227
         replace q227 := eq_true q227
         go_wp2
         repeat (go_quiet (fail); try go_wp2)
         go_roundg k1
         case measure => have := HK1.out; omega
         case rel => exact ⟨(wrap64 (x13_1 + 1)), RF, H', ⟨by have := HK1.out; omega⟩, by repeat (first | exact Drawn0.refl _ | apply Drawn0.step)⟩
        ·rw [if_neg c8] at H
         have c8b0 : ((rd l0 x13_1) == (rd l1 x13_1)) = false := beq_eq_false_iff_ne.mpr c8
         have c8b1 : ((rd l0 x13_1) != (rd l1 x13_1)) = true := bne_iff_ne.mpr c8
         obtain rfl := Option.some.inj H
         have p226 : 0 ≤ (x13_1 : Int) := of_decide_eq_true AS
         have q226 : x13_1 < (l0.length : Int) := of_decide_eq_true AS
         obtain ⟨ad226, e226, hx226_0⟩ := Kd.at_int HR0.out x13_1 p226 q226
         cases e226
         replace p226 := eq_true p226
         replace q226 := eq_true q226
         have p227 : 0 ≤ (x13_1 : Int) := of_decide_eq_true AS
         have q227 : x13_1 < (l1.length : Int) := of_decide_eq_true AS
         obtain ⟨ad227, e227, hx227_0⟩ := Kd.at_int HR1.out x13_1 p227 q227
         cases e227
         replace p227 := eq_true p227
         replace q227 := eq_true q227
         go_wp2
         repeat (go_quiet (fail); try go_wp2)
         go_ret
         exact ⟨RF, DR⟩
       ·rw [if_neg c7] at H
        cases H
      ·rw [if_neg c6] at H
       cases H
     ·rw [if_neg c5] at H
      cases H
    ·rw [if_neg c4] at H
     have c4b0 : decide (x13_1 < (l0.length : Int)) = false := decide_eq_false c4
     clear c4
     obtain rfl := Option.some.inj H
     go_wp2
     repeat (go_quiet (fail); try go_wp2)
     go_ret
     exact ⟨RF, DR⟩
 ·rw [if_neg c3] at H
  have c3b0 : ((l0.length : Int) == (l1.length : Int)) = false := beq_eq_false_iff_ne.mpr c3
  have c3b1 : ((l0.length : Int) != (l1.length : Int)) = true := bne_iff_ne.mpr c3
  have c3b2 : (l0.length == l1.length) = false := by first | simpa using c3 | (simp at c3 ⊢; omega)
  obtain rfl := Option.some.inj H
  go_enter Try.func12, Try.ntmps12
  go_wp2
  repeat (go_quiet (fail); try go_wp2)
  go_ret
  exact ⟨RF, DR⟩

/-! ### slices_Index_3_int_3_int: function 42 (given) -/
def ix3 (a b c : Int) : List S54 → Nat → Int
 | [], _ => -1
 | p :: r, i => if a = p.f0 ∧ b = p.f1 ∧ c = p.f2 then (i : Int) else ix3 a b c r (i + 1)
def slices_Index_3_int_3_int.f (l0 : List S54) (a b c : Int) : Option Int := some (ix3 a b c l0 0)
theorem ix3_hit {a b c : Int} {l : List S54} {i : Nat} (hi : i < l.length) (h : a = (rd_T54 l (i : Int)).f0 ∧ b = (rd_T54 l (i : Int)).f1 ∧ c = (rd_T54 l (i : Int)).f2) : ix3 a b c (l.drop i) i = (i : Int) := by
 have e : rd_T54 l (i : Int) = l[i] := by unfold rd_T54; rw [Int.toNat_natCast, List.getD_eq_getElem?_getD, List.getElem?_eq_getElem hi]; rfl
 rw [e] at h
 rw [List.drop_eq_getElem_cons hi, ix3, if_pos h]
theorem ix3_miss {a b c : Int} {l : List S54} {i : Nat} (hi : i < l.length) (h : ¬ (a = (rd_T54 l (i : Int)).f0 ∧ b = (rd_T54 l (i : Int)).f1 ∧ c = (rd_T54 l (i : Int)).f2)) : ix3 a b c (l.drop i) i = ix3 a b c (l.drop (i + 1)) (i + 1) := by
 have e : rd_T54 l (i : Int) = l[i] := by unfold rd_T54; rw [Int.toNat_natCast, List.getD_eq_getElem?_getD, List.getElem?_eq_getElem hi]; rfl
 rw [e] at h
 rw [List.drop_eq_getElem_cons hi, ix3, if_neg h]
set_option maxHeartbeats 4000000 in
set_option maxRecDepth 100000 in
theorem slices_Index_3_int_3_int.calls (A0 : Option Addr) (c0 : Nat) (l0 : List S54) (a b c : Int) (r : Int) (w : World) (hr0 : Kd.C k54 w A0 l0.length l0) (hc0 : l0.length ≤ c0) (h : slices_Index_3_int_3_int.f l0 a b c = some r) :
  Calls Try.prog 42 #[.slice A0 l0.length c0, .agg #[.int .i64 a, .int .i64 b, .int .i64 c]] w fun e w' => e = .returned (.int .i64 r) ∧ Below w.heap.size w w' := by
 have hr : ix3 a b c l0 0 = r := Option.some.inj h
 have HR := Aside0.mk hr
 have HC := Aside0.mk hr0
 have hu := Try.underlying54
 have heq_ := @arr3_eq
 have hmx : l0.length ≤ 9223372036854775807 := hr0.2.1
 have HM := Aside0.mk hmx
 clear h hr hr0 hc0 hmx
 go_enter Try.func42, Try.ntmps42
 go_wp2_with (first
  | ((with_reducible refine gate_dst (N := 3) rfl ?_); refine box_event ?hg (N := 3) ?hd (cs := #[.int .i64 a, .int .i64 b, .int .i64 c]) (t := 54) ?hr ?_; (case hd => rfl); (case hg => rfl); (case hr => exact GS); intro gb hg w1 hbox hb; have HB1 := Aside0.mk hb; have HX := Aside0.mk hbox; clear hb hbox hg))
 go_loopg [8] l0.length (fun gg v8 wr => ∃ i : Nat, v8 = .int .i64 i ∧ i ≤ l0.length ∧ l0.length - i ≤ gg ∧ Aside0 (r = ix3 a b c (l0.drop i) i) ∧ Aside0 (wr.heap[gb]? = some (.cells #[.int .i64 a, .int .i64 b, .int .i64 c] 54 (0, 0))) ∧ Aside0 (Below w.heap.size w wr))
 case atStart => exact ⟨0, rfl, Nat.zero_le _, by omega, Aside0.mk (by rw [List.drop_zero]; exact HR.out.symm), HX, HB1⟩
 case round =>
  obtain ⟨i, rfl, hi, hg, hI, hX, hB⟩ := hrel
  by_cases hlt : i < l0.length
  ·have hi0 : (0 ≤ (i : Int)) = True := eq_true (by omega)
   have hi1 : ((i : Int) < (l0.length : Int)) = True := eq_true (by omega)
   have hi2 : decide ((i : Int) < (l0.length : Int)) = true := decide_eq_true (by omega)
   have hw : wrap64 ((i : Int) + 1) = ((i + 1 : Nat) : Int) := by have := HM.out; unfold wrap64; omega
   have z0 : wr.cell? ⟨gb, 0, none⟩ = some (.int .i64 a) := (blk_cell hX.out 0).trans rfl
   have z1 : wr.cell? ⟨gb, 1, none⟩ = some (.int .i64 b) := (blk_cell hX.out 1).trans rfl
   have z2 : wr.cell? ⟨gb, 2, none⟩ = some (.int .i64 c) := (blk_cell hX.out 2).trans rfl
   obtain ⟨ad, e, x0, x1, x2⟩ := at_T54 HC.out (i : Int) (by omega) (by omega)
   cases e
   replace x0 := (hB.out.cell (World.block_lt_of_cell? w _ x0)).trans x0
   replace x1 := (hB.out.cell (World.block_lt_of_cell? w _ x1)).trans x1
   replace x2 := (hB.out.cell (World.block_lt_of_cell? w _ x2)).trans x2
   rw [Int.toNat_natCast] at x0 x1 x2
   have HG := Aside0.mk (And.intro hg hlt)
   have HW := Aside0.mk hw
   by_cases hc : a = (rd_T54 l0 (i : Int)).f0 ∧ b = (rd_T54 l0 (i : Int)).f1 ∧ c = (rd_T54 l0 (i : Int)).f2
   ·have h3 := ix3_hit hlt hc
    have H3 := Aside0.mk h3
    have q0 : (a == (rd_T54 l0 (i : Int)).f0) = true := beq_iff_eq.2 hc.1
    have q1 : (b == (rd_T54 l0 (i : Int)).f1) = true := beq_iff_eq.2 hc.2.1
    have q2 : (c == (rd_T54 l0 (i : Int)).f2) = true := beq_iff_eq.2 hc.2.2
    clear hc h3 hg hi hlt hw
    go_wp2
    repeat (go_quiet (fail); try go_wp2)
    go_ret
    exact ⟨by rw [hI.out, H3.out]; rfl, by first | exact hB.out | exact pw_below_drewN hB.out _⟩
   ·have h3 := ix3_miss hlt hc
    have H3 := Aside0.mk (hI.out.trans h3)
    have q0 : ((a == (rd_T54 l0 (i : Int)).f0) && ((b == (rd_T54 l0 (i : Int)).f1) && (c == (rd_T54 l0 (i : Int)).f2))) = false := by
     rw [Bool.eq_false_iff]
     intro z
     simp only [Bool.and_eq_true, beq_iff_eq] at z
     exact hc z
    generalize (rd_T54 l0 (i : Int)).f0 = y0 at *
    generalize (rd_T54 l0 (i : Int)).f1 = y1 at *
    generalize (rd_T54 l0 (i : Int)).f2 = y2 at *
    clear hc h3 hg hi hlt hw
    go_wp2
    repeat (go_quiet (fail); try go_wp2)
    go_roundg (l0.length - (i + 1))
    case measure => have := HG.out; omega
    case rel => exact ⟨i + 1, by first | rfl | rw [HW.out], HG.out.2, by have := HG.out; omega, H3, by first | exact hX | exact Aside0.mk (blk_drewN hX.out _), Aside0.mk (by first | exact hB.out | exact pw_below_drewN hB.out _)⟩
  ·have hi2 : decide ((i : Int) < (l0.length : Int)) = false := decide_eq_false (by omega)
   have hi3 : ((i : Int) < (l0.length : Int)) = False := eq_false (by omega)
   have hi4 : decide (i < l0.length) = false := decide_eq_false (by omega)
   have e : l0.drop i = [] := List.drop_eq_nil_of_le (by omega)
   have H3 := Aside0.mk (show r = -1 by rw [hI.out, e]; rfl)
   clear hg hi hlt e
   go_wp2
   go_ret
   exact ⟨by rw [H3.out]; rfl, hB.out⟩

/-! ### impl_IndexOfPoint: function 13 (given) -/
def impl_IndexOfPoint.f (k : Nat) (a0 : Int) (l1 : List Int) : Option (Int × Bool) := (impl_isSide.f a0).bind fun b => if b = true then (if (l1.length : Int) = 3 then ((impl_points.f k a0).bind fun ps => ((slices_Index_3_int_3_int.f ps (rd l1 0) (rd l1 1) (rd l1 2)).bind fun i => if i < 0 then some (0, false) else some (i, true))) else some (0, false)) else some (0, false)
theorem impl_IndexOfPoint.mono : ∀ a0 a1 k, LeO (impl_IndexOfPoint.f k a0 a1) (impl_IndexOfPoint.f (k + 1) a0 a1) := by
 intro a0 a1 k
 unfold impl_IndexOfPoint.f
 exact LeO.bind (LeO.refl _) (fun _ => LeO.ite (LeO.ite (LeO.bind (impl_points.mono _ _) (fun _ => LeO.refl _)) (LeO.refl _)) (LeO.refl _))
theorem impl_IndexOfPoint.arr (A1 : Addr) (c1 n : Nat) (h : 3 ≤ n) (w : World) : (Instr.arrayAt 54 (.slice (some A1) n c1)).run Try.prog w = .ok (.pointer (some A1)) w := by
 have hu := Try.underlying54
 have hn : ¬ (n < 3) := by omega
 simp [Instr.arrayAt, run_underlying hu, hn]
theorem impl_IndexOfPoint.at3 {w : World} {A : Option Addr} {n : Nat} {l : List Int} (h : Kd.C (Kd.int .i64) w A n l) (hl : n = 3) : ∃ ad, A = some ad ∧ w.cell? ad = some (.int .i64 (rd l 0)) ∧ w.cell? ⟨ad.block, ad.off + 1, none⟩ = some (.int .i64 (rd l 1)) ∧ w.cell? ⟨ad.block, ad.off + 2, none⟩ = some (.int .i64 (rd l 2)) := by
 obtain ⟨ad, e, h0⟩ := Kd.at_int h 0 (by omega) (by omega)
 subst e
 obtain ⟨ad1, e1, h1⟩ := Kd.at_int h 1 (by omega) (by omega)
 cases e1
 obtain ⟨ad2, e2, h2⟩ := Kd.at_int h 2 (by omega) (by omega)
 cases e2
 have z0 : ad.add 0 = ad := by cases ad with | mk b o s => simp [Addr.add]
 refine ⟨ad, rfl, ?_, ?_, ?_⟩
 ·have q : ad.add (0 : Int).toNat = ad := z0
  rw [q] at h0; exact h0
 ·have q := add_field ad 0 1 (by omega)
  rw [Nat.zero_add, z0] at q
  rw [← q]; exact h1
 ·have q := add_field ad 0 2 (by omega)
  rw [Nat.zero_add, z0] at q
  rw [← q]; exact h2
theorem impl_IndexOfPoint.calls (k : Nat) (a0 : Int) (A1 : Option Addr) (c1 : Nat) (l1 : List Int) (r1 : Int) (r2 : Bool) (w : World) (hr1 : Kd.C (Kd.int .i64) w A1 l1.length l1) (hc1 : l1.length ≤ c1) (h : impl_IndexOfPoint.f k a0 l1 = some (r1, r2)) :
  Calls Try.prog 13 #[.int .i64 a0, .slice A1 l1.length c1] w fun e w' => e = .returned (.tuple #[.int .i64 r1, .bool r2]) ∧ Below w.heap.size w w' := by
 have hu54 := Try.underlying54
 have HR1 := Aside0.mk hr1
 have HC1 := Aside0.mk hc1
 clear hr1 hc1
 have HB := Aside0.mk (Below.refl w.heap.size w)
 unfold impl_IndexOfPoint.f at h
 obtain ⟨b, hb0, h⟩ := Option.bind_eq_some_iff.mp h
 have A3 := Aside0.mk hb0
 clear hb0
 cases b with
 | false =>
  have h2 := Option.some.inj ((if_neg (show ¬ (false = true) by decide)).symm.trans h)
  injection h2 with e1 e2
  subst e1
  subst e2
  clear h
  go_enter Try.func13, Try.ntmps13
  go_wp2_with (first | ((with_reducible refine gate_callee (f := 41) rfl ?_); refine goesL_ (some 8) rfl rfl Try.func41 (by kernel_rfl) rfl #[.int .i64 a0] rfl TA ?_; (with_reducible refine (impl_isSide.calls a0 false _ A3.out).mono ?_); rintro e w' ⟨rfl, ⟨nd, rfl⟩⟩; refine ⟨_, rfl, ?_⟩))
  go_ret2
  exact ⟨RF, BB⟩
 | true =>
  have h2 := (if_pos (show true = true from rfl)).symm.trans h
  clear h
  by_cases c4 : (l1.length : Int) = 3
  ·have h3 := (if_pos c4).symm.trans h2
   obtain ⟨ps, hps, h4⟩ := Option.bind_eq_some_iff.mp h3
   have A5 := Aside0.mk hps
   clear h2 h3 hps
   obtain ⟨i, hi, h5⟩ := Option.bind_eq_some_iff.mp h4
   have A6 := Aside0.mk hi
   clear h4 hi
   have c4b0 : ((l1.length : Int) == 3) = true := beq_iff_eq.mpr c4
   have c4b1 : ((l1.length : Int) != 3) = false := bne_eq_false_iff_eq.mpr c4
   have hl3 : l1.length = 3 := by omega
   have c4b2 : (l1.length == 3) = true := beq_iff_eq.mpr hl3
   obtain ⟨ad, e, x0, x1, x2⟩ := impl_IndexOfPoint.at3 HR1.out hl3
   subst e
   have HARR := Aside0.mk (impl_IndexOfPoint.arr ad c1 3 (Nat.le_refl 3))
   clear c4
   go_enter Try.func13, Try.ntmps13
   go_wp2_with (first | ((with_reducible refine gate_callee (f := 41) rfl ?_); refine goesL_ (some 8) rfl rfl Try.func41 (by kernel_rfl) rfl #[.int .i64 a0] rfl TA ?_; (with_reducible refine (impl_isSide.calls a0 true _ A3.out).mono ?_); rintro e w' ⟨rfl, ⟨nd, rfl⟩⟩; refine ⟨_, rfl, ?_⟩))
   generalize hz0 : rd l1 0 = z0 at *
   generalize hz1 : rd l1 1 = z1 at *
   generalize hz2 : rd l1 2 = z2 at *
   refine start_ (n := 7) (S := fun w' => w'.cell? ad = some (.int .i64 z0) ∧ w'.cell? ⟨ad.block, ad.off + 1, none⟩ = some (.int .i64 z1) ∧ w'.cell? ⟨ad.block, ad.off + 2, none⟩ = some (.int .i64 z2)) (ds := []) #[false, false, false, false, false, false, false] (by kernel_rfl) rfl rfl ⟨x0, x1, x2⟩ (fun hHeld => ?_)
   refine pure_ (i := 0) (N := some 15) #[true, false, false, false, false, false, false] rfl rfl (by kernel_rfl) (fun _ _ _ h => h) (Or.inl ⟨by rfl, PW⟩) PU ?_
   refine pure_ (i := 2) (N := some 17) #[true, false, true, false, false, false, false] rfl rfl (by kernel_rfl) (fun _ _ _ h => h) (Or.inl ⟨by rfl, PW⟩) PU ?_
   refine pure_ (i := 3) (N := some 18) (v := ?_) (a' := ?_) #[true, false, true, true, false, false, false] rfl rfl (by kernel_rfl) (fun _ _ _ h => h) (Or.inl ⟨by rfl, ?_⟩) ?_ ?_
   rotate_left
   ·intro w'
    have harr := HARR.out w'
    go_simp
    with_reducible rfl
   rotate_left
   ·exact PU
   refine take_ (i := 4) (N := some 19) #[true, false, true, true, true, false, false] rfl rfl (by kernel_rfl) (fun _ _ _ h => h) (Or.inl ⟨by rfl, PT⟩) hHeld PU ?_
   refine one_ (i := 1) (N := some 16) #[true, true, true, true, true, false, false] rfl rfl (by kernel_rfl) (by decide) (fun K hK => ?_)
   refine goes_ Try.func34 (by kernel_rfl) rfl #[.int .i64 a0] (by rfl) rfl rfl TA ?_
   with_reducible refine (impl_points.calls k a0 ps _ A5.out).mono ?_
   rintro e w14 ⟨v214, rfl, ho0, hb⟩
   have HS0_ := (hb.cell (World.block_lt_of_cell? _ _ hHeld.1)).trans hHeld.1
   have HS1_ := (hb.cell (World.block_lt_of_cell? _ _ hHeld.2.1)).trans hHeld.2.1
   have HS2_ := (hb.cell (World.block_lt_of_cell? _ _ hHeld.2.2)).trans hHeld.2.2
   refine ⟨_, rfl, ?_⟩
   have n2_ := Aside0.mk (Kd.R_lower ho0 (below_size BB))
   have n3_ := Aside0.mk (below_step BB hb)
   clear HB
   have HO := n2_
   have HB := n3_
   clear n2_ n3_ ho0 hb
   obtain ⟨Ao15, co15, eo15⟩ := Kd.R_slice HO.out
   subst eo15
   refine hK.out _ _ ⟨HS0_, HS1_, HS2_⟩ (fun hHeld => ?_)
   clear hK K
   refine norm_ (a' := ?_) ?_ ?_
   rotate_left
   ·show Act.put _ (some 16) _ = _
    simp only [Act.put, List.setIfInBounds_toArray, List.set_cons_zero, List.set_cons_succ, i64_w, i32_w]
    rfl
   refine one_ (i := 5) (N := some 20) #[true, true, true, true, true, true, false] rfl rfl (by kernel_rfl) (by decide) (fun K hK => ?_)
   refine goes_ Try.func42 (by kernel_rfl) rfl #[.slice Ao15 ps.length co15, .agg #[.int .i64 z0, .int .i64 z1, .int .i64 z2]] (by rfl) rfl rfl TA ?_
   with_reducible refine (slices_Index_3_int_3_int.calls Ao15 co15 ps _ _ _ i _ (Kd.R_reads' HO.out).2.2 (Kd.R_reads' HO.out).2.1 A6.out).mono ?_
   rintro e w15 ⟨rfl, hb⟩
   have HS0_ := (hb.cell (World.block_lt_of_cell? _ _ hHeld.1)).trans hHeld.1
   have HS1_ := (hb.cell (World.block_lt_of_cell? _ _ hHeld.2.1)).trans hHeld.2.1
   have HS2_ := (hb.cell (World.block_lt_of_cell? _ _ hHeld.2.2)).trans hHeld.2.2
   refine ⟨_, rfl, ?_⟩
   have n3_ := Aside0.mk (below_step BB hb)
   clear HB
   have HB := n3_
   clear n3_ hb
   refine hK.out _ _ ⟨HS0_, HS1_, HS2_⟩ (fun hHeld => ?_)
   clear hK K
   refine norm_ (a' := ?_) ?_ ?_
   rotate_left
   ·show Act.put _ (some 20) _ = _
    simp only [Act.put, List.setIfInBounds_toArray, List.set_cons_zero, List.set_cons_succ, i64_w, i32_w]
    rfl
   refine pure_ (i := 6) (N := some 6) #[true, true, true, true, true, true, true] rfl rfl (by kernel_rfl) (fun _ _ _ h => h) (Or.inl ⟨by rfl, PW⟩) PU ?_
   refine done_ (by kernel_rfl) ?_
   by_cases c7 : i < 0
   ·have h6 := Option.some.inj ((if_pos c7).symm.trans h5)
    injection h6 with e1 e2
    subst e1
    subst e2
    have c7b0 : decide (i < 0) = true := decide_eq_true c7
    clear h5 c7
    go_wp2
    go_ret2
    exact ⟨RF, BB⟩
   ·have h6 := Option.some.inj ((if_neg c7).symm.trans h5)
    injection h6 with e1 e2
    subst e1
    subst e2
    have c7b0 : decide (i < 0) = false := decide_eq_false c7
    clear h5 c7
    go_wp2
    go_ret2
    exact ⟨RF, BB⟩
  ·have h3 := Option.some.inj ((if_neg c4).symm.trans h2)
   injection h3 with e1 e2
   subst e1
   subst e2
   clear h2
   have c4b0 : ((l1.length : Int) == 3) = false := beq_eq_false_iff_ne.mpr c4
   have c4b1 : ((l1.length : Int) != 3) = true := bne_iff_ne.mpr c4
   have c4b2 : (l1.length == 3) = false := beq_eq_false_iff_ne.mpr (by omega)
   clear c4
   go_enter Try.func13, Try.ntmps13
   go_wp2_with (first | ((with_reducible refine gate_callee (f := 41) rfl ?_); refine goesL_ (some 8) rfl rfl Try.func41 (by kernel_rfl) rfl #[.int .i64 a0] rfl TA ?_; (with_reducible refine (impl_isSide.calls a0 true _ A3.out).mono ?_); rintro e w' ⟨rfl, ⟨nd, rfl⟩⟩; refine ⟨_, rfl, ?_⟩))
   go_ret2
   exact ⟨RF, BB⟩

end Go.Proofs.Ythkdkgbcokpbaab.PFnTrianglesAreCut
