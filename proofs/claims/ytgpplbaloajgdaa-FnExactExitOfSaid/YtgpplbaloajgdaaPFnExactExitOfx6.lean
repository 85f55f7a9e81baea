-- Written by a program of this session (wip/tools/pp.sh) out of the translation; Lean checks it.
import Derived.Test.YtgpplbaloajgdaaPFnExactExitOfx0
import Derived.Test.YtgpplbaloajgdaaPFnExactExitOfx2
import Derived.Test.YtgpplbaloajgdaaPFnExactExitOfx3
import Derived.Test.YtgpplbaloajgdaaPFnExactExitOfx4
import Derived.Test.YtgpplbaloajgdaaPFnExactExitOfx5
namespace Go.Proofs.Ytgpplbaloajgdaa.PFnExactExitOf
open Go.RowKit Go.Proofs.YtgpplbaloajgdaaOwn Go.Proofs.YtgpplbaloajgdaaW.PrintWords Go.Proofs.YtgpplbaloajgdaaW.PrintLast Go.Proofs.YtgpplbaloajgdaaW.PrintMore
attribute [local go_sem] max2_int min2_int max_two min_two max_three min_three max_four min_four   -- for this text's walks alone
set_option linter.unusedVariables false
set_option linter.unusedSimpArgs false

def spec_ExitOf.l0 : Nat → List Int → List (List Int) → Int → Int → Option (List Int × Bool)
 | 0, _, _, _, _ => none
 | k + 1, x11, x42, x43, x44 => if x44 < x43 then (if 0 ≤ x44 then (if x44 < (x42.length : Int) then (if 0 < ((rd_L1 x42 x44).length : Int) then (if 1 < ((rd_L1 x42 x44).length : Int) then ((spec_doInner.f (rd (rd_L1 x42 x44) 0) (rd (rd_L1 x42 x44) 1)).bind fun t274 => ((spec_l1Same.f k t274 x11).bind fun t277 => (if t277 = true then (some (rd_L1 x42 x44, true)) else (spec_ExitOf.l0 k x11 x42 x43 (wrap64 (x44 + 1)))))) else (none)) else (none)) else (none)) else (none)) else (some (([] : List Int), false))
def spec_ExitOf.f (k : Nat) (a0 : Int) (l1 : List Int) (a2 : Int) (a3 : Int) : Option (List Int × Bool) := (spec_doOutside.f k a0 l1 a2 a3).bind fun t255 => (if t255 = true then ((spec_doFrom.f k a0 l1 a2 a3).bind fun bt256 => ((spec_meCells.f k a0).bind fun t262 => (if 0 ≤ (wrap64 ((bt256.1.length : Int) - 1)) then (if (wrap64 ((bt256.1.length : Int) - 1)) < (bt256.1.length : Int) then (if 0 ≤ (rd bt256.1 (wrap64 ((bt256.1.length : Int) - 1))) then (if (rd bt256.1 (wrap64 ((bt256.1.length : Int) - 1))) < (t262.length : Int) then ((spec_doFull.f k l1 (rd_L1 t262 (rd bt256.1 (wrap64 ((bt256.1.length : Int) - 1))))).bind fun t267 => (if t267 = true then (some (([] : List Int), false)) else ((spec_doBorder.f k a0 l1).bind fun t268 => (spec_ExitOf.l0 k bt256.2 t268 (t268.length : Int) 0)))) else (none)) else (none)) else (none)) else (none)))) else (some (([] : List Int), false)))
theorem spec_ExitOf.mono_l : ∀ k, (∀ y0 y1 y2 y3, LeO (spec_ExitOf.l0 k y0 y1 y2 y3) (spec_ExitOf.l0 (k + 1) y0 y1 y2 y3))
 | 0 => fun _ _ _ _ r h => by simp [spec_ExitOf.l0] at h
 | k + 1 => by
  have ih0 := spec_ExitOf.mono_l k
  ·intro y0 y1 y2 y3
   unfold spec_ExitOf.l0
   repeat' first
   | (with_reducible exact ih0 _ _ _ _)
   | (with_reducible exact spec_doBorder.mono _ _ _)
   | (with_reducible exact spec_doFrom.mono _ _ _ _ _)
   | (with_reducible exact spec_doFull.mono _ _ _)
   | (with_reducible exact spec_doOutside.mono _ _ _ _ _)
   | (with_reducible exact spec_l1Same.mono _ _ _)
   | (with_reducible exact spec_meCells.mono _ _)
   | (with_reducible exact LeO.refl _)
   | (with_reducible exact LeO.none _)
   | (with_reducible refine LeO.ite ?_ ?_)
   | (with_reducible refine LeO.bind ?_ (fun _ => ?_))
   | exact ih0 _ _ _ _
   | exact spec_doBorder.mono _ _ _
   | exact spec_doFrom.mono _ _ _ _ _
   | exact spec_doFull.mono _ _ _
   | exact spec_doOutside.mono _ _ _ _ _
   | exact spec_l1Same.mono _ _ _
   | exact spec_meCells.mono _ _
   | exact LeO.none _
   | refine LeO.ite ?_ ?_
   | refine LeO.bind ?_ (fun _ => ?_)
theorem spec_ExitOf.mono : ∀ a0 a1 a2 a3 k, LeO (spec_ExitOf.f k a0 a1 a2 a3) (spec_ExitOf.f (k + 1) a0 a1 a2 a3) := by
 intro a0 a1 a2 a3 k
 have ih0 := spec_ExitOf.mono_l k
 unfold spec_ExitOf.f
 repeat' first
   | (with_reducible exact ih0 _ _ _ _)
   | (with_reducible exact spec_doBorder.mono _ _ _)
   | (with_reducible exact spec_doFrom.mono _ _ _ _ _)
   | (with_reducible exact spec_doFull.mono _ _ _)
   | (with_reducible exact spec_doOutside.mono _ _ _ _ _)
   | (with_reducible exact spec_l1Same.mono _ _ _)
   | (with_reducible exact spec_meCells.mono _ _)
   | (with_reducible exact LeO.refl _)
   | (with_reducible exact LeO.none _)
   | (with_reducible refine LeO.ite ?_ ?_)
   | (with_reducible refine LeO.bind ?_ (fun _ => ?_))
   | exact ih0 _ _ _ _
   | exact spec_doBorder.mono _ _ _
   | exact spec_doFrom.mono _ _ _ _ _
   | exact spec_doFull.mono _ _ _
   | exact spec_doOutside.mono _ _ _ _ _
   | exact spec_l1Same.mono _ _ _
   | exact spec_meCells.mono _ _
   | exact LeO.none _
   | refine LeO.ite ?_ ?_
   | refine LeO.bind ?_ (fun _ => ?_)
def spec_ExitOf.T4 : Bool × List (List Nat × List Nat) := (true, [([], []), ([], []), ([1], [1]), ([], []), ([], []), ([4], [4]), ([5], [5]), ([3, 6], [3, 6]), ([7], [7]), ([2, 8], [2, 8]), ([9], [9]), ([0, 10, 2], [0, 10])])
def spec_ExitOf.B4 : List Nat := [0, 0, 2, 0, 0, 16, 48, 120, 248, 510, 1022, 2047]
theorem spec_ExitOf.tab4 : rtab .any (opsOf Try.f15 4) = spec_ExitOf.T4 := by kernel_rfl
theorem spec_ExitOf.bits4 : waitsOk spec_ExitOf.T4.2 spec_ExitOf.B4 = true := by kernel_rfl
def spec_ExitOf.T9 : Bool × List (List Nat × List Nat) := (true, [([], []), ([0], [0]), ([1], [1]), ([], []), ([3], [3]), ([4], [4]), ([2, 5], [2, 5]), ([], []), ([6, 7, 6], [6, 7])])
def spec_ExitOf.B9 : List Nat := [0, 1, 3, 0, 8, 24, 63, 0, 255]
theorem spec_ExitOf.tab9 : rtab .any (opsOf Try.f15 9) = spec_ExitOf.T9 := by kernel_rfl
theorem spec_ExitOf.bits9 : waitsOk spec_ExitOf.T9.2 spec_ExitOf.B9 = true := by kernel_rfl
set_option maxHeartbeats 8000000 in
set_option maxRecDepth 100000 in
theorem spec_ExitOf.calls (k : Nat) (a0 : Int) (A1 : Option Addr) (c1 : Nat) (l1 : List Int) (a2 : Int) (a3 : Int) (r1 : List Int) (r2 : Bool) (w : World) (hr1 : Kd.C (Kd.int .i64) w A1 l1.length l1) (hc1 : l1.length ≤ c1) (h : spec_ExitOf.f k a0 l1 a2 a3 = some (r1, r2)) :
  Calls Try.prog 15 #[.int .i64 a0, .slice A1 l1.length c1, .int .i64 a2, .int .i64 a3] w fun e w' => ∃ v0_ : Value, e = .returned (.tuple #[v0_, .bool r2]) ∧ Kd.R (Kd.int .i64) 3 w' w.heap.size (fun _ => True) v0_ r1 ∧ Below w.heap.size w w' := by
 have HR1 := Aside0.mk hr1; have HC1 := Aside0.mk hc1; clear hr1 hc1; have HB := Aside0.mk (Below.refl w.heap.size w); have H : ((spec_doOutside.f k a0 l1 a2 a3).bind fun t255 => (if t255 = true then ((spec_doFrom.f k a0 l1 a2 a3).bind fun bt256 => ((spec_meCells.f k a0).bind fun t262 => (if 0 ≤ (wrap64 ((bt256.1.length : Int) - 1)) then (if (wrap64 ((bt256.1.length : Int) - 1)) < (bt256.1.length : Int) then (if 0 ≤ (rd bt256.1 (wrap64 ((bt256.1.length : Int) - 1))) then (if (rd bt256.1 (wrap64 ((bt256.1.length : Int) - 1))) < (t262.length : Int) then ((spec_doFull.f k l1 (rd_L1 t262 (rd bt256.1 (wrap64 ((bt256.1.length : Int) - 1))))).bind fun t267 => (if t267 = true then (some (([] : List Int), false)) else ((spec_doBorder.f k a0 l1).bind fun t268 => (spec_ExitOf.l0 k bt256.2 t268 (t268.length : Int) 0)))) else (none)) else (none)) else (none)) else (none)))) else (some (([] : List Int), false)))) = some (r1, r2) := h; clear h; replace H := Option.bind_eq_some_iff.mp H; obtain ⟨t255, A50, H⟩ := H
 replace H : (if t255 = true then ((spec_doFrom.f k a0 l1 a2 a3).bind fun bt256 => ((spec_meCells.f k a0).bind fun t262 => (if 0 ≤ (wrap64 ((bt256.1.length : Int) - 1)) then (if (wrap64 ((bt256.1.length : Int) - 1)) < (bt256.1.length : Int) then (if 0 ≤ (rd bt256.1 (wrap64 ((bt256.1.length : Int) - 1))) then (if (rd bt256.1 (wrap64 ((bt256.1.length : Int) - 1))) < (t262.length : Int) then ((spec_doFull.f k l1 (rd_L1 t262 (rd bt256.1 (wrap64 ((bt256.1.length : Int) - 1))))).bind fun t267 => (if t267 = true then (some (([] : List Int), false)) else ((spec_doBorder.f k a0 l1).bind fun t268 => (spec_ExitOf.l0 k bt256.2 t268 (t268.length : Int) 0)))) else (none)) else (none)) else (none)) else (none)))) else (some (([] : List Int), false))) = some (r1, r2) := H; have A5 := Aside0.mk A50; clear A50
 by_cases c6 : t255 = true
 ·subst c6
  have H1 : ((spec_doFrom.f k a0 l1 a2 a3).bind fun bt256 => ((spec_meCells.f k a0).bind fun t262 => (if 0 ≤ (wrap64 ((bt256.1.length : Int) - 1)) then (if (wrap64 ((bt256.1.length : Int) - 1)) < (bt256.1.length : Int) then (if 0 ≤ (rd bt256.1 (wrap64 ((bt256.1.length : Int) - 1))) then (if (rd bt256.1 (wrap64 ((bt256.1.length : Int) - 1))) < (t262.length : Int) then ((spec_doFull.f k l1 (rd_L1 t262 (rd bt256.1 (wrap64 ((bt256.1.length : Int) - 1))))).bind fun t267 => (if t267 = true then (some (([] : List Int), false)) else ((spec_doBorder.f k a0 l1).bind fun t268 => (spec_ExitOf.l0 k bt256.2 t268 (t268.length : Int) 0)))) else (none)) else (none)) else (none)) else (none)))) = some (r1, r2) := by rw [if_pos rfl] at H; exact H
  clear H; have H := H1; clear H1; replace H := Option.bind_eq_some_iff.mp H; obtain ⟨⟨t256, t259⟩, A70, H⟩ := H; replace H : ((spec_meCells.f k a0).bind fun t262 => (if 0 ≤ (wrap64 ((t256.length : Int) - 1)) then (if (wrap64 ((t256.length : Int) - 1)) < (t256.length : Int) then (if 0 ≤ (rd t256 (wrap64 ((t256.length : Int) - 1))) then (if (rd t256 (wrap64 ((t256.length : Int) - 1))) < (t262.length : Int) then ((spec_doFull.f k l1 (rd_L1 t262 (rd t256 (wrap64 ((t256.length : Int) - 1))))).bind fun t267 => (if t267 = true then (some (([] : List Int), false)) else ((spec_doBorder.f k a0 l1).bind fun t268 => (spec_ExitOf.l0 k t259 t268 (t268.length : Int) 0)))) else (none)) else (none)) else (none)) else (none))) = some (r1, r2) := H; have A7 := Aside0.mk A70; clear A70; replace H := Option.bind_eq_some_iff.mp H; obtain ⟨t262, A80, H⟩ := H
  replace H : (if 0 ≤ (wrap64 ((t256.length : Int) - 1)) then (if (wrap64 ((t256.length : Int) - 1)) < (t256.length : Int) then (if 0 ≤ (rd t256 (wrap64 ((t256.length : Int) - 1))) then (if (rd t256 (wrap64 ((t256.length : Int) - 1))) < (t262.length : Int) then ((spec_doFull.f k l1 (rd_L1 t262 (rd t256 (wrap64 ((t256.length : Int) - 1))))).bind fun t267 => (if t267 = true then (some (([] : List Int), false)) else ((spec_doBorder.f k a0 l1).bind fun t268 => (spec_ExitOf.l0 k t259 t268 (t268.length : Int) 0)))) else (none)) else (none)) else (none)) else (none)) = some (r1, r2) := H; have A8 := Aside0.mk A80; clear A80; obtain ⟨ji9, hji9⟩ : ∃ j_ : Int, (wrap64 ((t256.length : Int) - 1)) = j_ := ⟨_, rfl⟩
  replace H : (if 0 ≤ (ji9) then (if (ji9) < (t256.length : Int) then (if 0 ≤ (rd t256 (ji9)) then (if (rd t256 (ji9)) < (t262.length : Int) then ((spec_doFull.f k l1 (rd_L1 t262 (rd t256 (ji9)))).bind fun t267 => (if t267 = true then (some (([] : List Int), false)) else ((spec_doBorder.f k a0 l1).bind fun t268 => (spec_ExitOf.l0 k t259 t268 (t268.length : Int) 0)))) else (none)) else (none)) else (none)) else (none)) = some (r1, r2) := by first | (rw [hji9] at H; exact H) | (simp only [hji9] at H ⊢; exact H)
  (try rw [hji9] at A5)
  (try rw [hji9] at A7)
  (try rw [hji9] at A8)
  have hji9w : (IntKind.i64.wrap ((t256.length : Int) - 1)) = ji9 := (i64_w _).trans hji9
  by_cases c10 : 0 ≤ (ji9)
  ·rw [if_pos c10] at H
   have c10b0 : decide (0 ≤ (ji9)) = true := decide_eq_true c10; clear c10
   by_cases c11 : (ji9) < (t256.length : Int)
   ·rw [if_pos c11] at H
    have c11b0 : decide ((ji9) < (t256.length : Int)) = true := decide_eq_true c11; clear c11
    by_cases c12 : 0 ≤ (rd t256 (ji9))
    ·rw [if_pos c12] at H
     have c12b0 : decide (0 ≤ (rd t256 (ji9))) = true := decide_eq_true c12; clear c12
     by_cases c13 : (rd t256 (ji9)) < (t262.length : Int)
     ·rw [if_pos c13] at H
      have c13b0 : decide ((rd t256 (ji9)) < (t262.length : Int)) = true := decide_eq_true c13; clear c13; replace H := Option.bind_eq_some_iff.mp H; obtain ⟨t267, A140, H⟩ := H; replace H : (if t267 = true then (some (([] : List Int), false)) else ((spec_doBorder.f k a0 l1).bind fun t268 => (spec_ExitOf.l0 k t259 t268 (t268.length : Int) 0))) = some (r1, r2) := H; have A14 := Aside0.mk A140; clear A140
      by_cases c15 : t267 = true
      ·subst c15
       have H1 : (some (([] : List Int), false)) = some (r1, r2) := by rw [if_pos rfl] at H; exact H
       clear H; have H := H1; clear H1
       simp only [Option.some.injEq, Prod.mk.injEq] at H
       obtain ⟨rfl, rfl⟩ := H
       go_enter Try.func15, Try.ntmps15
       try go_wp2_with (first | ((with_reducible refine gate_callee (f := 27) rfl ?_); refine goesL_ (some 18) rfl rfl Try.func27 (by kernel_rfl) rfl #[.int .i64 a0, .slice A1 l1.length c1, .int .i64 a2, .int .i64 a3] rfl TA ?_; (with_reducible refine (spec_doOutside.calls k a0 _ _ l1 a2 a3 true _ ?side1 ?side2 A5.out).mono ?_); (case side1 => repeat (first | exact HR1.out | (with_reducible refine Kd.C_alloc ?_ _) | (with_reducible refine Kd.C_drewN ?_ _) | (with_reducible refine Kd.C_drew ?_))); (case side2 => exact HC1.out); rintro e w16 ⟨rfl, hb⟩; refine ⟨_, rfl, ?_⟩; have n0_ := Aside0.mk (below_step BB hb); clear HB; have HB := n0_; clear n0_; (try clear hb); (try clear hb2); (try clear hk); (try clear hi)) | ((with_reducible refine gate_callee (f := 22) rfl ?_); refine goesL_ (some 25) rfl rfl Try.func22 (by kernel_rfl) rfl #[.int .i64 a0, .slice A1 l1.length c1, .int .i64 a2, .int .i64 a3] rfl TA ?_; (with_reducible refine (spec_doFrom.calls k a0 _ _ l1 a2 a3 t256 t259 _ ?side1 ?side2 A7.out).mono ?_); (case side1 => repeat (first | exact (Kd.C_below HR1.out HB.out) | (with_reducible refine Kd.C_alloc ?_ _) | (with_reducible refine Kd.C_drewN ?_ _) | (with_reducible refine Kd.C_drew ?_))); (case side2 => exact HC1.out); rintro e w17 ⟨v257, v260, rfl, ho0, ho1, hb⟩; refine ⟨_, rfl, ?_⟩; have n0_ := Aside0.mk (Kd.R_lower (Kd.R_mono (ok' := fun k_ => True) ho0 (fun _ hk_ => trivial)) (below_size BB)); have n1_ := Aside0.mk (Kd.V_lower (Kd.V_mono (ok' := fun k_ => some k_ ≠ (v257 : Value).ownBlock) ho1 (fun k_ hk_ => hk_.2)) (below_size BB)); have n2_ := Aside0.mk (below_step BB hb); clear HB; have HO258 := n0_; have HO261 := n1_; have HB := n2_; clear n0_ n1_ n2_; (try clear hb); (try clear hb2); (try clear hk); (try clear hi); (try clear ho0); (try clear ho1)))
       have n0_ := Aside0.mk (Kd.R_drew HO258.out); have n1_ := Aside0.mk (Kd.V_drew HO261.out); have n2_ := Aside0.mk (below_drew1 HB.out); clear HO258; clear HO261; clear HB; have HO258 := n0_; have HO261 := n1_; have HB := n2_; clear n0_ n1_ n2_; obtain ⟨Ao19, co19, eo19⟩ := Kd.R_slice HO258.out
       (first | subst eo19 | (injection eo19 with f1_ f2_ f3_; have f4_ := f1_.symm; have f5_ := f3_.symm; clear f1_ f2_ f3_; subst f4_; subst f5_))
       have p265 : 0 ≤ ((ji9) : Int) := of_decide_eq_true AS; have q265 : (ji9) < (t256.length : Int) := of_decide_eq_true AS; obtain ⟨ad265, e265, hx265_0⟩ := Kd.at_int (Kd.R_reads' HO258.out).2.2 (ji9) p265 q265; cases e265; replace p265 := eq_true p265; replace q265 := eq_true q265
       refine start_ (n := 12) (S := fun w' => w'.cell? (ad265.add ((ji9)).toNat) = some (.int .i64 (rd t256 (ji9)))) (ds := []) #[false, false, false, false, false, false, false, false, false, false, false, false] (by kernel_rfl) rfl rfl hx265_0 (fun hHeld => ?_); refine with_tabW spec_ExitOf.tab4 spec_ExitOf.bits4 (fun HT_ HW_ => ?_)
       generalize w17.drew = w18 at HO258 HO261 HB hx265_0 hHeld ⊢
       refine pure_ (i := 0) (N := some 28) (v := ?_) (a' := ?_) #[true, false, false, false, false, false, false, false, false, false, false, false] rfl rfl (any_of HT_.out (by kernel_rfl)) (fun _ _ _ h => h) (Or.inl ⟨by rfl, ?_⟩) ?_ ?_
       rotate_left
       ·intro w'; go_simp; with_reducible rfl
       rotate_left
       ·simp only [Act.put, List.setIfInBounds_toArray, List.set_cons_zero, List.set_cons_succ, i64_w, i32_w]; rfl
       refine pure_ (i := 1) (N := some 29) (v := ?_) (a' := ?_) #[true, true, false, false, false, false, false, false, false, false, false, false] rfl rfl (any_of HT_.out (by kernel_rfl)) (fun _ _ _ h => h) (Or.inl ⟨by rfl, ?_⟩) ?_ ?_
       rotate_left
       ·intro w'; go_simp; with_reducible rfl
       rotate_left
       ·simp only [Act.put, List.setIfInBounds_toArray, List.set_cons_zero, List.set_cons_succ, i64_w, i32_w]; rfl
       refine pure_ (i := 3) (N := some 31) (v := ?_) (a' := ?_) #[true, true, false, true, false, false, false, false, false, false, false, false] rfl rfl (any_of HT_.out (by kernel_rfl)) (fun _ _ _ h => h) (Or.inl ⟨by rfl, ?_⟩) ?_ ?_
       rotate_left
       ·intro w'; go_simp; with_reducible rfl
       rotate_left
       ·simp only [Act.put, List.setIfInBounds_toArray, List.set_cons_zero, List.set_cons_succ, i64_w, i32_w]; rfl
       refine pure_ (i := 4) (N := some 32) (v := ?_) (a' := ?_) #[true, true, false, true, true, false, false, false, false, false, false, false] rfl rfl (any_of HT_.out (by kernel_rfl)) (fun _ _ _ h => h) (Or.inl ⟨by rfl, ?_⟩) ?_ ?_
       rotate_left
       ·intro w'; go_simp; with_reducible rfl
       rotate_left
       ·simp only [Act.put, List.setIfInBounds_toArray, List.set_cons_zero, List.set_cons_succ, i64_w, i32_w]; rfl
       refine pure_ (i := 5) (N := some 33) (v := ?_) (a' := ?_) #[true, true, false, true, true, true, false, false, false, false, false, false] rfl rfl (any_of HT_.out (by kernel_rfl)) (fun _ _ _ h => h) (Or.inl ⟨by rfl, ?_⟩) ?_ ?_
       rotate_left
       ·intro w'; go_simp; with_reducible rfl
       rotate_left
       ·simp only [Act.put, List.setIfInBounds_toArray, List.set_cons_zero, List.set_cons_succ, i64_w, i32_w]; rfl
       refine pure_ (i := 6) (N := some 34) (v := ?_) (a' := ?_) #[true, true, false, true, true, true, true, false, false, false, false, false] rfl rfl (any_of HT_.out (by kernel_rfl)) (fun _ _ _ h => h) (Or.inl ⟨by rfl, ?_⟩) ?_ ?_
       rotate_left
       ·intro w'; go_simp; with_reducible rfl
       rotate_left
       ·simp only [Act.put, List.setIfInBounds_toArray, List.set_cons_zero, List.set_cons_succ, i64_w, i32_w]; rfl
       refine pure_ (i := 7) (N := some 35) (v := ?_) (a' := ?_) #[true, true, false, true, true, true, true, true, false, false, false, false] rfl rfl (any_of HT_.out (by kernel_rfl)) (fun _ _ _ h => h) (Or.inl ⟨by rfl, ?_⟩) ?_ ?_
       rotate_left
       ·intro w'; go_simp; with_reducible rfl
       rotate_left
       ·simp only [Act.put, List.setIfInBounds_toArray, List.set_cons_zero, List.set_cons_succ, i64_w, i32_w]; rfl
       refine take_ (i := 8) (N := some 36) (v := ?_) (a' := ?_) #[true, true, false, true, true, true, true, true, true, false, false, false] rfl rfl (take_ofW HT_.out HW_.out (by kernel_rfl)) (fun _ _ _ h => h) (Or.inl ⟨by rfl, ?_⟩) hHeld ?_ ?_
       rotate_left
       ·rintro w' s0; go_simp; with_reducible rfl
       rotate_left
       ·simp only [Act.put, List.setIfInBounds_toArray, List.set_cons_zero, List.set_cons_succ, i64_w, i32_w]; rfl
       refine one_ (i := 2) (N := some 30) #[true, true, true, true, true, true, true, true, true, false, false, false] rfl rfl (one_of HT_.out (by kernel_rfl)) (by decide) (fun K hK => ?_)
       refine goes_ Try.func20 (by kernel_rfl) rfl #[.int .i64 a0] (by rfl) rfl rfl TA ?_
       with_reducible refine (spec_meCells.calls k a0 t262 _ A8.out).mono ?_
       rintro e w20 ⟨v263, rfl, ho0, hb⟩
       have HS0_ := (hb.cell (World.block_lt_of_cell? _ _ (hHeld))).trans (hHeld)
       refine ⟨_, rfl, ?_⟩
       have n0_ := Aside0.mk (Kd.R_below (KR HO258) hb); have n1_ := Aside0.mk (Kd.V_elder' (by (with_reducible repeat (first | apply Kd.V_alloc | apply Kd.V_drewN | apply Kd.V_drew)); exact HO261.out) (Kd.S_base ho0) hb); have n2_ := Aside0.mk (Kd.S_lower (Kd.S_new' ho0 (Kd.R_lt (KR HO258))) (below_size BB)); have n3_ := Aside0.mk (below_step BB hb); clear HO258; clear HO261; clear HB; have HO258 := n0_; have HO261 := n1_; have HO264 := n2_; have HB := n3_; clear n0_ n1_ n2_ n3_
       (try clear hb)
       (try clear hb2)
       (try clear hk)
       (try clear hi)
       (try clear ho0)
       obtain ⟨Ao21, co21, eo21⟩ := Kd.S_slice HO264.out
       (first | subst eo21 | (injection eo21 with f1_ f2_ f3_; have f4_ := f1_.symm; have f5_ := f3_.symm; clear f1_ f2_ f3_; subst f4_; subst f5_))
       have p266 : 0 ≤ ((rd t256 (ji9)) : Int) := of_decide_eq_true AS; have q266 : (rd t256 (ji9)) < (t262.length : Int) := of_decide_eq_true AS; obtain ⟨ad266, A266_0, c266_0, e266, hx266_0, hl266_0, hi266_0⟩ := at_L1 (Kd.S_reads' HO264.out).2.2 (rd t256 (ji9)) p266 q266; cases e266; obtain ⟨ce266, hce266, hMe266, hcc266⟩ := Kd.S_get HO264.out [] (rd t256 (ji9)) p266 (by first | exact q266 | exact of_decide_eq_true AS | (have e_ := (Kd.S_reads' HO264.out).1; omega)); obtain ⟨ve266_0, rfl, ge266_0⟩ := hMe266; have hv266_0 := hcc266 0 _ rfl; rw [Nat.add_zero, show ((Kd.slice 3 (Kd.int .i64))).sz = 1 from rfl, Nat.mul_one] at hv266_0; replace hv266_0 := Option.some.inj (hv266_0.symm.trans hx266_0); rw [hv266_0] at ge266_0; have HL266_0 := Aside0.mk (show Kd.R (Kd.int .i64) 3 _ _ _ _ (rd_L1 t262 (rd t256 (ji9))) from ge266_0); clear hv266_0 ge266_0; clear hcc266 hce266; have HR266_0 := Aside0.mk hi266_0; have HC266_0 := Aside0.mk hl266_0; clear hi266_0 hl266_0; replace p266 := eq_true p266; replace q266 := eq_true q266
       refine hK.out _ _ HS0_ (fun hHeld => ?_)
       refine weak_ (fun w' => w'.cell? (ad265.add ((ji9)).toNat) = some (.int .i64 (rd t256 (ji9))) ∧ w'.cell? (ad266.add ((rd t256 (ji9))).toNat) = some (.slice A266_0 (rd_L1 t262 (rd t256 (ji9))).length c266_0)) (fun _ h_ => h_.1) ⟨hHeld, hx266_0⟩ (fun hHeld => ?_)
       clear hK K
       refine norm_ (a' := ?_) ?_ ?_
       rotate_left
       ·show Act.put _ (some 30) _ = _
        simp only [Act.put, List.setIfInBounds_toArray, List.set_cons_zero, List.set_cons_succ, i64_w, i32_w]
        rfl
       refine pure_ (i := 9) (N := some 37) (v := ?_) (a' := ?_) #[true, true, true, true, true, true, true, true, true, true, false, false] rfl rfl (any_of HT_.out (by kernel_rfl)) (fun _ _ _ h => h) (Or.inl ⟨by rfl, ?_⟩) ?_ ?_
       rotate_left
       ·intro w'; go_simp; with_reducible rfl
       rotate_left
       ·simp only [Act.put, List.setIfInBounds_toArray, List.set_cons_zero, List.set_cons_succ, i64_w, i32_w]; rfl
       refine take_ (i := 10) (N := some 38) (v := ?_) (a' := ?_) #[true, true, true, true, true, true, true, true, true, true, true, false] rfl rfl (take_ofW HT_.out HW_.out (by kernel_rfl)) (fun _ _ _ h => h) (Or.inl ⟨by rfl, ?_⟩) hHeld ?_ ?_
       rotate_left
       ·rintro w' ⟨s0, s1⟩; go_simp; with_reducible rfl
       rotate_left
       ·simp only [Act.put, List.setIfInBounds_toArray, List.set_cons_zero, List.set_cons_succ, i64_w, i32_w]; rfl
       refine one_ (i := 11) (N := some 39) #[true, true, true, true, true, true, true, true, true, true, true, true] rfl rfl (one_of HT_.out (by kernel_rfl)) (by decide) (fun K hK => ?_)
       refine goes_ Try.func23 (by kernel_rfl) rfl #[.slice A1 l1.length c1, .slice A266_0 (rd_L1 t262 (rd t256 (ji9))).length c266_0] (by rfl) rfl rfl (by (try simp only [List.map_toArray, List.map_cons, List.map_nil]); first | done | (simp only [hji9]; rfl) | rfl | (simp only [List.length_drop, List.length_take]; rfl)) ?_
       with_reducible refine (spec_doFull.calls k _ _ l1 _ _ (rd_L1 t262 (rd t256 (ji9))) true _ ?side1 ?side2 ?side3 ?side4 A14.out).mono ?_
       (case side1 => repeat (first | exact (Kd.C_below HR1.out HB.out) | (with_reducible refine Kd.C_alloc ?_ _) | (with_reducible refine Kd.C_drewN ?_ _) | (with_reducible refine Kd.C_drew ?_)))
       (case side2 => exact HC1.out)
       (case side3 => repeat (first | exact (by repeat (first | (with_reducible exact HR266_0.out) | (with_reducible refine Kd.C_alloc ?_ _) | (with_reducible refine Kd.C_drewN ?_ _) | (with_reducible refine Kd.C_drew ?_) | exact HR266_0.out)) | (with_reducible refine Kd.C_alloc ?_ _) | (with_reducible refine Kd.C_drewN ?_ _) | (with_reducible refine Kd.C_drew ?_)))
       (case side4 => exact HC266_0.out)
       rintro e w' ⟨rfl, ⟨nd, rfl⟩⟩
       refine ⟨_, rfl, ?_⟩
       refine hK.out _ _ ⟨hHeld.1, hHeld.2⟩ (fun hHeld => ?_)
       clear hK K
       refine norm_ (a' := ?_) ?_ ?_
       rotate_left
       ·show Act.put _ (some 39) _ = _
        simp only [Act.put, List.setIfInBounds_toArray, List.set_cons_zero, List.set_cons_succ, i64_w, i32_w]
        rfl
       refine done_ (done_of HT_.out (by kernel_rfl)) ?_
       try go_wp2
       go_ret2
       exact ⟨_, by first | rfl | (simp [errW_none, errW_some] <;> rfl) | (simp only [← hji9]; first | rfl | (simp [errW_none, errW_some] <;> rfl)) | (simp [*, errW_none, errW_some] <;> rfl), by first | exact Kd.R_nil _ _ _ _ _ | exact Kd.N_nil _ _ _ _ _ | exact Kd.V_nil _ _ _ _ _ | exact Kd.Q_nil _ _ _ _ _ | exact Kd.S_nil _ _ _ _ _, BB⟩
      ·replace c15 := Bool.eq_false_iff.mpr c15
       subst c15; have H1 : ((spec_doBorder.f k a0 l1).bind fun t268 => (spec_ExitOf.l0 k t259 t268 (t268.length : Int) 0)) = some (r1, r2) := by rw [if_neg (show ¬ (false = true) by decide)] at H; exact H
       clear H; have H := H1; clear H1; replace H := Option.bind_eq_some_iff.mp H; obtain ⟨t268, A220, H⟩ := H; replace H : (spec_ExitOf.l0 k t259 t268 (t268.length : Int) 0) = some (r1, r2) := H; have A22 := Aside0.mk A220; clear A220; have H' := Aside0.mk H; clear H
       go_enter Try.func15, Try.ntmps15
       try go_wp2_with (first | ((with_reducible refine gate_callee (f := 27) rfl ?_); refine goesL_ (some 18) rfl rfl Try.func27 (by kernel_rfl) rfl #[.int .i64 a0, .slice A1 l1.length c1, .int .i64 a2, .int .i64 a3] rfl TA ?_; (with_reducible refine (spec_doOutside.calls k a0 _ _ l1 a2 a3 true _ ?side1 ?side2 A5.out).mono ?_); (case side1 => repeat (first | exact HR1.out | (with_reducible refine Kd.C_alloc ?_ _) | (with_reducible refine Kd.C_drewN ?_ _) | (with_reducible refine Kd.C_drew ?_))); (case side2 => exact HC1.out); rintro e w23 ⟨rfl, hb⟩; refine ⟨_, rfl, ?_⟩; have n0_ := Aside0.mk (below_step BB hb); clear HB; have HB := n0_; clear n0_; (try clear hb); (try clear hb2); (try clear hk); (try clear hi)) | ((with_reducible refine gate_callee (f := 22) rfl ?_); refine goesL_ (some 25) rfl rfl Try.func22 (by kernel_rfl) rfl #[.int .i64 a0, .slice A1 l1.length c1, .int .i64 a2, .int .i64 a3] rfl TA ?_; (with_reducible refine (spec_doFrom.calls k a0 _ _ l1 a2 a3 t256 t259 _ ?side1 ?side2 A7.out).mono ?_); (case side1 => repeat (first | exact (Kd.C_below HR1.out HB.out) | (with_reducible refine Kd.C_alloc ?_ _) | (with_reducible refine Kd.C_drewN ?_ _) | (with_reducible refine Kd.C_drew ?_))); (case side2 => exact HC1.out); rintro e w24 ⟨v257, v260, rfl, ho0, ho1, hb⟩; refine ⟨_, rfl, ?_⟩; have n0_ := Aside0.mk (Kd.R_lower (Kd.R_mono (ok' := fun k_ => True) ho0 (fun _ hk_ => trivial)) (below_size BB)); have n1_ := Aside0.mk (Kd.V_lower (Kd.V_mono (ok' := fun k_ => some k_ ≠ (v257 : Value).ownBlock) ho1 (fun k_ hk_ => hk_.2)) (below_size BB)); have n2_ := Aside0.mk (below_step BB hb); clear HB; have HO258 := n0_; have HO261 := n1_; have HB := n2_; clear n0_ n1_ n2_; (try clear hb); (try clear hb2); (try clear hk); (try clear hi); (try clear ho0); (try clear ho1)))
       have n0_ := Aside0.mk (Kd.R_drew HO258.out); have n1_ := Aside0.mk (Kd.V_drew HO261.out); have n2_ := Aside0.mk (below_drew1 HB.out); clear HO258; clear HO261; clear HB; have HO258 := n0_; have HO261 := n1_; have HB := n2_; clear n0_ n1_ n2_; obtain ⟨Ao26, co26, eo26⟩ := Kd.R_slice HO258.out
       (first | subst eo26 | (injection eo26 with f1_ f2_ f3_; have f4_ := f1_.symm; have f5_ := f3_.symm; clear f1_ f2_ f3_; subst f4_; subst f5_))
       have p265 : 0 ≤ ((ji9) : Int) := of_decide_eq_true AS; have q265 : (ji9) < (t256.length : Int) := of_decide_eq_true AS; obtain ⟨ad265, e265, hx265_0⟩ := Kd.at_int (Kd.R_reads' HO258.out).2.2 (ji9) p265 q265; cases e265; replace p265 := eq_true p265; replace q265 := eq_true q265
       refine start_ (n := 12) (S := fun w' => w'.cell? (ad265.add ((ji9)).toNat) = some (.int .i64 (rd t256 (ji9)))) (ds := []) #[false, false, false, false, false, false, false, false, false, false, false, false] (by kernel_rfl) rfl rfl hx265_0 (fun hHeld => ?_); refine with_tabW spec_ExitOf.tab4 spec_ExitOf.bits4 (fun HT_ HW_ => ?_)
       generalize w24.drew = w25 at HO258 HO261 HB hx265_0 hHeld ⊢
       refine pure_ (i := 0) (N := some 28) (v := ?_) (a' := ?_) #[true, false, false, false, false, false, false, false, false, false, false, false] rfl rfl (any_of HT_.out (by kernel_rfl)) (fun _ _ _ h => h) (Or.inl ⟨by rfl, ?_⟩) ?_ ?_
       rotate_left
       ·intro w'; go_simp; with_reducible rfl
       rotate_left
       ·simp only [Act.put, List.setIfInBounds_toArray, List.set_cons_zero, List.set_cons_succ, i64_w, i32_w]; rfl
       refine pure_ (i := 1) (N := some 29) (v := ?_) (a' := ?_) #[true, true, false, false, false, false, false, false, false, false, false, false] rfl rfl (any_of HT_.out (by kernel_rfl)) (fun _ _ _ h => h) (Or.inl ⟨by rfl, ?_⟩) ?_ ?_
       rotate_left
       ·intro w'; go_simp; with_reducible rfl
       rotate_left
       ·simp only [Act.put, List.setIfInBounds_toArray, List.set_cons_zero, List.set_cons_succ, i64_w, i32_w]; rfl
       refine pure_ (i := 3) (N := some 31) (v := ?_) (a' := ?_) #[true, true, false, true, false, false, false, false, false, false, false, false] rfl rfl (any_of HT_.out (by kernel_rfl)) (fun _ _ _ h => h) (Or.inl ⟨by rfl, ?_⟩) ?_ ?_
       rotate_left
       ·intro w'; go_simp; with_reducible rfl
       rotate_left
       ·simp only [Act.put, List.setIfInBounds_toArray, List.set_cons_zero, List.set_cons_succ, i64_w, i32_w]; rfl
       refine pure_ (i := 4) (N := some 32) (v := ?_) (a' := ?_) #[true, true, false, true, true, false, false, false, false, false, false, false] rfl rfl (any_of HT_.out (by kernel_rfl)) (fun _ _ _ h => h) (Or.inl ⟨by rfl, ?_⟩) ?_ ?_
       rotate_left
       ·intro w'; go_simp; with_reducible rfl
       rotate_left
       ·simp only [Act.put, List.setIfInBounds_toArray, List.set_cons_zero, List.set_cons_succ, i64_w, i32_w]; rfl
       refine pure_ (i := 5) (N := some 33) (v := ?_) (a' := ?_) #[true, true, false, true, true, true, false, false, false, false, false, false] rfl rfl (any_of HT_.out (by kernel_rfl)) (fun _ _ _ h => h) (Or.inl ⟨by rfl, ?_⟩) ?_ ?_
       rotate_left
       ·intro w'; go_simp; with_reducible rfl
       rotate_left
       ·simp only [Act.put, List.setIfInBounds_toArray, List.set_cons_zero, List.set_cons_succ, i64_w, i32_w]; rfl
       refine pure_ (i := 6) (N := some 34) (v := ?_) (a' := ?_) #[true, true, false, true, true, true, true, false, false, false, false, false] rfl rfl (any_of HT_.out (by kernel_rfl)) (fun _ _ _ h => h) (Or.inl ⟨by rfl, ?_⟩) ?_ ?_
       rotate_left
       ·intro w'; go_simp; with_reducible rfl
       rotate_left
       ·simp only [Act.put, List.setIfInBounds_toArray, List.set_cons_zero, List.set_cons_succ, i64_w, i32_w]; rfl
       refine pure_ (i := 7) (N := some 35) (v := ?_) (a' := ?_) #[true, true, false, true, true, true, true, true, false, false, false, false] rfl rfl (any_of HT_.out (by kernel_rfl)) (fun _ _ _ h => h) (Or.inl ⟨by rfl, ?_⟩) ?_ ?_
       rotate_left
       ·intro w'; go_simp; with_reducible rfl
       rotate_left
       ·simp only [Act.put, List.setIfInBounds_toArray, List.set_cons_zero, List.set_cons_succ, i64_w, i32_w]; rfl
       refine take_ (i := 8) (N := some 36) (v := ?_) (a' := ?_) #[true, true, false, true, true, true, true, true, true, false, false, false] rfl rfl (take_ofW HT_.out HW_.out (by kernel_rfl)) (fun _ _ _ h => h) (Or.inl ⟨by rfl, ?_⟩) hHeld ?_ ?_
       rotate_left
       ·rintro w' s0; go_simp; with_reducible rfl
       rotate_left
       ·simp only [Act.put, List.setIfInBounds_toArray, List.set_cons_zero, List.set_cons_succ, i64_w, i32_w]; rfl
       refine one_ (i := 2) (N := some 30) #[true, true, true, true, true, true, true, true, true, false, false, false] rfl rfl (one_of HT_.out (by kernel_rfl)) (by decide) (fun K hK => ?_)
       refine goes_ Try.func20 (by kernel_rfl) rfl #[.int .i64 a0] (by rfl) rfl rfl TA ?_
       with_reducible refine (spec_meCells.calls k a0 t262 _ A8.out).mono ?_
       rintro e w27 ⟨v263, rfl, ho0, hb⟩
       have HS0_ := (hb.cell (World.block_lt_of_cell? _ _ (hHeld))).trans (hHeld)
       refine ⟨_, rfl, ?_⟩
       have n0_ := Aside0.mk (Kd.R_below (KR HO258) hb); have n1_ := Aside0.mk (Kd.V_elder' (by (with_reducible repeat (first | apply Kd.V_alloc | apply Kd.V_drewN | apply Kd.V_drew)); exact HO261.out) (Kd.S_base ho0) hb); have n2_ := Aside0.mk (Kd.S_lower (Kd.S_new' ho0 (Kd.R_lt (KR HO258))) (below_size BB)); have n3_ := Aside0.mk (below_step BB hb); clear HO258; clear HO261; clear HB; have HO258 := n0_; have HO261 := n1_; have HO264 := n2_; have HB := n3_; clear n0_ n1_ n2_ n3_
       (try clear hb)
       (try clear hb2)
       (try clear hk)
       (try clear hi)
       (try clear ho0)
       obtain ⟨Ao28, co28, eo28⟩ := Kd.S_slice HO264.out
       (first | subst eo28 | (injection eo28 with f1_ f2_ f3_; have f4_ := f1_.symm; have f5_ := f3_.symm; clear f1_ f2_ f3_; subst f4_; subst f5_))
       have p266 : 0 ≤ ((rd t256 (ji9)) : Int) := of_decide_eq_true AS; have q266 : (rd t256 (ji9)) < (t262.length : Int) := of_decide_eq_true AS; obtain ⟨ad266, A266_0, c266_0, e266, hx266_0, hl266_0, hi266_0⟩ := at_L1 (Kd.S_reads' HO264.out).2.2 (rd t256 (ji9)) p266 q266; cases e266; obtain ⟨ce266, hce266, hMe266, hcc266⟩ := Kd.S_get HO264.out [] (rd t256 (ji9)) p266 (by first | exact q266 | exact of_decide_eq_true AS | (have e_ := (Kd.S_reads' HO264.out).1; omega)); obtain ⟨ve266_0, rfl, ge266_0⟩ := hMe266; have hv266_0 := hcc266 0 _ rfl; rw [Nat.add_zero, show ((Kd.slice 3 (Kd.int .i64))).sz = 1 from rfl, Nat.mul_one] at hv266_0; replace hv266_0 := Option.some.inj (hv266_0.symm.trans hx266_0); rw [hv266_0] at ge266_0; have HL266_0 := Aside0.mk (show Kd.R (Kd.int .i64) 3 _ _ _ _ (rd_L1 t262 (rd t256 (ji9))) from ge266_0); clear hv266_0 ge266_0; clear hcc266 hce266; have HR266_0 := Aside0.mk hi266_0; have HC266_0 := Aside0.mk hl266_0; clear hi266_0 hl266_0; replace p266 := eq_true p266; replace q266 := eq_true q266
       refine hK.out _ _ HS0_ (fun hHeld => ?_)
       refine weak_ (fun w' => w'.cell? (ad265.add ((ji9)).toNat) = some (.int .i64 (rd t256 (ji9))) ∧ w'.cell? (ad266.add ((rd t256 (ji9))).toNat) = some (.slice A266_0 (rd_L1 t262 (rd t256 (ji9))).length c266_0)) (fun _ h_ => h_.1) ⟨hHeld, hx266_0⟩ (fun hHeld => ?_)
       clear hK K
       refine norm_ (a' := ?_) ?_ ?_
       rotate_left
       ·show Act.put _ (some 30) _ = _
        simp only [Act.put, List.setIfInBounds_toArray, List.set_cons_zero, List.set_cons_succ, i64_w, i32_w]
        rfl
       refine pure_ (i := 9) (N := some 37) (v := ?_) (a' := ?_) #[true, true, true, true, true, true, true, true, true, true, false, false] rfl rfl (any_of HT_.out (by kernel_rfl)) (fun _ _ _ h => h) (Or.inl ⟨by rfl, ?_⟩) ?_ ?_
       rotate_left
       ·intro w'; go_simp; with_reducible rfl
       rotate_left
       ·simp only [Act.put, List.setIfInBounds_toArray, List.set_cons_zero, List.set_cons_succ, i64_w, i32_w]; rfl
       refine take_ (i := 10) (N := some 38) (v := ?_) (a' := ?_) #[true, true, true, true, true, true, true, true, true, true, true, false] rfl rfl (take_ofW HT_.out HW_.out (by kernel_rfl)) (fun _ _ _ h => h) (Or.inl ⟨by rfl, ?_⟩) hHeld ?_ ?_
       rotate_left
       ·rintro w' ⟨s0, s1⟩; go_simp; with_reducible rfl
       rotate_left
       ·simp only [Act.put, List.setIfInBounds_toArray, List.set_cons_zero, List.set_cons_succ, i64_w, i32_w]; rfl
       refine one_ (i := 11) (N := some 39) #[true, true, true, true, true, true, true, true, true, true, true, true] rfl rfl (one_of HT_.out (by kernel_rfl)) (by decide) (fun K hK => ?_)
       refine goes_ Try.func23 (by kernel_rfl) rfl #[.slice A1 l1.length c1, .slice A266_0 (rd_L1 t262 (rd t256 (ji9))).length c266_0] (by rfl) rfl rfl (by (try simp only [List.map_toArray, List.map_cons, List.map_nil]); first | done | (simp only [hji9]; rfl) | rfl | (simp only [List.length_drop, List.length_take]; rfl)) ?_
       with_reducible refine (spec_doFull.calls k _ _ l1 _ _ (rd_L1 t262 (rd t256 (ji9))) false _ ?side1 ?side2 ?side3 ?side4 A14.out).mono ?_
       (case side1 => repeat (first | exact (Kd.C_below HR1.out HB.out) | (with_reducible refine Kd.C_alloc ?_ _) | (with_reducible refine Kd.C_drewN ?_ _) | (with_reducible refine Kd.C_drew ?_)))
       (case side2 => exact HC1.out)
       (case side3 => repeat (first | exact (by repeat (first | (with_reducible exact HR266_0.out) | (with_reducible refine Kd.C_alloc ?_ _) | (with_reducible refine Kd.C_drewN ?_ _) | (with_reducible refine Kd.C_drew ?_) | exact HR266_0.out)) | (with_reducible refine Kd.C_alloc ?_ _) | (with_reducible refine Kd.C_drewN ?_ _) | (with_reducible refine Kd.C_drew ?_)))
       (case side4 => exact HC266_0.out)
       rintro e w' ⟨rfl, ⟨nd, rfl⟩⟩
       refine ⟨_, rfl, ?_⟩
       refine hK.out _ _ ⟨hHeld.1, hHeld.2⟩ (fun hHeld => ?_)
       clear hK K
       refine norm_ (a' := ?_) ?_ ?_
       rotate_left
       ·show Act.put _ (some 39) _ = _
        simp only [Act.put, List.setIfInBounds_toArray, List.set_cons_zero, List.set_cons_succ, i64_w, i32_w]
        rfl
       refine done_ (done_of HT_.out (by kernel_rfl)) ?_
       try go_wp2_with (first | ((with_reducible refine gate_callee (f := 21) rfl ?_); refine goesL_ (some 42) rfl rfl Try.func21 (by kernel_rfl) rfl #[.int .i64 a0, .slice A1 l1.length c1] rfl TA ?_; (with_reducible refine (spec_doBorder.calls k a0 _ _ l1 t268 _ ?side1 ?side2 A22.out).mono ?_); (case side1 => repeat (first | exact (Kd.C_below HR1.out BB) | (with_reducible refine Kd.C_alloc ?_ _) | (with_reducible refine Kd.C_drewN ?_ _) | (with_reducible refine Kd.C_drew ?_))); (case side2 => exact HC1.out); rintro e w29 ⟨v269, rfl, ho0, hb⟩; refine ⟨_, rfl, ?_⟩; have n0_ := Aside0.mk (Kd.R_below (KR HO258) hb); have n1_ := Aside0.mk (Kd.V_elder' (by (with_reducible repeat (first | apply Kd.V_alloc | apply Kd.V_drewN | apply Kd.V_drew)); exact HO261.out) (Kd.S_base ho0) hb); have n2_ := Aside0.mk (Kd.S_elder' (KS HO264) (Kd.S_base ho0) hb); have n3_ := Aside0.mk (Kd.R_below (KR HL266_0) hb); have n4_ := Aside0.mk (Kd.S_lower (Kd.S_new' (Kd.S_new' (Kd.S_new' ho0 (Kd.R_lt (KR HO258))) (Kd.S_lt (KS HO264))) (Kd.R_lt (KR HL266_0))) (below_size BB)); have n5_ := Aside0.mk (Kd.C_below (by repeat (first | (with_reducible exact HR266_0.out) | (with_reducible refine Kd.C_alloc ?_ _) | (with_reducible refine Kd.C_drewN ?_ _) | (with_reducible refine Kd.C_drew ?_) | exact HR266_0.out)) hb); have n6_ := Aside0.mk (below_step BB hb); clear HO258; clear HO261; clear HO264; clear HL266_0; clear HR266_0; clear HB; have HO258 := n0_; have HO261 := n1_; have HO264 := n2_; have HL266_0 := n3_; have HO270 := n4_; have HR266_0 := n5_; have HB := n6_; clear n0_ n1_ n2_ n3_ n4_ n5_ n6_; (try clear hb); (try clear hb2); (try clear hk); (try clear hi); (try clear ho0); obtain ⟨Ao30, co30, eo30⟩ := Kd.S_slice HO270.out; subst eo30))
       go_loopg [44] k (fun kq v44 w' => ∃ (x44_1 : Int), v44 = .int .i64 x44_1 ∧ Aside0 (spec_ExitOf.l0 kq t259 t268 (t268.length : Int) x44_1 = some (r1, r2)) ∧ Aside0 (kq ≤ k) ∧ Aside0 (Kd.V (Kd.int .i64) 3 w' w.heap.size (fun k_ => some k_ ≠ ((.slice Ao30 t268.length co30) : Value).ownBlock) v260 t259) ∧ Aside0 (Kd.S (Kd.slice 3 (Kd.int .i64)) 22 w' w.heap.size (fun _ => True) (.slice Ao30 t268.length co30) t268) ∧ Aside0 (Kd.C (Kd.int .i64) w' A266_0 (rd_L1 t262 (rd t256 (ji9))).length (rd_L1 t262 (rd t256 (ji9)))) ∧ Aside0 (Below w.heap.size w w'))
       case atStart => exact ⟨(0), RF, H', ⟨Nat.le_refl _⟩, ⟨by (with_reducible repeat (first | apply Kd.V_alloc | apply Kd.V_drewN | apply Kd.V_drew)); exact Kd.V_mono HO261.out (fun _ hk => hk.2)⟩, ⟨by (with_reducible repeat (first | apply Kd.S_alloc | apply Kd.S_drewN | apply Kd.S_drew)); exact Kd.S_mono HO270.out (fun _ hk => trivial)⟩, ⟨by repeat (first | (with_reducible exact HR266_0.out) | (with_reducible refine Kd.C_alloc ?_ _) | (with_reducible refine Kd.C_drewN ?_ _) | (with_reducible refine Kd.C_drew ?_) | exact HR266_0.out)⟩, ⟨BB⟩⟩
       case round =>
        clear H'
        try clear c1
        try clear c2
        try clear p2
        try clear q2
        try clear hx2
        try clear c6
        try clear p6
        try clear c10
        try clear c10b0
        try clear c11
        try clear c11b0
        try clear c12
        try clear c12b0
        try clear c13
        try clear c13b0
        try clear c15
        try clear c20
        try clear c21
        try clear c22
        try clear c23
        try clear c26
        try clear p26
        try clear q26
        try clear hx26
        try clear c27
        try clear hx265_0
        try clear hx266_0
        try clear p265
        try clear p266
        try clear q265
        try clear q266
        obtain ⟨x44_1, rfl, HA, HK1, HO_11, HO_42, HR266_0, HB⟩ := hrel; cases gk with
        | zero => exact absurd HA.out (by simp [spec_ExitOf.l0])
        | succ k1 =>
         have H := HA.out; clear HA
         simp only [spec_ExitOf.l0] at H
         by_cases c31 : x44_1 < (t268.length : Int)
         ·rw [if_pos c31] at H
          have c31b0 : decide (x44_1 < (t268.length : Int)) = true := decide_eq_true c31; clear c31
          by_cases c32 : 0 ≤ x44_1
          ·rw [if_pos c32] at H
           have c32b0 : decide (0 ≤ x44_1) = true := decide_eq_true c32; clear c32
           by_cases c33 : x44_1 < (t268.length : Int)
           ·rw [if_pos c33] at H
            have c33b0 : decide (x44_1 < (t268.length : Int)) = true := decide_eq_true c33; clear c33
            by_cases c34 : 0 < ((rd_L1 t268 x44_1).length : Int)
            ·rw [if_pos c34] at H
             have c34b0 : decide (0 < ((rd_L1 t268 x44_1).length : Int)) = true := decide_eq_true c34; have c34b1 : decide (0 < (rd_L1 t268 x44_1).length) = true := decide_eq_true (by omega); clear c34
             by_cases c35 : 1 < ((rd_L1 t268 x44_1).length : Int)
             ·rw [if_pos c35] at H
              have c35b0 : decide (1 < ((rd_L1 t268 x44_1).length : Int)) = true := decide_eq_true c35; have c35b1 : decide (1 < (rd_L1 t268 x44_1).length) = true := decide_eq_true (by omega); clear c35; replace H := Option.bind_eq_some_iff.mp H; obtain ⟨t274, A360, H⟩ := H; replace H : ((spec_l1Same.f k1 t274 t259).bind fun t277 => (if t277 = true then (some (rd_L1 t268 x44_1, true)) else (spec_ExitOf.l0 k1 t259 t268 (t268.length : Int) (wrap64 (x44_1 + 1))))) = some (r1, r2) := H; have A36 := Aside0.mk A360; clear A360; replace H := Option.bind_eq_some_iff.mp H; obtain ⟨t277, A370, H⟩ := H; replace H : (if t277 = true then (some (rd_L1 t268 x44_1, true)) else (spec_ExitOf.l0 k1 t259 t268 (t268.length : Int) (wrap64 (x44_1 + 1)))) = some (r1, r2) := H; have A37 := Aside0.mk A370; clear A370
              by_cases c38 : t277 = true
              ·subst c38
               have H1 : (some (rd_L1 t268 x44_1, true)) = some (r1, r2) := by rw [if_pos rfl] at H; exact H
               clear H; have H := H1; clear H1
               simp only [Option.some.injEq, Prod.mk.injEq] at H
               obtain ⟨rfl, rfl⟩ := H; have p271 : 0 ≤ (x44_1 : Int) := of_decide_eq_true AS; have q271 : x44_1 < (t268.length : Int) := of_decide_eq_true AS; obtain ⟨ad271, A271_0, c271_0, e271, hx271_0, hl271_0, hi271_0⟩ := at_L1 (Kd.S_reads' HO_42.out).2.2 x44_1 p271 q271; cases e271; obtain ⟨ce271, hce271, hMe271, hcc271⟩ := Kd.S_get HO_42.out [] x44_1 p271 (by first | exact q271 | exact of_decide_eq_true AS | (have e_ := (Kd.S_reads' HO_42.out).1; omega)); obtain ⟨ve271_0, rfl, ge271_0⟩ := hMe271; have hv271_0 := hcc271 0 _ rfl; rw [Nat.add_zero, show ((Kd.slice 3 (Kd.int .i64))).sz = 1 from rfl, Nat.mul_one] at hv271_0; replace hv271_0 := Option.some.inj (hv271_0.symm.trans hx271_0); rw [hv271_0] at ge271_0; have HL271_0 := Aside0.mk (show Kd.R (Kd.int .i64) 3 _ _ _ _ (rd_L1 t268 x44_1) from ge271_0); clear hv271_0 ge271_0; clear hcc271 hce271; have HR271_0 := Aside0.mk hi271_0; have HC271_0 := Aside0.mk hl271_0; clear hi271_0 hl271_0; replace p271 := eq_true p271; replace q271 := eq_true q271
               try go_wp2
               have n0_ := Aside0.mk (Kd.V_drew HO_11.out); have n1_ := Aside0.mk (Kd.S_drew HO_42.out); have n2_ := Aside0.mk (Kd.R_drew HL271_0.out); have n3_ := Aside0.mk (Kd.C_drew HR266_0.out); have n4_ := Aside0.mk (Kd.C_drew HR271_0.out); have n5_ := Aside0.mk (below_drew1 HB.out); clear HO_11; clear HO_42; clear HL271_0; clear HR266_0; clear HR271_0; clear HB; have HO_11 := n0_; have HO_42 := n1_; have HL271_0 := n2_; have HR266_0 := n3_; have HR271_0 := n4_; have HB := n5_; clear n0_ n1_ n2_ n3_ n4_ n5_; have p272 : 0 ≤ (0 : Int) := (by omega); have q272 : 0 < ((rd_L1 t268 x44_1).length : Int) := of_decide_eq_true AS; obtain ⟨ad272, e272, hx272_0⟩ := Kd.at_int (by repeat (first | (with_reducible exact HR271_0.out) | (with_reducible refine Kd.C_alloc ?_ _) | (with_reducible refine Kd.C_drewN ?_ _) | (with_reducible refine Kd.C_drew ?_) | exact HR271_0.out)) 0 p272 q272; cases e272; have qi272 : (0 < (rd_L1 t268 x44_1).length) = True := eq_true (by omega)
               (try rw [show ((0 : Int)).toNat = 0 from rfl] at hx272_0)
               (try rw [Addr.add_zero'] at hx272_0)
               replace p272 := eq_true p272; replace q272 := eq_true q272; have p273 : 0 ≤ (1 : Int) := (by omega); have q273 : 1 < ((rd_L1 t268 x44_1).length : Int) := of_decide_eq_true AS; obtain ⟨ad273, e273, hx273_0⟩ := Kd.at_int (by repeat (first | (with_reducible exact HR271_0.out) | (with_reducible refine Kd.C_alloc ?_ _) | (with_reducible refine Kd.C_drewN ?_ _) | (with_reducible refine Kd.C_drew ?_) | exact HR271_0.out)) 1 p273 q273; obtain rfl : ad272 = ad273 := (by injection e273)
               (try simp only [show (1 : Int).toNat = 1 from rfl, Nat.reduceMul, Nat.reduceEqDiff, Go.Addr.add, ↓reduceIte] at hx273_0)
               have qi273 : (1 < (rd_L1 t268 x44_1).length) = True := eq_true (by omega)
               (try rw [show ((1 : Int)).toNat = 1 from rfl] at hx273_0)
               replace p273 := eq_true p273; replace q273 := eq_true q273
               refine start_ (n := 9) (S := fun w' => w'.cell? ad272 = some (.int .i64 (rd (rd_L1 t268 x44_1) 0)) ∧ w'.cell? ⟨ad272.block, ad272.off + 1, none⟩ = some (.int .i64 (rd (rd_L1 t268 x44_1) 1))) (ds := []) #[false, false, false, false, false, false, false, false, false] (by kernel_rfl) rfl rfl ⟨hx272_0, hx273_0⟩ (fun hHeld => ?_); refine with_tabW spec_ExitOf.tab9 spec_ExitOf.bits9 (fun HT_ HW_ => ?_)
               generalize wr.drew = w39 at HO_11 HO_42 HL271_0 HR266_0 HR271_0 HB hx272_0 hx273_0 hHeld ⊢
               refine pure_ (i := 0) (N := some 48) (v := ?_) (a' := ?_) #[true, false, false, false, false, false, false, false, false] rfl rfl (any_of HT_.out (by kernel_rfl)) (fun _ _ _ h => h) (Or.inl ⟨by rfl, ?_⟩) ?_ ?_
               rotate_left
               ·intro w'; go_simp; with_reducible rfl
               rotate_left
               ·simp only [Act.put, List.setIfInBounds_toArray, List.set_cons_zero, List.set_cons_succ, i64_w, i32_w]; rfl
               refine pure_ (i := 1) (N := some 49) (v := ?_) (a' := ?_) #[true, true, false, false, false, false, false, false, false] rfl rfl (any_of HT_.out (by kernel_rfl)) (fun _ _ _ h => h) (Or.inl ⟨by rfl, ?_⟩) ?_ ?_
               rotate_left
               ·intro w'; go_simp; with_reducible rfl
               rotate_left
               ·simp only [Act.put, List.setIfInBounds_toArray, List.set_cons_zero, List.set_cons_succ, i64_w, i32_w]; rfl
               refine pure_ (i := 3) (N := some 51) (v := ?_) (a' := ?_) #[true, true, false, true, false, false, false, false, false] rfl rfl (any_of HT_.out (by kernel_rfl)) (fun _ _ _ h => h) (Or.inl ⟨by rfl, ?_⟩) ?_ ?_
               rotate_left
               ·intro w'; go_simp; with_reducible rfl
               rotate_left
               ·simp only [Act.put, List.setIfInBounds_toArray, List.set_cons_zero, List.set_cons_succ, i64_w, i32_w]; rfl
               refine pure_ (i := 4) (N := some 52) (v := ?_) (a' := ?_) #[true, true, false, true, true, false, false, false, false] rfl rfl (any_of HT_.out (by kernel_rfl)) (fun _ _ _ h => h) (Or.inl ⟨by rfl, ?_⟩) ?_ ?_
               rotate_left
               ·intro w'; go_simp; with_reducible rfl
               rotate_left
               ·simp only [Act.put, List.setIfInBounds_toArray, List.set_cons_zero, List.set_cons_succ, i64_w, i32_w]; rfl
               refine pure_ (i := 7) (N := some 55) (v := ?_) (a' := ?_) #[true, true, false, true, true, false, false, true, false] rfl rfl (any_of HT_.out (by kernel_rfl)) (fun _ _ _ h => h) (Or.inl ⟨by rfl, ?_⟩) ?_ ?_
               rotate_left
               ·intro w'; go_simp; with_reducible rfl
               rotate_left
               ·simp only [Act.put, List.setIfInBounds_toArray, List.set_cons_zero, List.set_cons_succ, i64_w, i32_w]; rfl
               refine take_ (i := 2) (N := some 50) (v := ?_) (a' := ?_) #[true, true, true, true, true, false, false, true, false] rfl rfl (take_ofW HT_.out HW_.out (by kernel_rfl)) (fun _ _ _ h => h) (Or.inl ⟨by rfl, ?_⟩) hHeld ?_ ?_
               rotate_left
               ·rintro w' ⟨s0, s1⟩; go_simp; with_reducible rfl
               rotate_left
               ·simp only [Act.put, List.setIfInBounds_toArray, List.set_cons_zero, List.set_cons_succ, i64_w, i32_w]; rfl
               refine take_ (i := 5) (N := some 53) (v := ?_) (a' := ?_) #[true, true, true, true, true, true, false, true, false] rfl rfl (take_ofW HT_.out HW_.out (by kernel_rfl)) (fun _ _ _ h => h) (Or.inl ⟨by rfl, ?_⟩) hHeld ?_ ?_
               rotate_left
               ·rintro w' ⟨s0, s1⟩; go_simp; with_reducible rfl
               rotate_left
               ·simp only [Act.put, List.setIfInBounds_toArray, List.set_cons_zero, List.set_cons_succ, i64_w, i32_w]; rfl
               refine one_ (i := 6) (N := some 54) #[true, true, true, true, true, true, true, true, false] rfl rfl (one_of HT_.out (by kernel_rfl)) (by decide) (fun K hK => ?_)
               refine goes_ Try.func30 (by kernel_rfl) rfl #[.int .i64 (rd (rd_L1 t268 x44_1) 0), .int .i64 (rd (rd_L1 t268 x44_1) 1)] (by rfl) rfl rfl TA ?_
               with_reducible refine (spec_doInner.calls (rd (rd_L1 t268 x44_1) 0) (rd (rd_L1 t268 x44_1) 1) t274 _ A36.out).mono ?_
               rintro e w40 ⟨v275, rfl, ho0, hb⟩
               have HS0_ := (hb.cell (World.block_lt_of_cell? _ _ (hHeld.1))).trans (hHeld.1); have HS1_ := (hb.cell (World.block_lt_of_cell? _ _ (hHeld.2))).trans (hHeld.2)
               refine ⟨_, rfl, ?_⟩
               have n0_ := Aside0.mk (Kd.V_elder' (by (with_reducible repeat (first | apply Kd.V_alloc | apply Kd.V_drewN | apply Kd.V_drew)); exact HO_11.out) (Kd.R_base ho0) hb); have n1_ := Aside0.mk (Kd.S_elder' (KS HO_42) (Kd.R_base ho0) hb); have n2_ := Aside0.mk (Kd.R_elder' (KR HL271_0) (Kd.R_base ho0) hb); have n3_ := Aside0.mk (Kd.R_lower (Kd.R_new' ho0 (Kd.R_lt (KR HL271_0))) (below_size BB)); have n4_ := Aside0.mk (Kd.C_below (by repeat (first | (with_reducible exact HR266_0.out) | (with_reducible refine Kd.C_alloc ?_ _) | (with_reducible refine Kd.C_drewN ?_ _) | (with_reducible refine Kd.C_drew ?_) | exact HR266_0.out)) hb); have n5_ := Aside0.mk (Kd.C_below (by repeat (first | (with_reducible exact HR271_0.out) | (with_reducible refine Kd.C_alloc ?_ _) | (with_reducible refine Kd.C_drewN ?_ _) | (with_reducible refine Kd.C_drew ?_) | exact HR271_0.out)) hb); have n6_ := Aside0.mk (below_step BB hb); clear HO_11; clear HO_42; clear HL271_0; clear HR266_0; clear HR271_0; clear HB; have HO_11 := n0_; have HO_42 := n1_; have HL271_0 := n2_; have HO276 := n3_; have HR266_0 := n4_; have HR271_0 := n5_; have HB := n6_; clear n0_ n1_ n2_ n3_ n4_ n5_ n6_
               (try clear hb)
               (try clear hb2)
               (try clear hk)
               (try clear hi)
               (try clear ho0)
               obtain ⟨Ao41, co41, eo41⟩ := Kd.R_slice HO276.out
               (first | subst eo41 | (injection eo41 with f1_ f2_ f3_; have f4_ := f1_.symm; have f5_ := f3_.symm; clear f1_ f2_ f3_; subst f4_; subst f5_))
               obtain ⟨Ao42, co42, eo42⟩ := Kd.V_slice HO_11.out
               (first | subst eo42 | (injection eo42 with f1_ f2_ f3_; have f4_ := f1_.symm; have f5_ := f3_.symm; clear f1_ f2_ f3_; subst f4_; subst f5_))
               refine hK.out _ _ ⟨HS0_, HS1_⟩ (fun hHeld => ?_)
               clear hK K
               refine norm_ (a' := ?_) ?_ ?_
               rotate_left
               ·show Act.put _ (some 54) _ = _
                simp only [Act.put, List.setIfInBounds_toArray, List.set_cons_zero, List.set_cons_succ, i64_w, i32_w]
                rfl
               refine one_ (i := 8) (N := some 56) #[true, true, true, true, true, true, true, true, true] rfl rfl (one_of HT_.out (by kernel_rfl)) (by decide) (fun K hK => ?_)
               refine goes_ Try.func29 (by kernel_rfl) rfl #[.slice Ao41 t274.length co41, .slice Ao42 t259.length co42] (by rfl) rfl rfl TA ?_
               with_reducible refine (spec_l1Same.calls k1 _ _ t274 _ _ t259 true _ ?side1 ?side2 ?side3 ?side4 A37.out).mono ?_
               (case side1 => repeat (first | exact (Kd.R_reads' HO276.out).2.2 | (with_reducible refine Kd.C_alloc ?_ _) | (with_reducible refine Kd.C_drewN ?_ _) | (with_reducible refine Kd.C_drew ?_)))
               (case side2 => exact (Kd.R_reads' HO276.out).2.1)
               (case side3 => repeat (first | exact (Kd.V_reads' HO_11.out).2.2 | (with_reducible refine Kd.C_alloc ?_ _) | (with_reducible refine Kd.C_drewN ?_ _) | (with_reducible refine Kd.C_drew ?_)))
               (case side4 => exact (Kd.V_reads' HO_11.out).2.1)
               rintro e w' ⟨rfl, ⟨nd, rfl⟩⟩
               refine ⟨_, rfl, ?_⟩
               refine hK.out _ _ ⟨hHeld.1, hHeld.2⟩ (fun hHeld => ?_)
               clear hK K
               refine norm_ (a' := ?_) ?_ ?_
               rotate_left
               ·show Act.put _ (some 56) _ = _
                simp only [Act.put, List.setIfInBounds_toArray, List.set_cons_zero, List.set_cons_succ, i64_w, i32_w]
                rfl
               refine done_ (done_of HT_.out (by kernel_rfl)) ?_
               try go_wp2
               go_ret2
               exact ⟨_, by first | rfl | (simp [errW_none, errW_some] <;> rfl) | (simp only [← hji9]; first | rfl | (simp [errW_none, errW_some] <;> rfl)) | (simp [*, errW_none, errW_some] <;> rfl), by (with_reducible repeat (first | apply Kd.R_alloc | apply Kd.R_drewN | apply Kd.R_drew)); exact Kd.R_mono HL271_0.out (fun _ hk => trivial), BB⟩
              ·replace c38 := Bool.eq_false_iff.mpr c38
               subst c38; have H1 : (spec_ExitOf.l0 k1 t259 t268 (t268.length : Int) (wrap64 (x44_1 + 1))) = some (r1, r2) := by rw [if_neg (show ¬ (false = true) by decide)] at H; exact H
               clear H; have H := H1; clear H1; have H' := Aside0.mk H; clear H; have p271 : 0 ≤ (x44_1 : Int) := of_decide_eq_true AS; have q271 : x44_1 < (t268.length : Int) := of_decide_eq_true AS; obtain ⟨ad271, A271_0, c271_0, e271, hx271_0, hl271_0, hi271_0⟩ := at_L1 (Kd.S_reads' HO_42.out).2.2 x44_1 p271 q271; cases e271; obtain ⟨ce271, hce271, hMe271, hcc271⟩ := Kd.S_get HO_42.out [] x44_1 p271 (by first | exact q271 | exact of_decide_eq_true AS | (have e_ := (Kd.S_reads' HO_42.out).1; omega)); obtain ⟨ve271_0, rfl, ge271_0⟩ := hMe271; have hv271_0 := hcc271 0 _ rfl; rw [Nat.add_zero, show ((Kd.slice 3 (Kd.int .i64))).sz = 1 from rfl, Nat.mul_one] at hv271_0; replace hv271_0 := Option.some.inj (hv271_0.symm.trans hx271_0); rw [hv271_0] at ge271_0; have HL271_0 := Aside0.mk (show Kd.R (Kd.int .i64) 3 _ _ _ _ (rd_L1 t268 x44_1) from ge271_0); clear hv271_0 ge271_0; clear hcc271 hce271; have HR271_0 := Aside0.mk hi271_0; have HC271_0 := Aside0.mk hl271_0; clear hi271_0 hl271_0; replace p271 := eq_true p271; replace q271 := eq_true q271
               try go_wp2
               have n0_ := Aside0.mk (Kd.V_drew HO_11.out); have n1_ := Aside0.mk (Kd.S_drew HO_42.out); have n2_ := Aside0.mk (Kd.R_drew HL271_0.out); have n3_ := Aside0.mk (Kd.C_drew HR266_0.out); have n4_ := Aside0.mk (Kd.C_drew HR271_0.out); have n5_ := Aside0.mk (below_drew1 HB.out); clear HO_11; clear HO_42; clear HL271_0; clear HR266_0; clear HR271_0; clear HB; have HO_11 := n0_; have HO_42 := n1_; have HL271_0 := n2_; have HR266_0 := n3_; have HR271_0 := n4_; have HB := n5_; clear n0_ n1_ n2_ n3_ n4_ n5_; have p272 : 0 ≤ (0 : Int) := (by omega); have q272 : 0 < ((rd_L1 t268 x44_1).length : Int) := of_decide_eq_true AS; obtain ⟨ad272, e272, hx272_0⟩ := Kd.at_int (by repeat (first | (with_reducible exact HR271_0.out) | (with_reducible refine Kd.C_alloc ?_ _) | (with_reducible refine Kd.C_drewN ?_ _) | (with_reducible refine Kd.C_drew ?_) | exact HR271_0.out)) 0 p272 q272; cases e272; have qi272 : (0 < (rd_L1 t268 x44_1).length) = True := eq_true (by omega)
               (try rw [show ((0 : Int)).toNat = 0 from rfl] at hx272_0)
               (try rw [Addr.add_zero'] at hx272_0)
               replace p272 := eq_true p272; replace q272 := eq_true q272; have p273 : 0 ≤ (1 : Int) := (by omega); have q273 : 1 < ((rd_L1 t268 x44_1).length : Int) := of_decide_eq_true AS; obtain ⟨ad273, e273, hx273_0⟩ := Kd.at_int (by repeat (first | (with_reducible exact HR271_0.out) | (with_reducible refine Kd.C_alloc ?_ _) | (with_reducible refine Kd.C_drewN ?_ _) | (with_reducible refine Kd.C_drew ?_) | exact HR271_0.out)) 1 p273 q273; obtain rfl : ad272 = ad273 := (by injection e273)
               (try simp only [show (1 : Int).toNat = 1 from rfl, Nat.reduceMul, Nat.reduceEqDiff, Go.Addr.add, ↓reduceIte] at hx273_0)
               have qi273 : (1 < (rd_L1 t268 x44_1).length) = True := eq_true (by omega)
               (try rw [show ((1 : Int)).toNat = 1 from rfl] at hx273_0)
               replace p273 := eq_true p273; replace q273 := eq_true q273
               refine start_ (n := 9) (S := fun w' => w'.cell? ad272 = some (.int .i64 (rd (rd_L1 t268 x44_1) 0)) ∧ w'.cell? ⟨ad272.block, ad272.off + 1, none⟩ = some (.int .i64 (rd (rd_L1 t268 x44_1) 1))) (ds := []) #[false, false, false, false, false, false, false, false, false] (by kernel_rfl) rfl rfl ⟨hx272_0, hx273_0⟩ (fun hHeld => ?_); refine with_tabW spec_ExitOf.tab9 spec_ExitOf.bits9 (fun HT_ HW_ => ?_)
               generalize wr.drew = w43 at HO_11 HO_42 HL271_0 HR266_0 HR271_0 HB hx272_0 hx273_0 hHeld ⊢
               refine pure_ (i := 0) (N := some 48) (v := ?_) (a' := ?_) #[true, false, false, false, false, false, false, false, false] rfl rfl (any_of HT_.out (by kernel_rfl)) (fun _ _ _ h => h) (Or.inl ⟨by rfl, ?_⟩) ?_ ?_
               rotate_left
               ·intro w'; go_simp; with_reducible rfl
               rotate_left
               ·simp only [Act.put, List.setIfInBounds_toArray, List.set_cons_zero, List.set_cons_succ, i64_w, i32_w]; rfl
               refine pure_ (i := 1) (N := some 49) (v := ?_) (a' := ?_) #[true, true, false, false, false, false, false, false, false] rfl rfl (any_of HT_.out (by kernel_rfl)) (fun _ _ _ h => h) (Or.inl ⟨by rfl, ?_⟩) ?_ ?_
               rotate_left
               ·intro w'; go_simp; with_reducible rfl
               rotate_left
               ·simp only [Act.put, List.setIfInBounds_toArray, List.set_cons_zero, List.set_cons_succ, i64_w, i32_w]; rfl
               refine pure_ (i := 3) (N := some 51) (v := ?_) (a' := ?_) #[true, true, false, true, false, false, false, false, false] rfl rfl (any_of HT_.out (by kernel_rfl)) (fun _ _ _ h => h) (Or.inl ⟨by rfl, ?_⟩) ?_ ?_
               rotate_left
               ·intro w'; go_simp; with_reducible rfl
               rotate_left
               ·simp only [Act.put, List.setIfInBounds_toArray, List.set_cons_zero, List.set_cons_succ, i64_w, i32_w]; rfl
               refine pure_ (i := 4) (N := some 52) (v := ?_) (a' := ?_) #[true, true, false, true, true, false, false, false, false] rfl rfl (any_of HT_.out (by kernel_rfl)) (fun _ _ _ h => h) (Or.inl ⟨by rfl, ?_⟩) ?_ ?_
               rotate_left
               ·intro w'; go_simp; with_reducible rfl
               rotate_left
               ·simp only [Act.put, List.setIfInBounds_toArray, List.set_cons_zero, List.set_cons_succ, i64_w, i32_w]; rfl
               refine pure_ (i := 7) (N := some 55) (v := ?_) (a' := ?_) #[true, true, false, true, true, false, false, true, false] rfl rfl (any_of HT_.out (by kernel_rfl)) (fun _ _ _ h => h) (Or.inl ⟨by rfl, ?_⟩) ?_ ?_
               rotate_left
               ·intro w'; go_simp; with_reducible rfl
               rotate_left
               ·simp only [Act.put, List.setIfInBounds_toArray, List.set_cons_zero, List.set_cons_succ, i64_w, i32_w]; rfl
               refine take_ (i := 2) (N := some 50) (v := ?_) (a' := ?_) #[true, true, true, true, true, false, false, true, false] rfl rfl (take_ofW HT_.out HW_.out (by kernel_rfl)) (fun _ _ _ h => h) (Or.inl ⟨by rfl, ?_⟩) hHeld ?_ ?_
               rotate_left
               ·rintro w' ⟨s0, s1⟩; go_simp; with_reducible rfl
               rotate_left
               ·simp only [Act.put, List.setIfInBounds_toArray, List.set_cons_zero, List.set_cons_succ, i64_w, i32_w]; rfl
               refine take_ (i := 5) (N := some 53) (v := ?_) (a' := ?_) #[true, true, true, true, true, true, false, true, false] rfl rfl (take_ofW HT_.out HW_.out (by kernel_rfl)) (fun _ _ _ h => h) (Or.inl ⟨by rfl, ?_⟩) hHeld ?_ ?_
               rotate_left
               ·rintro w' ⟨s0, s1⟩; go_simp; with_reducible rfl
               rotate_left
               ·simp only [Act.put, List.setIfInBounds_toArray, List.set_cons_zero, List.set_cons_succ, i64_w, i32_w]; rfl
               refine one_ (i := 6) (N := some 54) #[true, true, true, true, true, true, true, true, false] rfl rfl (one_of HT_.out (by kernel_rfl)) (by decide) (fun K hK => ?_)
               refine goes_ Try.func30 (by kernel_rfl) rfl #[.int .i64 (rd (rd_L1 t268 x44_1) 0), .int .i64 (rd (rd_L1 t268 x44_1) 1)] (by rfl) rfl rfl TA ?_
               with_reducible refine (spec_doInner.calls (rd (rd_L1 t268 x44_1) 0) (rd (rd_L1 t268 x44_1) 1) t274 _ A36.out).mono ?_
               rintro e w44 ⟨v275, rfl, ho0, hb⟩
               have HS0_ := (hb.cell (World.block_lt_of_cell? _ _ (hHeld.1))).trans (hHeld.1); have HS1_ := (hb.cell (World.block_lt_of_cell? _ _ (hHeld.2))).trans (hHeld.2)
               refine ⟨_, rfl, ?_⟩
               have n0_ := Aside0.mk (Kd.V_elder' (by (with_reducible repeat (first | apply Kd.V_alloc | apply Kd.V_drewN | apply Kd.V_drew)); exact HO_11.out) (Kd.R_base ho0) hb); have n1_ := Aside0.mk (Kd.S_elder' (KS HO_42) (Kd.R_base ho0) hb); have n2_ := Aside0.mk (Kd.R_elder' (KR HL271_0) (Kd.R_base ho0) hb); have n3_ := Aside0.mk (Kd.R_lower (Kd.R_new' ho0 (Kd.R_lt (KR HL271_0))) (below_size BB)); have n4_ := Aside0.mk (Kd.C_below (by repeat (first | (with_reducible exact HR266_0.out) | (with_reducible refine Kd.C_alloc ?_ _) | (with_reducible refine Kd.C_drewN ?_ _) | (with_reducible refine Kd.C_drew ?_) | exact HR266_0.out)) hb); have n5_ := Aside0.mk (Kd.C_below (by repeat (first | (with_reducible exact HR271_0.out) | (with_reducible refine Kd.C_alloc ?_ _) | (with_reducible refine Kd.C_drewN ?_ _) | (with_reducible refine Kd.C_drew ?_) | exact HR271_0.out)) hb); have n6_ := Aside0.mk (below_step BB hb); clear HO_11; clear HO_42; clear HL271_0; clear HR266_0; clear HR271_0; clear HB; have HO_11 := n0_; have HO_42 := n1_; have HL271_0 := n2_; have HO276 := n3_; have HR266_0 := n4_; have HR271_0 := n5_; have HB := n6_; clear n0_ n1_ n2_ n3_ n4_ n5_ n6_
               (try clear hb)
               (try clear hb2)
               (try clear hk)
               (try clear hi)
               (try clear ho0)
               obtain ⟨Ao45, co45, eo45⟩ := Kd.R_slice HO276.out
               (first | subst eo45 | (injection eo45 with f1_ f2_ f3_; have f4_ := f1_.symm; have f5_ := f3_.symm; clear f1_ f2_ f3_; subst f4_; subst f5_))
               obtain ⟨Ao46, co46, eo46⟩ := Kd.V_slice HO_11.out
               (first | subst eo46 | (injection eo46 with f1_ f2_ f3_; have f4_ := f1_.symm; have f5_ := f3_.symm; clear f1_ f2_ f3_; subst f4_; subst f5_))
               refine hK.out _ _ ⟨HS0_, HS1_⟩ (fun hHeld => ?_)
               clear hK K
               refine norm_ (a' := ?_) ?_ ?_
               rotate_left
               ·show Act.put _ (some 54) _ = _
                simp only [Act.put, List.setIfInBounds_toArray, List.set_cons_zero, List.set_cons_succ, i64_w, i32_w]
                rfl
               refine one_ (i := 8) (N := some 56) #[true, true, true, true, true, true, true, true, true] rfl rfl (one_of HT_.out (by kernel_rfl)) (by decide) (fun K hK => ?_)
               refine goes_ Try.func29 (by kernel_rfl) rfl #[.slice Ao45 t274.length co45, .slice Ao46 t259.length co46] (by rfl) rfl rfl TA ?_
               with_reducible refine (spec_l1Same.calls k1 _ _ t274 _ _ t259 false _ ?side1 ?side2 ?side3 ?side4 A37.out).mono ?_
               (case side1 => repeat (first | exact (Kd.R_reads' HO276.out).2.2 | (with_reducible refine Kd.C_alloc ?_ _) | (with_reducible refine Kd.C_drewN ?_ _) | (with_reducible refine Kd.C_drew ?_)))
               (case side2 => exact (Kd.R_reads' HO276.out).2.1)
               (case side3 => repeat (first | exact (Kd.V_reads' HO_11.out).2.2 | (with_reducible refine Kd.C_alloc ?_ _) | (with_reducible refine Kd.C_drewN ?_ _) | (with_reducible refine Kd.C_drew ?_)))
               (case side4 => exact (Kd.V_reads' HO_11.out).2.1)
               rintro e w' ⟨rfl, ⟨nd, rfl⟩⟩
               refine ⟨_, rfl, ?_⟩
               refine hK.out _ _ ⟨hHeld.1, hHeld.2⟩ (fun hHeld => ?_)
               clear hK K
               refine norm_ (a' := ?_) ?_ ?_
               rotate_left
               ·show Act.put _ (some 56) _ = _
                simp only [Act.put, List.setIfInBounds_toArray, List.set_cons_zero, List.set_cons_succ, i64_w, i32_w]
                rfl
               refine done_ (done_of HT_.out (by kernel_rfl)) ?_
               try go_wp2
               go_roundg k1
               case measure => have := HK1.out; omega
               case rel => exact ⟨(wrap64 (x44_1 + 1)), RF, H', ⟨by have := HK1.out; omega⟩, ⟨by (with_reducible repeat (first | apply Kd.V_alloc | apply Kd.V_drewN | apply Kd.V_drew)); exact Kd.V_mono HO_11.out (fun _ hk => hk.1)⟩, ⟨by (with_reducible repeat (first | apply Kd.S_alloc | apply Kd.S_drewN | apply Kd.S_drew)); exact Kd.S_mono HO_42.out (fun _ hk => trivial)⟩, ⟨by repeat (first | (with_reducible exact HR266_0.out) | (with_reducible refine Kd.C_alloc ?_ _) | (with_reducible refine Kd.C_drewN ?_ _) | (with_reducible refine Kd.C_drew ?_) | exact HR266_0.out)⟩, ⟨BB⟩⟩
             ·rw [if_neg c35] at H
              exact absurd H (by simp)
            ·rw [if_neg c34] at H
             exact absurd H (by simp)
           ·rw [if_neg c33] at H
            exact absurd H (by simp)
          ·rw [if_neg c32] at H
           exact absurd H (by simp)
         ·rw [if_neg c31] at H
          have c31b0 : decide (x44_1 < (t268.length : Int)) = false := decide_eq_false c31; clear c31
          simp only [Option.some.injEq, Prod.mk.injEq] at H
          obtain ⟨rfl, rfl⟩ := H
          go_wp2
          go_ret2
          exact ⟨_, by first | rfl | (simp [errW_none, errW_some] <;> rfl) | (simp only [← hji9]; first | rfl | (simp [errW_none, errW_some] <;> rfl)) | (simp [*, errW_none, errW_some] <;> rfl), by first | exact Kd.R_nil _ _ _ _ _ | exact Kd.N_nil _ _ _ _ _ | exact Kd.V_nil _ _ _ _ _ | exact Kd.Q_nil _ _ _ _ _ | exact Kd.S_nil _ _ _ _ _, BB⟩
     ·rw [if_neg c13] at H
      exact absurd H (by simp)
    ·rw [if_neg c12] at H
     exact absurd H (by simp)
   ·rw [if_neg c11] at H
    exact absurd H (by simp)
  ·rw [if_neg c10] at H
   exact absurd H (by simp)
 ·replace c6 := Bool.eq_false_iff.mpr c6
  subst c6; have H1 : (some (([] : List Int), false)) = some (r1, r2) := by rw [if_neg (show ¬ (false = true) by decide)] at H; exact H
  clear H; have H := H1; clear H1
  simp only [Option.some.injEq, Prod.mk.injEq] at H
  obtain ⟨rfl, rfl⟩ := H
  go_enter Try.func15, Try.ntmps15
  go_wp2_with (first | ((with_reducible refine gate_callee (f := 27) rfl ?_); refine goesL_ (some 18) rfl rfl Try.func27 (by kernel_rfl) rfl #[.int .i64 a0, .slice A1 l1.length c1, .int .i64 a2, .int .i64 a3] rfl TA ?_; (with_reducible refine (spec_doOutside.calls k a0 _ _ l1 a2 a3 false _ ?side1 ?side2 A5.out).mono ?_); (case side1 => repeat (first | exact HR1.out | (with_reducible refine Kd.C_alloc ?_ _) | (with_reducible refine Kd.C_drewN ?_ _) | (with_reducible refine Kd.C_drew ?_))); (case side2 => exact HC1.out); rintro e w47 ⟨rfl, hb⟩; refine ⟨_, rfl, ?_⟩; have n0_ := Aside0.mk (below_step BB hb); clear HB; have HB := n0_; clear n0_; (try clear hb); (try clear hb2); (try clear hk); (try clear hi)))
  go_ret2
  exact ⟨_, by first | rfl | (simp [errW_none, errW_some] <;> rfl) | (simp [*, errW_none, errW_some] <;> rfl), by first | exact Kd.R_nil _ _ _ _ _ | exact Kd.N_nil _ _ _ _ _ | exact Kd.V_nil _ _ _ _ _ | exact Kd.Q_nil _ _ _ _ _ | exact Kd.S_nil _ _ _ _ _, BB⟩

end Go.Proofs.Ytgpplbaloajgdaa.PFnExactExitOf
