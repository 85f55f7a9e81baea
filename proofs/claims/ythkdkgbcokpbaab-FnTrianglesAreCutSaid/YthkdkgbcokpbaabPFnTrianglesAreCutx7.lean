-- Written by a program of this session (wip/tools/pp.sh) out of the translation; Lean checks it.
import Derived.Test.YthkdkgbcokpbaabPFnTrianglesAreCutx0
import Derived.Test.YthkdkgbcokpbaabPFnTrianglesAreCutx1
import Derived.Test.YthkdkgbcokpbaabPFnTrianglesAreCutx2
import Derived.Test.YthkdkgbcokpbaabPFnTrianglesAreCutx5
import Derived.Test.YthkdkgbcokpbaabPFnTrianglesAreCutx6
namespace Go.Proofs.Ythkdkgbcokpbaab.PFnTrianglesAreCut
open Go.RowKit Go.Proofs.YthkdkgbcokpbaabOwn Go.Proofs.YthkdkgbcokpbaabW.PrintWords Go.Proofs.YthkdkgbcokpbaabW.PrintLast Go.Proofs.YthkdkgbcokpbaabW.PrintMore
attribute [local go_sem] max2_int min2_int max_two min_two max_three min_three max_four min_four   -- for this text's walks alone
set_option linter.unusedVariables false
set_option maxHeartbeats 8000000
set_option maxRecDepth 100000
set_option linter.unusedSimpArgs false

/-! ### impl_CellsWith: function 17 -/
def impl_CellsWith.f (k : Nat) (a0 : Int) (a1 : Int) (a2 : Int) : Option (List Int × Bool) := (impl_isPoint.f k a0 (([a1, a2] : List Int))).bind fun t269 => (if t269 = true then ((impl_points.f k a0).bind fun t270 => (if 0 ≤ a1 then (if a1 < (t270.length : Int) then (if 0 ≤ a2 then (if a2 < (t270.length : Int) then ((impl_near.f k ((rd_T54 t270 a1).f0) ((rd_T54 t270 a1).f1) ((rd_T54 t270 a1).f2) ((rd_T54 t270 a2).f0) ((rd_T54 t270 a2).f1) ((rd_T54 t270 a2).f2)).bind fun t275 => (if t275 = true then ((impl_cells.f k a0).bind fun t276 => ((impl_with.f k t276 a1 a2).bind fun t279 => (some (t279, true)))) else (some (([] : List Int), false)))) else (none)) else (none)) else (none)) else (none))) else (some (([] : List Int), false)))
theorem impl_CellsWith.mono : ∀ a0 a1 a2 k, LeO (impl_CellsWith.f k a0 a1 a2) (impl_CellsWith.f (k + 1) a0 a1 a2) := by
 intro a0 a1 a2 k
 unfold impl_CellsWith.f
 repeat' first
   | with_reducible first | exact impl_cells.mono _ _ | exact impl_isPoint.mono _ _ _ | exact impl_near.mono _ _ _ _ _ _ _ | exact impl_points.mono _ _ | exact impl_with.mono _ _ _ _ | exact LeO.refl _ | exact LeO.none _ | refine LeO.ite ?_ ?_ | refine LeO.bind ?_ (fun _ => ?_)
   | exact LeO.none _ | refine LeO.ite ?_ ?_ | refine LeO.bind ?_ (fun _ => ?_)
def impl_CellsWith.T4 : Bool × List (List Nat × List Nat) := (true, [([], []), ([], []), ([0, 1], [0, 1]), ([2], [2]), ([], []), ([], []), ([4, 5], [4, 5]), ([6], [6]), ([3, 7], [3, 7]), ([8], [8])])
def impl_CellsWith.B4 : List Nat := [0, 0, 3, 7, 0, 0, 48, 112, 255, 511]
theorem impl_CellsWith.tab4 : rtab .any (opsOf Try.f17 4) = impl_CellsWith.T4 := by kernel_rfl
theorem impl_CellsWith.bits4 : waitsOk impl_CellsWith.T4.2 impl_CellsWith.B4 = true := by kernel_rfl
theorem impl_CellsWith.calls (k : Nat) (a0 : Int) (a1 : Int) (a2 : Int) (r1 : List Int) (r2 : Bool) (w : World) (h : impl_CellsWith.f k a0 a1 a2 = some (r1, r2)) :
  Calls Try.prog 17 #[.int .i64 a0, .int .i64 a1, .int .i64 a2] w fun e w' => ∃ v0_ : Value, e = .returned (.tuple #[v0_, .bool r2]) ∧ Kd.R (Kd.int .i64) 3 w' w.heap.size (fun _ => True) v0_ r1 ∧ Below w.heap.size w w' := by
 have hu54 := Try.underlying54
 have HB := Aside0.mk (Below.refl w.heap.size w)
 have H : ((impl_isPoint.f k a0 (([a1, a2] : List Int))).bind fun t269 => (if t269 = true then ((impl_points.f k a0).bind fun t270 => (if 0 ≤ a1 then (if a1 < (t270.length : Int) then (if 0 ≤ a2 then (if a2 < (t270.length : Int) then ((impl_near.f k ((rd_T54 t270 a1).f0) ((rd_T54 t270 a1).f1) ((rd_T54 t270 a1).f2) ((rd_T54 t270 a2).f0) ((rd_T54 t270 a2).f1) ((rd_T54 t270 a2).f2)).bind fun t275 => (if t275 = true then ((impl_cells.f k a0).bind fun t276 => ((impl_with.f k t276 a1 a2).bind fun t279 => (some (t279, true)))) else (some (([] : List Int), false)))) else (none)) else (none)) else (none)) else (none))) else (some (([] : List Int), false)))) = some (r1, r2) := h
 clear h
 obtain ⟨y266, hy266⟩ : ∃ y_ : List Int, y_ = (([a1, a2] : List Int)) := ⟨_, rfl⟩
 replace H : ((impl_isPoint.f k a0 y266).bind fun t269 => (if t269 = true then ((impl_points.f k a0).bind fun t270 => (if 0 ≤ a1 then (if a1 < (t270.length : Int) then (if 0 ≤ a2 then (if a2 < (t270.length : Int) then ((impl_near.f k ((rd_T54 t270 a1).f0) ((rd_T54 t270 a1).f1) ((rd_T54 t270 a1).f2) ((rd_T54 t270 a2).f0) ((rd_T54 t270 a2).f1) ((rd_T54 t270 a2).f2)).bind fun t275 => (if t275 = true then ((impl_cells.f k a0).bind fun t276 => ((impl_with.f k t276 a1 a2).bind fun t279 => (some (t279, true)))) else (some (([] : List Int), false)))) else (none)) else (none)) else (none)) else (none))) else (some (([] : List Int), false)))) = some (r1, r2) := HY H hy266
 have Ny266 := Aside0.mk hy266
 clear hy266
 replace H := EA H
 obtain ⟨t269, A4, H⟩ := H
 by_cases c5 : t269 = true
 ·subst c5
  replace H := IP H
  replace H := EA H
  obtain ⟨t270, A6, H⟩ := H
  by_cases c7 : 0 ≤ a1
  ·rw [if_pos c7] at H
   have c7b0 : decide (0 ≤ a1) = true := decide_eq_true c7
   clear c7
   by_cases c8 : a1 < (t270.length : Int)
   ·rw [if_pos c8] at H
    have c8b0 : decide (a1 < (t270.length : Int)) = true := decide_eq_true c8
    clear c8
    by_cases c9 : 0 ≤ a2
    ·rw [if_pos c9] at H
     have c9b0 : decide (0 ≤ a2) = true := decide_eq_true c9
     clear c9
     by_cases c10 : a2 < (t270.length : Int)
     ·rw [if_pos c10] at H
      have c10b0 : decide (a2 < (t270.length : Int)) = true := decide_eq_true c10
      clear c10
      replace H := EA H
      obtain ⟨t275, A11, H⟩ := H
      by_cases c12 : t275 = true
      ·subst c12
       replace H := IP H
       replace H := EA H
       obtain ⟨t276, A13, H⟩ := H
       replace H := EA H
       obtain ⟨t279, A14, H⟩ := H
       simp only [Option.some.injEq, Prod.mk.injEq] at H
       obtain ⟨rfl, rfl⟩ := H
       go_enter Try.func17, Try.ntmps17
       try go_wp2_with (first | ((with_reducible refine gate_dst (N := 12) rfl ?_); refine Kd.R_lit (Kd.int .i64) _ 3 ?hg (N := 12) ?hd (xs := ([a1, a2] : List Int)) (inner := [.int .i64 a1, .int .i64 a2]) (ok := fun _ => True) (okp := fun _ => True) ?hr ?hp (fun _ hk => hk) trivial (Below.refl _ _) (Nat.le_refl _) (by simp) ?_; (case hd => rfl); (case hg => rfl); (case hr => exact GS); (case hp => exact (Reps.one (show Kd.M (Kd.int .i64) _ _ _ a1 [.int .i64 a1] from rfl) (Reps.one (show Kd.M (Kd.int .i64) _ _ _ a2 [.int .i64 a2] from rfl) (Reps.none _ _)))); intro v267 w15 ho16 hb hg_ hnew_; clear hg_ hnew_; (first | rw [← Ny266.out] at ho16 | (simp only [Int.reduceToNat] at ho16; rw [← Ny266.out] at ho16)); have n0_ := Aside0.mk (Kd.R_lower ho16 (below_size BB)); have n1_ := Aside0.mk (below_step BB hb); clear HB; have HO268 := n0_; have HB := n1_; clear n0_ n1_; clear hb ho16; obtain ⟨Ao17, co17, eo17⟩ := Kd.R_slice HO268.out; subst eo17) | ((with_reducible refine gate_callee (f := 33) rfl ?_); refine goesL_ (some 13) rfl rfl Try.func33 (by kernel_rfl) rfl #[.int .i64 a0, .slice Ao17 y266.length co17] rfl TA ?_; (with_reducible refine (impl_isPoint.calls k a0 _ _ y266 true _ ?side1 ?side2 A4.out).mono ?_); (case side1 => exact CW (Kd.R_reads' HO268.out).2.2); (case side2 => exact (Kd.R_reads' HO268.out).2.1); rintro e w18 ⟨rfl, hb⟩; refine ⟨_, rfl, ?_⟩; have n0_ := Aside0.mk (Kd.R_below (KR HO268) hb); have n1_ := Aside0.mk (below_step BB hb); clear HO268; clear HB; have HO268 := n0_; have HB := n1_; clear n0_ n1_; (try clear hb); (try clear hb2); (try clear hk); (try clear hi)) | ((with_reducible refine gate_callee (f := 34) rfl ?_); refine goesL_ (some 16) rfl rfl Try.func34 (by kernel_rfl) rfl #[.int .i64 a0] rfl TA ?_; (with_reducible refine (impl_points.calls k a0 t270 _ A6.out).mono ?_); rintro e w19 ⟨v271, rfl, ho0, hb⟩; refine ⟨_, rfl, ?_⟩; have n0_ := Aside0.mk (Kd.R_below (KR HO268) hb); have n1_ := Aside0.mk (Kd.R_lower ho0 (below_size BB)); have n2_ := Aside0.mk (below_step BB hb); clear HO268; clear HB; have HO268 := n0_; have HO272 := n1_; have HB := n2_; clear n0_ n1_ n2_; (try clear hb); (try clear hb2); (try clear hk); (try clear hi); (try clear ho0)))
       have n0_ := Aside0.mk (Kd.R_drew HO268.out)
       have n1_ := Aside0.mk (Kd.R_drew HO272.out)
       have n2_ := Aside0.mk (below_drew1 HB.out)
       clear HO268
       clear HO272
       clear HB
       have HO268 := n0_
       have HO272 := n1_
       have HB := n2_
       clear n0_ n1_ n2_
       obtain ⟨Ao21, co21, eo21⟩ := Kd.R_slice HO272.out
       (first | subst eo21 | (injection eo21 with f1_ f2_ f3_; have f4_ := f1_.symm; have f5_ := f3_.symm; clear f1_ f2_ f3_; subst f4_; subst f5_))
       have p273 : 0 ≤ (a1 : Int) := of_decide_eq_true AS
       have q273 : a1 < (t270.length : Int) := of_decide_eq_true AS
       obtain ⟨ad273, e273, hx273_0, hx273_1, hx273_2⟩ := at_T54 (Kd.R_reads' HO272.out).2.2 a1 p273 q273
       cases e273
       replace p273 := eq_true p273
       replace q273 := eq_true q273
       have p274 : 0 ≤ (a2 : Int) := of_decide_eq_true AS
       have q274 : a2 < (t270.length : Int) := of_decide_eq_true AS
       obtain ⟨ad274, e274, hx274_0, hx274_1, hx274_2⟩ := at_T54 (Kd.R_reads' HO272.out).2.2 a2 p274 q274
       obtain rfl : ad273 = ad274 := (by injection e274)
       replace p274 := eq_true p274
       replace q274 := eq_true q274
       refine start_ (n := 10) (S := fun w' => w'.cell? (ad273.add ((a1).toNat * 3)) = some (.int .i64 ((rd_T54 t270 a1).f0)) ∧ w'.cell? ⟨(ad273.add ((a1).toNat * 3)).block, (ad273.add ((a1).toNat * 3)).off + 1, none⟩ = some (.int .i64 ((rd_T54 t270 a1).f1)) ∧ w'.cell? ⟨(ad273.add ((a1).toNat * 3)).block, (ad273.add ((a1).toNat * 3)).off + 2, none⟩ = some (.int .i64 ((rd_T54 t270 a1).f2)) ∧ w'.cell? (ad273.add ((a2).toNat * 3)) = some (.int .i64 ((rd_T54 t270 a2).f0)) ∧ w'.cell? ⟨(ad273.add ((a2).toNat * 3)).block, (ad273.add ((a2).toNat * 3)).off + 1, none⟩ = some (.int .i64 ((rd_T54 t270 a2).f1)) ∧ w'.cell? ⟨(ad273.add ((a2).toNat * 3)).block, (ad273.add ((a2).toNat * 3)).off + 2, none⟩ = some (.int .i64 ((rd_T54 t270 a2).f2))) (ds := []) #[false, false, false, false, false, false, false, false, false, false] (by kernel_rfl) rfl rfl ⟨hx273_0, hx273_1, hx273_2, hx274_0, hx274_1, hx274_2⟩ (fun hHeld => ?_); refine with_tabW impl_CellsWith.tab4 impl_CellsWith.bits4 (fun HT_ HW_ => ?_)
       generalize w19.drew = w20 at HO268 HO272 HB hx273_0 hx273_1 hx273_2 hx274_0 hx274_1 hx274_2 hHeld ⊢
       refine pure_ (i := 0) (N := some 17) #[true, false, false, false, false, false, false, false, false, false] rfl rfl (any_of HT_.out (by kernel_rfl)) (fun _ _ _ h => h) (Or.inl ⟨by rfl, PW⟩) PU ?_
       refine pure_ (i := 1) (N := some 18) #[true, true, false, false, false, false, false, false, false, false] rfl rfl (any_of HT_.out (by kernel_rfl)) (fun _ _ _ h => h) (Or.inl ⟨by rfl, PW⟩) PU ?_
       refine pure_ (i := 2) (N := some 19) #[true, true, true, false, false, false, false, false, false, false] rfl rfl (any_of HT_.out (by kernel_rfl)) (fun _ _ _ h => h) (Or.inl ⟨by rfl, PW⟩) PU ?_
       refine pure_ (i := 4) (N := some 21) #[true, true, true, false, true, false, false, false, false, false] rfl rfl (any_of HT_.out (by kernel_rfl)) (fun _ _ _ h => h) (Or.inl ⟨by rfl, PW⟩) PU ?_
       refine pure_ (i := 5) (N := some 22) #[true, true, true, false, true, true, false, false, false, false] rfl rfl (any_of HT_.out (by kernel_rfl)) (fun _ _ _ h => h) (Or.inl ⟨by rfl, PW⟩) PU ?_
       refine pure_ (i := 6) (N := some 23) #[true, true, true, false, true, true, true, false, false, false] rfl rfl (any_of HT_.out (by kernel_rfl)) (fun _ _ _ h => h) (Or.inl ⟨by rfl, PW⟩) PU ?_
       refine take_ (i := 3) (N := some 20) #[true, true, true, true, true, true, true, false, false, false] rfl rfl (take_ofW HT_.out HW_.out (by kernel_rfl)) (fun _ _ _ h => h) (Or.inl ⟨by rfl, PT⟩) hHeld PU ?_
       refine take_ (i := 7) (N := some 24) #[true, true, true, true, true, true, true, true, false, false] rfl rfl (take_ofW HT_.out HW_.out (by kernel_rfl)) (fun _ _ _ h => h) (Or.inl ⟨by rfl, PT⟩) hHeld PU ?_
       refine one_ (i := 8) (N := some 25) #[true, true, true, true, true, true, true, true, true, false] rfl rfl (one_of HT_.out (by kernel_rfl)) (by decide) (fun K hK => ?_)
       refine goes_ Try.func37 (by kernel_rfl) rfl #[.agg #[.int .i64 ((rd_T54 t270 a1).f0), .int .i64 ((rd_T54 t270 a1).f1), .int .i64 ((rd_T54 t270 a1).f2)], .agg #[.int .i64 ((rd_T54 t270 a2).f0), .int .i64 ((rd_T54 t270 a2).f1), .int .i64 ((rd_T54 t270 a2).f2)]] (by rfl) rfl rfl TA ?_
       with_reducible refine (impl_near.calls k ((rd_T54 t270 a1).f0) ((rd_T54 t270 a1).f1) ((rd_T54 t270 a1).f2) ((rd_T54 t270 a2).f0) ((rd_T54 t270 a2).f1) ((rd_T54 t270 a2).f2) true _ A11.out).mono ?_
       rintro e w22 ⟨rfl, hb⟩
       have HS0_ := (hb.cell (World.block_lt_of_cell? _ _ (hHeld.1))).trans (hHeld.1)
       have HS1_ := (hb.cell (World.block_lt_of_cell? _ _ (hHeld.2.1))).trans (hHeld.2.1)
       have HS2_ := (hb.cell (World.block_lt_of_cell? _ _ (hHeld.2.2.1))).trans (hHeld.2.2.1)
       have HS3_ := (hb.cell (World.block_lt_of_cell? _ _ (hHeld.2.2.2.1))).trans (hHeld.2.2.2.1)
       have HS4_ := (hb.cell (World.block_lt_of_cell? _ _ (hHeld.2.2.2.2.1))).trans (hHeld.2.2.2.2.1)
       have HS5_ := (hb.cell (World.block_lt_of_cell? _ _ (hHeld.2.2.2.2.2))).trans (hHeld.2.2.2.2.2)
       refine ⟨_, rfl, ?_⟩
       have n0_ := Aside0.mk (Kd.R_below (KR HO268) hb)
       have n1_ := Aside0.mk (Kd.R_below (KR HO272) hb)
       have n2_ := Aside0.mk (below_step BB hb)
       clear HO268
       clear HO272
       clear HB
       have HO268 := n0_
       have HO272 := n1_
       have HB := n2_
       clear n0_ n1_ n2_
       (try clear hb)
       (try clear hb2)
       (try clear hk)
       (try clear hi)
       refine hK.out _ _ ⟨HS0_, HS1_, HS2_, HS3_, HS4_, HS5_⟩ (fun hHeld => ?_)
       clear hK K
       refine norm_ (a' := ?_) ?_ ?_
       rotate_left
       ·show Act.put _ (some 25) _ = _
        simp only [Act.put, List.setIfInBounds_toArray, List.set_cons_zero, List.set_cons_succ, i64_w, i32_w]
        rfl
       refine pure_ (i := 9) (N := some 26) #[true, true, true, true, true, true, true, true, true, true] rfl rfl (any_of HT_.out (by kernel_rfl)) (fun _ _ _ h => h) (Or.inl ⟨by rfl, PW⟩) PU ?_
       refine done_ (done_of HT_.out (by kernel_rfl)) ?_
       try go_wp2_with (first | ((with_reducible refine gate_callee (f := 45) rfl ?_); refine goesL_ (some 28) rfl rfl Try.func45 (by kernel_rfl) rfl #[.int .i64 a0] rfl TA ?_; (with_reducible refine (impl_cells.calls k a0 t276 _ A13.out).mono ?_); rintro e w23 ⟨v277, rfl, ho0, hb⟩; refine ⟨_, rfl, ?_⟩; have n0_ := Aside0.mk (Kd.R_below (KR HO268) hb); have n1_ := Aside0.mk (Kd.R_below (KR HO272) hb); have n2_ := Aside0.mk (Kd.S_lower (Kd.S_new' ho0 (Kd.R_lt (KR HO268))) (below_size BB)); have n3_ := Aside0.mk (below_step BB hb); clear HO268; clear HO272; clear HB; have HO268 := n0_; have HO272 := n1_; have HO278 := n2_; have HB := n3_; clear n0_ n1_ n2_ n3_; (try clear hb); (try clear hb2); (try clear hk); (try clear hi); (try clear ho0); obtain ⟨Ao24, co24, eo24⟩ := Kd.S_slice HO278.out; subst eo24) | ((with_reducible refine gate_callee (f := 44) rfl ?_); refine goesL_ (some 31) rfl rfl Try.func44 (by kernel_rfl) rfl #[.slice Ao24 t276.length co24, .int .i64 a1, .int .i64 a2] rfl TA ?_; (with_reducible refine (impl_with.calls k _ _ t276 a1 a2 t279 _ ?side1 ?side2 A14.out).mono ?_); (case side1 => exact CW (Kd.S_reads' HO278.out).2.2); (case side2 => exact (Kd.S_reads' HO278.out).2.1); rintro e w25 ⟨v280, rfl, ho0, hb⟩; refine ⟨_, rfl, ?_⟩; have n0_ := Aside0.mk (Kd.R_elder' (KR HO268) (Kd.R_base ho0) hb); have n1_ := Aside0.mk (Kd.R_below (KR HO272) hb); have n2_ := Aside0.mk (Kd.S_elder' (KS HO278) (Kd.R_base ho0) hb); have n3_ := Aside0.mk (Kd.R_lower (Kd.R_new' ho0 (Kd.R_lt (KR HO268))) (below_size BB)); have n4_ := Aside0.mk (below_step BB hb); clear HO268; clear HO272; clear HO278; clear HB; have HO268 := n0_; have HO272 := n1_; have HO278 := n2_; have HO281 := n3_; have HB := n4_; clear n0_ n1_ n2_ n3_ n4_; (try clear hb); (try clear hb2); (try clear hk); (try clear hi); (try clear ho0)))
       go_ret2
       exact ⟨_, RE, by (with_reducible repeat (first | apply Kd.R_alloc | apply Kd.R_drewN | apply Kd.R_drew)); exact Kd.R_mono HO281.out (fun _ hk => trivial), BB⟩
      ·replace c12 := Bool.eq_false_iff.mpr c12
       subst c12
       replace H := IN H
       simp only [Option.some.injEq, Prod.mk.injEq] at H
       obtain ⟨rfl, rfl⟩ := H
       go_enter Try.func17, Try.ntmps17
       try go_wp2_with (first | ((with_reducible refine gate_dst (N := 12) rfl ?_); refine Kd.R_lit (Kd.int .i64) _ 3 ?hg (N := 12) ?hd (xs := ([a1, a2] : List Int)) (inner := [.int .i64 a1, .int .i64 a2]) (ok := fun _ => True) (okp := fun _ => True) ?hr ?hp (fun _ hk => hk) trivial (Below.refl _ _) (Nat.le_refl _) (by simp) ?_; (case hd => rfl); (case hg => rfl); (case hr => exact GS); (case hp => exact (Reps.one (show Kd.M (Kd.int .i64) _ _ _ a1 [.int .i64 a1] from rfl) (Reps.one (show Kd.M (Kd.int .i64) _ _ _ a2 [.int .i64 a2] from rfl) (Reps.none _ _)))); intro v267 w26 ho27 hb hg_ hnew_; clear hg_ hnew_; (first | rw [← Ny266.out] at ho27 | (simp only [Int.reduceToNat] at ho27; rw [← Ny266.out] at ho27)); have n0_ := Aside0.mk (Kd.R_lower ho27 (below_size BB)); have n1_ := Aside0.mk (below_step BB hb); clear HB; have HO268 := n0_; have HB := n1_; clear n0_ n1_; clear hb ho27; obtain ⟨Ao28, co28, eo28⟩ := Kd.R_slice HO268.out; subst eo28) | ((with_reducible refine gate_callee (f := 33) rfl ?_); refine goesL_ (some 13) rfl rfl Try.func33 (by kernel_rfl) rfl #[.int .i64 a0, .slice Ao28 y266.length co28] rfl TA ?_; (with_reducible refine (impl_isPoint.calls k a0 _ _ y266 true _ ?side1 ?side2 A4.out).mono ?_); (case side1 => exact CW (Kd.R_reads' HO268.out).2.2); (case side2 => exact (Kd.R_reads' HO268.out).2.1); rintro e w29 ⟨rfl, hb⟩; refine ⟨_, rfl, ?_⟩; have n0_ := Aside0.mk (Kd.R_below (KR HO268) hb); have n1_ := Aside0.mk (below_step BB hb); clear HO268; clear HB; have HO268 := n0_; have HB := n1_; clear n0_ n1_; (try clear hb); (try clear hb2); (try clear hk); (try clear hi)) | ((with_reducible refine gate_callee (f := 34) rfl ?_); refine goesL_ (some 16) rfl rfl Try.func34 (by kernel_rfl) rfl #[.int .i64 a0] rfl TA ?_; (with_reducible refine (impl_points.calls k a0 t270 _ A6.out).mono ?_); rintro e w30 ⟨v271, rfl, ho0, hb⟩; refine ⟨_, rfl, ?_⟩; have n0_ := Aside0.mk (Kd.R_below (KR HO268) hb); have n1_ := Aside0.mk (Kd.R_lower ho0 (below_size BB)); have n2_ := Aside0.mk (below_step BB hb); clear HO268; clear HB; have HO268 := n0_; have HO272 := n1_; have HB := n2_; clear n0_ n1_ n2_; (try clear hb); (try clear hb2); (try clear hk); (try clear hi); (try clear ho0)))
       have n0_ := Aside0.mk (Kd.R_drew HO268.out)
       have n1_ := Aside0.mk (Kd.R_drew HO272.out)
       have n2_ := Aside0.mk (below_drew1 HB.out)
       clear HO268
       clear HO272
       clear HB
       have HO268 := n0_
       have HO272 := n1_
       have HB := n2_
       clear n0_ n1_ n2_
       obtain ⟨Ao32, co32, eo32⟩ := Kd.R_slice HO272.out
       (first | subst eo32 | (injection eo32 with f1_ f2_ f3_; have f4_ := f1_.symm; have f5_ := f3_.symm; clear f1_ f2_ f3_; subst f4_; subst f5_))
       have p273 : 0 ≤ (a1 : Int) := of_decide_eq_true AS
       have q273 : a1 < (t270.length : Int) := of_decide_eq_true AS
       obtain ⟨ad273, e273, hx273_0, hx273_1, hx273_2⟩ := at_T54 (Kd.R_reads' HO272.out).2.2 a1 p273 q273
       cases e273
       replace p273 := eq_true p273
       replace q273 := eq_true q273
       have p274 : 0 ≤ (a2 : Int) := of_decide_eq_true AS
       have q274 : a2 < (t270.length : Int) := of_decide_eq_true AS
       obtain ⟨ad274, e274, hx274_0, hx274_1, hx274_2⟩ := at_T54 (Kd.R_reads' HO272.out).2.2 a2 p274 q274
       obtain rfl : ad273 = ad274 := (by injection e274)
       replace p274 := eq_true p274
       replace q274 := eq_true q274
       refine start_ (n := 10) (S := fun w' => w'.cell? (ad273.add ((a1).toNat * 3)) = some (.int .i64 ((rd_T54 t270 a1).f0)) ∧ w'.cell? ⟨(ad273.add ((a1).toNat * 3)).block, (ad273.add ((a1).toNat * 3)).off + 1, none⟩ = some (.int .i64 ((rd_T54 t270 a1).f1)) ∧ w'.cell? ⟨(ad273.add ((a1).toNat * 3)).block, (ad273.add ((a1).toNat * 3)).off + 2, none⟩ = some (.int .i64 ((rd_T54 t270 a1).f2)) ∧ w'.cell? (ad273.add ((a2).toNat * 3)) = some (.int .i64 ((rd_T54 t270 a2).f0)) ∧ w'.cell? ⟨(ad273.add ((a2).toNat * 3)).block, (ad273.add ((a2).toNat * 3)).off + 1, none⟩ = some (.int .i64 ((rd_T54 t270 a2).f1)) ∧ w'.cell? ⟨(ad273.add ((a2).toNat * 3)).block, (ad273.add ((a2).toNat * 3)).off + 2, none⟩ = some (.int .i64 ((rd_T54 t270 a2).f2))) (ds := []) #[false, false, false, false, false, false, false, false, false, false] (by kernel_rfl) rfl rfl ⟨hx273_0, hx273_1, hx273_2, hx274_0, hx274_1, hx274_2⟩ (fun hHeld => ?_); refine with_tabW impl_CellsWith.tab4 impl_CellsWith.bits4 (fun HT_ HW_ => ?_)
       generalize w30.drew = w31 at HO268 HO272 HB hx273_0 hx273_1 hx273_2 hx274_0 hx274_1 hx274_2 hHeld ⊢
       refine pure_ (i := 0) (N := some 17) #[true, false, false, false, false, false, false, false, false, false] rfl rfl (any_of HT_.out (by kernel_rfl)) (fun _ _ _ h => h) (Or.inl ⟨by rfl, PW⟩) PU ?_
       refine pure_ (i := 1) (N := some 18) #[true, true, false, false, false, false, false, false, false, false] rfl rfl (any_of HT_.out (by kernel_rfl)) (fun _ _ _ h => h) (Or.inl ⟨by rfl, PW⟩) PU ?_
       refine pure_ (i := 2) (N := some 19) #[true, true, true, false, false, false, false, false, false, false] rfl rfl (any_of HT_.out (by kernel_rfl)) (fun _ _ _ h => h) (Or.inl ⟨by rfl, PW⟩) PU ?_
       refine pure_ (i := 4) (N := some 21) #[true, true, true, false, true, false, false, false, false, false] rfl rfl (any_of HT_.out (by kernel_rfl)) (fun _ _ _ h => h) (Or.inl ⟨by rfl, PW⟩) PU ?_
       refine pure_ (i := 5) (N := some 22) #[true, true, true, false, true, true, false, false, false, false] rfl rfl (any_of HT_.out (by kernel_rfl)) (fun _ _ _ h => h) (Or.inl ⟨by rfl, PW⟩) PU ?_
       refine pure_ (i := 6) (N := some 23) #[true, true, true, false, true, true, true, false, false, false] rfl rfl (any_of HT_.out (by kernel_rfl)) (fun _ _ _ h => h) (Or.inl ⟨by rfl, PW⟩) PU ?_
       refine take_ (i := 3) (N := some 20) #[true, true, true, true, true, true, true, false, false, false] rfl rfl (take_ofW HT_.out HW_.out (by kernel_rfl)) (fun _ _ _ h => h) (Or.inl ⟨by rfl, PT⟩) hHeld PU ?_
       refine take_ (i := 7) (N := some 24) #[true, true, true, true, true, true, true, true, false, false] rfl rfl (take_ofW HT_.out HW_.out (by kernel_rfl)) (fun _ _ _ h => h) (Or.inl ⟨by rfl, PT⟩) hHeld PU ?_
       refine one_ (i := 8) (N := some 25) #[true, true, true, true, true, true, true, true, true, false] rfl rfl (one_of HT_.out (by kernel_rfl)) (by decide) (fun K hK => ?_)
       refine goes_ Try.func37 (by kernel_rfl) rfl #[.agg #[.int .i64 ((rd_T54 t270 a1).f0), .int .i64 ((rd_T54 t270 a1).f1), .int .i64 ((rd_T54 t270 a1).f2)], .agg #[.int .i64 ((rd_T54 t270 a2).f0), .int .i64 ((rd_T54 t270 a2).f1), .int .i64 ((rd_T54 t270 a2).f2)]] (by rfl) rfl rfl TA ?_
       with_reducible refine (impl_near.calls k ((rd_T54 t270 a1).f0) ((rd_T54 t270 a1).f1) ((rd_T54 t270 a1).f2) ((rd_T54 t270 a2).f0) ((rd_T54 t270 a2).f1) ((rd_T54 t270 a2).f2) false _ A11.out).mono ?_
       rintro e w33 ⟨rfl, hb⟩
       have HS0_ := (hb.cell (World.block_lt_of_cell? _ _ (hHeld.1))).trans (hHeld.1)
       have HS1_ := (hb.cell (World.block_lt_of_cell? _ _ (hHeld.2.1))).trans (hHeld.2.1)
       have HS2_ := (hb.cell (World.block_lt_of_cell? _ _ (hHeld.2.2.1))).trans (hHeld.2.2.1)
       have HS3_ := (hb.cell (World.block_lt_of_cell? _ _ (hHeld.2.2.2.1))).trans (hHeld.2.2.2.1)
       have HS4_ := (hb.cell (World.block_lt_of_cell? _ _ (hHeld.2.2.2.2.1))).trans (hHeld.2.2.2.2.1)
       have HS5_ := (hb.cell (World.block_lt_of_cell? _ _ (hHeld.2.2.2.2.2))).trans (hHeld.2.2.2.2.2)
       refine ⟨_, rfl, ?_⟩
       have n0_ := Aside0.mk (Kd.R_below (KR HO268) hb)
       have n1_ := Aside0.mk (Kd.R_below (KR HO272) hb)
       have n2_ := Aside0.mk (below_step BB hb)
       clear HO268
       clear HO272
       clear HB
       have HO268 := n0_
       have HO272 := n1_
       have HB := n2_
       clear n0_ n1_ n2_
       (try clear hb)
       (try clear hb2)
       (try clear hk)
       (try clear hi)
       refine hK.out _ _ ⟨HS0_, HS1_, HS2_, HS3_, HS4_, HS5_⟩ (fun hHeld => ?_)
       clear hK K
       refine norm_ (a' := ?_) ?_ ?_
       rotate_left
       ·show Act.put _ (some 25) _ = _
        simp only [Act.put, List.setIfInBounds_toArray, List.set_cons_zero, List.set_cons_succ, i64_w, i32_w]
        rfl
       refine pure_ (i := 9) (N := some 26) #[true, true, true, true, true, true, true, true, true, true] rfl rfl (any_of HT_.out (by kernel_rfl)) (fun _ _ _ h => h) (Or.inl ⟨by rfl, PW⟩) PU ?_
       refine done_ (done_of HT_.out (by kernel_rfl)) ?_
       try go_wp2
       go_ret2
       exact ⟨_, RE, by first | exact Kd.R_nil _ _ _ _ _ | exact Kd.N_nil _ _ _ _ _ | exact Kd.V_nil _ _ _ _ _ | exact Kd.Q_nil _ _ _ _ _ | exact Kd.S_nil _ _ _ _ _, BB⟩
     ·rw [if_neg c10] at H
      cases H
    ·rw [if_neg c9] at H
     cases H
   ·rw [if_neg c8] at H
    cases H
  ·rw [if_neg c7] at H
   cases H
 ·replace c5 := Bool.eq_false_iff.mpr c5
  subst c5
  replace H := IN H
  simp only [Option.some.injEq, Prod.mk.injEq] at H
  obtain ⟨rfl, rfl⟩ := H
  go_enter Try.func17, Try.ntmps17
  go_wp2_with (first | ((with_reducible refine gate_dst (N := 12) rfl ?_); refine Kd.R_lit (Kd.int .i64) _ 3 ?hg (N := 12) ?hd (xs := ([a1, a2] : List Int)) (inner := [.int .i64 a1, .int .i64 a2]) (ok := fun _ => True) (okp := fun _ => True) ?hr ?hp (fun _ hk => hk) trivial (Below.refl _ _) (Nat.le_refl _) (by simp) ?_; (case hd => rfl); (case hg => rfl); (case hr => exact GS); (case hp => exact (Reps.one (show Kd.M (Kd.int .i64) _ _ _ a1 [.int .i64 a1] from rfl) (Reps.one (show Kd.M (Kd.int .i64) _ _ _ a2 [.int .i64 a2] from rfl) (Reps.none _ _)))); intro v267 w34 ho35 hb hg_ hnew_; clear hg_ hnew_; (first | rw [← Ny266.out] at ho35 | (simp only [Int.reduceToNat] at ho35; rw [← Ny266.out] at ho35)); have n0_ := Aside0.mk (Kd.R_lower ho35 (below_size BB)); have n1_ := Aside0.mk (below_step BB hb); clear HB; have HO268 := n0_; have HB := n1_; clear n0_ n1_; clear hb ho35; obtain ⟨Ao36, co36, eo36⟩ := Kd.R_slice HO268.out; subst eo36) | ((with_reducible refine gate_callee (f := 33) rfl ?_); refine goesL_ (some 13) rfl rfl Try.func33 (by kernel_rfl) rfl #[.int .i64 a0, .slice Ao36 y266.length co36] rfl TA ?_; (with_reducible refine (impl_isPoint.calls k a0 _ _ y266 false _ ?side1 ?side2 A4.out).mono ?_); (case side1 => exact CW (Kd.R_reads' HO268.out).2.2); (case side2 => exact (Kd.R_reads' HO268.out).2.1); rintro e w37 ⟨rfl, hb⟩; refine ⟨_, rfl, ?_⟩; have n0_ := Aside0.mk (Kd.R_below (KR HO268) hb); have n1_ := Aside0.mk (below_step BB hb); clear HO268; clear HB; have HO268 := n0_; have HB := n1_; clear n0_ n1_; (try clear hb); (try clear hb2); (try clear hk); (try clear hi)))
  go_ret2
  exact ⟨_, RE, by first | exact Kd.R_nil _ _ _ _ _ | exact Kd.N_nil _ _ _ _ _ | exact Kd.V_nil _ _ _ _ _ | exact Kd.Q_nil _ _ _ _ _ | exact Kd.S_nil _ _ _ _ _, BB⟩

/-! ### spec_DrawIndexOfPoint: function 18 -/
def spec_DrawIndexOfPoint.f (k : Nat) (l0 : List Int) : Option (Int × List Int) := (spec_l1Cur_side.f l0 0 0 6).bind fun bt283 => ((spec_meSide.f bt283.1).bind fun t286 => (if t286 = true then ((spec_meCount.f bt283.1).bind fun t290 => ((spec_l1Cur_pick.f l0 bt283.2.1 bt283.2.2 t290).bind fun bt291 => ((spec_meAt.f k bt283.1 bt291.1).bind fun t294 => ((spec_l1Cur_pick.f l0 bt291.2.1 bt291.2.2 8).bind fun bt297 => (if bt297.1 = 0 then ((spec_l1Cur_pick.f l0 bt297.2.1 bt297.2.2 3).bind fun bt300 => (if 0 ≤ bt300.1 then (if bt300.1 < (t294.length : Int) then ((spec_l1Cur_pick.f l0 bt300.2.1 bt300.2.2 3).bind fun bt304 => (some (bt283.1, (t294.set (bt300.1 : Int).toNat (wrap64 ((rd t294 bt300.1) + (wrap64 (bt304.1 - 1)))))))) else (none)) else (none))) else (if bt297.1 = 1 then (if t294.length < 17592186044416 then (some (bt283.1, (t294 ++ [0]))) else (none)) else (if bt297.1 = 2 then (if 0 < (t294.length : Int) then (some (bt283.1, (t294.set (0 : Int).toNat 4611686018427387904))) else (none)) else (some (bt283.1, t294))))))))) else (some (bt283.1, (([0, 0, 0] : List Int))))))
theorem spec_DrawIndexOfPoint.mono : ∀ a0 k, LeO (spec_DrawIndexOfPoint.f k a0) (spec_DrawIndexOfPoint.f (k + 1) a0) := by
 intro a0 k
 unfold spec_DrawIndexOfPoint.f
 repeat' first
   | with_reducible first | exact spec_meAt.mono _ _ _ | exact LeO.refl _ | exact LeO.none _ | refine LeO.ite ?_ ?_ | refine LeO.bind ?_ (fun _ => ?_)
   | exact LeO.none _ | refine LeO.ite ?_ ?_ | refine LeO.bind ?_ (fun _ => ?_)
def spec_DrawIndexOfPoint.T8 : Bool × List (List Nat × List Nat) := (true, [([], []), ([], []), ([1], [1]), ([0, 2], [0, 2]), ([3], [3]), ([], []), ([5, 2], [5]), ([6], [6]), ([4, 7], [4, 7]), ([0, 2, 0, 1, 2, 3, 4, 5, 6, 7, 8], [0, 2]), ([9, 8, 6, 0, 1, 2, 3, 4, 5, 6, 7, 8], [8, 9])])
def spec_DrawIndexOfPoint.B8 : List Nat := [0, 0, 2, 7, 15, 0, 38, 102, 255, 511, 1023]
theorem spec_DrawIndexOfPoint.tab8 : rtab .any (opsOf Try.f18 8) = spec_DrawIndexOfPoint.T8 := by kernel_rfl
theorem spec_DrawIndexOfPoint.bits8 : waitsOk spec_DrawIndexOfPoint.T8.2 spec_DrawIndexOfPoint.B8 = true := by kernel_rfl
theorem spec_DrawIndexOfPoint.calls (k : Nat) (A0 : Option Addr) (c0 : Nat) (l0 : List Int) (r1 : Int) (r2 : List Int) (w : World) (hr0 : Kd.C (Kd.int .u8) w A0 l0.length l0) (hc0 : l0.length ≤ c0) (h : spec_DrawIndexOfPoint.f k l0 = some (r1, r2)) :
  Calls Try.prog 18 #[.slice A0 l0.length c0] w fun e w' => ∃ v1_ : Value, e = .returned (.tuple #[.int .i64 r1, v1_]) ∧ Kd.R (Kd.int .i64) 3 w' w.heap.size (fun _ => True) v1_ r2 ∧ Below w.heap.size w w' := by
 have hu51 := Try.underlying51
 have HR0 := Aside0.mk hr0
 have HC0 := Aside0.mk hc0
 clear hr0 hc0
 have HB := Aside0.mk (Below.refl w.heap.size w)
 have H : ((spec_l1Cur_side.f l0 0 0 6).bind fun bt283 => ((spec_meSide.f bt283.1).bind fun t286 => (if t286 = true then ((spec_meCount.f bt283.1).bind fun t290 => ((spec_l1Cur_pick.f l0 bt283.2.1 bt283.2.2 t290).bind fun bt291 => ((spec_meAt.f k bt283.1 bt291.1).bind fun t294 => ((spec_l1Cur_pick.f l0 bt291.2.1 bt291.2.2 8).bind fun bt297 => (if bt297.1 = 0 then ((spec_l1Cur_pick.f l0 bt297.2.1 bt297.2.2 3).bind fun bt300 => (if 0 ≤ bt300.1 then (if bt300.1 < (t294.length : Int) then ((spec_l1Cur_pick.f l0 bt300.2.1 bt300.2.2 3).bind fun bt304 => (some (bt283.1, (t294.set (bt300.1 : Int).toNat (wrap64 ((rd t294 bt300.1) + (wrap64 (bt304.1 - 1)))))))) else (none)) else (none))) else (if bt297.1 = 1 then (if t294.length < 17592186044416 then (some (bt283.1, (t294 ++ [0]))) else (none)) else (if bt297.1 = 2 then (if 0 < (t294.length : Int) then (some (bt283.1, (t294.set (0 : Int).toNat 4611686018427387904))) else (none)) else (some (bt283.1, t294))))))))) else (some (bt283.1, (([0, 0, 0] : List Int))))))) = some (r1, r2) := h
 clear h
 replace H := EA H
 obtain ⟨⟨t283, t284, t285⟩, A2, H⟩ := H
 try dsimp only at H
 replace H := EA H
 obtain ⟨t286, A3, H⟩ := H
 by_cases c4 : t286 = true
 ·subst c4
  replace H := IP H
  replace H := EA H
  obtain ⟨t290, A5, H⟩ := H
  replace H := EA H
  obtain ⟨⟨t291, t292, t293⟩, A6, H⟩ := H
  try dsimp only at H
  replace H := EA H
  obtain ⟨t294, A7, H⟩ := H
  replace H := EA H
  obtain ⟨⟨t297, t298, t299⟩, A8, H⟩ := H
  try dsimp only at H
  by_cases c9 : t297 = 0
  ·rw [if_pos c9] at H
   have c9b0 : (t297 == 0) = true := beq_iff_eq.mpr c9
   have c9b1 : (t297 != 0) = false := bne_eq_false_iff_eq.mpr c9
   clear c9
   replace H := EA H
   obtain ⟨⟨t300, t301, t302⟩, A10, H⟩ := H
   try dsimp only at H
   by_cases c11 : 0 ≤ t300
   ·rw [if_pos c11] at H
    have c11b0 : decide (0 ≤ t300) = true := decide_eq_true c11
    clear c11
    by_cases c12 : t300 < (t294.length : Int)
    ·rw [if_pos c12] at H
     have c12b0 : decide (t300 < (t294.length : Int)) = true := decide_eq_true c12
     clear c12
     replace H := EA H
     obtain ⟨⟨t304, t305, t306⟩, A13, H⟩ := H
     try dsimp only at H
     obtain ⟨y307, hy307⟩ : ∃ y_ : List Int, y_ = (t294.set (t300 : Int).toNat (wrap64 ((rd t294 t300) + (wrap64 (t304 - 1))))) := ⟨_, rfl⟩
     replace H : (some (t283, y307)) = some (r1, r2) := HY H hy307
     have Ny307 := Aside0.mk hy307
     clear hy307
     simp only [Option.some.injEq, Prod.mk.injEq] at H
     obtain ⟨rfl, rfl⟩ := H
     go_enter Try.func18, Try.ntmps18
     try go_wp2_with (first | ((with_reducible refine gate_dst (N := 9) rfl ?_); refine box_event ?hg (N := 9) ?hd (cs := #[.slice A0 l0.length c0, .int .i64 0, .int .u64 0]) (t := 51) ?hr ?_; (case hd => rfl); (case hg => rfl); (case hr => exact GS); intro gb282 hg w15 hbox hb; have n0_ := Aside0.mk (below_step BB hb); have n1_ := Aside0.mk ((by rw [hg]; exact (below_size BB) : w.heap.size ≤ gb282)); have n2_ := Aside0.mk ((by rw [hg]; exact (below_size BB) : w.heap.size ≤ gb282)); have n3_ := Aside0.mk ((show IsS51 w w15 gb282 l0 0 0 from ⟨A0, c0, hbox, (by rw [hg]; exact (below_size BB) : w.heap.size ≤ gb282), HR0.out⟩)); clear HB; have HB := n0_; have GW282 := n1_; have GE282 := n2_; have HI282 := n3_; clear n0_ n1_ n2_ n3_; clear hb hbox hg) | ((with_reducible refine gate_callee (f := 31) rfl ?_); refine goesL_ (some 11) rfl rfl Try.func31 (by kernel_rfl) rfl #[.pointer (some ⟨gb282, 0, none⟩), .int .i64 6] rfl TA ?_; (with_reducible refine (spec_l1Cur_side.calls gb282 l0 0 0 6 t283 t284 t285 w _ ?side1 ?side2 A2.out).mono ?_); (case side1 => repeat (first | (with_reducible first | exact HI282.out | apply IsS51.alloc | apply IsS51.drewN | apply IsS51.drew | apply IsS51.set_1 | apply IsS51.set_2) | exact HI282.out)); (case side2 => repeat (first | (with_reducible first | exact HB.out | apply below_alloc | apply pw_below_drewN | apply below_drew1 | refine below_set ?_ (IsS51.ge HI282.out)) | exact HB.out)); rintro e w16 ⟨rfl, hi, hb, hk⟩; refine ⟨_, rfl, ?_⟩; have n0_ := Aside0.mk (hb); have n1_ := Aside0.mk (hi); clear HB; clear HI282; have HB := n0_; have HI282 := n1_; clear n0_ n1_; (try clear hb); (try clear hb2); (try clear hk); (try clear hi)) | ((with_reducible refine gate_callee (f := 46) rfl ?_); refine goesL_ (some 13) rfl rfl Try.func46 (by kernel_rfl) rfl #[.int .i64 t283] rfl TA ?_; (with_reducible refine (spec_meSide.calls t283 true _ A3.out).mono ?_); rintro e w' ⟨rfl, ⟨nd, rfl⟩⟩; refine ⟨_, rfl, ?_⟩; (try (rw [drewN_self w16]; generalize hq_ : World.drewN w16 _ = w16; have n0_ : Aside0 (IsS51 w w16 gb282 l0 t284 t285) := ⟨by rw [← hq_]; exact (by repeat (first | (with_reducible first | exact HI282.out | apply IsS51.alloc | apply IsS51.drewN | apply IsS51.drew | apply IsS51.set_1 | apply IsS51.set_2) | exact HI282.out))⟩; have n1_ : Aside0 (Below w.heap.size w w16) := ⟨by rw [← hq_]; exact (by repeat (first | (with_reducible first | exact HB.out | apply below_alloc | apply pw_below_drewN | apply below_drew1 | refine below_set ?_ (IsS51.ge HI282.out)) | exact HB.out))⟩; clear HI282 HB hq_; have HI282 := n0_; have HB := n1_; clear n0_ n1_))) | ((with_reducible refine gate_callee (f := 38) rfl ?_); refine goesL_ (some 20) rfl rfl Try.func38 (by kernel_rfl) rfl #[.int .i64 t283] rfl TA ?_; (with_reducible refine (spec_meCount.calls t283 t290 _ A5.out).mono ?_); rintro e w' ⟨rfl, ⟨nd, rfl⟩⟩; refine ⟨_, rfl, ?_⟩; (try (rw [drewN_self w16]; generalize hq_ : World.drewN w16 _ = w16; have n0_ : Aside0 (IsS51 w w16 gb282 l0 t284 t285) := ⟨by rw [← hq_]; exact (by repeat (first | (with_reducible first | exact HI282.out | apply IsS51.alloc | apply IsS51.drewN | apply IsS51.drew | apply IsS51.set_1 | apply IsS51.set_2) | exact HI282.out))⟩; have n1_ : Aside0 (Below w.heap.size w w16) := ⟨by rw [← hq_]; exact (by repeat (first | (with_reducible first | exact HB.out | apply below_alloc | apply pw_below_drewN | apply below_drew1 | refine below_set ?_ (IsS51.ge HI282.out)) | exact HB.out))⟩; clear HI282 HB hq_; have HI282 := n0_; have HB := n1_; clear n0_ n1_))) | ((with_reducible refine gate_callee (f := 32) rfl ?_); refine goesL_ (some 21) rfl rfl Try.func32 (by kernel_rfl) rfl #[.pointer (some ⟨gb282, 0, none⟩), .int .i64 t290] rfl TA ?_; (with_reducible refine (spec_l1Cur_pick.calls gb282 l0 t284 t285 t290 t291 t292 t293 w _ ?side1 ?side2 A6.out).mono ?_); (case side1 => repeat (first | (with_reducible first | exact HI282.out | apply IsS51.alloc | apply IsS51.drewN | apply IsS51.drew | apply IsS51.set_1 | apply IsS51.set_2) | exact HI282.out)); (case side2 => repeat (first | (with_reducible first | exact HB.out | apply below_alloc | apply pw_below_drewN | apply below_drew1 | refine below_set ?_ (IsS51.ge HI282.out)) | exact HB.out)); rintro e w17 ⟨rfl, hi, hb, hk⟩; refine ⟨_, rfl, ?_⟩; have n0_ := Aside0.mk (hb); have n1_ := Aside0.mk (hi); clear HB; clear HI282; have HB := n0_; have HI282 := n1_; clear n0_ n1_; (try clear hb); (try clear hb2); (try clear hk); (try clear hi)) | ((with_reducible refine gate_callee (f := 36) rfl ?_); refine goesL_ (some 22) rfl rfl Try.func36 (by kernel_rfl) rfl #[.int .i64 t283, .int .i64 t291] rfl TA ?_; (with_reducible refine (spec_meAt.calls k t283 t291 t294 _ A7.out).mono ?_); rintro e w18 ⟨v295, rfl, ho0, hb⟩; refine ⟨_, rfl, ?_⟩; have n0_ := Aside0.mk (Kd.R_lower ho0 (below_size (by repeat (first | (with_reducible first | exact HB.out | apply below_alloc | apply pw_below_drewN | apply below_drew1 | refine below_set ?_ (IsS51.ge HI282.out)) | exact HB.out)))); have n1_ := Aside0.mk (IsS51.below (by repeat (first | (with_reducible first | exact HI282.out | apply IsS51.alloc | apply IsS51.drewN | apply IsS51.drew | apply IsS51.set_1 | apply IsS51.set_2) | exact HI282.out)) hb); have n2_ := Aside0.mk (below_step (by repeat (first | (with_reducible first | exact HB.out | apply below_alloc | apply pw_below_drewN | apply below_drew1 | refine below_set ?_ (IsS51.ge HI282.out)) | exact HB.out)) hb); clear HI282; clear HB; have HO296 := n0_; have HI282 := n1_; have HB := n2_; clear n0_ n1_ n2_; (try clear hb); (try clear hb2); (try clear hk); (try clear hi); (try clear ho0)) | ((with_reducible refine gate_callee (f := 32) rfl ?_); refine goesL_ (some 24) rfl rfl Try.func32 (by kernel_rfl) rfl #[.pointer (some ⟨gb282, 0, none⟩), .int .i64 8] rfl TA ?_; (with_reducible refine (spec_l1Cur_pick.calls gb282 l0 t292 t293 8 t297 t298 t299 w _ ?side1 ?side2 A8.out).mono ?_); (case side1 => repeat (first | (with_reducible first | exact HI282.out | apply IsS51.alloc | apply IsS51.drewN | apply IsS51.drew | apply IsS51.set_1 | apply IsS51.set_2) | exact HI282.out)); (case side2 => repeat (first | (with_reducible first | exact HB.out | apply below_alloc | apply pw_below_drewN | apply below_drew1 | refine below_set ?_ (IsS51.ge HI282.out)) | exact HB.out)); rintro e w19 ⟨rfl, hi, hb, hk⟩; refine ⟨_, rfl, ?_⟩; have n0_ := Aside0.mk (Kd.R_mono (Kd.R_keep (IsS51.apart (show IsS51 w _ gb282 l0 t292 t293 from by repeat (first | (with_reducible first | exact HI282.out | apply IsS51.alloc | apply IsS51.drewN | apply IsS51.drew | apply IsS51.set_1 | apply IsS51.set_2) | exact HI282.out)) (KR HO296) (by decide)) hk (fun _ h => h.2)) (fun _ h => h.1)); have n1_ := Aside0.mk (hb); have n2_ := Aside0.mk (hi); clear HO296; clear HB; clear HI282; have HO296 := n0_; have HB := n1_; have HI282 := n2_; clear n0_ n1_ n2_; (try clear hb); (try clear hb2); (try clear hk); (try clear hi)))
     have n0_ := Aside0.mk (Kd.R_drew HO296.out)
     have n1_ := Aside0.mk (IsS51.drew HI282.out)
     have n2_ := Aside0.mk (below_drew1 HB.out)
     clear HO296
     clear HI282
     clear HB
     have HO296 := n0_
     have HI282 := n1_
     have HB := n2_
     clear n0_ n1_ n2_
     try (obtain ⟨Ao_, co_, eo_⟩ := Kd.R_slice HO296.out; subst eo_)
     have p303 : 0 ≤ (t300 : Int) := of_decide_eq_true AS
     have q303 : t300 < (t294.length : Int) := of_decide_eq_true AS
     obtain ⟨ad303, e303, hx303_0⟩ := Kd.at_int (Kd.R_reads' HO296.out).2.2 t300 p303 q303
     cases e303
     replace p303 := eq_true p303
     replace q303 := eq_true q303
     refine start_ (n := 11) (S := fun w' => w'.cell? (ad303.add (t300).toNat) = some (.int .i64 (rd t294 t300))) (ds := [10]) #[false, false, false, false, false, false, false, false, false, false, false] (by kernel_rfl) rfl rfl (hx303_0) (fun hHeld => ?_); refine with_tabW spec_DrawIndexOfPoint.tab8 spec_DrawIndexOfPoint.bits8 (fun HT_ HW_ => ?_)
     generalize w19.drew = w20 at HO296 HI282 HB hx303_0 hHeld ⊢
     refine pure_ (i := 0) (N := some 27) #[true, false, false, false, false, false, false, false, false, false, false] rfl rfl (any_of HT_.out (by kernel_rfl)) (fun _ _ _ h => h) (Or.inl ⟨by rfl, PW⟩) PU ?_
     refine pure_ (i := 1) (N := some 28) #[true, true, false, false, false, false, false, false, false, false, false] rfl rfl (any_of HT_.out (by kernel_rfl)) (fun _ _ _ h => h) (Or.inl ⟨by rfl, PW⟩) PU ?_
     refine pure_ (i := 5) (N := some 32) #[true, true, false, false, false, true, false, false, false, false, false] rfl rfl (any_of HT_.out (by kernel_rfl)) (fun _ _ _ h => h) (Or.inl ⟨by rfl, PW⟩) PU ?_
     refine one_ (i := 2) (N := some 29) #[true, true, true, false, false, true, false, false, false, false, false] rfl rfl (one_of HT_.out (by kernel_rfl)) (by decide) (fun K hK => ?_)
     refine goes_ Try.func32 (by kernel_rfl) rfl #[.pointer (some ⟨gb282, 0, none⟩), .int .i64 3] (by rfl) rfl rfl TA ?_
     with_reducible refine (spec_l1Cur_pick.calls gb282 l0 t298 t299 3 t300 t301 t302 w _ ?side1 ?side2 A10.out).mono ?_
     (case side1 => repeat (first | (with_reducible first | exact HI282.out | apply IsS51.alloc | apply IsS51.drewN | apply IsS51.drew | apply IsS51.set_1 | apply IsS51.set_2) | exact HI282.out))
     (case side2 => repeat (first | (with_reducible first | exact HB.out | apply below_alloc | apply pw_below_drewN | apply below_drew1 | refine below_set ?_ (IsS51.ge HI282.out)) | exact HB.out))
     rintro e w21 ⟨rfl, hi, hb, hk⟩
     have HS0_ := keep_cell hk (hHeld) (by first | (rw [add_block]; exact Kd.own_blk (IsS51.own_ne HI282.out HO296.out (by decide))) | (show (Addr.add _ _).block ≠ _; rw [add_block]; exact Kd.own_blk (IsS51.own_ne HI282.out HO296.out (by decide))) | exact Kd.own_blk (IsS51.own_ne HI282.out HO296.out (by decide)))
     refine ⟨_, rfl, ?_⟩
     have n0_ := Aside0.mk (Kd.R_mono (Kd.R_keep (IsS51.apart (show IsS51 w _ gb282 l0 t298 t299 from by repeat (first | (with_reducible first | exact HI282.out | apply IsS51.alloc | apply IsS51.drewN | apply IsS51.drew | apply IsS51.set_1 | apply IsS51.set_2) | exact HI282.out)) (KR HO296) (by decide)) hk (fun _ h => h.2)) (fun _ h => h.1))
     have n1_ := Aside0.mk (hb)
     have n2_ := Aside0.mk (hi)
     clear HO296
     clear HB
     clear HI282
     have HO296 := n0_
     have HB := n1_
     have HI282 := n2_
     clear n0_ n1_ n2_
     (try clear hb)
     (try clear hb2)
     (try clear hk)
     (try clear hi)
     obtain ⟨Ao22, co22, eo22⟩ := Kd.R_slice HO296.out
     (first | subst eo22 | (injection eo22 with f1_ f2_ f3_; have f4_ := f1_.symm; have f5_ := f3_.symm; clear f1_ f2_ f3_; subst f4_; subst f5_))
     refine hK.out _ _ (HS0_) (fun hHeld => ?_)
     clear hK K
     refine norm_ (a' := ?_) ?_ ?_
     rotate_left
     ·show Act.put _ (some 29) _ = _
      simp only [Act.put, List.setIfInBounds_toArray, List.set_cons_zero, List.set_cons_succ, i64_w, i32_w]
      rfl
     refine pure_ (i := 3) (N := some 30) #[true, true, true, true, false, true, false, false, false, false, false] rfl rfl (any_of HT_.out (by kernel_rfl)) (fun _ _ _ h => h) (Or.inl ⟨by rfl, PW⟩) PU ?_
     refine take_ (i := 4) (N := some 31) (v := ?_) (a' := ?_) #[true, true, true, true, true, true, false, false, false, false, false] rfl rfl (take_ofW HT_.out HW_.out (by kernel_rfl)) (fun _ _ _ h => h) (Or.inl ⟨by rfl, ?_⟩) hHeld ?_ ?_
     rotate_left
     ·intro w' s0
      go_simp
      with_reducible rfl
     rotate_left
     ·exact PU
     refine one_ (i := 6) (N := some 33) #[true, true, true, true, true, true, true, false, false, false, false] rfl rfl (one_of HT_.out (by kernel_rfl)) (by decide) (fun K hK => ?_)
     refine goes_ Try.func32 (by kernel_rfl) rfl #[.pointer (some ⟨gb282, 0, none⟩), .int .i64 3] (by rfl) rfl rfl TA ?_
     with_reducible refine (spec_l1Cur_pick.calls gb282 l0 t301 t302 3 t304 t305 t306 w _ ?side1 ?side2 A13.out).mono ?_
     (case side1 => repeat (first | (with_reducible first | exact HI282.out | apply IsS51.alloc | apply IsS51.drewN | apply IsS51.drew | apply IsS51.set_1 | apply IsS51.set_2) | exact HI282.out))
     (case side2 => repeat (first | (with_reducible first | exact HB.out | apply below_alloc | apply pw_below_drewN | apply below_drew1 | refine below_set ?_ (IsS51.ge HI282.out)) | exact HB.out))
     rintro e w23 ⟨rfl, hi, hb, hk⟩
     have HS0_ := keep_cell hk (hHeld) (by first | (rw [add_block]; exact Kd.own_blk (IsS51.own_ne HI282.out HO296.out (by decide))) | (show (Addr.add _ _).block ≠ _; rw [add_block]; exact Kd.own_blk (IsS51.own_ne HI282.out HO296.out (by decide))) | exact Kd.own_blk (IsS51.own_ne HI282.out HO296.out (by decide)))
     refine ⟨_, rfl, ?_⟩
     have n0_ := Aside0.mk (Kd.R_mono (Kd.R_keep (IsS51.apart (show IsS51 w _ gb282 l0 t301 t302 from by repeat (first | (with_reducible first | exact HI282.out | apply IsS51.alloc | apply IsS51.drewN | apply IsS51.drew | apply IsS51.set_1 | apply IsS51.set_2) | exact HI282.out)) (KR HO296) (by decide)) hk (fun _ h => h.2)) (fun _ h => h.1))
     have n1_ := Aside0.mk (hb)
     have n2_ := Aside0.mk (hi)
     clear HO296
     clear HB
     clear HI282
     have HO296 := n0_
     have HB := n1_
     have HI282 := n2_
     clear n0_ n1_ n2_
     (try clear hb)
     (try clear hb2)
     (try clear hk)
     (try clear hi)
     have p14 : 0 ≤ (t300 : Int) := of_decide_eq_true AS
     have q14 : (t300 : Int) < ((t294.length : Int) : Int) := of_decide_eq_true AS
     obtain ⟨go14, co14, eo14, gb14, gl14, cl14, HG14⟩ := Kd.R_form HO296.out (by omega)
     (first | cases eo14 | (injection eo14 with ea_ en_ ec_; (first | subst ea_ | (injection ea_ with ea_; subst ea_)); subst ec_; clear en_))
     have GB14 := Aside0.mk gb14
     have GG14 := Aside0.mk HG14
     clear gb14 gl14 HG14
     (first | simp only [add_plain] at hx303_0 | skip)
     obtain ⟨hx14_0, hf14_0⟩ := Kd.R_celln 0 HO296.out (t300 : Int) p14 q14
     replace p14 := eq_true p14
     replace q14 := eq_true q14
     have HN282_go14 := Aside0.mk (show gb282 ≠ go14 from by have h_ := IsS51.own_ne HI282.out HO296.out (by decide); intro e_; exact h_ (by rw [e_]; rfl))
     have HP24 := Kd.R_putn HO296.out (t300 : Int) (wrap64 ((rd t294 t300) + (wrap64 (t304 - 1))))
     rw [← Ny307.out] at HP24
     have HQ24 := Aside0.mk HP24
     clear HP24
     refine hK.out _ _ (HS0_) (fun hHeld => ?_)
     clear hK K
     refine norm_ (a' := ?_) ?_ ?_
     rotate_left
     ·show Act.put _ (some 33) _ = _
      simp only [Act.put, List.setIfInBounds_toArray, List.set_cons_zero, List.set_cons_succ, i64_w, i32_w]
      rfl
     refine pure_ (i := 7) (N := some 34) #[true, true, true, true, true, true, true, true, false, false, false] rfl rfl (any_of HT_.out (by kernel_rfl)) (fun _ _ _ h => h) (Or.inl ⟨by rfl, PW⟩) PU ?_
     refine pure_ (i := 8) (N := some 35) #[true, true, true, true, true, true, true, true, true, false, false] rfl rfl (any_of HT_.out (by kernel_rfl)) (fun _ _ _ h => h) (Or.inl ⟨by rfl, PW⟩) PU ?_
     refine pure_ (i := 9) (N := some 36) #[true, true, true, true, true, true, true, true, true, true, false] rfl rfl (any_of HT_.out (by kernel_rfl)) (fun _ _ _ h => h) (Or.inl ⟨by rfl, PW⟩) PU ?_
     refine last_ (i := 10) (N := none) #[true, true, true, true, true, true, true, true, true, true, true] rfl rfl (one_of HT_.out (by kernel_rfl)) (by decide) (fun K hK => ?_)
     refine skip_ (w1 := ?_) (by rfl) rfl ?_ ?_
     rotate_left
     ·go_simp
      rfl
     refine hK.out _ _ ?_
     clear hK K
     refine done_ (done_of HT_.out (by kernel_rfl)) ?_
     try go_wp2
     go_ret2
     exact ⟨_, RE, by (with_reducible repeat (first | apply Kd.R_alloc | apply Kd.R_drewN | apply Kd.R_drew)); exact HQ24.out, by repeat (first | (with_reducible first | exact HB.out | apply below_alloc | apply pw_below_drewN | apply below_drew1 | refine below_set ?_ GB14.out | refine below_set ?_ (IsS51.ge HI282.out)) | exact HB.out)⟩
    ·rw [if_neg c12] at H
     cases H
   ·rw [if_neg c11] at H
    cases H
  ·rw [if_neg c9] at H
   have c9b0 : (t297 == 0) = false := beq_eq_false_iff_ne.mpr c9
   have c9b1 : (t297 != 0) = true := bne_iff_ne.mpr c9
   by_cases c25 : t297 = 1
   ·rw [if_pos c25] at H
    have c25b0 : (t297 == 1) = true := beq_iff_eq.mpr c25
    have c25b1 : (t297 != 1) = false := bne_eq_false_iff_eq.mpr c25
    clear c25
    by_cases c26 : t294.length < 17592186044416
    ·rw [if_pos c26] at H
     have LMc26 := Aside0.mk c26
     clear c26
     obtain ⟨y308, hy308⟩ : ∃ y_ : List Int, y_ = (t294 ++ [0]) := ⟨_, rfl⟩
     replace H : (some (t283, y308)) = some (r1, r2) := HY H hy308
     have Ny308 := Aside0.mk hy308
     clear hy308
     simp only [Option.some.injEq, Prod.mk.injEq] at H
     obtain ⟨rfl, rfl⟩ := H
     go_enter Try.func18, Try.ntmps18
     go_wp2_with (first | ((with_reducible refine gate_dst (N := 9) rfl ?_); refine box_event ?hg (N := 9) ?hd (cs := #[.slice A0 l0.length c0, .int .i64 0, .int .u64 0]) (t := 51) ?hr ?_; (case hd => rfl); (case hg => rfl); (case hr => exact GS); intro gb282 hg w27 hbox hb; have n0_ := Aside0.mk (below_step BB hb); have n1_ := Aside0.mk ((by rw [hg]; exact (below_size BB) : w.heap.size ≤ gb282)); have n2_ := Aside0.mk ((by rw [hg]; exact (below_size BB) : w.heap.size ≤ gb282)); have n3_ := Aside0.mk ((show IsS51 w w27 gb282 l0 0 0 from ⟨A0, c0, hbox, (by rw [hg]; exact (below_size BB) : w.heap.size ≤ gb282), HR0.out⟩)); clear HB; have HB := n0_; have GW282 := n1_; have GE282 := n2_; have HI282 := n3_; clear n0_ n1_ n2_ n3_; clear hb hbox hg) | ((with_reducible refine gate_callee (f := 31) rfl ?_); refine goesL_ (some 11) rfl rfl Try.func31 (by kernel_rfl) rfl #[.pointer (some ⟨gb282, 0, none⟩), .int .i64 6] rfl TA ?_; (with_reducible refine (spec_l1Cur_side.calls gb282 l0 0 0 6 t283 t284 t285 w _ ?side1 ?side2 A2.out).mono ?_); (case side1 => repeat (first | (with_reducible first | exact HI282.out | apply IsS51.alloc | apply IsS51.drewN | apply IsS51.drew | apply IsS51.set_1 | apply IsS51.set_2) | exact HI282.out)); (case side2 => repeat (first | (with_reducible first | exact HB.out | apply below_alloc | apply pw_below_drewN | apply below_drew1 | refine below_set ?_ (IsS51.ge HI282.out)) | exact HB.out)); rintro e w28 ⟨rfl, hi, hb, hk⟩; refine ⟨_, rfl, ?_⟩; have n0_ := Aside0.mk (hb); have n1_ := Aside0.mk (hi); clear HB; clear HI282; have HB := n0_; have HI282 := n1_; clear n0_ n1_; (try clear hb); (try clear hb2); (try clear hk); (try clear hi)) | ((with_reducible refine gate_callee (f := 46) rfl ?_); refine goesL_ (some 13) rfl rfl Try.func46 (by kernel_rfl) rfl #[.int .i64 t283] rfl TA ?_; (with_reducible refine (spec_meSide.calls t283 true _ A3.out).mono ?_); rintro e w' ⟨rfl, ⟨nd, rfl⟩⟩; refine ⟨_, rfl, ?_⟩) | ((with_reducible refine gate_callee (f := 38) rfl ?_); refine goesL_ (some 20) rfl rfl Try.func38 (by kernel_rfl) rfl #[.int .i64 t283] rfl TA ?_; (with_reducible refine (spec_meCount.calls t283 t290 _ A5.out).mono ?_); rintro e w' ⟨rfl, ⟨nd, rfl⟩⟩; refine ⟨_, rfl, ?_⟩) | ((with_reducible refine gate_callee (f := 32) rfl ?_); refine goesL_ (some 21) rfl rfl Try.func32 (by kernel_rfl) rfl #[.pointer (some ⟨gb282, 0, none⟩), .int .i64 t290] rfl TA ?_; (with_reducible refine (spec_l1Cur_pick.calls gb282 l0 t284 t285 t290 t291 t292 t293 w _ ?side1 ?side2 A6.out).mono ?_); (case side1 => repeat (first | (with_reducible first | exact HI282.out | apply IsS51.alloc | apply IsS51.drewN | apply IsS51.drew | apply IsS51.set_1 | apply IsS51.set_2) | exact HI282.out)); (case side2 => repeat (first | (with_reducible first | exact HB.out | apply below_alloc | apply pw_below_drewN | apply below_drew1 | refine below_set ?_ (IsS51.ge HI282.out)) | exact HB.out)); rintro e w29 ⟨rfl, hi, hb, hk⟩; refine ⟨_, rfl, ?_⟩; have n0_ := Aside0.mk (hb); have n1_ := Aside0.mk (hi); clear HB; clear HI282; have HB := n0_; have HI282 := n1_; clear n0_ n1_; (try clear hb); (try clear hb2); (try clear hk); (try clear hi)) | ((with_reducible refine gate_callee (f := 36) rfl ?_); refine goesL_ (some 22) rfl rfl Try.func36 (by kernel_rfl) rfl #[.int .i64 t283, .int .i64 t291] rfl TA ?_; (with_reducible refine (spec_meAt.calls k t283 t291 t294 _ A7.out).mono ?_); rintro e w30 ⟨v295, rfl, ho0, hb⟩; refine ⟨_, rfl, ?_⟩; have n0_ := Aside0.mk (Kd.R_lower ho0 (below_size (by repeat (first | (with_reducible first | exact HB.out | apply below_alloc | apply pw_below_drewN | apply below_drew1 | refine below_set ?_ (IsS51.ge HI282.out)) | exact HB.out)))); have n1_ := Aside0.mk (IsS51.below (by repeat (first | (with_reducible first | exact HI282.out | apply IsS51.alloc | apply IsS51.drewN | apply IsS51.drew | apply IsS51.set_1 | apply IsS51.set_2) | exact HI282.out)) hb); have n2_ := Aside0.mk (below_step (by repeat (first | (with_reducible first | exact HB.out | apply below_alloc | apply pw_below_drewN | apply below_drew1 | refine below_set ?_ (IsS51.ge HI282.out)) | exact HB.out)) hb); clear HI282; clear HB; have HO296 := n0_; have HI282 := n1_; have HB := n2_; clear n0_ n1_ n2_; (try clear hb); (try clear hb2); (try clear hk); (try clear hi); (try clear ho0)) | ((with_reducible refine gate_callee (f := 32) rfl ?_); refine goesL_ (some 24) rfl rfl Try.func32 (by kernel_rfl) rfl #[.pointer (some ⟨gb282, 0, none⟩), .int .i64 8] rfl TA ?_; (with_reducible refine (spec_l1Cur_pick.calls gb282 l0 t292 t293 8 t297 t298 t299 w _ ?side1 ?side2 A8.out).mono ?_); (case side1 => repeat (first | (with_reducible first | exact HI282.out | apply IsS51.alloc | apply IsS51.drewN | apply IsS51.drew | apply IsS51.set_1 | apply IsS51.set_2) | exact HI282.out)); (case side2 => repeat (first | (with_reducible first | exact HB.out | apply below_alloc | apply pw_below_drewN | apply below_drew1 | refine below_set ?_ (IsS51.ge HI282.out)) | exact HB.out)); rintro e w31 ⟨rfl, hi, hb, hk⟩; refine ⟨_, rfl, ?_⟩; have n0_ := Aside0.mk (Kd.R_mono (Kd.R_keep (IsS51.apart (show IsS51 w _ gb282 l0 t292 t293 from by repeat (first | (with_reducible first | exact HI282.out | apply IsS51.alloc | apply IsS51.drewN | apply IsS51.drew | apply IsS51.set_1 | apply IsS51.set_2) | exact HI282.out)) (KR HO296) (by decide)) hk (fun _ h => h.2)) (fun _ h => h.1)); have n1_ := Aside0.mk (hb); have n2_ := Aside0.mk (hi); clear HO296; clear HB; clear HI282; have HO296 := n0_; have HB := n1_; have HI282 := n2_; clear n0_ n1_ n2_; (try clear hb); (try clear hb2); (try clear hk); (try clear hi)) | ((with_reducible refine gate_builtin (b := .append) (xs := #[.tmp 39, .tmp 40]) rfl ?_); at_builtin; refine Kd.R_append (Kd.int .i64) (w0 := w) w.heap.size rfl (.tmp 39) (.tmp 40) 26 3 (.int .i64 0) 8 rfl Try.underlying26 info3 rfl (by decide) (by omega) v295 t294 0 [.int .i64 0] (fun _ => True) (fun _ => False) rfl rfl ?aP (fun _ hk => hk.elim) ?aF ?aO ?aB ?aS ?aL ?_; (case aP => exact rfl); (case aB => exact (by repeat (first | (with_reducible first | exact HB.out | apply below_alloc | apply pw_below_drewN | apply below_drew1 | refine below_set ?_ (IsS51.ge HI282.out)) | exact HB.out))); (case aF => exact (fun _ _ => trivial)); (case aO => exact (KR HO296)); (case aS => exact (below_size (by repeat (first | (with_reducible first | exact HB.out | apply below_alloc | apply pw_below_drewN | apply below_drew1 | refine below_set ?_ (IsS51.ge HI282.out)) | exact HB.out)))); (case aL => have := LMc26.out; omega); intro v309 w32 ho hb hg hat; rw [← Ny308.out] at ho; have n0_ := Aside0.mk (IsS51.grown (by repeat (first | (with_reducible first | exact HI282.out | apply IsS51.alloc | apply IsS51.drewN | apply IsS51.drew | apply IsS51.set_1 | apply IsS51.set_2) | exact HI282.out)) hg (IsS51.own_ne HI282.out HO296.out (by decide))); have n1_ := Aside0.mk (hb); have n2_ := Aside0.mk (ho); clear HI282; clear HB; clear HO296; have HI282 := n0_; have HB := n1_; have HO310 := n2_; clear n0_ n1_ n2_; clear ho hb hg hat))
     go_ret2
     exact ⟨_, RE, KR HO310, by repeat (first | (with_reducible first | exact HB.out | apply below_alloc | apply pw_below_drewN | apply below_drew1 | refine below_set ?_ (IsS51.ge HI282.out)) | exact HB.out)⟩
    ·rw [if_neg c26] at H
     cases H
   ·rw [if_neg c25] at H
    have c25b0 : (t297 == 1) = false := beq_eq_false_iff_ne.mpr c25
    have c25b1 : (t297 != 1) = true := bne_iff_ne.mpr c25
    by_cases c33 : t297 = 2
    ·rw [if_pos c33] at H
     have c33b0 : (t297 == 2) = true := beq_iff_eq.mpr c33
     have c33b1 : (t297 != 2) = false := bne_eq_false_iff_eq.mpr c33
     clear c33
     by_cases c34 : 0 < (t294.length : Int)
     ·rw [if_pos c34] at H
      have c34b0 : decide (0 < (t294.length : Int)) = true := decide_eq_true c34
      have c34b1 : decide (0 < t294.length) = true := decide_eq_true (by omega)
      clear c34
      obtain ⟨y311, hy311⟩ : ∃ y_ : List Int, y_ = (t294.set (0 : Int).toNat 4611686018427387904) := ⟨_, rfl⟩
      replace H : (some (t283, y311)) = some (r1, r2) := HY H hy311
      have Ny311 := Aside0.mk hy311
      clear hy311
      simp only [Option.some.injEq, Prod.mk.injEq] at H
      obtain ⟨rfl, rfl⟩ := H
      go_enter Try.func18, Try.ntmps18
      go_wp2_with (first | ((with_reducible refine gate_dst (N := 9) rfl ?_); refine box_event ?hg (N := 9) ?hd (cs := #[.slice A0 l0.length c0, .int .i64 0, .int .u64 0]) (t := 51) ?hr ?_; (case hd => rfl); (case hg => rfl); (case hr => exact GS); intro gb282 hg w36 hbox hb; have n0_ := Aside0.mk (below_step BB hb); have n1_ := Aside0.mk ((by rw [hg]; exact (below_size BB) : w.heap.size ≤ gb282)); have n2_ := Aside0.mk ((by rw [hg]; exact (below_size BB) : w.heap.size ≤ gb282)); have n3_ := Aside0.mk ((show IsS51 w w36 gb282 l0 0 0 from ⟨A0, c0, hbox, (by rw [hg]; exact (below_size BB) : w.heap.size ≤ gb282), HR0.out⟩)); clear HB; have HB := n0_; have GW282 := n1_; have GE282 := n2_; have HI282 := n3_; clear n0_ n1_ n2_ n3_; clear hb hbox hg) | ((with_reducible refine gate_callee (f := 31) rfl ?_); refine goesL_ (some 11) rfl rfl Try.func31 (by kernel_rfl) rfl #[.pointer (some ⟨gb282, 0, none⟩), .int .i64 6] rfl TA ?_; (with_reducible refine (spec_l1Cur_side.calls gb282 l0 0 0 6 t283 t284 t285 w _ ?side1 ?side2 A2.out).mono ?_); (case side1 => repeat (first | (with_reducible first | exact HI282.out | apply IsS51.alloc | apply IsS51.drewN | apply IsS51.drew | apply IsS51.set_1 | apply IsS51.set_2) | exact HI282.out)); (case side2 => repeat (first | (with_reducible first | exact HB.out | apply below_alloc | apply pw_below_drewN | apply below_drew1 | refine below_set ?_ (IsS51.ge HI282.out)) | exact HB.out)); rintro e w37 ⟨rfl, hi, hb, hk⟩; refine ⟨_, rfl, ?_⟩; have n0_ := Aside0.mk (hb); have n1_ := Aside0.mk (hi); clear HB; clear HI282; have HB := n0_; have HI282 := n1_; clear n0_ n1_; (try clear hb); (try clear hb2); (try clear hk); (try clear hi)) | ((with_reducible refine gate_callee (f := 46) rfl ?_); refine goesL_ (some 13) rfl rfl Try.func46 (by kernel_rfl) rfl #[.int .i64 t283] rfl TA ?_; (with_reducible refine (spec_meSide.calls t283 true _ A3.out).mono ?_); rintro e w' ⟨rfl, ⟨nd, rfl⟩⟩; refine ⟨_, rfl, ?_⟩; (try (rw [drewN_self w37]; generalize hq_ : World.drewN w37 _ = w37; have n0_ : Aside0 (IsS51 w w37 gb282 l0 t284 t285) := ⟨by rw [← hq_]; exact (by repeat (first | (with_reducible first | exact HI282.out | apply IsS51.alloc | apply IsS51.drewN | apply IsS51.drew | apply IsS51.set_1 | apply IsS51.set_2) | exact HI282.out))⟩; have n1_ : Aside0 (Below w.heap.size w w37) := ⟨by rw [← hq_]; exact (by repeat (first | (with_reducible first | exact HB.out | apply below_alloc | apply pw_below_drewN | apply below_drew1 | refine below_set ?_ (IsS51.ge HI282.out)) | exact HB.out))⟩; clear HI282 HB hq_; have HI282 := n0_; have HB := n1_; clear n0_ n1_))) | ((with_reducible refine gate_callee (f := 38) rfl ?_); refine goesL_ (some 20) rfl rfl Try.func38 (by kernel_rfl) rfl #[.int .i64 t283] rfl TA ?_; (with_reducible refine (spec_meCount.calls t283 t290 _ A5.out).mono ?_); rintro e w' ⟨rfl, ⟨nd, rfl⟩⟩; refine ⟨_, rfl, ?_⟩; (try (rw [drewN_self w37]; generalize hq_ : World.drewN w37 _ = w37; have n0_ : Aside0 (IsS51 w w37 gb282 l0 t284 t285) := ⟨by rw [← hq_]; exact (by repeat (first | (with_reducible first | exact HI282.out | apply IsS51.alloc | apply IsS51.drewN | apply IsS51.drew | apply IsS51.set_1 | apply IsS51.set_2) | exact HI282.out))⟩; have n1_ : Aside0 (Below w.heap.size w w37) := ⟨by rw [← hq_]; exact (by repeat (first | (with_reducible first | exact HB.out | apply below_alloc | apply pw_below_drewN | apply below_drew1 | refine below_set ?_ (IsS51.ge HI282.out)) | exact HB.out))⟩; clear HI282 HB hq_; have HI282 := n0_; have HB := n1_; clear n0_ n1_))) | ((with_reducible refine gate_callee (f := 32) rfl ?_); refine goesL_ (some 21) rfl rfl Try.func32 (by kernel_rfl) rfl #[.pointer (some ⟨gb282, 0, none⟩), .int .i64 t290] rfl TA ?_; (with_reducible refine (spec_l1Cur_pick.calls gb282 l0 t284 t285 t290 t291 t292 t293 w _ ?side1 ?side2 A6.out).mono ?_); (case side1 => repeat (first | (with_reducible first | exact HI282.out | apply IsS51.alloc | apply IsS51.drewN | apply IsS51.drew | apply IsS51.set_1 | apply IsS51.set_2) | exact HI282.out)); (case side2 => repeat (first | (with_reducible first | exact HB.out | apply below_alloc | apply pw_below_drewN | apply below_drew1 | refine below_set ?_ (IsS51.ge HI282.out)) | exact HB.out)); rintro e w38 ⟨rfl, hi, hb, hk⟩; refine ⟨_, rfl, ?_⟩; have n0_ := Aside0.mk (hb); have n1_ := Aside0.mk (hi); clear HB; clear HI282; have HB := n0_; have HI282 := n1_; clear n0_ n1_; (try clear hb); (try clear hb2); (try clear hk); (try clear hi)) | ((with_reducible refine gate_callee (f := 36) rfl ?_); refine goesL_ (some 22) rfl rfl Try.func36 (by kernel_rfl) rfl #[.int .i64 t283, .int .i64 t291] rfl TA ?_; (with_reducible refine (spec_meAt.calls k t283 t291 t294 _ A7.out).mono ?_); rintro e w39 ⟨v295, rfl, ho0, hb⟩; refine ⟨_, rfl, ?_⟩; have n0_ := Aside0.mk (Kd.R_lower ho0 (below_size (by repeat (first | (with_reducible first | exact HB.out | apply below_alloc | apply pw_below_drewN | apply below_drew1 | refine below_set ?_ (IsS51.ge HI282.out)) | exact HB.out)))); have n1_ := Aside0.mk (IsS51.below (by repeat (first | (with_reducible first | exact HI282.out | apply IsS51.alloc | apply IsS51.drewN | apply IsS51.drew | apply IsS51.set_1 | apply IsS51.set_2) | exact HI282.out)) hb); have n2_ := Aside0.mk (below_step (by repeat (first | (with_reducible first | exact HB.out | apply below_alloc | apply pw_below_drewN | apply below_drew1 | refine below_set ?_ (IsS51.ge HI282.out)) | exact HB.out)) hb); clear HI282; clear HB; have HO296 := n0_; have HI282 := n1_; have HB := n2_; clear n0_ n1_ n2_; (try clear hb); (try clear hb2); (try clear hk); (try clear hi); (try clear ho0)) | ((with_reducible refine gate_callee (f := 32) rfl ?_); refine goesL_ (some 24) rfl rfl Try.func32 (by kernel_rfl) rfl #[.pointer (some ⟨gb282, 0, none⟩), .int .i64 8] rfl TA ?_; (with_reducible refine (spec_l1Cur_pick.calls gb282 l0 t292 t293 8 t297 t298 t299 w _ ?side1 ?side2 A8.out).mono ?_); (case side1 => repeat (first | (with_reducible first | exact HI282.out | apply IsS51.alloc | apply IsS51.drewN | apply IsS51.drew | apply IsS51.set_1 | apply IsS51.set_2) | exact HI282.out)); (case side2 => repeat (first | (with_reducible first | exact HB.out | apply below_alloc | apply pw_below_drewN | apply below_drew1 | refine below_set ?_ (IsS51.ge HI282.out)) | exact HB.out)); rintro e w40 ⟨rfl, hi, hb, hk⟩; refine ⟨_, rfl, ?_⟩; have n0_ := Aside0.mk (Kd.R_mono (Kd.R_keep (IsS51.apart (show IsS51 w _ gb282 l0 t292 t293 from by repeat (first | (with_reducible first | exact HI282.out | apply IsS51.alloc | apply IsS51.drewN | apply IsS51.drew | apply IsS51.set_1 | apply IsS51.set_2) | exact HI282.out)) (KR HO296) (by decide)) hk (fun _ h => h.2)) (fun _ h => h.1)); have n1_ := Aside0.mk (hb); have n2_ := Aside0.mk (hi); clear HO296; clear HB; clear HI282; have HO296 := n0_; have HB := n1_; have HI282 := n2_; clear n0_ n1_ n2_; (try clear hb); (try clear hb2); (try clear hk); (try clear hi); have p35 : 0 ≤ (0 : Int) := (by omega); have q35 : (0 : Int) < ((t294.length : Int) : Int) := of_decide_eq_true AS; have qi35 : (0 < t294.length) = True := eq_true (by omega); obtain ⟨go35, co35, eo35, gb35, gl35, cl35, HG35⟩ := Kd.R_form HO296.out (by omega); (first | cases eo35 | (injection eo35 with ea_ en_ ec_; (first | subst ea_ | (injection ea_ with ea_; subst ea_)); subst ec_; clear en_)); have GB35 := Aside0.mk gb35; have GG35 := Aside0.mk HG35; clear gb35 gl35 HG35; obtain ⟨hx35_0, hf35_0⟩ := Kd.R_celln 0 HO296.out (0 : Int) p35 q35; (try rw [show ((0 : Int)).toNat = 0 from rfl] at hx35_0); (try simp only [Nat.reduceMul, Nat.zero_mul, Nat.zero_add, Nat.reduceAdd] at hx35_0); (try rw [show ((0 : Int)).toNat = 0 from rfl] at hf35_0); (try simp only [Nat.reduceMul, Nat.zero_mul, Nat.zero_add, Nat.reduceAdd] at hf35_0); replace p35 := eq_true p35; replace q35 := eq_true q35; obtain ⟨hy41_, hz41_⟩ := Kd.R_celln 0 HO296.out (0 : Int) (by omega) (of_decide_eq_true AS); (try simp only [Int.reduceToNat, Int.toNat_zero, Int.toNat_ofNat, Nat.reduceMul, Nat.zero_mul, Nat.zero_add] at hy41_ hz41_); (try rw [show ((0 : Int)).toNat = 0 from rfl] at hy41_); (try rw [show ((0 : Int)).toNat = 0 from rfl] at hz41_); have HP41 := Kd.R_putg HO296.out (0 : Int) 4611686018427387904) | ((with_reducible refine gate_store (t := 3) (p := 45) rfl ?_); refine store_event (t := 3) (p := 45) (v := ?vo_w42) (w1 := (w40.setCell ⟨go35, (0 : Int).toNat, none⟩ (.int .i64 4611686018427387904))) ?hg ?ho ?hn ?hr ?_; (case ho => rfl); (case hg => rfl); (case hn => rfl); (case hr => exact GS); intro w42 hw; have hg : w40.grownBy w42 (some go35) := (by rw [hw]; exact HP41.2); have hp_ : Kd.R (Kd.int .i64) 3 w42 w.heap.size (fun _ => True) (.slice (some ⟨go35, 0, none⟩) t294.length co35) y311 := (by rw [hw, Ny311.out]; exact HP41.1); clear HP41; have n0_ := Aside0.mk (IsS51.grown (by repeat (first | (with_reducible first | exact HI282.out | apply IsS51.alloc | apply IsS51.drewN | apply IsS51.drew | apply IsS51.set_1 | apply IsS51.set_2) | exact HI282.out)) hg (IsS51.own_ne HI282.out HO296.out (by decide))); have n1_ := Aside0.mk (hp_); have n2_ := Aside0.mk ((by rw [hw]; exact below_set (HB.out) GB35.out : Below w.heap.size w w42)); clear HI282; clear HO296; clear HB; have HI282 := n0_; have HO296 := n1_; have HB := n2_; clear n0_ n1_ n2_; clear hg hw hp_))
      go_ret2
      exact ⟨_, RE, KR HO296, by repeat (first | (with_reducible first | exact HB.out | apply below_alloc | apply pw_below_drewN | apply below_drew1 | refine below_set ?_ (IsS51.ge HI282.out)) | exact HB.out)⟩
     ·rw [if_neg c34] at H
      cases H
    ·rw [if_neg c33] at H
     have c33b0 : (t297 == 2) = false := beq_eq_false_iff_ne.mpr c33
     have c33b1 : (t297 != 2) = true := bne_iff_ne.mpr c33
     simp only [Option.some.injEq, Prod.mk.injEq] at H
     obtain ⟨rfl, rfl⟩ := H
     go_enter Try.func18, Try.ntmps18
     go_wp2_with (first | ((with_reducible refine gate_dst (N := 9) rfl ?_); refine box_event ?hg (N := 9) ?hd (cs := #[.slice A0 l0.length c0, .int .i64 0, .int .u64 0]) (t := 51) ?hr ?_; (case hd => rfl); (case hg => rfl); (case hr => exact GS); intro gb282 hg w43 hbox hb; have n0_ := Aside0.mk (below_step BB hb); have n1_ := Aside0.mk ((by rw [hg]; exact (below_size BB) : w.heap.size ≤ gb282)); have n2_ := Aside0.mk ((by rw [hg]; exact (below_size BB) : w.heap.size ≤ gb282)); have n3_ := Aside0.mk ((show IsS51 w w43 gb282 l0 0 0 from ⟨A0, c0, hbox, (by rw [hg]; exact (below_size BB) : w.heap.size ≤ gb282), HR0.out⟩)); clear HB; have HB := n0_; have GW282 := n1_; have GE282 := n2_; have HI282 := n3_; clear n0_ n1_ n2_ n3_; clear hb hbox hg) | ((with_reducible refine gate_callee (f := 31) rfl ?_); refine goesL_ (some 11) rfl rfl Try.func31 (by kernel_rfl) rfl #[.pointer (some ⟨gb282, 0, none⟩), .int .i64 6] rfl TA ?_; (with_reducible refine (spec_l1Cur_side.calls gb282 l0 0 0 6 t283 t284 t285 w _ ?side1 ?side2 A2.out).mono ?_); (case side1 => repeat (first | (with_reducible first | exact HI282.out | apply IsS51.alloc | apply IsS51.drewN | apply IsS51.drew | apply IsS51.set_1 | apply IsS51.set_2) | exact HI282.out)); (case side2 => repeat (first | (with_reducible first | exact HB.out | apply below_alloc | apply pw_below_drewN | apply below_drew1 | refine below_set ?_ (IsS51.ge HI282.out)) | exact HB.out)); rintro e w44 ⟨rfl, hi, hb, hk⟩; refine ⟨_, rfl, ?_⟩; have n0_ := Aside0.mk (hb); have n1_ := Aside0.mk (hi); clear HB; clear HI282; have HB := n0_; have HI282 := n1_; clear n0_ n1_; (try clear hb); (try clear hb2); (try clear hk); (try clear hi)) | ((with_reducible refine gate_callee (f := 46) rfl ?_); refine goesL_ (some 13) rfl rfl Try.func46 (by kernel_rfl) rfl #[.int .i64 t283] rfl TA ?_; (with_reducible refine (spec_meSide.calls t283 true _ A3.out).mono ?_); rintro e w' ⟨rfl, ⟨nd, rfl⟩⟩; refine ⟨_, rfl, ?_⟩) | ((with_reducible refine gate_callee (f := 38) rfl ?_); refine goesL_ (some 20) rfl rfl Try.func38 (by kernel_rfl) rfl #[.int .i64 t283] rfl TA ?_; (with_reducible refine (spec_meCount.calls t283 t290 _ A5.out).mono ?_); rintro e w' ⟨rfl, ⟨nd, rfl⟩⟩; refine ⟨_, rfl, ?_⟩) | ((with_reducible refine gate_callee (f := 32) rfl ?_); refine goesL_ (some 21) rfl rfl Try.func32 (by kernel_rfl) rfl #[.pointer (some ⟨gb282, 0, none⟩), .int .i64 t290] rfl TA ?_; (with_reducible refine (spec_l1Cur_pick.calls gb282 l0 t284 t285 t290 t291 t292 t293 w _ ?side1 ?side2 A6.out).mono ?_); (case side1 => repeat (first | (with_reducible first | exact HI282.out | apply IsS51.alloc | apply IsS51.drewN | apply IsS51.drew | apply IsS51.set_1 | apply IsS51.set_2) | exact HI282.out)); (case side2 => repeat (first | (with_reducible first | exact HB.out | apply below_alloc | apply pw_below_drewN | apply below_drew1 | refine below_set ?_ (IsS51.ge HI282.out)) | exact HB.out)); rintro e w45 ⟨rfl, hi, hb, hk⟩; refine ⟨_, rfl, ?_⟩; have n0_ := Aside0.mk (hb); have n1_ := Aside0.mk (hi); clear HB; clear HI282; have HB := n0_; have HI282 := n1_; clear n0_ n1_; (try clear hb); (try clear hb2); (try clear hk); (try clear hi)) | ((with_reducible refine gate_callee (f := 36) rfl ?_); refine goesL_ (some 22) rfl rfl Try.func36 (by kernel_rfl) rfl #[.int .i64 t283, .int .i64 t291] rfl TA ?_; (with_reducible refine (spec_meAt.calls k t283 t291 t294 _ A7.out).mono ?_); rintro e w46 ⟨v295, rfl, ho0, hb⟩; refine ⟨_, rfl, ?_⟩; have n0_ := Aside0.mk (Kd.R_lower ho0 (below_size (by repeat (first | (with_reducible first | exact HB.out | apply below_alloc | apply pw_below_drewN | apply below_drew1 | refine below_set ?_ (IsS51.ge HI282.out)) | exact HB.out)))); have n1_ := Aside0.mk (IsS51.below (by repeat (first | (with_reducible first | exact HI282.out | apply IsS51.alloc | apply IsS51.drewN | apply IsS51.drew | apply IsS51.set_1 | apply IsS51.set_2) | exact HI282.out)) hb); have n2_ := Aside0.mk (below_step (by repeat (first | (with_reducible first | exact HB.out | apply below_alloc | apply pw_below_drewN | apply below_drew1 | refine below_set ?_ (IsS51.ge HI282.out)) | exact HB.out)) hb); clear HI282; clear HB; have HO296 := n0_; have HI282 := n1_; have HB := n2_; clear n0_ n1_ n2_; (try clear hb); (try clear hb2); (try clear hk); (try clear hi); (try clear ho0)) | ((with_reducible refine gate_callee (f := 32) rfl ?_); refine goesL_ (some 24) rfl rfl Try.func32 (by kernel_rfl) rfl #[.pointer (some ⟨gb282, 0, none⟩), .int .i64 8] rfl TA ?_; (with_reducible refine (spec_l1Cur_pick.calls gb282 l0 t292 t293 8 t297 t298 t299 w _ ?side1 ?side2 A8.out).mono ?_); (case side1 => repeat (first | (with_reducible first | exact HI282.out | apply IsS51.alloc | apply IsS51.drewN | apply IsS51.drew | apply IsS51.set_1 | apply IsS51.set_2) | exact HI282.out)); (case side2 => repeat (first | (with_reducible first | exact HB.out | apply below_alloc | apply pw_below_drewN | apply below_drew1 | refine below_set ?_ (IsS51.ge HI282.out)) | exact HB.out)); rintro e w47 ⟨rfl, hi, hb, hk⟩; refine ⟨_, rfl, ?_⟩; have n0_ := Aside0.mk (Kd.R_mono (Kd.R_keep (IsS51.apart (show IsS51 w _ gb282 l0 t292 t293 from by repeat (first | (with_reducible first | exact HI282.out | apply IsS51.alloc | apply IsS51.drewN | apply IsS51.drew | apply IsS51.set_1 | apply IsS51.set_2) | exact HI282.out)) (KR HO296) (by decide)) hk (fun _ h => h.2)) (fun _ h => h.1)); have n1_ := Aside0.mk (hb); have n2_ := Aside0.mk (hi); clear HO296; clear HB; clear HI282; have HO296 := n0_; have HB := n1_; have HI282 := n2_; clear n0_ n1_ n2_; (try clear hb); (try clear hb2); (try clear hk); (try clear hi)))
     go_ret2
     exact ⟨_, RE, KR HO296, by repeat (first | (with_reducible first | exact HB.out | apply below_alloc | apply pw_below_drewN | apply below_drew1 | refine below_set ?_ (IsS51.ge HI282.out)) | exact HB.out)⟩
 ·replace c4 := Bool.eq_false_iff.mpr c4
  subst c4
  replace H := IN H
  obtain ⟨y287, hy287⟩ : ∃ y_ : List Int, y_ = (([0, 0, 0] : List Int)) := ⟨_, rfl⟩
  replace H : (some (t283, y287)) = some (r1, r2) := HY H hy287
  have Ny287 := Aside0.mk hy287
  clear hy287
  simp only [Option.some.injEq, Prod.mk.injEq] at H
  obtain ⟨rfl, rfl⟩ := H
  go_enter Try.func18, Try.ntmps18
  go_wp2_with (first | ((with_reducible refine gate_dst (N := 9) rfl ?_); refine box_event ?hg (N := 9) ?hd (cs := #[.slice A0 l0.length c0, .int .i64 0, .int .u64 0]) (t := 51) ?hr ?_; (case hd => rfl); (case hg => rfl); (case hr => exact GS); intro gb282 hg w48 hbox hb; have n0_ := Aside0.mk (below_step BB hb); have n1_ := Aside0.mk ((by rw [hg]; exact (below_size BB) : w.heap.size ≤ gb282)); have n2_ := Aside0.mk ((by rw [hg]; exact (below_size BB) : w.heap.size ≤ gb282)); have n3_ := Aside0.mk ((show IsS51 w w48 gb282 l0 0 0 from ⟨A0, c0, hbox, (by rw [hg]; exact (below_size BB) : w.heap.size ≤ gb282), HR0.out⟩)); clear HB; have HB := n0_; have GW282 := n1_; have GE282 := n2_; have HI282 := n3_; clear n0_ n1_ n2_ n3_; clear hb hbox hg) | ((with_reducible refine gate_callee (f := 31) rfl ?_); refine goesL_ (some 11) rfl rfl Try.func31 (by kernel_rfl) rfl #[.pointer (some ⟨gb282, 0, none⟩), .int .i64 6] rfl TA ?_; (with_reducible refine (spec_l1Cur_side.calls gb282 l0 0 0 6 t283 t284 t285 w _ ?side1 ?side2 A2.out).mono ?_); (case side1 => repeat (first | (with_reducible first | exact HI282.out | apply IsS51.alloc | apply IsS51.drewN | apply IsS51.drew | apply IsS51.set_1 | apply IsS51.set_2) | exact HI282.out)); (case side2 => repeat (first | (with_reducible first | exact HB.out | apply below_alloc | apply pw_below_drewN | apply below_drew1 | refine below_set ?_ (IsS51.ge HI282.out)) | exact HB.out)); rintro e w49 ⟨rfl, hi, hb, hk⟩; refine ⟨_, rfl, ?_⟩; have n0_ := Aside0.mk (hb); have n1_ := Aside0.mk (hi); clear HB; clear HI282; have HB := n0_; have HI282 := n1_; clear n0_ n1_; (try clear hb); (try clear hb2); (try clear hk); (try clear hi)) | ((with_reducible refine gate_callee (f := 46) rfl ?_); refine goesL_ (some 13) rfl rfl Try.func46 (by kernel_rfl) rfl #[.int .i64 t283] rfl TA ?_; (with_reducible refine (spec_meSide.calls t283 false _ A3.out).mono ?_); rintro e w' ⟨rfl, ⟨nd, rfl⟩⟩; refine ⟨_, rfl, ?_⟩) | ((with_reducible refine gate_dst (N := 16) rfl ?_); refine Kd.R_lit (Kd.int .i64) _ 3 ?hg (N := 16) ?hd (xs := ([0, 0, 0] : List Int)) (inner := [.int .i64 0, .int .i64 0, .int .i64 0]) (ok := fun _ => True) (okp := fun _ => True) ?hr ?hp (fun _ hk => hk) trivial (Below.refl _ _) (Nat.le_refl _) (by simp) ?_; (case hd => rfl); (case hg => rfl); (case hr => exact GS); (case hp => exact (Reps.one (show Kd.M (Kd.int .i64) _ _ _ 0 [.int .i64 0] from rfl) (Reps.one (show Kd.M (Kd.int .i64) _ _ _ 0 [.int .i64 0] from rfl) (Reps.one (show Kd.M (Kd.int .i64) _ _ _ 0 [.int .i64 0] from rfl) (Reps.none _ _))))); intro v288 w50 ho51 hb hg_ hnew_; clear hg_ hnew_; (first | rw [← Ny287.out] at ho51 | (simp only [Int.reduceToNat] at ho51; rw [← Ny287.out] at ho51)); have n0_ := Aside0.mk (Kd.R_lower ho51 (below_size (by repeat (first | (with_reducible first | exact HB.out | apply below_alloc | apply pw_below_drewN | apply below_drew1 | refine below_set ?_ (IsS51.ge HI282.out)) | exact HB.out)))); have n1_ := Aside0.mk (IsS51.below (by repeat (first | (with_reducible first | exact HI282.out | apply IsS51.alloc | apply IsS51.drewN | apply IsS51.drew | apply IsS51.set_1 | apply IsS51.set_2) | exact HI282.out)) hb); have n2_ := Aside0.mk (below_step (by repeat (first | (with_reducible first | exact HB.out | apply below_alloc | apply pw_below_drewN | apply below_drew1 | refine below_set ?_ (IsS51.ge HI282.out)) | exact HB.out)) hb); clear HI282; clear HB; have HO289 := n0_; have HI282 := n1_; have HB := n2_; clear n0_ n1_ n2_; clear hb ho51))
  go_ret2
  exact ⟨_, RE, KR HO289, by repeat (first | (with_reducible first | exact HB.out | apply below_alloc | apply pw_below_drewN | apply below_drew1 | refine below_set ?_ (IsS51.ge HI282.out)) | exact HB.out)⟩

/-! ### spec_l1All: function 47 -/
def spec_l1All.l0 : Nat → Int → Int → List Int → Int → Int → Option (Bool)
 | 0, _, _, _, _, _ => none
 | k + 1, x1, x2, x9, x10, x11 => if x11 < x10 then (if 0 ≤ x11 then (if x11 < (x9.length : Int) then ((spec_l1In.f (rd x9 x11) x1 x2).bind fun t313 => (if t313 = true then (spec_l1All.l0 k x1 x2 x9 x10 (wrap64 (x11 + 1))) else (some false))) else (none)) else (none)) else (some true)
def spec_l1All.f (k : Nat) (l0 : List Int) (a1 : Int) (a2 : Int) : Option (Bool) := spec_l1All.l0 k a1 a2 l0 (l0.length : Int) 0
theorem spec_l1All.mono_l : ∀ k, (∀ y0 y1 y2 y3 y4, LeO (spec_l1All.l0 k y0 y1 y2 y3 y4) (spec_l1All.l0 (k + 1) y0 y1 y2 y3 y4))
 | 0 => fun _ _ _ _ _ r h => by simp [spec_l1All.l0] at h
 | k + 1 => by
  have ih0 := spec_l1All.mono_l k
  ·intro y0 y1 y2 y3 y4
   unfold spec_l1All.l0
   repeat' first
   | with_reducible first | exact ih0 _ _ _ _ _ | exact LeO.refl _ | exact LeO.none _ | refine LeO.ite ?_ ?_ | refine LeO.bind ?_ (fun _ => ?_)
   | exact LeO.none _ | refine LeO.ite ?_ ?_ | refine LeO.bind ?_ (fun _ => ?_)
theorem spec_l1All.mono : ∀ a0 a1 a2 k, LeO (spec_l1All.f k a0 a1 a2) (spec_l1All.f (k + 1) a0 a1 a2) := by
 intro a0 a1 a2 k
 have ih0 := spec_l1All.mono_l k
 unfold spec_l1All.f
 repeat' first
   | with_reducible first | exact ih0 _ _ _ _ _ | exact LeO.refl _ | exact LeO.none _ | refine LeO.ite ?_ ?_ | refine LeO.bind ?_ (fun _ => ?_)
   | exact LeO.none _ | refine LeO.ite ?_ ?_ | refine LeO.bind ?_ (fun _ => ?_)
theorem spec_l1All.calls (k : Nat) (A0 : Option Addr) (c0 : Nat) (l0 : List Int) (a1 : Int) (a2 : Int) (r : Bool) (w : World) (hr0 : Kd.C (Kd.int .i64) w A0 l0.length l0) (hc0 : l0.length ≤ c0) (h : spec_l1All.f k l0 a1 a2 = some r) :
  Calls Try.prog 47 #[.slice A0 l0.length c0, .int .i64 a1, .int .i64 a2] w fun e w' => e = .returned (.bool r) ∧ Drawn0 w w' := by
 have HR0 := Aside0.mk hr0
 have HC0 := Aside0.mk hc0
 clear hr0 hc0
 have H : (spec_l1All.l0 k a1 a2 l0 (l0.length : Int) 0) = some r := h
 clear h
 have H' := Aside0.mk H
 clear H
 go_enter Try.func47, Try.ntmps47
 go_wp2
 go_loopg [11] k (fun kq v11 w' => ∃ (x11_1 : Int), v11 = .int .i64 x11_1 ∧ Aside0 (spec_l1All.l0 kq a1 a2 l0 (l0.length : Int) x11_1 = some r) ∧ Aside0 (kq ≤ k) ∧ Drawn0 w w')
 case atStart => exact ⟨(0), RF, H', ⟨Nat.le_refl _⟩, by repeat (first | exact Drawn0.refl _ | apply Drawn0.step)⟩
 case round =>
  clear H'
  try clear p2
  obtain ⟨x11_1, rfl, HA, HK1, ⟨m1, rfl⟩⟩ := hrel
  cases gk with
  | zero => exact absurd HA.out (by simp [spec_l1All.l0])
  | succ k1 =>
   have H := HA.out
   clear HA
   simp only [spec_l1All.l0] at H
   by_cases c4 : x11_1 < (l0.length : Int)
   ·rw [if_pos c4] at H
    have c4b0 : decide (x11_1 < (l0.length : Int)) = true := decide_eq_true c4
    clear c4
    by_cases c5 : 0 ≤ x11_1
    ·rw [if_pos c5] at H
     have c5b0 : decide (0 ≤ x11_1) = true := decide_eq_true c5
     clear c5
     by_cases c6 : x11_1 < (l0.length : Int)
     ·rw [if_pos c6] at H
      have c6b0 : decide (x11_1 < (l0.length : Int)) = true := decide_eq_true c6
      clear c6
      replace H := EA H
      obtain ⟨t313, A7, H⟩ := H
      by_cases c8 : t313 = true
      ·subst c8
       replace H := IP H
       have H' := Aside0.mk H
       clear H
       have p312 : 0 ≤ (x11_1 : Int) := of_decide_eq_true AS
       have q312 : x11_1 < (l0.length : Int) := of_decide_eq_true AS
       obtain ⟨ad312, e312, hx312_0⟩ := Kd.at_int HR0.out x11_1 p312 q312
       cases e312
       replace p312 := eq_true p312
       replace q312 := eq_true q312
       go_wp2_with (first | ((with_reducible refine gate_callee (f := 55) rfl ?_); refine goesL_ (some 18) rfl rfl Try.func55 (by kernel_rfl) rfl #[.int .i64 (rd l0 x11_1), .int .i64 a1, .int .i64 a2] rfl TA ?_; (with_reducible refine (spec_l1In.calls (rd l0 x11_1) a1 a2 true _ A7.out).mono ?_); rintro e w' ⟨rfl, ⟨nd, rfl⟩⟩; refine ⟨_, rfl, ?_⟩))
       go_roundg k1
       case measure => have := HK1.out; omega
       case rel => exact ⟨(wrap64 (x11_1 + 1)), RF, H', ⟨by have := HK1.out; omega⟩, by repeat (first | exact Drawn0.refl _ | apply Drawn0.step)⟩
      ·replace c8 := Bool.eq_false_iff.mpr c8
       subst c8
       replace H := IN H
       obtain rfl := Option.some.inj H
       have p312 : 0 ≤ (x11_1 : Int) := of_decide_eq_true AS
       have q312 : x11_1 < (l0.length : Int) := of_decide_eq_true AS
       obtain ⟨ad312, e312, hx312_0⟩ := Kd.at_int HR0.out x11_1 p312 q312
       cases e312
       replace p312 := eq_true p312
       replace q312 := eq_true q312
       go_wp2_with (first | ((with_reducible refine gate_callee (f := 55) rfl ?_); refine goesL_ (some 18) rfl rfl Try.func55 (by kernel_rfl) rfl #[.int .i64 (rd l0 x11_1), .int .i64 a1, .int .i64 a2] rfl TA ?_; (with_reducible refine (spec_l1In.calls (rd l0 x11_1) a1 a2 false _ A7.out).mono ?_); rintro e w' ⟨rfl, ⟨nd, rfl⟩⟩; refine ⟨_, rfl, ?_⟩))
       go_ret
       exact ⟨RF, DR⟩
     ·rw [if_neg c6] at H
      cases H
    ·rw [if_neg c5] at H
     cases H
   ·rw [if_neg c4] at H
    have c4b0 : decide (x11_1 < (l0.length : Int)) = false := decide_eq_false c4
    clear c4
    obtain rfl := Option.some.inj H
    go_wp2
    go_ret
    exact ⟨RF, DR⟩

end Go.Proofs.Ythkdkgbcokpbaab.PFnTrianglesAreCut
