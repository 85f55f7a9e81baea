-- Written by a program of this session (wip/tools/pp.sh) out of the translation; Lean checks it.
import Derived.Test.YtgpplbaloajgdabPFnExactClosedRoomsx0
import Derived.Test.YtgpplbaloajgdabPFnExactClosedRoomsx8
import Derived.Test.YtgpplbaloajgdabPFnExactClosedRoomsx9
import Derived.Test.YtgpplbaloajgdabPFnExactClosedRoomsx10
import Derived.Test.YtgpplbaloajgdabPFnExactClosedRoomsx11
import Derived.Test.YtgpplbaloajgdabPFnExactClosedRoomsx12
namespace Go.Proofs.Ytgpplbaloajgdab.PFnExactClosedRooms
open Go.RowKit Go.Proofs.YtgpplbaloajgdabOwn Go.Proofs.YtgpplbaloajgdabW.PrintWords Go.Proofs.YtgpplbaloajgdabW.PrintLast Go.Proofs.YtgpplbaloajgdabW.PrintMore
attribute [local go_sem] max2_int min2_int max_two min_two max_three min_three max_four min_four   -- for this text's walks alone
set_option linter.unusedVariables false
set_option linter.unusedSimpArgs false

def impl_house_leave.f (k : Nat) (a0_0 : Int) (l0_1 : List Int) (l0_2 : List (List Int)) (l0_3 : List Int) (a1 : Int) : Option (List Int × Bool) := (impl_house_doors.f k a0_0 l0_1 l0_2 l0_3 a1).bind fun t460 => (if 0 < (t460.length : Int) then ((impl_house_beyond.f k a0_0 l0_1 l0_2 l0_3 a1 (rd_L1 t460 0)).bind fun t464 => ((impl_house_walk.f k a0_0 l0_1 l0_2 l0_3 t464 (rd_L1 t460 0)).bind fun bt465 => (some (bt465.1, bt465.2.2)))) else (none))
theorem impl_house_leave.mono : ∀ a0 a1 a2 a3 a4 k, LeO (impl_house_leave.f k a0 a1 a2 a3 a4) (impl_house_leave.f (k + 1) a0 a1 a2 a3 a4) := by
  intro a0 a1 a2 a3 a4 k
  unfold impl_house_leave.f
  repeat' first
      | (with_reducible exact impl_house_beyond.mono _ _ _ _ _ _ _)
      | (with_reducible exact impl_house_doors.mono _ _ _ _ _ _)
      | (with_reducible exact impl_house_walk.mono _ _ _ _ _ _ _)
      | (with_reducible exact LeO.refl _)
      | (with_reducible exact LeO.none _)
      | (with_reducible refine LeO.ite ?_ ?_)
      | (with_reducible refine LeO.bind ?_ (fun _ => ?_))
      | exact impl_house_beyond.mono _ _ _ _ _ _ _
      | exact impl_house_doors.mono _ _ _ _ _ _
      | exact impl_house_walk.mono _ _ _ _ _ _ _
      | exact LeO.none _
      | refine LeO.ite ?_ ?_
      | refine LeO.bind ?_ (fun _ => ?_)
def impl_house_leave.T2 : Bool × List (List Nat × List Nat) := (true, [([], []), ([], []), ([], []), ([], []), ([1, 2, 3], [1, 2, 3]), ([], []), ([0, 4, 5, 4], [0, 4, 5]), ([6], [6]), ([7], [7]), ([7], [7]), ([7], [7]), ([8, 6, 0, 1, 2, 3, 4, 5, 6, 7, 8], [8]), ([9, 11, 0, 1, 2, 3, 4, 5, 6, 7, 8, 9, 11], [9]), ([10, 12, 0, 1, 2, 3, 4, 5, 6, 7, 8, 9, 10, 11, 12], [10])])
def impl_house_leave.B2 : List Nat := [0, 0, 0, 0, 14, 0, 63, 127, 255, 255, 255, 511, 3071, 8191]
theorem impl_house_leave.tab2 : rtab .any (opsOf Try.f35 2) = impl_house_leave.T2 := by kernel_rfl
theorem impl_house_leave.bits2 : waitsOk impl_house_leave.T2.2 impl_house_leave.B2 = true := by kernel_rfl
set_option maxHeartbeats 8000000 in
set_option maxRecDepth 100000 in
theorem impl_house_leave.calls (k : Nat) (a0_0 : Int) (A0_1 : Option Addr) (c0_1 : Nat) (l0_1 : List Int) (A0_2 : Option Addr) (c0_2 : Nat) (l0_2 : List (List Int)) (A0_3 : Option Addr) (c0_3 : Nat) (l0_3 : List Int) (a1 : Int) (r1 : List Int) (r2 : Bool) (w : World) (hr0_1 : Kd.C (Kd.int .i64) w A0_1 l0_1.length l0_1) (hc0_1 : l0_1.length ≤ c0_1) (hr0_2 : Kd.C (Kd.slice 3 (Kd.int .i64)) w A0_2 l0_2.length l0_2) (hc0_2 : l0_2.length ≤ c0_2) (hr0_3 : Kd.C (Kd.int .i64) w A0_3 l0_3.length l0_3) (hc0_3 : l0_3.length ≤ c0_3) (h : impl_house_leave.f k a0_0 l0_1 l0_2 l0_3 a1 = some (r1, r2)) :
    Calls Try.prog 35 #[.agg #[.int .i64 a0_0, .slice A0_1 l0_1.length c0_1, .slice A0_2 l0_2.length c0_2, .slice A0_3 l0_3.length c0_3], .int .i64 a1] w fun e w' => ∃ v0_ : Value, e = .returned (.tuple #[v0_, .bool r2]) ∧ Kd.R (Kd.int .i64) 3 w' w.heap.size (fun _ => True) v0_ r1 ∧ Below w.heap.size w w' := by
  have hu46 := Try.underlying46; have HR0_1 := Aside0.mk hr0_1; have HC0_1 := Aside0.mk hc0_1; clear hr0_1 hc0_1; have HR0_2 := Aside0.mk hr0_2; have HC0_2 := Aside0.mk hc0_2; clear hr0_2 hc0_2; have HR0_3 := Aside0.mk hr0_3; have HC0_3 := Aside0.mk hc0_3; clear hr0_3 hc0_3; have HB := Aside0.mk (Below.refl w.heap.size w); have H : ((impl_house_doors.f k a0_0 l0_1 l0_2 l0_3 a1).bind fun t460 => (if 0 < (t460.length : Int) then ((impl_house_beyond.f k a0_0 l0_1 l0_2 l0_3 a1 (rd_L1 t460 0)).bind fun t464 => ((impl_house_walk.f k a0_0 l0_1 l0_2 l0_3 t464 (rd_L1 t460 0)).bind fun bt465 => (some (bt465.1, bt465.2.2)))) else (none))) = some (r1, r2) := h; clear h; replace H := Option.bind_eq_some_iff.mp H; obtain ⟨t460, A30, H⟩ := H; replace H : (if 0 < (t460.length : Int) then ((impl_house_beyond.f k a0_0 l0_1 l0_2 l0_3 a1 (rd_L1 t460 0)).bind fun t464 => ((impl_house_walk.f k a0_0 l0_1 l0_2 l0_3 t464 (rd_L1 t460 0)).bind fun bt465 => (some (bt465.1, bt465.2.2)))) else (none)) = some (r1, r2) := H; have A3 := Aside0.mk A30; clear A30
  by_cases c4 : 0 < (t460.length : Int)
  · rw [if_pos c4] at H
    have c4b0 : decide (0 < (t460.length : Int)) = true := decide_eq_true c4; have c4b1 : decide (0 < t460.length) = true := decide_eq_true (by omega); clear c4; replace H := Option.bind_eq_some_iff.mp H; obtain ⟨t464, A50, H⟩ := H; replace H : ((impl_house_walk.f k a0_0 l0_1 l0_2 l0_3 t464 (rd_L1 t460 0)).bind fun bt465 => (some (bt465.1, bt465.2.2))) = some (r1, r2) := H; have A5 := Aside0.mk A50; clear A50; replace H := Option.bind_eq_some_iff.mp H; obtain ⟨⟨t465, t468, t471⟩, A60, H⟩ := H; replace H : (some (t465, t471)) = some (r1, r2) := H; have A6 := Aside0.mk A60; clear A60
    simp only [Option.some.injEq, Prod.mk.injEq] at H
    obtain ⟨rfl, rfl⟩ := H
    go_enter Try.func35, Try.ntmps35
    try go_wp2_with (first | ((with_reducible refine gate_dst (N := 2) rfl ?_); refine box_event ?hg (N := 2) ?hd (cs := #[.int .i64 a0_0, .slice A0_1 l0_1.length c0_1, .slice A0_2 l0_2.length c0_2, .slice A0_3 l0_3.length c0_3]) (t := 46) ?hr ?_; (case hd => rfl); (case hg => rfl); (case hr => first | (go_simp; done) | (go_simp; rfl)); intro gb459 hg w7 hbox hb; have n0_ := Aside0.mk (below_step BB hb); have n1_ := Aside0.mk (hbox); have n2_ := Aside0.mk ((by rw [hg]; exact (below_size BB) : w.heap.size ≤ gb459)); have n3_ := Aside0.mk ((by rw [hg]; exact (below_size BB) : w.heap.size ≤ gb459)); clear HB; have HB := n0_; have BK459 := n1_; have GW459 := n2_; have GE459 := n3_; clear n0_ n1_ n2_ n3_; clear hb hbox hg; have hcz8_0 : w7.cell? ⟨gb459, 0, none⟩ = some (.int .i64 a0_0) := (blk_cell BK459.out 0).trans rfl; have hcz8_1 : w7.cell? ⟨gb459, 1, none⟩ = some (.slice A0_1 l0_1.length c0_1) := (blk_cell BK459.out 1).trans rfl; have hcz8_2 : w7.cell? ⟨gb459, 2, none⟩ = some (.slice A0_2 l0_2.length c0_2) := (blk_cell BK459.out 2).trans rfl; have hcz8_3 : w7.cell? ⟨gb459, 3, none⟩ = some (.slice A0_3 l0_3.length c0_3) := (blk_cell BK459.out 3).trans rfl; have hfz8_0 := blk_frozen BK459.out 0; have hfz8_1 := blk_frozen BK459.out 1; have hfz8_2 := blk_frozen BK459.out 2; have hfz8_3 := blk_frozen BK459.out 3) | ((with_reducible refine gate_callee (f := 36) rfl ?_); refine goesL_ (some 12) rfl rfl Try.func36 (by kernel_rfl) rfl #[.agg #[.int .i64 a0_0, .slice A0_1 l0_1.length c0_1, .slice A0_2 l0_2.length c0_2, .slice A0_3 l0_3.length c0_3], .int .i64 a1] rfl TA ?_; (with_reducible refine (impl_house_doors.calls k a0_0 _ _ l0_1 _ _ l0_2 _ _ l0_3 a1 t460 _ ?side1 ?side2 ?side3 ?side4 ?side5 ?side6 A3.out).mono ?_); (case side1 => repeat (first | exact (Kd.C_below HR0_1.out HB.out) | (with_reducible refine Kd.C_drewN ?_ _) | (with_reducible refine Kd.C_drew ?_) | (with_reducible refine Kd.C_alloc ?_ _))); (case side2 => exact HC0_1.out); (case side3 => repeat (first | exact (Kd.C_below HR0_2.out HB.out) | (with_reducible refine Kd.C_drewN ?_ _) | (with_reducible refine Kd.C_drew ?_) | (with_reducible refine Kd.C_alloc ?_ _))); (case side4 => exact HC0_2.out); (case side5 => repeat (first | exact (Kd.C_below HR0_3.out HB.out) | (with_reducible refine Kd.C_drewN ?_ _) | (with_reducible refine Kd.C_drew ?_) | (with_reducible refine Kd.C_alloc ?_ _))); (case side6 => exact HC0_3.out); rintro e w9 ⟨v461, rfl, ho0, hb⟩; refine ⟨_, rfl, ?_⟩; have n0_ := Aside0.mk (Kd.N_lower (Kd.N_mono (ok' := fun k_ => k_ ≠ gb459) ho0 (fun k_ hk_ => (Kd.freshB (g := gb459) (o := .cells #[.int .i64 a0_0, .slice A0_1 l0_1.length c0_1, .slice A0_2 l0_2.length c0_2, .slice A0_3 l0_3.length c0_3] 46 (0, 0)) (by (with_reducible repeat (first | refine blk_drewN ?_ _ | refine blk_drew ?_ | refine blk_alloc ?_ _)); exact BK459.out) k_ hk_))) (below_size (by repeat (first | (with_reducible first | exact HB.out | apply below_alloc | apply pw_below_drewN | apply below_drew1 | refine below_set ?_ GE459.out) | exact HB.out)))); have n1_ := Aside0.mk (blk_below (g := gb459) (o := .cells #[.int .i64 a0_0, .slice A0_1 l0_1.length c0_1, .slice A0_2 l0_2.length c0_2, .slice A0_3 l0_3.length c0_3] 46 (0, 0)) (by (with_reducible repeat (first | refine blk_drewN ?_ _ | refine blk_drew ?_ | refine blk_alloc ?_ _)); exact BK459.out) hb); have n2_ := Aside0.mk (below_step (by repeat (first | (with_reducible first | exact HB.out | apply below_alloc | apply pw_below_drewN | apply below_drew1 | refine below_set ?_ GE459.out) | exact HB.out)) hb); clear BK459; clear HB; have HO462 := n0_; have BK459 := n1_; have HB := n2_; clear n0_ n1_ n2_; (try clear hb); (try clear hb2); (try clear hk); (try clear hi); (try clear ho0); obtain ⟨Ao10, co10, eo10⟩ := Kd.N_slice HO462.out; subst eo10; have p463 : 0 ≤ (0 : Int) := (by omega); have q463 : 0 < (t460.length : Int) := of_decide_eq_true AS; obtain ⟨ad463, A463_0, c463_0, e463, hx463_0, hl463_0, hi463_0⟩ := at_L1 (Kd.N_reads' HO462.out).2.2 0 p463 q463; cases e463; obtain ⟨ce463, hce463, hMe463, hcc463⟩ := Kd.N_get HO462.out [] 0 p463 (by first | exact q463 | exact of_decide_eq_true AS | (have e_ := (Kd.N_reads' HO462.out).1; omega)); obtain ⟨ua463_0, uc463_0, rfl, ul463_0, ge463_0⟩ := Kd.FK_slice_open hMe463; have hv463_0 := hcc463 0 _ rfl; rw [Nat.add_zero, show ((Kd.slice 3 (Kd.int .i64))).sz = 1 from rfl, Nat.mul_one] at hv463_0; replace hv463_0 := Option.some.inj (hv463_0.symm.trans hx463_0); injection hv463_0 with hva_ hvn_ hvc_; rw [hva_] at ge463_0; rw [hvc_] at ul463_0; have HL463_0 := Aside0.mk (show Kd.V (Kd.int .i64) 3 _ w.heap.size _ _ (rd_L1 t460 0) from Kd.V_mk ul463_0 ge463_0); clear hva_ hvn_ hvc_ ge463_0 ul463_0; clear hcc463 hce463; have qi463 : (0 < t460.length) = True := eq_true (by omega); (try rw [show ((0 : Int)).toNat = 0 from rfl] at hx463_0); (try rw [Addr.add_zero'] at hx463_0); have HR463_0 := Aside0.mk hi463_0; have HC463_0 := Aside0.mk hl463_0; clear hi463_0 hl463_0; replace p463 := eq_true p463; replace q463 := eq_true q463))
    have n0_ := Aside0.mk (Kd.N_drew HO462.out); have n1_ := Aside0.mk (Kd.V_drew HL463_0.out); have n2_ := Aside0.mk (blk_drew BK459.out); have n3_ := Aside0.mk (Kd.C_drew HR463_0.out); have n4_ := Aside0.mk (below_drew1 HB.out); clear HO462; clear HL463_0; clear BK459; clear HR463_0; clear HB; have HO462 := n0_; have HL463_0 := n1_; have BK459 := n2_; have HR463_0 := n3_; have HB := n4_; clear n0_ n1_ n2_ n3_ n4_
    refine start_ (n := 14) (S := fun w' => w'.cell? ⟨gb459, 0, none⟩ = some (.int .i64 a0_0) ∧ w'.cell? ⟨gb459, 1, none⟩ = some (.slice A0_1 l0_1.length c0_1) ∧ w'.cell? ⟨gb459, 2, none⟩ = some (.slice A0_2 l0_2.length c0_2) ∧ w'.cell? ⟨gb459, 3, none⟩ = some (.slice A0_3 l0_3.length c0_3)) (ds := []) #[false, false, false, false, false, false, false, false, false, false, false, false, false, false] (by kernel_rfl) rfl rfl ⟨(blk_cell BK459.out 0).trans rfl, (blk_cell BK459.out 1).trans rfl, (blk_cell BK459.out 2).trans rfl, (blk_cell BK459.out 3).trans rfl⟩ (fun hHeld => ?_); refine with_tabW impl_house_leave.tab2 impl_house_leave.bits2 (fun HT_ HW_ => ?_)
    generalize w9.drew = w11 at HO462 HL463_0 BK459 HR463_0 HB hHeld ⊢
    refine pure_ (i := 2) (N := some 18) (v := ?_) (a' := ?_) #[false, false, true, false, false, false, false, false, false, false, false, false, false, false] rfl rfl (any_of HT_.out (by kernel_rfl)) (fun _ _ _ h => h) (Or.inl ⟨by rfl, ?_⟩) ?_ ?_
    rotate_left
    · intro w'
      go_simp
      with_reducible rfl
    rotate_left
    · simp only [Act.put, List.setIfInBounds_toArray, List.set_cons_zero, List.set_cons_succ, i64_w, i32_w]
      rfl
    refine pure_ (i := 3) (N := some 19) (v := ?_) (a' := ?_) #[false, false, true, true, false, false, false, false, false, false, false, false, false, false] rfl rfl (any_of HT_.out (by kernel_rfl)) (fun _ _ _ h => h) (Or.inl ⟨by rfl, ?_⟩) ?_ ?_
    rotate_left
    · intro w'
      go_simp
      with_reducible rfl
    rotate_left
    · simp only [Act.put, List.setIfInBounds_toArray, List.set_cons_zero, List.set_cons_succ, i64_w, i32_w]
      rfl
    refine pure_ (i := 5) (N := some 21) (v := ?_) (a' := ?_) #[false, false, true, true, false, true, false, false, false, false, false, false, false, false] rfl rfl (any_of HT_.out (by kernel_rfl)) (fun _ _ _ h => h) (Or.inl ⟨by rfl, ?_⟩) ?_ ?_
    rotate_left
    · intro w'
      go_simp
      with_reducible rfl
    rotate_left
    · simp only [Act.put, List.setIfInBounds_toArray, List.set_cons_zero, List.set_cons_succ, i64_w, i32_w]
      rfl
    refine take_ (i := 0) (N := some 16) (v := ?_) (a' := ?_) #[true, false, true, true, false, true, false, false, false, false, false, false, false, false] rfl rfl (take_ofW HT_.out HW_.out (by kernel_rfl)) (fun _ _ _ h => h) (Or.inl ⟨by rfl, ?_⟩) hHeld ?_ ?_
    rotate_left
    · rintro w' ⟨s0, s1, s2, s3⟩
      go_simp
      with_reducible rfl
    rotate_left
    · simp only [Act.put, List.setIfInBounds_toArray, List.set_cons_zero, List.set_cons_succ, i64_w, i32_w]
      rfl
    refine take_ (i := 1) (N := some 17) (v := ?_) (a' := ?_) #[true, true, true, true, false, true, false, false, false, false, false, false, false, false] rfl rfl (take_ofW HT_.out HW_.out (by kernel_rfl)) (fun _ _ _ h => h) (Or.inl ⟨by rfl, ?_⟩) hHeld ?_ ?_
    rotate_left
    · rintro w' ⟨s0, s1, s2, s3⟩
      go_simp
      with_reducible rfl
    rotate_left
    · simp only [Act.put, List.setIfInBounds_toArray, List.set_cons_zero, List.set_cons_succ, i64_w, i32_w]
      rfl
    refine one_ (i := 4) (N := some 20) #[true, true, true, true, true, true, false, false, false, false, false, false, false, false] rfl rfl (one_of HT_.out (by kernel_rfl)) (by decide) (fun K hK => ?_)
    refine goes_ Try.func71 (by kernel_rfl) rfl #[.agg #[.int .i64 a0_0, .slice A0_1 l0_1.length c0_1, .slice A0_2 l0_2.length c0_2, .slice A0_3 l0_3.length c0_3], .int .i64 a1, .slice A463_0 (rd_L1 t460 0).length c463_0] (by rfl) rfl rfl TA ?_
    with_reducible refine (impl_house_beyond.calls k a0_0 _ _ l0_1 _ _ l0_2 _ _ l0_3 a1 _ _ (rd_L1 t460 0) t464 _ ?side1 ?side2 ?side3 ?side4 ?side5 ?side6 ?side7 ?side8 A5.out).mono ?_
    (case side1 => repeat (first | exact (Kd.C_below HR0_1.out HB.out) | (with_reducible refine Kd.C_drewN ?_ _) | (with_reducible refine Kd.C_drew ?_) | (with_reducible refine Kd.C_alloc ?_ _)))
    (case side2 => exact HC0_1.out)
    (case side3 => repeat (first | exact (Kd.C_below HR0_2.out HB.out) | (with_reducible refine Kd.C_drewN ?_ _) | (with_reducible refine Kd.C_drew ?_) | (with_reducible refine Kd.C_alloc ?_ _)))
    (case side4 => exact HC0_2.out)
    (case side5 => repeat (first | exact (Kd.C_below HR0_3.out HB.out) | (with_reducible refine Kd.C_drewN ?_ _) | (with_reducible refine Kd.C_drew ?_) | (with_reducible refine Kd.C_alloc ?_ _)))
    (case side6 => exact HC0_3.out)
    (case side7 => repeat (first | exact (by repeat (first | (with_reducible exact HR463_0.out) | (with_reducible refine Kd.C_drewN ?_ _) | (with_reducible refine Kd.C_drew ?_) | (with_reducible refine Kd.C_alloc ?_ _) | exact HR463_0.out)) | (with_reducible refine Kd.C_drewN ?_ _) | (with_reducible refine Kd.C_drew ?_) | (with_reducible refine Kd.C_alloc ?_ _)))
    (case side8 => exact HC463_0.out)
    rintro e w12 ⟨rfl, hb⟩
    refine ⟨_, rfl, ?_⟩
    have n0_ := Aside0.mk (Kd.N_below (KN HO462) hb); have n1_ := Aside0.mk (Kd.V_below (by (with_reducible repeat (first | apply Kd.V_alloc | apply Kd.V_drewN | apply Kd.V_drew)); exact HL463_0.out) hb); have n2_ := Aside0.mk (blk_below (g := gb459) (o := .cells #[.int .i64 a0_0, .slice A0_1 l0_1.length c0_1, .slice A0_2 l0_2.length c0_2, .slice A0_3 l0_3.length c0_3] 46 (0, 0)) (by (with_reducible repeat (first | refine blk_drewN ?_ _ | refine blk_drew ?_ | refine blk_alloc ?_ _)); exact BK459.out) hb); have n3_ := Aside0.mk (Kd.C_below (by repeat (first | (with_reducible exact HR463_0.out) | (with_reducible refine Kd.C_drewN ?_ _) | (with_reducible refine Kd.C_drew ?_) | (with_reducible refine Kd.C_alloc ?_ _) | exact HR463_0.out)) hb); have n4_ := Aside0.mk (below_step (by repeat (first | (with_reducible first | exact HB.out | apply below_alloc | apply pw_below_drewN | apply below_drew1 | refine below_set ?_ GE459.out) | exact HB.out)) hb); clear HO462; clear HL463_0; clear BK459; clear HR463_0; clear HB; have HO462 := n0_; have HL463_0 := n1_; have BK459 := n2_; have HR463_0 := n3_; have HB := n4_; clear n0_ n1_ n2_ n3_ n4_
    (try clear hb)
    (try clear hb2)
    (try clear hk)
    (try clear hi)
    refine hK.out _ _ ⟨(blk_cell BK459.out 0).trans rfl, (blk_cell BK459.out 1).trans rfl, (blk_cell BK459.out 2).trans rfl, (blk_cell BK459.out 3).trans rfl⟩ (fun hHeld => ?_)
    clear hK K
    refine norm_ (a' := ?_) ?_ ?_
    rotate_left
    · show Act.put _ (some 20) _ = _
      simp only [Act.put, List.setIfInBounds_toArray, List.set_cons_zero, List.set_cons_succ, i64_w, i32_w]
      rfl
    refine one_ (i := 6) (N := some 22) #[true, true, true, true, true, true, true, false, false, false, false, false, false, false] rfl rfl (one_of HT_.out (by kernel_rfl)) (by decide) (fun K hK => ?_)
    refine goes_ Try.func70 (by kernel_rfl) rfl #[.agg #[.int .i64 a0_0, .slice A0_1 l0_1.length c0_1, .slice A0_2 l0_2.length c0_2, .slice A0_3 l0_3.length c0_3], .int .i64 t464, .slice A463_0 (rd_L1 t460 0).length c463_0] (by rfl) rfl rfl TA ?_
    with_reducible refine (impl_house_walk.calls k a0_0 _ _ l0_1 _ _ l0_2 _ _ l0_3 t464 (fun k_ => (k_ ≠ gb459 ∧ some k_ ≠ (.slice (some ad463) t460.length co10 : Value).ownBlock)) _ _ (rd_L1 t460 0) t465 t468 t471 _ ?side1 ?side2 ?side3 ?side4 ?side5 ?side6 ?side7 A6.out).mono ?_
    (case side1 => repeat (first | exact (Kd.C_below HR0_1.out HB.out) | (with_reducible refine Kd.C_drewN ?_ _) | (with_reducible refine Kd.C_drew ?_) | (with_reducible refine Kd.C_alloc ?_ _)))
    (case side2 => exact HC0_1.out)
    (case side3 => repeat (first | exact (Kd.C_below HR0_2.out HB.out) | (with_reducible refine Kd.C_drewN ?_ _) | (with_reducible refine Kd.C_drew ?_) | (with_reducible refine Kd.C_alloc ?_ _)))
    (case side4 => exact HC0_2.out)
    (case side5 => repeat (first | exact (Kd.C_below HR0_3.out HB.out) | (with_reducible refine Kd.C_drewN ?_ _) | (with_reducible refine Kd.C_drew ?_) | (with_reducible refine Kd.C_alloc ?_ _)))
    (case side6 => exact HC0_3.out)
    (case side7 => exact HL463_0.out)
    rintro e w13 ⟨v466, v469, rfl, ho0, ho1, hb⟩
    refine ⟨_, rfl, ?_⟩
    have n0_ := Aside0.mk (Kd.N_elder' (KN HO462) (Kd.R_base ho0) hb); have n1_ := Aside0.mk (Kd.V_elder' (by (with_reducible repeat (first | apply Kd.V_alloc | apply Kd.V_drewN | apply Kd.V_drew)); exact HL463_0.out) (Kd.R_base ho0) hb); have n2_ := Aside0.mk (Kd.R_lower (Kd.R_mono (ok' := fun k_ => True) ho0 (fun _ hk_ => trivial)) (below_size (by repeat (first | (with_reducible first | exact HB.out | apply below_alloc | apply pw_below_drewN | apply below_drew1 | refine below_set ?_ GE459.out) | exact HB.out))))
    have n3_ := Aside0.mk (Kd.V_lower (Kd.V_mono (ok' := fun k_ => some k_ ≠ (v466 : Value).ownBlock ∧ some k_ ≠ (.slice (some ad463) t460.length co10 : Value).ownBlock ∧ k_ ≠ gb459) ho1 (fun k_ hk_ => ⟨hk_.2, Or.elim hk_.1 (fun hs_ => hs_.2) (fun hn_ => (Kd.fresh' (Kd.N_lt (KN HO462)) k_ hn_)), Or.elim hk_.1 (fun hs_ => hs_.1) (fun hn_ => (Kd.freshB (g := gb459) (o := .cells #[.int .i64 a0_0, .slice A0_1 l0_1.length c0_1, .slice A0_2 l0_2.length c0_2, .slice A0_3 l0_3.length c0_3] 46 (0, 0)) (by (with_reducible repeat (first | refine blk_drewN ?_ _ | refine blk_drew ?_ | refine blk_alloc ?_ _)); exact BK459.out) k_ hn_))⟩)) (below_size (by repeat (first | (with_reducible first | exact HB.out | apply below_alloc | apply pw_below_drewN | apply below_drew1 | refine below_set ?_ GE459.out) | exact HB.out)))); have n4_ := Aside0.mk (blk_below (g := gb459) (o := .cells #[.int .i64 a0_0, .slice A0_1 l0_1.length c0_1, .slice A0_2 l0_2.length c0_2, .slice A0_3 l0_3.length c0_3] 46 (0, 0)) (by (with_reducible repeat (first | refine blk_drewN ?_ _ | refine blk_drew ?_ | refine blk_alloc ?_ _)); exact BK459.out) hb)
    have n5_ := Aside0.mk (Kd.C_below (by repeat (first | (with_reducible exact HR463_0.out) | (with_reducible refine Kd.C_drewN ?_ _) | (with_reducible refine Kd.C_drew ?_) | (with_reducible refine Kd.C_alloc ?_ _) | exact HR463_0.out)) hb); have n6_ := Aside0.mk (below_step (by repeat (first | (with_reducible first | exact HB.out | apply below_alloc | apply pw_below_drewN | apply below_drew1 | refine below_set ?_ GE459.out) | exact HB.out)) hb); clear HO462; clear HL463_0; clear BK459; clear HR463_0; clear HB; have HO462 := n0_; have HL463_0 := n1_; have HO467 := n2_; have HO470 := n3_; have BK459 := n4_; have HR463_0 := n5_; have HB := n6_; clear n0_ n1_ n2_ n3_ n4_ n5_ n6_
    (try clear hb)
    (try clear hb2)
    (try clear hk)
    (try clear hi)
    (try clear ho0)
    (try clear ho1)
    refine hK.out _ _ ⟨(blk_cell BK459.out 0).trans rfl, (blk_cell BK459.out 1).trans rfl, (blk_cell BK459.out 2).trans rfl, (blk_cell BK459.out 3).trans rfl⟩ (fun hHeld => ?_)
    clear hK K
    refine norm_ (a' := ?_) ?_ ?_
    rotate_left
    · show Act.put _ (some 22) _ = _
      simp only [Act.put, List.setIfInBounds_toArray, List.set_cons_zero, List.set_cons_succ, i64_w, i32_w]
      rfl
    refine pure_ (i := 7) (N := some 15) (v := ?_) (a' := ?_) #[true, true, true, true, true, true, true, true, false, false, false, false, false, false] rfl rfl (any_of HT_.out (by kernel_rfl)) (fun _ _ _ h => h) (Or.inl ⟨by rfl, ?_⟩) ?_ ?_
    rotate_left
    · intro w'
      go_simp
      with_reducible rfl
    rotate_left
    · simp only [Act.put, List.setIfInBounds_toArray, List.set_cons_zero, List.set_cons_succ, i64_w, i32_w]
      rfl
    refine pure_ (i := 8) (N := some 23) (v := ?_) (a' := ?_) #[true, true, true, true, true, true, true, true, true, false, false, false, false, false] rfl rfl (any_of HT_.out (by kernel_rfl)) (fun _ _ _ h => h) (Or.inl ⟨by rfl, ?_⟩) ?_ ?_
    rotate_left
    · intro w'
      go_simp
      with_reducible rfl
    rotate_left
    · simp only [Act.put, List.setIfInBounds_toArray, List.set_cons_zero, List.set_cons_succ, i64_w, i32_w]
      rfl
    refine pure_ (i := 9) (N := some 24) (v := ?_) (a' := ?_) #[true, true, true, true, true, true, true, true, true, true, false, false, false, false] rfl rfl (any_of HT_.out (by kernel_rfl)) (fun _ _ _ h => h) (Or.inl ⟨by rfl, ?_⟩) ?_ ?_
    rotate_left
    · intro w'
      go_simp
      with_reducible rfl
    rotate_left
    · simp only [Act.put, List.setIfInBounds_toArray, List.set_cons_zero, List.set_cons_succ, i64_w, i32_w]
      rfl
    refine pure_ (i := 10) (N := some 25) (v := ?_) (a' := ?_) #[true, true, true, true, true, true, true, true, true, true, true, false, false, false] rfl rfl (any_of HT_.out (by kernel_rfl)) (fun _ _ _ h => h) (Or.inl ⟨by rfl, ?_⟩) ?_ ?_
    rotate_left
    · intro w'
      go_simp
      with_reducible rfl
    rotate_left
    · simp only [Act.put, List.setIfInBounds_toArray, List.set_cons_zero, List.set_cons_succ, i64_w, i32_w]
      rfl
    refine pure_ (i := 11) (N := some 7) (v := ?_) (a' := ?_) #[true, true, true, true, true, true, true, true, true, true, true, true, false, false] rfl rfl (any_of HT_.out (by kernel_rfl)) (fun _ _ _ h => h) (Or.inl ⟨by rfl, ?_⟩) ?_ ?_
    rotate_left
    · intro w'
      go_simp
      with_reducible rfl
    rotate_left
    · simp only [Act.put, List.setIfInBounds_toArray, List.set_cons_zero, List.set_cons_succ, i64_w, i32_w]
      rfl
    refine pure_ (i := 12) (N := some 8) (v := ?_) (a' := ?_) #[true, true, true, true, true, true, true, true, true, true, true, true, true, false] rfl rfl (any_of HT_.out (by kernel_rfl)) (fun _ _ _ h => h) (Or.inl ⟨by rfl, ?_⟩) ?_ ?_
    rotate_left
    · intro w'
      go_simp
      with_reducible rfl
    rotate_left
    · simp only [Act.put, List.setIfInBounds_toArray, List.set_cons_zero, List.set_cons_succ, i64_w, i32_w]
      rfl
    refine pure_ (i := 13) (N := some 9) (v := ?_) (a' := ?_) #[true, true, true, true, true, true, true, true, true, true, true, true, true, true] rfl rfl (any_of HT_.out (by kernel_rfl)) (fun _ _ _ h => h) (Or.inl ⟨by rfl, ?_⟩) ?_ ?_
    rotate_left
    · intro w'
      go_simp
      with_reducible rfl
    rotate_left
    · simp only [Act.put, List.setIfInBounds_toArray, List.set_cons_zero, List.set_cons_succ, i64_w, i32_w]
      rfl
    refine done_ (done_of HT_.out (by kernel_rfl)) ?_
    try go_wp2
    go_ret2
    exact ⟨_, by first | rfl | (simp [errW_none, errW_some] <;> rfl) | (simp [*, errW_none, errW_some] <;> rfl), KR HO467, by repeat (first | (with_reducible first | exact HB.out | apply below_alloc | apply pw_below_drewN | apply below_drew1 | refine below_set ?_ GE459.out) | exact HB.out)⟩
  · rw [if_neg c4] at H
    exact absurd H (by simp)

def impl_ClosedRooms.mark : List Bool → List Int → Option (List Bool)
  | b, [] => some b
  | b, x :: r => if 0 ≤ x ∧ x < (b.length : Int) then impl_ClosedRooms.mark (b.set x.toNat true) r else none
def impl_ClosedRooms.g1 (k : Nat) (n : Int) (L : List Int) (C : List (List Int)) (B : List Int) : List (List Int) → List Bool → Option (List Bool)
  | [], b => some b
  | s :: r, b => if 1 < s.length then (impl_house_enter.f k n L C B (rd s 0) (rd s 1)).bind fun t => if t.1.length ≤ 1000000 then (impl_ClosedRooms.mark b t.1).bind fun b' => impl_ClosedRooms.g1 k n L C B r b' else none else none
def impl_ClosedRooms.g2 (k : Nat) (n : Int) (L : List Int) (C : List (List Int)) (B : List Int) : List Int → List Bool → Option (List Bool)
  | [], b => some b
  | c :: r, b => (impl_house_leave.f k n L C B c).bind fun t => if t.1.length ≤ 1000000 then (impl_ClosedRooms.mark b t.1).bind fun b' => impl_ClosedRooms.g2 k n L C B r b' else none
def impl_ClosedRooms.g3 (k : Nat) (n : Int) (L : List Int) (C : List (List Int)) (B : List Int) (b : List Bool) : Nat → Nat → Int → Option Int
  | 0, _, c => some c
  | d + 1, i, c => if b.getD i false = true then impl_ClosedRooms.g3 k n L C B b d (i + 1) c else (impl_house_doors.f k n L C B (i : Int)).bind fun D => impl_ClosedRooms.g3 k n L C B b d (i + 1) (if (D.length : Int) = 2 then wrap64 (c + 1) else c)
def impl_ClosedRooms.f (k : Nat) (a0 : Int) (l1 : List Int) : Option (Int × Bool) := (impl_houseOf.f k a0 l1).bind fun t => if t.2.2.2.2 = true then (if 0 < t.2.2.1.length ∧ t.2.2.1.length ≤ 1000000 then
    (impl_house_entries.f k t.1 t.2.1 t.2.2.1 t.2.2.2.1).bind fun E => if E.length ≤ 1000000 then (impl_ClosedRooms.g1 k t.1 t.2.1 t.2.2.1 t.2.2.2.1 E (List.replicate t.2.2.1.length false)).bind fun b1 =>
      (impl_house_full.f k t.1 t.2.1 t.2.2.1 t.2.2.2.1).bind fun F => if F.length ≤ 1000000 then (impl_ClosedRooms.g2 k t.1 t.2.1 t.2.2.1 t.2.2.2.1 F b1).bind fun b2 =>
        (impl_ClosedRooms.g3 k t.1 t.2.1 t.2.2.1 t.2.2.2.1 b2 t.2.2.1.length 0 0).bind fun c => some (c, true) else none else none else none) else some (0, false)
theorem impl_ClosedRooms.g1_mono (k : Nat) (n : Int) (L : List Int) (C : List (List Int)) (B : List Int) : ∀ E b, LeO (impl_ClosedRooms.g1 k n L C B E b) (impl_ClosedRooms.g1 (k + 1) n L C B E b)
  | [], b => LeO.refl _
  | s :: r, b => by
    rw [impl_ClosedRooms.g1, impl_ClosedRooms.g1]
    exact LeO.ite (LeO.bind (impl_house_enter.mono _ _ _ _ _ _ _) (fun _ => LeO.ite (LeO.bind (LeO.refl _) (fun _ => impl_ClosedRooms.g1_mono k n L C B r _)) (LeO.refl _))) (LeO.refl _)
theorem impl_ClosedRooms.g2_mono (k : Nat) (n : Int) (L : List Int) (C : List (List Int)) (B : List Int) : ∀ E b, LeO (impl_ClosedRooms.g2 k n L C B E b) (impl_ClosedRooms.g2 (k + 1) n L C B E b)
  | [], b => LeO.refl _
  | s :: r, b => by
    rw [impl_ClosedRooms.g2, impl_ClosedRooms.g2]
    exact LeO.bind (impl_house_leave.mono _ _ _ _ _ _) (fun _ => LeO.ite (LeO.bind (LeO.refl _) (fun _ => impl_ClosedRooms.g2_mono k n L C B r _)) (LeO.refl _))
theorem impl_ClosedRooms.g3_mono (k : Nat) (n : Int) (L : List Int) (C : List (List Int)) (B : List Int) (b : List Bool) : ∀ d i c, LeO (impl_ClosedRooms.g3 k n L C B b d i c) (impl_ClosedRooms.g3 (k + 1) n L C B b d i c)
  | 0, i, c => LeO.refl _
  | d + 1, i, c => by
    rw [impl_ClosedRooms.g3, impl_ClosedRooms.g3]
    exact LeO.ite (impl_ClosedRooms.g3_mono k n L C B b d _ _) (LeO.bind (impl_house_doors.mono _ _ _ _ _ _) (fun _ => impl_ClosedRooms.g3_mono k n L C B b d _ _))
theorem impl_ClosedRooms.mono : ∀ a0 a1 k, LeO (impl_ClosedRooms.f k a0 a1) (impl_ClosedRooms.f (k + 1) a0 a1) := by
  intro a0 a1 k
  unfold impl_ClosedRooms.f
  exact LeO.bind (impl_houseOf.mono _ _ _) (fun _ => LeO.ite (LeO.ite (LeO.bind (impl_house_entries.mono _ _ _ _ _) (fun _ => LeO.ite (LeO.bind (impl_ClosedRooms.g1_mono _ _ _ _ _ _ _) (fun _ => LeO.bind (impl_house_full.mono _ _ _ _ _) (fun _ => LeO.ite (LeO.bind (impl_ClosedRooms.g2_mono _ _ _ _ _ _ _) (fun _ => LeO.bind (impl_ClosedRooms.g3_mono _ _ _ _ _ _ _ _ _) (fun _ => LeO.refl _))) (LeO.refl _)))) (LeO.refl _))) (LeO.refl _)) (LeO.refl _))
theorem impl_ClosedRooms.mark_len : ∀ (l : List Int) (b b' : List Bool), impl_ClosedRooms.mark b l = some b' → b'.length = b.length
  | [], b, b', h => by rw [impl_ClosedRooms.mark] at h; rw [Option.some.inj h]
  | x :: r, b, b', h => by
    rw [impl_ClosedRooms.mark] at h
    by_cases c : 0 ≤ x ∧ x < (b.length : Int)
    · rw [if_pos c] at h
      rw [impl_ClosedRooms.mark_len r _ _ h, List.length_set]
    · rw [if_neg c] at h; cases h
theorem impl_ClosedRooms.nxt {t : Nat} (h : t ≤ 1000000) : Value.int .i64 (wrap64 ((t : Int) + 1)) = .int .i64 ((t + 1 : Nat) : Int) := by
  congr 1
  unfold wrap64
  omega
structure impl_ClosedRooms.Row (W : World) (g8 gs cap : Nat) (b : List Bool) : Prop where
  box : W.heap[g8]? = some (.cells #[.slice (some ⟨gs, 0, none⟩) b.length cap] 38 (0, 0))
  row : ∃ cur : Array Value, W.heap[gs]? = some (.cells cur 4 (0, 0)) ∧ b.length ≤ cur.size ∧ ∀ (j : Nat) (x : Bool), b[j]? = some x → cur[j]? = some (.bool x)
  ne : gs ≠ g8
theorem impl_ClosedRooms.Row.below {W W' : World} {g8 gs cap : Nat} {b : List Bool} (h : impl_ClosedRooms.Row W g8 gs cap b) (hb : Below W.heap.size W W') : impl_ClosedRooms.Row W' g8 gs cap b := by
  obtain ⟨cur, h1, h2, h3⟩ := h.row
  exact ⟨(hb.block _ (blk_lt h.box)).trans h.box, ⟨cur, (hb.block _ (blk_lt h1)).trans h1, h2, h3⟩, h.ne⟩
set_option maxHeartbeats 8000000 in
set_option maxRecDepth 100000 in
theorem impl_ClosedRooms.see {A : Option Addr} {c : Nat} {l : List Int} {W : World} {g8 gs cap : Nat} {b b' : List Bool} (hK : ∀ W', Kept W W' (fun k => k = gs) → Kd.C (Kd.int .i64) W' A l.length l) (hl : l.length ≤ 1000000) (hR : impl_ClosedRooms.Row W g8 gs cap b) (hm : impl_ClosedRooms.mark b l = some b') :
    Calls Try.prog 31 #[.slice A l.length c, .pointer (some ⟨g8, 0, none⟩)] W fun e W' => e = .returned (.tuple #[]) ∧ (W'.os = W.os ∧ W'.tape = W.tape ∧ W'.output = W.output) ∧ Kept W W' (fun k => k = gs) ∧ impl_ClosedRooms.Row W' g8 gs cap b' := by
  have HK := Aside0.mk hK; have HL := Aside0.mk hl; have HR := Aside0.mk hR; have HM := Aside0.mk hm; clear hK hl hR hm
  go_enter Try.func31, Try.ntmps31
  go_wp2
  go_loopg [7] l.length (fun gg v7 wr => ∃ (t : Nat) (bt : List Bool), v7 = .int .i64 (t : Int) ∧ t ≤ l.length ∧ l.length - t ≤ gg ∧ Aside0 (impl_ClosedRooms.mark bt (l.drop t) = some b') ∧ Aside0 (wr.os = W.os ∧ wr.tape = W.tape ∧ wr.output = W.output) ∧ Aside0 (Kept W wr (fun k => k = gs)) ∧ Aside0 (impl_ClosedRooms.Row wr g8 gs cap bt))
  case atStart => exact ⟨0, b, rfl, Nat.zero_le _, by omega, ⟨by rw [List.drop_zero]; exact HM.out⟩, ⟨rfl, rfl, rfl⟩, ⟨Kept.refl _ _⟩, HR⟩
  case round =>
    obtain ⟨t, bt, rfl, ht, hg, HM1, HO, HK1, HR1⟩ := hrel
    by_cases hlt : t < l.length
    · have hltz : (t : Int) < (l.length : Int) := by omega
      have hm1 := HM1.out; rw [List.drop_eq_getElem_cons hlt, impl_ClosedRooms.mark] at hm1
      have er : rd l (t : Int) = l[t] := by
        unfold rd
        rw [Int.toNat_natCast, List.getD_eq_getElem?_getD, List.getElem?_eq_getElem hlt]; rfl
      rw [← er] at hm1; obtain ⟨ad, eA, hx⟩ := Kd.at_int (HK.out wr HK1.out) (t : Int) (by omega) hltz; subst eA; rw [Int.toNat_natCast] at hx; obtain ⟨x, hx0⟩ : ∃ x : Int, x = rd l (t : Int) := ⟨_, rfl⟩; rw [← hx0] at hm1 hx; clear er
      by_cases cx : 0 ≤ x ∧ x < (bt.length : Int)
      · rw [if_pos cx] at hm1
        have HM2 := Aside0.mk hm1; clear hm1 hx0; obtain ⟨cur, hr1, hr2, hr3⟩ := HR1.out.row; have p1 : (0 ≤ (t : Int)) = True := eq_true (by omega); have q1 : ((t : Int) < (l.length : Int)) = True := eq_true hltz; have p2 : (0 ≤ x) = True := eq_true cx.1; have q2 : (x < (bt.length : Int)) = True := eq_true cx.2; have hxn : x.toNat < cur.size := by omega
        have z8 : wr.cell? ⟨g8, 0, none⟩ = some (.slice (some ⟨gs, 0, none⟩) bt.length cap) := (blk_cell HR1.out.box 0).trans rfl; have zs : wr.cell? ⟨gs, x.toNat, none⟩ = some (cur.getD x.toNat undef) := by rw [blk_cell hr1, Array.getElem?_eq_getElem hxn]; simp [Array.getD, hxn]
        have zf : wr.frozen? ⟨gs, x.toNat, none⟩ = false := blk_frozen hr1 _; have HH := Aside0.mk (And.intro hr1 (And.intro hr2 hr3)); have HX := Aside0.mk cx; clear hr1 hr2 hr3 hxn cx
        go_wp2
        go_roundg (l.length - (t + 1))
        case measure => omega
        case rel =>
          have hl_ := HL.out; obtain ⟨h1, h2, h3⟩ := HH.out; have hne := HR1.out.ne
          refine ⟨t + 1, bt.set x.toNat true, impl_ClosedRooms.nxt (by omega), by omega, by omega, HM2, ⟨HO.out⟩, ⟨HK1.out.setCell (.inl rfl) _⟩, ⟨⟨?_, ⟨cur.setIfInBounds x.toNat (.bool true), blk_set h1 _ _, by simpa using h2, fun j y hj => ?_⟩, hne⟩⟩⟩
          · rw [List.length_set]
            exact blk_far HR1.out.box (fun e => hne e.symm) _
          · by_cases e : j = x.toNat
            · subst e
              have hjl : x.toNat < bt.length := by have := HX.out; omega
              rw [List.getElem?_set_self hjl] at hj; rw [Array.getElem?_setIfInBounds_self_of_lt (by omega), ← Option.some.inj hj]
            · rw [List.getElem?_set_ne (fun e2 => e e2.symm)] at hj
              rw [Array.getElem?_setIfInBounds_ne (fun e2 => e e2.symm)]
              exact h3 j y hj
      · rw [if_neg cx] at hm1
        cases hm1
    · have hltz : ¬ (t : Int) < (l.length : Int) := by omega
      have e : t = l.length := by omega
      have hm1 := HM1.out; rw [List.drop_eq_nil_of_le (by omega), impl_ClosedRooms.mark] at hm1; obtain rfl := Option.some.inj hm1
      go_wp2
      go_end0
      exact ⟨rfl, HO.out, HK1.out, HR1.out⟩
theorem impl_ClosedRooms.own {w : World} {base : Nat} {ok : Nat → Prop} {v : Value} {xs : List Bool} (hS : Kd.R Kd.bool 4 w base ok v xs) (hpos : 0 < xs.length) :
    ∃ blk cap cur, v = .slice (some ⟨blk, 0, none⟩) xs.length cap ∧ base ≤ blk ∧ w.heap[blk]? = some (.cells cur 4 (0, 0)) ∧ xs.length ≤ cur.size ∧ ∀ (j : Nat) (x : Bool), xs[j]? = some x → cur[j]? = some (.bool x) := by
  obtain ⟨h0, inner, ho, hr⟩ := hS; obtain ⟨hlen, ⟨rfl, hn⟩ | ⟨blk, cap, cur, rfl, hge, hblk, hcap, hmax, hsz, htake⟩⟩ := ho
  · omega
  · have e1 : Kd.bool.sz = 1 := rfl
    rw [e1] at hsz htake; rw [Nat.mul_one] at htake
    refine ⟨blk, cap, cur, rfl, hge, hblk, by omega, fun j x hx => ?_⟩
    have hu : (inner.drop (j * 1)).take 1 = [.bool x] := hr.2 j x hx; have hlt : j < xs.length := (List.getElem?_eq_some_iff.1 hx).1; rw [Nat.mul_one] at hu
    have h3 : inner[j]? = some (.bool x) := by
      have := congrArg (fun l => l[0]?) hu
      simpa [List.getElem?_take_of_lt, List.getElem?_drop] using this
    rw [← htake, List.getElem?_take_of_lt hlt] at h3; rw [← Array.getElem?_toList]; exact h3
theorem impl_ClosedRooms.stays {α : Type} {d : Kd α} {e : TypeId} {W : World} {base gs n c : Nat} {ok : Nat → Prop} {A : Option Addr} {xs : List α} (h : d.R e W base ok (.slice A n c) xs) (hg : gs < base) : ∀ W', Kept W W' (fun k => k = gs) → d.C W' A n xs :=
  Kd.C_kept_own (Kd.R_bound h) (fun k hk e_ => by have := hk.2.1; omega)
theorem impl_ClosedRooms.over {B : Nat} {w W W' : World} {gs : Nat} (h : Below B w W) (hg : B ≤ gs) (ho : W'.os = W.os ∧ W'.tape = W.tape ∧ W'.output = W.output) (hk : Kept W W' (fun k => k = gs)) (hB : B ≤ W.heap.size) : Below B w W' :=
  ⟨ho.1.trans h.os, ho.2.1.trans h.tape, ho.2.2.trans h.output, Nat.le_trans h.size hk.1, fun q hq => (hk.2 q (by omega) (by omega)).trans (h.block q hq)⟩
def impl_ClosedRooms.T9 : Bool × List (List Nat × List Nat) := (true, [([], []), ([], []), ([1], [1]), ([2], [2]), ([], []), ([4], [4]), ([5], [5]), ([0, 3, 6], [0, 3, 6]), ([7], [7]), ([8], [8]), ([8], [8]), ([8], [8]), ([9, 7, 0, 1, 2, 3, 4, 5, 6, 7, 8, 9], [9]), ([10, 12, 0, 1, 2, 3, 4, 5, 6, 7, 8, 9, 10, 12], [10]), ([11, 13, 0, 1, 2, 3, 4, 5, 6, 7, 8, 9, 10, 11, 12, 13], [11])])
def impl_ClosedRooms.B9 : List Nat := [0, 0, 2, 6, 0, 16, 48, 127, 255, 511, 511, 511, 1023, 6143, 16383]
theorem impl_ClosedRooms.tab9 : rtab .any (opsOf Try.f9 9) = impl_ClosedRooms.T9 := by kernel_rfl
theorem impl_ClosedRooms.bits9 : waitsOk impl_ClosedRooms.T9.2 impl_ClosedRooms.B9 = true := by kernel_rfl
theorem impl_ClosedRooms.parts {k : Nat} {a0 : Int} {l1 : List Int} {r1 : Int} {r2 : Bool} (h : impl_ClosedRooms.f k a0 l1 = some (r1, r2)) : ∃ hn hl hc hbd ok, impl_houseOf.f k a0 l1 = some (hn, hl, hc, hbd, ok) ∧ ((ok = false ∧ r1 = 0 ∧ r2 = false) ∨ (ok = true ∧ 0 < hc.length ∧ hc.length ≤ 1000000 ∧ r2 = true ∧
    ∃ E b1 F b2, impl_house_entries.f k hn hl hc hbd = some E ∧ E.length ≤ 1000000 ∧ impl_ClosedRooms.g1 k hn hl hc hbd E (List.replicate hc.length false) = some b1 ∧ impl_house_full.f k hn hl hc hbd = some F ∧ F.length ≤ 1000000 ∧ impl_ClosedRooms.g2 k hn hl hc hbd F b1 = some b2 ∧ impl_ClosedRooms.g3 k hn hl hc hbd b2 hc.length 0 0 = some r1)) := by
  unfold impl_ClosedRooms.f at h
  obtain ⟨⟨hn, hl, hc, hbd, ok⟩, ht, h2⟩ := Option.bind_eq_some_iff.mp h
  refine ⟨hn, hl, hc, hbd, ok, ht, ?_⟩
  cases ok with
  | false =>
    have h3 := (if_neg (show ¬ (false = true) by decide)).symm.trans h2; have h4 := Option.some.inj h3
    injection h4 with e1 e2
    exact .inl ⟨rfl, e1.symm, e2.symm⟩
  | true =>
    have h3 := (if_pos (show true = true from rfl)).symm.trans h2
    by_cases hp : 0 < hc.length ∧ hc.length ≤ 1000000
    · have h4 := (if_pos hp).symm.trans h3
      obtain ⟨E, hE, h5⟩ := Option.bind_eq_some_iff.mp h4
      by_cases hp2 : E.length ≤ 1000000
      · have h6 := (if_pos hp2).symm.trans h5
        obtain ⟨b1, hb1, h7⟩ := Option.bind_eq_some_iff.mp h6; obtain ⟨F, hF, h8⟩ := Option.bind_eq_some_iff.mp h7
        by_cases hp3 : F.length ≤ 1000000
        · have h9 := (if_pos hp3).symm.trans h8
          obtain ⟨b2, hb2, h10⟩ := Option.bind_eq_some_iff.mp h9; obtain ⟨c, hcc, h11⟩ := Option.bind_eq_some_iff.mp h10; have h12 := Option.some.inj h11
          injection h12 with e1 e2
          exact .inr ⟨rfl, hp.1, hp.2, e2.symm, E, b1, F, b2, hE, hp2, hb1, hF, hp3, hb2, by rw [← e1]; exact hcc⟩
        · have := (if_neg hp3).symm.trans h8
          cases this
      · have := (if_neg hp2).symm.trans h5
        cases this
    · have := (if_neg hp).symm.trans h3
      cases this
theorem impl_ClosedRooms.five {w1 w3 w4 w5 : World} {g6 g8 gs cap n : Nat} {o : Obj} {cur : Array Value} {xs : List Bool} (hx8 : w4.heap[g8]? = some (.cells #[.slice none 0 0] 38 (0, 0))) (hb4 : Below w3.heap.size w3 w4) (ge8 : w3.heap.size ≤ g8) (hb3 : Below w1.heap.size w1 w3) (hx6 : w3.heap[g6]? = some o) (hgs : w1.heap.size ≤ gs)
    (hxs : w3.heap[gs]? = some (.cells cur 4 (0, 0)) ∧ xs.length ≤ cur.size ∧ ∀ (j : Nat) (x : Bool), xs[j]? = some x → cur[j]? = some (.bool x)) (hw : w5 = w4.setCell ⟨g8, 0, none⟩ (.slice (some ⟨gs, 0, none⟩) n cap)) : w5.heap[g6]? = some o ∧ Below w1.heap.size w1 w5 ∧ (xs.length = n → impl_ClosedRooms.Row w5 g8 gs cap xs) ∧ gs < w5.heap.size := by
  obtain ⟨h1, h2, h3⟩ := hxs; have l6 : g6 < w3.heap.size := (Array.getElem?_eq_some_iff.1 hx6).1; have ls : gs < w3.heap.size := blk_lt h1; have far : ∀ q, q ≠ g8 → w5.heap[q]? = w4.heap[q]? := fun q hq => by rw [hw]; exact Below.heap_setCell w4 ⟨g8, 0, none⟩ _ q hq
  refine ⟨(far g6 (by omega)).trans ((hb4.block g6 l6).trans hx6), ?_, fun e => ⟨?_, ⟨cur, (far gs (by omega)).trans ((hb4.block gs ls).trans h1), h2, h3⟩, by omega⟩, ?_⟩
  · rw [hw]
    exact below_set (below_step hb3 hb4) (Nat.le_trans hb3.size ge8)
  · rw [hw, e]
    exact blk_set hx8 0 _
  · rw [hw]
    have := hb4.size; have e : (w4.setCell ⟨g8, 0, none⟩ (.slice (some ⟨gs, 0, none⟩) n cap)).heap.size = w4.heap.size := by simp [World.setCell]
    omega
theorem impl_ClosedRooms.gs_lt {W wd : World} {g8 gs cap : Nat} {b : List Bool} (h : impl_ClosedRooms.Row W g8 gs cap b) (hs : W.heap.size ≤ wd.heap.size) : gs < wd.heap.size := by
  obtain ⟨cur, h1, _⟩ := h.row
  exact Nat.lt_of_lt_of_le (blk_lt h1) hs
set_option maxHeartbeats 16000000 in
set_option maxRecDepth 100000 in
theorem impl_ClosedRooms.calls (k : Nat) (a0 : Int) (A1 : Option Addr) (c1 : Nat) (l1 : List Int) (r1 : Int) (r2 : Bool) (w : World) (hr1 : Kd.C (Kd.int .i64) w A1 l1.length l1) (hc1 : l1.length ≤ c1) (h : impl_ClosedRooms.f k a0 l1 = some (r1, r2)) :
    Calls Try.prog 9 #[.int .i64 a0, .slice A1 l1.length c1] w fun e w' => e = .returned (.tuple #[.int .i64 r1, .bool r2]) ∧ Below w.heap.size w w' := by
  have hu := Try.underlying46; have HR1 := Aside0.mk hr1; have HC1 := Aside0.mk hc1; clear hr1 hc1; obtain ⟨hn, hl, hc, hbd, ok, ht, h2⟩ := impl_ClosedRooms.parts h; clear h; have HT := Aside0.mk ht; clear ht
  rcases h2 with ⟨rfl, rfl, rfl⟩ | ⟨rfl, hp1, hp2, rfl, E, b1, F, b2, hE, hEl, hb1, hF, hFl, hb2, h3⟩
  · go_enter Try.func9, Try.ntmps9
    go_wp2_with (first
      | (go_at_call 30; refine (impl_houseOf.calls k a0 (fun k_ => k_ < w.heap.size) A1 c1 l1 hn hl hc hbd false w (Kd.V_mk HC1.out (Kd.C_F (Kd.heap_int .i64) HR1.out)) HT.out).mono ?_; rintro e w1 ⟨v1, v2, v3, rfl, h1, h2, h3, hb⟩; obtain ⟨A2, c2, e2⟩ := Kd.V_slice h1; subst e2; obtain ⟨A3, c3, e3⟩ := Kd.S_slice h2; subst e3; obtain ⟨A4, c4, e4⟩ := Kd.R_slice h3; subst e4; have HL := Aside0.mk (Kd.V_reads' h1); have HCC := Aside0.mk (Kd.S_reads' h2); have HBD := Aside0.mk (Kd.R_reads' h3); have HB1 := Aside0.mk hb; clear h1 h2 h3 hb)
      | ((with_reducible refine gate_dst (N := 6) rfl ?_); refine box_event ?hg (N := 6) ?hd (cs := #[.int .i64 0, .slice none 0 0, .slice none 0 0, .slice none 0 0]) (t := 46) ?hr ?_; (case hd => rfl); (case hg => rfl); (case hr => first | (go_simp; done) | (go_simp; rfl)); intro g6 hg w2 hbox hb; have HX6 := Aside0.mk hbox; have HB2 := Aside0.mk hb; have GE6 := Aside0.mk (Nat.le_of_eq hg.symm : w1.heap.size ≤ g6); have zb0 : w2.cell? ⟨g6, 0, none⟩ = some (.int .i64 0) := (blk_cell hbox 0).trans rfl; have zb1 : w2.cell? ⟨g6, 1, none⟩ = some (.slice none 0 0) := (blk_cell hbox 1).trans rfl; have zb2 : w2.cell? ⟨g6, 2, none⟩ = some (.slice none 0 0) := (blk_cell hbox 2).trans rfl; have zb3 : w2.cell? ⟨g6, 3, none⟩ = some (.slice none 0 0) := (blk_cell hbox 3).trans rfl; have fb0 := blk_frozen hbox 0; have fb1 := blk_frozen hbox 1; have fb2 := blk_frozen hbox 2; have fb3 := blk_frozen hbox 3; clear hbox hb hg))
    go_ret2
    refine ⟨rfl, ?_⟩
    have hb2 := HB2.out
    repeat (first | exact below_step HB1.out hb2 | apply below_alloc | apply pw_below_drewN | apply below_drew1 | refine below_set ?_ (Nat.le_trans HB1.out.size GE6.out))
  · have HE := Aside0.mk hE
    have HG1 := Aside0.mk hb1; have HF := Aside0.mk hF; have HG2 := Aside0.mk hb2; have HG3 := Aside0.mk h3; have HEL := Aside0.mk hEl; have HFL := Aside0.mk hFl; clear hE hb1 hF hb2 h3 hEl hFl
    go_enter Try.func9, Try.ntmps9
    go_wp2_with (first
      | (go_at_call 30; refine (impl_houseOf.calls k a0 (fun k_ => k_ < w.heap.size) A1 c1 l1 hn hl hc hbd true w (Kd.V_mk HC1.out (Kd.C_F (Kd.heap_int .i64) HR1.out)) HT.out).mono ?_; rintro e w1 ⟨v1, v2, v3, rfl, h1, h2, h3, hb⟩; obtain ⟨A2, c2, e2⟩ := Kd.V_slice h1; subst e2; obtain ⟨A3, c3, e3⟩ := Kd.S_slice h2; subst e3; obtain ⟨A4, c4, e4⟩ := Kd.R_slice h3; subst e4; have HL := Aside0.mk (Kd.V_reads' h1); have HCC := Aside0.mk (Kd.S_reads' h2); have HBD := Aside0.mk (Kd.R_reads' h3); have HB1 := Aside0.mk hb; clear h1 h2 h3 hb)
      | ((with_reducible refine gate_dst (N := 6) rfl ?_); refine box_event ?hg (N := 6) ?hd (cs := #[.int .i64 0, .slice none 0 0, .slice none 0 0, .slice none 0 0]) (t := 46) ?hr ?_; (case hd => rfl); (case hg => rfl); (case hr => first | (go_simp; done) | (go_simp; rfl)); intro g6 hg w2 hbox hb; have HX6 := Aside0.mk hbox; have HB2 := Aside0.mk hb; have GE6 := Aside0.mk (Nat.le_of_eq hg.symm : w1.heap.size ≤ g6); have zb0 : w2.cell? ⟨g6, 0, none⟩ = some (.int .i64 0) := (blk_cell hbox 0).trans rfl; have zb1 : w2.cell? ⟨g6, 1, none⟩ = some (.slice none 0 0) := (blk_cell hbox 1).trans rfl; have zb2 : w2.cell? ⟨g6, 2, none⟩ = some (.slice none 0 0) := (blk_cell hbox 2).trans rfl; have zb3 : w2.cell? ⟨g6, 3, none⟩ = some (.slice none 0 0) := (blk_cell hbox 3).trans rfl; have fb0 := blk_frozen hbox 0; have fb1 := blk_frozen hbox 1; have fb2 := blk_frozen hbox 2; have fb3 := blk_frozen hbox 3; clear hbox hb hg)
      | ((with_reducible refine gate_dst (N := 32) rfl ?_); refine Kd.R_make Kd.bool _ 4 rfl (N := 32) rfl 38 _ _ rfl (hc.length : Int) rfl rfl Try.underlying38 (.bool false) 1 info4 rfl (by decide) (by omega) false (ok := fun _ => True) (okp := fun _ => True) rfl (fun _ hk => hk) trivial (by omega) (by omega) (Below.refl _ _) (Nat.le_refl _) ?_; intro v3 w3 ho hb hg_ hnew_; clear hg_ hnew_; have hx6 := blk_below (g := g6) (o := .cells #[.int .i64 hn, .slice A2 hl.length c2, .slice A3 hc.length c3, .slice A4 hbd.length c4] 46 (0, 0)) (by (with_reducible repeat (first | refine blk_drewN ?_ _ | refine blk_drew ?_ | refine blk_alloc ?_ _)); refine blk_put (cs := #[.int .i64 hn, .slice A2 hl.length c2, .slice A3 hc.length c3, .slice none 0 0]) ?_ 3 _ rfl; (with_reducible repeat (first | refine blk_drewN ?_ _ | refine blk_drew ?_ | refine blk_alloc ?_ _)); refine blk_put (cs := #[.int .i64 hn, .slice A2 hl.length c2, .slice none 0 0, .slice none 0 0]) ?_ 2 _ rfl; (with_reducible repeat (first | refine blk_drewN ?_ _ | refine blk_drew ?_ | refine blk_alloc ?_ _)); refine blk_put (cs := #[.int .i64 hn, .slice none 0 0, .slice none 0 0, .slice none 0 0]) ?_ 1 _ rfl; (with_reducible repeat (first | refine blk_drewN ?_ _ | refine blk_drew ?_ | refine blk_alloc ?_ _)); refine blk_put (cs := #[.int .i64 0, .slice none 0 0, .slice none 0 0, .slice none 0 0]) ?_ 0 _ rfl; (with_reducible repeat (first | refine blk_drewN ?_ _ | refine blk_drew ?_ | refine blk_alloc ?_ _)); exact HX6.out) hb; have hb3 := below_step (by repeat (first | exact (below_step (Below.refl _ _) HB2.out) | apply below_alloc | apply pw_below_drewN | apply below_drew1 | refine below_set ?_ GE6.out) : Below w1.heap.size w1 _) hb; obtain ⟨gs, cap, cur, e3, hge, hxs, hsz, hcur⟩ := impl_ClosedRooms.own ho (by rw [List.length_replicate]; omega); subst e3; have HX6b := Aside0.mk hx6; have HB3 := Aside0.mk hb3; have HGS := Aside0.mk (show w1.heap.size ≤ gs from Nat.le_trans (by have := HB2.out.size; first | exact this | (simp only [World.setCell, Array.size_modify]; exact this) | simpa [World.setCell] using this) hge); have HNE6 := Aside0.mk (show g6 ≠ gs from fun e_ => by have h_ := blk_lt HX6.out; rw [e_] at h_; have h2_ : w2.heap.size ≤ gs := (by first | exact hge | (simpa [World.setCell] using hge)); omega); have HXS := Aside0.mk (And.intro hxs (And.intro hsz hcur)); have en : (List.replicate (hc.length : Int).toNat false).length = hc.length := (by simp); rw [en]; clear ho hb hx6 hb3 hge hxs hsz hcur zb0 zb1 zb2 zb3 fb0 fb1 fb2 fb3)
      | ((with_reducible refine gate_dst (N := 8) rfl ?_); refine box_event ?hg (N := 8) ?hd (cs := #[.slice none 0 0]) (t := 38) ?hr ?_; (case hd => rfl); (case hg => rfl); (case hr => first | (go_simp; done) | (go_simp; rfl)); intro g8 hg w4 hbox hb; have HX8 := Aside0.mk hbox; have HB4 := Aside0.mk hb; have GE8 := Aside0.mk (Nat.le_of_eq hg.symm : w3.heap.size ≤ g8); have z8 : w4.cell? ⟨g8, 0, none⟩ = some (.slice none 0 0) := (blk_cell hbox 0).trans rfl; have f8 : w4.frozen? ⟨g8, 0, none⟩ = false := blk_frozen hbox 0; clear hbox hb hg)
      | ((with_reducible refine gate_store (t := 38) (p := 8) rfl ?_); refine store_event (t := 38) (p := 8) (v := .tmp 32) (w1 := w4.setCell ⟨g8, 0, none⟩ (.slice (some ⟨gs, 0, none⟩) hc.length cap)) ?hg ?ho ?hn ?hr ?_; (case ho => rfl); (case hg => rfl); (case hn => rfl); (case hr => first | (go_simp; done) | (go_simp; rfl)); intro w5 hw; have HF5 := Aside0.mk (impl_ClosedRooms.five HX8.out HB4.out GE8.out HB3.out HX6b.out HGS.out HXS.out hw); clear hw z8 f8; have zz0 : w5.cell? ⟨g6, 0, none⟩ = some (.int .i64 hn) := (blk_cell HF5.out.1 0).trans rfl; have zz1 : w5.cell? ⟨g6, 1, none⟩ = some (.slice A2 hl.length c2) := (blk_cell HF5.out.1 1).trans rfl; have zz2 : w5.cell? ⟨g6, 2, none⟩ = some (.slice A3 hc.length c3) := (blk_cell HF5.out.1 2).trans rfl; have zz3 : w5.cell? ⟨g6, 3, none⟩ = some (.slice A4 hbd.length c4) := (blk_cell HF5.out.1 3).trans rfl)
      | (go_at_call 32; refine (impl_house_entries.calls k hn A2 c2 hl A3 c3 hc A4 c4 hbd E w5 (Kd.C_below HL.out.2.2 HF5.out.2.1) HL.out.2.1 (Kd.C_below HCC.out.2.2 HF5.out.2.1) HCC.out.2.1 (Kd.C_below HBD.out.2.2 HF5.out.2.1) HBD.out.2.1 HE.out).mono ?_; rintro e w6 ⟨v6, rfl, hS, hb⟩; obtain ⟨A6, c6, e6⟩ := Kd.S_slice hS; subst e6; have HRE := Aside0.mk (Kd.S_R hS); have HB6 := Aside0.mk hb; clear hS hb zz0 zz1 zz2 zz3))
    have HP := Aside0.mk (And.intro hp1 hp2); have HROW := Aside0.mk (HF5.out.2.2.1 (by simp)); have HX6w := Aside0.mk ((HB6.out.block g6 (blk_lt HF5.out.1)).trans HF5.out.1); have HR6 := Aside0.mk (HROW.out.below HB6.out); have HG6 := Aside0.mk (below_step HF5.out.2.1 HB6.out); have HGL := Aside0.mk HF5.out.2.2.2; clear hp1 hp2
    go_loopg [37] E.length (fun gg v37 wr => ∃ (t : Nat) (b : List Bool), v37 = .int .i64 (t : Int) ∧ t ≤ E.length ∧ E.length - t ≤ gg ∧ Aside0 (impl_ClosedRooms.g1 k hn hl hc hbd (E.drop t) b = some b1) ∧ Aside0 (Below w1.heap.size w1 wr) ∧ Aside0 (Kept w6 wr (fun k_ => k_ = gs)) ∧ Aside0 (impl_ClosedRooms.Row wr g8 gs cap b) ∧ Aside0 (b.length = hc.length))
    case atStart => exact ⟨0, _, rfl, Nat.zero_le _, by omega, ⟨by rw [List.drop_zero]; first | exact HG1.out | (simp only [Int.toNat_natCast]; exact HG1.out)⟩, HG6, ⟨Kept.refl _ _⟩, HR6, ⟨by simp⟩⟩
    case round =>
      obtain ⟨t, b, rfl, ht, hg, HM, HG, HK, HR, HLN⟩ := hrel; have hx6 := (HK.out.2 g6 (blk_lt HX6w.out) (fun e_ => HNE6.out e_)).trans HX6w.out
      by_cases hlt : t < E.length
      · have hltz : (t : Int) < (E.length : Int) := by omega
        have hm := HM.out; rw [List.drop_eq_getElem_cons hlt, impl_ClosedRooms.g1] at hm
        have er : rd_L1 E (t : Int) = E[t] := by
          unfold rd_L1
          rw [Int.toNat_natCast, List.getD_eq_getElem?_getD, List.getElem?_eq_getElem hlt]; rfl
        rw [← er] at hm; obtain ⟨ad6, As, cs, e6, hx, hls, his⟩ := at_L1 (impl_ClosedRooms.stays HRE.out HGL.out wr HK.out) (t : Int) (by omega) hltz; subst e6; rw [Int.toNat_natCast] at hx; obtain ⟨s, hs⟩ : ∃ s : List Int, s = rd_L1 E (t : Int) := ⟨_, rfl⟩; rw [← hs] at hm hx hls his; clear er hs
        by_cases c1 : 1 < s.length
        · rw [if_pos c1] at hm
          obtain ⟨⟨x1, x2, x3⟩, hen, hm⟩ := Option.bind_eq_some_iff.mp hm
          by_cases c2 : x1.length ≤ 1000000
          · replace hm := (if_pos c2).symm.trans hm
            obtain ⟨b', hmk, hm⟩ := Option.bind_eq_some_iff.mp hm; have HEN := Aside0.mk hen; have HMK := Aside0.mk hmk; have HM2 := Aside0.mk (show impl_ClosedRooms.g1 k hn hl hc hbd (E.drop (t + 1)) b' = some b1 from hm); have HX1 := Aside0.mk c2; clear hen hmk hm c2; have p1 : (0 ≤ (t : Int)) = True := eq_true (by omega); have q1 : ((t : Int) < (E.length : Int)) = True := eq_true hltz; have p2 : (0 < s.length) = True := eq_true (by omega); have p3 : (1 < s.length) = True := eq_true c1; have p4 : ((0 : Int) < (s.length : Int)) = True := eq_true (by omega); have p5 : ((1 : Int) < (s.length : Int)) = True := eq_true (by omega); obtain ⟨adS, eS, hs0⟩ := Kd.at_int his 0 (by decide) (by omega); subst eS; obtain ⟨adS', eS, hs1⟩ := Kd.at_int his 1 (by decide) (by omega); obtain rfl : adS = adS' := by injection eS
            clear eS
            (try rw [show ((0 : Int)).toNat = 0 from rfl] at hs0)
            (try rw [Addr.add_zero'] at hs0)
            (try simp only [show (1 : Int).toNat = 1 from rfl, Nat.reduceMul, Nat.reduceEqDiff, Go.Addr.add, ↓reduceIte] at hs1)
            have z0 : wr.cell? ⟨g6, 0, none⟩ = some (.int .i64 hn) := (blk_cell hx6 0).trans rfl; have z1 : wr.cell? ⟨g6, 1, none⟩ = some (.slice A2 hl.length c2) := (blk_cell hx6 1).trans rfl; have z2 : wr.cell? ⟨g6, 2, none⟩ = some (.slice A3 hc.length c3) := (blk_cell hx6 2).trans rfl; have z3 : wr.cell? ⟨g6, 3, none⟩ = some (.slice A4 hbd.length c4) := (blk_cell hx6 3).trans rfl; have HD := Aside0.mk (below_drew1 (Below.refl wr.heap.size wr)); have HTT := Aside0.mk (And.intro ht (And.intro hg hlt)); have HIS := Aside0.mk his; clear hx6 his c1 ht hg hlt
            try go_wp2
            refine start_ (n := 15) (S := fun w' => w'.cell? ⟨g6, 0, none⟩ = some (.int .i64 hn) ∧ w'.cell? ⟨g6, 1, none⟩ = some (.slice A2 hl.length c2) ∧ w'.cell? ⟨g6, 2, none⟩ = some (.slice A3 hc.length c3) ∧ w'.cell? ⟨g6, 3, none⟩ = some (.slice A4 hbd.length c4) ∧ w'.cell? adS = some (.int .i64 (rd s 0)) ∧ w'.cell? ⟨adS.block, adS.off + 1, none⟩ = some (.int .i64 (rd s 1))) (ds := []) #[false, false, false, false, false, false, false, false, false, false, false, false, false, false, false] (by kernel_rfl) rfl rfl ⟨z0, z1, z2, z3, hs0, hs1⟩ (fun hHeld => ?_)
            refine with_tabW impl_ClosedRooms.tab9 impl_ClosedRooms.bits9 (fun HT_ HW_ => ?_)
            generalize wr.drew = wd at HD hHeld ⊢
            refine pure_ (i := 1) (N := some 43) (v := ?_) (a' := ?_) #[false, true, false, false, false, false, false, false, false, false, false, false, false, false, false] rfl rfl (any_of HT_.out (by kernel_rfl)) (fun _ _ _ h => h) (Or.inl ⟨by rfl, ?_⟩) ?_ ?_
            rotate_left
            · intro w'
              go_simp
              with_reducible rfl
            rotate_left
            · simp only [Act.put, List.setIfInBounds_toArray, List.set_cons_zero, List.set_cons_succ, i64_w, i32_w]
              rfl
            refine pure_ (i := 2) (N := some 44) (v := ?_) (a' := ?_) #[false, true, true, false, false, false, false, false, false, false, false, false, false, false, false] rfl rfl (any_of HT_.out (by kernel_rfl)) (fun _ _ _ h => h) (Or.inl ⟨by rfl, ?_⟩) ?_ ?_
            rotate_left
            · intro w'
              go_simp
              with_reducible rfl
            rotate_left
            · simp only [Act.put, List.setIfInBounds_toArray, List.set_cons_zero, List.set_cons_succ, i64_w, i32_w]
              rfl
            refine pure_ (i := 4) (N := some 46) (v := ?_) (a' := ?_) #[false, true, true, false, true, false, false, false, false, false, false, false, false, false, false] rfl rfl (any_of HT_.out (by kernel_rfl)) (fun _ _ _ h => h) (Or.inl ⟨by rfl, ?_⟩) ?_ ?_
            rotate_left
            · intro w'
              go_simp
              with_reducible rfl
            rotate_left
            · simp only [Act.put, List.setIfInBounds_toArray, List.set_cons_zero, List.set_cons_succ, i64_w, i32_w]
              rfl
            refine pure_ (i := 5) (N := some 47) (v := ?_) (a' := ?_) #[false, true, true, false, true, true, false, false, false, false, false, false, false, false, false] rfl rfl (any_of HT_.out (by kernel_rfl)) (fun _ _ _ h => h) (Or.inl ⟨by rfl, ?_⟩) ?_ ?_
            rotate_left
            · intro w'
              go_simp
              with_reducible rfl
            rotate_left
            · simp only [Act.put, List.setIfInBounds_toArray, List.set_cons_zero, List.set_cons_succ, i64_w, i32_w]
              rfl
            refine take_ (i := 0) (N := some 42) (v := ?_) (a' := ?_) #[true, true, true, false, true, true, false, false, false, false, false, false, false, false, false] rfl rfl (take_ofW HT_.out HW_.out (by kernel_rfl)) (fun _ _ _ h => h) (Or.inl ⟨by rfl, ?_⟩) hHeld ?_ ?_
            rotate_left
            · rintro w' ⟨s0, s1, s2, s3, s4, s5⟩
              go_simp
              with_reducible rfl
            rotate_left
            · simp only [Act.put, List.setIfInBounds_toArray, List.set_cons_zero, List.set_cons_succ, i64_w, i32_w]
              rfl
            refine take_ (i := 3) (N := some 45) (v := ?_) (a' := ?_) #[true, true, true, true, true, true, false, false, false, false, false, false, false, false, false] rfl rfl (take_ofW HT_.out HW_.out (by kernel_rfl)) (fun _ _ _ h => h) (Or.inl ⟨by rfl, ?_⟩) hHeld ?_ ?_
            rotate_left
            · rintro w' ⟨s0, s1, s2, s3, s4, s5⟩
              go_simp
              with_reducible rfl
            rotate_left
            · simp only [Act.put, List.setIfInBounds_toArray, List.set_cons_zero, List.set_cons_succ, i64_w, i32_w]
              rfl
            refine take_ (i := 6) (N := some 48) (v := ?_) (a' := ?_) #[true, true, true, true, true, true, true, false, false, false, false, false, false, false, false] rfl rfl (take_ofW HT_.out HW_.out (by kernel_rfl)) (fun _ _ _ h => h) (Or.inl ⟨by rfl, ?_⟩) hHeld ?_ ?_
            rotate_left
            · rintro w' ⟨s0, s1, s2, s3, s4, s5⟩
              go_simp
              with_reducible rfl
            rotate_left
            · simp only [Act.put, List.setIfInBounds_toArray, List.set_cons_zero, List.set_cons_succ, i64_w, i32_w]
              rfl
            refine one_ (i := 7) (N := some 49) #[true, true, true, true, true, true, true, true, false, false, false, false, false, false, false] rfl rfl (one_of HT_.out (by kernel_rfl)) (by decide) (fun K hK => ?_)
            refine goes_ Try.func33 (by kernel_rfl) rfl #[.agg #[.int .i64 hn, .slice A2 hl.length c2, .slice A3 hc.length c3, .slice A4 hbd.length c4], .int .i64 (rd s 0), .int .i64 (rd s 1)] (by rfl) rfl rfl TA ?_
            refine (impl_house_enter.calls k hn A2 c2 hl A3 c3 hc A4 c4 hbd (rd s 0) (rd s 1) x1 x2 x3 wd (Kd.C_below HL.out.2.2 (below_step HG.out HD.out)) HL.out.2.1 (Kd.C_below HCC.out.2.2 (below_step HG.out HD.out)) HCC.out.2.1 (Kd.C_below HBD.out.2.2 (below_step HG.out HD.out)) HBD.out.2.1 HEN.out).mono ?_
            rintro e w7 ⟨v7, v7', rfl, ho0, ho1, hb⟩
            have HS_ := And.intro ((hb.cell (World.block_lt_of_cell? _ _ hHeld.1)).trans hHeld.1) (And.intro ((hb.cell (World.block_lt_of_cell? _ _ hHeld.2.1)).trans hHeld.2.1) (And.intro ((hb.cell (World.block_lt_of_cell? _ _ hHeld.2.2.1)).trans hHeld.2.2.1) (And.intro ((hb.cell (World.block_lt_of_cell? _ _ hHeld.2.2.2.1)).trans hHeld.2.2.2.1) (And.intro ((hb.cell (World.block_lt_of_cell? _ _ hHeld.2.2.2.2.1)).trans hHeld.2.2.2.2.1) ((hb.cell (World.block_lt_of_cell? _ _ hHeld.2.2.2.2.2)).trans hHeld.2.2.2.2.2)))))
            refine ⟨_, rfl, ?_⟩
            obtain ⟨A7, c7, e7⟩ := Kd.R_slice ho0; subst e7; have HR7 := Aside0.mk ho0; have HB7 := Aside0.mk (below_step HD.out hb); have HSZ := Aside0.mk HD.out.size; clear ho0 ho1 hb
            refine hK.out _ _ HS_ (fun hHeld => ?_)
            clear hK K HS_
            refine norm_ (a' := ?_) ?_ ?_
            rotate_left
            · show Act.put _ (some 49) _ = _
              simp only [Act.put, List.setIfInBounds_toArray, List.set_cons_zero, List.set_cons_succ, i64_w, i32_w]
              rfl
            refine pure_ (i := 8) (N := some 41) (v := ?_) (a' := ?_) #[true, true, true, true, true, true, true, true, true, false, false, false, false, false, false] rfl rfl (any_of HT_.out (by kernel_rfl)) (fun _ _ _ h => h) (Or.inl ⟨by rfl, ?_⟩) ?_ ?_
            rotate_left
            · intro w'
              go_simp
              with_reducible rfl
            rotate_left
            · simp only [Act.put, List.setIfInBounds_toArray, List.set_cons_zero, List.set_cons_succ, i64_w, i32_w]
              rfl
            refine pure_ (i := 9) (N := some 50) (v := ?_) (a' := ?_) #[true, true, true, true, true, true, true, true, true, true, false, false, false, false, false] rfl rfl (any_of HT_.out (by kernel_rfl)) (fun _ _ _ h => h) (Or.inl ⟨by rfl, ?_⟩) ?_ ?_
            rotate_left
            · intro w'
              go_simp
              with_reducible rfl
            rotate_left
            · simp only [Act.put, List.setIfInBounds_toArray, List.set_cons_zero, List.set_cons_succ, i64_w, i32_w]
              rfl
            refine pure_ (i := 10) (N := some 51) (v := ?_) (a' := ?_) #[true, true, true, true, true, true, true, true, true, true, true, false, false, false, false] rfl rfl (any_of HT_.out (by kernel_rfl)) (fun _ _ _ h => h) (Or.inl ⟨by rfl, ?_⟩) ?_ ?_
            rotate_left
            · intro w'
              go_simp
              with_reducible rfl
            rotate_left
            · simp only [Act.put, List.setIfInBounds_toArray, List.set_cons_zero, List.set_cons_succ, i64_w, i32_w]
              rfl
            refine pure_ (i := 11) (N := some 52) (v := ?_) (a' := ?_) #[true, true, true, true, true, true, true, true, true, true, true, true, false, false, false] rfl rfl (any_of HT_.out (by kernel_rfl)) (fun _ _ _ h => h) (Or.inl ⟨by rfl, ?_⟩) ?_ ?_
            rotate_left
            · intro w'
              go_simp
              with_reducible rfl
            rotate_left
            · simp only [Act.put, List.setIfInBounds_toArray, List.set_cons_zero, List.set_cons_succ, i64_w, i32_w]
              rfl
            refine pure_ (i := 12) (N := some 12) (v := ?_) (a' := ?_) #[true, true, true, true, true, true, true, true, true, true, true, true, true, false, false] rfl rfl (any_of HT_.out (by kernel_rfl)) (fun _ _ _ h => h) (Or.inl ⟨by rfl, ?_⟩) ?_ ?_
            rotate_left
            · intro w'
              go_simp
              with_reducible rfl
            rotate_left
            · simp only [Act.put, List.setIfInBounds_toArray, List.set_cons_zero, List.set_cons_succ, i64_w, i32_w]
              rfl
            refine pure_ (i := 13) (N := some 13) (v := ?_) (a' := ?_) #[true, true, true, true, true, true, true, true, true, true, true, true, true, true, false] rfl rfl (any_of HT_.out (by kernel_rfl)) (fun _ _ _ h => h) (Or.inl ⟨by rfl, ?_⟩) ?_ ?_
            rotate_left
            · intro w'
              go_simp
              with_reducible rfl
            rotate_left
            · simp only [Act.put, List.setIfInBounds_toArray, List.set_cons_zero, List.set_cons_succ, i64_w, i32_w]
              rfl
            refine pure_ (i := 14) (N := some 14) (v := ?_) (a' := ?_) #[true, true, true, true, true, true, true, true, true, true, true, true, true, true, true] rfl rfl (any_of HT_.out (by kernel_rfl)) (fun _ _ _ h => h) (Or.inl ⟨by rfl, ?_⟩) ?_ ?_
            rotate_left
            · intro w'
              go_simp
              with_reducible rfl
            rotate_left
            · simp only [Act.put, List.setIfInBounds_toArray, List.set_cons_zero, List.set_cons_succ, i64_w, i32_w]
              rfl
            refine done_ (done_of HT_.out (by kernel_rfl)) ?_
            go_wp2_with (go_at_fn 31; fail)
            refine (impl_ClosedRooms.see (impl_ClosedRooms.stays HR7.out (impl_ClosedRooms.gs_lt HR.out HSZ.out)) HX1.out (HR.out.below HB7.out) HMK.out).mono ?_
            rintro e w8 ⟨rfl, ho, hk, hrow⟩
            have HO8 := Aside0.mk ho; have HK8 := Aside0.mk hk; have HR8 := Aside0.mk hrow; clear ho hk hrow
            go_wp2
            go_roundg (E.length - (t + 1))
            case measure => have := HTT.out; omega
            case rel =>
              have hT := HTT.out; have hEl := HEL.out
              exact ⟨t + 1, b', impl_ClosedRooms.nxt (by omega), by omega, by omega, HM2, ⟨impl_ClosedRooms.over (below_step HG.out HB7.out) HGS.out HO8.out HK8.out (below_step HG.out HB7.out).size⟩, ⟨(HK.out.below HB7.out).then_ HK8.out (fun _ h_ => .inl h_)⟩, HR8, ⟨(impl_ClosedRooms.mark_len _ _ _ HMK.out).trans HLN.out⟩⟩
          · have := (if_neg c2).symm.trans hm
            cases this
        · rw [if_neg c1] at hm
          cases hm
      · have hltz : ¬ (t : Int) < (E.length : Int) := by omega
        have hm := HM.out; rw [List.drop_eq_nil_of_le (by omega), impl_ClosedRooms.g1] at hm; have hbe := Option.some.inj hm; subst hbe; clear hm HM; have z0 : wr.cell? ⟨g6, 0, none⟩ = some (.int .i64 hn) := (blk_cell hx6 0).trans rfl; have z1 : wr.cell? ⟨g6, 1, none⟩ = some (.slice A2 hl.length c2) := (blk_cell hx6 1).trans rfl; have z2 : wr.cell? ⟨g6, 2, none⟩ = some (.slice A3 hc.length c3) := (blk_cell hx6 2).trans rfl; have z3 : wr.cell? ⟨g6, 3, none⟩ = some (.slice A4 hbd.length c4) := (blk_cell hx6 3).trans rfl; have HX6r := Aside0.mk hx6; clear hx6
        go_wp2_with (go_at_call 34; refine (impl_house_full.calls k hn A2 c2 hl A3 c3 hc A4 c4 hbd F wr (Kd.C_below HL.out.2.2 HG.out) HL.out.2.1 (Kd.C_below HCC.out.2.2 HG.out) HCC.out.2.1 (Kd.C_below HBD.out.2.2 HG.out) HBD.out.2.1 HF.out).mono ?_; rintro e w9 ⟨v9, rfl, hRf, hb⟩; obtain ⟨A9, c9, e9⟩ := Kd.R_slice hRf; subst e9; have HRF := Aside0.mk hRf; have HB9 := Aside0.mk hb; clear hRf hb z0 z1 z2 z3)
        have HG9 := Aside0.mk (below_step HG.out HB9.out); have HR9 := Aside0.mk (HR.out.below HB9.out); have HX69 := Aside0.mk ((HB9.out.block g6 (blk_lt HX6r.out)).trans HX6r.out); have HGL9 := Aside0.mk (impl_ClosedRooms.gs_lt HR.out (Nat.le_refl wr.heap.size)); clear HG HR HX6r
        go_loopg [60] F.length (fun gg v60 wq => ∃ (t : Nat) (b : List Bool), v60 = .int .i64 (t : Int) ∧ t ≤ F.length ∧ F.length - t ≤ gg ∧ Aside0 (impl_ClosedRooms.g2 k hn hl hc hbd (F.drop t) b = some b2) ∧ Aside0 (Below w1.heap.size w1 wq) ∧ Aside0 (Kept w9 wq (fun k_ => k_ = gs)) ∧ Aside0 (impl_ClosedRooms.Row wq g8 gs cap b) ∧ Aside0 (b.length = hc.length))
        case atStart => exact ⟨0, _, rfl, Nat.zero_le _, by omega, ⟨by rw [List.drop_zero]; exact HG2.out⟩, HG9, ⟨Kept.refl _ _⟩, HR9, HLN⟩
        case round =>
          clear HLN HR9 HG9 ht hg hlt hltz; obtain ⟨t, b, rfl, ht, hg, HM, HG, HK9, HR, HLN⟩ := hrel; have hx6 := (HK9.out.2 g6 (blk_lt HX69.out) (fun e_ => HNE6.out e_)).trans HX69.out
          by_cases hlt : t < F.length
          · have hltz : (t : Int) < (F.length : Int) := by omega
            have hm := HM.out; rw [List.drop_eq_getElem_cons hlt, impl_ClosedRooms.g2] at hm
            have er : rd F (t : Int) = F[t] := by
              unfold rd
              rw [Int.toNat_natCast, List.getD_eq_getElem?_getD, List.getElem?_eq_getElem hlt]; rfl
            rw [← er] at hm; obtain ⟨ad9, e9, hx⟩ := Kd.at_int (impl_ClosedRooms.stays HRF.out HGL9.out wr HK9.out) (t : Int) (by omega) hltz; subst e9; rw [Int.toNat_natCast] at hx; obtain ⟨q, hq⟩ : ∃ q : Int, q = rd F (t : Int) := ⟨_, rfl⟩; rw [← hq] at hm hx; clear er hq; obtain ⟨⟨x1, x3⟩, hen, hm⟩ := Option.bind_eq_some_iff.mp hm
            by_cases c2 : x1.length ≤ 1000000
            · replace hm := (if_pos c2).symm.trans hm
              obtain ⟨b', hmk, hm⟩ := Option.bind_eq_some_iff.mp hm; have HEN := Aside0.mk hen; have HMK := Aside0.mk hmk; have HM2 := Aside0.mk (show impl_ClosedRooms.g2 k hn hl hc hbd (F.drop (t + 1)) b' = some b2 from hm); have HX1 := Aside0.mk c2; clear hen hmk hm c2; have p1 : (0 ≤ (t : Int)) = True := eq_true (by omega); have q1 : ((t : Int) < (F.length : Int)) = True := eq_true hltz; have z0 : wr.cell? ⟨g6, 0, none⟩ = some (.int .i64 hn) := (blk_cell hx6 0).trans rfl; have z1 : wr.cell? ⟨g6, 1, none⟩ = some (.slice A2 hl.length c2) := (blk_cell hx6 1).trans rfl; have z2 : wr.cell? ⟨g6, 2, none⟩ = some (.slice A3 hc.length c3) := (blk_cell hx6 2).trans rfl; have z3 : wr.cell? ⟨g6, 3, none⟩ = some (.slice A4 hbd.length c4) := (blk_cell hx6 3).trans rfl; have HTT := Aside0.mk (And.intro ht (And.intro hg hlt)); clear hx6 ht hg hlt
              go_wp2_with (first
                | (go_at_call 35; refine (impl_house_leave.calls k hn A2 c2 hl A3 c3 hc A4 c4 hbd q x1 x3 wr (Kd.C_below HL.out.2.2 HG.out) HL.out.2.1 (Kd.C_below HCC.out.2.2 HG.out) HCC.out.2.1 (Kd.C_below HBD.out.2.2 HG.out) HBD.out.2.1 HEN.out).mono ?_; rintro e w7 ⟨v7, rfl, hR7, hb⟩; obtain ⟨A7, c7, e7⟩ := Kd.R_slice hR7; subst e7; have HR7 := Aside0.mk hR7; have HB7 := Aside0.mk hb; clear hR7 hb)
                | (go_at_fn 31; fail))
              refine (impl_ClosedRooms.see (impl_ClosedRooms.stays HR7.out (impl_ClosedRooms.gs_lt HR.out (Nat.le_refl _))) HX1.out (HR.out.below HB7.out) HMK.out).mono ?_
              rintro e w8 ⟨rfl, ho, hk, hrow⟩
              have HO8 := Aside0.mk ho; have HK8 := Aside0.mk hk; have HR8 := Aside0.mk hrow; clear ho hk hrow
              go_wp2
              go_roundg (F.length - (t + 1))
              case measure => have := HTT.out; omega
              case rel =>
                have hT := HTT.out; have hFl := HFL.out
                exact ⟨t + 1, b', impl_ClosedRooms.nxt (by omega), by omega, by omega, HM2, ⟨impl_ClosedRooms.over (below_step HG.out HB7.out) HGS.out HO8.out HK8.out (below_step HG.out HB7.out).size⟩, ⟨(HK9.out.below HB7.out).then_ HK8.out (fun _ h_ => .inl h_)⟩, HR8, ⟨(impl_ClosedRooms.mark_len _ _ _ HMK.out).trans HLN.out⟩⟩
            · have := (if_neg c2).symm.trans hm
              cases this
          · have hltz : ¬ (t : Int) < (F.length : Int) := by omega
            have hm := HM.out; rw [List.drop_eq_nil_of_le (by omega), impl_ClosedRooms.g2] at hm; have hbe := Option.some.inj hm; subst hbe; clear hm HM; have z2 : wr.cell? ⟨g6, 2, none⟩ = some (.slice A3 hc.length c3) := (blk_cell hx6 2).trans rfl; have HX6r := Aside0.mk hx6; clear hx6
            go_wp2
            go_loopg [77, 19] hc.length (fun gg v77 v19 wq => ∃ (t : Nat) (c : Int), v77 = .int .i64 (t : Int) ∧ v19 = .int .i64 c ∧ t ≤ hc.length ∧ hc.length - t ≤ gg ∧ Aside0 (impl_ClosedRooms.g3 k hn hl hc hbd b (hc.length - t) t c = some r1) ∧ Aside0 (Below w1.heap.size w1 wq) ∧ Aside0 (impl_ClosedRooms.Row wq g8 gs cap b) ∧ Aside0 (wq.heap[g6]? = some (.cells #[.int .i64 hn, .slice A2 hl.length c2, .slice A3 hc.length c3, .slice A4 hbd.length c4] 46 (0, 0))))
            case atStart => exact ⟨0, 0, rfl, rfl, Nat.zero_le _, by omega, HG3, HG, HR, HX6r⟩
            case round =>
              clear HG HR HX6r ht hg hlt hltz z2 HK9; obtain ⟨t, c, rfl, rfl, ht, hg, HM, HG, HR, HX⟩ := hrel
              by_cases hlt : t < hc.length
              · have hltz : (t : Int) < (hc.length : Int) := by omega
                have hm := HM.out; obtain ⟨d, hd⟩ : ∃ d, hc.length - t = d + 1 := ⟨hc.length - t - 1, by omega⟩; rw [hd, impl_ClosedRooms.g3] at hm; have hd2 : hc.length - (t + 1) = d := by omega
                have hbl : t < b.length := by have := HLN.out; omega
                obtain ⟨cur, hr1, hr2, hr3⟩ := HR.out.row; have eb : b.getD t false = b[t] := by rw [List.getD_eq_getElem?_getD, List.getElem?_eq_getElem hbl]; rfl
                have z8 : wr.cell? ⟨g8, 0, none⟩ = some (.slice (some ⟨gs, 0, none⟩) b.length cap) := (blk_cell HR.out.box 0).trans rfl; have zs : wr.cell? ⟨gs, t, none⟩ = some (.bool (b.getD t false)) := by rw [blk_cell hr1]; exact hr3 t _ (by rw [eb]; exact List.getElem?_eq_getElem hbl)
                have z0 : wr.cell? ⟨g6, 0, none⟩ = some (.int .i64 hn) := (blk_cell HX.out 0).trans rfl; have z1 : wr.cell? ⟨g6, 1, none⟩ = some (.slice A2 hl.length c2) := (blk_cell HX.out 1).trans rfl; have z2 : wr.cell? ⟨g6, 2, none⟩ = some (.slice A3 hc.length c3) := (blk_cell HX.out 2).trans rfl; have z3 : wr.cell? ⟨g6, 3, none⟩ = some (.slice A4 hbd.length c4) := (blk_cell HX.out 3).trans rfl; have p1 : (0 ≤ (t : Int)) = True := eq_true (by omega); have q1 : ((t : Int) < (b.length : Int)) = True := eq_true (by omega); have HTT := Aside0.mk (And.intro ht (And.intro hg (And.intro hlt hd2))); clear eb hr1 hr2 hr3 hbl ht hg hlt hd hd2
                by_cases cb : b.getD t false = true
                · rw [if_pos cb] at hm
                  rw [cb] at zs; have HM2 := Aside0.mk hm; clear hm cb
                  go_wp2
                  go_roundg (hc.length - (t + 1))
                  case measure => have := HTT.out; omega
                  case rel =>
                    have hT := HTT.out; have hP := HP.out
                    exact ⟨t + 1, c, impl_ClosedRooms.nxt (by omega), rfl, by omega, by omega, ⟨by rw [hT.2.2.2]; exact HM2.out⟩, HG, HR, HX⟩
                · rw [if_neg cb] at hm
                  rw [Bool.eq_false_iff.mpr cb] at zs; obtain ⟨D, hD, hm⟩ := Option.bind_eq_some_iff.mp hm; have HDD := Aside0.mk hD; clear hD cb
                  by_cases c2 : (D.length : Int) = 2
                  · rw [if_pos c2] at hm
                    have HM2 := Aside0.mk hm; have cz : ((D.length : Int) == 2) = true := beq_iff_eq.2 c2; clear hm c2
                    go_wp2_with (first | (go_at_call 36; refine (impl_house_doors.calls k hn A2 c2 hl A3 c3 hc A4 c4 hbd (t : Int) D wr (Kd.C_below HL.out.2.2 HG.out) HL.out.2.1 (Kd.C_below HCC.out.2.2 HG.out) HCC.out.2.1 (Kd.C_below HBD.out.2.2 HG.out) HBD.out.2.1 HDD.out).mono ?_; rintro e w12 ⟨v12, rfl, hN, hb⟩; obtain ⟨A12, c12, e12⟩ := Kd.N_slice hN; subst e12; have HB12 := Aside0.mk hb; clear hN hb))
                    go_roundg (hc.length - (t + 1))
                    case measure => have := HTT.out; omega
                    case rel =>
                      have hT := HTT.out; have hP := HP.out
                      exact ⟨t + 1, wrap64 (c + 1), impl_ClosedRooms.nxt (by omega), rfl, by omega, by omega, ⟨by rw [hT.2.2.2]; exact HM2.out⟩, ⟨below_step HG.out HB12.out⟩, ⟨HR.out.below HB12.out⟩, ⟨(HB12.out.block g6 (blk_lt HX.out)).trans HX.out⟩⟩
                  · rw [if_neg c2] at hm
                    have HM2 := Aside0.mk hm; have cz : ((D.length : Int) == 2) = false := beq_eq_false_iff_ne.2 c2; clear hm c2
                    go_wp2_with (first | (go_at_call 36; refine (impl_house_doors.calls k hn A2 c2 hl A3 c3 hc A4 c4 hbd (t : Int) D wr (Kd.C_below HL.out.2.2 HG.out) HL.out.2.1 (Kd.C_below HCC.out.2.2 HG.out) HCC.out.2.1 (Kd.C_below HBD.out.2.2 HG.out) HBD.out.2.1 HDD.out).mono ?_; rintro e w12 ⟨v12, rfl, hN, hb⟩; obtain ⟨A12, c12, e12⟩ := Kd.N_slice hN; subst e12; have HB12 := Aside0.mk hb; clear hN hb))
                    go_roundg (hc.length - (t + 1))
                    case measure => have := HTT.out; omega
                    case rel =>
                      have hT := HTT.out; have hP := HP.out
                      exact ⟨t + 1, c, impl_ClosedRooms.nxt (by omega), rfl, by omega, by omega, ⟨by rw [hT.2.2.2]; exact HM2.out⟩, ⟨below_step HG.out HB12.out⟩, ⟨HR.out.below HB12.out⟩, ⟨(HB12.out.block g6 (blk_lt HX.out)).trans HX.out⟩⟩
              · have hltz : ¬ (t : Int) < (hc.length : Int) := by omega
                have hm := HM.out; rw [show hc.length - t = 0 by omega, impl_ClosedRooms.g3] at hm; have hbe := Option.some.inj hm; subst hbe
                go_wp2
                go_ret2
                exact ⟨rfl, below_step HB1.out HG.out⟩

end Go.Proofs.Ytgpplbaloajgdab.PFnExactClosedRooms
