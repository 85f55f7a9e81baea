-- Written by a program of this session (wip/tools/pp.sh) out of the translation; Lean checks it.
import Derived.Test.YtafjjbkkcedgnabPFnDoorsOfRoomsx0
import Derived.Test.YtafjjbkkcedgnabPFnDoorsOfRoomsx4
import Derived.Test.YtafjjbkkcedgnabPFnDoorsOfRoomsx5
import Derived.Test.YtafjjbkkcedgnabPFnDoorsOfRoomsx7
namespace Go.Proofs.Ytafjjbkkcedgnab.PFnDoorsOfRooms
open Go.RowKit Go.Proofs.YtafjjbkkcedgnabOwn Go.Proofs.YtafjjbkkcedgnabW.PrintWords Go.Proofs.YtafjjbkkcedgnabW.PrintLast Go.Proofs.YtafjjbkkcedgnabW.PrintMore
attribute [local go_sem] max2_int min2_int max_two min_two max_three min_three max_four min_four   -- for this text's walks alone
set_option linter.unusedVariables false
set_option maxHeartbeats 8000000
set_option maxRecDepth 100000
set_option linter.unusedSimpArgs false

/-! ### impl_DoorsOf: function 14 -/
mutual
def impl_DoorsOf.l0 : Nat → List (List Int) → List (S67) → List (S67) → Int → Int → Int → List Int → List (List Int) → List Int → Option ((List (List Int)) × Bool)
 | 0, _, _, _, _, _, _, _, _, _ => none
 | k + 1, x8, x9, x24, x25, x26, x475000, x475001, x475002, x475003 => if x26 < x25 then (if 0 ≤ x26 then (if x26 < (x24.length : Int) then (impl_DoorsOf.l1 k x8 x9 x26 (wrap64 (x26 + 1)) x24 x25 x26 x475000 x475001 x475002 x475003 ((rd_T67 x24 x26).f0) ((rd_T67 x24 x26).f1) ((rd_T67 x24 x26).f2)) else (none)) else (none)) else (some (x8, true))
def impl_DoorsOf.l1 : Nat → List (List Int) → List (S67) → Int → Int → List (S67) → Int → Int → Int → List Int → List (List Int) → List Int → Int → Int → Int → Option ((List (List Int)) × Bool)
 | 0, _, _, _, _, _, _, _, _, _, _, _, _, _, _ => none
 | k + 1, x8, x9, x10, x12, x24, x25, x26, x475000, x475001, x475002, x475003, x483000, x483001, x483002 => if x12 < (x9.length : Int) then (if 0 ≤ x12 then ((impl_near.f k x483000 x483001 x483002 ((rd_T67 x9 x12).f0) ((rd_T67 x9 x12).f1) ((rd_T67 x9 x12).f2)).bind fun t484 => (if t484 = true then ((impl_house_isDoor.f x475000 x475001 x475002 x475003 x10 x12).bind fun t485 => (if t485 = true then (if x8.length < 5864062014805 then (impl_DoorsOf.l1 k (x8 ++ [(([x10, x12] : List Int))]) x9 x10 (wrap64 (x12 + 1)) x24 x25 x26 x475000 x475001 x475002 x475003 x483000 x483001 x483002) else (none)) else (impl_DoorsOf.l1 k x8 x9 x10 (wrap64 (x12 + 1)) x24 x25 x26 x475000 x475001 x475002 x475003 x483000 x483001 x483002))) else (impl_DoorsOf.l1 k x8 x9 x10 (wrap64 (x12 + 1)) x24 x25 x26 x475000 x475001 x475002 x475003 x483000 x483001 x483002))) else (none)) else (impl_DoorsOf.l0 k x8 x9 x24 x25 (wrap64 (x26 + 1)) x475000 x475001 x475002 x475003)
end
def impl_DoorsOf.f (k : Nat) (a0 : Int) (l1 : List Int) : Option ((List (List Int)) × Bool) := (impl_houseOf.f k a0 l1).bind fun bt463 => (if bt463.2.2.2.2 = true then ((impl_points.f k a0).bind fun t478 => (impl_DoorsOf.l0 k (([] : List (List Int))) t478 t478 (t478.length : Int) 0 bt463.1 bt463.2.1 bt463.2.2.1 bt463.2.2.2.1)) else (some (([] : List (List Int)), false)))
theorem impl_DoorsOf.mono_l : ∀ k, (∀ y0 y1 y2 y3 y4 y5 y6 y7 y8, LeO (impl_DoorsOf.l0 k y0 y1 y2 y3 y4 y5 y6 y7 y8) (impl_DoorsOf.l0 (k + 1) y0 y1 y2 y3 y4 y5 y6 y7 y8)) ∧ (∀ y0 y1 y2 y3 y4 y5 y6 y7 y8 y9 y10 y11 y12 y13, LeO (impl_DoorsOf.l1 k y0 y1 y2 y3 y4 y5 y6 y7 y8 y9 y10 y11 y12 y13) (impl_DoorsOf.l1 (k + 1) y0 y1 y2 y3 y4 y5 y6 y7 y8 y9 y10 y11 y12 y13))
 | 0 => ⟨fun _ _ _ _ _ _ _ _ _ r h => by simp [impl_DoorsOf.l0] at h, fun _ _ _ _ _ _ _ _ _ _ _ _ _ _ r h => by simp [impl_DoorsOf.l1] at h⟩
 | k + 1 => by
  obtain ⟨ih0, ih1⟩ := impl_DoorsOf.mono_l k
  refine ⟨?_, ?_⟩
  ·intro y0 y1 y2 y3 y4 y5 y6 y7 y8
   unfold impl_DoorsOf.l0
   repeat' first
   | with_reducible first | exact ih0 _ _ _ _ _ _ _ _ _ | exact ih1 _ _ _ _ _ _ _ _ _ _ _ _ _ _ | exact impl_houseOf.mono _ _ _ | exact impl_near.mono _ _ _ _ _ _ _ | exact impl_points.mono _ _ | exact LeO.refl _ | exact LeO.none _ | refine LeO.ite ?_ ?_ | refine LeO.bind ?_ (fun _ => ?_)
   | exact LeO.none _ | refine LeO.ite ?_ ?_ | refine LeO.bind ?_ (fun _ => ?_)
  ·intro y0 y1 y2 y3 y4 y5 y6 y7 y8 y9 y10 y11 y12 y13
   unfold impl_DoorsOf.l1
   repeat' first
   | with_reducible first | exact ih0 _ _ _ _ _ _ _ _ _ | exact ih1 _ _ _ _ _ _ _ _ _ _ _ _ _ _ | exact impl_houseOf.mono _ _ _ | exact impl_near.mono _ _ _ _ _ _ _ | exact impl_points.mono _ _ | exact LeO.refl _ | exact LeO.none _ | refine LeO.ite ?_ ?_ | refine LeO.bind ?_ (fun _ => ?_)
   | exact LeO.none _ | refine LeO.ite ?_ ?_ | refine LeO.bind ?_ (fun _ => ?_)
theorem impl_DoorsOf.mono : ∀ a0 a1 k, LeO (impl_DoorsOf.f k a0 a1) (impl_DoorsOf.f (k + 1) a0 a1) := by
 intro a0 a1 k
 obtain ⟨ih0, ih1⟩ := impl_DoorsOf.mono_l k
 unfold impl_DoorsOf.f
 repeat' first
   | with_reducible first | exact ih0 _ _ _ _ _ _ _ _ _ | exact ih1 _ _ _ _ _ _ _ _ _ _ _ _ _ _ | exact impl_houseOf.mono _ _ _ | exact impl_near.mono _ _ _ _ _ _ _ | exact impl_points.mono _ _ | exact LeO.refl _ | exact LeO.none _ | refine LeO.ite ?_ ?_ | refine LeO.bind ?_ (fun _ => ?_)
   | exact LeO.none _ | refine LeO.ite ?_ ?_ | refine LeO.bind ?_ (fun _ => ?_)
def impl_DoorsOf.T11 : Bool × List (List Nat × List Nat) := (true, [([], []), ([], []), ([], []), ([1, 2], [1, 2]), ([3], [3]), ([0, 4], [0, 4]), ([5, 5], [5]), ([6], [6]), ([6], [6]), ([6], [6]), ([7, 8, 9, 6, 6], [6, 7, 8, 9]), ([6, 10], [6, 10])])
def impl_DoorsOf.B11 : List Nat := [0, 0, 0, 6, 14, 31, 63, 127, 127, 127, 1023, 2047]
theorem impl_DoorsOf.tab11 : rtab .any (opsOf Try.f14 11) = impl_DoorsOf.T11 := by kernel_rfl
theorem impl_DoorsOf.bits11 : waitsOk impl_DoorsOf.T11.2 impl_DoorsOf.B11 = true := by kernel_rfl
theorem impl_DoorsOf.calls (k : Nat) (a0 : Int) (A1 : Option Addr) (c1 : Nat) (l1 : List Int) (r1 : List (List Int)) (r2 : Bool) (w : World) (hr1 : Kd.C (Kd.int .i64) w A1 l1.length l1) (hc1 : l1.length ≤ c1) (h : impl_DoorsOf.f k a0 l1 = some (r1, r2)) :
  Calls Try.prog 14 #[.int .i64 a0, .slice A1 l1.length c1] w fun e w' => ∃ v0_ : Value, e = .returned (.tuple #[v0_, .bool r2]) ∧ Kd.S (Kd.slice 3 (Kd.int .i64)) 24 w' w.heap.size (fun _ => True) v0_ r1 ∧ Below w.heap.size w w' := by
 have hu55 := Try.underlying55
 have hu67 := Try.underlying67
 have HR1 := Aside0.mk hr1
 have HC1 := Aside0.mk hc1
 clear hr1 hc1
 have HB := Aside0.mk (Below.refl w.heap.size w)
 have H : ((impl_houseOf.f k a0 l1).bind fun bt463 => (if bt463.2.2.2.2 = true then ((impl_points.f k a0).bind fun t478 => (impl_DoorsOf.l0 k (([] : List (List Int))) t478 t478 (t478.length : Int) 0 bt463.1 bt463.2.1 bt463.2.2.1 bt463.2.2.2.1)) else (some (([] : List (List Int)), false)))) = some (r1, r2) := h
 clear h
 obtain ⟨⟨t463, t464, t467, t470, t473⟩, A30, H⟩ := Option.bind_eq_some_iff.mp H
 replace H : (if t473 = true then ((impl_points.f k a0).bind fun t478 => (impl_DoorsOf.l0 k (([] : List (List Int))) t478 t478 (t478.length : Int) 0 t463 t464 t467 t470)) else (some (([] : List (List Int)), false))) = some (r1, r2) := H
 have A3 := Aside0.mk A30
 clear A30
 by_cases c4 : t473 = true
 ·subst c4
  replace H := IP H
  obtain ⟨y475, hy475⟩ : ∃ y_ : List (List Int), y_ = (([] : List (List Int))) := ⟨_, rfl⟩
  replace H : ((impl_points.f k a0).bind fun t478 => (impl_DoorsOf.l0 k y475 t478 t478 (t478.length : Int) 0 t463 t464 t467 t470)) = some (r1, r2) := HY H hy475
  have Ny475 := Aside0.mk hy475
  clear hy475
  obtain ⟨t478, A50, H⟩ := Option.bind_eq_some_iff.mp H
  have A5 := Aside0.mk A50
  clear A50
  have H' := Aside0.mk H
  clear H
  go_enter Try.func14, Try.ntmps14
  go_wp2_with (first | ((with_reducible refine gate_callee (f := 36) rfl ?_); refine goesL_ (some 16) rfl rfl Try.func36 (by kernel_rfl) rfl #[.int .i64 a0, .slice A1 l1.length c1] rfl TA ?_; (with_reducible refine (impl_houseOf.calls k a0 (fun k_ => k_ < w.heap.size) _ _ l1 t463 t464 t467 t470 true _ ?side1 A3.out).mono ?_); (case side1 => exact Kd.V_mk HC1.out (Kd.F_below (Kd.C_F (Kd.heap_int .i64) HR1.out) BB)); rintro e w6 ⟨v465, v468, v471, rfl, ho0, ho1, ho2, hb⟩; refine ⟨_, rfl, ?_⟩; have n0_ := Aside0.mk (Kd.V_lower (Kd.V_mono (ok' := fun k_ => some k_ ≠ (v468 : Value).ownBlock ∧ some k_ ≠ (v471 : Value).ownBlock) ho0 (fun k_ hk_ => ⟨hk_.2.1, hk_.2.2⟩)) (below_size BB)); have n1_ := Aside0.mk (Kd.S_lower (Kd.S_mono (ok' := fun k_ => some k_ ≠ (v471 : Value).ownBlock) ho1 (fun _ hk_ => hk_.2)) (below_size BB)); have n2_ := Aside0.mk (Kd.R_lower (Kd.R_mono (ok' := fun k_ => True) ho2 (fun _ hk_ => trivial)) (below_size BB)); have n3_ := Aside0.mk (below_step BB hb); clear HB; have HO466 := n0_; have HO469 := n1_; have HO472 := n2_; have HB := n3_; clear n0_ n1_ n2_ n3_; (try clear hb); (try clear hb2); (try clear hk); (try clear hi); (try clear ho0); (try clear ho1); (try clear ho2)) | ((with_reducible refine gate_dst (N := 6) rfl ?_); refine box_event ?hg (N := 6) ?hd (cs := #[.int .i64 0, .slice none 0 0, .slice none 0 0, .slice none 0 0]) (t := 55) ?hr ?_; (case hd => rfl); (case hg => rfl); (case hr => exact GS); intro gb474 hg w7 hbox hb; have n0_ := Aside0.mk (Kd.V_below (Kd.V_elderB (by (with_reducible repeat (first | apply Kd.V_alloc | apply Kd.V_drewN | apply Kd.V_drew)); exact HO466.out) gb474 (Nat.le_of_eq hg.symm)) hb); have n1_ := Aside0.mk (Kd.S_below (KS HO469) hb); have n2_ := Aside0.mk (Kd.R_below (KR HO472) hb); have n3_ := Aside0.mk (below_step BB hb); have n4_ := Aside0.mk (hbox); have n5_ := Aside0.mk ((by rw [hg]; exact (below_size BB) : w.heap.size ≤ gb474)); have n6_ := Aside0.mk ((by rw [hg]; exact (below_size BB) : w.heap.size ≤ gb474)); clear HO466; clear HO469; clear HO472; clear HB; have HO466 := n0_; have HO469 := n1_; have HO472 := n2_; have HB := n3_; have BK474 := n4_; have GW474 := n5_; have GE474 := n6_; clear n0_ n1_ n2_ n3_ n4_ n5_ n6_; clear hb hbox hg; have hcz8_0 : w7.cell? ⟨gb474, 0, none⟩ = some (.int .i64 0) := (blk_cell BK474.out 0).trans rfl; have hcz8_1 : w7.cell? ⟨gb474, 1, none⟩ = some (.slice none 0 0) := (blk_cell BK474.out 1).trans rfl; have hcz8_2 : w7.cell? ⟨gb474, 2, none⟩ = some (.slice none 0 0) := (blk_cell BK474.out 2).trans rfl; have hcz8_3 : w7.cell? ⟨gb474, 3, none⟩ = some (.slice none 0 0) := (blk_cell BK474.out 3).trans rfl; have hfz8_0 := blk_frozen BK474.out 0; have hfz8_1 := blk_frozen BK474.out 1; have hfz8_2 := blk_frozen BK474.out 2; have hfz8_3 := blk_frozen BK474.out 3; obtain ⟨Ao9, co9, eo9⟩ := Kd.V_slice HO466.out; subst eo9; obtain ⟨Ao10, co10, eo10⟩ := Kd.S_slice HO469.out; subst eo10; obtain ⟨Ao11, co11, eo11⟩ := Kd.R_slice HO472.out; subst eo11) | ((with_reducible refine gate_dst (N := 21) rfl ?_); refine Kd.S_lit (Kd.slice 3 (Kd.int .i64)) _ 24 ?hg (N := 21) ?hd (xs := ([] : List (List Int))) (inner := []) (ok := fun _ => True) (okp := fun _ => True) ?hr ?hp (fun _ hk => hk) trivial (Below.refl _ _) (Nat.le_refl _) (by simp) ?_; (case hd => rfl); (case hg => rfl); (case hr => exact GS); (case hp => exact (Reps.none _ _)); intro v476 w12 ho13 hb hg_ hnew_; clear hg_ hnew_; (first | rw [← Ny475.out] at ho13 | (simp only [Int.reduceToNat] at ho13; rw [← Ny475.out] at ho13)); have n0_ := Aside0.mk (Kd.V_elder' (by (with_reducible repeat (first | apply Kd.V_alloc | apply Kd.V_drewN | apply Kd.V_drew)); exact (Kd.V_mono (Kd.V_far (p := ⟨gb474, 3, none⟩) (Kd.V_far (p := ⟨gb474, 2, none⟩) (Kd.V_far (p := ⟨gb474, 1, none⟩) (Kd.V_far (p := ⟨gb474, 0, none⟩) (Kd.V_mono HO466.out (fun k_ hk => (⟨hk, hk.2⟩ : _ ∧ k_ ≠ gb474))) (fun _ hk => hk.2) (.int .i64 t463)) (fun _ hk => hk.2) (.slice Ao9 t464.length co9)) (fun _ hk => hk.2) (.slice Ao10 t467.length co10)) (fun _ hk => hk.2) (.slice Ao11 t470.length co11)) (fun _ h_ => h_.1))) (Kd.S_base ho13) hb); have n1_ := Aside0.mk (Kd.S_elder' (by (with_reducible repeat (first | apply Kd.S_alloc | apply Kd.S_drewN | apply Kd.S_drew)); exact (Kd.S_mono (Kd.S_far (p := ⟨gb474, 3, none⟩) (Kd.S_far (p := ⟨gb474, 2, none⟩) (Kd.S_far (p := ⟨gb474, 1, none⟩) (Kd.S_far (p := ⟨gb474, 0, none⟩) (Kd.S_types HO469.out BK474.out (by decide)) (fun _ hk => hk.2) (.int .i64 t463)) (fun _ hk => hk.2) (.slice Ao9 t464.length co9)) (fun _ hk => hk.2) (.slice Ao10 t467.length co10)) (fun _ hk => hk.2) (.slice Ao11 t470.length co11)) (fun _ h_ => h_.1))) (Kd.S_base ho13) hb); have n2_ := Aside0.mk (Kd.R_below (by (with_reducible repeat (first | apply Kd.R_alloc | apply Kd.R_drewN | apply Kd.R_drew)); exact (Kd.R_mono (Kd.R_far (p := ⟨gb474, 3, none⟩) (Kd.R_far (p := ⟨gb474, 2, none⟩) (Kd.R_far (p := ⟨gb474, 1, none⟩) (Kd.R_far (p := ⟨gb474, 0, none⟩) (Kd.R_types HO472.out BK474.out (by decide)) (fun _ hk => hk.2) (.int .i64 t463)) (fun _ hk => hk.2) (.slice Ao9 t464.length co9)) (fun _ hk => hk.2) (.slice Ao10 t467.length co10)) (fun _ hk => hk.2) (.slice Ao11 t470.length co11)) (fun _ h_ => h_.1))) hb); have n3_ := Aside0.mk (Kd.S_lower (Kd.S_new' (Kd.S_new' ho13 (Kd.S_lt (by (with_reducible repeat (first | apply Kd.S_alloc | apply Kd.S_drewN | apply Kd.S_drew)); exact (Kd.S_mono (Kd.S_far (p := ⟨gb474, 3, none⟩) (Kd.S_far (p := ⟨gb474, 2, none⟩) (Kd.S_far (p := ⟨gb474, 1, none⟩) (Kd.S_far (p := ⟨gb474, 0, none⟩) (Kd.S_types HO469.out BK474.out (by decide)) (fun _ hk => hk.2) (.int .i64 t463)) (fun _ hk => hk.2) (.slice Ao9 t464.length co9)) (fun _ hk => hk.2) (.slice Ao10 t467.length co10)) (fun _ hk => hk.2) (.slice Ao11 t470.length co11)) (fun _ h_ => h_.1))))) (Kd.R_lt (by (with_reducible repeat (first | apply Kd.R_alloc | apply Kd.R_drewN | apply Kd.R_drew)); exact (Kd.R_mono (Kd.R_far (p := ⟨gb474, 3, none⟩) (Kd.R_far (p := ⟨gb474, 2, none⟩) (Kd.R_far (p := ⟨gb474, 1, none⟩) (Kd.R_far (p := ⟨gb474, 0, none⟩) (Kd.R_types HO472.out BK474.out (by decide)) (fun _ hk => hk.2) (.int .i64 t463)) (fun _ hk => hk.2) (.slice Ao9 t464.length co9)) (fun _ hk => hk.2) (.slice Ao10 t467.length co10)) (fun _ hk => hk.2) (.slice Ao11 t470.length co11)) (fun _ h_ => h_.1))))) (below_size (AGE GE474))); have n4_ := Aside0.mk (blk_below (g := gb474) (o := .cells #[.int .i64 t463, .slice Ao9 t464.length co9, .slice Ao10 t467.length co10, .slice Ao11 t470.length co11] 55 (0, 0)) (by (with_reducible repeat (first | refine blk_drewN ?_ _ | refine blk_drew ?_ | refine blk_alloc ?_ _)); refine blk_put (cs := #[.int .i64 t463, .slice Ao9 t464.length co9, .slice Ao10 t467.length co10, .slice none 0 0]) ?_ 3 _ rfl; (with_reducible repeat (first | refine blk_drewN ?_ _ | refine blk_drew ?_ | refine blk_alloc ?_ _)); refine blk_put (cs := #[.int .i64 t463, .slice Ao9 t464.length co9, .slice none 0 0, .slice none 0 0]) ?_ 2 _ rfl; (with_reducible repeat (first | refine blk_drewN ?_ _ | refine blk_drew ?_ | refine blk_alloc ?_ _)); refine blk_put (cs := #[.int .i64 t463, .slice none 0 0, .slice none 0 0, .slice none 0 0]) ?_ 1 _ rfl; (with_reducible repeat (first | refine blk_drewN ?_ _ | refine blk_drew ?_ | refine blk_alloc ?_ _)); refine blk_put (cs := #[.int .i64 0, .slice none 0 0, .slice none 0 0, .slice none 0 0]) ?_ 0 _ rfl; (with_reducible repeat (first | refine blk_drewN ?_ _ | refine blk_drew ?_ | refine blk_alloc ?_ _)); exact BK474.out) hb); have n5_ := Aside0.mk (below_step (AGE GE474) hb); clear HO466; clear HO469; clear HO472; clear BK474; clear HB; have HO466 := n0_; have HO469 := n1_; have HO472 := n2_; have HO477 := n3_; have BK474 := n4_; have HB := n5_; clear n0_ n1_ n2_ n3_ n4_ n5_; clear hb ho13) | ((with_reducible refine gate_callee (f := 45) rfl ?_); refine goesL_ (some 23) rfl rfl Try.func45 (by kernel_rfl) rfl #[.int .i64 a0] rfl TA ?_; (with_reducible refine (impl_points.calls k a0 t478 _ A5.out).mono ?_); rintro e w14 ⟨v479, rfl, ho0, hb⟩; refine ⟨_, rfl, ?_⟩; have n0_ := Aside0.mk (Kd.V_elder' (by (with_reducible repeat (first | apply Kd.V_alloc | apply Kd.V_drewN | apply Kd.V_drew)); exact HO466.out) (Kd.R_base ho0) hb); have n1_ := Aside0.mk (Kd.S_below (KS HO469) hb); have n2_ := Aside0.mk (Kd.R_below (KR HO472) hb); have n3_ := Aside0.mk (Kd.S_below (KS HO477) hb); have n4_ := Aside0.mk (Kd.R_lower ho0 (below_size (AGE GE474))); have n5_ := Aside0.mk (blk_below (g := gb474) (o := .cells #[.int .i64 t463, .slice Ao9 t464.length co9, .slice Ao10 t467.length co10, .slice Ao11 t470.length co11] 55 (0, 0)) (BW BK474) hb); have n6_ := Aside0.mk (below_step (AGE GE474) hb); clear HO466; clear HO469; clear HO472; clear HO477; clear BK474; clear HB; have HO466 := n0_; have HO469 := n1_; have HO472 := n2_; have HO477 := n3_; have HO480 := n4_; have BK474 := n5_; have HB := n6_; clear n0_ n1_ n2_ n3_ n4_ n5_ n6_; (try clear hb); (try clear hb2); (try clear hk); (try clear hi); (try clear ho0); obtain ⟨Ao15, co15, eo15⟩ := Kd.R_slice HO480.out; subst eo15))
  go_loopg [8, 26] k (fun kq v8 v26 w' => ∃ (x8_1 : List (List Int)) (x26_1 : Int), v26 = .int .i64 x26_1 ∧ Aside0 (impl_DoorsOf.l0 kq x8_1 t478 t478 (t478.length : Int) x26_1 t463 t464 t467 t470 = some (r1, r2)) ∧ Aside0 (kq ≤ k) ∧ Aside0 (Kd.S (Kd.slice 3 (Kd.int .i64)) 24 w' w.heap.size (fun k_ => some k_ ≠ ((.slice Ao10 t467.length co10) : Value).ownBlock ∧ some k_ ≠ ((.slice Ao11 t470.length co11) : Value).ownBlock) v8 x8_1) ∧ Aside0 (Kd.R k67 67 w' w.heap.size (fun _ => True) (.slice Ao15 t478.length co15) t478) ∧ Aside0 (Kd.R k67 67 w' w.heap.size (fun _ => True) (.slice Ao15 t478.length co15) t478) ∧ Aside0 (Kd.V (Kd.int .i64) 3 w' w.heap.size (fun k_ => some k_ ≠ (v8 : Value).ownBlock ∧ some k_ ≠ ((.slice Ao15 t478.length co15) : Value).ownBlock ∧ some k_ ≠ ((.slice Ao15 t478.length co15) : Value).ownBlock ∧ some k_ ≠ ((.slice Ao10 t467.length co10) : Value).ownBlock ∧ some k_ ≠ ((.slice Ao11 t470.length co11) : Value).ownBlock ∧ k_ ≠ gb474) (.slice Ao9 t464.length co9) t464) ∧ Aside0 (Kd.S (Kd.slice 3 (Kd.int .i64)) 24 w' w.heap.size (fun k_ => some k_ ≠ (v8 : Value).ownBlock ∧ some k_ ≠ ((.slice Ao11 t470.length co11) : Value).ownBlock) (.slice Ao10 t467.length co10) t467) ∧ Aside0 (Kd.R (Kd.int .i64) 3 w' w.heap.size (fun _ => True) (.slice Ao11 t470.length co11) t470) ∧ Aside0 (w'.heap[gb474]? = some (.cells #[.int .i64 t463, (.slice Ao9 t464.length co9), (.slice Ao10 t467.length co10), (.slice Ao11 t470.length co11)] 55 (0, 0))) ∧ Aside0 (Below w.heap.size w w'))
  case atStart => exact ⟨(y475), (0), RF, H', ⟨Nat.le_refl _⟩, ⟨by (with_reducible repeat (first | apply Kd.S_alloc | apply Kd.S_drewN | apply Kd.S_drew)); exact Kd.S_mono HO477.out (fun _ hk => ⟨hk.1.2, hk.2⟩)⟩, ⟨KR HO480⟩, ⟨KR HO480⟩, ⟨by (with_reducible repeat (first | apply Kd.V_alloc | apply Kd.V_drewN | apply Kd.V_drew)); exact Kd.V_mono HO466.out (fun _ hk => ⟨hk.1.2, ⟨hk.2, ⟨hk.2, ⟨hk.1.1.1.1, ⟨hk.1.1.1.2, hk.1.1.2⟩⟩⟩⟩⟩)⟩, ⟨by (with_reducible repeat (first | apply Kd.S_alloc | apply Kd.S_drewN | apply Kd.S_drew)); exact Kd.S_mono HO469.out (fun _ hk => ⟨hk.2, hk.1⟩)⟩, ⟨KR HO472⟩, ⟨by (with_reducible repeat (first | refine blk_drewN ?_ _ | refine blk_drew ?_ | refine blk_alloc ?_ _)); exact BK474.out⟩, ⟨AGE GE474⟩⟩
  case round =>
   clear H'
   try clear c1
   try clear p2
   try clear c3
   try clear c4
   try clear p6
   try clear c14
   try clear hcz8_0
   try clear hcz8_1
   try clear hcz8_2
   try clear hcz8_3
   try clear hfz8_0
   try clear hfz8_1
   try clear hfz8_2
   try clear hfz8_3
   obtain ⟨x8_1, x26_1, rfl, HA, HK1, HO_8, HO_9, HO_24, HO_475001, HO_475002, HO_475003, BK474, HB⟩ := hrel
   cases gk with
   | zero => exact absurd HA.out (by simp [impl_DoorsOf.l0])
   | succ k1 =>
    have H := HA.out
    clear HA
    simp only [impl_DoorsOf.l0] at H
    by_cases c16 : x26_1 < (t478.length : Int)
    ·rw [if_pos c16] at H
     have c16b0 : decide (x26_1 < (t478.length : Int)) = true := decide_eq_true c16
     clear c16
     by_cases c17 : 0 ≤ x26_1
     ·rw [if_pos c17] at H
      have c17b0 : decide (0 ≤ x26_1) = true := decide_eq_true c17
      clear c17
      by_cases c18 : x26_1 < (t478.length : Int)
      ·rw [if_pos c18] at H
       have c18b0 : decide (x26_1 < (t478.length : Int)) = true := decide_eq_true c18
       clear c18
       have H' := Aside0.mk H
       clear H
       have p481 : 0 ≤ (x26_1 : Int) := of_decide_eq_true AS
       have q481 : x26_1 < (t478.length : Int) := of_decide_eq_true AS
       obtain ⟨ad481, e481, hx481_0, hx481_1, hx481_2⟩ := at_T67 (Kd.R_reads' HO_24.out).2.2 x26_1 p481 q481
       cases e481
       replace p481 := eq_true p481
       replace q481 := eq_true q481
       go_wp2_with (first | ((with_reducible refine gate_dst (N := 11) rfl ?_); refine box_event ?hg (N := 11) ?hd (cs := #[.int .i64 0, .int .i64 0, .int .i64 0]) (t := 67) ?hr ?_; (case hd => rfl); (case hg => rfl); (case hr => exact GS); intro gb482 hg w19 hbox hb; have n0_ := Aside0.mk (Kd.S_below (KS HO_8) hb); have n1_ := Aside0.mk (Kd.R_below (Kd.R_elderB (KR HO_9) gb482 (Nat.le_of_eq hg.symm)) hb); have n2_ := Aside0.mk (Kd.R_below (Kd.R_elderB (KR HO_24) gb482 (Nat.le_of_eq hg.symm)) hb); have n3_ := Aside0.mk (Kd.V_below (Kd.V_elderB (by (with_reducible repeat (first | apply Kd.V_alloc | apply Kd.V_drewN | apply Kd.V_drew)); exact HO_475001.out) gb482 (Nat.le_of_eq hg.symm)) hb); have n4_ := Aside0.mk (Kd.S_below (KS HO_475002) hb); have n5_ := Aside0.mk (Kd.R_below (KR HO_475003) hb); have n6_ := Aside0.mk (blk_below (g := gb474) (o := .cells #[.int .i64 t463, .slice Ao9 t464.length co9, .slice Ao10 t467.length co10, .slice Ao11 t470.length co11] 55 (0, 0)) (BW BK474) hb); have n7_ := Aside0.mk (below_step (AGE GE474) hb); have n8_ := Aside0.mk (hbox); have n9_ := Aside0.mk ((by rw [hg]; exact (below_size (AGE GE474)) : w.heap.size ≤ gb482)); have n10_ := Aside0.mk ((by rw [hg]; exact (below_size (AGE GE474)) : w.heap.size ≤ gb482)); have n11_ := Aside0.mk ((by rw [hg]; exact Nat.ne_of_lt (blk_lt (g := gb474) (o := .cells #[.int .i64 t463, .slice Ao9 t464.length co9, .slice Ao10 t467.length co10, .slice Ao11 t470.length co11] 55 (0, 0)) (BW BK474)) : gb474 ≠ gb482)); have n12_ := Aside0.mk ((by rw [hg]; exact Nat.ne_of_gt (blk_lt (g := gb474) (o := .cells #[.int .i64 t463, .slice Ao9 t464.length co9, .slice Ao10 t467.length co10, .slice Ao11 t470.length co11] 55 (0, 0)) (BW BK474)) : gb482 ≠ gb474)); clear HO_8; clear HO_9; clear HO_24; clear HO_475001; clear HO_475002; clear HO_475003; clear BK474; clear HB; have HO_8 := n0_; have HO_9 := n1_; have HO_24 := n2_; have HO_475001 := n3_; have HO_475002 := n4_; have HO_475003 := n5_; have BK474 := n6_; have HB := n7_; have BK482 := n8_; have GW482 := n9_; have GE482 := n10_; have NB474_482 := n11_; have NB482_474 := n12_; clear n0_ n1_ n2_ n3_ n4_ n5_ n6_ n7_ n8_ n9_ n10_ n11_ n12_; clear hb hbox hg; have hnb20 := NB482_474.out; have hnc20 := NB474_482.out; have hcz21_0 : w19.cell? ⟨gb482, 0, none⟩ = some (.int .i64 0) := (blk_cell BK482.out 0).trans rfl; have hcz21_1 : w19.cell? ⟨gb482, 1, none⟩ = some (.int .i64 0) := (blk_cell BK482.out 1).trans rfl; have hcz21_2 : w19.cell? ⟨gb482, 2, none⟩ = some (.int .i64 0) := (blk_cell BK482.out 2).trans rfl; have hfz21_0 := blk_frozen BK482.out 0; have hfz21_1 := blk_frozen BK482.out 1; have hfz21_2 := blk_frozen BK482.out 2))
       go_loopg [8, 12] k1 (fun kq v8 v12 w' => ∃ (x8_2 : List (List Int)) (x12_2 : Int), v12 = .int .i64 x12_2 ∧ Aside0 (impl_DoorsOf.l1 kq x8_2 t478 x26_1 x12_2 t478 (t478.length : Int) x26_1 t463 t464 t467 t470 ((rd_T67 t478 x26_1).f0) ((rd_T67 t478 x26_1).f1) ((rd_T67 t478 x26_1).f2) = some (r1, r2)) ∧ Aside0 (kq ≤ k1) ∧ Aside0 (Kd.S (Kd.slice 3 (Kd.int .i64)) 24 w' w.heap.size (fun k_ => some k_ ≠ ((.slice Ao10 t467.length co10) : Value).ownBlock ∧ some k_ ≠ ((.slice Ao11 t470.length co11) : Value).ownBlock) v8 x8_2) ∧ Aside0 (Kd.R k67 67 w' w.heap.size (fun k_ => k_ ≠ gb482) (.slice (some ad481) t478.length co15) t478) ∧ Aside0 (Kd.R k67 67 w' w.heap.size (fun k_ => k_ ≠ gb482) (.slice (some ad481) t478.length co15) t478) ∧ Aside0 (Kd.V (Kd.int .i64) 3 w' w.heap.size (fun k_ => some k_ ≠ (v8 : Value).ownBlock ∧ some k_ ≠ ((.slice (some ad481) t478.length co15) : Value).ownBlock ∧ some k_ ≠ ((.slice (some ad481) t478.length co15) : Value).ownBlock ∧ some k_ ≠ ((.slice Ao10 t467.length co10) : Value).ownBlock ∧ some k_ ≠ ((.slice Ao11 t470.length co11) : Value).ownBlock ∧ k_ ≠ gb474 ∧ k_ ≠ gb482) (.slice Ao9 t464.length co9) t464) ∧ Aside0 (Kd.S (Kd.slice 3 (Kd.int .i64)) 24 w' w.heap.size (fun k_ => some k_ ≠ (v8 : Value).ownBlock ∧ some k_ ≠ ((.slice Ao11 t470.length co11) : Value).ownBlock) (.slice Ao10 t467.length co10) t467) ∧ Aside0 (Kd.R (Kd.int .i64) 3 w' w.heap.size (fun _ => True) (.slice Ao11 t470.length co11) t470) ∧ Aside0 (w'.heap[gb474]? = some (.cells #[.int .i64 t463, (.slice Ao9 t464.length co9), (.slice Ao10 t467.length co10), (.slice Ao11 t470.length co11)] 55 (0, 0))) ∧ Aside0 (w'.heap[gb482]? = some (.cells #[.int .i64 ((rd_T67 t478 x26_1).f0), .int .i64 ((rd_T67 t478 x26_1).f1), .int .i64 ((rd_T67 t478 x26_1).f2)] 67 (0, 0))) ∧ Aside0 (Below w.heap.size w w'))
       case atStart => exact ⟨(x8_1), (wrap64 (x26_1 + 1)), RF, H', ⟨Nat.le_refl _⟩, ⟨by (with_reducible repeat (first | apply Kd.S_alloc | apply Kd.S_drewN | apply Kd.S_drew)); exact Kd.S_mono (Kd.S_far (p := ⟨gb482, 2, none⟩) (Kd.S_far (p := ⟨gb482, 1, none⟩) (Kd.S_far (p := ⟨gb482, 0, none⟩) (Kd.S_types HO_8.out BK482.out (by decide)) (fun _ hk => hk.2) (.int .i64 ((rd_T67 t478 x26_1).f0))) (fun _ hk => hk.2) (.int .i64 ((rd_T67 t478 x26_1).f1))) (fun _ hk => hk.2) (.int .i64 ((rd_T67 t478 x26_1).f2))) (fun _ hk => ⟨hk.1.1, hk.1.2⟩)⟩, ⟨by (with_reducible repeat (first | apply Kd.R_alloc | apply Kd.R_drewN | apply Kd.R_drew)); exact Kd.R_mono (Kd.R_far (p := ⟨gb482, 2, none⟩) (Kd.R_far (p := ⟨gb482, 1, none⟩) (Kd.R_far (p := ⟨gb482, 0, none⟩) (Kd.R_mono HO_9.out (fun k_ hk => (⟨hk, hk.2⟩ : _ ∧ k_ ≠ gb482))) (fun _ hk => hk.2) (.int .i64 ((rd_T67 t478 x26_1).f0))) (fun _ hk => hk.2) (.int .i64 ((rd_T67 t478 x26_1).f1))) (fun _ hk => hk.2) (.int .i64 ((rd_T67 t478 x26_1).f2))) (fun _ hk => hk.1.2)⟩, ⟨by (with_reducible repeat (first | apply Kd.R_alloc | apply Kd.R_drewN | apply Kd.R_drew)); exact Kd.R_mono (Kd.R_far (p := ⟨gb482, 2, none⟩) (Kd.R_far (p := ⟨gb482, 1, none⟩) (Kd.R_far (p := ⟨gb482, 0, none⟩) (Kd.R_mono HO_24.out (fun k_ hk => (⟨hk, hk.2⟩ : _ ∧ k_ ≠ gb482))) (fun _ hk => hk.2) (.int .i64 ((rd_T67 t478 x26_1).f0))) (fun _ hk => hk.2) (.int .i64 ((rd_T67 t478 x26_1).f1))) (fun _ hk => hk.2) (.int .i64 ((rd_T67 t478 x26_1).f2))) (fun _ hk => hk.1.2)⟩, ⟨by (with_reducible repeat (first | apply Kd.V_alloc | apply Kd.V_drewN | apply Kd.V_drew)); exact Kd.V_mono (Kd.V_far (p := ⟨gb482, 2, none⟩) (Kd.V_far (p := ⟨gb482, 1, none⟩) (Kd.V_far (p := ⟨gb482, 0, none⟩) (Kd.V_mono HO_475001.out (fun k_ hk => (⟨hk, hk.2⟩ : _ ∧ k_ ≠ gb482))) (fun _ hk => hk.2) (.int .i64 ((rd_T67 t478 x26_1).f0))) (fun _ hk => hk.2) (.int .i64 ((rd_T67 t478 x26_1).f1))) (fun _ hk => hk.2) (.int .i64 ((rd_T67 t478 x26_1).f2))) (fun _ hk => ⟨hk.1.1.1, ⟨hk.1.1.2.1, ⟨hk.1.1.2.2.1, ⟨hk.1.1.2.2.2.1, ⟨hk.1.1.2.2.2.2.1, ⟨hk.1.1.2.2.2.2.2, hk.1.2⟩⟩⟩⟩⟩⟩)⟩, ⟨by (with_reducible repeat (first | apply Kd.S_alloc | apply Kd.S_drewN | apply Kd.S_drew)); exact Kd.S_mono (Kd.S_far (p := ⟨gb482, 2, none⟩) (Kd.S_far (p := ⟨gb482, 1, none⟩) (Kd.S_far (p := ⟨gb482, 0, none⟩) (Kd.S_types HO_475002.out BK482.out (by decide)) (fun _ hk => hk.2) (.int .i64 ((rd_T67 t478 x26_1).f0))) (fun _ hk => hk.2) (.int .i64 ((rd_T67 t478 x26_1).f1))) (fun _ hk => hk.2) (.int .i64 ((rd_T67 t478 x26_1).f2))) (fun _ hk => ⟨hk.1.1, hk.1.2⟩)⟩, ⟨by (with_reducible repeat (first | apply Kd.R_alloc | apply Kd.R_drewN | apply Kd.R_drew)); exact Kd.R_mono (Kd.R_far (p := ⟨gb482, 2, none⟩) (Kd.R_far (p := ⟨gb482, 1, none⟩) (Kd.R_far (p := ⟨gb482, 0, none⟩) (Kd.R_types HO_475003.out BK482.out (by decide)) (fun _ hk => hk.2) (.int .i64 ((rd_T67 t478 x26_1).f0))) (fun _ hk => hk.2) (.int .i64 ((rd_T67 t478 x26_1).f1))) (fun _ hk => hk.2) (.int .i64 ((rd_T67 t478 x26_1).f2))) (fun _ hk => trivial)⟩, ⟨by (with_reducible repeat (first | refine blk_drewN ?_ _ | refine blk_drew ?_ | refine blk_alloc ?_ _)); refine blk_far ?_ NB474_482.out _; (with_reducible repeat (first | refine blk_drewN ?_ _ | refine blk_drew ?_ | refine blk_alloc ?_ _)); refine blk_far ?_ NB474_482.out _; (with_reducible repeat (first | refine blk_drewN ?_ _ | refine blk_drew ?_ | refine blk_alloc ?_ _)); refine blk_far ?_ NB474_482.out _; (with_reducible repeat (first | refine blk_drewN ?_ _ | refine blk_drew ?_ | refine blk_alloc ?_ _)); exact BK474.out⟩, ⟨by (with_reducible repeat (first | refine blk_drewN ?_ _ | refine blk_drew ?_ | refine blk_alloc ?_ _)); refine blk_put (cs := #[.int .i64 ((rd_T67 t478 x26_1).f0), .int .i64 ((rd_T67 t478 x26_1).f1), .int .i64 0]) ?_ 2 _ rfl; (with_reducible repeat (first | refine blk_drewN ?_ _ | refine blk_drew ?_ | refine blk_alloc ?_ _)); refine blk_put (cs := #[.int .i64 ((rd_T67 t478 x26_1).f0), .int .i64 0, .int .i64 0]) ?_ 1 _ rfl; (with_reducible repeat (first | refine blk_drewN ?_ _ | refine blk_drew ?_ | refine blk_alloc ?_ _)); refine blk_put (cs := #[.int .i64 0, .int .i64 0, .int .i64 0]) ?_ 0 _ rfl; (with_reducible repeat (first | refine blk_drewN ?_ _ | refine blk_drew ?_ | refine blk_alloc ?_ _)); exact BK482.out⟩, ⟨by repeat (first | (with_reducible first | exact HB.out | apply below_alloc | apply pw_below_drewN | apply below_drew1 | refine below_set ?_ GE474.out | refine below_set ?_ GE482.out) | exact HB.out)⟩⟩
       case round =>
        clear H'
        try clear c1
        try clear c2
        try clear p2
        try clear c3
        try clear c4
        try clear p4
        try clear q4
        try clear hx4
        try clear p6
        try clear c14
        try clear c16
        try clear c16b0
        try clear c17
        try clear c17b0
        try clear c18
        try clear c18b0
        try clear c20
        try clear hcz21_0
        try clear hcz21_1
        try clear hcz21_2
        try clear hcz8_0
        try clear hcz8_1
        try clear hcz8_2
        try clear hcz8_3
        try clear hfz21_0
        try clear hfz21_1
        try clear hfz21_2
        try clear hfz8_0
        try clear hfz8_1
        try clear hfz8_2
        try clear hfz8_3
        try clear hx481_0
        try clear hx481_1
        try clear hx481_2
        try clear p2
        try clear p481
        try clear p6
        try clear q481
        obtain ⟨x8_2, x12_2, rfl, HA, HK2, HO_8, HO_9, HO_24, HO_475001, HO_475002, HO_475003, BK474, BK482, HB⟩ := hrel
        cases gk with
        | zero => exact absurd HA.out (by simp [impl_DoorsOf.l1])
        | succ k2 =>
         have H := HA.out
         clear HA
         simp only [impl_DoorsOf.l1] at H
         by_cases c22 : x12_2 < (t478.length : Int)
         ·rw [if_pos c22] at H
          have c22b0 : decide (x12_2 < (t478.length : Int)) = true := decide_eq_true c22
          clear c22
          by_cases c23 : 0 ≤ x12_2
          ·rw [if_pos c23] at H
           have c23b0 : decide (0 ≤ x12_2) = true := decide_eq_true c23
           clear c23
           obtain ⟨t484, A240, H⟩ := Option.bind_eq_some_iff.mp H
           have A24 := Aside0.mk A240
           clear A240
           by_cases c25 : t484 = true
           ·subst c25
            replace H := IP H
            obtain ⟨t485, A260, H⟩ := Option.bind_eq_some_iff.mp H
            have A26 := Aside0.mk A260
            clear A260
            by_cases c27 : t485 = true
            ·subst c27
             replace H := IP H
             obtain ⟨y486, hy486⟩ : ∃ y_ : List Int, y_ = (([x26_1, x12_2] : List Int)) := ⟨_, rfl⟩
             replace H : (if x8_2.length < 5864062014805 then (impl_DoorsOf.l1 k2 (x8_2 ++ [y486]) t478 x26_1 (wrap64 (x12_2 + 1)) t478 (t478.length : Int) x26_1 t463 t464 t467 t470 ((rd_T67 t478 x26_1).f0) ((rd_T67 t478 x26_1).f1) ((rd_T67 t478 x26_1).f2)) else (none)) = some (r1, r2) := HY H hy486
             have Ny486 := Aside0.mk hy486
             clear hy486
             by_cases c28 : x8_2.length < 5864062014805
             ·rw [if_pos c28] at H
              have LMc28 := Aside0.mk c28
              clear c28
              obtain ⟨y489, hy489⟩ : ∃ y_ : List (List Int), y_ = (x8_2 ++ [y486]) := ⟨_, rfl⟩
              replace H : (impl_DoorsOf.l1 k2 y489 t478 x26_1 (wrap64 (x12_2 + 1)) t478 (t478.length : Int) x26_1 t463 t464 t467 t470 ((rd_T67 t478 x26_1).f0) ((rd_T67 t478 x26_1).f1) ((rd_T67 t478 x26_1).f2)) = some (r1, r2) := HY H hy489
              have Ny489 := Aside0.mk hy489
              clear hy489
              have H' := Aside0.mk H
              clear H
              try go_wp2
              have n0_ := Aside0.mk (Kd.S_drew HO_8.out)
              have n1_ := Aside0.mk (Kd.R_drew HO_9.out)
              have n2_ := Aside0.mk (Kd.R_drew HO_24.out)
              have n3_ := Aside0.mk (Kd.V_drew HO_475001.out)
              have n4_ := Aside0.mk (Kd.S_drew HO_475002.out)
              have n5_ := Aside0.mk (Kd.R_drew HO_475003.out)
              have n6_ := Aside0.mk (blk_drew BK474.out)
              have n7_ := Aside0.mk (blk_drew BK482.out)
              have n8_ := Aside0.mk (below_drew1 HB.out)
              clear HO_8
              clear HO_9
              clear HO_24
              clear HO_475001
              clear HO_475002
              clear HO_475003
              clear BK474
              clear BK482
              clear HB
              have HO_8 := n0_
              have HO_9 := n1_
              have HO_24 := n2_
              have HO_475001 := n3_
              have HO_475002 := n4_
              have HO_475003 := n5_
              have BK474 := n6_
              have BK482 := n7_
              have HB := n8_
              clear n0_ n1_ n2_ n3_ n4_ n5_ n6_ n7_ n8_
              have p483 : 0 ≤ (x12_2 : Int) := of_decide_eq_true AS
              have q483 : x12_2 < (t478.length : Int) := of_decide_eq_true AS
              obtain ⟨ad483, e483, hx483_0, hx483_1, hx483_2⟩ := at_T67 (Kd.R_reads' HO_9.out).2.2 x12_2 p483 q483
              obtain rfl : ad481 = ad483 := (by injection e483)
              replace p483 := eq_true p483
              replace q483 := eq_true q483
              refine start_ (n := 12) (S := fun w' => w'.cell? ⟨gb482, 0, none⟩ = some (.int .i64 ((rd_T67 t478 x26_1).f0)) ∧ w'.cell? ⟨gb482, 1, none⟩ = some (.int .i64 ((rd_T67 t478 x26_1).f1)) ∧ w'.cell? ⟨gb482, 2, none⟩ = some (.int .i64 ((rd_T67 t478 x26_1).f2)) ∧ w'.cell? ⟨gb474, 0, none⟩ = some (.int .i64 t463) ∧ w'.cell? ⟨gb474, 1, none⟩ = some (.slice Ao9 t464.length co9) ∧ w'.cell? ⟨gb474, 2, none⟩ = some (.slice Ao10 t467.length co10) ∧ w'.cell? ⟨gb474, 3, none⟩ = some (.slice Ao11 t470.length co11) ∧ w'.cell? (ad481.add ((x12_2).toNat * 3)) = some (.int .i64 ((rd_T67 t478 x12_2).f0)) ∧ w'.cell? ⟨(ad481.add ((x12_2).toNat * 3)).block, (ad481.add ((x12_2).toNat * 3)).off + 1, none⟩ = some (.int .i64 ((rd_T67 t478 x12_2).f1)) ∧ w'.cell? ⟨(ad481.add ((x12_2).toNat * 3)).block, (ad481.add ((x12_2).toNat * 3)).off + 2, none⟩ = some (.int .i64 ((rd_T67 t478 x12_2).f2))) (ds := []) #[false, false, false, false, false, false, false, false, false, false, false, false] (by kernel_rfl) rfl rfl ⟨(blk_cell BK482.out 0).trans rfl, (blk_cell BK482.out 1).trans rfl, (blk_cell BK482.out 2).trans rfl, (blk_cell BK474.out 0).trans rfl, (blk_cell BK474.out 1).trans rfl, (blk_cell BK474.out 2).trans rfl, (blk_cell BK474.out 3).trans rfl, hx483_0, hx483_1, hx483_2⟩ (fun hHeld => ?_); refine with_tabW impl_DoorsOf.tab11 impl_DoorsOf.bits11 (fun HT_ HW_ => ?_)
              generalize wr.drew = w29 at HO_8 HO_9 HO_24 HO_475001 HO_475002 HO_475003 BK474 BK482 HB hx483_0 hx483_1 hx483_2 hHeld ⊢
              refine pure_ (i := 1) (N := some 40) #[false, true, false, false, false, false, false, false, false, false, false, false] rfl rfl (any_of HT_.out (by kernel_rfl)) (fun _ _ _ h => h) (Or.inl ⟨by rfl, PW⟩) PU ?_
              refine pure_ (i := 2) (N := some 41) #[false, true, true, false, false, false, false, false, false, false, false, false] rfl rfl (any_of HT_.out (by kernel_rfl)) (fun _ _ _ h => h) (Or.inl ⟨by rfl, PW⟩) PU ?_
              refine pure_ (i := 3) (N := some 42) #[false, true, true, true, false, false, false, false, false, false, false, false] rfl rfl (any_of HT_.out (by kernel_rfl)) (fun _ _ _ h => h) (Or.inl ⟨by rfl, PW⟩) PU ?_
              refine take_ (i := 0) (N := some 39) #[true, true, true, true, false, false, false, false, false, false, false, false] rfl rfl (take_ofW HT_.out HW_.out (by kernel_rfl)) (fun _ _ _ h => h) (Or.inl ⟨by rfl, PT⟩) hHeld PU ?_
              refine take_ (i := 4) (N := some 43) #[true, true, true, true, true, false, false, false, false, false, false, false] rfl rfl (take_ofW HT_.out HW_.out (by kernel_rfl)) (fun _ _ _ h => h) (Or.inl ⟨by rfl, PT⟩) hHeld PU ?_
              refine one_ (i := 5) (N := some 44) #[true, true, true, true, true, true, false, false, false, false, false, false] rfl rfl (one_of HT_.out (by kernel_rfl)) (by decide) (fun K hK => ?_)
              refine goes_ Try.func46 (by kernel_rfl) rfl #[.agg #[.int .i64 ((rd_T67 t478 x26_1).f0), .int .i64 ((rd_T67 t478 x26_1).f1), .int .i64 ((rd_T67 t478 x26_1).f2)], .agg #[.int .i64 ((rd_T67 t478 x12_2).f0), .int .i64 ((rd_T67 t478 x12_2).f1), .int .i64 ((rd_T67 t478 x12_2).f2)]] (by rfl) rfl rfl TA ?_
              with_reducible refine (impl_near.calls k2 ((rd_T67 t478 x26_1).f0) ((rd_T67 t478 x26_1).f1) ((rd_T67 t478 x26_1).f2) ((rd_T67 t478 x12_2).f0) ((rd_T67 t478 x12_2).f1) ((rd_T67 t478 x12_2).f2) true _ A24.out).mono ?_
              rintro e w30 ⟨rfl, hb⟩
              have HS7_ := (hb.cell (World.block_lt_of_cell? _ _ (hHeld.2.2.2.2.2.2.2.1))).trans (hHeld.2.2.2.2.2.2.2.1)
              have HS8_ := (hb.cell (World.block_lt_of_cell? _ _ (hHeld.2.2.2.2.2.2.2.2.1))).trans (hHeld.2.2.2.2.2.2.2.2.1)
              have HS9_ := (hb.cell (World.block_lt_of_cell? _ _ (hHeld.2.2.2.2.2.2.2.2.2))).trans (hHeld.2.2.2.2.2.2.2.2.2)
              refine ⟨_, rfl, ?_⟩
              have n0_ := Aside0.mk (Kd.S_below (KS HO_8) hb)
              have n1_ := Aside0.mk (Kd.R_below (KR HO_9) hb)
              have n2_ := Aside0.mk (Kd.R_below (KR HO_24) hb)
              have n3_ := Aside0.mk (Kd.V_below (by (with_reducible repeat (first | apply Kd.V_alloc | apply Kd.V_drewN | apply Kd.V_drew)); exact HO_475001.out) hb)
              have n4_ := Aside0.mk (Kd.S_below (KS HO_475002) hb)
              have n5_ := Aside0.mk (Kd.R_below (KR HO_475003) hb)
              have n6_ := Aside0.mk (blk_below (g := gb474) (o := .cells #[.int .i64 t463, .slice Ao9 t464.length co9, .slice Ao10 t467.length co10, .slice Ao11 t470.length co11] 55 (0, 0)) (BW BK474) hb)
              have n7_ := Aside0.mk (blk_below (g := gb482) (o := .cells #[.int .i64 ((rd_T67 t478 x26_1).f0), .int .i64 ((rd_T67 t478 x26_1).f1), .int .i64 ((rd_T67 t478 x26_1).f2)] 67 (0, 0)) (BW BK482) hb)
              have n8_ := Aside0.mk (below_step (by repeat (first | (with_reducible first | exact HB.out | apply below_alloc | apply pw_below_drewN | apply below_drew1 | refine below_set ?_ GE474.out | refine below_set ?_ GE482.out) | exact HB.out)) hb)
              clear HO_8
              clear HO_9
              clear HO_24
              clear HO_475001
              clear HO_475002
              clear HO_475003
              clear BK474
              clear BK482
              clear HB
              have HO_8 := n0_
              have HO_9 := n1_
              have HO_24 := n2_
              have HO_475001 := n3_
              have HO_475002 := n4_
              have HO_475003 := n5_
              have BK474 := n6_
              have BK482 := n7_
              have HB := n8_
              clear n0_ n1_ n2_ n3_ n4_ n5_ n6_ n7_ n8_
              (try clear hb)
              (try clear hb2)
              (try clear hk)
              (try clear hi)
              refine hK.out _ _ ⟨(blk_cell BK482.out 0).trans rfl, (blk_cell BK482.out 1).trans rfl, (blk_cell BK482.out 2).trans rfl, (blk_cell BK474.out 0).trans rfl, (blk_cell BK474.out 1).trans rfl, (blk_cell BK474.out 2).trans rfl, (blk_cell BK474.out 3).trans rfl, HS7_, HS8_, HS9_⟩ (fun hHeld => ?_)
              clear hK K
              refine norm_ (a' := ?_) ?_ ?_
              rotate_left
              ·show Act.put _ (some 44) _ = _
               simp only [Act.put, List.setIfInBounds_toArray, List.set_cons_zero, List.set_cons_succ, i64_w, i32_w]
               rfl
              refine pure_ (i := 6) (N := some 45) #[true, true, true, true, true, true, true, false, false, false, false, false] rfl rfl (any_of HT_.out (by kernel_rfl)) (fun _ _ _ h => h) (Or.inl ⟨by rfl, PW⟩) PU ?_
              refine pure_ (i := 8) (N := some 47) #[true, true, true, true, true, true, true, false, true, false, false, false] rfl rfl (any_of HT_.out (by kernel_rfl)) (fun _ _ _ h => h) (Or.inl ⟨by rfl, PW⟩) PU ?_
              refine pure_ (i := 9) (N := some 48) #[true, true, true, true, true, true, true, false, true, true, false, false] rfl rfl (any_of HT_.out (by kernel_rfl)) (fun _ _ _ h => h) (Or.inl ⟨by rfl, PW⟩) PU ?_
              refine take_ (i := 7) (N := some 46) #[true, true, true, true, true, true, true, true, true, true, false, false] rfl rfl (take_ofW HT_.out HW_.out (by kernel_rfl)) (fun _ _ _ h => h) (Or.inl ⟨by rfl, PT⟩) hHeld PU ?_
              refine one_ (i := 10) (N := some 49) #[true, true, true, true, true, true, true, true, true, true, true, false] rfl rfl (one_of HT_.out (by kernel_rfl)) (by decide) (fun K hK => ?_)
              refine goes_ Try.func47 (by kernel_rfl) rfl #[.agg #[.int .i64 t463, .slice Ao9 t464.length co9, .slice Ao10 t467.length co10, .slice Ao11 t470.length co11], .int .i64 x26_1, .int .i64 x12_2] (by rfl) rfl rfl TA ?_
              with_reducible refine (impl_house_isDoor.calls t463 _ _ t464 _ _ t467 _ _ t470 x26_1 x12_2 true _ ?side1 ?side2 ?side3 ?side4 ?side5 ?side6 A26.out).mono ?_
              (case side1 => exact CW (Kd.V_reads' HO_475001.out).2.2)
              (case side2 => exact (Kd.V_reads' HO_475001.out).2.1)
              (case side3 => exact CW (Kd.S_reads' HO_475002.out).2.2)
              (case side4 => exact (Kd.S_reads' HO_475002.out).2.1)
              (case side5 => exact CW (Kd.R_reads' HO_475003.out).2.2)
              (case side6 => exact (Kd.R_reads' HO_475003.out).2.1)
              rintro e w31 ⟨rfl, hb⟩
              have HS7_ := (hb.cell (World.block_lt_of_cell? _ _ (hHeld.2.2.2.2.2.2.2.1))).trans (hHeld.2.2.2.2.2.2.2.1)
              have HS8_ := (hb.cell (World.block_lt_of_cell? _ _ (hHeld.2.2.2.2.2.2.2.2.1))).trans (hHeld.2.2.2.2.2.2.2.2.1)
              have HS9_ := (hb.cell (World.block_lt_of_cell? _ _ (hHeld.2.2.2.2.2.2.2.2.2))).trans (hHeld.2.2.2.2.2.2.2.2.2)
              refine ⟨_, rfl, ?_⟩
              have n0_ := Aside0.mk (Kd.S_below (KS HO_8) hb)
              have n1_ := Aside0.mk (Kd.R_below (KR HO_9) hb)
              have n2_ := Aside0.mk (Kd.R_below (KR HO_24) hb)
              have n3_ := Aside0.mk (Kd.V_below (by (with_reducible repeat (first | apply Kd.V_alloc | apply Kd.V_drewN | apply Kd.V_drew)); exact HO_475001.out) hb)
              have n4_ := Aside0.mk (Kd.S_below (KS HO_475002) hb)
              have n5_ := Aside0.mk (Kd.R_below (KR HO_475003) hb)
              have n6_ := Aside0.mk (blk_below (g := gb474) (o := .cells #[.int .i64 t463, .slice Ao9 t464.length co9, .slice Ao10 t467.length co10, .slice Ao11 t470.length co11] 55 (0, 0)) (BW BK474) hb)
              have n7_ := Aside0.mk (blk_below (g := gb482) (o := .cells #[.int .i64 ((rd_T67 t478 x26_1).f0), .int .i64 ((rd_T67 t478 x26_1).f1), .int .i64 ((rd_T67 t478 x26_1).f2)] 67 (0, 0)) (BW BK482) hb)
              have n8_ := Aside0.mk (below_step (by repeat (first | (with_reducible first | exact HB.out | apply below_alloc | apply pw_below_drewN | apply below_drew1 | refine below_set ?_ GE474.out | refine below_set ?_ GE482.out) | exact HB.out)) hb)
              clear HO_8
              clear HO_9
              clear HO_24
              clear HO_475001
              clear HO_475002
              clear HO_475003
              clear BK474
              clear BK482
              clear HB
              have HO_8 := n0_
              have HO_9 := n1_
              have HO_24 := n2_
              have HO_475001 := n3_
              have HO_475002 := n4_
              have HO_475003 := n5_
              have BK474 := n6_
              have BK482 := n7_
              have HB := n8_
              clear n0_ n1_ n2_ n3_ n4_ n5_ n6_ n7_ n8_
              (try clear hb)
              (try clear hb2)
              (try clear hk)
              (try clear hi)
              refine hK.out _ _ ⟨(blk_cell BK482.out 0).trans rfl, (blk_cell BK482.out 1).trans rfl, (blk_cell BK482.out 2).trans rfl, (blk_cell BK474.out 0).trans rfl, (blk_cell BK474.out 1).trans rfl, (blk_cell BK474.out 2).trans rfl, (blk_cell BK474.out 3).trans rfl, HS7_, HS8_, HS9_⟩ (fun hHeld => ?_)
              clear hK K
              refine norm_ (a' := ?_) ?_ ?_
              rotate_left
              ·show Act.put _ (some 49) _ = _
               simp only [Act.put, List.setIfInBounds_toArray, List.set_cons_zero, List.set_cons_succ, i64_w, i32_w]
               rfl
              refine pure_ (i := 11) (N := some 50) #[true, true, true, true, true, true, true, true, true, true, true, true] rfl rfl (any_of HT_.out (by kernel_rfl)) (fun _ _ _ h => h) (Or.inl ⟨by rfl, PW⟩) PU ?_
              refine done_ (done_of HT_.out (by kernel_rfl)) ?_
              try go_wp2_with (first | ((with_reducible refine gate_dst (N := 54) rfl ?_); refine Kd.R_lit (Kd.int .i64) _ 3 ?hg (N := 54) ?hd (xs := ([x26_1, x12_2] : List Int)) (inner := [.int .i64 x26_1, .int .i64 x12_2]) (ok := fun _ => True) (okp := fun _ => True) ?hr ?hp (fun _ hk => hk) trivial (Below.refl _ _) (Nat.le_refl _) (by simp) ?_; (case hd => rfl); (case hg => rfl); (case hr => exact GS); (case hp => exact (Reps.one (show Kd.M (Kd.int .i64) _ _ _ x26_1 [.int .i64 x26_1] from rfl) (Reps.one (show Kd.M (Kd.int .i64) _ _ _ x12_2 [.int .i64 x12_2] from rfl) (Reps.none _ _)))); intro v487 w32 ho33 hb hg_ hnew_; clear hg_ hnew_; (first | rw [← Ny486.out] at ho33 | (simp only [Int.reduceToNat] at ho33; rw [← Ny486.out] at ho33)); have n0_ := Aside0.mk (Kd.S_elder' (KS HO_8) (Kd.R_base ho33) hb); have n1_ := Aside0.mk (Kd.R_below (KR HO_9) hb); have n2_ := Aside0.mk (Kd.R_below (KR HO_24) hb); have n3_ := Aside0.mk (Kd.V_elder' (by (with_reducible repeat (first | apply Kd.V_alloc | apply Kd.V_drewN | apply Kd.V_drew)); exact HO_475001.out) (Kd.R_base ho33) hb); have n4_ := Aside0.mk (Kd.S_elder' (KS HO_475002) (Kd.R_base ho33) hb); have n5_ := Aside0.mk (Kd.R_elder' (KR HO_475003) (Kd.R_base ho33) hb); have n6_ := Aside0.mk (Kd.R_lower (Kd.R_new' ho33 (Kd.R_lt (KR HO_475003))) (below_size (by repeat (first | (with_reducible first | exact HB.out | apply below_alloc | apply pw_below_drewN | apply below_drew1 | refine below_set ?_ GE474.out | refine below_set ?_ GE482.out) | exact HB.out)))); have n7_ := Aside0.mk (blk_below (g := gb474) (o := .cells #[.int .i64 t463, .slice Ao9 t464.length co9, .slice Ao10 t467.length co10, .slice Ao11 t470.length co11] 55 (0, 0)) (BW BK474) hb); have n8_ := Aside0.mk (blk_below (g := gb482) (o := .cells #[.int .i64 ((rd_T67 t478 x26_1).f0), .int .i64 ((rd_T67 t478 x26_1).f1), .int .i64 ((rd_T67 t478 x26_1).f2)] 67 (0, 0)) (BW BK482) hb); have n9_ := Aside0.mk (below_step (by repeat (first | (with_reducible first | exact HB.out | apply below_alloc | apply pw_below_drewN | apply below_drew1 | refine below_set ?_ GE474.out | refine below_set ?_ GE482.out) | exact HB.out)) hb); clear HO_8; clear HO_9; clear HO_24; clear HO_475001; clear HO_475002; clear HO_475003; clear BK474; clear BK482; clear HB; have HO_8 := n0_; have HO_9 := n1_; have HO_24 := n2_; have HO_475001 := n3_; have HO_475002 := n4_; have HO_475003 := n5_; have HO488 := n6_; have BK474 := n7_; have BK482 := n8_; have HB := n9_; clear n0_ n1_ n2_ n3_ n4_ n5_ n6_ n7_ n8_ n9_; clear hb ho33; obtain ⟨Ao35, co35, eo35⟩ := Kd.R_slice HO488.out; subst eo35) | ((with_reducible refine gate_builtin (b := .append) (xs := #[.tmp 51, .tmp 55]) rfl ?_); at_builtin; refine Kd.S_append (Kd.slice 3 (Kd.int .i64)) (w0 := w) w.heap.size rfl (.tmp 51) (.tmp 55) 27 24 (.slice none 0 0) 24 rfl Try.underlying27 info24 rfl (by decide) (by omega) u8 x8_2 y486 [.slice Ao35 y486.length co35] (fun k_ => some k_ ≠ (.slice Ao10 t467.length co10 : Value).ownBlock ∧ some k_ ≠ (.slice Ao11 t470.length co11 : Value).ownBlock) (fun k_ => some k_ = (.slice Ao35 y486.length co35 : Value).ownBlock) rfl rfl ?aP (fun k_ hk_ => ((Kd.R_mono (ok' := fun k_ => ((fun k_ => some k_ ≠ (.slice Ao10 t467.length co10 : Value).ownBlock ∧ some k_ ≠ (.slice Ao11 t470.length co11 : Value).ownBlock)) k_ ∧ some k_ ≠ (u8 : Value).ownBlock) (Kd.R_apart' (Kd.R_apart' (HO488.out) (Kd.S_typed HO_475002.out) (by decide)) (Kd.S_typed HO_8.out) (by decide)) (fun k_ hk => ⟨⟨hk.1.2, hk.1.1.2⟩, hk.2⟩))).1 k_ hk_.symm) ?aF ?aO ?aB ?aS ?aL ?_; (case aP => exact Kd.M_row (Kd.R_mono (Kd.R_tight rfl (Kd.R_mono (ok' := fun k_ => ((fun k_ => some k_ ≠ (.slice Ao10 t467.length co10 : Value).ownBlock ∧ some k_ ≠ (.slice Ao11 t470.length co11 : Value).ownBlock)) k_ ∧ some k_ ≠ (u8 : Value).ownBlock) (Kd.R_apart' (Kd.R_apart' (HO488.out) (Kd.S_typed HO_475002.out) (by decide)) (Kd.S_typed HO_8.out) (by decide)) (fun k_ hk => ⟨⟨hk.1.2, hk.1.1.2⟩, hk.2⟩))) (fun _ h_ => h_))); (case aB => exact (by repeat (first | (with_reducible first | exact HB.out | apply below_alloc | apply pw_below_drewN | apply below_drew1 | refine below_set ?_ GE474.out | refine below_set ?_ GE482.out) | exact HB.out))); (case aF => exact (fun k_ hk => ⟨Kd.fresh' (Kd.S_lt (KS HO_475002)) k_ hk, Kd.fresh' (Kd.R_lt (KR HO_475003)) k_ hk⟩)); (case aO => exact (by (with_reducible repeat (first | apply Kd.S_alloc | apply Kd.S_drewN | apply Kd.S_drew)); exact Kd.S_mono HO_8.out (fun k_ hk => ⟨⟨hk.1.1, hk.1.2⟩, fun e_ => hk.2 e_⟩))); (case aS => exact (below_size (by repeat (first | (with_reducible first | exact HB.out | apply below_alloc | apply pw_below_drewN | apply below_drew1 | refine below_set ?_ GE474.out | refine below_set ?_ GE482.out) | exact HB.out)))); (case aL => have := LMc28.out; omega); intro v490 w34 ho hb hg hat; rw [← Ny489.out] at ho; have n0_ := Aside0.mk (Kd.R_over' (KR HO_9) (Kd.S_typed (KS HO_8)) (by decide) hg); have n1_ := Aside0.mk (Kd.R_over' (KR HO_24) (Kd.S_typed (KS HO_8)) (by decide) hg); have n2_ := Aside0.mk (Kd.V_afterv (ok := (fun k_ => some k_ ≠ (.slice (some ad481) t478.length co15 : Value).ownBlock ∧ some k_ ≠ (.slice (some ad481) t478.length co15 : Value).ownBlock ∧ some k_ ≠ (.slice Ao10 t467.length co10 : Value).ownBlock ∧ some k_ ≠ (.slice Ao11 t470.length co11 : Value).ownBlock ∧ some k_ ≠ (.slice Ao35 y486.length co35 : Value).ownBlock ∧ k_ ≠ gb474 ∧ k_ ≠ gb482)) (by (with_reducible repeat (first | apply Kd.V_alloc | apply Kd.V_drewN | apply Kd.V_drew)); exact Kd.V_mono HO_475001.out (fun _ hk => ⟨⟨hk.1.2.1, ⟨hk.1.2.2.1, ⟨hk.1.2.2.2.1, ⟨hk.1.2.2.2.2.1, ⟨hk.2, ⟨hk.1.2.2.2.2.2.1, hk.1.2.2.2.2.2.2⟩⟩⟩⟩⟩⟩, hk.1.1⟩)) hg hat); have n3_ := Aside0.mk (Kd.S_after (ok := (fun k_ => some k_ ≠ (.slice Ao11 t470.length co11 : Value).ownBlock ∧ some k_ ≠ (.slice Ao35 y486.length co35 : Value).ownBlock)) (by (with_reducible repeat (first | apply Kd.S_alloc | apply Kd.S_drewN | apply Kd.S_drew)); exact Kd.S_mono HO_475002.out (fun _ hk => ⟨⟨hk.1.2, hk.2⟩, hk.1.1⟩)) hg hat); have n4_ := Aside0.mk (Kd.R_over' (KR HO_475003) (Kd.S_typed (KS HO_8)) (by decide) hg); have n5_ := Aside0.mk (blk_grown (g := gb474) (o := .cells #[.int .i64 t463, .slice Ao9 t464.length co9, .slice Ao10 t467.length co10, .slice Ao11 t470.length co11] 55 (0, 0)) (BW BK474) hg (Kd.S_ne HO_8.out BK474.out (by decide))); have n6_ := Aside0.mk (blk_grown (g := gb482) (o := .cells #[.int .i64 ((rd_T67 t478 x26_1).f0), .int .i64 ((rd_T67 t478 x26_1).f1), .int .i64 ((rd_T67 t478 x26_1).f2)] 67 (0, 0)) (BW BK482) hg (Kd.S_ne HO_8.out BK482.out (by decide))); have n7_ := Aside0.mk (hb); have n8_ := Aside0.mk (ho); clear HO_9; clear HO_24; clear HO_475001; clear HO_475002; clear HO_475003; clear BK474; clear BK482; clear HB; clear HO_8; clear HO488; have HO_9 := n0_; have HO_24 := n1_; have HO_475001 := n2_; have HO_475002 := n3_; have HO_475003 := n4_; have BK474 := n5_; have BK482 := n6_; have HB := n7_; have HO491 := n8_; clear n0_ n1_ n2_ n3_ n4_ n5_ n6_ n7_ n8_; clear ho hb hg hat))
              go_roundg k2
              case measure => have := HK1.out; have := HK2.out; omega
              case rel => exact ⟨(y489), (wrap64 (x12_2 + 1)), RF, H', ⟨by have := HK1.out; have := HK2.out; omega⟩, ⟨KS HO491⟩, ⟨KR HO_9⟩, ⟨KR HO_24⟩, ⟨by (with_reducible repeat (first | apply Kd.V_alloc | apply Kd.V_drewN | apply Kd.V_drew)); exact Kd.V_mono HO_475001.out (fun _ hk => ⟨hk.2, ⟨hk.1.1, ⟨hk.1.2.1, ⟨hk.1.2.2.1, ⟨hk.1.2.2.2.1, ⟨hk.1.2.2.2.2.2.1, hk.1.2.2.2.2.2.2⟩⟩⟩⟩⟩⟩)⟩, ⟨by (with_reducible repeat (first | apply Kd.S_alloc | apply Kd.S_drewN | apply Kd.S_drew)); exact Kd.S_mono HO_475002.out (fun _ hk => ⟨hk.2, hk.1.1⟩)⟩, ⟨by (with_reducible repeat (first | apply Kd.R_alloc | apply Kd.R_drewN | apply Kd.R_drew)); exact Kd.R_mono HO_475003.out (fun _ hk => trivial)⟩, ⟨by (with_reducible repeat (first | refine blk_drewN ?_ _ | refine blk_drew ?_ | refine blk_alloc ?_ _)); exact BK474.out⟩, ⟨by (with_reducible repeat (first | refine blk_drewN ?_ _ | refine blk_drew ?_ | refine blk_alloc ?_ _)); exact BK482.out⟩, ⟨by repeat (first | (with_reducible first | exact HB.out | apply below_alloc | apply pw_below_drewN | apply below_drew1 | refine below_set ?_ GE474.out | refine below_set ?_ GE482.out) | exact HB.out)⟩⟩
             ·rw [if_neg c28] at H
              cases H
            ·replace c27 := Bool.eq_false_iff.mpr c27
             subst c27
             replace H := IN H
             have H' := Aside0.mk H
             clear H
             try go_wp2
             have n0_ := Aside0.mk (Kd.S_drew HO_8.out)
             have n1_ := Aside0.mk (Kd.R_drew HO_9.out)
             have n2_ := Aside0.mk (Kd.R_drew HO_24.out)
             have n3_ := Aside0.mk (Kd.V_drew HO_475001.out)
             have n4_ := Aside0.mk (Kd.S_drew HO_475002.out)
             have n5_ := Aside0.mk (Kd.R_drew HO_475003.out)
             have n6_ := Aside0.mk (blk_drew BK474.out)
             have n7_ := Aside0.mk (blk_drew BK482.out)
             have n8_ := Aside0.mk (below_drew1 HB.out)
             clear HO_8
             clear HO_9
             clear HO_24
             clear HO_475001
             clear HO_475002
             clear HO_475003
             clear BK474
             clear BK482
             clear HB
             have HO_8 := n0_
             have HO_9 := n1_
             have HO_24 := n2_
             have HO_475001 := n3_
             have HO_475002 := n4_
             have HO_475003 := n5_
             have BK474 := n6_
             have BK482 := n7_
             have HB := n8_
             clear n0_ n1_ n2_ n3_ n4_ n5_ n6_ n7_ n8_
             have p483 : 0 ≤ (x12_2 : Int) := of_decide_eq_true AS
             have q483 : x12_2 < (t478.length : Int) := of_decide_eq_true AS
             obtain ⟨ad483, e483, hx483_0, hx483_1, hx483_2⟩ := at_T67 (Kd.R_reads' HO_9.out).2.2 x12_2 p483 q483
             obtain rfl : ad481 = ad483 := (by injection e483)
             replace p483 := eq_true p483
             replace q483 := eq_true q483
             refine start_ (n := 12) (S := fun w' => w'.cell? ⟨gb482, 0, none⟩ = some (.int .i64 ((rd_T67 t478 x26_1).f0)) ∧ w'.cell? ⟨gb482, 1, none⟩ = some (.int .i64 ((rd_T67 t478 x26_1).f1)) ∧ w'.cell? ⟨gb482, 2, none⟩ = some (.int .i64 ((rd_T67 t478 x26_1).f2)) ∧ w'.cell? ⟨gb474, 0, none⟩ = some (.int .i64 t463) ∧ w'.cell? ⟨gb474, 1, none⟩ = some (.slice Ao9 t464.length co9) ∧ w'.cell? ⟨gb474, 2, none⟩ = some (.slice Ao10 t467.length co10) ∧ w'.cell? ⟨gb474, 3, none⟩ = some (.slice Ao11 t470.length co11) ∧ w'.cell? (ad481.add ((x12_2).toNat * 3)) = some (.int .i64 ((rd_T67 t478 x12_2).f0)) ∧ w'.cell? ⟨(ad481.add ((x12_2).toNat * 3)).block, (ad481.add ((x12_2).toNat * 3)).off + 1, none⟩ = some (.int .i64 ((rd_T67 t478 x12_2).f1)) ∧ w'.cell? ⟨(ad481.add ((x12_2).toNat * 3)).block, (ad481.add ((x12_2).toNat * 3)).off + 2, none⟩ = some (.int .i64 ((rd_T67 t478 x12_2).f2))) (ds := []) #[false, false, false, false, false, false, false, false, false, false, false, false] (by kernel_rfl) rfl rfl ⟨(blk_cell BK482.out 0).trans rfl, (blk_cell BK482.out 1).trans rfl, (blk_cell BK482.out 2).trans rfl, (blk_cell BK474.out 0).trans rfl, (blk_cell BK474.out 1).trans rfl, (blk_cell BK474.out 2).trans rfl, (blk_cell BK474.out 3).trans rfl, hx483_0, hx483_1, hx483_2⟩ (fun hHeld => ?_); refine with_tabW impl_DoorsOf.tab11 impl_DoorsOf.bits11 (fun HT_ HW_ => ?_)
             generalize wr.drew = w36 at HO_8 HO_9 HO_24 HO_475001 HO_475002 HO_475003 BK474 BK482 HB hx483_0 hx483_1 hx483_2 hHeld ⊢
             refine pure_ (i := 1) (N := some 40) #[false, true, false, false, false, false, false, false, false, false, false, false] rfl rfl (any_of HT_.out (by kernel_rfl)) (fun _ _ _ h => h) (Or.inl ⟨by rfl, PW⟩) PU ?_
             refine pure_ (i := 2) (N := some 41) #[false, true, true, false, false, false, false, false, false, false, false, false] rfl rfl (any_of HT_.out (by kernel_rfl)) (fun _ _ _ h => h) (Or.inl ⟨by rfl, PW⟩) PU ?_
             refine pure_ (i := 3) (N := some 42) #[false, true, true, true, false, false, false, false, false, false, false, false] rfl rfl (any_of HT_.out (by kernel_rfl)) (fun _ _ _ h => h) (Or.inl ⟨by rfl, PW⟩) PU ?_
             refine take_ (i := 0) (N := some 39) #[true, true, true, true, false, false, false, false, false, false, false, false] rfl rfl (take_ofW HT_.out HW_.out (by kernel_rfl)) (fun _ _ _ h => h) (Or.inl ⟨by rfl, PT⟩) hHeld PU ?_
             refine take_ (i := 4) (N := some 43) #[true, true, true, true, true, false, false, false, false, false, false, false] rfl rfl (take_ofW HT_.out HW_.out (by kernel_rfl)) (fun _ _ _ h => h) (Or.inl ⟨by rfl, PT⟩) hHeld PU ?_
             refine one_ (i := 5) (N := some 44) #[true, true, true, true, true, true, false, false, false, false, false, false] rfl rfl (one_of HT_.out (by kernel_rfl)) (by decide) (fun K hK => ?_)
             refine goes_ Try.func46 (by kernel_rfl) rfl #[.agg #[.int .i64 ((rd_T67 t478 x26_1).f0), .int .i64 ((rd_T67 t478 x26_1).f1), .int .i64 ((rd_T67 t478 x26_1).f2)], .agg #[.int .i64 ((rd_T67 t478 x12_2).f0), .int .i64 ((rd_T67 t478 x12_2).f1), .int .i64 ((rd_T67 t478 x12_2).f2)]] (by rfl) rfl rfl TA ?_
             with_reducible refine (impl_near.calls k2 ((rd_T67 t478 x26_1).f0) ((rd_T67 t478 x26_1).f1) ((rd_T67 t478 x26_1).f2) ((rd_T67 t478 x12_2).f0) ((rd_T67 t478 x12_2).f1) ((rd_T67 t478 x12_2).f2) true _ A24.out).mono ?_
             rintro e w37 ⟨rfl, hb⟩
             have HS7_ := (hb.cell (World.block_lt_of_cell? _ _ (hHeld.2.2.2.2.2.2.2.1))).trans (hHeld.2.2.2.2.2.2.2.1)
             have HS8_ := (hb.cell (World.block_lt_of_cell? _ _ (hHeld.2.2.2.2.2.2.2.2.1))).trans (hHeld.2.2.2.2.2.2.2.2.1)
             have HS9_ := (hb.cell (World.block_lt_of_cell? _ _ (hHeld.2.2.2.2.2.2.2.2.2))).trans (hHeld.2.2.2.2.2.2.2.2.2)
             refine ⟨_, rfl, ?_⟩
             have n0_ := Aside0.mk (Kd.S_below (KS HO_8) hb)
             have n1_ := Aside0.mk (Kd.R_below (KR HO_9) hb)
             have n2_ := Aside0.mk (Kd.R_below (KR HO_24) hb)
             have n3_ := Aside0.mk (Kd.V_below (by (with_reducible repeat (first | apply Kd.V_alloc | apply Kd.V_drewN | apply Kd.V_drew)); exact HO_475001.out) hb)
             have n4_ := Aside0.mk (Kd.S_below (KS HO_475002) hb)
             have n5_ := Aside0.mk (Kd.R_below (KR HO_475003) hb)
             have n6_ := Aside0.mk (blk_below (g := gb474) (o := .cells #[.int .i64 t463, .slice Ao9 t464.length co9, .slice Ao10 t467.length co10, .slice Ao11 t470.length co11] 55 (0, 0)) (BW BK474) hb)
             have n7_ := Aside0.mk (blk_below (g := gb482) (o := .cells #[.int .i64 ((rd_T67 t478 x26_1).f0), .int .i64 ((rd_T67 t478 x26_1).f1), .int .i64 ((rd_T67 t478 x26_1).f2)] 67 (0, 0)) (BW BK482) hb)
             have n8_ := Aside0.mk (below_step (by repeat (first | (with_reducible first | exact HB.out | apply below_alloc | apply pw_below_drewN | apply below_drew1 | refine below_set ?_ GE474.out | refine below_set ?_ GE482.out) | exact HB.out)) hb)
             clear HO_8
             clear HO_9
             clear HO_24
             clear HO_475001
             clear HO_475002
             clear HO_475003
             clear BK474
             clear BK482
             clear HB
             have HO_8 := n0_
             have HO_9 := n1_
             have HO_24 := n2_
             have HO_475001 := n3_
             have HO_475002 := n4_
             have HO_475003 := n5_
             have BK474 := n6_
             have BK482 := n7_
             have HB := n8_
             clear n0_ n1_ n2_ n3_ n4_ n5_ n6_ n7_ n8_
             (try clear hb)
             (try clear hb2)
             (try clear hk)
             (try clear hi)
             refine hK.out _ _ ⟨(blk_cell BK482.out 0).trans rfl, (blk_cell BK482.out 1).trans rfl, (blk_cell BK482.out 2).trans rfl, (blk_cell BK474.out 0).trans rfl, (blk_cell BK474.out 1).trans rfl, (blk_cell BK474.out 2).trans rfl, (blk_cell BK474.out 3).trans rfl, HS7_, HS8_, HS9_⟩ (fun hHeld => ?_)
             clear hK K
             refine norm_ (a' := ?_) ?_ ?_
             rotate_left
             ·show Act.put _ (some 44) _ = _
              simp only [Act.put, List.setIfInBounds_toArray, List.set_cons_zero, List.set_cons_succ, i64_w, i32_w]
              rfl
             refine pure_ (i := 6) (N := some 45) #[true, true, true, true, true, true, true, false, false, false, false, false] rfl rfl (any_of HT_.out (by kernel_rfl)) (fun _ _ _ h => h) (Or.inl ⟨by rfl, PW⟩) PU ?_
             refine pure_ (i := 8) (N := some 47) #[true, true, true, true, true, true, true, false, true, false, false, false] rfl rfl (any_of HT_.out (by kernel_rfl)) (fun _ _ _ h => h) (Or.inl ⟨by rfl, PW⟩) PU ?_
             refine pure_ (i := 9) (N := some 48) #[true, true, true, true, true, true, true, false, true, true, false, false] rfl rfl (any_of HT_.out (by kernel_rfl)) (fun _ _ _ h => h) (Or.inl ⟨by rfl, PW⟩) PU ?_
             refine take_ (i := 7) (N := some 46) #[true, true, true, true, true, true, true, true, true, true, false, false] rfl rfl (take_ofW HT_.out HW_.out (by kernel_rfl)) (fun _ _ _ h => h) (Or.inl ⟨by rfl, PT⟩) hHeld PU ?_
             refine one_ (i := 10) (N := some 49) #[true, true, true, true, true, true, true, true, true, true, true, false] rfl rfl (one_of HT_.out (by kernel_rfl)) (by decide) (fun K hK => ?_)
             refine goes_ Try.func47 (by kernel_rfl) rfl #[.agg #[.int .i64 t463, .slice Ao9 t464.length co9, .slice Ao10 t467.length co10, .slice Ao11 t470.length co11], .int .i64 x26_1, .int .i64 x12_2] (by rfl) rfl rfl TA ?_
             with_reducible refine (impl_house_isDoor.calls t463 _ _ t464 _ _ t467 _ _ t470 x26_1 x12_2 false _ ?side1 ?side2 ?side3 ?side4 ?side5 ?side6 A26.out).mono ?_
             (case side1 => exact CW (Kd.V_reads' HO_475001.out).2.2)
             (case side2 => exact (Kd.V_reads' HO_475001.out).2.1)
             (case side3 => exact CW (Kd.S_reads' HO_475002.out).2.2)
             (case side4 => exact (Kd.S_reads' HO_475002.out).2.1)
             (case side5 => exact CW (Kd.R_reads' HO_475003.out).2.2)
             (case side6 => exact (Kd.R_reads' HO_475003.out).2.1)
             rintro e w38 ⟨rfl, hb⟩
             have HS7_ := (hb.cell (World.block_lt_of_cell? _ _ (hHeld.2.2.2.2.2.2.2.1))).trans (hHeld.2.2.2.2.2.2.2.1)
             have HS8_ := (hb.cell (World.block_lt_of_cell? _ _ (hHeld.2.2.2.2.2.2.2.2.1))).trans (hHeld.2.2.2.2.2.2.2.2.1)
             have HS9_ := (hb.cell (World.block_lt_of_cell? _ _ (hHeld.2.2.2.2.2.2.2.2.2))).trans (hHeld.2.2.2.2.2.2.2.2.2)
             refine ⟨_, rfl, ?_⟩
             have n0_ := Aside0.mk (Kd.S_below (KS HO_8) hb)
             have n1_ := Aside0.mk (Kd.R_below (KR HO_9) hb)
             have n2_ := Aside0.mk (Kd.R_below (KR HO_24) hb)
             have n3_ := Aside0.mk (Kd.V_below (by (with_reducible repeat (first | apply Kd.V_alloc | apply Kd.V_drewN | apply Kd.V_drew)); exact HO_475001.out) hb)
             have n4_ := Aside0.mk (Kd.S_below (KS HO_475002) hb)
             have n5_ := Aside0.mk (Kd.R_below (KR HO_475003) hb)
             have n6_ := Aside0.mk (blk_below (g := gb474) (o := .cells #[.int .i64 t463, .slice Ao9 t464.length co9, .slice Ao10 t467.length co10, .slice Ao11 t470.length co11] 55 (0, 0)) (BW BK474) hb)
             have n7_ := Aside0.mk (blk_below (g := gb482) (o := .cells #[.int .i64 ((rd_T67 t478 x26_1).f0), .int .i64 ((rd_T67 t478 x26_1).f1), .int .i64 ((rd_T67 t478 x26_1).f2)] 67 (0, 0)) (BW BK482) hb)
             have n8_ := Aside0.mk (below_step (by repeat (first | (with_reducible first | exact HB.out | apply below_alloc | apply pw_below_drewN | apply below_drew1 | refine below_set ?_ GE474.out | refine below_set ?_ GE482.out) | exact HB.out)) hb)
             clear HO_8
             clear HO_9
             clear HO_24
             clear HO_475001
             clear HO_475002
             clear HO_475003
             clear BK474
             clear BK482
             clear HB
             have HO_8 := n0_
             have HO_9 := n1_
             have HO_24 := n2_
             have HO_475001 := n3_
             have HO_475002 := n4_
             have HO_475003 := n5_
             have BK474 := n6_
             have BK482 := n7_
             have HB := n8_
             clear n0_ n1_ n2_ n3_ n4_ n5_ n6_ n7_ n8_
             (try clear hb)
             (try clear hb2)
             (try clear hk)
             (try clear hi)
             refine hK.out _ _ ⟨(blk_cell BK482.out 0).trans rfl, (blk_cell BK482.out 1).trans rfl, (blk_cell BK482.out 2).trans rfl, (blk_cell BK474.out 0).trans rfl, (blk_cell BK474.out 1).trans rfl, (blk_cell BK474.out 2).trans rfl, (blk_cell BK474.out 3).trans rfl, HS7_, HS8_, HS9_⟩ (fun hHeld => ?_)
             clear hK K
             refine norm_ (a' := ?_) ?_ ?_
             rotate_left
             ·show Act.put _ (some 49) _ = _
              simp only [Act.put, List.setIfInBounds_toArray, List.set_cons_zero, List.set_cons_succ, i64_w, i32_w]
              rfl
             refine pure_ (i := 11) (N := some 50) #[true, true, true, true, true, true, true, true, true, true, true, true] rfl rfl (any_of HT_.out (by kernel_rfl)) (fun _ _ _ h => h) (Or.inl ⟨by rfl, PW⟩) PU ?_
             refine done_ (done_of HT_.out (by kernel_rfl)) ?_
             try go_wp2
             go_roundg k2
             case measure => have := HK1.out; have := HK2.out; omega
             case rel => exact ⟨(x8_2), (wrap64 (x12_2 + 1)), RF, H', ⟨by have := HK1.out; have := HK2.out; omega⟩, ⟨KS HO_8⟩, ⟨KR HO_9⟩, ⟨KR HO_24⟩, ⟨by (with_reducible repeat (first | apply Kd.V_alloc | apply Kd.V_drewN | apply Kd.V_drew)); exact HO_475001.out⟩, ⟨KS HO_475002⟩, ⟨KR HO_475003⟩, ⟨by (with_reducible repeat (first | refine blk_drewN ?_ _ | refine blk_drew ?_ | refine blk_alloc ?_ _)); exact BK474.out⟩, ⟨by (with_reducible repeat (first | refine blk_drewN ?_ _ | refine blk_drew ?_ | refine blk_alloc ?_ _)); exact BK482.out⟩, ⟨by repeat (first | (with_reducible first | exact HB.out | apply below_alloc | apply pw_below_drewN | apply below_drew1 | refine below_set ?_ GE474.out | refine below_set ?_ GE482.out) | exact HB.out)⟩⟩
           ·replace c25 := Bool.eq_false_iff.mpr c25
            subst c25
            replace H := IN H
            have H' := Aside0.mk H
            clear H
            try go_wp2
            have n0_ := Aside0.mk (Kd.S_drew HO_8.out)
            have n1_ := Aside0.mk (Kd.R_drew HO_9.out)
            have n2_ := Aside0.mk (Kd.R_drew HO_24.out)
            have n3_ := Aside0.mk (Kd.V_drew HO_475001.out)
            have n4_ := Aside0.mk (Kd.S_drew HO_475002.out)
            have n5_ := Aside0.mk (Kd.R_drew HO_475003.out)
            have n6_ := Aside0.mk (blk_drew BK474.out)
            have n7_ := Aside0.mk (blk_drew BK482.out)
            have n8_ := Aside0.mk (below_drew1 HB.out)
            clear HO_8
            clear HO_9
            clear HO_24
            clear HO_475001
            clear HO_475002
            clear HO_475003
            clear BK474
            clear BK482
            clear HB
            have HO_8 := n0_
            have HO_9 := n1_
            have HO_24 := n2_
            have HO_475001 := n3_
            have HO_475002 := n4_
            have HO_475003 := n5_
            have BK474 := n6_
            have BK482 := n7_
            have HB := n8_
            clear n0_ n1_ n2_ n3_ n4_ n5_ n6_ n7_ n8_
            have p483 : 0 ≤ (x12_2 : Int) := of_decide_eq_true AS
            have q483 : x12_2 < (t478.length : Int) := of_decide_eq_true AS
            obtain ⟨ad483, e483, hx483_0, hx483_1, hx483_2⟩ := at_T67 (Kd.R_reads' HO_9.out).2.2 x12_2 p483 q483
            obtain rfl : ad481 = ad483 := (by injection e483)
            replace p483 := eq_true p483
            replace q483 := eq_true q483
            refine start_ (n := 12) (S := fun w' => w'.cell? ⟨gb482, 0, none⟩ = some (.int .i64 ((rd_T67 t478 x26_1).f0)) ∧ w'.cell? ⟨gb482, 1, none⟩ = some (.int .i64 ((rd_T67 t478 x26_1).f1)) ∧ w'.cell? ⟨gb482, 2, none⟩ = some (.int .i64 ((rd_T67 t478 x26_1).f2)) ∧ w'.cell? (ad481.add ((x12_2).toNat * 3)) = some (.int .i64 ((rd_T67 t478 x12_2).f0)) ∧ w'.cell? ⟨(ad481.add ((x12_2).toNat * 3)).block, (ad481.add ((x12_2).toNat * 3)).off + 1, none⟩ = some (.int .i64 ((rd_T67 t478 x12_2).f1)) ∧ w'.cell? ⟨(ad481.add ((x12_2).toNat * 3)).block, (ad481.add ((x12_2).toNat * 3)).off + 2, none⟩ = some (.int .i64 ((rd_T67 t478 x12_2).f2))) (ds := []) #[false, false, false, false, false, false, false, false, false, false, false, false] (by kernel_rfl) rfl rfl ⟨(blk_cell BK482.out 0).trans rfl, (blk_cell BK482.out 1).trans rfl, (blk_cell BK482.out 2).trans rfl, hx483_0, hx483_1, hx483_2⟩ (fun hHeld => ?_); refine with_tabW impl_DoorsOf.tab11 impl_DoorsOf.bits11 (fun HT_ HW_ => ?_)
            generalize wr.drew = w39 at HO_8 HO_9 HO_24 HO_475001 HO_475002 HO_475003 BK474 BK482 HB hx483_0 hx483_1 hx483_2 hHeld ⊢
            refine pure_ (i := 1) (N := some 40) #[false, true, false, false, false, false, false, false, false, false, false, false] rfl rfl (any_of HT_.out (by kernel_rfl)) (fun _ _ _ h => h) (Or.inl ⟨by rfl, PW⟩) PU ?_
            refine pure_ (i := 2) (N := some 41) #[false, true, true, false, false, false, false, false, false, false, false, false] rfl rfl (any_of HT_.out (by kernel_rfl)) (fun _ _ _ h => h) (Or.inl ⟨by rfl, PW⟩) PU ?_
            refine pure_ (i := 3) (N := some 42) #[false, true, true, true, false, false, false, false, false, false, false, false] rfl rfl (any_of HT_.out (by kernel_rfl)) (fun _ _ _ h => h) (Or.inl ⟨by rfl, PW⟩) PU ?_
            refine take_ (i := 0) (N := some 39) #[true, true, true, true, false, false, false, false, false, false, false, false] rfl rfl (take_ofW HT_.out HW_.out (by kernel_rfl)) (fun _ _ _ h => h) (Or.inl ⟨by rfl, PT⟩) hHeld PU ?_
            refine take_ (i := 4) (N := some 43) #[true, true, true, true, true, false, false, false, false, false, false, false] rfl rfl (take_ofW HT_.out HW_.out (by kernel_rfl)) (fun _ _ _ h => h) (Or.inl ⟨by rfl, PT⟩) hHeld PU ?_
            refine one_ (i := 5) (N := some 44) #[true, true, true, true, true, true, false, false, false, false, false, false] rfl rfl (one_of HT_.out (by kernel_rfl)) (by decide) (fun K hK => ?_)
            refine goes_ Try.func46 (by kernel_rfl) rfl #[.agg #[.int .i64 ((rd_T67 t478 x26_1).f0), .int .i64 ((rd_T67 t478 x26_1).f1), .int .i64 ((rd_T67 t478 x26_1).f2)], .agg #[.int .i64 ((rd_T67 t478 x12_2).f0), .int .i64 ((rd_T67 t478 x12_2).f1), .int .i64 ((rd_T67 t478 x12_2).f2)]] (by rfl) rfl rfl TA ?_
            with_reducible refine (impl_near.calls k2 ((rd_T67 t478 x26_1).f0) ((rd_T67 t478 x26_1).f1) ((rd_T67 t478 x26_1).f2) ((rd_T67 t478 x12_2).f0) ((rd_T67 t478 x12_2).f1) ((rd_T67 t478 x12_2).f2) false _ A24.out).mono ?_
            rintro e w40 ⟨rfl, hb⟩
            have HS3_ := (hb.cell (World.block_lt_of_cell? _ _ (hHeld.2.2.2.1))).trans (hHeld.2.2.2.1)
            have HS4_ := (hb.cell (World.block_lt_of_cell? _ _ (hHeld.2.2.2.2.1))).trans (hHeld.2.2.2.2.1)
            have HS5_ := (hb.cell (World.block_lt_of_cell? _ _ (hHeld.2.2.2.2.2))).trans (hHeld.2.2.2.2.2)
            refine ⟨_, rfl, ?_⟩
            have n0_ := Aside0.mk (Kd.S_below (KS HO_8) hb)
            have n1_ := Aside0.mk (Kd.R_below (KR HO_9) hb)
            have n2_ := Aside0.mk (Kd.R_below (KR HO_24) hb)
            have n3_ := Aside0.mk (Kd.V_below (by (with_reducible repeat (first | apply Kd.V_alloc | apply Kd.V_drewN | apply Kd.V_drew)); exact HO_475001.out) hb)
            have n4_ := Aside0.mk (Kd.S_below (KS HO_475002) hb)
            have n5_ := Aside0.mk (Kd.R_below (KR HO_475003) hb)
            have n6_ := Aside0.mk (blk_below (g := gb474) (o := .cells #[.int .i64 t463, .slice Ao9 t464.length co9, .slice Ao10 t467.length co10, .slice Ao11 t470.length co11] 55 (0, 0)) (BW BK474) hb)
            have n7_ := Aside0.mk (blk_below (g := gb482) (o := .cells #[.int .i64 ((rd_T67 t478 x26_1).f0), .int .i64 ((rd_T67 t478 x26_1).f1), .int .i64 ((rd_T67 t478 x26_1).f2)] 67 (0, 0)) (BW BK482) hb)
            have n8_ := Aside0.mk (below_step (by repeat (first | (with_reducible first | exact HB.out | apply below_alloc | apply pw_below_drewN | apply below_drew1 | refine below_set ?_ GE474.out | refine below_set ?_ GE482.out) | exact HB.out)) hb)
            clear HO_8
            clear HO_9
            clear HO_24
            clear HO_475001
            clear HO_475002
            clear HO_475003
            clear BK474
            clear BK482
            clear HB
            have HO_8 := n0_
            have HO_9 := n1_
            have HO_24 := n2_
            have HO_475001 := n3_
            have HO_475002 := n4_
            have HO_475003 := n5_
            have BK474 := n6_
            have BK482 := n7_
            have HB := n8_
            clear n0_ n1_ n2_ n3_ n4_ n5_ n6_ n7_ n8_
            (try clear hb)
            (try clear hb2)
            (try clear hk)
            (try clear hi)
            refine hK.out _ _ ⟨(blk_cell BK482.out 0).trans rfl, (blk_cell BK482.out 1).trans rfl, (blk_cell BK482.out 2).trans rfl, HS3_, HS4_, HS5_⟩ (fun hHeld => ?_)
            clear hK K
            refine norm_ (a' := ?_) ?_ ?_
            rotate_left
            ·show Act.put _ (some 44) _ = _
             simp only [Act.put, List.setIfInBounds_toArray, List.set_cons_zero, List.set_cons_succ, i64_w, i32_w]
             rfl
            refine pure_ (i := 6) (N := some 45) #[true, true, true, true, true, true, true, false, false, false, false, false] rfl rfl (any_of HT_.out (by kernel_rfl)) (fun _ _ _ h => h) (Or.inl ⟨by rfl, PW⟩) PU ?_
            refine pure_ (i := 7) (N := some 46) (v := undef) (a' := ?_) #[true, true, true, true, true, true, true, true, false, false, false, false] rfl rfl (any_of HT_.out (by kernel_rfl)) (fun _ _ _ h => h) (Or.inr ⟨by rfl, rfl⟩) ?_ ?_
            rotate_left
            ·exact PU
            refine pure_ (i := 8) (N := some 47) (v := undef) (a' := ?_) #[true, true, true, true, true, true, true, true, true, false, false, false] rfl rfl (any_of HT_.out (by kernel_rfl)) (fun _ _ _ h => h) (Or.inr ⟨by rfl, rfl⟩) ?_ ?_
            rotate_left
            ·exact PU
            refine pure_ (i := 9) (N := some 48) (v := undef) (a' := ?_) #[true, true, true, true, true, true, true, true, true, true, false, false] rfl rfl (any_of HT_.out (by kernel_rfl)) (fun _ _ _ h => h) (Or.inr ⟨by rfl, rfl⟩) ?_ ?_
            rotate_left
            ·exact PU
            refine pure_ (i := 10) (N := some 49) (v := undef) (a' := ?_) #[true, true, true, true, true, true, true, true, true, true, true, false] rfl rfl (any_of HT_.out (by kernel_rfl)) (fun _ _ _ h => h) (Or.inr ⟨by rfl, rfl⟩) ?_ ?_
            rotate_left
            ·exact PU
            refine pure_ (i := 11) (N := some 50) #[true, true, true, true, true, true, true, true, true, true, true, true] rfl rfl (any_of HT_.out (by kernel_rfl)) (fun _ _ _ h => h) (Or.inl ⟨by rfl, PW⟩) PU ?_
            refine done_ (done_of HT_.out (by kernel_rfl)) ?_
            try go_wp2
            go_roundg k2
            case measure => have := HK1.out; have := HK2.out; omega
            case rel => exact ⟨(x8_2), (wrap64 (x12_2 + 1)), RF, H', ⟨by have := HK1.out; have := HK2.out; omega⟩, ⟨KS HO_8⟩, ⟨KR HO_9⟩, ⟨KR HO_24⟩, ⟨by (with_reducible repeat (first | apply Kd.V_alloc | apply Kd.V_drewN | apply Kd.V_drew)); exact HO_475001.out⟩, ⟨KS HO_475002⟩, ⟨KR HO_475003⟩, ⟨by (with_reducible repeat (first | refine blk_drewN ?_ _ | refine blk_drew ?_ | refine blk_alloc ?_ _)); exact BK474.out⟩, ⟨by (with_reducible repeat (first | refine blk_drewN ?_ _ | refine blk_drew ?_ | refine blk_alloc ?_ _)); exact BK482.out⟩, ⟨by repeat (first | (with_reducible first | exact HB.out | apply below_alloc | apply pw_below_drewN | apply below_drew1 | refine below_set ?_ GE474.out | refine below_set ?_ GE482.out) | exact HB.out)⟩⟩
          ·rw [if_neg c23] at H
           cases H
         ·rw [if_neg c22] at H
          have c22b0 : decide (x12_2 < (t478.length : Int)) = false := decide_eq_false c22
          clear c22
          have H' := Aside0.mk H
          clear H
          go_wp2
          go_roundg k2
          case measure => have := HK1.out; have := HK2.out; omega
          case rel => exact ⟨(x8_2), (wrap64 (x26_1 + 1)), RF, H', ⟨by have := HK1.out; have := HK2.out; omega⟩, ⟨KS HO_8⟩, ⟨by (with_reducible repeat (first | apply Kd.R_alloc | apply Kd.R_drewN | apply Kd.R_drew)); exact Kd.R_mono HO_9.out (fun _ hk => trivial)⟩, ⟨by (with_reducible repeat (first | apply Kd.R_alloc | apply Kd.R_drewN | apply Kd.R_drew)); exact Kd.R_mono HO_24.out (fun _ hk => trivial)⟩, ⟨by (with_reducible repeat (first | apply Kd.V_alloc | apply Kd.V_drewN | apply Kd.V_drew)); exact Kd.V_mono HO_475001.out (fun _ hk => ⟨hk.1, ⟨hk.2.1, ⟨hk.2.2.1, ⟨hk.2.2.2.1, ⟨hk.2.2.2.2.1, hk.2.2.2.2.2.1⟩⟩⟩⟩⟩)⟩, ⟨KS HO_475002⟩, ⟨KR HO_475003⟩, ⟨by (with_reducible repeat (first | refine blk_drewN ?_ _ | refine blk_drew ?_ | refine blk_alloc ?_ _)); exact BK474.out⟩, ⟨by repeat (first | (with_reducible first | exact HB.out | apply below_alloc | apply pw_below_drewN | apply below_drew1 | refine below_set ?_ GE474.out | refine below_set ?_ GE482.out) | exact HB.out)⟩⟩
      ·rw [if_neg c18] at H
       cases H
     ·rw [if_neg c17] at H
      cases H
    ·rw [if_neg c16] at H
     have c16b0 : decide (x26_1 < (t478.length : Int)) = false := decide_eq_false c16
     clear c16
     simp only [Option.some.injEq, Prod.mk.injEq] at H
     obtain ⟨rfl, rfl⟩ := H
     go_wp2
     go_ret2
     exact ⟨_, RE, by (with_reducible repeat (first | apply Kd.S_alloc | apply Kd.S_drewN | apply Kd.S_drew)); exact Kd.S_mono HO_8.out (fun _ hk => trivial), AGE GE474⟩
 ·replace c4 := Bool.eq_false_iff.mpr c4
  subst c4
  replace H := IN H
  simp only [Option.some.injEq, Prod.mk.injEq] at H
  obtain ⟨rfl, rfl⟩ := H
  go_enter Try.func14, Try.ntmps14
  go_wp2_with (first | ((with_reducible refine gate_callee (f := 36) rfl ?_); refine goesL_ (some 16) rfl rfl Try.func36 (by kernel_rfl) rfl #[.int .i64 a0, .slice A1 l1.length c1] rfl TA ?_; (with_reducible refine (impl_houseOf.calls k a0 (fun k_ => k_ < w.heap.size) _ _ l1 t463 t464 t467 t470 false _ ?side1 A3.out).mono ?_); (case side1 => exact Kd.V_mk HC1.out (Kd.F_below (Kd.C_F (Kd.heap_int .i64) HR1.out) BB)); rintro e w41 ⟨v465, v468, v471, rfl, ho0, ho1, ho2, hb⟩; refine ⟨_, rfl, ?_⟩; have n0_ := Aside0.mk (Kd.V_lower (Kd.V_mono (ok' := fun k_ => some k_ ≠ (v468 : Value).ownBlock ∧ some k_ ≠ (v471 : Value).ownBlock) ho0 (fun k_ hk_ => ⟨hk_.2.1, hk_.2.2⟩)) (below_size BB)); have n1_ := Aside0.mk (Kd.S_lower (Kd.S_mono (ok' := fun k_ => some k_ ≠ (v471 : Value).ownBlock) ho1 (fun _ hk_ => hk_.2)) (below_size BB)); have n2_ := Aside0.mk (Kd.R_lower (Kd.R_mono (ok' := fun k_ => True) ho2 (fun _ hk_ => trivial)) (below_size BB)); have n3_ := Aside0.mk (below_step BB hb); clear HB; have HO466 := n0_; have HO469 := n1_; have HO472 := n2_; have HB := n3_; clear n0_ n1_ n2_ n3_; (try clear hb); (try clear hb2); (try clear hk); (try clear hi); (try clear ho0); (try clear ho1); (try clear ho2)) | ((with_reducible refine gate_dst (N := 6) rfl ?_); refine box_event ?hg (N := 6) ?hd (cs := #[.int .i64 0, .slice none 0 0, .slice none 0 0, .slice none 0 0]) (t := 55) ?hr ?_; (case hd => rfl); (case hg => rfl); (case hr => exact GS); intro gb474 hg w42 hbox hb; have n0_ := Aside0.mk (Kd.V_below (Kd.V_elderB (by (with_reducible repeat (first | apply Kd.V_alloc | apply Kd.V_drewN | apply Kd.V_drew)); exact HO466.out) gb474 (Nat.le_of_eq hg.symm)) hb); have n1_ := Aside0.mk (Kd.S_below (KS HO469) hb); have n2_ := Aside0.mk (Kd.R_below (KR HO472) hb); have n3_ := Aside0.mk (below_step BB hb); have n4_ := Aside0.mk (hbox); have n5_ := Aside0.mk ((by rw [hg]; exact (below_size BB) : w.heap.size ≤ gb474)); have n6_ := Aside0.mk ((by rw [hg]; exact (below_size BB) : w.heap.size ≤ gb474)); clear HO466; clear HO469; clear HO472; clear HB; have HO466 := n0_; have HO469 := n1_; have HO472 := n2_; have HB := n3_; have BK474 := n4_; have GW474 := n5_; have GE474 := n6_; clear n0_ n1_ n2_ n3_ n4_ n5_ n6_; clear hb hbox hg; have hcz43_0 : w42.cell? ⟨gb474, 0, none⟩ = some (.int .i64 0) := (blk_cell BK474.out 0).trans rfl; have hcz43_1 : w42.cell? ⟨gb474, 1, none⟩ = some (.slice none 0 0) := (blk_cell BK474.out 1).trans rfl; have hcz43_2 : w42.cell? ⟨gb474, 2, none⟩ = some (.slice none 0 0) := (blk_cell BK474.out 2).trans rfl; have hcz43_3 : w42.cell? ⟨gb474, 3, none⟩ = some (.slice none 0 0) := (blk_cell BK474.out 3).trans rfl; have hfz43_0 := blk_frozen BK474.out 0; have hfz43_1 := blk_frozen BK474.out 1; have hfz43_2 := blk_frozen BK474.out 2; have hfz43_3 := blk_frozen BK474.out 3; obtain ⟨Ao44, co44, eo44⟩ := Kd.V_slice HO466.out; subst eo44; obtain ⟨Ao45, co45, eo45⟩ := Kd.S_slice HO469.out; subst eo45; obtain ⟨Ao46, co46, eo46⟩ := Kd.R_slice HO472.out; subst eo46))
  go_ret2
  exact ⟨_, RE, by first | exact Kd.S_nil _ _ _ _ _ | exact Kd.N_nil _ _ _ _ _ | exact Kd.V_nil _ _ _ _ _ | exact Kd.Q_nil _ _ _ _ _ | exact Kd.R_nil _ _ _ _ _, AGE GE474⟩

end Go.Proofs.Ytafjjbkkcedgnab.PFnDoorsOfRooms
