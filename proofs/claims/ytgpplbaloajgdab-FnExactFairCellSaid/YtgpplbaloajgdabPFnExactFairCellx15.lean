-- Written by a program of this session (wip/tools/pp.sh) out of the translation; Lean checks it.
import Derived.Test.YtgpplbaloajgdabPFnExactFairCellx0
import Derived.Test.YtgpplbaloajgdabPFnExactFairCellx10
import Derived.Test.YtgpplbaloajgdabPFnExactFairCellx11
import Derived.Test.YtgpplbaloajgdabPFnExactFairCellx14
namespace Go.Proofs.Ytgpplbaloajgdab.PFnExactFairCell
open Go.RowKit Go.Proofs.YtgpplbaloajgdabOwn Go.Proofs.YtgpplbaloajgdabW.PrintWords Go.Proofs.YtgpplbaloajgdabW.PrintLast Go.Proofs.YtgpplbaloajgdabW.PrintMore
attribute [local go_sem] max2_int min2_int max_two min_two max_three min_three max_four min_four   -- for this text's walks alone
set_option linter.unusedVariables false
set_option maxHeartbeats 8000000
set_option maxRecDepth 100000
set_option linter.unusedSimpArgs false

/-! ### impl_FindFull: function 42 -/
def impl_FindFull.l0 : Nat → List (List Int) → Int → Int → Int → List Int → List (List Int) → List Int → Option (Int × Bool)
 | 0, _, _, _, _, _, _, _ => none
 | k + 1, x22, x23, x24, x479000, x479001, x479002, x479003 => if x24 < x23 then (if 0 ≤ x24 then (if x24 < (x22.length : Int) then (if 0 < ((rd_L1 x22 x24).length : Int) then (if 1 < ((rd_L1 x22 x24).length : Int) then ((impl_house_enter.f k x479000 x479001 x479002 x479003 (rd (rd_L1 x22 x24) 0) (rd (rd_L1 x22 x24) 1)).bind fun bt485 => (if bt485.2.2 = true then (if 0 ≤ (wrap64 ((bt485.1.length : Int) - 1)) then (if (wrap64 ((bt485.1.length : Int) - 1)) < (bt485.1.length : Int) then (some (rd bt485.1 (wrap64 ((bt485.1.length : Int) - 1)), true)) else (none)) else (none)) else (impl_FindFull.l0 k x22 x23 (wrap64 (x24 + 1)) x479000 x479001 x479002 x479003))) else (none)) else (none)) else (none)) else (none)) else (some (0, false))
def impl_FindFull.f (k : Nat) (a0 : Int) (l1 : List Int) : Option (Int × Bool) := (impl_houseOf.f k a0 l1).bind fun bt467 => (if bt467.2.2.2.2 = true then ((impl_house_entries.f k bt467.1 bt467.2.1 bt467.2.2.1 bt467.2.2.2.1).bind fun t479 => (impl_FindFull.l0 k t479 (t479.length : Int) 0 bt467.1 bt467.2.1 bt467.2.2.1 bt467.2.2.2.1)) else (some (0, false)))
theorem impl_FindFull.mono_l : ∀ k, (∀ y0 y1 y2 y3 y4 y5 y6, LeO (impl_FindFull.l0 k y0 y1 y2 y3 y4 y5 y6) (impl_FindFull.l0 (k + 1) y0 y1 y2 y3 y4 y5 y6))
 | 0 => fun _ _ _ _ _ _ _ r h => by simp [impl_FindFull.l0] at h
 | k + 1 => by
  have ih0 := impl_FindFull.mono_l k
  ·intro y0 y1 y2 y3 y4 y5 y6
   unfold impl_FindFull.l0
   repeat' first
   | with_reducible first | exact ih0 _ _ _ _ _ _ _ | exact impl_houseOf.mono _ _ _ | exact impl_house_enter.mono _ _ _ _ _ _ _ | exact impl_house_entries.mono _ _ _ _ _ | exact LeO.refl _ | exact LeO.none _ | refine LeO.ite ?_ ?_ | refine LeO.bind ?_ (fun _ => ?_)
   | exact LeO.none _ | refine LeO.ite ?_ ?_ | refine LeO.bind ?_ (fun _ => ?_)
theorem impl_FindFull.mono : ∀ a0 a1 k, LeO (impl_FindFull.f k a0 a1) (impl_FindFull.f (k + 1) a0 a1) := by
 intro a0 a1 k
 have ih0 := impl_FindFull.mono_l k
 unfold impl_FindFull.f
 repeat' first
   | with_reducible first | exact ih0 _ _ _ _ _ _ _ | exact impl_houseOf.mono _ _ _ | exact impl_house_enter.mono _ _ _ _ _ _ _ | exact impl_house_entries.mono _ _ _ _ _ | exact LeO.refl _ | exact LeO.none _ | refine LeO.ite ?_ ?_ | refine LeO.bind ?_ (fun _ => ?_)
   | exact LeO.none _ | refine LeO.ite ?_ ?_ | refine LeO.bind ?_ (fun _ => ?_)
def impl_FindFull.T7 : Bool × List (List Nat × List Nat) := (true, [([], []), ([], []), ([1], [1]), ([2], [2]), ([], []), ([4], [4]), ([5], [5]), ([0, 3, 6], [0, 3, 6]), ([7], [7]), ([8], [8]), ([8], [8]), ([8], [8]), ([9, 7, 0, 1, 2, 3, 4, 5, 6, 7, 8, 9], [9]), ([10, 12, 0, 1, 2, 3, 4, 5, 6, 7, 8, 9, 10, 12], [10]), ([11, 13, 0, 1, 2, 3, 4, 5, 6, 7, 8, 9, 10, 11, 12, 13], [11])])
def impl_FindFull.B7 : List Nat := [0, 0, 2, 6, 0, 16, 48, 127, 255, 511, 511, 511, 1023, 6143, 16383]
theorem impl_FindFull.tab7 : rtab .any (opsOf Try.f42 7) = impl_FindFull.T7 := by kernel_rfl
theorem impl_FindFull.bits7 : waitsOk impl_FindFull.T7.2 impl_FindFull.B7 = true := by kernel_rfl
theorem impl_FindFull.calls (k : Nat) (a0 : Int) (A1 : Option Addr) (c1 : Nat) (l1 : List Int) (r1 : Int) (r2 : Bool) (w : World) (hr1 : Kd.C (Kd.int .i64) w A1 l1.length l1) (hc1 : l1.length ≤ c1) (h : impl_FindFull.f k a0 l1 = some (r1, r2)) :
  Calls Try.prog 42 #[.int .i64 a0, .slice A1 l1.length c1] w fun e w' => e = .returned (.tuple #[.int .i64 r1, .bool r2]) ∧ Below w.heap.size w w' := by
 have hu46 := Try.underlying46
 have HR1 := Aside0.mk hr1
 have HC1 := Aside0.mk hc1
 clear hr1 hc1
 have HB := Aside0.mk (Below.refl w.heap.size w)
 have H : ((impl_houseOf.f k a0 l1).bind fun bt467 => (if bt467.2.2.2.2 = true then ((impl_house_entries.f k bt467.1 bt467.2.1 bt467.2.2.1 bt467.2.2.2.1).bind fun t479 => (impl_FindFull.l0 k t479 (t479.length : Int) 0 bt467.1 bt467.2.1 bt467.2.2.1 bt467.2.2.2.1)) else (some (0, false)))) = some (r1, r2) := h
 clear h
 obtain ⟨⟨t467, t468, t471, t474, t477⟩, A30, H⟩ := Option.bind_eq_some_iff.mp H
 replace H : (if t477 = true then ((impl_house_entries.f k t467 t468 t471 t474).bind fun t479 => (impl_FindFull.l0 k t479 (t479.length : Int) 0 t467 t468 t471 t474)) else (some (0, false))) = some (r1, r2) := H
 have A3 := Aside0.mk A30
 clear A30
 by_cases c4 : t477 = true
 ·subst c4
  replace H := IP H
  obtain ⟨t479, A50, H⟩ := Option.bind_eq_some_iff.mp H
  have A5 := Aside0.mk A50
  clear A50
  have H' := Aside0.mk H
  clear H
  go_enter Try.func42, Try.ntmps42
  go_wp2_with (first | ((with_reducible refine gate_callee (f := 30) rfl ?_); refine goesL_ (some 16) rfl rfl Try.func30 (by kernel_rfl) rfl #[.int .i64 a0, .slice A1 l1.length c1] rfl TA ?_; (with_reducible refine (impl_houseOf.calls k a0 (fun k_ => k_ < w.heap.size) _ _ l1 t467 t468 t471 t474 true _ ?side1 A3.out).mono ?_); (case side1 => exact Kd.V_mk HC1.out (Kd.F_below (Kd.C_F (Kd.heap_int .i64) HR1.out) BB)); rintro e w6 ⟨v469, v472, v475, rfl, ho0, ho1, ho2, hb⟩; refine ⟨_, rfl, ?_⟩; have n0_ := Aside0.mk (Kd.V_lower (Kd.V_mono (ok' := fun k_ => some k_ ≠ (v472 : Value).ownBlock ∧ some k_ ≠ (v475 : Value).ownBlock) ho0 (fun k_ hk_ => ⟨hk_.2.1, hk_.2.2⟩)) (below_size BB)); have n1_ := Aside0.mk (Kd.S_lower (Kd.S_mono (ok' := fun k_ => some k_ ≠ (v475 : Value).ownBlock) ho1 (fun _ hk_ => hk_.2)) (below_size BB)); have n2_ := Aside0.mk (Kd.R_lower (Kd.R_mono (ok' := fun k_ => True) ho2 (fun _ hk_ => trivial)) (below_size BB)); have n3_ := Aside0.mk (below_step BB hb); clear HB; have HO470 := n0_; have HO473 := n1_; have HO476 := n2_; have HB := n3_; clear n0_ n1_ n2_ n3_; (try clear hb); (try clear hb2); (try clear hk); (try clear hi); (try clear ho0); (try clear ho1); (try clear ho2)) | ((with_reducible refine gate_dst (N := 6) rfl ?_); refine box_event ?hg (N := 6) ?hd (cs := #[.int .i64 0, .slice none 0 0, .slice none 0 0, .slice none 0 0]) (t := 46) ?hr ?_; (case hd => rfl); (case hg => rfl); (case hr => exact GS); intro gb478 hg w7 hbox hb; have n0_ := Aside0.mk (Kd.V_below (Kd.V_elderB (by (with_reducible repeat (first | apply Kd.V_alloc | apply Kd.V_drewN | apply Kd.V_drew)); exact HO470.out) gb478 (Nat.le_of_eq hg.symm)) hb); have n1_ := Aside0.mk (Kd.S_below (KS HO473) hb); have n2_ := Aside0.mk (Kd.R_below (KR HO476) hb); have n3_ := Aside0.mk (below_step BB hb); have n4_ := Aside0.mk (hbox); have n5_ := Aside0.mk ((by rw [hg]; exact (below_size BB) : w.heap.size ≤ gb478)); have n6_ := Aside0.mk ((by rw [hg]; exact (below_size BB) : w.heap.size ≤ gb478)); clear HO470; clear HO473; clear HO476; clear HB; have HO470 := n0_; have HO473 := n1_; have HO476 := n2_; have HB := n3_; have BK478 := n4_; have GW478 := n5_; have GE478 := n6_; clear n0_ n1_ n2_ n3_ n4_ n5_ n6_; clear hb hbox hg; have hcz8_0 : w7.cell? ⟨gb478, 0, none⟩ = some (.int .i64 0) := (blk_cell BK478.out 0).trans rfl; have hcz8_1 : w7.cell? ⟨gb478, 1, none⟩ = some (.slice none 0 0) := (blk_cell BK478.out 1).trans rfl; have hcz8_2 : w7.cell? ⟨gb478, 2, none⟩ = some (.slice none 0 0) := (blk_cell BK478.out 2).trans rfl; have hcz8_3 : w7.cell? ⟨gb478, 3, none⟩ = some (.slice none 0 0) := (blk_cell BK478.out 3).trans rfl; have hfz8_0 := blk_frozen BK478.out 0; have hfz8_1 := blk_frozen BK478.out 1; have hfz8_2 := blk_frozen BK478.out 2; have hfz8_3 := blk_frozen BK478.out 3; obtain ⟨Ao9, co9, eo9⟩ := Kd.V_slice HO470.out; subst eo9; obtain ⟨Ao10, co10, eo10⟩ := Kd.S_slice HO473.out; subst eo10; obtain ⟨Ao11, co11, eo11⟩ := Kd.R_slice HO476.out; subst eo11) | ((with_reducible refine gate_callee (f := 32) rfl ?_); refine goesL_ (some 22) rfl rfl Try.func32 (by kernel_rfl) rfl #[.agg #[.int .i64 t467, .slice Ao9 t468.length co9, .slice Ao10 t471.length co10, .slice Ao11 t474.length co11]] rfl TA ?_; (with_reducible refine (impl_house_entries.calls k t467 _ _ t468 _ _ t471 _ _ t474 t479 _ ?side1 ?side2 ?side3 ?side4 ?side5 ?side6 A5.out).mono ?_); (case side1 => refine (Kd.V_reads' (e := 3) (base := w.heap.size) (ok := fun k_ => ((some k_ ≠ (.slice Ao10 t471.length co10 : Value).ownBlock ∧ some k_ ≠ (.slice Ao11 t474.length co11 : Value).ownBlock) ∧ k_ ≠ gb478)) (n := t468.length) (c := co9) ?_).2.2; exact (by (with_reducible repeat (first | apply Kd.V_alloc | apply Kd.V_drewN | apply Kd.V_drew)); exact (Kd.V_mono (Kd.V_far (p := ⟨gb478, 3, none⟩) (Kd.V_far (p := ⟨gb478, 2, none⟩) (Kd.V_far (p := ⟨gb478, 1, none⟩) (Kd.V_far (p := ⟨gb478, 0, none⟩) (Kd.V_mono HO470.out (fun k_ hk => (⟨hk, hk.2⟩ : _ ∧ k_ ≠ gb478))) (fun _ hk => hk.2) (.int .i64 t467)) (fun _ hk => hk.2) (.slice Ao9 t468.length co9)) (fun _ hk => hk.2) (.slice Ao10 t471.length co10)) (fun _ hk => hk.2) (.slice Ao11 t474.length co11)) (fun _ h_ => h_.1)))); (case side2 => exact (Kd.V_reads' HO470.out).2.1); (case side3 => refine (Kd.S_reads' (e := 22) (base := w.heap.size) (ok := fun k_ => some k_ ≠ (.slice Ao11 t474.length co11 : Value).ownBlock) (n := t471.length) (c := co10) ?_).2.2; exact (by (with_reducible repeat (first | apply Kd.S_alloc | apply Kd.S_drewN | apply Kd.S_drew)); exact (Kd.S_mono (Kd.S_far (p := ⟨gb478, 3, none⟩) (Kd.S_far (p := ⟨gb478, 2, none⟩) (Kd.S_far (p := ⟨gb478, 1, none⟩) (Kd.S_far (p := ⟨gb478, 0, none⟩) (Kd.S_types HO473.out BK478.out (by decide)) (fun _ hk => hk.2) (.int .i64 t467)) (fun _ hk => hk.2) (.slice Ao9 t468.length co9)) (fun _ hk => hk.2) (.slice Ao10 t471.length co10)) (fun _ hk => hk.2) (.slice Ao11 t474.length co11)) (fun _ h_ => h_.1)))); (case side4 => exact (Kd.S_reads' HO473.out).2.1); (case side5 => refine (Kd.R_reads' (e := 3) (base := w.heap.size) (ok := fun k_ => True) (n := t474.length) (c := co11) ?_).2.2; exact (by (with_reducible repeat (first | apply Kd.R_alloc | apply Kd.R_drewN | apply Kd.R_drew)); exact (Kd.R_mono (Kd.R_far (p := ⟨gb478, 3, none⟩) (Kd.R_far (p := ⟨gb478, 2, none⟩) (Kd.R_far (p := ⟨gb478, 1, none⟩) (Kd.R_far (p := ⟨gb478, 0, none⟩) (Kd.R_types HO476.out BK478.out (by decide)) (fun _ hk => hk.2) (.int .i64 t467)) (fun _ hk => hk.2) (.slice Ao9 t468.length co9)) (fun _ hk => hk.2) (.slice Ao10 t471.length co10)) (fun _ hk => hk.2) (.slice Ao11 t474.length co11)) (fun _ h_ => h_.1)))); (case side6 => exact (Kd.R_reads' HO476.out).2.1); rintro e w12 ⟨v480, rfl, ho0, hb⟩; refine ⟨_, rfl, ?_⟩; have n0_ := Aside0.mk (Kd.V_elder' (by (with_reducible repeat (first | apply Kd.V_alloc | apply Kd.V_drewN | apply Kd.V_drew)); exact (Kd.V_mono (Kd.V_far (p := ⟨gb478, 3, none⟩) (Kd.V_far (p := ⟨gb478, 2, none⟩) (Kd.V_far (p := ⟨gb478, 1, none⟩) (Kd.V_far (p := ⟨gb478, 0, none⟩) (Kd.V_mono HO470.out (fun k_ hk => (⟨hk, hk.2⟩ : _ ∧ k_ ≠ gb478))) (fun _ hk => hk.2) (.int .i64 t467)) (fun _ hk => hk.2) (.slice Ao9 t468.length co9)) (fun _ hk => hk.2) (.slice Ao10 t471.length co10)) (fun _ hk => hk.2) (.slice Ao11 t474.length co11)) (fun _ h_ => h_.1))) (Kd.S_base ho0) hb); have n1_ := Aside0.mk (Kd.S_elder' (by (with_reducible repeat (first | apply Kd.S_alloc | apply Kd.S_drewN | apply Kd.S_drew)); exact (Kd.S_mono (Kd.S_far (p := ⟨gb478, 3, none⟩) (Kd.S_far (p := ⟨gb478, 2, none⟩) (Kd.S_far (p := ⟨gb478, 1, none⟩) (Kd.S_far (p := ⟨gb478, 0, none⟩) (Kd.S_types HO473.out BK478.out (by decide)) (fun _ hk => hk.2) (.int .i64 t467)) (fun _ hk => hk.2) (.slice Ao9 t468.length co9)) (fun _ hk => hk.2) (.slice Ao10 t471.length co10)) (fun _ hk => hk.2) (.slice Ao11 t474.length co11)) (fun _ h_ => h_.1))) (Kd.S_base ho0) hb); have n2_ := Aside0.mk (Kd.R_below (by (with_reducible repeat (first | apply Kd.R_alloc | apply Kd.R_drewN | apply Kd.R_drew)); exact (Kd.R_mono (Kd.R_far (p := ⟨gb478, 3, none⟩) (Kd.R_far (p := ⟨gb478, 2, none⟩) (Kd.R_far (p := ⟨gb478, 1, none⟩) (Kd.R_far (p := ⟨gb478, 0, none⟩) (Kd.R_types HO476.out BK478.out (by decide)) (fun _ hk => hk.2) (.int .i64 t467)) (fun _ hk => hk.2) (.slice Ao9 t468.length co9)) (fun _ hk => hk.2) (.slice Ao10 t471.length co10)) (fun _ hk => hk.2) (.slice Ao11 t474.length co11)) (fun _ h_ => h_.1))) hb); have n3_ := Aside0.mk (Kd.S_lower (Kd.S_new' (Kd.S_new' ho0 (Kd.S_lt (by (with_reducible repeat (first | apply Kd.S_alloc | apply Kd.S_drewN | apply Kd.S_drew)); exact (Kd.S_mono (Kd.S_far (p := ⟨gb478, 3, none⟩) (Kd.S_far (p := ⟨gb478, 2, none⟩) (Kd.S_far (p := ⟨gb478, 1, none⟩) (Kd.S_far (p := ⟨gb478, 0, none⟩) (Kd.S_types HO473.out BK478.out (by decide)) (fun _ hk => hk.2) (.int .i64 t467)) (fun _ hk => hk.2) (.slice Ao9 t468.length co9)) (fun _ hk => hk.2) (.slice Ao10 t471.length co10)) (fun _ hk => hk.2) (.slice Ao11 t474.length co11)) (fun _ h_ => h_.1))))) (Kd.R_lt (by (with_reducible repeat (first | apply Kd.R_alloc | apply Kd.R_drewN | apply Kd.R_drew)); exact (Kd.R_mono (Kd.R_far (p := ⟨gb478, 3, none⟩) (Kd.R_far (p := ⟨gb478, 2, none⟩) (Kd.R_far (p := ⟨gb478, 1, none⟩) (Kd.R_far (p := ⟨gb478, 0, none⟩) (Kd.R_types HO476.out BK478.out (by decide)) (fun _ hk => hk.2) (.int .i64 t467)) (fun _ hk => hk.2) (.slice Ao9 t468.length co9)) (fun _ hk => hk.2) (.slice Ao10 t471.length co10)) (fun _ hk => hk.2) (.slice Ao11 t474.length co11)) (fun _ h_ => h_.1))))) (below_size (by repeat (first | (with_reducible first | exact HB.out | apply below_alloc | apply pw_below_drewN | apply below_drew1 | refine below_set ?_ GE478.out) | exact HB.out)))); have n4_ := Aside0.mk (blk_below (g := gb478) (o := .cells #[.int .i64 t467, .slice Ao9 t468.length co9, .slice Ao10 t471.length co10, .slice Ao11 t474.length co11] 46 (0, 0)) (by (with_reducible repeat (first | refine blk_drewN ?_ _ | refine blk_drew ?_ | refine blk_alloc ?_ _)); refine blk_put (cs := #[.int .i64 t467, .slice Ao9 t468.length co9, .slice Ao10 t471.length co10, .slice none 0 0]) ?_ 3 _ rfl; (with_reducible repeat (first | refine blk_drewN ?_ _ | refine blk_drew ?_ | refine blk_alloc ?_ _)); refine blk_put (cs := #[.int .i64 t467, .slice Ao9 t468.length co9, .slice none 0 0, .slice none 0 0]) ?_ 2 _ rfl; (with_reducible repeat (first | refine blk_drewN ?_ _ | refine blk_drew ?_ | refine blk_alloc ?_ _)); refine blk_put (cs := #[.int .i64 t467, .slice none 0 0, .slice none 0 0, .slice none 0 0]) ?_ 1 _ rfl; (with_reducible repeat (first | refine blk_drewN ?_ _ | refine blk_drew ?_ | refine blk_alloc ?_ _)); refine blk_put (cs := #[.int .i64 0, .slice none 0 0, .slice none 0 0, .slice none 0 0]) ?_ 0 _ rfl; (with_reducible repeat (first | refine blk_drewN ?_ _ | refine blk_drew ?_ | refine blk_alloc ?_ _)); exact BK478.out) hb); have n5_ := Aside0.mk (below_step (by repeat (first | (with_reducible first | exact HB.out | apply below_alloc | apply pw_below_drewN | apply below_drew1 | refine below_set ?_ GE478.out) | exact HB.out)) hb); clear HO470; clear HO473; clear HO476; clear BK478; clear HB; have HO470 := n0_; have HO473 := n1_; have HO476 := n2_; have HO481 := n3_; have BK478 := n4_; have HB := n5_; clear n0_ n1_ n2_ n3_ n4_ n5_; (try clear hb); (try clear hb2); (try clear hk); (try clear hi); (try clear ho0); obtain ⟨Ao13, co13, eo13⟩ := Kd.S_slice HO481.out; subst eo13))
  go_loopg [24] k (fun kq v24 w' => ∃ (x24_1 : Int), v24 = .int .i64 x24_1 ∧ Aside0 (impl_FindFull.l0 kq t479 (t479.length : Int) x24_1 t467 t468 t471 t474 = some (r1, r2)) ∧ Aside0 (kq ≤ k) ∧ Aside0 (Kd.S (Kd.slice 3 (Kd.int .i64)) 22 w' w.heap.size (fun k_ => some k_ ≠ ((.slice Ao10 t471.length co10) : Value).ownBlock ∧ some k_ ≠ ((.slice Ao11 t474.length co11) : Value).ownBlock) (.slice Ao13 t479.length co13) t479) ∧ Aside0 (Kd.V (Kd.int .i64) 3 w' w.heap.size (fun k_ => some k_ ≠ ((.slice Ao13 t479.length co13) : Value).ownBlock ∧ some k_ ≠ ((.slice Ao10 t471.length co10) : Value).ownBlock ∧ some k_ ≠ ((.slice Ao11 t474.length co11) : Value).ownBlock ∧ k_ ≠ gb478) (.slice Ao9 t468.length co9) t468) ∧ Aside0 (Kd.S (Kd.slice 3 (Kd.int .i64)) 22 w' w.heap.size (fun k_ => some k_ ≠ ((.slice Ao13 t479.length co13) : Value).ownBlock ∧ some k_ ≠ ((.slice Ao11 t474.length co11) : Value).ownBlock) (.slice Ao10 t471.length co10) t471) ∧ Aside0 (Kd.R (Kd.int .i64) 3 w' w.heap.size (fun _ => True) (.slice Ao11 t474.length co11) t474) ∧ Aside0 (w'.heap[gb478]? = some (.cells #[.int .i64 t467, (.slice Ao9 t468.length co9), (.slice Ao10 t471.length co10), (.slice Ao11 t474.length co11)] 46 (0, 0))) ∧ Aside0 (Below w.heap.size w w'))
  case atStart => exact ⟨(0), RF, H', ⟨Nat.le_refl _⟩, ⟨by (with_reducible repeat (first | apply Kd.S_alloc | apply Kd.S_drewN | apply Kd.S_drew)); exact Kd.S_mono HO481.out (fun _ hk => ⟨hk.1.2, hk.2⟩)⟩, ⟨by (with_reducible repeat (first | apply Kd.V_alloc | apply Kd.V_drewN | apply Kd.V_drew)); exact Kd.V_mono HO470.out (fun _ hk => ⟨hk.2, ⟨hk.1.1.1, ⟨hk.1.1.2, hk.1.2⟩⟩⟩)⟩, ⟨by (with_reducible repeat (first | apply Kd.S_alloc | apply Kd.S_drewN | apply Kd.S_drew)); exact Kd.S_mono HO473.out (fun _ hk => ⟨hk.2, hk.1⟩)⟩, ⟨KR HO476⟩, ⟨by (with_reducible repeat (first | refine blk_drewN ?_ _ | refine blk_drew ?_ | refine blk_alloc ?_ _)); exact BK478.out⟩, ⟨by repeat (first | (with_reducible first | exact HB.out | apply below_alloc | apply pw_below_drewN | apply below_drew1 | refine below_set ?_ GE478.out) | exact HB.out)⟩⟩
  case round =>
   clear H'
   try clear c1
   try clear p2
   try clear c3
   try clear c4
   try clear p6
   try clear hcz8_0
   try clear hcz8_1
   try clear hcz8_2
   try clear hcz8_3
   try clear hfz8_0
   try clear hfz8_1
   try clear hfz8_2
   try clear hfz8_3
   obtain ⟨x24_1, rfl, HA, HK1, HO_22, HO_479001, HO_479002, HO_479003, BK478, HB⟩ := hrel
   cases gk with
   | zero => exact absurd HA.out (by simp [impl_FindFull.l0])
   | succ k1 =>
    have H := HA.out
    clear HA
    simp only [impl_FindFull.l0] at H
    by_cases c14 : x24_1 < (t479.length : Int)
    ·rw [if_pos c14] at H
     have c14b0 : decide (x24_1 < (t479.length : Int)) = true := decide_eq_true c14
     clear c14
     by_cases c15 : 0 ≤ x24_1
     ·rw [if_pos c15] at H
      have c15b0 : decide (0 ≤ x24_1) = true := decide_eq_true c15
      clear c15
      by_cases c16 : x24_1 < (t479.length : Int)
      ·rw [if_pos c16] at H
       have c16b0 : decide (x24_1 < (t479.length : Int)) = true := decide_eq_true c16
       clear c16
       by_cases c17 : 0 < ((rd_L1 t479 x24_1).length : Int)
       ·rw [if_pos c17] at H
        have c17b0 : decide (0 < ((rd_L1 t479 x24_1).length : Int)) = true := decide_eq_true c17
        have c17b1 : decide (0 < (rd_L1 t479 x24_1).length) = true := decide_eq_true (by omega)
        clear c17
        by_cases c18 : 1 < ((rd_L1 t479 x24_1).length : Int)
        ·rw [if_pos c18] at H
         have c18b0 : decide (1 < ((rd_L1 t479 x24_1).length : Int)) = true := decide_eq_true c18
         have c18b1 : decide (1 < (rd_L1 t479 x24_1).length) = true := decide_eq_true (by omega)
         clear c18
         obtain ⟨⟨t485, t488, t491⟩, A190, H⟩ := Option.bind_eq_some_iff.mp H
         replace H : (if t491 = true then (if 0 ≤ (wrap64 ((t485.length : Int) - 1)) then (if (wrap64 ((t485.length : Int) - 1)) < (t485.length : Int) then (some (rd t485 (wrap64 ((t485.length : Int) - 1)), true)) else (none)) else (none)) else (impl_FindFull.l0 k1 t479 (t479.length : Int) (wrap64 (x24_1 + 1)) t467 t468 t471 t474)) = some (r1, r2) := H
         have A19 := Aside0.mk A190
         clear A190
         by_cases c20 : t491 = true
         ·subst c20
          replace H := IP H
          obtain ⟨ji21, hji21⟩ : ∃ j_ : Int, (wrap64 ((t485.length : Int) - 1)) = j_ := ⟨_, rfl⟩
          replace H : (if 0 ≤ (ji21) then (if (ji21) < (t485.length : Int) then (some (rd t485 (ji21), true)) else (none)) else (none)) = some (r1, r2) := by first | (rw [hji21] at H; exact H) | (simp only [hji21] at H ⊢; exact H)
          (try rw [hji21] at A19)
          have hji21w : (IntKind.i64.wrap ((t485.length : Int) - 1)) = ji21 := (i64_w _).trans hji21
          by_cases c22 : 0 ≤ (ji21)
          ·rw [if_pos c22] at H
           have c22b0 : decide (0 ≤ (ji21)) = true := decide_eq_true c22
           clear c22
           by_cases c23 : (ji21) < (t485.length : Int)
           ·rw [if_pos c23] at H
            have c23b0 : decide ((ji21) < (t485.length : Int)) = true := decide_eq_true c23
            clear c23
            simp only [Option.some.injEq, Prod.mk.injEq] at H
            obtain ⟨rfl, rfl⟩ := H
            have p482 : 0 ≤ (x24_1 : Int) := of_decide_eq_true AS
            have q482 : x24_1 < (t479.length : Int) := of_decide_eq_true AS
            obtain ⟨ad482, A482_0, c482_0, e482, hx482_0, hl482_0, hi482_0⟩ := at_L1 (Kd.S_reads' HO_22.out).2.2 x24_1 p482 q482
            cases e482
            obtain ⟨ce482, hce482, hMe482, hcc482⟩ := Kd.S_get HO_22.out [] x24_1 p482 (by first | exact q482 | exact of_decide_eq_true AS | (have e_ := (Kd.S_reads' HO_22.out).1; omega))
            obtain ⟨ve482_0, rfl, ge482_0⟩ := hMe482
            have hv482_0 := hcc482 0 _ rfl
            rw [Nat.add_zero, show ((Kd.slice 3 (Kd.int .i64))).sz = 1 from rfl, Nat.mul_one] at hv482_0
            replace hv482_0 := Option.some.inj (hv482_0.symm.trans hx482_0)
            rw [hv482_0] at ge482_0
            have HL482_0 := Aside0.mk (show Kd.R (Kd.int .i64) 3 _ _ _ _ (rd_L1 t479 x24_1) from ge482_0)
            clear hv482_0 ge482_0
            clear hcc482 hce482
            have HR482_0 := Aside0.mk hi482_0
            have HC482_0 := Aside0.mk hl482_0
            clear hi482_0 hl482_0
            replace p482 := eq_true p482
            replace q482 := eq_true q482
            try go_wp2
            have n0_ := Aside0.mk (Kd.S_drew HO_22.out)
            have n1_ := Aside0.mk (Kd.V_drew HO_479001.out)
            have n2_ := Aside0.mk (Kd.S_drew HO_479002.out)
            have n3_ := Aside0.mk (Kd.R_drew HO_479003.out)
            have n4_ := Aside0.mk (Kd.R_drew HL482_0.out)
            have n5_ := Aside0.mk (blk_drew BK478.out)
            have n6_ := Aside0.mk (Kd.C_drew HR482_0.out)
            have n7_ := Aside0.mk (below_drew1 HB.out)
            clear HO_22
            clear HO_479001
            clear HO_479002
            clear HO_479003
            clear HL482_0
            clear BK478
            clear HR482_0
            clear HB
            have HO_22 := n0_
            have HO_479001 := n1_
            have HO_479002 := n2_
            have HO_479003 := n3_
            have HL482_0 := n4_
            have BK478 := n5_
            have HR482_0 := n6_
            have HB := n7_
            clear n0_ n1_ n2_ n3_ n4_ n5_ n6_ n7_
            have p483 : 0 ≤ (0 : Int) := (by omega)
            have q483 : 0 < ((rd_L1 t479 x24_1).length : Int) := of_decide_eq_true AS
            obtain ⟨ad483, e483, hx483_0⟩ := Kd.at_int (by repeat (first | (with_reducible exact HR482_0.out) | (with_reducible refine Kd.C_drewN ?_ _) | (with_reducible refine Kd.C_drew ?_) | (with_reducible refine Kd.C_alloc ?_ _) | exact HR482_0.out)) 0 p483 q483
            cases e483
            have qi483 : (0 < (rd_L1 t479 x24_1).length) = True := eq_true (by omega)
            (try rw [show ((0 : Int)).toNat = 0 from rfl] at hx483_0)
            (try rw [Addr.add_zero'] at hx483_0)
            replace p483 := eq_true p483
            replace q483 := eq_true q483
            have p484 : 0 ≤ (1 : Int) := (by omega)
            have q484 : 1 < ((rd_L1 t479 x24_1).length : Int) := of_decide_eq_true AS
            obtain ⟨ad484, e484, hx484_0⟩ := Kd.at_int (by repeat (first | (with_reducible exact HR482_0.out) | (with_reducible refine Kd.C_drewN ?_ _) | (with_reducible refine Kd.C_drew ?_) | (with_reducible refine Kd.C_alloc ?_ _) | exact HR482_0.out)) 1 p484 q484
            obtain rfl : ad483 = ad484 := (by injection e484)
            (try simp only [show (1 : Int).toNat = 1 from rfl, Nat.reduceMul, Nat.reduceEqDiff, Go.Addr.add, ↓reduceIte] at hx484_0)
            have qi484 : (1 < (rd_L1 t479 x24_1).length) = True := eq_true (by omega)
            (try rw [show ((1 : Int)).toNat = 1 from rfl] at hx484_0)
            replace p484 := eq_true p484
            replace q484 := eq_true q484
            refine start_ (n := 15) (S := fun w' => w'.cell? ⟨gb478, 0, none⟩ = some (.int .i64 t467) ∧ w'.cell? ⟨gb478, 1, none⟩ = some (.slice Ao9 t468.length co9) ∧ w'.cell? ⟨gb478, 2, none⟩ = some (.slice Ao10 t471.length co10) ∧ w'.cell? ⟨gb478, 3, none⟩ = some (.slice Ao11 t474.length co11) ∧ w'.cell? ad483 = some (.int .i64 (rd (rd_L1 t479 x24_1) 0)) ∧ w'.cell? ⟨ad483.block, ad483.off + 1, none⟩ = some (.int .i64 (rd (rd_L1 t479 x24_1) 1))) (ds := []) #[false, false, false, false, false, false, false, false, false, false, false, false, false, false, false] (by kernel_rfl) rfl rfl ⟨(blk_cell BK478.out 0).trans rfl, (blk_cell BK478.out 1).trans rfl, (blk_cell BK478.out 2).trans rfl, (blk_cell BK478.out 3).trans rfl, hx483_0, hx484_0⟩ (fun hHeld => ?_); refine with_tabW impl_FindFull.tab7 impl_FindFull.bits7 (fun HT_ HW_ => ?_)
            generalize wr.drew = w24 at HO_22 HO_479001 HO_479002 HO_479003 HL482_0 BK478 HR482_0 HB hx483_0 hx484_0 hHeld ⊢
            refine pure_ (i := 1) (N := some 30) #[false, true, false, false, false, false, false, false, false, false, false, false, false, false, false] rfl rfl (any_of HT_.out (by kernel_rfl)) (fun _ _ _ h => h) (Or.inl ⟨by rfl, PW⟩) PU ?_
            refine pure_ (i := 2) (N := some 31) #[false, true, true, false, false, false, false, false, false, false, false, false, false, false, false] rfl rfl (any_of HT_.out (by kernel_rfl)) (fun _ _ _ h => h) (Or.inl ⟨by rfl, PW⟩) PU ?_
            refine pure_ (i := 4) (N := some 33) #[false, true, true, false, true, false, false, false, false, false, false, false, false, false, false] rfl rfl (any_of HT_.out (by kernel_rfl)) (fun _ _ _ h => h) (Or.inl ⟨by rfl, PW⟩) PU ?_
            refine pure_ (i := 5) (N := some 34) #[false, true, true, false, true, true, false, false, false, false, false, false, false, false, false] rfl rfl (any_of HT_.out (by kernel_rfl)) (fun _ _ _ h => h) (Or.inl ⟨by rfl, PW⟩) PU ?_
            refine take_ (i := 0) (N := some 29) #[true, true, true, false, true, true, false, false, false, false, false, false, false, false, false] rfl rfl (take_ofW HT_.out HW_.out (by kernel_rfl)) (fun _ _ _ h => h) (Or.inl ⟨by rfl, PT⟩) hHeld PU ?_
            refine take_ (i := 3) (N := some 32) #[true, true, true, true, true, true, false, false, false, false, false, false, false, false, false] rfl rfl (take_ofW HT_.out HW_.out (by kernel_rfl)) (fun _ _ _ h => h) (Or.inl ⟨by rfl, PT⟩) hHeld PU ?_
            refine take_ (i := 6) (N := some 35) #[true, true, true, true, true, true, true, false, false, false, false, false, false, false, false] rfl rfl (take_ofW HT_.out HW_.out (by kernel_rfl)) (fun _ _ _ h => h) (Or.inl ⟨by rfl, PT⟩) hHeld PU ?_
            refine one_ (i := 7) (N := some 36) #[true, true, true, true, true, true, true, true, false, false, false, false, false, false, false] rfl rfl (one_of HT_.out (by kernel_rfl)) (by decide) (fun K hK => ?_)
            refine goes_ Try.func33 (by kernel_rfl) rfl #[.agg #[.int .i64 t467, .slice Ao9 t468.length co9, .slice Ao10 t471.length co10, .slice Ao11 t474.length co11], .int .i64 (rd (rd_L1 t479 x24_1) 0), .int .i64 (rd (rd_L1 t479 x24_1) 1)] (by rfl) rfl rfl TA ?_
            with_reducible refine (impl_house_enter.calls k1 t467 _ _ t468 _ _ t471 _ _ t474 (rd (rd_L1 t479 x24_1) 0) (rd (rd_L1 t479 x24_1) 1) t485 t488 true _ ?side1 ?side2 ?side3 ?side4 ?side5 ?side6 A19.out).mono ?_
            (case side1 => exact CW (Kd.V_reads' HO_479001.out).2.2)
            (case side2 => exact (Kd.V_reads' HO_479001.out).2.1)
            (case side3 => exact CW (Kd.S_reads' HO_479002.out).2.2)
            (case side4 => exact (Kd.S_reads' HO_479002.out).2.1)
            (case side5 => exact CW (Kd.R_reads' HO_479003.out).2.2)
            (case side6 => exact (Kd.R_reads' HO_479003.out).2.1)
            rintro e w25 ⟨v486, v489, rfl, ho0, ho1, hb⟩
            have HS4_ := (hb.cell (World.block_lt_of_cell? _ _ (hHeld.2.2.2.2.1))).trans (hHeld.2.2.2.2.1)
            have HS5_ := (hb.cell (World.block_lt_of_cell? _ _ (hHeld.2.2.2.2.2))).trans (hHeld.2.2.2.2.2)
            refine ⟨_, rfl, ?_⟩
            have n0_ := Aside0.mk (Kd.S_elder' (KS HO_22) (Kd.R_base ho0) hb)
            have n1_ := Aside0.mk (Kd.V_elder' (by (with_reducible repeat (first | apply Kd.V_alloc | apply Kd.V_drewN | apply Kd.V_drew)); exact HO_479001.out) (Kd.R_base ho0) hb)
            have n2_ := Aside0.mk (Kd.S_elder' (KS HO_479002) (Kd.R_base ho0) hb)
            have n3_ := Aside0.mk (Kd.R_elder' (KR HO_479003) (Kd.R_base ho0) hb)
            have n4_ := Aside0.mk (Kd.R_elder' (KR HL482_0) (Kd.R_base ho0) hb)
            have n5_ := Aside0.mk (Kd.R_lower (Kd.R_new' (Kd.R_new' (Kd.R_mono (ok' := fun k_ => True) ho0 (fun _ hk_ => trivial)) (Kd.R_lt (KR HO_479003))) (Kd.R_lt (KR HL482_0))) (below_size (by repeat (first | (with_reducible first | exact HB.out | apply below_alloc | apply pw_below_drewN | apply below_drew1 | refine below_set ?_ GE478.out) | exact HB.out))))
            have n6_ := Aside0.mk (Kd.V_lower (Kd.V_mono (ok' := fun k_ => some k_ ≠ (v486 : Value).ownBlock ∧ some k_ ≠ (.slice (some ad482) t479.length co13 : Value).ownBlock ∧ some k_ ≠ (.slice Ao10 t471.length co10 : Value).ownBlock ∧ some k_ ≠ (.slice Ao11 t474.length co11 : Value).ownBlock ∧ k_ ≠ gb478) ho1 (fun k_ hk_ => ⟨hk_.2, (Kd.fresh' (Kd.S_lt (KS HO_22)) k_ hk_.1), (Kd.fresh' (Kd.S_lt (KS HO_479002)) k_ hk_.1), (Kd.fresh' (Kd.R_lt (KR HO_479003)) k_ hk_.1), (Kd.freshB (g := gb478) (o := .cells #[.int .i64 t467, .slice Ao9 t468.length co9, .slice Ao10 t471.length co10, .slice Ao11 t474.length co11] 46 (0, 0)) (BW BK478) k_ hk_.1)⟩)) (below_size (by repeat (first | (with_reducible first | exact HB.out | apply below_alloc | apply pw_below_drewN | apply below_drew1 | refine below_set ?_ GE478.out) | exact HB.out))))
            have n7_ := Aside0.mk (blk_below (g := gb478) (o := .cells #[.int .i64 t467, .slice Ao9 t468.length co9, .slice Ao10 t471.length co10, .slice Ao11 t474.length co11] 46 (0, 0)) (BW BK478) hb)
            have n8_ := Aside0.mk (Kd.C_below (by repeat (first | (with_reducible exact HR482_0.out) | (with_reducible refine Kd.C_drewN ?_ _) | (with_reducible refine Kd.C_drew ?_) | (with_reducible refine Kd.C_alloc ?_ _) | exact HR482_0.out)) hb)
            have n9_ := Aside0.mk (below_step (by repeat (first | (with_reducible first | exact HB.out | apply below_alloc | apply pw_below_drewN | apply below_drew1 | refine below_set ?_ GE478.out) | exact HB.out)) hb)
            clear HO_22
            clear HO_479001
            clear HO_479002
            clear HO_479003
            clear HL482_0
            clear BK478
            clear HR482_0
            clear HB
            have HO_22 := n0_
            have HO_479001 := n1_
            have HO_479002 := n2_
            have HO_479003 := n3_
            have HL482_0 := n4_
            have HO487 := n5_
            have HO490 := n6_
            have BK478 := n7_
            have HR482_0 := n8_
            have HB := n9_
            clear n0_ n1_ n2_ n3_ n4_ n5_ n6_ n7_ n8_ n9_
            (try clear hb)
            (try clear hb2)
            (try clear hk)
            (try clear hi)
            (try clear ho0)
            (try clear ho1)
            refine hK.out _ _ ⟨(blk_cell BK478.out 0).trans rfl, (blk_cell BK478.out 1).trans rfl, (blk_cell BK478.out 2).trans rfl, (blk_cell BK478.out 3).trans rfl, HS4_, HS5_⟩ (fun hHeld => ?_)
            clear hK K
            refine norm_ (a' := ?_) ?_ ?_
            rotate_left
            ·show Act.put _ (some 36) _ = _
             simp only [Act.put, List.setIfInBounds_toArray, List.set_cons_zero, List.set_cons_succ, i64_w, i32_w]
             rfl
            refine pure_ (i := 8) (N := some 28) #[true, true, true, true, true, true, true, true, true, false, false, false, false, false, false] rfl rfl (any_of HT_.out (by kernel_rfl)) (fun _ _ _ h => h) (Or.inl ⟨by rfl, PW⟩) PU ?_
            refine pure_ (i := 9) (N := some 37) #[true, true, true, true, true, true, true, true, true, true, false, false, false, false, false] rfl rfl (any_of HT_.out (by kernel_rfl)) (fun _ _ _ h => h) (Or.inl ⟨by rfl, PW⟩) PU ?_
            refine pure_ (i := 10) (N := some 38) #[true, true, true, true, true, true, true, true, true, true, true, false, false, false, false] rfl rfl (any_of HT_.out (by kernel_rfl)) (fun _ _ _ h => h) (Or.inl ⟨by rfl, PW⟩) PU ?_
            refine pure_ (i := 11) (N := some 39) #[true, true, true, true, true, true, true, true, true, true, true, true, false, false, false] rfl rfl (any_of HT_.out (by kernel_rfl)) (fun _ _ _ h => h) (Or.inl ⟨by rfl, PW⟩) PU ?_
            refine pure_ (i := 12) (N := some 10) #[true, true, true, true, true, true, true, true, true, true, true, true, true, false, false] rfl rfl (any_of HT_.out (by kernel_rfl)) (fun _ _ _ h => h) (Or.inl ⟨by rfl, PW⟩) PU ?_
            refine pure_ (i := 13) (N := some 11) #[true, true, true, true, true, true, true, true, true, true, true, true, true, true, false] rfl rfl (any_of HT_.out (by kernel_rfl)) (fun _ _ _ h => h) (Or.inl ⟨by rfl, PW⟩) PU ?_
            refine pure_ (i := 14) (N := some 12) #[true, true, true, true, true, true, true, true, true, true, true, true, true, true, true] rfl rfl (any_of HT_.out (by kernel_rfl)) (fun _ _ _ h => h) (Or.inl ⟨by rfl, PW⟩) PU ?_
            refine done_ (done_of HT_.out (by kernel_rfl)) ?_
            obtain ⟨Ao26, co26, eo26⟩ := Kd.R_slice HO487.out
            subst eo26
            have p492 : 0 ≤ ((ji21) : Int) := of_decide_eq_true AS
            have q492 : (ji21) < (t485.length : Int) := of_decide_eq_true AS
            obtain ⟨ad492, e492, hx492_0⟩ := Kd.at_int (Kd.R_reads' HO487.out).2.2 (ji21) p492 q492
            cases e492
            replace p492 := eq_true p492
            replace q492 := eq_true q492
            try go_wp2
            go_ret2
            exact ⟨by first | rfl | (simp [errW_none, errW_some] <;> rfl) | (simp only [← hji21]; first | rfl | (simp [errW_none, errW_some] <;> rfl)) | (simp [*, errW_none, errW_some] <;> rfl), by repeat (first | (with_reducible first | exact HB.out | apply below_alloc | apply pw_below_drewN | apply below_drew1 | refine below_set ?_ GE478.out) | exact HB.out)⟩
           ·rw [if_neg c23] at H
            cases H
          ·rw [if_neg c22] at H
           cases H
         ·replace c20 := Bool.eq_false_iff.mpr c20
          subst c20
          replace H := IN H
          have H' := Aside0.mk H
          clear H
          have p482 : 0 ≤ (x24_1 : Int) := of_decide_eq_true AS
          have q482 : x24_1 < (t479.length : Int) := of_decide_eq_true AS
          obtain ⟨ad482, A482_0, c482_0, e482, hx482_0, hl482_0, hi482_0⟩ := at_L1 (Kd.S_reads' HO_22.out).2.2 x24_1 p482 q482
          cases e482
          obtain ⟨ce482, hce482, hMe482, hcc482⟩ := Kd.S_get HO_22.out [] x24_1 p482 (by first | exact q482 | exact of_decide_eq_true AS | (have e_ := (Kd.S_reads' HO_22.out).1; omega))
          obtain ⟨ve482_0, rfl, ge482_0⟩ := hMe482
          have hv482_0 := hcc482 0 _ rfl
          rw [Nat.add_zero, show ((Kd.slice 3 (Kd.int .i64))).sz = 1 from rfl, Nat.mul_one] at hv482_0
          replace hv482_0 := Option.some.inj (hv482_0.symm.trans hx482_0)
          rw [hv482_0] at ge482_0
          have HL482_0 := Aside0.mk (show Kd.R (Kd.int .i64) 3 _ _ _ _ (rd_L1 t479 x24_1) from ge482_0)
          clear hv482_0 ge482_0
          clear hcc482 hce482
          have HR482_0 := Aside0.mk hi482_0
          have HC482_0 := Aside0.mk hl482_0
          clear hi482_0 hl482_0
          replace p482 := eq_true p482
          replace q482 := eq_true q482
          try go_wp2
          have n0_ := Aside0.mk (Kd.S_drew HO_22.out)
          have n1_ := Aside0.mk (Kd.V_drew HO_479001.out)
          have n2_ := Aside0.mk (Kd.S_drew HO_479002.out)
          have n3_ := Aside0.mk (Kd.R_drew HO_479003.out)
          have n4_ := Aside0.mk (Kd.R_drew HL482_0.out)
          have n5_ := Aside0.mk (blk_drew BK478.out)
          have n6_ := Aside0.mk (Kd.C_drew HR482_0.out)
          have n7_ := Aside0.mk (below_drew1 HB.out)
          clear HO_22
          clear HO_479001
          clear HO_479002
          clear HO_479003
          clear HL482_0
          clear BK478
          clear HR482_0
          clear HB
          have HO_22 := n0_
          have HO_479001 := n1_
          have HO_479002 := n2_
          have HO_479003 := n3_
          have HL482_0 := n4_
          have BK478 := n5_
          have HR482_0 := n6_
          have HB := n7_
          clear n0_ n1_ n2_ n3_ n4_ n5_ n6_ n7_
          have p483 : 0 ≤ (0 : Int) := (by omega)
          have q483 : 0 < ((rd_L1 t479 x24_1).length : Int) := of_decide_eq_true AS
          obtain ⟨ad483, e483, hx483_0⟩ := Kd.at_int (by repeat (first | (with_reducible exact HR482_0.out) | (with_reducible refine Kd.C_drewN ?_ _) | (with_reducible refine Kd.C_drew ?_) | (with_reducible refine Kd.C_alloc ?_ _) | exact HR482_0.out)) 0 p483 q483
          cases e483
          have qi483 : (0 < (rd_L1 t479 x24_1).length) = True := eq_true (by omega)
          (try rw [show ((0 : Int)).toNat = 0 from rfl] at hx483_0)
          (try rw [Addr.add_zero'] at hx483_0)
          replace p483 := eq_true p483
          replace q483 := eq_true q483
          have p484 : 0 ≤ (1 : Int) := (by omega)
          have q484 : 1 < ((rd_L1 t479 x24_1).length : Int) := of_decide_eq_true AS
          obtain ⟨ad484, e484, hx484_0⟩ := Kd.at_int (by repeat (first | (with_reducible exact HR482_0.out) | (with_reducible refine Kd.C_drewN ?_ _) | (with_reducible refine Kd.C_drew ?_) | (with_reducible refine Kd.C_alloc ?_ _) | exact HR482_0.out)) 1 p484 q484
          obtain rfl : ad483 = ad484 := (by injection e484)
          (try simp only [show (1 : Int).toNat = 1 from rfl, Nat.reduceMul, Nat.reduceEqDiff, Go.Addr.add, ↓reduceIte] at hx484_0)
          have qi484 : (1 < (rd_L1 t479 x24_1).length) = True := eq_true (by omega)
          (try rw [show ((1 : Int)).toNat = 1 from rfl] at hx484_0)
          replace p484 := eq_true p484
          replace q484 := eq_true q484
          refine start_ (n := 15) (S := fun w' => w'.cell? ⟨gb478, 0, none⟩ = some (.int .i64 t467) ∧ w'.cell? ⟨gb478, 1, none⟩ = some (.slice Ao9 t468.length co9) ∧ w'.cell? ⟨gb478, 2, none⟩ = some (.slice Ao10 t471.length co10) ∧ w'.cell? ⟨gb478, 3, none⟩ = some (.slice Ao11 t474.length co11) ∧ w'.cell? ad483 = some (.int .i64 (rd (rd_L1 t479 x24_1) 0)) ∧ w'.cell? ⟨ad483.block, ad483.off + 1, none⟩ = some (.int .i64 (rd (rd_L1 t479 x24_1) 1))) (ds := []) #[false, false, false, false, false, false, false, false, false, false, false, false, false, false, false] (by kernel_rfl) rfl rfl ⟨(blk_cell BK478.out 0).trans rfl, (blk_cell BK478.out 1).trans rfl, (blk_cell BK478.out 2).trans rfl, (blk_cell BK478.out 3).trans rfl, hx483_0, hx484_0⟩ (fun hHeld => ?_); refine with_tabW impl_FindFull.tab7 impl_FindFull.bits7 (fun HT_ HW_ => ?_)
          generalize wr.drew = w27 at HO_22 HO_479001 HO_479002 HO_479003 HL482_0 BK478 HR482_0 HB hx483_0 hx484_0 hHeld ⊢
          refine pure_ (i := 1) (N := some 30) #[false, true, false, false, false, false, false, false, false, false, false, false, false, false, false] rfl rfl (any_of HT_.out (by kernel_rfl)) (fun _ _ _ h => h) (Or.inl ⟨by rfl, PW⟩) PU ?_
          refine pure_ (i := 2) (N := some 31) #[false, true, true, false, false, false, false, false, false, false, false, false, false, false, false] rfl rfl (any_of HT_.out (by kernel_rfl)) (fun _ _ _ h => h) (Or.inl ⟨by rfl, PW⟩) PU ?_
          refine pure_ (i := 4) (N := some 33) #[false, true, true, false, true, false, false, false, false, false, false, false, false, false, false] rfl rfl (any_of HT_.out (by kernel_rfl)) (fun _ _ _ h => h) (Or.inl ⟨by rfl, PW⟩) PU ?_
          refine pure_ (i := 5) (N := some 34) #[false, true, true, false, true, true, false, false, false, false, false, false, false, false, false] rfl rfl (any_of HT_.out (by kernel_rfl)) (fun _ _ _ h => h) (Or.inl ⟨by rfl, PW⟩) PU ?_
          refine take_ (i := 0) (N := some 29) #[true, true, true, false, true, true, false, false, false, false, false, false, false, false, false] rfl rfl (take_ofW HT_.out HW_.out (by kernel_rfl)) (fun _ _ _ h => h) (Or.inl ⟨by rfl, PT⟩) hHeld PU ?_
          refine take_ (i := 3) (N := some 32) #[true, true, true, true, true, true, false, false, false, false, false, false, false, false, false] rfl rfl (take_ofW HT_.out HW_.out (by kernel_rfl)) (fun _ _ _ h => h) (Or.inl ⟨by rfl, PT⟩) hHeld PU ?_
          refine take_ (i := 6) (N := some 35) #[true, true, true, true, true, true, true, false, false, false, false, false, false, false, false] rfl rfl (take_ofW HT_.out HW_.out (by kernel_rfl)) (fun _ _ _ h => h) (Or.inl ⟨by rfl, PT⟩) hHeld PU ?_
          refine one_ (i := 7) (N := some 36) #[true, true, true, true, true, true, true, true, false, false, false, false, false, false, false] rfl rfl (one_of HT_.out (by kernel_rfl)) (by decide) (fun K hK => ?_)
          refine goes_ Try.func33 (by kernel_rfl) rfl #[.agg #[.int .i64 t467, .slice Ao9 t468.length co9, .slice Ao10 t471.length co10, .slice Ao11 t474.length co11], .int .i64 (rd (rd_L1 t479 x24_1) 0), .int .i64 (rd (rd_L1 t479 x24_1) 1)] (by rfl) rfl rfl TA ?_
          with_reducible refine (impl_house_enter.calls k1 t467 _ _ t468 _ _ t471 _ _ t474 (rd (rd_L1 t479 x24_1) 0) (rd (rd_L1 t479 x24_1) 1) t485 t488 false _ ?side1 ?side2 ?side3 ?side4 ?side5 ?side6 A19.out).mono ?_
          (case side1 => exact CW (Kd.V_reads' HO_479001.out).2.2)
          (case side2 => exact (Kd.V_reads' HO_479001.out).2.1)
          (case side3 => exact CW (Kd.S_reads' HO_479002.out).2.2)
          (case side4 => exact (Kd.S_reads' HO_479002.out).2.1)
          (case side5 => exact CW (Kd.R_reads' HO_479003.out).2.2)
          (case side6 => exact (Kd.R_reads' HO_479003.out).2.1)
          rintro e w28 ⟨v486, v489, rfl, ho0, ho1, hb⟩
          have HS4_ := (hb.cell (World.block_lt_of_cell? _ _ (hHeld.2.2.2.2.1))).trans (hHeld.2.2.2.2.1)
          have HS5_ := (hb.cell (World.block_lt_of_cell? _ _ (hHeld.2.2.2.2.2))).trans (hHeld.2.2.2.2.2)
          refine ⟨_, rfl, ?_⟩
          have n0_ := Aside0.mk (Kd.S_elder' (KS HO_22) (Kd.R_base ho0) hb)
          have n1_ := Aside0.mk (Kd.V_elder' (by (with_reducible repeat (first | apply Kd.V_alloc | apply Kd.V_drewN | apply Kd.V_drew)); exact HO_479001.out) (Kd.R_base ho0) hb)
          have n2_ := Aside0.mk (Kd.S_elder' (KS HO_479002) (Kd.R_base ho0) hb)
          have n3_ := Aside0.mk (Kd.R_elder' (KR HO_479003) (Kd.R_base ho0) hb)
          have n4_ := Aside0.mk (Kd.R_elder' (KR HL482_0) (Kd.R_base ho0) hb)
          have n5_ := Aside0.mk (Kd.R_lower (Kd.R_new' (Kd.R_new' (Kd.R_mono (ok' := fun k_ => True) ho0 (fun _ hk_ => trivial)) (Kd.R_lt (KR HO_479003))) (Kd.R_lt (KR HL482_0))) (below_size (by repeat (first | (with_reducible first | exact HB.out | apply below_alloc | apply pw_below_drewN | apply below_drew1 | refine below_set ?_ GE478.out) | exact HB.out))))
          have n6_ := Aside0.mk (Kd.V_lower (Kd.V_mono (ok' := fun k_ => some k_ ≠ (v486 : Value).ownBlock ∧ some k_ ≠ (.slice (some ad482) t479.length co13 : Value).ownBlock ∧ some k_ ≠ (.slice Ao10 t471.length co10 : Value).ownBlock ∧ some k_ ≠ (.slice Ao11 t474.length co11 : Value).ownBlock ∧ k_ ≠ gb478) ho1 (fun k_ hk_ => ⟨hk_.2, (Kd.fresh' (Kd.S_lt (KS HO_22)) k_ hk_.1), (Kd.fresh' (Kd.S_lt (KS HO_479002)) k_ hk_.1), (Kd.fresh' (Kd.R_lt (KR HO_479003)) k_ hk_.1), (Kd.freshB (g := gb478) (o := .cells #[.int .i64 t467, .slice Ao9 t468.length co9, .slice Ao10 t471.length co10, .slice Ao11 t474.length co11] 46 (0, 0)) (BW BK478) k_ hk_.1)⟩)) (below_size (by repeat (first | (with_reducible first | exact HB.out | apply below_alloc | apply pw_below_drewN | apply below_drew1 | refine below_set ?_ GE478.out) | exact HB.out))))
          have n7_ := Aside0.mk (blk_below (g := gb478) (o := .cells #[.int .i64 t467, .slice Ao9 t468.length co9, .slice Ao10 t471.length co10, .slice Ao11 t474.length co11] 46 (0, 0)) (BW BK478) hb)
          have n8_ := Aside0.mk (Kd.C_below (by repeat (first | (with_reducible exact HR482_0.out) | (with_reducible refine Kd.C_drewN ?_ _) | (with_reducible refine Kd.C_drew ?_) | (with_reducible refine Kd.C_alloc ?_ _) | exact HR482_0.out)) hb)
          have n9_ := Aside0.mk (below_step (by repeat (first | (with_reducible first | exact HB.out | apply below_alloc | apply pw_below_drewN | apply below_drew1 | refine below_set ?_ GE478.out) | exact HB.out)) hb)
          clear HO_22
          clear HO_479001
          clear HO_479002
          clear HO_479003
          clear HL482_0
          clear BK478
          clear HR482_0
          clear HB
          have HO_22 := n0_
          have HO_479001 := n1_
          have HO_479002 := n2_
          have HO_479003 := n3_
          have HL482_0 := n4_
          have HO487 := n5_
          have HO490 := n6_
          have BK478 := n7_
          have HR482_0 := n8_
          have HB := n9_
          clear n0_ n1_ n2_ n3_ n4_ n5_ n6_ n7_ n8_ n9_
          (try clear hb)
          (try clear hb2)
          (try clear hk)
          (try clear hi)
          (try clear ho0)
          (try clear ho1)
          refine hK.out _ _ ⟨(blk_cell BK478.out 0).trans rfl, (blk_cell BK478.out 1).trans rfl, (blk_cell BK478.out 2).trans rfl, (blk_cell BK478.out 3).trans rfl, HS4_, HS5_⟩ (fun hHeld => ?_)
          clear hK K
          refine norm_ (a' := ?_) ?_ ?_
          rotate_left
          ·show Act.put _ (some 36) _ = _
           simp only [Act.put, List.setIfInBounds_toArray, List.set_cons_zero, List.set_cons_succ, i64_w, i32_w]
           rfl
          refine pure_ (i := 8) (N := some 28) #[true, true, true, true, true, true, true, true, true, false, false, false, false, false, false] rfl rfl (any_of HT_.out (by kernel_rfl)) (fun _ _ _ h => h) (Or.inl ⟨by rfl, PW⟩) PU ?_
          refine pure_ (i := 9) (N := some 37) #[true, true, true, true, true, true, true, true, true, true, false, false, false, false, false] rfl rfl (any_of HT_.out (by kernel_rfl)) (fun _ _ _ h => h) (Or.inl ⟨by rfl, PW⟩) PU ?_
          refine pure_ (i := 10) (N := some 38) #[true, true, true, true, true, true, true, true, true, true, true, false, false, false, false] rfl rfl (any_of HT_.out (by kernel_rfl)) (fun _ _ _ h => h) (Or.inl ⟨by rfl, PW⟩) PU ?_
          refine pure_ (i := 11) (N := some 39) #[true, true, true, true, true, true, true, true, true, true, true, true, false, false, false] rfl rfl (any_of HT_.out (by kernel_rfl)) (fun _ _ _ h => h) (Or.inl ⟨by rfl, PW⟩) PU ?_
          refine pure_ (i := 12) (N := some 10) #[true, true, true, true, true, true, true, true, true, true, true, true, true, false, false] rfl rfl (any_of HT_.out (by kernel_rfl)) (fun _ _ _ h => h) (Or.inl ⟨by rfl, PW⟩) PU ?_
          refine pure_ (i := 13) (N := some 11) #[true, true, true, true, true, true, true, true, true, true, true, true, true, true, false] rfl rfl (any_of HT_.out (by kernel_rfl)) (fun _ _ _ h => h) (Or.inl ⟨by rfl, PW⟩) PU ?_
          refine pure_ (i := 14) (N := some 12) #[true, true, true, true, true, true, true, true, true, true, true, true, true, true, true] rfl rfl (any_of HT_.out (by kernel_rfl)) (fun _ _ _ h => h) (Or.inl ⟨by rfl, PW⟩) PU ?_
          refine done_ (done_of HT_.out (by kernel_rfl)) ?_
          try go_wp2
          go_roundg k1
          case measure => have := HK1.out; omega
          case rel => exact ⟨(wrap64 (x24_1 + 1)), RF, H', ⟨by have := HK1.out; omega⟩, ⟨by (with_reducible repeat (first | apply Kd.S_alloc | apply Kd.S_drewN | apply Kd.S_drew)); exact Kd.S_mono HO_22.out (fun _ hk => ⟨hk.1.1, hk.1.2⟩)⟩, ⟨by (with_reducible repeat (first | apply Kd.V_alloc | apply Kd.V_drewN | apply Kd.V_drew)); exact Kd.V_mono HO_479001.out (fun _ hk => ⟨hk.1.1, ⟨hk.1.2.1, ⟨hk.1.2.2.1, hk.1.2.2.2⟩⟩⟩)⟩, ⟨by (with_reducible repeat (first | apply Kd.S_alloc | apply Kd.S_drewN | apply Kd.S_drew)); exact Kd.S_mono HO_479002.out (fun _ hk => ⟨hk.1.1, hk.1.2⟩)⟩, ⟨by (with_reducible repeat (first | apply Kd.R_alloc | apply Kd.R_drewN | apply Kd.R_drew)); exact Kd.R_mono HO_479003.out (fun _ hk => trivial)⟩, ⟨by (with_reducible repeat (first | refine blk_drewN ?_ _ | refine blk_drew ?_ | refine blk_alloc ?_ _)); exact BK478.out⟩, ⟨by repeat (first | (with_reducible first | exact HB.out | apply below_alloc | apply pw_below_drewN | apply below_drew1 | refine below_set ?_ GE478.out) | exact HB.out)⟩⟩
        ·rw [if_neg c18] at H
         cases H
       ·rw [if_neg c17] at H
        cases H
      ·rw [if_neg c16] at H
       cases H
     ·rw [if_neg c15] at H
      cases H
    ·rw [if_neg c14] at H
     have c14b0 : decide (x24_1 < (t479.length : Int)) = false := decide_eq_false c14
     clear c14
     simp only [Option.some.injEq, Prod.mk.injEq] at H
     obtain ⟨rfl, rfl⟩ := H
     go_wp2
     go_ret2
     exact ⟨RE, by repeat (first | (with_reducible first | exact HB.out | apply below_alloc | apply pw_below_drewN | apply below_drew1 | refine below_set ?_ GE478.out) | exact HB.out)⟩
 ·replace c4 := Bool.eq_false_iff.mpr c4
  subst c4
  replace H := IN H
  simp only [Option.some.injEq, Prod.mk.injEq] at H
  obtain ⟨rfl, rfl⟩ := H
  go_enter Try.func42, Try.ntmps42
  go_wp2_with (first | ((with_reducible refine gate_callee (f := 30) rfl ?_); refine goesL_ (some 16) rfl rfl Try.func30 (by kernel_rfl) rfl #[.int .i64 a0, .slice A1 l1.length c1] rfl TA ?_; (with_reducible refine (impl_houseOf.calls k a0 (fun k_ => k_ < w.heap.size) _ _ l1 t467 t468 t471 t474 false _ ?side1 A3.out).mono ?_); (case side1 => exact Kd.V_mk HC1.out (Kd.F_below (Kd.C_F (Kd.heap_int .i64) HR1.out) BB)); rintro e w29 ⟨v469, v472, v475, rfl, ho0, ho1, ho2, hb⟩; refine ⟨_, rfl, ?_⟩; have n0_ := Aside0.mk (Kd.V_lower (Kd.V_mono (ok' := fun k_ => some k_ ≠ (v472 : Value).ownBlock ∧ some k_ ≠ (v475 : Value).ownBlock) ho0 (fun k_ hk_ => ⟨hk_.2.1, hk_.2.2⟩)) (below_size BB)); have n1_ := Aside0.mk (Kd.S_lower (Kd.S_mono (ok' := fun k_ => some k_ ≠ (v475 : Value).ownBlock) ho1 (fun _ hk_ => hk_.2)) (below_size BB)); have n2_ := Aside0.mk (Kd.R_lower (Kd.R_mono (ok' := fun k_ => True) ho2 (fun _ hk_ => trivial)) (below_size BB)); have n3_ := Aside0.mk (below_step BB hb); clear HB; have HO470 := n0_; have HO473 := n1_; have HO476 := n2_; have HB := n3_; clear n0_ n1_ n2_ n3_; (try clear hb); (try clear hb2); (try clear hk); (try clear hi); (try clear ho0); (try clear ho1); (try clear ho2)) | ((with_reducible refine gate_dst (N := 6) rfl ?_); refine box_event ?hg (N := 6) ?hd (cs := #[.int .i64 0, .slice none 0 0, .slice none 0 0, .slice none 0 0]) (t := 46) ?hr ?_; (case hd => rfl); (case hg => rfl); (case hr => exact GS); intro gb478 hg w30 hbox hb; have n0_ := Aside0.mk (Kd.V_below (Kd.V_elderB (by (with_reducible repeat (first | apply Kd.V_alloc | apply Kd.V_drewN | apply Kd.V_drew)); exact HO470.out) gb478 (Nat.le_of_eq hg.symm)) hb); have n1_ := Aside0.mk (Kd.S_below (KS HO473) hb); have n2_ := Aside0.mk (Kd.R_below (KR HO476) hb); have n3_ := Aside0.mk (below_step BB hb); have n4_ := Aside0.mk (hbox); have n5_ := Aside0.mk ((by rw [hg]; exact (below_size BB) : w.heap.size ≤ gb478)); have n6_ := Aside0.mk ((by rw [hg]; exact (below_size BB) : w.heap.size ≤ gb478)); clear HO470; clear HO473; clear HO476; clear HB; have HO470 := n0_; have HO473 := n1_; have HO476 := n2_; have HB := n3_; have BK478 := n4_; have GW478 := n5_; have GE478 := n6_; clear n0_ n1_ n2_ n3_ n4_ n5_ n6_; clear hb hbox hg; have hcz31_0 : w30.cell? ⟨gb478, 0, none⟩ = some (.int .i64 0) := (blk_cell BK478.out 0).trans rfl; have hcz31_1 : w30.cell? ⟨gb478, 1, none⟩ = some (.slice none 0 0) := (blk_cell BK478.out 1).trans rfl; have hcz31_2 : w30.cell? ⟨gb478, 2, none⟩ = some (.slice none 0 0) := (blk_cell BK478.out 2).trans rfl; have hcz31_3 : w30.cell? ⟨gb478, 3, none⟩ = some (.slice none 0 0) := (blk_cell BK478.out 3).trans rfl; have hfz31_0 := blk_frozen BK478.out 0; have hfz31_1 := blk_frozen BK478.out 1; have hfz31_2 := blk_frozen BK478.out 2; have hfz31_3 := blk_frozen BK478.out 3; obtain ⟨Ao32, co32, eo32⟩ := Kd.V_slice HO470.out; subst eo32; obtain ⟨Ao33, co33, eo33⟩ := Kd.S_slice HO473.out; subst eo33; obtain ⟨Ao34, co34, eo34⟩ := Kd.R_slice HO476.out; subst eo34))
  go_ret2
  exact ⟨RE, by repeat (first | (with_reducible first | exact HB.out | apply below_alloc | apply pw_below_drewN | apply below_drew1 | refine below_set ?_ GE478.out) | exact HB.out)⟩

-- NOT PRINTED: function 78 (slices_ContainsFunc_int_int_78)

/-! ### impl_areLists_1_1: function 106 -/
def impl_areLists_1_1.f (a0 : Int) (l1 : List Int) : Option (Bool) := if 0 < (l1.length : Int) then ((impl_in.f a0 0 (rd l1 0)).bind fun t494 => (some (!t494))) else (none)
theorem impl_areLists_1_1.calls (a0 : Int) (A1 : Option Addr) (c1 : Nat) (l1 : List Int) (r : Bool) (w : World) (hr1 : Kd.C (Kd.int .i64) w A1 l1.length l1) (hc1 : l1.length ≤ c1) (h : impl_areLists_1_1.f a0 l1 = some r) :
  Calls Try.prog 106 #[.int .i64 a0, .pointer A1] w fun e w' => e = .returned (.bool r) ∧ Drawn0 w w' := by
 have HR1 := Aside0.mk hr1
 have HC1 := Aside0.mk hc1
 clear hr1 hc1
 have H : (if 0 < (l1.length : Int) then ((impl_in.f a0 0 (rd l1 0)).bind fun t494 => (some (!t494))) else (none)) = some r := h
 clear h
 by_cases c3 : 0 < (l1.length : Int)
 ·rw [if_pos c3] at H
  have c3b0 : decide (0 < (l1.length : Int)) = true := decide_eq_true c3
  have c3b1 : decide (0 < l1.length) = true := decide_eq_true (by omega)
  clear c3
  obtain ⟨t494, A40, H⟩ := Option.bind_eq_some_iff.mp H
  have A4 := Aside0.mk A40
  clear A40
  obtain rfl := Option.some.inj H
  have p493 : 0 ≤ (0 : Int) := (by omega)
  have q493 : 0 < (l1.length : Int) := of_decide_eq_true AS
  obtain ⟨ad493, e493, hx493_0⟩ := Kd.at_int HR1.out 0 p493 q493
  cases e493
  have qi493 : (0 < l1.length) = True := eq_true (by omega)
  (try rw [show ((0 : Int)).toNat = 0 from rfl] at hx493_0)
  (try rw [Addr.add_zero'] at hx493_0)
  replace p493 := eq_true p493
  replace q493 := eq_true q493
  go_enter Try.func106, Try.ntmps106
  go_wp2_with (first | ((with_reducible refine gate_callee (f := 76) rfl ?_); refine goesL_ (some 6) rfl rfl Try.func76 (by kernel_rfl) rfl #[.int .i64 a0, .int .i64 0, .int .i64 (rd l1 0)] rfl TA ?_; (with_reducible refine (impl_in.calls a0 0 (rd l1 0) t494 _ A4.out).mono ?_); rintro e w' ⟨rfl, ⟨nd, rfl⟩⟩; refine ⟨_, rfl, ?_⟩))
  go_ret
  exact ⟨RF, DR⟩
 ·rw [if_neg c3] at H
  cases H

/-! ### slices_IndexFunc_int_int__impl_areLists_1_1: function 81 -/
def slices_IndexFunc_int_int__impl_areLists_1_1.l0 : Nat → List Int → Int → Int → List Int → Option (Int)
 | 0, _, _, _, _ => none
 | k + 1, x0, x7, x8, x610 => if x8 < x7 then (if 0 ≤ x8 then (if x8 < (x0.length : Int) then ((impl_areLists_1_1.f (rd x0 x8) x610).bind fun t494 => (if t494 = true then (some x8) else (slices_IndexFunc_int_int__impl_areLists_1_1.l0 k x0 x7 (wrap64 (x8 + 1)) x610))) else (none)) else (none)) else (some (-1))
def slices_IndexFunc_int_int__impl_areLists_1_1.f (k : Nat) (l0 : List Int) (l1_0 : List Int) : Option (Int) := slices_IndexFunc_int_int__impl_areLists_1_1.l0 k l0 (l0.length : Int) 0 l1_0
theorem slices_IndexFunc_int_int__impl_areLists_1_1.mono_l : ∀ k, (∀ y0 y1 y2 y3, LeO (slices_IndexFunc_int_int__impl_areLists_1_1.l0 k y0 y1 y2 y3) (slices_IndexFunc_int_int__impl_areLists_1_1.l0 (k + 1) y0 y1 y2 y3))
 | 0 => fun _ _ _ _ r h => by simp [slices_IndexFunc_int_int__impl_areLists_1_1.l0] at h
 | k + 1 => by
  have ih0 := slices_IndexFunc_int_int__impl_areLists_1_1.mono_l k
  ·intro y0 y1 y2 y3
   unfold slices_IndexFunc_int_int__impl_areLists_1_1.l0
   repeat' first
   | with_reducible first | exact ih0 _ _ _ _ | exact LeO.refl _ | exact LeO.none _ | refine LeO.ite ?_ ?_ | refine LeO.bind ?_ (fun _ => ?_)
   | exact LeO.none _ | refine LeO.ite ?_ ?_ | refine LeO.bind ?_ (fun _ => ?_)
theorem slices_IndexFunc_int_int__impl_areLists_1_1.mono : ∀ a0 a1 k, LeO (slices_IndexFunc_int_int__impl_areLists_1_1.f k a0 a1) (slices_IndexFunc_int_int__impl_areLists_1_1.f (k + 1) a0 a1) := by
 intro a0 a1 k
 have ih0 := slices_IndexFunc_int_int__impl_areLists_1_1.mono_l k
 unfold slices_IndexFunc_int_int__impl_areLists_1_1.f
 repeat' first
   | with_reducible first | exact ih0 _ _ _ _ | exact LeO.refl _ | exact LeO.none _ | refine LeO.ite ?_ ?_ | refine LeO.bind ?_ (fun _ => ?_)
   | exact LeO.none _ | refine LeO.ite ?_ ?_ | refine LeO.bind ?_ (fun _ => ?_)
theorem slices_IndexFunc_int_int__impl_areLists_1_1.calls (k : Nat) (A0 : Option Addr) (c0 : Nat) (l0 : List Int) (A1_0 : Option Addr) (c1_0 : Nat) (l1_0 : List Int) (r : Int) (w : World) (hr0 : Kd.C (Kd.int .i64) w A0 l0.length l0) (hc0 : l0.length ≤ c0) (hr1_0 : Kd.C (Kd.int .i64) w A1_0 l1_0.length l1_0) (hc1_0 : l1_0.length ≤ c1_0) (h : slices_IndexFunc_int_int__impl_areLists_1_1.f k l0 l1_0 = some r) :
  Calls Try.prog 81 #[.slice A0 l0.length c0, .func (.func 106) #[] #[.pointer A1_0]] w fun e w' => e = .returned (.int .i64 r) ∧ Drawn0 w w' := by
 have HR0 := Aside0.mk hr0
 have HC0 := Aside0.mk hc0
 clear hr0 hc0
 have HR1_0 := Aside0.mk hr1_0
 have HC1_0 := Aside0.mk hc1_0
 clear hr1_0 hc1_0
 have H : (slices_IndexFunc_int_int__impl_areLists_1_1.l0 k l0 (l0.length : Int) 0 l1_0) = some r := h
 clear h
 have H' := Aside0.mk H
 clear H
 go_enter Try.func81, Try.ntmps81
 go_wp2
 go_loopg [8] k (fun kq v8 w' => ∃ (x8_1 : Int), v8 = .int .i64 x8_1 ∧ Aside0 (slices_IndexFunc_int_int__impl_areLists_1_1.l0 kq l0 (l0.length : Int) x8_1 l1_0 = some r) ∧ Aside0 (kq ≤ k) ∧ Drawn0 w w')
 case atStart => exact ⟨(0), RF, H', ⟨Nat.le_refl _⟩, by repeat (first | exact Drawn0.refl _ | apply Drawn0.step)⟩
 case round =>
  clear H'
  try clear c1
  try clear p2
  obtain ⟨x8_1, rfl, HA, HK1, ⟨m1, rfl⟩⟩ := hrel
  cases gk with
  | zero => exact absurd HA.out (by simp [slices_IndexFunc_int_int__impl_areLists_1_1.l0])
  | succ k1 =>
   have H := HA.out
   clear HA
   simp only [slices_IndexFunc_int_int__impl_areLists_1_1.l0] at H
   by_cases c3 : x8_1 < (l0.length : Int)
   ·rw [if_pos c3] at H
    have c3b0 : decide (x8_1 < (l0.length : Int)) = true := decide_eq_true c3
    clear c3
    by_cases c4 : 0 ≤ x8_1
    ·rw [if_pos c4] at H
     have c4b0 : decide (0 ≤ x8_1) = true := decide_eq_true c4
     clear c4
     by_cases c5 : x8_1 < (l0.length : Int)
     ·rw [if_pos c5] at H
      have c5b0 : decide (x8_1 < (l0.length : Int)) = true := decide_eq_true c5
      clear c5
      obtain ⟨t494, A60, H⟩ := Option.bind_eq_some_iff.mp H
      have A6 := Aside0.mk A60
      clear A60
      by_cases c7 : t494 = true
      ·subst c7
       replace H := IP H
       obtain rfl := Option.some.inj H
       have p493 : 0 ≤ (x8_1 : Int) := of_decide_eq_true AS
       have q493 : x8_1 < (l0.length : Int) := of_decide_eq_true AS
       obtain ⟨ad493, e493, hx493_0⟩ := Kd.at_int HR0.out x8_1 p493 q493
       cases e493
       replace p493 := eq_true p493
       replace q493 := eq_true q493
       go_wp2_with (first | (go_at_call 106; (with_reducible refine (impl_areLists_1_1.calls (rd l0 x8_1) A1_0 c1_0 l1_0 true _ ?side1 ?side2 A6.out).mono ?_); (case side1 => exact CW HR1_0.out); (case side2 => exact HC1_0.out); rintro e w' ⟨rfl, ⟨nd, rfl⟩⟩))
       go_ret
       exact ⟨RF, DR⟩
      ·replace c7 := Bool.eq_false_iff.mpr c7
       subst c7
       replace H := IN H
       have H' := Aside0.mk H
       clear H
       have p493 : 0 ≤ (x8_1 : Int) := of_decide_eq_true AS
       have q493 : x8_1 < (l0.length : Int) := of_decide_eq_true AS
       obtain ⟨ad493, e493, hx493_0⟩ := Kd.at_int HR0.out x8_1 p493 q493
       cases e493
       replace p493 := eq_true p493
       replace q493 := eq_true q493
       go_wp2_with (first | (go_at_call 106; (with_reducible refine (impl_areLists_1_1.calls (rd l0 x8_1) A1_0 c1_0 l1_0 false _ ?side1 ?side2 A6.out).mono ?_); (case side1 => exact CW HR1_0.out); (case side2 => exact HC1_0.out); rintro e w' ⟨rfl, ⟨nd, rfl⟩⟩))
       go_roundg k1
       case measure => have := HK1.out; omega
       case rel => exact ⟨(wrap64 (x8_1 + 1)), RF, H', ⟨by have := HK1.out; omega⟩, by repeat (first | exact Drawn0.refl _ | apply Drawn0.step)⟩
     ·rw [if_neg c5] at H
      cases H
    ·rw [if_neg c4] at H
     cases H
   ·rw [if_neg c3] at H
    have c3b0 : decide (x8_1 < (l0.length : Int)) = false := decide_eq_false c3
    clear c3
    obtain rfl := Option.some.inj H
    go_wp2
    go_ret
    exact ⟨RF, DR⟩

/-! ### slices_ContainsFunc_int_int__impl_areLists_1_1: function 96 -/
def slices_ContainsFunc_int_int__impl_areLists_1_1.f (k : Nat) (l0 : List Int) (l1_0 : List Int) : Option (Bool) := (slices_IndexFunc_int_int__impl_areLists_1_1.f k l0 l1_0).bind fun t495 => (some (decide (t495 ≥ 0)))
theorem slices_ContainsFunc_int_int__impl_areLists_1_1.mono : ∀ a0 a1 k, LeO (slices_ContainsFunc_int_int__impl_areLists_1_1.f k a0 a1) (slices_ContainsFunc_int_int__impl_areLists_1_1.f (k + 1) a0 a1) := by
 intro a0 a1 k
 unfold slices_ContainsFunc_int_int__impl_areLists_1_1.f
 repeat' first
   | with_reducible first | exact slices_IndexFunc_int_int__impl_areLists_1_1.mono _ _ _ | exact LeO.refl _ | exact LeO.none _ | refine LeO.ite ?_ ?_ | refine LeO.bind ?_ (fun _ => ?_)
   | exact LeO.none _ | refine LeO.ite ?_ ?_ | refine LeO.bind ?_ (fun _ => ?_)
theorem slices_ContainsFunc_int_int__impl_areLists_1_1.calls (k : Nat) (A0 : Option Addr) (c0 : Nat) (l0 : List Int) (A1_0 : Option Addr) (c1_0 : Nat) (l1_0 : List Int) (r : Bool) (w : World) (hr0 : Kd.C (Kd.int .i64) w A0 l0.length l0) (hc0 : l0.length ≤ c0) (hr1_0 : Kd.C (Kd.int .i64) w A1_0 l1_0.length l1_0) (hc1_0 : l1_0.length ≤ c1_0) (h : slices_ContainsFunc_int_int__impl_areLists_1_1.f k l0 l1_0 = some r) :
  Calls Try.prog 96 #[.slice A0 l0.length c0, .func (.func 106) #[] #[.pointer A1_0]] w fun e w' => e = .returned (.bool r) ∧ Drawn0 w w' := by
 have HR0 := Aside0.mk hr0
 have HC0 := Aside0.mk hc0
 clear hr0 hc0
 have HR1_0 := Aside0.mk hr1_0
 have HC1_0 := Aside0.mk hc1_0
 clear hr1_0 hc1_0
 have H : ((slices_IndexFunc_int_int__impl_areLists_1_1.f k l0 l1_0).bind fun t495 => (some (decide (t495 ≥ 0)))) = some r := h
 clear h
 obtain ⟨t495, A30, H⟩ := Option.bind_eq_some_iff.mp H
 have A3 := Aside0.mk A30
 clear A30
 obtain rfl := Option.some.inj H
 go_enter Try.func96, Try.ntmps96
 go_wp2_with (first | ((with_reducible refine gate_callee (f := 81) rfl ?_); refine goesL_ (some 7) rfl rfl Try.func81 (by kernel_rfl) rfl #[.slice A0 l0.length c0, .func (.func 106) #[] #[.pointer A1_0]] rfl TA ?_; (with_reducible refine (slices_IndexFunc_int_int__impl_areLists_1_1.calls k _ _ l0 A1_0 c1_0 l1_0 t495 _ ?side1 ?side2 ?side3 ?side4 A3.out).mono ?_); (case side1 => exact CW HR0.out); (case side2 => exact HC0.out); (case side3 => exact CW HR1_0.out); (case side4 => exact HC1_0.out); rintro e w' ⟨rfl, ⟨nd, rfl⟩⟩; refine ⟨_, rfl, ?_⟩))
 go_ret
 exact ⟨RF, DR⟩

end Go.Proofs.Ytgpplbaloajgdab.PFnExactFairCell
