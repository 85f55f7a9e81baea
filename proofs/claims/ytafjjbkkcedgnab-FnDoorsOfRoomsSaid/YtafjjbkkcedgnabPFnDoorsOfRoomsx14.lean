-- Written by a program of this session (wip/tools/pp.sh) out of the translation; Lean checks it.
import Derived.Test.YtafjjbkkcedgnabPFnDoorsOfRoomsx0
import Derived.Test.YtafjjbkkcedgnabPFnDoorsOfRoomsx1
import Derived.Test.YtafjjbkkcedgnabPFnDoorsOfRoomsx2
import Derived.Test.YtafjjbkkcedgnabPFnDoorsOfRoomsx7
import Derived.Test.YtafjjbkkcedgnabPFnDoorsOfRoomsx9
import Derived.Test.YtafjjbkkcedgnabPFnDoorsOfRoomsx13
namespace Go.Proofs.Ytafjjbkkcedgnab.PFnDoorsOfRooms
open Go.RowKit Go.Proofs.YtafjjbkkcedgnabOwn Go.Proofs.YtafjjbkkcedgnabW.PrintWords Go.Proofs.YtafjjbkkcedgnabW.PrintLast Go.Proofs.YtafjjbkkcedgnabW.PrintMore
attribute [local go_sem] max2_int min2_int max_two min_two max_three min_three max_four min_four   -- for this text's walks alone
set_option linter.unusedVariables false
set_option maxHeartbeats 8000000
set_option maxRecDepth 100000
set_option linter.unusedSimpArgs false

/-! ### impl_BorderDoors: function 16 -/
def impl_BorderDoors.f (k : Nat) (a0 : Int) (l1 : List Int) : Option ((List (List Int)) × Bool) := (impl_houseOf.f k a0 l1).bind fun bt517 => (if bt517.2.2.2.2 = true then ((impl_house_entries.f k bt517.1 bt517.2.1 bt517.2.2.1 bt517.2.2.2.1).bind fun t529 => (some (t529, true))) else (some (([] : List (List Int)), false)))
theorem impl_BorderDoors.mono : ∀ a0 a1 k, LeO (impl_BorderDoors.f k a0 a1) (impl_BorderDoors.f (k + 1) a0 a1) := by
 intro a0 a1 k
 unfold impl_BorderDoors.f
 repeat' first
   | with_reducible first | exact impl_houseOf.mono _ _ _ | exact impl_house_entries.mono _ _ _ _ _ | exact LeO.refl _ | exact LeO.none _ | refine LeO.ite ?_ ?_ | refine LeO.bind ?_ (fun _ => ?_)
   | exact LeO.none _ | refine LeO.ite ?_ ?_ | refine LeO.bind ?_ (fun _ => ?_)
theorem impl_BorderDoors.calls (k : Nat) (a0 : Int) (A1 : Option Addr) (c1 : Nat) (l1 : List Int) (r1 : List (List Int)) (r2 : Bool) (w : World) (hr1 : Kd.C (Kd.int .i64) w A1 l1.length l1) (hc1 : l1.length ≤ c1) (h : impl_BorderDoors.f k a0 l1 = some (r1, r2)) :
  Calls Try.prog 16 #[.int .i64 a0, .slice A1 l1.length c1] w fun e w' => ∃ v0_ : Value, e = .returned (.tuple #[v0_, .bool r2]) ∧ Kd.S (Kd.slice 3 (Kd.int .i64)) 24 w' w.heap.size (fun _ => True) v0_ r1 ∧ Below w.heap.size w w' := by
 have hu55 := Try.underlying55
 have HR1 := Aside0.mk hr1
 have HC1 := Aside0.mk hc1
 clear hr1 hc1
 have HB := Aside0.mk (Below.refl w.heap.size w)
 have H : ((impl_houseOf.f k a0 l1).bind fun bt517 => (if bt517.2.2.2.2 = true then ((impl_house_entries.f k bt517.1 bt517.2.1 bt517.2.2.1 bt517.2.2.2.1).bind fun t529 => (some (t529, true))) else (some (([] : List (List Int)), false)))) = some (r1, r2) := h
 clear h
 obtain ⟨⟨t517, t518, t521, t524, t527⟩, A30, H⟩ := Option.bind_eq_some_iff.mp H
 replace H : (if t527 = true then ((impl_house_entries.f k t517 t518 t521 t524).bind fun t529 => (some (t529, true))) else (some (([] : List (List Int)), false))) = some (r1, r2) := H
 have A3 := Aside0.mk A30
 clear A30
 by_cases c4 : t527 = true
 ·subst c4
  replace H := IP H
  obtain ⟨t529, A50, H⟩ := Option.bind_eq_some_iff.mp H
  have A5 := Aside0.mk A50
  clear A50
  simp only [Option.some.injEq, Prod.mk.injEq] at H
  obtain ⟨rfl, rfl⟩ := H
  go_enter Try.func16, Try.ntmps16
  go_wp2_with (first | ((with_reducible refine gate_callee (f := 36) rfl ?_); refine goesL_ (some 11) rfl rfl Try.func36 (by kernel_rfl) rfl #[.int .i64 a0, .slice A1 l1.length c1] rfl TA ?_; (with_reducible refine (impl_houseOf.calls k a0 (fun k_ => k_ < w.heap.size) _ _ l1 t517 t518 t521 t524 true _ ?side1 A3.out).mono ?_); (case side1 => exact Kd.V_mk HC1.out (Kd.F_below (Kd.C_F (Kd.heap_int .i64) HR1.out) BB)); rintro e w6 ⟨v519, v522, v525, rfl, ho0, ho1, ho2, hb⟩; refine ⟨_, rfl, ?_⟩; have n0_ := Aside0.mk (Kd.V_lower (Kd.V_mono (ok' := fun k_ => some k_ ≠ (v522 : Value).ownBlock ∧ some k_ ≠ (v525 : Value).ownBlock) ho0 (fun k_ hk_ => ⟨hk_.2.1, hk_.2.2⟩)) (below_size BB)); have n1_ := Aside0.mk (Kd.S_lower (Kd.S_mono (ok' := fun k_ => some k_ ≠ (v525 : Value).ownBlock) ho1 (fun _ hk_ => hk_.2)) (below_size BB)); have n2_ := Aside0.mk (Kd.R_lower (Kd.R_mono (ok' := fun k_ => True) ho2 (fun _ hk_ => trivial)) (below_size BB)); have n3_ := Aside0.mk (below_step BB hb); clear HB; have HO520 := n0_; have HO523 := n1_; have HO526 := n2_; have HB := n3_; clear n0_ n1_ n2_ n3_; (try clear hb); (try clear hb2); (try clear hk); (try clear hi); (try clear ho0); (try clear ho1); (try clear ho2)) | ((with_reducible refine gate_dst (N := 6) rfl ?_); refine box_event ?hg (N := 6) ?hd (cs := #[.int .i64 0, .slice none 0 0, .slice none 0 0, .slice none 0 0]) (t := 55) ?hr ?_; (case hd => rfl); (case hg => rfl); (case hr => exact GS); intro gb528 hg w7 hbox hb; have n0_ := Aside0.mk (Kd.V_below (Kd.V_elderB (by (with_reducible repeat (first | apply Kd.V_alloc | apply Kd.V_drewN | apply Kd.V_drew)); exact HO520.out) gb528 (Nat.le_of_eq hg.symm)) hb); have n1_ := Aside0.mk (Kd.S_below (KS HO523) hb); have n2_ := Aside0.mk (Kd.R_below (KR HO526) hb); have n3_ := Aside0.mk (below_step BB hb); have n4_ := Aside0.mk (hbox); have n5_ := Aside0.mk ((by rw [hg]; exact (below_size BB) : w.heap.size ≤ gb528)); have n6_ := Aside0.mk ((by rw [hg]; exact (below_size BB) : w.heap.size ≤ gb528)); clear HO520; clear HO523; clear HO526; clear HB; have HO520 := n0_; have HO523 := n1_; have HO526 := n2_; have HB := n3_; have BK528 := n4_; have GW528 := n5_; have GE528 := n6_; clear n0_ n1_ n2_ n3_ n4_ n5_ n6_; clear hb hbox hg; have hcz8_0 : w7.cell? ⟨gb528, 0, none⟩ = some (.int .i64 0) := (blk_cell BK528.out 0).trans rfl; have hcz8_1 : w7.cell? ⟨gb528, 1, none⟩ = some (.slice none 0 0) := (blk_cell BK528.out 1).trans rfl; have hcz8_2 : w7.cell? ⟨gb528, 2, none⟩ = some (.slice none 0 0) := (blk_cell BK528.out 2).trans rfl; have hcz8_3 : w7.cell? ⟨gb528, 3, none⟩ = some (.slice none 0 0) := (blk_cell BK528.out 3).trans rfl; have hfz8_0 := blk_frozen BK528.out 0; have hfz8_1 := blk_frozen BK528.out 1; have hfz8_2 := blk_frozen BK528.out 2; have hfz8_3 := blk_frozen BK528.out 3; obtain ⟨Ao9, co9, eo9⟩ := Kd.V_slice HO520.out; subst eo9; obtain ⟨Ao10, co10, eo10⟩ := Kd.S_slice HO523.out; subst eo10; obtain ⟨Ao11, co11, eo11⟩ := Kd.R_slice HO526.out; subst eo11) | ((with_reducible refine gate_callee (f := 52) rfl ?_); refine goesL_ (some 17) rfl rfl Try.func52 (by kernel_rfl) rfl #[.agg #[.int .i64 t517, .slice Ao9 t518.length co9, .slice Ao10 t521.length co10, .slice Ao11 t524.length co11]] rfl TA ?_; (with_reducible refine (impl_house_entries.calls k t517 _ _ t518 _ _ t521 _ _ t524 t529 _ ?side1 ?side2 ?side3 ?side4 ?side5 ?side6 A5.out).mono ?_); (case side1 => refine (Kd.V_reads' (e := 3) (base := w.heap.size) (ok := fun k_ => ((some k_ ≠ (.slice Ao10 t521.length co10 : Value).ownBlock ∧ some k_ ≠ (.slice Ao11 t524.length co11 : Value).ownBlock) ∧ k_ ≠ gb528)) (n := t518.length) (c := co9) ?_).2.2; exact (by (with_reducible repeat (first | apply Kd.V_alloc | apply Kd.V_drewN | apply Kd.V_drew)); exact (Kd.V_mono (Kd.V_far (p := ⟨gb528, 3, none⟩) (Kd.V_far (p := ⟨gb528, 2, none⟩) (Kd.V_far (p := ⟨gb528, 1, none⟩) (Kd.V_far (p := ⟨gb528, 0, none⟩) (Kd.V_mono HO520.out (fun k_ hk => (⟨hk, hk.2⟩ : _ ∧ k_ ≠ gb528))) (fun _ hk => hk.2) (.int .i64 t517)) (fun _ hk => hk.2) (.slice Ao9 t518.length co9)) (fun _ hk => hk.2) (.slice Ao10 t521.length co10)) (fun _ hk => hk.2) (.slice Ao11 t524.length co11)) (fun _ h_ => h_.1)))); (case side2 => exact (Kd.V_reads' HO520.out).2.1); (case side3 => refine (Kd.S_reads' (e := 24) (base := w.heap.size) (ok := fun k_ => some k_ ≠ (.slice Ao11 t524.length co11 : Value).ownBlock) (n := t521.length) (c := co10) ?_).2.2; exact (by (with_reducible repeat (first | apply Kd.S_alloc | apply Kd.S_drewN | apply Kd.S_drew)); exact (Kd.S_mono (Kd.S_far (p := ⟨gb528, 3, none⟩) (Kd.S_far (p := ⟨gb528, 2, none⟩) (Kd.S_far (p := ⟨gb528, 1, none⟩) (Kd.S_far (p := ⟨gb528, 0, none⟩) (Kd.S_types HO523.out BK528.out (by decide)) (fun _ hk => hk.2) (.int .i64 t517)) (fun _ hk => hk.2) (.slice Ao9 t518.length co9)) (fun _ hk => hk.2) (.slice Ao10 t521.length co10)) (fun _ hk => hk.2) (.slice Ao11 t524.length co11)) (fun _ h_ => h_.1)))); (case side4 => exact (Kd.S_reads' HO523.out).2.1); (case side5 => refine (Kd.R_reads' (e := 3) (base := w.heap.size) (ok := fun k_ => True) (n := t524.length) (c := co11) ?_).2.2; exact (by (with_reducible repeat (first | apply Kd.R_alloc | apply Kd.R_drewN | apply Kd.R_drew)); exact (Kd.R_mono (Kd.R_far (p := ⟨gb528, 3, none⟩) (Kd.R_far (p := ⟨gb528, 2, none⟩) (Kd.R_far (p := ⟨gb528, 1, none⟩) (Kd.R_far (p := ⟨gb528, 0, none⟩) (Kd.R_types HO526.out BK528.out (by decide)) (fun _ hk => hk.2) (.int .i64 t517)) (fun _ hk => hk.2) (.slice Ao9 t518.length co9)) (fun _ hk => hk.2) (.slice Ao10 t521.length co10)) (fun _ hk => hk.2) (.slice Ao11 t524.length co11)) (fun _ h_ => h_.1)))); (case side6 => exact (Kd.R_reads' HO526.out).2.1); rintro e w12 ⟨v530, rfl, ho0, hb⟩; refine ⟨_, rfl, ?_⟩; have n0_ := Aside0.mk (Kd.V_elder' (by (with_reducible repeat (first | apply Kd.V_alloc | apply Kd.V_drewN | apply Kd.V_drew)); exact (Kd.V_mono (Kd.V_far (p := ⟨gb528, 3, none⟩) (Kd.V_far (p := ⟨gb528, 2, none⟩) (Kd.V_far (p := ⟨gb528, 1, none⟩) (Kd.V_far (p := ⟨gb528, 0, none⟩) (Kd.V_mono HO520.out (fun k_ hk => (⟨hk, hk.2⟩ : _ ∧ k_ ≠ gb528))) (fun _ hk => hk.2) (.int .i64 t517)) (fun _ hk => hk.2) (.slice Ao9 t518.length co9)) (fun _ hk => hk.2) (.slice Ao10 t521.length co10)) (fun _ hk => hk.2) (.slice Ao11 t524.length co11)) (fun _ h_ => h_.1))) (Kd.S_base ho0) hb); have n1_ := Aside0.mk (Kd.S_elder' (by (with_reducible repeat (first | apply Kd.S_alloc | apply Kd.S_drewN | apply Kd.S_drew)); exact (Kd.S_mono (Kd.S_far (p := ⟨gb528, 3, none⟩) (Kd.S_far (p := ⟨gb528, 2, none⟩) (Kd.S_far (p := ⟨gb528, 1, none⟩) (Kd.S_far (p := ⟨gb528, 0, none⟩) (Kd.S_types HO523.out BK528.out (by decide)) (fun _ hk => hk.2) (.int .i64 t517)) (fun _ hk => hk.2) (.slice Ao9 t518.length co9)) (fun _ hk => hk.2) (.slice Ao10 t521.length co10)) (fun _ hk => hk.2) (.slice Ao11 t524.length co11)) (fun _ h_ => h_.1))) (Kd.S_base ho0) hb); have n2_ := Aside0.mk (Kd.R_below (by (with_reducible repeat (first | apply Kd.R_alloc | apply Kd.R_drewN | apply Kd.R_drew)); exact (Kd.R_mono (Kd.R_far (p := ⟨gb528, 3, none⟩) (Kd.R_far (p := ⟨gb528, 2, none⟩) (Kd.R_far (p := ⟨gb528, 1, none⟩) (Kd.R_far (p := ⟨gb528, 0, none⟩) (Kd.R_types HO526.out BK528.out (by decide)) (fun _ hk => hk.2) (.int .i64 t517)) (fun _ hk => hk.2) (.slice Ao9 t518.length co9)) (fun _ hk => hk.2) (.slice Ao10 t521.length co10)) (fun _ hk => hk.2) (.slice Ao11 t524.length co11)) (fun _ h_ => h_.1))) hb); have n3_ := Aside0.mk (Kd.S_lower (Kd.S_new' (Kd.S_new' ho0 (Kd.S_lt (by (with_reducible repeat (first | apply Kd.S_alloc | apply Kd.S_drewN | apply Kd.S_drew)); exact (Kd.S_mono (Kd.S_far (p := ⟨gb528, 3, none⟩) (Kd.S_far (p := ⟨gb528, 2, none⟩) (Kd.S_far (p := ⟨gb528, 1, none⟩) (Kd.S_far (p := ⟨gb528, 0, none⟩) (Kd.S_types HO523.out BK528.out (by decide)) (fun _ hk => hk.2) (.int .i64 t517)) (fun _ hk => hk.2) (.slice Ao9 t518.length co9)) (fun _ hk => hk.2) (.slice Ao10 t521.length co10)) (fun _ hk => hk.2) (.slice Ao11 t524.length co11)) (fun _ h_ => h_.1))))) (Kd.R_lt (by (with_reducible repeat (first | apply Kd.R_alloc | apply Kd.R_drewN | apply Kd.R_drew)); exact (Kd.R_mono (Kd.R_far (p := ⟨gb528, 3, none⟩) (Kd.R_far (p := ⟨gb528, 2, none⟩) (Kd.R_far (p := ⟨gb528, 1, none⟩) (Kd.R_far (p := ⟨gb528, 0, none⟩) (Kd.R_types HO526.out BK528.out (by decide)) (fun _ hk => hk.2) (.int .i64 t517)) (fun _ hk => hk.2) (.slice Ao9 t518.length co9)) (fun _ hk => hk.2) (.slice Ao10 t521.length co10)) (fun _ hk => hk.2) (.slice Ao11 t524.length co11)) (fun _ h_ => h_.1))))) (below_size (AGE GE528))); have n4_ := Aside0.mk (blk_below (g := gb528) (o := .cells #[.int .i64 t517, .slice Ao9 t518.length co9, .slice Ao10 t521.length co10, .slice Ao11 t524.length co11] 55 (0, 0)) (by (with_reducible repeat (first | refine blk_drewN ?_ _ | refine blk_drew ?_ | refine blk_alloc ?_ _)); refine blk_put (cs := #[.int .i64 t517, .slice Ao9 t518.length co9, .slice Ao10 t521.length co10, .slice none 0 0]) ?_ 3 _ rfl; (with_reducible repeat (first | refine blk_drewN ?_ _ | refine blk_drew ?_ | refine blk_alloc ?_ _)); refine blk_put (cs := #[.int .i64 t517, .slice Ao9 t518.length co9, .slice none 0 0, .slice none 0 0]) ?_ 2 _ rfl; (with_reducible repeat (first | refine blk_drewN ?_ _ | refine blk_drew ?_ | refine blk_alloc ?_ _)); refine blk_put (cs := #[.int .i64 t517, .slice none 0 0, .slice none 0 0, .slice none 0 0]) ?_ 1 _ rfl; (with_reducible repeat (first | refine blk_drewN ?_ _ | refine blk_drew ?_ | refine blk_alloc ?_ _)); refine blk_put (cs := #[.int .i64 0, .slice none 0 0, .slice none 0 0, .slice none 0 0]) ?_ 0 _ rfl; (with_reducible repeat (first | refine blk_drewN ?_ _ | refine blk_drew ?_ | refine blk_alloc ?_ _)); exact BK528.out) hb); have n5_ := Aside0.mk (below_step (AGE GE528) hb); clear HO520; clear HO523; clear HO526; clear BK528; clear HB; have HO520 := n0_; have HO523 := n1_; have HO526 := n2_; have HO531 := n3_; have BK528 := n4_; have HB := n5_; clear n0_ n1_ n2_ n3_ n4_ n5_; (try clear hb); (try clear hb2); (try clear hk); (try clear hi); (try clear ho0)))
  go_ret2
  exact ⟨_, RE, by (with_reducible repeat (first | apply Kd.S_alloc | apply Kd.S_drewN | apply Kd.S_drew)); exact Kd.S_mono HO531.out (fun _ hk => trivial), AGE GE528⟩
 ·replace c4 := Bool.eq_false_iff.mpr c4
  subst c4
  replace H := IN H
  simp only [Option.some.injEq, Prod.mk.injEq] at H
  obtain ⟨rfl, rfl⟩ := H
  go_enter Try.func16, Try.ntmps16
  go_wp2_with (first | ((with_reducible refine gate_callee (f := 36) rfl ?_); refine goesL_ (some 11) rfl rfl Try.func36 (by kernel_rfl) rfl #[.int .i64 a0, .slice A1 l1.length c1] rfl TA ?_; (with_reducible refine (impl_houseOf.calls k a0 (fun k_ => k_ < w.heap.size) _ _ l1 t517 t518 t521 t524 false _ ?side1 A3.out).mono ?_); (case side1 => exact Kd.V_mk HC1.out (Kd.F_below (Kd.C_F (Kd.heap_int .i64) HR1.out) BB)); rintro e w13 ⟨v519, v522, v525, rfl, ho0, ho1, ho2, hb⟩; refine ⟨_, rfl, ?_⟩; have n0_ := Aside0.mk (Kd.V_lower (Kd.V_mono (ok' := fun k_ => some k_ ≠ (v522 : Value).ownBlock ∧ some k_ ≠ (v525 : Value).ownBlock) ho0 (fun k_ hk_ => ⟨hk_.2.1, hk_.2.2⟩)) (below_size BB)); have n1_ := Aside0.mk (Kd.S_lower (Kd.S_mono (ok' := fun k_ => some k_ ≠ (v525 : Value).ownBlock) ho1 (fun _ hk_ => hk_.2)) (below_size BB)); have n2_ := Aside0.mk (Kd.R_lower (Kd.R_mono (ok' := fun k_ => True) ho2 (fun _ hk_ => trivial)) (below_size BB)); have n3_ := Aside0.mk (below_step BB hb); clear HB; have HO520 := n0_; have HO523 := n1_; have HO526 := n2_; have HB := n3_; clear n0_ n1_ n2_ n3_; (try clear hb); (try clear hb2); (try clear hk); (try clear hi); (try clear ho0); (try clear ho1); (try clear ho2)) | ((with_reducible refine gate_dst (N := 6) rfl ?_); refine box_event ?hg (N := 6) ?hd (cs := #[.int .i64 0, .slice none 0 0, .slice none 0 0, .slice none 0 0]) (t := 55) ?hr ?_; (case hd => rfl); (case hg => rfl); (case hr => exact GS); intro gb528 hg w14 hbox hb; have n0_ := Aside0.mk (Kd.V_below (Kd.V_elderB (by (with_reducible repeat (first | apply Kd.V_alloc | apply Kd.V_drewN | apply Kd.V_drew)); exact HO520.out) gb528 (Nat.le_of_eq hg.symm)) hb); have n1_ := Aside0.mk (Kd.S_below (KS HO523) hb); have n2_ := Aside0.mk (Kd.R_below (KR HO526) hb); have n3_ := Aside0.mk (below_step BB hb); have n4_ := Aside0.mk (hbox); have n5_ := Aside0.mk ((by rw [hg]; exact (below_size BB) : w.heap.size ≤ gb528)); have n6_ := Aside0.mk ((by rw [hg]; exact (below_size BB) : w.heap.size ≤ gb528)); clear HO520; clear HO523; clear HO526; clear HB; have HO520 := n0_; have HO523 := n1_; have HO526 := n2_; have HB := n3_; have BK528 := n4_; have GW528 := n5_; have GE528 := n6_; clear n0_ n1_ n2_ n3_ n4_ n5_ n6_; clear hb hbox hg; have hcz15_0 : w14.cell? ⟨gb528, 0, none⟩ = some (.int .i64 0) := (blk_cell BK528.out 0).trans rfl; have hcz15_1 : w14.cell? ⟨gb528, 1, none⟩ = some (.slice none 0 0) := (blk_cell BK528.out 1).trans rfl; have hcz15_2 : w14.cell? ⟨gb528, 2, none⟩ = some (.slice none 0 0) := (blk_cell BK528.out 2).trans rfl; have hcz15_3 : w14.cell? ⟨gb528, 3, none⟩ = some (.slice none 0 0) := (blk_cell BK528.out 3).trans rfl; have hfz15_0 := blk_frozen BK528.out 0; have hfz15_1 := blk_frozen BK528.out 1; have hfz15_2 := blk_frozen BK528.out 2; have hfz15_3 := blk_frozen BK528.out 3; obtain ⟨Ao16, co16, eo16⟩ := Kd.V_slice HO520.out; subst eo16; obtain ⟨Ao17, co17, eo17⟩ := Kd.S_slice HO523.out; subst eo17; obtain ⟨Ao18, co18, eo18⟩ := Kd.R_slice HO526.out; subst eo18))
  go_ret2
  exact ⟨_, RE, by first | exact Kd.S_nil _ _ _ _ _ | exact Kd.N_nil _ _ _ _ _ | exact Kd.V_nil _ _ _ _ _ | exact Kd.Q_nil _ _ _ _ _ | exact Kd.R_nil _ _ _ _ _, AGE GE528⟩

/-! ### spec_meIndex: function 108 -/
def spec_meIndex.f (a0 : Int) (l1 : List Int) : Option (Int) := if 0 < (l1.length : Int) then (if 2 < (l1.length : Int) then (some (wrap64 ((wrap64 (Int.tdiv (wrap64 ((wrap64 (a0 - (rd l1 0))) * (wrap64 ((wrap64 (a0 - (rd l1 0))) + 1)))) 2)) + (rd l1 2)))) else (none)) else (none)
theorem spec_meIndex.calls (a0 : Int) (A1 : Option Addr) (c1 : Nat) (l1 : List Int) (r : Int) (w : World) (hr1 : Kd.C (Kd.int .i64) w A1 l1.length l1) (hc1 : l1.length ≤ c1) (h : spec_meIndex.f a0 l1 = some r) :
  Calls Try.prog 108 #[.int .i64 a0, .slice A1 l1.length c1] w fun e w' => e = .returned (.int .i64 r) ∧ Drawn0 w w' := by
 have HR1 := Aside0.mk hr1
 have HC1 := Aside0.mk hc1
 clear hr1 hc1
 have H : (if 0 < (l1.length : Int) then (if 2 < (l1.length : Int) then (some (wrap64 ((wrap64 (Int.tdiv (wrap64 ((wrap64 (a0 - (rd l1 0))) * (wrap64 ((wrap64 (a0 - (rd l1 0))) + 1)))) 2)) + (rd l1 2)))) else (none)) else (none)) = some r := h
 clear h
 by_cases c3 : 0 < (l1.length : Int)
 ·rw [if_pos c3] at H
  have c3b0 : decide (0 < (l1.length : Int)) = true := decide_eq_true c3
  have c3b1 : decide (0 < l1.length) = true := decide_eq_true (by omega)
  clear c3
  by_cases c4 : 2 < (l1.length : Int)
  ·rw [if_pos c4] at H
   have c4b0 : decide (2 < (l1.length : Int)) = true := decide_eq_true c4
   have c4b1 : decide (2 < l1.length) = true := decide_eq_true (by omega)
   clear c4
   obtain rfl := Option.some.inj H
   have p532 : 0 ≤ (0 : Int) := (by omega)
   have q532 : 0 < (l1.length : Int) := of_decide_eq_true AS
   obtain ⟨ad532, e532, hx532_0⟩ := Kd.at_int HR1.out 0 p532 q532
   cases e532
   have qi532 : (0 < l1.length) = True := eq_true (by omega)
   (try rw [show ((0 : Int)).toNat = 0 from rfl] at hx532_0)
   (try rw [Addr.add_zero'] at hx532_0)
   replace p532 := eq_true p532
   replace q532 := eq_true q532
   have p533 : 0 ≤ (2 : Int) := (by omega)
   have q533 : 2 < (l1.length : Int) := of_decide_eq_true AS
   obtain ⟨ad533, e533, hx533_0⟩ := Kd.at_int HR1.out 2 p533 q533
   obtain rfl : ad532 = ad533 := (by injection e533)
   (try simp only [show (2 : Int).toNat = 2 from rfl, Nat.reduceMul, Nat.reduceEqDiff, Go.Addr.add, ↓reduceIte] at hx533_0)
   have qi533 : (2 < l1.length) = True := eq_true (by omega)
   (try rw [show ((2 : Int)).toNat = 2 from rfl] at hx533_0)
   replace p533 := eq_true p533
   replace q533 := eq_true q533
   go_enter Try.func108, Try.ntmps108
   go_wp2
   go_ret
   exact ⟨RF, DR⟩
  ·rw [if_neg c4] at H
   cases H
 ·rw [if_neg c3] at H
  cases H

/-! ### spec_meBorder: function 90 -/
mutual
def spec_meBorder.l0 : Nat → Int → List Int → Int → Option (List Int)
 | 0, _, _, _ => none
 | k + 1, x0, x3, x4 => if x4 < x0 then ((spec_meIndex.f x0 (([wrap64 (x0 - x4), x4, 0] : List Int))).bind fun t537 => (if x3.length < 17592186044416 then (spec_meBorder.l0 k x0 (x3 ++ [t537]) (wrap64 (x4 + 1))) else (none))) else (spec_meBorder.l1 k x0 x3 0)
def spec_meBorder.l1 : Nat → Int → List Int → Int → Option (List Int)
 | 0, _, _, _ => none
 | k + 1, x0, x3, x5 => if x5 < x0 then ((spec_meIndex.f x0 (([0, wrap64 (x0 - x5), x5] : List Int))).bind fun t544 => (if x3.length < 17592186044416 then (spec_meBorder.l1 k x0 (x3 ++ [t544]) (wrap64 (x5 + 1))) else (none))) else (spec_meBorder.l2 k x0 x3 0)
def spec_meBorder.l2 : Nat → Int → List Int → Int → Option (List Int)
 | 0, _, _, _ => none
 | k + 1, x0, x3, x6 => if x6 < x0 then ((spec_meIndex.f x0 (([x6, 0, wrap64 (x0 - x6)] : List Int))).bind fun t551 => (if x3.length < 17592186044416 then (spec_meBorder.l2 k x0 (x3 ++ [t551]) (wrap64 (x6 + 1))) else (none))) else (some x3)
end
def spec_meBorder.f (k : Nat) (a0 : Int) : Option (List Int) := spec_meBorder.l0 k a0 ([] : List Int) 0
theorem spec_meBorder.mono_l : ∀ k, (∀ y0 y1 y2, LeO (spec_meBorder.l0 k y0 y1 y2) (spec_meBorder.l0 (k + 1) y0 y1 y2)) ∧ (∀ y0 y1 y2, LeO (spec_meBorder.l1 k y0 y1 y2) (spec_meBorder.l1 (k + 1) y0 y1 y2)) ∧ (∀ y0 y1 y2, LeO (spec_meBorder.l2 k y0 y1 y2) (spec_meBorder.l2 (k + 1) y0 y1 y2))
 | 0 => ⟨fun _ _ _ r h => by simp [spec_meBorder.l0] at h, fun _ _ _ r h => by simp [spec_meBorder.l1] at h, fun _ _ _ r h => by simp [spec_meBorder.l2] at h⟩
 | k + 1 => by
  obtain ⟨ih0, ih1, ih2⟩ := spec_meBorder.mono_l k
  refine ⟨?_, ?_, ?_⟩
  ·intro y0 y1 y2
   unfold spec_meBorder.l0
   repeat' first
   | with_reducible first | exact ih0 _ _ _ | exact ih1 _ _ _ | exact ih2 _ _ _ | exact LeO.refl _ | exact LeO.none _ | refine LeO.ite ?_ ?_ | refine LeO.bind ?_ (fun _ => ?_)
   | exact LeO.none _ | refine LeO.ite ?_ ?_ | refine LeO.bind ?_ (fun _ => ?_)
  ·intro y0 y1 y2
   unfold spec_meBorder.l1
   repeat' first
   | with_reducible first | exact ih0 _ _ _ | exact ih1 _ _ _ | exact ih2 _ _ _ | exact LeO.refl _ | exact LeO.none _ | refine LeO.ite ?_ ?_ | refine LeO.bind ?_ (fun _ => ?_)
   | exact LeO.none _ | refine LeO.ite ?_ ?_ | refine LeO.bind ?_ (fun _ => ?_)
  ·intro y0 y1 y2
   unfold spec_meBorder.l2
   repeat' first
   | with_reducible first | exact ih0 _ _ _ | exact ih1 _ _ _ | exact ih2 _ _ _ | exact LeO.refl _ | exact LeO.none _ | refine LeO.ite ?_ ?_ | refine LeO.bind ?_ (fun _ => ?_)
   | exact LeO.none _ | refine LeO.ite ?_ ?_ | refine LeO.bind ?_ (fun _ => ?_)
theorem spec_meBorder.mono : ∀ a0 k, LeO (spec_meBorder.f k a0) (spec_meBorder.f (k + 1) a0) := by
 intro a0 k
 obtain ⟨ih0, ih1, ih2⟩ := spec_meBorder.mono_l k
 unfold spec_meBorder.f
 repeat' first
   | with_reducible first | exact ih0 _ _ _ | exact ih1 _ _ _ | exact ih2 _ _ _ | exact LeO.refl _ | exact LeO.none _ | refine LeO.ite ?_ ?_ | refine LeO.bind ?_ (fun _ => ?_)
   | exact LeO.none _ | refine LeO.ite ?_ ?_ | refine LeO.bind ?_ (fun _ => ?_)
theorem spec_meBorder.calls (k : Nat) (a0 : Int) (r : List Int) (w : World) (h : spec_meBorder.f k a0 = some r) :
  Calls Try.prog 90 #[.int .i64 a0] w fun e w' => ∃ v0_ : Value, e = .returned (v0_) ∧ Kd.R (Kd.int .i64) 3 w' w.heap.size (fun _ => True) v0_ r ∧ Below w.heap.size w w' := by
 have HB := Aside0.mk (Below.refl w.heap.size w)
 have H : (spec_meBorder.l0 k a0 ([] : List Int) 0) = some r := h
 clear h
 have H' := Aside0.mk H
 clear H
 go_enter Try.func90, Try.ntmps90
 go_wp2
 go_loopg [3, 4] k (fun kq v3 v4 w' => ∃ (x3_1 : List Int) (x4_1 : Int), v4 = .int .i64 x4_1 ∧ Aside0 (spec_meBorder.l0 kq a0 x3_1 x4_1 = some r) ∧ Aside0 (kq ≤ k) ∧ Aside0 (Kd.R (Kd.int .i64) 3 w' w.heap.size (fun _ => True) v3 x3_1) ∧ Aside0 (Below w.heap.size w w'))
 case atStart => exact ⟨(([] : List Int)), (0), RF, H', ⟨Nat.le_refl _⟩, ⟨by first | exact Kd.R_nil _ _ _ _ _ | exact Kd.N_nil _ _ _ _ _ | exact Kd.V_nil _ _ _ _ _ | exact Kd.Q_nil _ _ _ _ _ | exact Kd.S_nil _ _ _ _ _⟩, ⟨BB⟩⟩
 case round =>
  clear H'
  obtain ⟨x3_1, x4_1, rfl, HA, HK1, HO_3, HB⟩ := hrel
  cases gk with
  | zero => exact absurd HA.out (by simp [spec_meBorder.l0])
  | succ k1 =>
   have H := HA.out
   clear HA
   simp only [spec_meBorder.l0] at H
   by_cases c2 : x4_1 < a0
   ·rw [if_pos c2] at H
    have c2b0 : decide (x4_1 < a0) = true := decide_eq_true c2
    clear c2
    obtain ⟨y534, hy534⟩ : ∃ y_ : List Int, y_ = (([wrap64 (a0 - x4_1), x4_1, 0] : List Int)) := ⟨_, rfl⟩
    replace H : ((spec_meIndex.f a0 y534).bind fun t537 => (if x3_1.length < 17592186044416 then (spec_meBorder.l0 k1 a0 (x3_1 ++ [t537]) (wrap64 (x4_1 + 1))) else (none))) = some r := HY H hy534
    have Ny534 := Aside0.mk hy534
    clear hy534
    obtain ⟨t537, A30, H⟩ := Option.bind_eq_some_iff.mp H
    have A3 := Aside0.mk A30
    clear A30
    by_cases c4 : x3_1.length < 17592186044416
    ·rw [if_pos c4] at H
     have LMc4 := Aside0.mk c4
     clear c4
     obtain ⟨y538, hy538⟩ : ∃ y_ : List Int, y_ = (x3_1 ++ [t537]) := ⟨_, rfl⟩
     replace H : (spec_meBorder.l0 k1 a0 y538 (wrap64 (x4_1 + 1))) = some r := HY H hy538
     have Ny538 := Aside0.mk hy538
     clear hy538
     have H' := Aside0.mk H
     clear H
     go_wp2_with (first | ((with_reducible refine gate_dst (N := 18) rfl ?_); refine Kd.R_lit (Kd.int .i64) _ 3 ?hg (N := 18) ?hd (xs := ([wrap64 (a0 - x4_1), x4_1, 0] : List Int)) (inner := [.int .i64 (wrap64 (a0 - x4_1)), .int .i64 x4_1, .int .i64 0]) (ok := fun _ => True) (okp := fun _ => True) ?hr ?hp (fun _ hk => hk) trivial (Below.refl _ _) (Nat.le_refl _) (by simp) ?_; (case hd => rfl); (case hg => rfl); (case hr => exact GS); (case hp => exact (Reps.one (show Kd.M (Kd.int .i64) _ _ _ (wrap64 (a0 - x4_1)) [.int .i64 (wrap64 (a0 - x4_1))] from rfl) (Reps.one (show Kd.M (Kd.int .i64) _ _ _ x4_1 [.int .i64 x4_1] from rfl) (Reps.one (show Kd.M (Kd.int .i64) _ _ _ 0 [.int .i64 0] from rfl) (Reps.none _ _))))); intro v535 w5 ho6 hb hg_ hnew_; clear hg_ hnew_; (first | rw [← Ny534.out] at ho6 | (simp only [Int.reduceToNat] at ho6; rw [← Ny534.out] at ho6)); have n0_ := Aside0.mk (Kd.R_elder' (KR HO_3) (Kd.R_base ho6) hb); have n1_ := Aside0.mk (Kd.R_lower (Kd.R_new' ho6 (Kd.R_lt (KR HO_3))) (below_size BB)); have n2_ := Aside0.mk (below_step BB hb); clear HO_3; clear HB; have HO_3 := n0_; have HO536 := n1_; have HB := n2_; clear n0_ n1_ n2_; clear hb ho6; obtain ⟨Ao7, co7, eo7⟩ := Kd.R_slice HO536.out; subst eo7) | ((with_reducible refine gate_callee (f := 108) rfl ?_); refine goesL_ (some 19) rfl rfl Try.func108 (by kernel_rfl) rfl #[.int .i64 a0, .slice Ao7 y534.length co7] rfl TA ?_; (with_reducible refine (spec_meIndex.calls a0 _ _ y534 t537 _ ?side1 ?side2 A3.out).mono ?_); (case side1 => exact CW (Kd.R_reads' HO536.out).2.2); (case side2 => exact (Kd.R_reads' HO536.out).2.1); rintro e w' ⟨rfl, ⟨nd, rfl⟩⟩; refine ⟨_, rfl, ?_⟩) | ((with_reducible refine gate_builtin (b := .append) (xs := #[.tmp 12, .tmp 20]) rfl ?_); at_builtin; refine Kd.R_append (Kd.int .i64) (w0 := w) w.heap.size rfl (.tmp 12) (.tmp 20) 24 3 (.int .i64 0) 8 rfl Try.underlying24 info3 rfl (by decide) (by omega) u3 x3_1 t537 [.int .i64 t537] (fun k_ => some k_ ≠ (.slice Ao7 y534.length co7 : Value).ownBlock) (fun _ => False) rfl rfl ?aP (fun _ hk => hk.elim) ?aF ?aO ?aB ?aS ?aL ?_; (case aP => exact rfl); (case aB => exact BB); (case aF => exact (fun k_ hk => Kd.fresh' (Kd.R_lt (KR HO536)) k_ hk)); (case aO => exact (by (with_reducible repeat (first | apply Kd.R_alloc | apply Kd.R_drewN | apply Kd.R_drew)); exact Kd.R_mono HO_3.out (fun _ hk => hk.2))); (case aS => exact (below_size BB)); (case aL => have := LMc4.out; omega); intro v539 w8 ho hb hg hat; rw [← Ny538.out] at ho; have n0_ := Aside0.mk (Kd.R_after (ok := (fun _ => True)) (KR HO536) hg hat); have n1_ := Aside0.mk (hb); have n2_ := Aside0.mk (ho); clear HO536; clear HB; clear HO_3; have HO536 := n0_; have HB := n1_; have HO540 := n2_; clear n0_ n1_ n2_; clear ho hb hg hat))
     go_roundg k1
     case measure => have := HK1.out; omega
     case rel => exact ⟨(y538), (wrap64 (x4_1 + 1)), RF, H', ⟨by have := HK1.out; omega⟩, ⟨by (with_reducible repeat (first | apply Kd.R_alloc | apply Kd.R_drewN | apply Kd.R_drew)); exact Kd.R_mono HO540.out (fun _ hk => trivial)⟩, ⟨BB⟩⟩
    ·rw [if_neg c4] at H
     cases H
   ·rw [if_neg c2] at H
    have c2b0 : decide (x4_1 < a0) = false := decide_eq_false c2
    clear c2
    have H' := Aside0.mk H
    clear H
    go_wp2
    go_loopg [3, 5] k1 (fun kq v3 v5 w' => ∃ (x3_2 : List Int) (x5_2 : Int), v5 = .int .i64 x5_2 ∧ Aside0 (spec_meBorder.l1 kq a0 x3_2 x5_2 = some r) ∧ Aside0 (kq ≤ k1) ∧ Aside0 (Kd.R (Kd.int .i64) 3 w' w.heap.size (fun _ => True) v3 x3_2) ∧ Aside0 (Below w.heap.size w w'))
    case atStart => exact ⟨(x3_1), (0), RF, H', ⟨Nat.le_refl _⟩, ⟨KR HO_3⟩, ⟨BB⟩⟩
    case round =>
     clear H'
     try clear c1
     try clear c2
     try clear c2b0
     try clear p2
     try clear c4
     try clear p6
     obtain ⟨x3_2, x5_2, rfl, HA, HK2, HO_3, HB⟩ := hrel
     cases gk with
     | zero => exact absurd HA.out (by simp [spec_meBorder.l1])
     | succ k2 =>
      have H := HA.out
      clear HA
      simp only [spec_meBorder.l1] at H
      by_cases c9 : x5_2 < a0
      ·rw [if_pos c9] at H
       have c9b0 : decide (x5_2 < a0) = true := decide_eq_true c9
       clear c9
       obtain ⟨y541, hy541⟩ : ∃ y_ : List Int, y_ = (([0, wrap64 (a0 - x5_2), x5_2] : List Int)) := ⟨_, rfl⟩
       replace H : ((spec_meIndex.f a0 y541).bind fun t544 => (if x3_2.length < 17592186044416 then (spec_meBorder.l1 k2 a0 (x3_2 ++ [t544]) (wrap64 (x5_2 + 1))) else (none))) = some r := HY H hy541
       have Ny541 := Aside0.mk hy541
       clear hy541
       obtain ⟨t544, A100, H⟩ := Option.bind_eq_some_iff.mp H
       have A10 := Aside0.mk A100
       clear A100
       by_cases c11 : x3_2.length < 17592186044416
       ·rw [if_pos c11] at H
        have LMc11 := Aside0.mk c11
        clear c11
        obtain ⟨y545, hy545⟩ : ∃ y_ : List Int, y_ = (x3_2 ++ [t544]) := ⟨_, rfl⟩
        replace H : (spec_meBorder.l1 k2 a0 y545 (wrap64 (x5_2 + 1))) = some r := HY H hy545
        have Ny545 := Aside0.mk hy545
        clear hy545
        have H' := Aside0.mk H
        clear H
        go_wp2_with (first | ((with_reducible refine gate_dst (N := 33) rfl ?_); refine Kd.R_lit (Kd.int .i64) _ 3 ?hg (N := 33) ?hd (xs := ([0, wrap64 (a0 - x5_2), x5_2] : List Int)) (inner := [.int .i64 0, .int .i64 (wrap64 (a0 - x5_2)), .int .i64 x5_2]) (ok := fun _ => True) (okp := fun _ => True) ?hr ?hp (fun _ hk => hk) trivial (Below.refl _ _) (Nat.le_refl _) (by simp) ?_; (case hd => rfl); (case hg => rfl); (case hr => exact GS); (case hp => exact (Reps.one (show Kd.M (Kd.int .i64) _ _ _ 0 [.int .i64 0] from rfl) (Reps.one (show Kd.M (Kd.int .i64) _ _ _ (wrap64 (a0 - x5_2)) [.int .i64 (wrap64 (a0 - x5_2))] from rfl) (Reps.one (show Kd.M (Kd.int .i64) _ _ _ x5_2 [.int .i64 x5_2] from rfl) (Reps.none _ _))))); intro v542 w12 ho13 hb hg_ hnew_; clear hg_ hnew_; (first | rw [← Ny541.out] at ho13 | (simp only [Int.reduceToNat] at ho13; rw [← Ny541.out] at ho13)); have n0_ := Aside0.mk (Kd.R_elder' (KR HO_3) (Kd.R_base ho13) hb); have n1_ := Aside0.mk (Kd.R_lower (Kd.R_new' ho13 (Kd.R_lt (KR HO_3))) (below_size BB)); have n2_ := Aside0.mk (below_step BB hb); clear HO_3; clear HB; have HO_3 := n0_; have HO543 := n1_; have HB := n2_; clear n0_ n1_ n2_; clear hb ho13; obtain ⟨Ao14, co14, eo14⟩ := Kd.R_slice HO543.out; subst eo14) | ((with_reducible refine gate_callee (f := 108) rfl ?_); refine goesL_ (some 34) rfl rfl Try.func108 (by kernel_rfl) rfl #[.int .i64 a0, .slice Ao14 y541.length co14] rfl TA ?_; (with_reducible refine (spec_meIndex.calls a0 _ _ y541 t544 _ ?side1 ?side2 A10.out).mono ?_); (case side1 => exact CW (Kd.R_reads' HO543.out).2.2); (case side2 => exact (Kd.R_reads' HO543.out).2.1); rintro e w' ⟨rfl, ⟨nd, rfl⟩⟩; refine ⟨_, rfl, ?_⟩) | ((with_reducible refine gate_builtin (b := .append) (xs := #[.tmp 27, .tmp 35]) rfl ?_); at_builtin; refine Kd.R_append (Kd.int .i64) (w0 := w) w.heap.size rfl (.tmp 27) (.tmp 35) 24 3 (.int .i64 0) 8 rfl Try.underlying24 info3 rfl (by decide) (by omega) u3 x3_2 t544 [.int .i64 t544] (fun k_ => some k_ ≠ (.slice Ao14 y541.length co14 : Value).ownBlock) (fun _ => False) rfl rfl ?aP (fun _ hk => hk.elim) ?aF ?aO ?aB ?aS ?aL ?_; (case aP => exact rfl); (case aB => exact BB); (case aF => exact (fun k_ hk => Kd.fresh' (Kd.R_lt (KR HO543)) k_ hk)); (case aO => exact (by (with_reducible repeat (first | apply Kd.R_alloc | apply Kd.R_drewN | apply Kd.R_drew)); exact Kd.R_mono HO_3.out (fun _ hk => hk.2))); (case aS => exact (below_size BB)); (case aL => have := LMc11.out; omega); intro v546 w15 ho hb hg hat; rw [← Ny545.out] at ho; have n0_ := Aside0.mk (Kd.R_after (ok := (fun _ => True)) (KR HO543) hg hat); have n1_ := Aside0.mk (hb); have n2_ := Aside0.mk (ho); clear HO543; clear HB; clear HO_3; have HO543 := n0_; have HB := n1_; have HO547 := n2_; clear n0_ n1_ n2_; clear ho hb hg hat))
        go_roundg k2
        case measure => have := HK1.out; have := HK2.out; omega
        case rel => exact ⟨(y545), (wrap64 (x5_2 + 1)), RF, H', ⟨by have := HK1.out; have := HK2.out; omega⟩, ⟨by (with_reducible repeat (first | apply Kd.R_alloc | apply Kd.R_drewN | apply Kd.R_drew)); exact Kd.R_mono HO547.out (fun _ hk => trivial)⟩, ⟨BB⟩⟩
       ·rw [if_neg c11] at H
        cases H
      ·rw [if_neg c9] at H
       have c9b0 : decide (x5_2 < a0) = false := decide_eq_false c9
       clear c9
       have H' := Aside0.mk H
       clear H
       go_wp2
       go_loopg [3, 6] k2 (fun kq v3 v6 w' => ∃ (x3_3 : List Int) (x6_3 : Int), v6 = .int .i64 x6_3 ∧ Aside0 (spec_meBorder.l2 kq a0 x3_3 x6_3 = some r) ∧ Aside0 (kq ≤ k2) ∧ Aside0 (Kd.R (Kd.int .i64) 3 w' w.heap.size (fun _ => True) v3 x3_3) ∧ Aside0 (Below w.heap.size w w'))
       case atStart => exact ⟨(x3_2), (0), RF, H', ⟨Nat.le_refl _⟩, ⟨KR HO_3⟩, ⟨BB⟩⟩
       case round =>
        clear H'
        try clear c1
        try clear c2
        try clear c2b0
        try clear p2
        try clear c4
        try clear p6
        try clear c9
        try clear c9b0
        try clear c10
        try clear c11
        try clear p2
        try clear p6
        obtain ⟨x3_3, x6_3, rfl, HA, HK3, HO_3, HB⟩ := hrel
        cases gk with
        | zero => exact absurd HA.out (by simp [spec_meBorder.l2])
        | succ k3 =>
         have H := HA.out
         clear HA
         simp only [spec_meBorder.l2] at H
         by_cases c16 : x6_3 < a0
         ·rw [if_pos c16] at H
          have c16b0 : decide (x6_3 < a0) = true := decide_eq_true c16
          clear c16
          obtain ⟨y548, hy548⟩ : ∃ y_ : List Int, y_ = (([x6_3, 0, wrap64 (a0 - x6_3)] : List Int)) := ⟨_, rfl⟩
          replace H : ((spec_meIndex.f a0 y548).bind fun t551 => (if x3_3.length < 17592186044416 then (spec_meBorder.l2 k3 a0 (x3_3 ++ [t551]) (wrap64 (x6_3 + 1))) else (none))) = some r := HY H hy548
          have Ny548 := Aside0.mk hy548
          clear hy548
          obtain ⟨t551, A170, H⟩ := Option.bind_eq_some_iff.mp H
          have A17 := Aside0.mk A170
          clear A170
          by_cases c18 : x3_3.length < 17592186044416
          ·rw [if_pos c18] at H
           have LMc18 := Aside0.mk c18
           clear c18
           obtain ⟨y552, hy552⟩ : ∃ y_ : List Int, y_ = (x3_3 ++ [t551]) := ⟨_, rfl⟩
           replace H : (spec_meBorder.l2 k3 a0 y552 (wrap64 (x6_3 + 1))) = some r := HY H hy552
           have Ny552 := Aside0.mk hy552
           clear hy552
           have H' := Aside0.mk H
           clear H
           go_wp2_with (first | ((with_reducible refine gate_dst (N := 48) rfl ?_); refine Kd.R_lit (Kd.int .i64) _ 3 ?hg (N := 48) ?hd (xs := ([x6_3, 0, wrap64 (a0 - x6_3)] : List Int)) (inner := [.int .i64 x6_3, .int .i64 0, .int .i64 (wrap64 (a0 - x6_3))]) (ok := fun _ => True) (okp := fun _ => True) ?hr ?hp (fun _ hk => hk) trivial (Below.refl _ _) (Nat.le_refl _) (by simp) ?_; (case hd => rfl); (case hg => rfl); (case hr => exact GS); (case hp => exact (Reps.one (show Kd.M (Kd.int .i64) _ _ _ x6_3 [.int .i64 x6_3] from rfl) (Reps.one (show Kd.M (Kd.int .i64) _ _ _ 0 [.int .i64 0] from rfl) (Reps.one (show Kd.M (Kd.int .i64) _ _ _ (wrap64 (a0 - x6_3)) [.int .i64 (wrap64 (a0 - x6_3))] from rfl) (Reps.none _ _))))); intro v549 w19 ho20 hb hg_ hnew_; clear hg_ hnew_; (first | rw [← Ny548.out] at ho20 | (simp only [Int.reduceToNat] at ho20; rw [← Ny548.out] at ho20)); have n0_ := Aside0.mk (Kd.R_elder' (KR HO_3) (Kd.R_base ho20) hb); have n1_ := Aside0.mk (Kd.R_lower (Kd.R_new' ho20 (Kd.R_lt (KR HO_3))) (below_size BB)); have n2_ := Aside0.mk (below_step BB hb); clear HO_3; clear HB; have HO_3 := n0_; have HO550 := n1_; have HB := n2_; clear n0_ n1_ n2_; clear hb ho20; obtain ⟨Ao21, co21, eo21⟩ := Kd.R_slice HO550.out; subst eo21) | ((with_reducible refine gate_callee (f := 108) rfl ?_); refine goesL_ (some 49) rfl rfl Try.func108 (by kernel_rfl) rfl #[.int .i64 a0, .slice Ao21 y548.length co21] rfl TA ?_; (with_reducible refine (spec_meIndex.calls a0 _ _ y548 t551 _ ?side1 ?side2 A17.out).mono ?_); (case side1 => exact CW (Kd.R_reads' HO550.out).2.2); (case side2 => exact (Kd.R_reads' HO550.out).2.1); rintro e w' ⟨rfl, ⟨nd, rfl⟩⟩; refine ⟨_, rfl, ?_⟩) | ((with_reducible refine gate_builtin (b := .append) (xs := #[.tmp 42, .tmp 50]) rfl ?_); at_builtin; refine Kd.R_append (Kd.int .i64) (w0 := w) w.heap.size rfl (.tmp 42) (.tmp 50) 24 3 (.int .i64 0) 8 rfl Try.underlying24 info3 rfl (by decide) (by omega) u3 x3_3 t551 [.int .i64 t551] (fun k_ => some k_ ≠ (.slice Ao21 y548.length co21 : Value).ownBlock) (fun _ => False) rfl rfl ?aP (fun _ hk => hk.elim) ?aF ?aO ?aB ?aS ?aL ?_; (case aP => exact rfl); (case aB => exact BB); (case aF => exact (fun k_ hk => Kd.fresh' (Kd.R_lt (KR HO550)) k_ hk)); (case aO => exact (by (with_reducible repeat (first | apply Kd.R_alloc | apply Kd.R_drewN | apply Kd.R_drew)); exact Kd.R_mono HO_3.out (fun _ hk => hk.2))); (case aS => exact (below_size BB)); (case aL => have := LMc18.out; omega); intro v553 w22 ho hb hg hat; rw [← Ny552.out] at ho; have n0_ := Aside0.mk (Kd.R_after (ok := (fun _ => True)) (KR HO550) hg hat); have n1_ := Aside0.mk (hb); have n2_ := Aside0.mk (ho); clear HO550; clear HB; clear HO_3; have HO550 := n0_; have HB := n1_; have HO554 := n2_; clear n0_ n1_ n2_; clear ho hb hg hat))
           go_roundg k3
           case measure => have := HK1.out; have := HK2.out; have := HK3.out; omega
           case rel => exact ⟨(y552), (wrap64 (x6_3 + 1)), RF, H', ⟨by have := HK1.out; have := HK2.out; have := HK3.out; omega⟩, ⟨by (with_reducible repeat (first | apply Kd.R_alloc | apply Kd.R_drewN | apply Kd.R_drew)); exact Kd.R_mono HO554.out (fun _ hk => trivial)⟩, ⟨BB⟩⟩
          ·rw [if_neg c18] at H
           cases H
         ·rw [if_neg c16] at H
          have c16b0 : decide (x6_3 < a0) = false := decide_eq_false c16
          clear c16
          obtain rfl := Option.some.inj H
          go_wp2
          go_ret
          exact ⟨_, RE, KR HO_3, BB⟩

/-! ### spec_doBorder: function 53 -/
def spec_doBorder.l0 : Nat → List Int → List Int → List (List Int) → List Int → Int → Int → Option ((List (List Int)))
 | 0, _, _, _, _, _, _ => none
 | k + 1, x1, x5, x6, x12, x13, x14 => if x14 < x13 then (if 0 ≤ x14 then (if x14 < (x12.length : Int) then (if (x5.length : Int) = 0 then (none) else (if 0 ≤ (Int.tmod (wrap64 (x14 + 1)) (x5.length : Int)) then (if (Int.tmod (wrap64 (x14 + 1)) (x5.length : Int)) < (x5.length : Int) then ((spec_doDoor.f x1 (rd x12 x14) (rd x5 (Int.tmod (wrap64 (x14 + 1)) (x5.length : Int)))).bind fun t560 => (if t560 = true then (if x6.length < 5864062014805 then (spec_doBorder.l0 k x1 x5 (x6 ++ [(([rd x12 x14, rd x5 (Int.tmod (wrap64 (x14 + 1)) (x5.length : Int))] : List Int))]) x12 x13 (wrap64 (x14 + 1))) else (none)) else (spec_doBorder.l0 k x1 x5 x6 x12 x13 (wrap64 (x14 + 1))))) else (none)) else (none))) else (none)) else (none)) else (some x6)
def spec_doBorder.f (k : Nat) (a0 : Int) (l1 : List Int) : Option ((List (List Int))) := (spec_meBorder.f k a0).bind fun t555 => (spec_doBorder.l0 k l1 t555 ([] : List (List Int)) t555 (t555.length : Int) 0)
theorem spec_doBorder.mono_l : ∀ k, (∀ y0 y1 y2 y3 y4 y5, LeO (spec_doBorder.l0 k y0 y1 y2 y3 y4 y5) (spec_doBorder.l0 (k + 1) y0 y1 y2 y3 y4 y5))
 | 0 => fun _ _ _ _ _ _ r h => by simp [spec_doBorder.l0] at h
 | k + 1 => by
  have ih0 := spec_doBorder.mono_l k
  ·intro y0 y1 y2 y3 y4 y5
   unfold spec_doBorder.l0
   repeat' first
   | with_reducible first | exact ih0 _ _ _ _ _ _ | exact spec_meBorder.mono _ _ | exact LeO.refl _ | exact LeO.none _ | refine LeO.ite ?_ ?_ | refine LeO.bind ?_ (fun _ => ?_)
   | exact LeO.none _ | refine LeO.ite ?_ ?_ | refine LeO.bind ?_ (fun _ => ?_)
theorem spec_doBorder.mono : ∀ a0 a1 k, LeO (spec_doBorder.f k a0 a1) (spec_doBorder.f (k + 1) a0 a1) := by
 intro a0 a1 k
 have ih0 := spec_doBorder.mono_l k
 unfold spec_doBorder.f
 repeat' first
   | with_reducible first | exact ih0 _ _ _ _ _ _ | exact spec_meBorder.mono _ _ | exact LeO.refl _ | exact LeO.none _ | refine LeO.ite ?_ ?_ | refine LeO.bind ?_ (fun _ => ?_)
   | exact LeO.none _ | refine LeO.ite ?_ ?_ | refine LeO.bind ?_ (fun _ => ?_)
theorem spec_doBorder.calls (k : Nat) (a0 : Int) (A1 : Option Addr) (c1 : Nat) (l1 : List Int) (r : List (List Int)) (w : World) (hr1 : Kd.C (Kd.int .i64) w A1 l1.length l1) (hc1 : l1.length ≤ c1) (h : spec_doBorder.f k a0 l1 = some r) :
  Calls Try.prog 53 #[.int .i64 a0, .slice A1 l1.length c1] w fun e w' => ∃ v0_ : Value, e = .returned (v0_) ∧ Kd.S (Kd.slice 3 (Kd.int .i64)) 24 w' w.heap.size (fun _ => True) v0_ r ∧ Below w.heap.size w w' := by
 have HR1 := Aside0.mk hr1
 have HC1 := Aside0.mk hc1
 clear hr1 hc1
 have HB := Aside0.mk (Below.refl w.heap.size w)
 have H : ((spec_meBorder.f k a0).bind fun t555 => (spec_doBorder.l0 k l1 t555 ([] : List (List Int)) t555 (t555.length : Int) 0)) = some r := h
 clear h
 obtain ⟨t555, A30, H⟩ := Option.bind_eq_some_iff.mp H
 have A3 := Aside0.mk A30
 clear A30
 have H' := Aside0.mk H
 clear H
 go_enter Try.func53, Try.ntmps53
 go_wp2_with (first | ((with_reducible refine gate_callee (f := 90) rfl ?_); refine goesL_ (some 11) rfl rfl Try.func90 (by kernel_rfl) rfl #[.int .i64 a0] rfl TA ?_; (with_reducible refine (spec_meBorder.calls k a0 t555 _ A3.out).mono ?_); rintro e w4 ⟨v556, rfl, ho0, hb⟩; refine ⟨_, rfl, ?_⟩; have n0_ := Aside0.mk (Kd.R_lower ho0 (below_size BB)); have n1_ := Aside0.mk (below_step BB hb); clear HB; have HO557 := n0_; have HB := n1_; clear n0_ n1_; (try clear hb); (try clear hb2); (try clear hk); (try clear hi); (try clear ho0); obtain ⟨Ao5, co5, eo5⟩ := Kd.R_slice HO557.out; subst eo5))
 go_loopg [6, 14] k (fun kq v6 v14 w' => ∃ (x6_1 : List (List Int)) (x14_1 : Int), v14 = .int .i64 x14_1 ∧ Aside0 (spec_doBorder.l0 kq l1 t555 x6_1 t555 (t555.length : Int) x14_1 = some r) ∧ Aside0 (kq ≤ k) ∧ Aside0 (Kd.R (Kd.int .i64) 3 w' w.heap.size (fun _ => True) (.slice Ao5 t555.length co5) t555) ∧ Aside0 (Kd.S (Kd.slice 3 (Kd.int .i64)) 24 w' w.heap.size (fun k_ => some k_ ≠ ((.slice Ao5 t555.length co5) : Value).ownBlock ∧ some k_ ≠ ((.slice Ao5 t555.length co5) : Value).ownBlock) v6 x6_1) ∧ Aside0 (Kd.R (Kd.int .i64) 3 w' w.heap.size (fun _ => True) (.slice Ao5 t555.length co5) t555) ∧ Aside0 (Below w.heap.size w w'))
 case atStart => exact ⟨(([] : List (List Int))), (0), RF, H', ⟨Nat.le_refl _⟩, ⟨KR HO557⟩, ⟨by first | exact Kd.S_nil _ _ _ _ _ | exact Kd.N_nil _ _ _ _ _ | exact Kd.V_nil _ _ _ _ _ | exact Kd.Q_nil _ _ _ _ _ | exact Kd.R_nil _ _ _ _ _⟩, ⟨KR HO557⟩, ⟨BB⟩⟩
 case round =>
  clear H'
  try clear c1
  try clear p2
  try clear c5
  obtain ⟨x6_1, x14_1, rfl, HA, HK1, HO_5, HO_6, HO_12, HB⟩ := hrel
  cases gk with
  | zero => exact absurd HA.out (by simp [spec_doBorder.l0])
  | succ k1 =>
   have H := HA.out
   clear HA
   simp only [spec_doBorder.l0] at H
   by_cases c6 : x14_1 < (t555.length : Int)
   ·rw [if_pos c6] at H
    have c6b0 : decide (x14_1 < (t555.length : Int)) = true := decide_eq_true c6
    clear c6
    by_cases c7 : 0 ≤ x14_1
    ·rw [if_pos c7] at H
     have c7b0 : decide (0 ≤ x14_1) = true := decide_eq_true c7
     clear c7
     by_cases c8 : x14_1 < (t555.length : Int)
     ·rw [if_pos c8] at H
      have c8b0 : decide (x14_1 < (t555.length : Int)) = true := decide_eq_true c8
      clear c8
      by_cases c9 : (t555.length : Int) = 0
      ·rw [if_pos c9] at H
       cases H
      ·rw [if_neg c9] at H
       have c9b0 : ((t555.length : Int) == 0) = false := beq_eq_false_iff_ne.mpr c9
       have c9b1 : ((t555.length : Int) != 0) = true := bne_iff_ne.mpr c9
       have c9b2 : ¬ (t555 = []) := fun h_ => c9 (by rw [h_]; rfl)
       obtain ⟨ji10, hji10⟩ : ∃ j_ : Int, (Int.tmod (wrap64 (x14_1 + 1)) (t555.length : Int)) = j_ := ⟨_, rfl⟩
       replace H : (if 0 ≤ (ji10) then (if (ji10) < (t555.length : Int) then ((spec_doDoor.f l1 (rd t555 x14_1) (rd t555 (ji10))).bind fun t560 => (if t560 = true then (if x6_1.length < 5864062014805 then (spec_doBorder.l0 k1 l1 t555 (x6_1 ++ [(([rd t555 x14_1, rd t555 (ji10)] : List Int))]) t555 (t555.length : Int) (wrap64 (x14_1 + 1))) else (none)) else (spec_doBorder.l0 k1 l1 t555 x6_1 t555 (t555.length : Int) (wrap64 (x14_1 + 1))))) else (none)) else (none)) = some r := by first | (rw [hji10] at H; exact H) | (simp only [hji10] at H ⊢; exact H)
       by_cases c11 : 0 ≤ (ji10)
       ·rw [if_pos c11] at H
        have c11b0 : decide (0 ≤ (ji10)) = true := decide_eq_true c11
        clear c11
        by_cases c12 : (ji10) < (t555.length : Int)
        ·rw [if_pos c12] at H
         have c12b0 : decide ((ji10) < (t555.length : Int)) = true := decide_eq_true c12
         clear c12
         obtain ⟨t560, A130, H⟩ := Option.bind_eq_some_iff.mp H
         have A13 := Aside0.mk A130
         clear A130
         by_cases c14 : t560 = true
         ·subst c14
          replace H := IP H
          obtain ⟨y561, hy561⟩ : ∃ y_ : List Int, y_ = (([rd t555 x14_1, rd t555 (ji10)] : List Int)) := ⟨_, rfl⟩
          replace H : (if x6_1.length < 5864062014805 then (spec_doBorder.l0 k1 l1 t555 (x6_1 ++ [y561]) t555 (t555.length : Int) (wrap64 (x14_1 + 1))) else (none)) = some r := HY H hy561
          have Ny561 := Aside0.mk hy561
          clear hy561
          by_cases c15 : x6_1.length < 5864062014805
          ·rw [if_pos c15] at H
           have LMc15 := Aside0.mk c15
           clear c15
           obtain ⟨y564, hy564⟩ : ∃ y_ : List (List Int), y_ = (x6_1 ++ [y561]) := ⟨_, rfl⟩
           replace H : (spec_doBorder.l0 k1 l1 t555 y564 t555 (t555.length : Int) (wrap64 (x14_1 + 1))) = some r := HY H hy564
           have Ny564 := Aside0.mk hy564
           clear hy564
           have H' := Aside0.mk H
           clear H
           have p558 : 0 ≤ (x14_1 : Int) := of_decide_eq_true AS
           have q558 : x14_1 < (t555.length : Int) := of_decide_eq_true AS
           obtain ⟨ad558, e558, hx558_0⟩ := Kd.at_int (Kd.R_reads' HO_12.out).2.2 x14_1 p558 q558
           cases e558
           replace p558 := eq_true p558
           replace q558 := eq_true q558
           have p559 : 0 ≤ ((ji10) : Int) := of_decide_eq_true AS
           have q559 : (ji10) < (t555.length : Int) := of_decide_eq_true AS
           obtain ⟨ad559, e559, hx559_0⟩ := Kd.at_int (Kd.R_reads' HO_5.out).2.2 (ji10) p559 q559
           obtain rfl : ad558 = ad559 := (by injection e559)
           replace p559 := eq_true p559
           replace q559 := eq_true q559
           go_wp2_with (first | ((with_reducible refine gate_callee (f := 51) rfl ?_); refine goesL_ (some 30) rfl rfl Try.func51 (by kernel_rfl) rfl #[.slice A1 l1.length c1, .int .i64 (rd t555 x14_1), .int .i64 (rd t555 (ji10))] rfl (by (try simp only [List.map_toArray, List.map_cons, List.map_nil]); first | done | (simp only [hji10]; rfl) | rfl | (simp only [List.length_drop, List.length_take]; rfl)) ?_; (with_reducible refine (spec_doDoor.calls _ _ l1 (rd t555 x14_1) (rd t555 (ji10)) true _ ?side1 ?side2 A13.out).mono ?_); (case side1 => exact CW (Kd.C_below HR1.out HB.out)); (case side2 => exact HC1.out); rintro e w' ⟨rfl, ⟨nd, rfl⟩⟩; refine ⟨_, rfl, ?_⟩) | ((with_reducible refine gate_dst (N := 34) rfl ?_); refine Kd.R_lit (Kd.int .i64) _ 3 ?hg (N := 34) ?hd (xs := ([rd t555 x14_1, rd t555 (ji10)] : List Int)) (inner := [.int .i64 (rd t555 x14_1), .int .i64 (rd t555 (ji10))]) (ok := fun _ => True) (okp := fun _ => True) ?hr ?hp (fun _ hk => hk) trivial (Below.refl _ _) (Nat.le_refl _) (by simp) ?_; (case hd => rfl); (case hg => rfl); (case hr => exact GS); (case hp => exact (Reps.one (show Kd.M (Kd.int .i64) _ _ _ (rd t555 x14_1) [.int .i64 (rd t555 x14_1)] from rfl) (Reps.one (show Kd.M (Kd.int .i64) _ _ _ (rd t555 (ji10)) [.int .i64 (rd t555 (ji10))] from rfl) (Reps.none _ _)))); intro v562 w16 ho17 hb hg_ hnew_; clear hg_ hnew_; (first | rw [← Ny561.out] at ho17 | (simp only [Int.reduceToNat] at ho17; rw [← Ny561.out] at ho17)); have n0_ := Aside0.mk (Kd.R_elder' (KR HO_5) (Kd.R_base ho17) hb); have n1_ := Aside0.mk (Kd.S_elder' (KS HO_6) (Kd.R_base ho17) hb); have n2_ := Aside0.mk (Kd.R_elder' (KR HO_12) (Kd.R_base ho17) hb); have n3_ := Aside0.mk (Kd.R_lower (Kd.R_new' (Kd.R_new' ho17 (Kd.R_lt (KR HO_5))) (Kd.R_lt (KR HO_12))) (below_size BB)); have n4_ := Aside0.mk (below_step BB hb); clear HO_5; clear HO_6; clear HO_12; clear HB; have HO_5 := n0_; have HO_6 := n1_; have HO_12 := n2_; have HO563 := n3_; have HB := n4_; clear n0_ n1_ n2_ n3_ n4_; clear hb ho17; obtain ⟨Ao19, co19, eo19⟩ := Kd.R_slice HO563.out; subst eo19) | ((with_reducible refine gate_builtin (b := .append) (xs := #[.tmp 31, .tmp 35]) rfl ?_); at_builtin; refine Kd.S_append (Kd.slice 3 (Kd.int .i64)) (w0 := w) w.heap.size rfl (.tmp 31) (.tmp 35) 27 24 (.slice none 0 0) 24 rfl Try.underlying27 info24 rfl (by decide) (by omega) u6 x6_1 y561 [.slice Ao19 y561.length co19] (fun k_ => some k_ ≠ (.slice (some ad558) t555.length co5 : Value).ownBlock ∧ some k_ ≠ (.slice (some ad558) t555.length co5 : Value).ownBlock) (fun k_ => some k_ = (.slice Ao19 y561.length co19 : Value).ownBlock) rfl rfl ?aP (fun k_ hk_ => ((Kd.R_mono (ok' := fun k_ => ((fun k_ => some k_ ≠ (.slice (some ad558) t555.length co5 : Value).ownBlock ∧ some k_ ≠ (.slice (some ad558) t555.length co5 : Value).ownBlock)) k_ ∧ some k_ ≠ (u6 : Value).ownBlock) (Kd.R_apart' (HO563.out) (Kd.S_typed HO_6.out) (by decide)) (fun k_ hk => ⟨⟨hk.1.1.2, hk.1.2⟩, hk.2⟩))).1 k_ hk_.symm) ?aF ?aO ?aB ?aS ?aL ?_; (case aP => exact Kd.M_row (Kd.R_mono (Kd.R_tight rfl (Kd.R_mono (ok' := fun k_ => ((fun k_ => some k_ ≠ (.slice (some ad558) t555.length co5 : Value).ownBlock ∧ some k_ ≠ (.slice (some ad558) t555.length co5 : Value).ownBlock)) k_ ∧ some k_ ≠ (u6 : Value).ownBlock) (Kd.R_apart' (HO563.out) (Kd.S_typed HO_6.out) (by decide)) (fun k_ hk => ⟨⟨hk.1.1.2, hk.1.2⟩, hk.2⟩))) (fun _ h_ => h_))); (case aB => exact BB); (case aF => exact (fun k_ hk => ⟨Kd.fresh' (Kd.R_lt (KR HO_5)) k_ hk, Kd.fresh' (Kd.R_lt (KR HO_12)) k_ hk⟩)); (case aO => exact (by (with_reducible repeat (first | apply Kd.S_alloc | apply Kd.S_drewN | apply Kd.S_drew)); exact Kd.S_mono HO_6.out (fun k_ hk => ⟨⟨hk.1.1, hk.1.2⟩, fun e_ => hk.2 e_⟩))); (case aS => exact (below_size BB)); (case aL => have := LMc15.out; omega); intro v565 w18 ho hb hg hat; rw [← Ny564.out] at ho; have n0_ := Aside0.mk (Kd.R_over' (KR HO_5) (Kd.S_typed (KS HO_6)) (by decide) hg); have n1_ := Aside0.mk (Kd.R_over' (KR HO_12) (Kd.S_typed (KS HO_6)) (by decide) hg); have n2_ := Aside0.mk (hb); have n3_ := Aside0.mk (ho); clear HO_5; clear HO_12; clear HB; clear HO_6; clear HO563; have HO_5 := n0_; have HO_12 := n1_; have HB := n2_; have HO566 := n3_; clear n0_ n1_ n2_ n3_; clear ho hb hg hat))
           go_roundg k1
           case measure => have := HK1.out; omega
           case rel => exact ⟨(y564), (wrap64 (x14_1 + 1)), RF, H', ⟨by have := HK1.out; omega⟩, ⟨by (with_reducible repeat (first | apply Kd.R_alloc | apply Kd.R_drewN | apply Kd.R_drew)); exact Kd.R_mono HO_5.out (fun _ hk => trivial)⟩, ⟨KS HO566⟩, ⟨by (with_reducible repeat (first | apply Kd.R_alloc | apply Kd.R_drewN | apply Kd.R_drew)); exact Kd.R_mono HO_12.out (fun _ hk => trivial)⟩, ⟨BB⟩⟩
          ·rw [if_neg c15] at H
           cases H
         ·replace c14 := Bool.eq_false_iff.mpr c14
          subst c14
          replace H := IN H
          have H' := Aside0.mk H
          clear H
          have p558 : 0 ≤ (x14_1 : Int) := of_decide_eq_true AS
          have q558 : x14_1 < (t555.length : Int) := of_decide_eq_true AS
          obtain ⟨ad558, e558, hx558_0⟩ := Kd.at_int (Kd.R_reads' HO_12.out).2.2 x14_1 p558 q558
          cases e558
          replace p558 := eq_true p558
          replace q558 := eq_true q558
          have p559 : 0 ≤ ((ji10) : Int) := of_decide_eq_true AS
          have q559 : (ji10) < (t555.length : Int) := of_decide_eq_true AS
          obtain ⟨ad559, e559, hx559_0⟩ := Kd.at_int (Kd.R_reads' HO_5.out).2.2 (ji10) p559 q559
          obtain rfl : ad558 = ad559 := (by injection e559)
          replace p559 := eq_true p559
          replace q559 := eq_true q559
          go_wp2_with (first | ((with_reducible refine gate_callee (f := 51) rfl ?_); refine goesL_ (some 30) rfl rfl Try.func51 (by kernel_rfl) rfl #[.slice A1 l1.length c1, .int .i64 (rd t555 x14_1), .int .i64 (rd t555 (ji10))] rfl (by (try simp only [List.map_toArray, List.map_cons, List.map_nil]); first | done | (simp only [hji10]; rfl) | rfl | (simp only [List.length_drop, List.length_take]; rfl)) ?_; (with_reducible refine (spec_doDoor.calls _ _ l1 (rd t555 x14_1) (rd t555 (ji10)) false _ ?side1 ?side2 A13.out).mono ?_); (case side1 => exact CW (Kd.C_below HR1.out HB.out)); (case side2 => exact HC1.out); rintro e w' ⟨rfl, ⟨nd, rfl⟩⟩; refine ⟨_, rfl, ?_⟩))
          go_roundg k1
          case measure => have := HK1.out; omega
          case rel => exact ⟨(x6_1), (wrap64 (x14_1 + 1)), RF, H', ⟨by have := HK1.out; omega⟩, ⟨KR HO_5⟩, ⟨KS HO_6⟩, ⟨KR HO_12⟩, ⟨BB⟩⟩
        ·rw [if_neg c12] at H
         cases H
       ·rw [if_neg c11] at H
        cases H
     ·rw [if_neg c8] at H
      cases H
    ·rw [if_neg c7] at H
     cases H
   ·rw [if_neg c6] at H
    have c6b0 : decide (x14_1 < (t555.length : Int)) = false := decide_eq_false c6
    clear c6
    obtain rfl := Option.some.inj H
    go_wp2
    go_ret
    exact ⟨_, RE, by (with_reducible repeat (first | apply Kd.S_alloc | apply Kd.S_drewN | apply Kd.S_drew)); exact Kd.S_mono HO_6.out (fun _ hk => trivial), BB⟩

/-! ### spec_BorderDoors: function 17 -/
def spec_BorderDoors.f (k : Nat) (a0 : Int) (l1 : List Int) : Option ((List (List Int)) × Bool) := (spec_meLabels.f k a0 l1).bind fun t567 => (if t567 = true then ((spec_doBorder.f k a0 l1).bind fun t568 => (some (t568, true))) else (some (([] : List (List Int)), false)))
theorem spec_BorderDoors.mono : ∀ a0 a1 k, LeO (spec_BorderDoors.f k a0 a1) (spec_BorderDoors.f (k + 1) a0 a1) := by
 intro a0 a1 k
 unfold spec_BorderDoors.f
 repeat' first
   | with_reducible first | exact spec_doBorder.mono _ _ _ | exact spec_meLabels.mono _ _ _ | exact LeO.refl _ | exact LeO.none _ | refine LeO.ite ?_ ?_ | refine LeO.bind ?_ (fun _ => ?_)
   | exact LeO.none _ | refine LeO.ite ?_ ?_ | refine LeO.bind ?_ (fun _ => ?_)
theorem spec_BorderDoors.calls (k : Nat) (a0 : Int) (A1 : Option Addr) (c1 : Nat) (l1 : List Int) (r1 : List (List Int)) (r2 : Bool) (w : World) (hr1 : Kd.C (Kd.int .i64) w A1 l1.length l1) (hc1 : l1.length ≤ c1) (h : spec_BorderDoors.f k a0 l1 = some (r1, r2)) :
  Calls Try.prog 17 #[.int .i64 a0, .slice A1 l1.length c1] w fun e w' => ∃ v0_ : Value, e = .returned (.tuple #[v0_, .bool r2]) ∧ Kd.S (Kd.slice 3 (Kd.int .i64)) 24 w' w.heap.size (fun _ => True) v0_ r1 ∧ Below w.heap.size w w' := by
 have HR1 := Aside0.mk hr1
 have HC1 := Aside0.mk hc1
 clear hr1 hc1
 have HB := Aside0.mk (Below.refl w.heap.size w)
 have H : ((spec_meLabels.f k a0 l1).bind fun t567 => (if t567 = true then ((spec_doBorder.f k a0 l1).bind fun t568 => (some (t568, true))) else (some (([] : List (List Int)), false)))) = some (r1, r2) := h
 clear h
 obtain ⟨t567, A30, H⟩ := Option.bind_eq_some_iff.mp H
 have A3 := Aside0.mk A30
 clear A30
 by_cases c4 : t567 = true
 ·subst c4
  replace H := IP H
  obtain ⟨t568, A50, H⟩ := Option.bind_eq_some_iff.mp H
  have A5 := Aside0.mk A50
  clear A50
  simp only [Option.some.injEq, Prod.mk.injEq] at H
  obtain ⟨rfl, rfl⟩ := H
  go_enter Try.func17, Try.ntmps17
  go_wp2_with (first | ((with_reducible refine gate_callee (f := 49) rfl ?_); refine goesL_ (some 8) rfl rfl Try.func49 (by kernel_rfl) rfl #[.int .i64 a0, .slice A1 l1.length c1] rfl TA ?_; (with_reducible refine (spec_meLabels.calls k a0 _ _ l1 true _ ?side1 ?side2 A3.out).mono ?_); (case side1 => exact CW HR1.out); (case side2 => exact HC1.out); rintro e w' ⟨rfl, ⟨nd, rfl⟩⟩; refine ⟨_, rfl, ?_⟩) | ((with_reducible refine gate_callee (f := 53) rfl ?_); refine goesL_ (some 12) rfl rfl Try.func53 (by kernel_rfl) rfl #[.int .i64 a0, .slice A1 l1.length c1] rfl TA ?_; (with_reducible refine (spec_doBorder.calls k a0 _ _ l1 t568 _ ?side1 ?side2 A5.out).mono ?_); (case side1 => exact CW HR1.out); (case side2 => exact HC1.out); rintro e w6 ⟨v569, rfl, ho0, hb⟩; refine ⟨_, rfl, ?_⟩; have n0_ := Aside0.mk (Kd.S_lower ho0 (below_size BB)); have n1_ := Aside0.mk (below_step BB hb); clear HB; have HO570 := n0_; have HB := n1_; clear n0_ n1_; (try clear hb); (try clear hb2); (try clear hk); (try clear hi); (try clear ho0)))
  go_ret2
  exact ⟨_, RE, KS HO570, BB⟩
 ·replace c4 := Bool.eq_false_iff.mpr c4
  subst c4
  replace H := IN H
  simp only [Option.some.injEq, Prod.mk.injEq] at H
  obtain ⟨rfl, rfl⟩ := H
  go_enter Try.func17, Try.ntmps17
  go_wp2_with (first | ((with_reducible refine gate_callee (f := 49) rfl ?_); refine goesL_ (some 8) rfl rfl Try.func49 (by kernel_rfl) rfl #[.int .i64 a0, .slice A1 l1.length c1] rfl TA ?_; (with_reducible refine (spec_meLabels.calls k a0 _ _ l1 false _ ?side1 ?side2 A3.out).mono ?_); (case side1 => exact CW HR1.out); (case side2 => exact HC1.out); rintro e w' ⟨rfl, ⟨nd, rfl⟩⟩; refine ⟨_, rfl, ?_⟩))
  go_ret2
  exact ⟨_, RE, by first | exact Kd.S_nil _ _ _ _ _ | exact Kd.N_nil _ _ _ _ _ | exact Kd.V_nil _ _ _ _ _ | exact Kd.Q_nil _ _ _ _ _ | exact Kd.R_nil _ _ _ _ _, BB⟩

/-! ### spec_l1Cur_door: function 54 -/
def spec_l1Cur_door.j0 : Nat → Int → List Int → List (List Int) → Bool → List Int → Int → Int → Option (Int × List Int × Int × Int × Int × Int)
 | 0, _, _, _, _, _, _, _ => none
 | k + 1, x6, x7, x8, x33, x1000, x1001, x1002 => if x33 = true then ((spec_l1Cur_pick.f x1000 x1001 x1002 (x8.length : Int)).bind fun bt584 => (if 0 ≤ bt584.1 then (if bt584.1 < (x8.length : Int) then ((spec_l1Cur_pick.f x1000 bt584.2.1 bt584.2.2 2).bind fun bt588 => (if 0 ≤ bt588.1 then (if bt588.1 < ((rd_L2 x8 bt584.1).length : Int) then (if 0 ≤ (wrap64 (1 - bt588.1)) then (if (wrap64 (1 - bt588.1)) < ((rd_L2 x8 bt584.1).length : Int) then (some (x6, x7, rd (rd_L2 x8 bt584.1) bt588.1, rd (rd_L2 x8 bt584.1) (wrap64 (1 - bt588.1)), bt588.2.1, bt588.2.2)) else (none)) else (none)) else (none)) else (none))) else (none)) else (none))) else ((spec_l1Cur_pick.f x1000 x1001 x1002 (x7.length : Int)).bind fun bt593 => ((spec_l1Cur_among.f x1000 bt593.2.1 bt593.2.2 (([1, 2, 3, (-1), 0] : List Int))).bind fun bt599 => (some (x6, x7, bt593.1, wrap64 (bt593.1 + bt599.1), bt599.2.1, bt599.2.2))))
def spec_l1Cur_door.f (k : Nat) (s0_0 : List Int) (s0_1 : Int) (s0_2 : Int) : Option (Int × List Int × Int × Int × Int × Int) := (spec_l1Cur_anyLabels.f k s0_0 s0_1 s0_2 4).bind fun bt571 => ((spec_meLabels.f k bt571.1 bt571.2.1).bind fun t577 => (if t577 = true then ((spec_doBorder.f k bt571.1 bt571.2.1).bind fun t578 => (if (t578.length : Int) > 0 then ((spec_l1Cur_one.f s0_0 bt571.2.2.1 bt571.2.2.2 4).bind fun bt581 => (spec_l1Cur_door.j0 k bt571.1 bt571.2.1 t578 (!bt581.1) s0_0 bt581.2.1 bt581.2.2)) else (spec_l1Cur_door.j0 k bt571.1 bt571.2.1 t578 false s0_0 bt571.2.2.1 bt571.2.2.2))) else (some (bt571.1, bt571.2.1, 0, 1, bt571.2.2.1, bt571.2.2.2))))
theorem spec_l1Cur_door.mono_l : ∀ k, (∀ y0 y1 y2 y3 y4 y5 y6, LeO (spec_l1Cur_door.j0 k y0 y1 y2 y3 y4 y5 y6) (spec_l1Cur_door.j0 (k + 1) y0 y1 y2 y3 y4 y5 y6))
 | 0 => fun _ _ _ _ _ _ _ r h => by simp [spec_l1Cur_door.j0] at h
 | k + 1 => by
  have ih0 := spec_l1Cur_door.mono_l k
  ·intro y0 y1 y2 y3 y4 y5 y6
   unfold spec_l1Cur_door.j0
   repeat' first
   | with_reducible first | exact ih0 _ _ _ _ _ _ _ | exact spec_doBorder.mono _ _ _ | exact spec_l1Cur_anyLabels.mono _ _ _ _ _ | exact spec_meLabels.mono _ _ _ | exact LeO.refl _ | exact LeO.none _ | refine LeO.ite ?_ ?_ | refine LeO.bind ?_ (fun _ => ?_)
   | exact LeO.none _ | refine LeO.ite ?_ ?_ | refine LeO.bind ?_ (fun _ => ?_)
theorem spec_l1Cur_door.mono : ∀ a0 a1 a2 k, LeO (spec_l1Cur_door.f k a0 a1 a2) (spec_l1Cur_door.f (k + 1) a0 a1 a2) := by
 intro a0 a1 a2 k
 have ih0 := spec_l1Cur_door.mono_l k
 unfold spec_l1Cur_door.f
 repeat' first
   | with_reducible first | exact ih0 _ _ _ _ _ _ _ | exact spec_doBorder.mono _ _ _ | exact spec_l1Cur_anyLabels.mono _ _ _ _ _ | exact spec_meLabels.mono _ _ _ | exact LeO.refl _ | exact LeO.none _ | refine LeO.ite ?_ ?_ | refine LeO.bind ?_ (fun _ => ?_)
   | exact LeO.none _ | refine LeO.ite ?_ ?_ | refine LeO.bind ?_ (fun _ => ?_)
theorem spec_l1Cur_door.calls (k : Nat) (g : Nat) (s0_0 : List Int) (s0_1 : Int) (s0_2 : Int) (r1 : Int) (r2 : List Int) (r3 : Int) (r4 : Int) (r5 : Int) (r6 : Int) (w0 w : World) (hI : IsS52 w0 w g s0_0 s0_1 s0_2) (hB : Below w0.heap.size w0 w) (h : spec_l1Cur_door.f k s0_0 s0_1 s0_2 = some (r1, r2, r3, r4, r5, r6)) :
  Calls Try.prog 54 #[.pointer (some ⟨g, 0, none⟩)] w fun e w' => ∃ v1_ : Value, e = .returned (.tuple #[.int .i64 r1, v1_, .int .i64 r3, .int .i64 r4]) ∧ Kd.R (Kd.int .i64) 3 w' w.heap.size (fun _ => True) v1_ r2 ∧ IsS52 w0 w' g s0_0 r5 r6 ∧ Below w0.heap.size w0 w' ∧ KeepBut w w' g none := by
 have HI0 := Aside0.mk hI
 have HK := Aside0.mk (KeepBut.refl w g none)
 have HL := Aside0.mk hB.size
 clear hI
 have HW0 := Aside0.mk hB.size
 have HB := Aside0.mk hB
 clear hB
 have H : ((spec_l1Cur_anyLabels.f k s0_0 s0_1 s0_2 4).bind fun bt571 => ((spec_meLabels.f k bt571.1 bt571.2.1).bind fun t577 => (if t577 = true then ((spec_doBorder.f k bt571.1 bt571.2.1).bind fun t578 => (if (t578.length : Int) > 0 then ((spec_l1Cur_one.f s0_0 bt571.2.2.1 bt571.2.2.2 4).bind fun bt581 => (spec_l1Cur_door.j0 k bt571.1 bt571.2.1 t578 (!bt581.1) s0_0 bt581.2.1 bt581.2.2)) else (spec_l1Cur_door.j0 k bt571.1 bt571.2.1 t578 false s0_0 bt571.2.2.1 bt571.2.2.2))) else (some (bt571.1, bt571.2.1, 0, 1, bt571.2.2.1, bt571.2.2.2))))) = some (r1, r2, r3, r4, r5, r6) := h
 clear h
 obtain ⟨⟨t571, t572, t575, t576⟩, A20, H⟩ := Option.bind_eq_some_iff.mp H
 replace H : ((spec_meLabels.f k t571 t572).bind fun t577 => (if t577 = true then ((spec_doBorder.f k t571 t572).bind fun t578 => (if (t578.length : Int) > 0 then ((spec_l1Cur_one.f s0_0 t575 t576 4).bind fun bt581 => (spec_l1Cur_door.j0 k t571 t572 t578 (!bt581.1) s0_0 bt581.2.1 bt581.2.2)) else (spec_l1Cur_door.j0 k t571 t572 t578 false s0_0 t575 t576))) else (some (t571, t572, 0, 1, t575, t576)))) = some (r1, r2, r3, r4, r5, r6) := H
 have A2 := Aside0.mk A20
 clear A20
 obtain ⟨t577, A30, H⟩ := Option.bind_eq_some_iff.mp H
 have A3 := Aside0.mk A30
 clear A30
 by_cases c4 : t577 = true
 ·subst c4
  replace H := IP H
  obtain ⟨t578, A50, H⟩ := Option.bind_eq_some_iff.mp H
  have A5 := Aside0.mk A50
  clear A50
  have HC6 := Aside0.mk H
  clear H
  go_enter Try.func54, Try.ntmps54
  go_upto_region 5 with (first | (go_at_call 48; (with_reducible refine (spec_l1Cur_anyLabels.calls k g s0_0 s0_1 s0_2 4 t571 t572 t575 t576 w0 _ ?side1 ?side2 A2.out).mono ?_); (case side1 => exact AHI); (case side2 => exact AHB); rintro e w7 ⟨v573, rfl, ho0, hi, hb, hk⟩; have n0_ := Aside0.mk (Kd.R_lower ho0 (keep_size (w := w) (g := g) (row := none) AHK)); have n1_ := Aside0.mk (KeepBut.trans AHK hk (.inl rfl)); have n2_ := Aside0.mk (hb); have n3_ := Aside0.mk (hi); clear HK; clear HB; clear HI0; have HO574 := n0_; have HK := n1_; have HB := n2_; have HI0 := n3_; clear n0_ n1_ n2_ n3_; (try clear hb); (try clear hb2); (try clear hk); (try clear hi); (try clear ho0); obtain ⟨Ao8, co8, eo8⟩ := Kd.R_slice HO574.out; subst eo8) | (go_at_call 49; (with_reducible refine (spec_meLabels.calls k t571 _ _ t572 true _ ?side1 ?side2 A3.out).mono ?_); (case side1 => exact CW (Kd.R_reads' HO574.out).2.2); (case side2 => exact (Kd.R_reads' HO574.out).2.1); rintro e w' ⟨rfl, ⟨nd, rfl⟩⟩; (try first | exact ⟨rfl, _, World.drewN_drewN _ _ _⟩ | exact ⟨rfl, _, Eq.trans (World.drewN_drewN _ _ _) (congrArg (World.drewN _) (Nat.add_assoc _ _ _))⟩)) | (go_at_call 53; (with_reducible refine (spec_doBorder.calls k t571 _ _ t572 t578 _ ?side1 ?side2 A5.out).mono ?_); (case side1 => exact CW (Kd.R_reads' HO574.out).2.2); (case side2 => exact (Kd.R_reads' HO574.out).2.1); rintro e w9 ⟨v579, rfl, ho0, hb⟩; have n0_ := Aside0.mk (Kd.R_below (KR HO574) hb); have n1_ := Aside0.mk (Kd.S_lower (Kd.S_new' ho0 (Kd.R_lt (KR HO574))) (keep_size (w := w) (g := g) (row := none) AHK)); have n2_ := Aside0.mk (IsS52.below AHI hb); have n3_ := Aside0.mk (KeepBut.trans AHK (KeepBut.of_below hb g none) (.inl rfl)); have n4_ := Aside0.mk (below_step AHB hb); clear HO574; clear HI0; clear HK; clear HB; have HO574 := n0_; have HO580 := n1_; have HI0 := n2_; have HK := n3_; have HB := n4_; clear n0_ n1_ n2_ n3_ n4_; (try clear hb); (try clear hb2); (try clear hk); (try clear hi); (try clear ho0)))
  repeat (go_quiet (first | (go_at_call 48; (with_reducible refine (spec_l1Cur_anyLabels.calls k g s0_0 s0_1 s0_2 4 t571 t572 t575 t576 w0 _ ?side1 ?side2 A2.out).mono ?_); (case side1 => exact AHI); (case side2 => exact AHB); rintro e w7 ⟨v573, rfl, ho0, hi, hb, hk⟩; have n0_ := Aside0.mk (Kd.R_lower ho0 (keep_size (w := w) (g := g) (row := none) AHK)); have n1_ := Aside0.mk (KeepBut.trans AHK hk (.inl rfl)); have n2_ := Aside0.mk (hb); have n3_ := Aside0.mk (hi); clear HK; clear HB; clear HI0; have HO574 := n0_; have HK := n1_; have HB := n2_; have HI0 := n3_; clear n0_ n1_ n2_ n3_; (try clear hb); (try clear hb2); (try clear hk); (try clear hi); (try clear ho0); obtain ⟨Ao8, co8, eo8⟩ := Kd.R_slice HO574.out; subst eo8) | (go_at_call 49; (with_reducible refine (spec_meLabels.calls k t571 _ _ t572 true _ ?side1 ?side2 A3.out).mono ?_); (case side1 => exact CW (Kd.R_reads' HO574.out).2.2); (case side2 => exact (Kd.R_reads' HO574.out).2.1); rintro e w' ⟨rfl, ⟨nd, rfl⟩⟩; (try first | exact ⟨rfl, _, World.drewN_drewN _ _ _⟩ | exact ⟨rfl, _, Eq.trans (World.drewN_drewN _ _ _) (congrArg (World.drewN _) (Nat.add_assoc _ _ _))⟩)) | (go_at_call 53; (with_reducible refine (spec_doBorder.calls k t571 _ _ t572 t578 _ ?side1 ?side2 A5.out).mono ?_); (case side1 => exact CW (Kd.R_reads' HO574.out).2.2); (case side2 => exact (Kd.R_reads' HO574.out).2.1); rintro e w9 ⟨v579, rfl, ho0, hb⟩; have n0_ := Aside0.mk (Kd.R_below (KR HO574) hb); have n1_ := Aside0.mk (Kd.S_lower (Kd.S_new' ho0 (Kd.R_lt (KR HO574))) (keep_size (w := w) (g := g) (row := none) AHK)); have n2_ := Aside0.mk (IsS52.below AHI hb); have n3_ := Aside0.mk (KeepBut.trans AHK (KeepBut.of_below hb g none) (.inl rfl)); have n4_ := Aside0.mk (below_step AHB hb); clear HO574; clear HI0; clear HK; clear HB; have HO574 := n0_; have HO580 := n1_; have HI0 := n2_; have HK := n3_; have HB := n4_; clear n0_ n1_ n2_ n3_ n4_; (try clear hb); (try clear hb2); (try clear hk); (try clear hi); (try clear ho0))); go_upto_region 5 with (first | (go_at_call 48; (with_reducible refine (spec_l1Cur_anyLabels.calls k g s0_0 s0_1 s0_2 4 t571 t572 t575 t576 w0 _ ?side1 ?side2 A2.out).mono ?_); (case side1 => exact AHI); (case side2 => exact AHB); rintro e w7 ⟨v573, rfl, ho0, hi, hb, hk⟩; have n0_ := Aside0.mk (Kd.R_lower ho0 (keep_size (w := w) (g := g) (row := none) AHK)); have n1_ := Aside0.mk (KeepBut.trans AHK hk (.inl rfl)); have n2_ := Aside0.mk (hb); have n3_ := Aside0.mk (hi); clear HK; clear HB; clear HI0; have HO574 := n0_; have HK := n1_; have HB := n2_; have HI0 := n3_; clear n0_ n1_ n2_ n3_; (try clear hb); (try clear hb2); (try clear hk); (try clear hi); (try clear ho0); obtain ⟨Ao8, co8, eo8⟩ := Kd.R_slice HO574.out; subst eo8) | (go_at_call 49; (with_reducible refine (spec_meLabels.calls k t571 _ _ t572 true _ ?side1 ?side2 A3.out).mono ?_); (case side1 => exact CW (Kd.R_reads' HO574.out).2.2); (case side2 => exact (Kd.R_reads' HO574.out).2.1); rintro e w' ⟨rfl, ⟨nd, rfl⟩⟩; (try first | exact ⟨rfl, _, World.drewN_drewN _ _ _⟩ | exact ⟨rfl, _, Eq.trans (World.drewN_drewN _ _ _) (congrArg (World.drewN _) (Nat.add_assoc _ _ _))⟩)) | (go_at_call 53; (with_reducible refine (spec_doBorder.calls k t571 _ _ t572 t578 _ ?side1 ?side2 A5.out).mono ?_); (case side1 => exact CW (Kd.R_reads' HO574.out).2.2); (case side2 => exact (Kd.R_reads' HO574.out).2.1); rintro e w9 ⟨v579, rfl, ho0, hb⟩; have n0_ := Aside0.mk (Kd.R_below (KR HO574) hb); have n1_ := Aside0.mk (Kd.S_lower (Kd.S_new' ho0 (Kd.R_lt (KR HO574))) (keep_size (w := w) (g := g) (row := none) AHK)); have n2_ := Aside0.mk (IsS52.below AHI hb); have n3_ := Aside0.mk (KeepBut.trans AHK (KeepBut.of_below hb g none) (.inl rfl)); have n4_ := Aside0.mk (below_step AHB hb); clear HO574; clear HI0; clear HK; clear HB; have HO574 := n0_; have HO580 := n1_; have HI0 := n2_; have HK := n3_; have HB := n4_; clear n0_ n1_ n2_ n3_ n4_; (try clear hb); (try clear hb2); (try clear hk); (try clear hi); (try clear ho0))))
  (try simp only [Act.put, List.setIfInBounds_toArray, List.set_cons_zero, List.set_cons_succ])
  go_cut [33] (fun v33 wc => ∃ (kq : Nat) (x33_5 : Bool) (x1001_5 : Int) (x1002_5 : Int), v33 = .bool x33_5 ∧ Aside0 (spec_l1Cur_door.j0 kq t571 t572 t578 x33_5 s0_0 x1001_5 x1002_5 = some (r1, r2, r3, r4, r5, r6)) ∧ Aside0 (kq ≤ k) ∧ Aside0 (Kd.R (Kd.int .i64) 3 wc w.heap.size (fun _ => True) (.slice Ao8 t572.length co8) t572) ∧ Aside0 (Kd.S (Kd.slice 3 (Kd.int .i64)) 24 wc w.heap.size (fun k_ => some k_ ≠ ((.slice Ao8 t572.length co8) : Value).ownBlock) v579 t578) ∧ Aside0 (IsS52 w0 wc g s0_0 x1001_5 x1002_5) ∧ Aside0 (KeepBut w wc g none) ∧ Aside0 (Below w0.heap.size w0 wc))
  case first =>
   have H := HC6.out
   clear HC6
   by_cases c10 : (t578.length : Int) > 0
   ·rw [if_pos c10] at H
    have c10b0 : decide (0 < (t578.length : Int)) = true := decide_eq_true c10
    have c10b1 : decide (0 < t578.length) = true := decide_eq_true (by omega)
    clear c10
    (first | rw [c10b0] | (simp only [i64_w, i32_w]; rw [c10b0]) | skip)
    obtain ⟨⟨t581, t582, t583⟩, A110, H⟩ := Option.bind_eq_some_iff.mp H
    replace H : (spec_l1Cur_door.j0 k t571 t572 t578 (!t581) s0_0 t582 t583) = some (r1, r2, r3, r4, r5, r6) := H
    have A11 := Aside0.mk A110
    clear A110
    have H' := Aside0.mk H
    clear H
    obtain ⟨Ao12, co12, eo12⟩ := Kd.S_slice HO580.out
    subst eo12
    go_wp2_with (first | (go_at_call 71; (with_reducible refine (spec_l1Cur_one.calls g s0_0 t575 t576 4 t581 t582 t583 w0 _ ?side1 ?side2 A11.out).mono ?_); (case side1 => exact AHI); (case side2 => exact AHB); rintro e w13 ⟨rfl, hi, hb, hk⟩; have n0_ := Aside0.mk (Kd.R_mono (Kd.R_keep (IsS52.apart (show IsS52 w0 _ g s0_0 t575 t576 from AHI) (KR HO574) (by decide)) hk (fun _ h => h.2)) (fun _ h => h.1)); have n1_ := Aside0.mk (Kd.S_mono (Kd.S_keep (IsS52.apartS (show IsS52 w0 _ g s0_0 t575 t576 from AHI) (KS HO580) (by decide)) hk (fun _ h => h.2)) (fun _ h => h.1)); have n2_ := Aside0.mk (KeepBut.trans AHK hk (.inl rfl)); have n3_ := Aside0.mk (hb); have n4_ := Aside0.mk (hi); clear HO574; clear HO580; clear HK; clear HB; clear HI0; have HO574 := n0_; have HO580 := n1_; have HK := n2_; have HB := n3_; have HI0 := n4_; clear n0_ n1_ n2_ n3_ n4_; (try clear hb); (try clear hb2); (try clear hk); (try clear hi)))
    repeat (go_quiet (first | (go_at_call 71; (with_reducible refine (spec_l1Cur_one.calls g s0_0 t575 t576 4 t581 t582 t583 w0 _ ?side1 ?side2 A11.out).mono ?_); (case side1 => exact AHI); (case side2 => exact AHB); rintro e w13 ⟨rfl, hi, hb, hk⟩; have n0_ := Aside0.mk (Kd.R_mono (Kd.R_keep (IsS52.apart (show IsS52 w0 _ g s0_0 t575 t576 from AHI) (KR HO574) (by decide)) hk (fun _ h => h.2)) (fun _ h => h.1)); have n1_ := Aside0.mk (Kd.S_mono (Kd.S_keep (IsS52.apartS (show IsS52 w0 _ g s0_0 t575 t576 from AHI) (KS HO580) (by decide)) hk (fun _ h => h.2)) (fun _ h => h.1)); have n2_ := Aside0.mk (KeepBut.trans AHK hk (.inl rfl)); have n3_ := Aside0.mk (hb); have n4_ := Aside0.mk (hi); clear HO574; clear HO580; clear HK; clear HB; clear HI0; have HO574 := n0_; have HO580 := n1_; have HK := n2_; have HB := n3_; have HI0 := n4_; clear n0_ n1_ n2_ n3_ n4_; (try clear hb); (try clear hb2); (try clear hk); (try clear hi))); try go_wp2_with (first | (go_at_call 71; (with_reducible refine (spec_l1Cur_one.calls g s0_0 t575 t576 4 t581 t582 t583 w0 _ ?side1 ?side2 A11.out).mono ?_); (case side1 => exact AHI); (case side2 => exact AHB); rintro e w13 ⟨rfl, hi, hb, hk⟩; have n0_ := Aside0.mk (Kd.R_mono (Kd.R_keep (IsS52.apart (show IsS52 w0 _ g s0_0 t575 t576 from AHI) (KR HO574) (by decide)) hk (fun _ h => h.2)) (fun _ h => h.1)); have n1_ := Aside0.mk (Kd.S_mono (Kd.S_keep (IsS52.apartS (show IsS52 w0 _ g s0_0 t575 t576 from AHI) (KS HO580) (by decide)) hk (fun _ h => h.2)) (fun _ h => h.1)); have n2_ := Aside0.mk (KeepBut.trans AHK hk (.inl rfl)); have n3_ := Aside0.mk (hb); have n4_ := Aside0.mk (hi); clear HO574; clear HO580; clear HK; clear HB; clear HI0; have HO574 := n0_; have HO580 := n1_; have HK := n2_; have HB := n3_; have HI0 := n4_; clear n0_ n1_ n2_ n3_ n4_; (try clear hb); (try clear hb2); (try clear hk); (try clear hi))))
    go_meet
    case rel => exact ⟨_, (!t581), (t582), (t583), RF, H', ⟨by first | omega | exact Nat.le_refl _⟩, ⟨KR HO574⟩, ⟨by (with_reducible repeat (first | apply Kd.S_alloc | apply Kd.S_drewN | apply Kd.S_drew)); exact Kd.S_mono HO580.out (fun _ hk => hk.2)⟩, ⟨AHI⟩, ⟨AHK⟩, ⟨AHB⟩⟩
   ·rw [if_neg c10] at H
    have c10b0 : decide (0 < (t578.length : Int)) = false := decide_eq_false c10
    have c10b1 : decide (0 < t578.length) = false := decide_eq_false (by omega)
    clear c10
    (first | rw [c10b0] | (simp only [i64_w, i32_w]; rw [c10b0]) | skip)
    have H' := Aside0.mk H
    clear H
    obtain ⟨Ao14, co14, eo14⟩ := Kd.S_slice HO580.out
    subst eo14
    go_wp2
    repeat (go_quiet (fail); try go_wp2)
    go_meet
    case rel => exact ⟨_, (false), (t575), (t576), RF, H', ⟨by first | omega | exact Nat.le_refl _⟩, ⟨KR HO574⟩, ⟨by (with_reducible repeat (first | apply Kd.S_alloc | apply Kd.S_drewN | apply Kd.S_drew)); exact Kd.S_mono HO580.out (fun _ hk => hk.2)⟩, ⟨AHI⟩, ⟨AHK⟩, ⟨AHB⟩⟩
  case rest =>
   clear HC6
   try clear c1
   try clear p2
   try clear c4
   try clear c5
   try clear p6
   try clear c10
   try clear c10b0
   try clear c10b1
   obtain ⟨kq, x33_5, x1001_5, x1002_5, rfl, HA, HJ5, HO_7, HO_8, HI0, HK, HB⟩ := hcut
   cases kq with
   | zero => exact absurd HA.out (by simp [spec_l1Cur_door.j0])
   | succ kj5 =>
    have H := HA.out
    clear HA
    simp only [spec_l1Cur_door.j0] at H
    by_cases c15 : x33_5 = true
    ·subst c15
     replace H := IP H
     obtain ⟨⟨t584, t585, t586⟩, A160, H⟩ := Option.bind_eq_some_iff.mp H
     replace H : (if 0 ≤ t584 then (if t584 < (t578.length : Int) then ((spec_l1Cur_pick.f s0_0 t585 t586 2).bind fun bt588 => (if 0 ≤ bt588.1 then (if bt588.1 < ((rd_L2 t578 t584).length : Int) then (if 0 ≤ (wrap64 (1 - bt588.1)) then (if (wrap64 (1 - bt588.1)) < ((rd_L2 t578 t584).length : Int) then (some (t571, t572, rd (rd_L2 t578 t584) bt588.1, rd (rd_L2 t578 t584) (wrap64 (1 - bt588.1)), bt588.2.1, bt588.2.2)) else (none)) else (none)) else (none)) else (none))) else (none)) else (none)) = some (r1, r2, r3, r4, r5, r6) := H
     have A16 := Aside0.mk A160
     clear A160
     by_cases c17 : 0 ≤ t584
     ·rw [if_pos c17] at H
      have c17b0 : decide (0 ≤ t584) = true := decide_eq_true c17
      clear c17
      by_cases c18 : t584 < (t578.length : Int)
      ·rw [if_pos c18] at H
       have c18b0 : decide (t584 < (t578.length : Int)) = true := decide_eq_true c18
       clear c18
       obtain ⟨⟨t588, t589, t590⟩, A190, H⟩ := Option.bind_eq_some_iff.mp H
       replace H : (if 0 ≤ t588 then (if t588 < ((rd_L2 t578 t584).length : Int) then (if 0 ≤ (wrap64 (1 - t588)) then (if (wrap64 (1 - t588)) < ((rd_L2 t578 t584).length : Int) then (some (t571, t572, rd (rd_L2 t578 t584) t588, rd (rd_L2 t578 t584) (wrap64 (1 - t588)), t589, t590)) else (none)) else (none)) else (none)) else (none)) = some (r1, r2, r3, r4, r5, r6) := H
       have A19 := Aside0.mk A190
       clear A190
       by_cases c20 : 0 ≤ t588
       ·rw [if_pos c20] at H
        have c20b0 : decide (0 ≤ t588) = true := decide_eq_true c20
        clear c20
        by_cases c21 : t588 < ((rd_L2 t578 t584).length : Int)
        ·rw [if_pos c21] at H
         have c21b0 : decide (t588 < ((rd_L2 t578 t584).length : Int)) = true := decide_eq_true c21
         clear c21
         obtain ⟨ji22, hji22⟩ : ∃ j_ : Int, (wrap64 (1 - t588)) = j_ := ⟨_, rfl⟩
         replace H : (if 0 ≤ (ji22) then (if (ji22) < ((rd_L2 t578 t584).length : Int) then (some (t571, t572, rd (rd_L2 t578 t584) t588, rd (rd_L2 t578 t584) (ji22), t589, t590)) else (none)) else (none)) = some (r1, r2, r3, r4, r5, r6) := by first | (rw [hji22] at H; exact H) | (simp only [hji22] at H ⊢; exact H)
         (try rw [hji22] at A16)
         (try rw [hji22] at A19)
         have hji22w : (IntKind.i64.wrap (1 - t588)) = ji22 := (i64_w _).trans hji22
         by_cases c23 : 0 ≤ (ji22)
         ·rw [if_pos c23] at H
          have c23b0 : decide (0 ≤ (ji22)) = true := decide_eq_true c23
          clear c23
          by_cases c24 : (ji22) < ((rd_L2 t578 t584).length : Int)
          ·rw [if_pos c24] at H
           have c24b0 : decide ((ji22) < ((rd_L2 t578 t584).length : Int)) = true := decide_eq_true c24
           clear c24
           simp only [Option.some.injEq, Prod.mk.injEq] at H
           obtain ⟨rfl, rfl, rfl, rfl, rfl, rfl⟩ := H
           obtain ⟨Ao25, co25, eo25⟩ := Kd.S_slice HO_8.out
           subst eo25
           go_wp2_with (first | (go_at_call 72; (with_reducible refine (spec_l1Cur_pick.calls g s0_0 x1001_5 x1002_5 (t578.length : Int) t584 t585 t586 w0 _ ?side1 ?side2 A16.out).mono ?_); (case side1 => exact AHI); (case side2 => exact AHB); rintro e w26 ⟨rfl, hi, hb, hk⟩; have n0_ := Aside0.mk (Kd.R_mono (Kd.R_keep (IsS52.apart (show IsS52 w0 _ g s0_0 x1001_5 x1002_5 from AHI) (KR HO_7) (by decide)) hk (fun _ h => h.2)) (fun _ h => h.1)); have n1_ := Aside0.mk (Kd.S_mono (Kd.S_keep (IsS52.apartS (show IsS52 w0 _ g s0_0 x1001_5 x1002_5 from AHI) (KS HO_8) (by decide)) hk (fun _ h => h.2)) (fun _ h => h.1)); have n2_ := Aside0.mk (KeepBut.trans AHK hk (.inl rfl)); have n3_ := Aside0.mk (hb); have n4_ := Aside0.mk (hi); clear HO_7; clear HO_8; clear HK; clear HB; clear HI0; have HO_7 := n0_; have HO_8 := n1_; have HK := n2_; have HB := n3_; have HI0 := n4_; clear n0_ n1_ n2_ n3_ n4_; (try clear hb); (try clear hb2); (try clear hk); (try clear hi); have p587 : 0 ≤ (t584 : Int) := of_decide_eq_true AS; have q587 : t584 < (t578.length : Int) := of_decide_eq_true AS; obtain ⟨ad587, A587_0, c587_0, e587, hx587_0, hl587_0, hi587_0⟩ := at_L2 (Kd.S_reads' HO_8.out).2.2 t584 p587 q587; cases e587; obtain ⟨ce587, hce587, hMe587, hcc587⟩ := Kd.S_get HO_8.out [] t584 p587 (by first | exact q587 | exact of_decide_eq_true AS | (have e_ := (Kd.S_reads' HO_8.out).1; omega)); obtain ⟨ve587_0, rfl, ge587_0⟩ := hMe587; have hv587_0 := hcc587 0 _ rfl; rw [Nat.add_zero, show ((Kd.slice 3 (Kd.int .i64))).sz = 1 from rfl, Nat.mul_one] at hv587_0; replace hv587_0 := Option.some.inj (hv587_0.symm.trans hx587_0); rw [hv587_0] at ge587_0; have HL587_0 := Aside0.mk (show Kd.R (Kd.int .i64) 3 _ _ _ _ (rd_L2 t578 t584) from ge587_0); clear hv587_0 ge587_0; clear hcc587 hce587; have HR587_0 := Aside0.mk hi587_0; have HC587_0 := Aside0.mk hl587_0; clear hi587_0 hl587_0; replace p587 := eq_true p587; replace q587 := eq_true q587) | (go_at_call 72; (with_reducible refine (spec_l1Cur_pick.calls g s0_0 t585 t586 2 t588 t589 t590 w0 _ ?side1 ?side2 A19.out).mono ?_); (case side1 => exact AHI); (case side2 => exact AHB); rintro e w27 ⟨rfl, hi, hb, hk⟩; have n0_ := Aside0.mk (Kd.R_mono (Kd.R_keep (IsS52.apart (show IsS52 w0 _ g s0_0 t585 t586 from AHI) (KR HO_7) (by decide)) hk (fun _ h => h.2)) (fun _ h => h.1)); have n1_ := Aside0.mk (Kd.S_mono (Kd.S_keep (IsS52.apartS (show IsS52 w0 _ g s0_0 t585 t586 from AHI) (KS HO_8) (by decide)) hk (fun _ h => h.2)) (fun _ h => h.1)); have n2_ := Aside0.mk (Kd.R_mono (Kd.R_keep (IsS52.apart (show IsS52 w0 _ g s0_0 t585 t586 from AHI) (KR HL587_0) (by decide)) hk (fun _ h => h.2)) (fun _ h => h.1)); have n3_ := Aside0.mk (KeepBut.trans AHK hk (.inl rfl)); have n4_ := Aside0.mk (hb); have n5_ := Aside0.mk (hi); clear HO_7; clear HO_8; clear HL587_0; clear HK; clear HB; clear HI0; have HO_7 := n0_; have HO_8 := n1_; have HL587_0 := n2_; have HK := n3_; have HB := n4_; have HI0 := n5_; clear n0_ n1_ n2_ n3_ n4_ n5_; (try clear hb); (try clear hb2); (try clear hk); (try clear hi); have p591 : 0 ≤ (t588 : Int) := of_decide_eq_true AS; have q591 : t588 < ((rd_L2 t578 t584).length : Int) := of_decide_eq_true AS; obtain ⟨ad591, e591, hx591_0⟩ := Kd.at_int (Kd.R_reads' HL587_0.out).2.2 t588 p591 q591; cases e591; replace p591 := eq_true p591; replace q591 := eq_true q591; have p592 : 0 ≤ ((ji22) : Int) := of_decide_eq_true AS; have q592 : (ji22) < ((rd_L2 t578 t584).length : Int) := of_decide_eq_true AS; obtain ⟨ad592, e592, hx592_0⟩ := Kd.at_int (Kd.R_reads' HL587_0.out).2.2 (ji22) p592 q592; obtain rfl : ad591 = ad592 := (by injection e592); replace p592 := eq_true p592; replace q592 := eq_true q592))
           repeat (go_quiet (first | (go_at_call 72; (with_reducible refine (spec_l1Cur_pick.calls g s0_0 x1001_5 x1002_5 (t578.length : Int) t584 t585 t586 w0 _ ?side1 ?side2 A16.out).mono ?_); (case side1 => exact AHI); (case side2 => exact AHB); rintro e w26 ⟨rfl, hi, hb, hk⟩; have n0_ := Aside0.mk (Kd.R_mono (Kd.R_keep (IsS52.apart (show IsS52 w0 _ g s0_0 x1001_5 x1002_5 from AHI) (KR HO_7) (by decide)) hk (fun _ h => h.2)) (fun _ h => h.1)); have n1_ := Aside0.mk (Kd.S_mono (Kd.S_keep (IsS52.apartS (show IsS52 w0 _ g s0_0 x1001_5 x1002_5 from AHI) (KS HO_8) (by decide)) hk (fun _ h => h.2)) (fun _ h => h.1)); have n2_ := Aside0.mk (KeepBut.trans AHK hk (.inl rfl)); have n3_ := Aside0.mk (hb); have n4_ := Aside0.mk (hi); clear HO_7; clear HO_8; clear HK; clear HB; clear HI0; have HO_7 := n0_; have HO_8 := n1_; have HK := n2_; have HB := n3_; have HI0 := n4_; clear n0_ n1_ n2_ n3_ n4_; (try clear hb); (try clear hb2); (try clear hk); (try clear hi); have p587 : 0 ≤ (t584 : Int) := of_decide_eq_true AS; have q587 : t584 < (t578.length : Int) := of_decide_eq_true AS; obtain ⟨ad587, A587_0, c587_0, e587, hx587_0, hl587_0, hi587_0⟩ := at_L2 (Kd.S_reads' HO_8.out).2.2 t584 p587 q587; cases e587; obtain ⟨ce587, hce587, hMe587, hcc587⟩ := Kd.S_get HO_8.out [] t584 p587 (by first | exact q587 | exact of_decide_eq_true AS | (have e_ := (Kd.S_reads' HO_8.out).1; omega)); obtain ⟨ve587_0, rfl, ge587_0⟩ := hMe587; have hv587_0 := hcc587 0 _ rfl; rw [Nat.add_zero, show ((Kd.slice 3 (Kd.int .i64))).sz = 1 from rfl, Nat.mul_one] at hv587_0; replace hv587_0 := Option.some.inj (hv587_0.symm.trans hx587_0); rw [hv587_0] at ge587_0; have HL587_0 := Aside0.mk (show Kd.R (Kd.int .i64) 3 _ _ _ _ (rd_L2 t578 t584) from ge587_0); clear hv587_0 ge587_0; clear hcc587 hce587; have HR587_0 := Aside0.mk hi587_0; have HC587_0 := Aside0.mk hl587_0; clear hi587_0 hl587_0; replace p587 := eq_true p587; replace q587 := eq_true q587) | (go_at_call 72; (with_reducible refine (spec_l1Cur_pick.calls g s0_0 t585 t586 2 t588 t589 t590 w0 _ ?side1 ?side2 A19.out).mono ?_); (case side1 => exact AHI); (case side2 => exact AHB); rintro e w27 ⟨rfl, hi, hb, hk⟩; have n0_ := Aside0.mk (Kd.R_mono (Kd.R_keep (IsS52.apart (show IsS52 w0 _ g s0_0 t585 t586 from AHI) (KR HO_7) (by decide)) hk (fun _ h => h.2)) (fun _ h => h.1)); have n1_ := Aside0.mk (Kd.S_mono (Kd.S_keep (IsS52.apartS (show IsS52 w0 _ g s0_0 t585 t586 from AHI) (KS HO_8) (by decide)) hk (fun _ h => h.2)) (fun _ h => h.1)); have n2_ := Aside0.mk (Kd.R_mono (Kd.R_keep (IsS52.apart (show IsS52 w0 _ g s0_0 t585 t586 from AHI) (KR HL587_0) (by decide)) hk (fun _ h => h.2)) (fun _ h => h.1)); have n3_ := Aside0.mk (KeepBut.trans AHK hk (.inl rfl)); have n4_ := Aside0.mk (hb); have n5_ := Aside0.mk (hi); clear HO_7; clear HO_8; clear HL587_0; clear HK; clear HB; clear HI0; have HO_7 := n0_; have HO_8 := n1_; have HL587_0 := n2_; have HK := n3_; have HB := n4_; have HI0 := n5_; clear n0_ n1_ n2_ n3_ n4_ n5_; (try clear hb); (try clear hb2); (try clear hk); (try clear hi); have p591 : 0 ≤ (t588 : Int) := of_decide_eq_true AS; have q591 : t588 < ((rd_L2 t578 t584).length : Int) := of_decide_eq_true AS; obtain ⟨ad591, e591, hx591_0⟩ := Kd.at_int (Kd.R_reads' HL587_0.out).2.2 t588 p591 q591; cases e591; replace p591 := eq_true p591; replace q591 := eq_true q591; have p592 : 0 ≤ ((ji22) : Int) := of_decide_eq_true AS; have q592 : (ji22) < ((rd_L2 t578 t584).length : Int) := of_decide_eq_true AS; obtain ⟨ad592, e592, hx592_0⟩ := Kd.at_int (Kd.R_reads' HL587_0.out).2.2 (ji22) p592 q592; obtain rfl : ad591 = ad592 := (by injection e592); replace p592 := eq_true p592; replace q592 := eq_true q592)); try go_wp2_with (first | (go_at_call 72; (with_reducible refine (spec_l1Cur_pick.calls g s0_0 x1001_5 x1002_5 (t578.length : Int) t584 t585 t586 w0 _ ?side1 ?side2 A16.out).mono ?_); (case side1 => exact AHI); (case side2 => exact AHB); rintro e w26 ⟨rfl, hi, hb, hk⟩; have n0_ := Aside0.mk (Kd.R_mono (Kd.R_keep (IsS52.apart (show IsS52 w0 _ g s0_0 x1001_5 x1002_5 from AHI) (KR HO_7) (by decide)) hk (fun _ h => h.2)) (fun _ h => h.1)); have n1_ := Aside0.mk (Kd.S_mono (Kd.S_keep (IsS52.apartS (show IsS52 w0 _ g s0_0 x1001_5 x1002_5 from AHI) (KS HO_8) (by decide)) hk (fun _ h => h.2)) (fun _ h => h.1)); have n2_ := Aside0.mk (KeepBut.trans AHK hk (.inl rfl)); have n3_ := Aside0.mk (hb); have n4_ := Aside0.mk (hi); clear HO_7; clear HO_8; clear HK; clear HB; clear HI0; have HO_7 := n0_; have HO_8 := n1_; have HK := n2_; have HB := n3_; have HI0 := n4_; clear n0_ n1_ n2_ n3_ n4_; (try clear hb); (try clear hb2); (try clear hk); (try clear hi); have p587 : 0 ≤ (t584 : Int) := of_decide_eq_true AS; have q587 : t584 < (t578.length : Int) := of_decide_eq_true AS; obtain ⟨ad587, A587_0, c587_0, e587, hx587_0, hl587_0, hi587_0⟩ := at_L2 (Kd.S_reads' HO_8.out).2.2 t584 p587 q587; cases e587; obtain ⟨ce587, hce587, hMe587, hcc587⟩ := Kd.S_get HO_8.out [] t584 p587 (by first | exact q587 | exact of_decide_eq_true AS | (have e_ := (Kd.S_reads' HO_8.out).1; omega)); obtain ⟨ve587_0, rfl, ge587_0⟩ := hMe587; have hv587_0 := hcc587 0 _ rfl; rw [Nat.add_zero, show ((Kd.slice 3 (Kd.int .i64))).sz = 1 from rfl, Nat.mul_one] at hv587_0; replace hv587_0 := Option.some.inj (hv587_0.symm.trans hx587_0); rw [hv587_0] at ge587_0; have HL587_0 := Aside0.mk (show Kd.R (Kd.int .i64) 3 _ _ _ _ (rd_L2 t578 t584) from ge587_0); clear hv587_0 ge587_0; clear hcc587 hce587; have HR587_0 := Aside0.mk hi587_0; have HC587_0 := Aside0.mk hl587_0; clear hi587_0 hl587_0; replace p587 := eq_true p587; replace q587 := eq_true q587) | (go_at_call 72; (with_reducible refine (spec_l1Cur_pick.calls g s0_0 t585 t586 2 t588 t589 t590 w0 _ ?side1 ?side2 A19.out).mono ?_); (case side1 => exact AHI); (case side2 => exact AHB); rintro e w27 ⟨rfl, hi, hb, hk⟩; have n0_ := Aside0.mk (Kd.R_mono (Kd.R_keep (IsS52.apart (show IsS52 w0 _ g s0_0 t585 t586 from AHI) (KR HO_7) (by decide)) hk (fun _ h => h.2)) (fun _ h => h.1)); have n1_ := Aside0.mk (Kd.S_mono (Kd.S_keep (IsS52.apartS (show IsS52 w0 _ g s0_0 t585 t586 from AHI) (KS HO_8) (by decide)) hk (fun _ h => h.2)) (fun _ h => h.1)); have n2_ := Aside0.mk (Kd.R_mono (Kd.R_keep (IsS52.apart (show IsS52 w0 _ g s0_0 t585 t586 from AHI) (KR HL587_0) (by decide)) hk (fun _ h => h.2)) (fun _ h => h.1)); have n3_ := Aside0.mk (KeepBut.trans AHK hk (.inl rfl)); have n4_ := Aside0.mk (hb); have n5_ := Aside0.mk (hi); clear HO_7; clear HO_8; clear HL587_0; clear HK; clear HB; clear HI0; have HO_7 := n0_; have HO_8 := n1_; have HL587_0 := n2_; have HK := n3_; have HB := n4_; have HI0 := n5_; clear n0_ n1_ n2_ n3_ n4_ n5_; (try clear hb); (try clear hb2); (try clear hk); (try clear hi); have p591 : 0 ≤ (t588 : Int) := of_decide_eq_true AS; have q591 : t588 < ((rd_L2 t578 t584).length : Int) := of_decide_eq_true AS; obtain ⟨ad591, e591, hx591_0⟩ := Kd.at_int (Kd.R_reads' HL587_0.out).2.2 t588 p591 q591; cases e591; replace p591 := eq_true p591; replace q591 := eq_true q591; have p592 : 0 ≤ ((ji22) : Int) := of_decide_eq_true AS; have q592 : (ji22) < ((rd_L2 t578 t584).length : Int) := of_decide_eq_true AS; obtain ⟨ad592, e592, hx592_0⟩ := Kd.at_int (Kd.R_reads' HL587_0.out).2.2 (ji22) p592 q592; obtain rfl : ad591 = ad592 := (by injection e592); replace p592 := eq_true p592; replace q592 := eq_true q592)))
           refine bodyPost_ret (results_list (rs := [.tmp 2, .tmp 3, .tmp 4, .tmp 5]) rfl (by simp) (.tmp (.tmp (.tmp (.tmp .nil))))) rfl ?_
           exact ⟨_, by first | rfl | (simp [errW_none, errW_some] <;> rfl) | (simp only [← hji22]; first | rfl | (simp [errW_none, errW_some] <;> rfl)) | (simp [*, errW_none, errW_some] <;> rfl), KR HO_7, AHI, AHB, AHK⟩
          ·rw [if_neg c24] at H
           cases H
         ·rw [if_neg c23] at H
          cases H
        ·rw [if_neg c21] at H
         cases H
       ·rw [if_neg c20] at H
        cases H
      ·rw [if_neg c18] at H
       cases H
     ·rw [if_neg c17] at H
      cases H
    ·replace c15 := Bool.eq_false_iff.mpr c15
     subst c15
     replace H := IN H
     obtain ⟨⟨t593, t594, t595⟩, A280, H⟩ := Option.bind_eq_some_iff.mp H
     replace H : ((spec_l1Cur_among.f s0_0 t594 t595 (([1, 2, 3, (-1), 0] : List Int))).bind fun bt599 => (some (t571, t572, t593, wrap64 (t593 + bt599.1), bt599.2.1, bt599.2.2))) = some (r1, r2, r3, r4, r5, r6) := H
     have A28 := Aside0.mk A280
     clear A280
     obtain ⟨y596, hy596⟩ : ∃ y_ : List Int, y_ = (([1, 2, 3, (-1), 0] : List Int)) := ⟨_, rfl⟩
     replace H : ((spec_l1Cur_among.f s0_0 t594 t595 y596).bind fun bt599 => (some (t571, t572, t593, wrap64 (t593 + bt599.1), bt599.2.1, bt599.2.2))) = some (r1, r2, r3, r4, r5, r6) := HY H hy596
     have Ny596 := Aside0.mk hy596
     clear hy596
     obtain ⟨⟨t599, t600, t601⟩, A290, H⟩ := Option.bind_eq_some_iff.mp H
     replace H : (some (t571, t572, t593, wrap64 (t593 + t599), t600, t601)) = some (r1, r2, r3, r4, r5, r6) := H
     have A29 := Aside0.mk A290
     clear A290
     simp only [Option.some.injEq, Prod.mk.injEq] at H
     obtain ⟨rfl, rfl, rfl, rfl, rfl, rfl⟩ := H
     go_wp2_with (first | (go_at_call 72; (with_reducible refine (spec_l1Cur_pick.calls g s0_0 x1001_5 x1002_5 (t572.length : Int) t593 t594 t595 w0 _ ?side1 ?side2 A28.out).mono ?_); (case side1 => exact AHI); (case side2 => exact AHB); rintro e w30 ⟨rfl, hi, hb, hk⟩; have n0_ := Aside0.mk (Kd.R_mono (Kd.R_keep (IsS52.apart (show IsS52 w0 _ g s0_0 x1001_5 x1002_5 from AHI) (KR HO_7) (by decide)) hk (fun _ h => h.2)) (fun _ h => h.1)); have n1_ := Aside0.mk (Kd.S_mono (Kd.S_keep (IsS52.apartS (show IsS52 w0 _ g s0_0 x1001_5 x1002_5 from AHI) (KS HO_8) (by decide)) hk (fun _ h => h.2)) (fun _ h => h.1)); have n2_ := Aside0.mk (KeepBut.trans AHK hk (.inl rfl)); have n3_ := Aside0.mk (hb); have n4_ := Aside0.mk (hi); clear HO_7; clear HO_8; clear HK; clear HB; clear HI0; have HO_7 := n0_; have HO_8 := n1_; have HK := n2_; have HB := n3_; have HI0 := n4_; clear n0_ n1_ n2_ n3_ n4_; (try clear hb); (try clear hb2); (try clear hk); (try clear hi)) | ((with_reducible refine gate_dst (N := 63) rfl ?_); refine Kd.R_lit (Kd.int .i64) _ 3 ?hg (N := 63) ?hd (xs := ([1, 2, 3, (-1), 0] : List Int)) (inner := [.int .i64 1, .int .i64 2, .int .i64 3, .int .i64 (-1), .int .i64 0]) (ok := fun _ => True) (okp := fun _ => True) ?hr ?hp (fun _ hk => hk) trivial (Below.refl _ _) (Nat.le_refl _) (by simp) ?_; (case hd => rfl); (case hg => rfl); (case hr => exact GS); (case hp => exact (Reps.one (show Kd.M (Kd.int .i64) _ _ _ 1 [.int .i64 1] from rfl) (Reps.one (show Kd.M (Kd.int .i64) _ _ _ 2 [.int .i64 2] from rfl) (Reps.one (show Kd.M (Kd.int .i64) _ _ _ 3 [.int .i64 3] from rfl) (Reps.one (show Kd.M (Kd.int .i64) _ _ _ (-1) [.int .i64 (-1)] from rfl) (Reps.one (show Kd.M (Kd.int .i64) _ _ _ 0 [.int .i64 0] from rfl) (Reps.none _ _))))))); intro v597 w31 ho32 hb hg_ hnew_; clear hg_ hnew_; (first | rw [← Ny596.out] at ho32 | (simp only [Int.reduceToNat] at ho32; rw [← Ny596.out] at ho32)); have n0_ := Aside0.mk (Kd.R_elder' (KR HO_7) (Kd.R_base ho32) hb); have n1_ := Aside0.mk (Kd.S_elder' (KS HO_8) (Kd.R_base ho32) hb); have n2_ := Aside0.mk (Kd.R_lower (Kd.R_new' ho32 (Kd.R_lt (KR HO_7))) (keep_size (w := w) (g := g) (row := none) AHK)); have n3_ := Aside0.mk (IsS52.below AHI hb); have n4_ := Aside0.mk (KeepBut.trans AHK (KeepBut.of_below hb g none) (.inl rfl)); have n5_ := Aside0.mk (below_step AHB hb); clear HO_7; clear HO_8; clear HI0; clear HK; clear HB; have HO_7 := n0_; have HO_8 := n1_; have HO598 := n2_; have HI0 := n3_; have HK := n4_; have HB := n5_; clear n0_ n1_ n2_ n3_ n4_ n5_; clear hb ho32; obtain ⟨Ao33, co33, eo33⟩ := Kd.R_slice HO598.out; subst eo33) | (go_at_call 91; (with_reducible refine (spec_l1Cur_among.calls g s0_0 t594 t595 _ _ y596 t599 t600 t601 w0 _ ?side1 ?side2 ?side3 ?side4 ?side5 A29.out).mono ?_); (case side1 => exact AHI); (case side2 => exact AHB); (case side3 => exact CW (Kd.R_reads' HO598.out).2.2); (case side4 => exact (Kd.R_reads' HO598.out).2.1); (case side5 => exact far_slice (IsS52.own_ne HI0.out HO598.out (by decide))); rintro e w34 ⟨rfl, hi, hb, hk⟩; have n0_ := Aside0.mk (Kd.R_mono (Kd.R_keep (IsS52.apart (show IsS52 w0 _ g s0_0 t594 t595 from AHI) (KR HO_7) (by decide)) hk (fun _ h => h.2)) (fun _ h => h.1)); have n1_ := Aside0.mk (Kd.S_mono (Kd.S_keep (IsS52.apartS (show IsS52 w0 _ g s0_0 t594 t595 from AHI) (KS HO_8) (by decide)) hk (fun _ h => h.2)) (fun _ h => h.1)); have n2_ := Aside0.mk (Kd.R_mono (Kd.R_keep (IsS52.apart (show IsS52 w0 _ g s0_0 t594 t595 from AHI) (KR HO598) (by decide)) hk (fun _ h => h.2)) (fun _ h => h.1)); have n3_ := Aside0.mk (KeepBut.trans AHK hk (.inl rfl)); have n4_ := Aside0.mk (hb); have n5_ := Aside0.mk (hi); clear HO_7; clear HO_8; clear HO598; clear HK; clear HB; clear HI0; have HO_7 := n0_; have HO_8 := n1_; have HO598 := n2_; have HK := n3_; have HB := n4_; have HI0 := n5_; clear n0_ n1_ n2_ n3_ n4_ n5_; (try clear hb); (try clear hb2); (try clear hk); (try clear hi)))
     repeat (go_quiet (first | (go_at_call 72; (with_reducible refine (spec_l1Cur_pick.calls g s0_0 x1001_5 x1002_5 (t572.length : Int) t593 t594 t595 w0 _ ?side1 ?side2 A28.out).mono ?_); (case side1 => exact AHI); (case side2 => exact AHB); rintro e w30 ⟨rfl, hi, hb, hk⟩; have n0_ := Aside0.mk (Kd.R_mono (Kd.R_keep (IsS52.apart (show IsS52 w0 _ g s0_0 x1001_5 x1002_5 from AHI) (KR HO_7) (by decide)) hk (fun _ h => h.2)) (fun _ h => h.1)); have n1_ := Aside0.mk (Kd.S_mono (Kd.S_keep (IsS52.apartS (show IsS52 w0 _ g s0_0 x1001_5 x1002_5 from AHI) (KS HO_8) (by decide)) hk (fun _ h => h.2)) (fun _ h => h.1)); have n2_ := Aside0.mk (KeepBut.trans AHK hk (.inl rfl)); have n3_ := Aside0.mk (hb); have n4_ := Aside0.mk (hi); clear HO_7; clear HO_8; clear HK; clear HB; clear HI0; have HO_7 := n0_; have HO_8 := n1_; have HK := n2_; have HB := n3_; have HI0 := n4_; clear n0_ n1_ n2_ n3_ n4_; (try clear hb); (try clear hb2); (try clear hk); (try clear hi)) | ((with_reducible refine gate_dst (N := 63) rfl ?_); refine Kd.R_lit (Kd.int .i64) _ 3 ?hg (N := 63) ?hd (xs := ([1, 2, 3, (-1), 0] : List Int)) (inner := [.int .i64 1, .int .i64 2, .int .i64 3, .int .i64 (-1), .int .i64 0]) (ok := fun _ => True) (okp := fun _ => True) ?hr ?hp (fun _ hk => hk) trivial (Below.refl _ _) (Nat.le_refl _) (by simp) ?_; (case hd => rfl); (case hg => rfl); (case hr => exact GS); (case hp => exact (Reps.one (show Kd.M (Kd.int .i64) _ _ _ 1 [.int .i64 1] from rfl) (Reps.one (show Kd.M (Kd.int .i64) _ _ _ 2 [.int .i64 2] from rfl) (Reps.one (show Kd.M (Kd.int .i64) _ _ _ 3 [.int .i64 3] from rfl) (Reps.one (show Kd.M (Kd.int .i64) _ _ _ (-1) [.int .i64 (-1)] from rfl) (Reps.one (show Kd.M (Kd.int .i64) _ _ _ 0 [.int .i64 0] from rfl) (Reps.none _ _))))))); intro v597 w31 ho32 hb hg_ hnew_; clear hg_ hnew_; (first | rw [← Ny596.out] at ho32 | (simp only [Int.reduceToNat] at ho32; rw [← Ny596.out] at ho32)); have n0_ := Aside0.mk (Kd.R_elder' (KR HO_7) (Kd.R_base ho32) hb); have n1_ := Aside0.mk (Kd.S_elder' (KS HO_8) (Kd.R_base ho32) hb); have n2_ := Aside0.mk (Kd.R_lower (Kd.R_new' ho32 (Kd.R_lt (KR HO_7))) (keep_size (w := w) (g := g) (row := none) AHK)); have n3_ := Aside0.mk (IsS52.below AHI hb); have n4_ := Aside0.mk (KeepBut.trans AHK (KeepBut.of_below hb g none) (.inl rfl)); have n5_ := Aside0.mk (below_step AHB hb); clear HO_7; clear HO_8; clear HI0; clear HK; clear HB; have HO_7 := n0_; have HO_8 := n1_; have HO598 := n2_; have HI0 := n3_; have HK := n4_; have HB := n5_; clear n0_ n1_ n2_ n3_ n4_ n5_; clear hb ho32; obtain ⟨Ao33, co33, eo33⟩ := Kd.R_slice HO598.out; subst eo33) | (go_at_call 91; (with_reducible refine (spec_l1Cur_among.calls g s0_0 t594 t595 _ _ y596 t599 t600 t601 w0 _ ?side1 ?side2 ?side3 ?side4 ?side5 A29.out).mono ?_); (case side1 => exact AHI); (case side2 => exact AHB); (case side3 => exact CW (Kd.R_reads' HO598.out).2.2); (case side4 => exact (Kd.R_reads' HO598.out).2.1); (case side5 => exact far_slice (IsS52.own_ne HI0.out HO598.out (by decide))); rintro e w34 ⟨rfl, hi, hb, hk⟩; have n0_ := Aside0.mk (Kd.R_mono (Kd.R_keep (IsS52.apart (show IsS52 w0 _ g s0_0 t594 t595 from AHI) (KR HO_7) (by decide)) hk (fun _ h => h.2)) (fun _ h => h.1)); have n1_ := Aside0.mk (Kd.S_mono (Kd.S_keep (IsS52.apartS (show IsS52 w0 _ g s0_0 t594 t595 from AHI) (KS HO_8) (by decide)) hk (fun _ h => h.2)) (fun _ h => h.1)); have n2_ := Aside0.mk (Kd.R_mono (Kd.R_keep (IsS52.apart (show IsS52 w0 _ g s0_0 t594 t595 from AHI) (KR HO598) (by decide)) hk (fun _ h => h.2)) (fun _ h => h.1)); have n3_ := Aside0.mk (KeepBut.trans AHK hk (.inl rfl)); have n4_ := Aside0.mk (hb); have n5_ := Aside0.mk (hi); clear HO_7; clear HO_8; clear HO598; clear HK; clear HB; clear HI0; have HO_7 := n0_; have HO_8 := n1_; have HO598 := n2_; have HK := n3_; have HB := n4_; have HI0 := n5_; clear n0_ n1_ n2_ n3_ n4_ n5_; (try clear hb); (try clear hb2); (try clear hk); (try clear hi))); try go_wp2_with (first | (go_at_call 72; (with_reducible refine (spec_l1Cur_pick.calls g s0_0 x1001_5 x1002_5 (t572.length : Int) t593 t594 t595 w0 _ ?side1 ?side2 A28.out).mono ?_); (case side1 => exact AHI); (case side2 => exact AHB); rintro e w30 ⟨rfl, hi, hb, hk⟩; have n0_ := Aside0.mk (Kd.R_mono (Kd.R_keep (IsS52.apart (show IsS52 w0 _ g s0_0 x1001_5 x1002_5 from AHI) (KR HO_7) (by decide)) hk (fun _ h => h.2)) (fun _ h => h.1)); have n1_ := Aside0.mk (Kd.S_mono (Kd.S_keep (IsS52.apartS (show IsS52 w0 _ g s0_0 x1001_5 x1002_5 from AHI) (KS HO_8) (by decide)) hk (fun _ h => h.2)) (fun _ h => h.1)); have n2_ := Aside0.mk (KeepBut.trans AHK hk (.inl rfl)); have n3_ := Aside0.mk (hb); have n4_ := Aside0.mk (hi); clear HO_7; clear HO_8; clear HK; clear HB; clear HI0; have HO_7 := n0_; have HO_8 := n1_; have HK := n2_; have HB := n3_; have HI0 := n4_; clear n0_ n1_ n2_ n3_ n4_; (try clear hb); (try clear hb2); (try clear hk); (try clear hi)) | ((with_reducible refine gate_dst (N := 63) rfl ?_); refine Kd.R_lit (Kd.int .i64) _ 3 ?hg (N := 63) ?hd (xs := ([1, 2, 3, (-1), 0] : List Int)) (inner := [.int .i64 1, .int .i64 2, .int .i64 3, .int .i64 (-1), .int .i64 0]) (ok := fun _ => True) (okp := fun _ => True) ?hr ?hp (fun _ hk => hk) trivial (Below.refl _ _) (Nat.le_refl _) (by simp) ?_; (case hd => rfl); (case hg => rfl); (case hr => exact GS); (case hp => exact (Reps.one (show Kd.M (Kd.int .i64) _ _ _ 1 [.int .i64 1] from rfl) (Reps.one (show Kd.M (Kd.int .i64) _ _ _ 2 [.int .i64 2] from rfl) (Reps.one (show Kd.M (Kd.int .i64) _ _ _ 3 [.int .i64 3] from rfl) (Reps.one (show Kd.M (Kd.int .i64) _ _ _ (-1) [.int .i64 (-1)] from rfl) (Reps.one (show Kd.M (Kd.int .i64) _ _ _ 0 [.int .i64 0] from rfl) (Reps.none _ _))))))); intro v597 w31 ho32 hb hg_ hnew_; clear hg_ hnew_; (first | rw [← Ny596.out] at ho32 | (simp only [Int.reduceToNat] at ho32; rw [← Ny596.out] at ho32)); have n0_ := Aside0.mk (Kd.R_elder' (KR HO_7) (Kd.R_base ho32) hb); have n1_ := Aside0.mk (Kd.S_elder' (KS HO_8) (Kd.R_base ho32) hb); have n2_ := Aside0.mk (Kd.R_lower (Kd.R_new' ho32 (Kd.R_lt (KR HO_7))) (keep_size (w := w) (g := g) (row := none) AHK)); have n3_ := Aside0.mk (IsS52.below AHI hb); have n4_ := Aside0.mk (KeepBut.trans AHK (KeepBut.of_below hb g none) (.inl rfl)); have n5_ := Aside0.mk (below_step AHB hb); clear HO_7; clear HO_8; clear HI0; clear HK; clear HB; have HO_7 := n0_; have HO_8 := n1_; have HO598 := n2_; have HI0 := n3_; have HK := n4_; have HB := n5_; clear n0_ n1_ n2_ n3_ n4_ n5_; clear hb ho32; obtain ⟨Ao33, co33, eo33⟩ := Kd.R_slice HO598.out; subst eo33) | (go_at_call 91; (with_reducible refine (spec_l1Cur_among.calls g s0_0 t594 t595 _ _ y596 t599 t600 t601 w0 _ ?side1 ?side2 ?side3 ?side4 ?side5 A29.out).mono ?_); (case side1 => exact AHI); (case side2 => exact AHB); (case side3 => exact CW (Kd.R_reads' HO598.out).2.2); (case side4 => exact (Kd.R_reads' HO598.out).2.1); (case side5 => exact far_slice (IsS52.own_ne HI0.out HO598.out (by decide))); rintro e w34 ⟨rfl, hi, hb, hk⟩; have n0_ := Aside0.mk (Kd.R_mono (Kd.R_keep (IsS52.apart (show IsS52 w0 _ g s0_0 t594 t595 from AHI) (KR HO_7) (by decide)) hk (fun _ h => h.2)) (fun _ h => h.1)); have n1_ := Aside0.mk (Kd.S_mono (Kd.S_keep (IsS52.apartS (show IsS52 w0 _ g s0_0 t594 t595 from AHI) (KS HO_8) (by decide)) hk (fun _ h => h.2)) (fun _ h => h.1)); have n2_ := Aside0.mk (Kd.R_mono (Kd.R_keep (IsS52.apart (show IsS52 w0 _ g s0_0 t594 t595 from AHI) (KR HO598) (by decide)) hk (fun _ h => h.2)) (fun _ h => h.1)); have n3_ := Aside0.mk (KeepBut.trans AHK hk (.inl rfl)); have n4_ := Aside0.mk (hb); have n5_ := Aside0.mk (hi); clear HO_7; clear HO_8; clear HO598; clear HK; clear HB; clear HI0; have HO_7 := n0_; have HO_8 := n1_; have HO598 := n2_; have HK := n3_; have HB := n4_; have HI0 := n5_; clear n0_ n1_ n2_ n3_ n4_ n5_; (try clear hb); (try clear hb2); (try clear hk); (try clear hi))))
     refine bodyPost_ret (results_list (rs := [.tmp 2, .tmp 3, .tmp 4, .tmp 5]) rfl (by simp) (.tmp (.tmp (.tmp (.tmp .nil))))) rfl ?_
     exact ⟨_, RE, by (with_reducible repeat (first | apply Kd.R_alloc | apply Kd.R_drewN | apply Kd.R_drew)); exact Kd.R_mono HO_7.out (fun _ hk => trivial), AHI, AHB, AHK⟩
 ·replace c4 := Bool.eq_false_iff.mpr c4
  subst c4
  replace H := IN H
  simp only [Option.some.injEq, Prod.mk.injEq] at H
  obtain ⟨rfl, rfl, rfl, rfl, rfl, rfl⟩ := H
  go_enter Try.func54, Try.ntmps54
  go_wp2_with (first | (go_at_call 48; (with_reducible refine (spec_l1Cur_anyLabels.calls k g s0_0 s0_1 s0_2 4 t571 t572 t575 t576 w0 _ ?side1 ?side2 A2.out).mono ?_); (case side1 => exact AHI); (case side2 => exact AHB); rintro e w35 ⟨v573, rfl, ho0, hi, hb, hk⟩; have n0_ := Aside0.mk (Kd.R_lower ho0 (keep_size (w := w) (g := g) (row := none) AHK)); have n1_ := Aside0.mk (KeepBut.trans AHK hk (.inl rfl)); have n2_ := Aside0.mk (hb); have n3_ := Aside0.mk (hi); clear HK; clear HB; clear HI0; have HO574 := n0_; have HK := n1_; have HB := n2_; have HI0 := n3_; clear n0_ n1_ n2_ n3_; (try clear hb); (try clear hb2); (try clear hk); (try clear hi); (try clear ho0); obtain ⟨Ao36, co36, eo36⟩ := Kd.R_slice HO574.out; subst eo36) | (go_at_call 49; (with_reducible refine (spec_meLabels.calls k t571 _ _ t572 false _ ?side1 ?side2 A3.out).mono ?_); (case side1 => exact CW (Kd.R_reads' HO574.out).2.2); (case side2 => exact (Kd.R_reads' HO574.out).2.1); rintro e w' ⟨rfl, ⟨nd, rfl⟩⟩; (try first | exact ⟨rfl, _, World.drewN_drewN _ _ _⟩ | exact ⟨rfl, _, Eq.trans (World.drewN_drewN _ _ _) (congrArg (World.drewN _) (Nat.add_assoc _ _ _))⟩)))
  repeat (go_quiet (first | (go_at_call 48; (with_reducible refine (spec_l1Cur_anyLabels.calls k g s0_0 s0_1 s0_2 4 t571 t572 t575 t576 w0 _ ?side1 ?side2 A2.out).mono ?_); (case side1 => exact AHI); (case side2 => exact AHB); rintro e w35 ⟨v573, rfl, ho0, hi, hb, hk⟩; have n0_ := Aside0.mk (Kd.R_lower ho0 (keep_size (w := w) (g := g) (row := none) AHK)); have n1_ := Aside0.mk (KeepBut.trans AHK hk (.inl rfl)); have n2_ := Aside0.mk (hb); have n3_ := Aside0.mk (hi); clear HK; clear HB; clear HI0; have HO574 := n0_; have HK := n1_; have HB := n2_; have HI0 := n3_; clear n0_ n1_ n2_ n3_; (try clear hb); (try clear hb2); (try clear hk); (try clear hi); (try clear ho0); obtain ⟨Ao36, co36, eo36⟩ := Kd.R_slice HO574.out; subst eo36) | (go_at_call 49; (with_reducible refine (spec_meLabels.calls k t571 _ _ t572 false _ ?side1 ?side2 A3.out).mono ?_); (case side1 => exact CW (Kd.R_reads' HO574.out).2.2); (case side2 => exact (Kd.R_reads' HO574.out).2.1); rintro e w' ⟨rfl, ⟨nd, rfl⟩⟩; (try first | exact ⟨rfl, _, World.drewN_drewN _ _ _⟩ | exact ⟨rfl, _, Eq.trans (World.drewN_drewN _ _ _) (congrArg (World.drewN _) (Nat.add_assoc _ _ _))⟩))); try go_wp2_with (first | (go_at_call 48; (with_reducible refine (spec_l1Cur_anyLabels.calls k g s0_0 s0_1 s0_2 4 t571 t572 t575 t576 w0 _ ?side1 ?side2 A2.out).mono ?_); (case side1 => exact AHI); (case side2 => exact AHB); rintro e w35 ⟨v573, rfl, ho0, hi, hb, hk⟩; have n0_ := Aside0.mk (Kd.R_lower ho0 (keep_size (w := w) (g := g) (row := none) AHK)); have n1_ := Aside0.mk (KeepBut.trans AHK hk (.inl rfl)); have n2_ := Aside0.mk (hb); have n3_ := Aside0.mk (hi); clear HK; clear HB; clear HI0; have HO574 := n0_; have HK := n1_; have HB := n2_; have HI0 := n3_; clear n0_ n1_ n2_ n3_; (try clear hb); (try clear hb2); (try clear hk); (try clear hi); (try clear ho0); obtain ⟨Ao36, co36, eo36⟩ := Kd.R_slice HO574.out; subst eo36) | (go_at_call 49; (with_reducible refine (spec_meLabels.calls k t571 _ _ t572 false _ ?side1 ?side2 A3.out).mono ?_); (case side1 => exact CW (Kd.R_reads' HO574.out).2.2); (case side2 => exact (Kd.R_reads' HO574.out).2.1); rintro e w' ⟨rfl, ⟨nd, rfl⟩⟩; (try first | exact ⟨rfl, _, World.drewN_drewN _ _ _⟩ | exact ⟨rfl, _, Eq.trans (World.drewN_drewN _ _ _) (congrArg (World.drewN _) (Nat.add_assoc _ _ _))⟩))))
  refine bodyPost_ret (results_list (rs := [.tmp 2, .tmp 3, .tmp 4, .tmp 5]) rfl (by simp) (.tmp (.tmp (.tmp (.tmp .nil))))) rfl ?_
  exact ⟨_, RE, KR HO574, AHI, AHB, AHK⟩

/-! ### spec_DrawIsDoor: function 18 -/
def spec_DrawIsDoor.f (k : Nat) (l0 : List Int) : Option (Int × List Int × Int × Int) := (spec_l1Cur_door.f k l0 0 0).bind fun bt603 => (some (bt603.1, bt603.2.1, bt603.2.2.1, bt603.2.2.2.1))
theorem spec_DrawIsDoor.mono : ∀ a0 k, LeO (spec_DrawIsDoor.f k a0) (spec_DrawIsDoor.f (k + 1) a0) := by
 intro a0 k
 unfold spec_DrawIsDoor.f
 repeat' first
   | with_reducible first | exact spec_l1Cur_door.mono _ _ _ _ | exact LeO.refl _ | exact LeO.none _ | refine LeO.ite ?_ ?_ | refine LeO.bind ?_ (fun _ => ?_)
   | exact LeO.none _ | refine LeO.ite ?_ ?_ | refine LeO.bind ?_ (fun _ => ?_)
theorem spec_DrawIsDoor.calls (k : Nat) (A0 : Option Addr) (c0 : Nat) (l0 : List Int) (r1 : Int) (r2 : List Int) (r3 : Int) (r4 : Int) (w : World) (hr0 : Kd.C (Kd.int .u8) w A0 l0.length l0) (hc0 : l0.length ≤ c0) (h : spec_DrawIsDoor.f k l0 = some (r1, r2, r3, r4)) :
  Calls Try.prog 18 #[.slice A0 l0.length c0] w fun e w' => ∃ v1_ : Value, e = .returned (.tuple #[.int .i64 r1, v1_, .int .i64 r3, .int .i64 r4]) ∧ Kd.R (Kd.int .i64) 3 w' w.heap.size (fun _ => True) v1_ r2 ∧ Below w.heap.size w w' := by
 have hu52 := Try.underlying52
 have HR0 := Aside0.mk hr0
 have HC0 := Aside0.mk hc0
 clear hr0 hc0
 have HB := Aside0.mk (Below.refl w.heap.size w)
 have H : ((spec_l1Cur_door.f k l0 0 0).bind fun bt603 => (some (bt603.1, bt603.2.1, bt603.2.2.1, bt603.2.2.2.1))) = some (r1, r2, r3, r4) := h
 clear h
 obtain ⟨⟨t603, t604, t607, t608, t609, t610⟩, A20, H⟩ := Option.bind_eq_some_iff.mp H
 replace H : (some (t603, t604, t607, t608)) = some (r1, r2, r3, r4) := H
 have A2 := Aside0.mk A20
 clear A20
 simp only [Option.some.injEq, Prod.mk.injEq] at H
 obtain ⟨rfl, rfl, rfl, rfl⟩ := H
 go_enter Try.func18, Try.ntmps18
 go_wp2_with (first | ((with_reducible refine gate_dst (N := 9) rfl ?_); refine box_event ?hg (N := 9) ?hd (cs := #[.slice A0 l0.length c0, .int .i64 0, .int .u64 0]) (t := 52) ?hr ?_; (case hd => rfl); (case hg => rfl); (case hr => exact GS); intro gb602 hg w3 hbox hb; have n0_ := Aside0.mk (below_step BB hb); have n1_ := Aside0.mk ((by rw [hg]; exact (below_size BB) : w.heap.size ≤ gb602)); have n2_ := Aside0.mk ((by rw [hg]; exact (below_size BB) : w.heap.size ≤ gb602)); have n3_ := Aside0.mk ((show IsS52 w w3 gb602 l0 0 0 from ⟨A0, c0, hbox, (by rw [hg]; exact (below_size BB) : w.heap.size ≤ gb602), HR0.out⟩)); clear HB; have HB := n0_; have GW602 := n1_; have GE602 := n2_; have HI602 := n3_; clear n0_ n1_ n2_ n3_; clear hb hbox hg) | ((with_reducible refine gate_callee (f := 54) rfl ?_); refine goesL_ (some 11) rfl rfl Try.func54 (by kernel_rfl) rfl #[.pointer (some ⟨gb602, 0, none⟩)] rfl TA ?_; (with_reducible refine (spec_l1Cur_door.calls k gb602 l0 0 0 t603 t604 t607 t608 t609 t610 w _ ?side1 ?side2 A2.out).mono ?_); (case side1 => repeat (first | (with_reducible first | exact HI602.out | apply IsS52.alloc | apply IsS52.drewN | apply IsS52.drew | apply IsS52.set_1 | apply IsS52.set_2) | exact HI602.out)); (case side2 => repeat (first | (with_reducible first | exact HB.out | apply below_alloc | apply pw_below_drewN | apply below_drew1 | refine below_set ?_ (IsS52.ge HI602.out)) | exact HB.out)); rintro e w4 ⟨v605, rfl, ho0, hi, hb, hk⟩; refine ⟨_, rfl, ?_⟩; have n0_ := Aside0.mk (Kd.R_lower ho0 (below_size (by repeat (first | (with_reducible first | exact HB.out | apply below_alloc | apply pw_below_drewN | apply below_drew1 | refine below_set ?_ (IsS52.ge HI602.out)) | exact HB.out)))); have n1_ := Aside0.mk (hb); have n2_ := Aside0.mk (hi); clear HB; clear HI602; have HO606 := n0_; have HB := n1_; have HI602 := n2_; clear n0_ n1_ n2_; (try clear hb); (try clear hb2); (try clear hk); (try clear hi); (try clear ho0)))
 refine bodyPost_ret (results_list (rs := [.tmp 2, .tmp 3, .tmp 4, .tmp 5]) rfl (by simp) (.tmp (.tmp (.tmp (.tmp .nil))))) rfl ?_
 exact ⟨_, RE, KR HO606, by repeat (first | (with_reducible first | exact HB.out | apply below_alloc | apply pw_below_drewN | apply below_drew1 | refine below_set ?_ (IsS52.ge HI602.out)) | exact HB.out)⟩

end Go.Proofs.Ytafjjbkkcedgnab.PFnDoorsOfRooms
