-- Written by a program of this session (wip/tools/pp.sh) out of the translation; Lean checks it.
import Derived.Test.YtgpplbaloajgdabPFnExactFullOfMapx0
import Derived.Test.YtgpplbaloajgdabPFnExactFullOfMapx11
import Derived.Test.YtgpplbaloajgdabPFnExactFullOfMapx12
import Derived.Test.YtgpplbaloajgdabPFnExactFullOfMapx15
namespace Go.Proofs.Ytgpplbaloajgdab.PFnExactFullOfMap
open Go.RowKit Go.Proofs.YtgpplbaloajgdabOwn Go.Proofs.YtgpplbaloajgdabW.PrintWords Go.Proofs.YtgpplbaloajgdabW.PrintLast Go.Proofs.YtgpplbaloajgdabW.PrintMore
attribute [local go_sem] max2_int min2_int max_two min_two max_three min_three max_four min_four   -- for this text's walks alone
set_option linter.unusedVariables false
set_option maxHeartbeats 8000000
set_option maxRecDepth 100000
set_option linter.unusedSimpArgs false

/-! ### impl_FindFull: function 42 -/
def impl_FindFull.l0 : Nat → List (List Int) → Int → Int → Int → List Int → List (List Int) → List Int → Option (Int × Bool)
 | 0, _, _, _, _, _, _, _ => none
 | k + 1, x22, x23, x24, x469000, x469001, x469002, x469003 => if x24 < x23 then (if 0 ≤ x24 then (if x24 < (x22.length : Int) then (if 0 < ((rd_L1 x22 x24).length : Int) then (if 1 < ((rd_L1 x22 x24).length : Int) then ((impl_house_enter.f k x469000 x469001 x469002 x469003 (rd (rd_L1 x22 x24) 0) (rd (rd_L1 x22 x24) 1)).bind fun bt475 => (if bt475.2.2 = true then (if 0 ≤ (wrap64 ((bt475.1.length : Int) - 1)) then (if (wrap64 ((bt475.1.length : Int) - 1)) < (bt475.1.length : Int) then (some (rd bt475.1 (wrap64 ((bt475.1.length : Int) - 1)), true)) else (none)) else (none)) else (impl_FindFull.l0 k x22 x23 (wrap64 (x24 + 1)) x469000 x469001 x469002 x469003))) else (none)) else (none)) else (none)) else (none)) else (some (0, false))
def impl_FindFull.f (k : Nat) (a0 : Int) (l1 : List Int) : Option (Int × Bool) := (impl_houseOf.f k a0 l1).bind fun bt457 => (if bt457.2.2.2.2 = true then ((impl_house_entries.f k bt457.1 bt457.2.1 bt457.2.2.1 bt457.2.2.2.1).bind fun t469 => (impl_FindFull.l0 k t469 (t469.length : Int) 0 bt457.1 bt457.2.1 bt457.2.2.1 bt457.2.2.2.1)) else (some (0, false)))
theorem impl_FindFull.mono_l : ∀ k, (∀ y0 y1 y2 y3 y4 y5 y6, LeO (impl_FindFull.l0 k y0 y1 y2 y3 y4 y5 y6) (impl_FindFull.l0 (k + 1) y0 y1 y2 y3 y4 y5 y6))
 | 0 => fun _ _ _ _ _ _ _ r h => by simp [impl_FindFull.l0] at h
 | k + 1 => by
  have ih0 := impl_FindFull.mono_l k
  ·intro y0 y1 y2 y3 y4 y5 y6
   unfold impl_FindFull.l0
   repeat' first
   | with_reducible first | exact ih0 _ _ _ _ _ _ _ | exact impl_houseOf.mono _ _ _ | exact impl_house_enter.mono _ _ _ _ _ _ _ | exact impl_house_entries.mono _ _ _ _ _ | exact LeO.refl _ | exact LeO.none _ | refine LeO.ite ?_ ?_ | refine LeO.bind ?_ (fun _ => ?_)
   | exact LeO.none _ | refine LeO.ite ?_ ?_ | refine LeO.bind ?_ (fun _ => ?_)
theorem impl_FindFull.mono : ∀ a0 a1 k, LeO (impl_FindFull.f k a0 a1) (impl_FindFull.f (k + 1) a0 a1) := by
 intro a0 a1 k
 have ih0 := impl_FindFull.mono_l k
 unfold impl_FindFull.f
 repeat' first
   | with_reducible first | exact ih0 _ _ _ _ _ _ _ | exact impl_houseOf.mono _ _ _ | exact impl_house_enter.mono _ _ _ _ _ _ _ | exact impl_house_entries.mono _ _ _ _ _ | exact LeO.refl _ | exact LeO.none _ | refine LeO.ite ?_ ?_ | refine LeO.bind ?_ (fun _ => ?_)
   | exact LeO.none _ | refine LeO.ite ?_ ?_ | refine LeO.bind ?_ (fun _ => ?_)
def impl_FindFull.T7 : Bool × List (List Nat × List Nat) := (true, [([], []), ([], []), ([1], [1]), ([2], [2]), ([], []), ([4], [4]), ([5], [5]), ([0, 3, 6], [0, 3, 6]), ([7], [7]), ([8], [8]), ([8], [8]), ([8], [8]), ([9, 7, 0, 1, 2, 3, 4, 5, 6, 7, 8, 9], [9]), ([10, 12, 0, 1, 2, 3, 4, 5, 6, 7, 8, 9, 10, 12], [10]), ([11, 13, 0, 1, 2, 3, 4, 5, 6, 7, 8, 9, 10, 11, 12, 13], [11])])
def impl_FindFull.B7 : List Nat := [0, 0, 2, 6, 0, 16, 48, 127, 255, 511, 511, 511, 1023, 6143, 16383]
theorem impl_FindFull.tab7 : rtab .any (opsOf Try.f42 7) = impl_FindFull.T7 := by kernel_rfl
theorem impl_FindFull.bits7 : waitsOk impl_FindFull.T7.2 impl_FindFull.B7 = true := by kernel_rfl
theorem impl_FindFull.calls (k : Nat) (a0 : Int) (A1 : Option Addr) (c1 : Nat) (l1 : List Int) (r1 : Int) (r2 : Bool) (w : World) (hr1 : Kd.C (Kd.int .i64) w A1 l1.length l1) (hc1 : l1.length ≤ c1) (h : impl_FindFull.f k a0 l1 = some (r1, r2)) :
  Calls Try.prog 42 #[.int .i64 a0, .slice A1 l1.length c1] w fun e w' => e = .returned (.tuple #[.int .i64 r1, .bool r2]) ∧ Below w.heap.size w w' := by
 have hu46 := Try.underlying46
 have HR1 := Aside0.mk hr1
 have HC1 := Aside0.mk hc1
 clear hr1 hc1
 have HB := Aside0.mk (Below.refl w.heap.size w)
 have H : ((impl_houseOf.f k a0 l1).bind fun bt457 => (if bt457.2.2.2.2 = true then ((impl_house_entries.f k bt457.1 bt457.2.1 bt457.2.2.1 bt457.2.2.2.1).bind fun t469 => (impl_FindFull.l0 k t469 (t469.length : Int) 0 bt457.1 bt457.2.1 bt457.2.2.1 bt457.2.2.2.1)) else (some (0, false)))) = some (r1, r2) := h
 clear h
 obtain ⟨⟨t457, t458, t461, t464, t467⟩, A30, H⟩ := Option.bind_eq_some_iff.mp H
 replace H : (if t467 = true then ((impl_house_entries.f k t457 t458 t461 t464).bind fun t469 => (impl_FindFull.l0 k t469 (t469.length : Int) 0 t457 t458 t461 t464)) else (some (0, false))) = some (r1, r2) := H
 have A3 := Aside0.mk A30
 clear A30
 by_cases c4 : t467 = true
 ·subst c4
  replace H := IP H
  obtain ⟨t469, A50, H⟩ := Option.bind_eq_some_iff.mp H
  have A5 := Aside0.mk A50
  clear A50
  have H' := Aside0.mk H
  clear H
  go_enter Try.func42, Try.ntmps42
  go_wp2_with (first | ((with_reducible refine gate_callee (f := 30) rfl ?_); refine goesL_ (some 16) rfl rfl Try.func30 (by kernel_rfl) rfl #[.int .i64 a0, .slice A1 l1.length c1] rfl TA ?_; (with_reducible refine (impl_houseOf.calls k a0 (fun k_ => k_ < w.heap.size) _ _ l1 t457 t458 t461 t464 true _ ?side1 A3.out).mono ?_); (case side1 => exact Kd.V_mk HC1.out (Kd.F_below (Kd.C_F (Kd.heap_int .i64) HR1.out) BB)); rintro e w6 ⟨v459, v462, v465, rfl, ho0, ho1, ho2, hb⟩; refine ⟨_, rfl, ?_⟩; have n0_ := Aside0.mk (Kd.V_lower (Kd.V_mono (ok' := fun k_ => some k_ ≠ (v462 : Value).ownBlock ∧ some k_ ≠ (v465 : Value).ownBlock) ho0 (fun k_ hk_ => ⟨hk_.2.1, hk_.2.2⟩)) (below_size BB)); have n1_ := Aside0.mk (Kd.S_lower (Kd.S_mono (ok' := fun k_ => some k_ ≠ (v465 : Value).ownBlock) ho1 (fun _ hk_ => hk_.2)) (below_size BB)); have n2_ := Aside0.mk (Kd.R_lower (Kd.R_mono (ok' := fun k_ => True) ho2 (fun _ hk_ => trivial)) (below_size BB)); have n3_ := Aside0.mk (below_step BB hb); clear HB; have HO460 := n0_; have HO463 := n1_; have HO466 := n2_; have HB := n3_; clear n0_ n1_ n2_ n3_; (try clear hb); (try clear hb2); (try clear hk); (try clear hi); (try clear ho0); (try clear ho1); (try clear ho2)) | ((with_reducible refine gate_dst (N := 6) rfl ?_); refine box_event ?hg (N := 6) ?hd (cs := #[.int .i64 0, .slice none 0 0, .slice none 0 0, .slice none 0 0]) (t := 46) ?hr ?_; (case hd => rfl); (case hg => rfl); (case hr => exact GS); intro gb468 hg w7 hbox hb; have n0_ := Aside0.mk (Kd.V_below (Kd.V_elderB (by (with_reducible repeat (first | apply Kd.V_alloc | apply Kd.V_drewN | apply Kd.V_drew)); exact HO460.out) gb468 (Nat.le_of_eq hg.symm)) hb); have n1_ := Aside0.mk (Kd.S_below (KS HO463) hb); have n2_ := Aside0.mk (Kd.R_below (KR HO466) hb); have n3_ := Aside0.mk (below_step BB hb); have n4_ := Aside0.mk (hbox); have n5_ := Aside0.mk ((by rw [hg]; exact (below_size BB) : w.heap.size ≤ gb468)); have n6_ := Aside0.mk ((by rw [hg]; exact (below_size BB) : w.heap.size ≤ gb468)); clear HO460; clear HO463; clear HO466; clear HB; have HO460 := n0_; have HO463 := n1_; have HO466 := n2_; have HB := n3_; have BK468 := n4_; have GW468 := n5_; have GE468 := n6_; clear n0_ n1_ n2_ n3_ n4_ n5_ n6_; clear hb hbox hg; have hcz8_0 : w7.cell? ⟨gb468, 0, none⟩ = some (.int .i64 0) := (blk_cell BK468.out 0).trans rfl; have hcz8_1 : w7.cell? ⟨gb468, 1, none⟩ = some (.slice none 0 0) := (blk_cell BK468.out 1).trans rfl; have hcz8_2 : w7.cell? ⟨gb468, 2, none⟩ = some (.slice none 0 0) := (blk_cell BK468.out 2).trans rfl; have hcz8_3 : w7.cell? ⟨gb468, 3, none⟩ = some (.slice none 0 0) := (blk_cell BK468.out 3).trans rfl; have hfz8_0 := blk_frozen BK468.out 0; have hfz8_1 := blk_frozen BK468.out 1; have hfz8_2 := blk_frozen BK468.out 2; have hfz8_3 := blk_frozen BK468.out 3; obtain ⟨Ao9, co9, eo9⟩ := Kd.V_slice HO460.out; subst eo9; obtain ⟨Ao10, co10, eo10⟩ := Kd.S_slice HO463.out; subst eo10; obtain ⟨Ao11, co11, eo11⟩ := Kd.R_slice HO466.out; subst eo11) | ((with_reducible refine gate_callee (f := 32) rfl ?_); refine goesL_ (some 22) rfl rfl Try.func32 (by kernel_rfl) rfl #[.agg #[.int .i64 t457, .slice Ao9 t458.length co9, .slice Ao10 t461.length co10, .slice Ao11 t464.length co11]] rfl TA ?_; (with_reducible refine (impl_house_entries.calls k t457 _ _ t458 _ _ t461 _ _ t464 t469 _ ?side1 ?side2 ?side3 ?side4 ?side5 ?side6 A5.out).mono ?_); (case side1 => refine (Kd.V_reads' (e := 3) (base := w.heap.size) (ok := fun k_ => ((some k_ ≠ (.slice Ao10 t461.length co10 : Value).ownBlock ∧ some k_ ≠ (.slice Ao11 t464.length co11 : Value).ownBlock) ∧ k_ ≠ gb468)) (n := t458.length) (c := co9) ?_).2.2; exact (by (with_reducible repeat (first | apply Kd.V_alloc | apply Kd.V_drewN | apply Kd.V_drew)); exact (Kd.V_mono (Kd.V_far (p := ⟨gb468, 3, none⟩) (Kd.V_far (p := ⟨gb468, 2, none⟩) (Kd.V_far (p := ⟨gb468, 1, none⟩) (Kd.V_far (p := ⟨gb468, 0, none⟩) (Kd.V_mono HO460.out (fun k_ hk => (⟨hk, hk.2⟩ : _ ∧ k_ ≠ gb468))) (fun _ hk => hk.2) (.int .i64 t457)) (fun _ hk => hk.2) (.slice Ao9 t458.length co9)) (fun _ hk => hk.2) (.slice Ao10 t461.length co10)) (fun _ hk => hk.2) (.slice Ao11 t464.length co11)) (fun _ h_ => h_.1)))); (case side2 => exact (Kd.V_reads' HO460.out).2.1); (case side3 => refine (Kd.S_reads' (e := 22) (base := w.heap.size) (ok := fun k_ => some k_ ≠ (.slice Ao11 t464.length co11 : Value).ownBlock) (n := t461.length) (c := co10) ?_).2.2; exact (by (with_reducible repeat (first | apply Kd.S_alloc | apply Kd.S_drewN | apply Kd.S_drew)); exact (Kd.S_mono (Kd.S_far (p := ⟨gb468, 3, none⟩) (Kd.S_far (p := ⟨gb468, 2, none⟩) (Kd.S_far (p := ⟨gb468, 1, none⟩) (Kd.S_far (p := ⟨gb468, 0, none⟩) (Kd.S_types HO463.out BK468.out (by decide)) (fun _ hk => hk.2) (.int .i64 t457)) (fun _ hk => hk.2) (.slice Ao9 t458.length co9)) (fun _ hk => hk.2) (.slice Ao10 t461.length co10)) (fun _ hk => hk.2) (.slice Ao11 t464.length co11)) (fun _ h_ => h_.1)))); (case side4 => exact (Kd.S_reads' HO463.out).2.1); (case side5 => refine (Kd.R_reads' (e := 3) (base := w.heap.size) (ok := fun k_ => True) (n := t464.length) (c := co11) ?_).2.2; exact (by (with_reducible repeat (first | apply Kd.R_alloc | apply Kd.R_drewN | apply Kd.R_drew)); exact (Kd.R_mono (Kd.R_far (p := ⟨gb468, 3, none⟩) (Kd.R_far (p := ⟨gb468, 2, none⟩) (Kd.R_far (p := ⟨gb468, 1, none⟩) (Kd.R_far (p := ⟨gb468, 0, none⟩) (Kd.R_types HO466.out BK468.out (by decide)) (fun _ hk => hk.2) (.int .i64 t457)) (fun _ hk => hk.2) (.slice Ao9 t458.length co9)) (fun _ hk => hk.2) (.slice Ao10 t461.length co10)) (fun _ hk => hk.2) (.slice Ao11 t464.length co11)) (fun _ h_ => h_.1)))); (case side6 => exact (Kd.R_reads' HO466.out).2.1); rintro e w12 ⟨v470, rfl, ho0, hb⟩; refine ⟨_, rfl, ?_⟩; have n0_ := Aside0.mk (Kd.V_elder' (by (with_reducible repeat (first | apply Kd.V_alloc | apply Kd.V_drewN | apply Kd.V_drew)); exact (Kd.V_mono (Kd.V_far (p := ⟨gb468, 3, none⟩) (Kd.V_far (p := ⟨gb468, 2, none⟩) (Kd.V_far (p := ⟨gb468, 1, none⟩) (Kd.V_far (p := ⟨gb468, 0, none⟩) (Kd.V_mono HO460.out (fun k_ hk => (⟨hk, hk.2⟩ : _ ∧ k_ ≠ gb468))) (fun _ hk => hk.2) (.int .i64 t457)) (fun _ hk => hk.2) (.slice Ao9 t458.length co9)) (fun _ hk => hk.2) (.slice Ao10 t461.length co10)) (fun _ hk => hk.2) (.slice Ao11 t464.length co11)) (fun _ h_ => h_.1))) (Kd.S_base ho0) hb); have n1_ := Aside0.mk (Kd.S_elder' (by (with_reducible repeat (first | apply Kd.S_alloc | apply Kd.S_drewN | apply Kd.S_drew)); exact (Kd.S_mono (Kd.S_far (p := ⟨gb468, 3, none⟩) (Kd.S_far (p := ⟨gb468, 2, none⟩) (Kd.S_far (p := ⟨gb468, 1, none⟩) (Kd.S_far (p := ⟨gb468, 0, none⟩) (Kd.S_types HO463.out BK468.out (by decide)) (fun _ hk => hk.2) (.int .i64 t457)) (fun _ hk => hk.2) (.slice Ao9 t458.length co9)) (fun _ hk => hk.2) (.slice Ao10 t461.length co10)) (fun _ hk => hk.2) (.slice Ao11 t464.length co11)) (fun _ h_ => h_.1))) (Kd.S_base ho0) hb); have n2_ := Aside0.mk (Kd.R_below (by (with_reducible repeat (first | apply Kd.R_alloc | apply Kd.R_drewN | apply Kd.R_drew)); exact (Kd.R_mono (Kd.R_far (p := ⟨gb468, 3, none⟩) (Kd.R_far (p := ⟨gb468, 2, none⟩) (Kd.R_far (p := ⟨gb468, 1, none⟩) (Kd.R_far (p := ⟨gb468, 0, none⟩) (Kd.R_types HO466.out BK468.out (by decide)) (fun _ hk => hk.2) (.int .i64 t457)) (fun _ hk => hk.2) (.slice Ao9 t458.length co9)) (fun _ hk => hk.2) (.slice Ao10 t461.length co10)) (fun _ hk => hk.2) (.slice Ao11 t464.length co11)) (fun _ h_ => h_.1))) hb); have n3_ := Aside0.mk (Kd.S_lower (Kd.S_new' (Kd.S_new' ho0 (Kd.S_lt (by (with_reducible repeat (first | apply Kd.S_alloc | apply Kd.S_drewN | apply Kd.S_drew)); exact (Kd.S_mono (Kd.S_far (p := ⟨gb468, 3, none⟩) (Kd.S_far (p := ⟨gb468, 2, none⟩) (Kd.S_far (p := ⟨gb468, 1, none⟩) (Kd.S_far (p := ⟨gb468, 0, none⟩) (Kd.S_types HO463.out BK468.out (by decide)) (fun _ hk => hk.2) (.int .i64 t457)) (fun _ hk => hk.2) (.slice Ao9 t458.length co9)) (fun _ hk => hk.2) (.slice Ao10 t461.length co10)) (fun _ hk => hk.2) (.slice Ao11 t464.length co11)) (fun _ h_ => h_.1))))) (Kd.R_lt (by (with_reducible repeat (first | apply Kd.R_alloc | apply Kd.R_drewN | apply Kd.R_drew)); exact (Kd.R_mono (Kd.R_far (p := ⟨gb468, 3, none⟩) (Kd.R_far (p := ⟨gb468, 2, none⟩) (Kd.R_far (p := ⟨gb468, 1, none⟩) (Kd.R_far (p := ⟨gb468, 0, none⟩) (Kd.R_types HO466.out BK468.out (by decide)) (fun _ hk => hk.2) (.int .i64 t457)) (fun _ hk => hk.2) (.slice Ao9 t458.length co9)) (fun _ hk => hk.2) (.slice Ao10 t461.length co10)) (fun _ hk => hk.2) (.slice Ao11 t464.length co11)) (fun _ h_ => h_.1))))) (below_size (by repeat (first | (with_reducible first | exact HB.out | apply below_alloc | apply pw_below_drewN | apply below_drew1 | refine below_set ?_ GE468.out) | exact HB.out)))); have n4_ := Aside0.mk (blk_below (g := gb468) (o := .cells #[.int .i64 t457, .slice Ao9 t458.length co9, .slice Ao10 t461.length co10, .slice Ao11 t464.length co11] 46 (0, 0)) (by (with_reducible repeat (first | refine blk_drewN ?_ _ | refine blk_drew ?_ | refine blk_alloc ?_ _)); refine blk_put (cs := #[.int .i64 t457, .slice Ao9 t458.length co9, .slice Ao10 t461.length co10, .slice none 0 0]) ?_ 3 _ rfl; (with_reducible repeat (first | refine blk_drewN ?_ _ | refine blk_drew ?_ | refine blk_alloc ?_ _)); refine blk_put (cs := #[.int .i64 t457, .slice Ao9 t458.length co9, .slice none 0 0, .slice none 0 0]) ?_ 2 _ rfl; (with_reducible repeat (first | refine blk_drewN ?_ _ | refine blk_drew ?_ | refine blk_alloc ?_ _)); refine blk_put (cs := #[.int .i64 t457, .slice none 0 0, .slice none 0 0, .slice none 0 0]) ?_ 1 _ rfl; (with_reducible repeat (first | refine blk_drewN ?_ _ | refine blk_drew ?_ | refine blk_alloc ?_ _)); refine blk_put (cs := #[.int .i64 0, .slice none 0 0, .slice none 0 0, .slice none 0 0]) ?_ 0 _ rfl; (with_reducible repeat (first | refine blk_drewN ?_ _ | refine blk_drew ?_ | refine blk_alloc ?_ _)); exact BK468.out) hb); have n5_ := Aside0.mk (below_step (by repeat (first | (with_reducible first | exact HB.out | apply below_alloc | apply pw_below_drewN | apply below_drew1 | refine below_set ?_ GE468.out) | exact HB.out)) hb); clear HO460; clear HO463; clear HO466; clear BK468; clear HB; have HO460 := n0_; have HO463 := n1_; have HO466 := n2_; have HO471 := n3_; have BK468 := n4_; have HB := n5_; clear n0_ n1_ n2_ n3_ n4_ n5_; (try clear hb); (try clear hb2); (try clear hk); (try clear hi); (try clear ho0); obtain ⟨Ao13, co13, eo13⟩ := Kd.S_slice HO471.out; subst eo13))
  go_loopg [24] k (fun kq v24 w' => ∃ (x24_1 : Int), v24 = .int .i64 x24_1 ∧ Aside0 (impl_FindFull.l0 kq t469 (t469.length : Int) x24_1 t457 t458 t461 t464 = some (r1, r2)) ∧ Aside0 (kq ≤ k) ∧ Aside0 (Kd.S (Kd.slice 3 (Kd.int .i64)) 22 w' w.heap.size (fun k_ => some k_ ≠ ((.slice Ao10 t461.length co10) : Value).ownBlock ∧ some k_ ≠ ((.slice Ao11 t464.length co11) : Value).ownBlock) (.slice Ao13 t469.length co13) t469) ∧ Aside0 (Kd.V (Kd.int .i64) 3 w' w.heap.size (fun k_ => some k_ ≠ ((.slice Ao13 t469.length co13) : Value).ownBlock ∧ some k_ ≠ ((.slice Ao10 t461.length co10) : Value).ownBlock ∧ some k_ ≠ ((.slice Ao11 t464.length co11) : Value).ownBlock ∧ k_ ≠ gb468) (.slice Ao9 t458.length co9) t458) ∧ Aside0 (Kd.S (Kd.slice 3 (Kd.int .i64)) 22 w' w.heap.size (fun k_ => some k_ ≠ ((.slice Ao13 t469.length co13) : Value).ownBlock ∧ some k_ ≠ ((.slice Ao11 t464.length co11) : Value).ownBlock) (.slice Ao10 t461.length co10) t461) ∧ Aside0 (Kd.R (Kd.int .i64) 3 w' w.heap.size (fun _ => True) (.slice Ao11 t464.length co11) t464) ∧ Aside0 (w'.heap[gb468]? = some (.cells #[.int .i64 t457, (.slice Ao9 t458.length co9), (.slice Ao10 t461.length co10), (.slice Ao11 t464.length co11)] 46 (0, 0))) ∧ Aside0 (Below w.heap.size w w'))
  case atStart => exact ⟨(0), RF, H', ⟨Nat.le_refl _⟩, ⟨by (with_reducible repeat (first | apply Kd.S_alloc | apply Kd.S_drewN | apply Kd.S_drew)); exact Kd.S_mono HO471.out (fun _ hk => ⟨hk.1.2, hk.2⟩)⟩, ⟨by (with_reducible repeat (first | apply Kd.V_alloc | apply Kd.V_drewN | apply Kd.V_drew)); exact Kd.V_mono HO460.out (fun _ hk => ⟨hk.2, ⟨hk.1.1.1, ⟨hk.1.1.2, hk.1.2⟩⟩⟩)⟩, ⟨by (with_reducible repeat (first | apply Kd.S_alloc | apply Kd.S_drewN | apply Kd.S_drew)); exact Kd.S_mono HO463.out (fun _ hk => ⟨hk.2, hk.1⟩)⟩, ⟨KR HO466⟩, ⟨by (with_reducible repeat (first | refine blk_drewN ?_ _ | refine blk_drew ?_ | refine blk_alloc ?_ _)); exact BK468.out⟩, ⟨by repeat (first | (with_reducible first | exact HB.out | apply below_alloc | apply pw_below_drewN | apply below_drew1 | refine below_set ?_ GE468.out) | exact HB.out)⟩⟩
  case round =>
   clear H'
   try clear c1
   try clear p2
   try clear c3
   try clear c4
   try clear p6
   try clear hcz8_0
   try clear hcz8_1
   try clear hcz8_2
   try clear hcz8_3
   try clear hfz8_0
   try clear hfz8_1
   try clear hfz8_2
   try clear hfz8_3
   obtain ⟨x24_1, rfl, HA, HK1, HO_22, HO_469001, HO_469002, HO_469003, BK468, HB⟩ := hrel
   cases gk with
   | zero => exact absurd HA.out (by simp [impl_FindFull.l0])
   | succ k1 =>
    have H := HA.out
    clear HA
    simp only [impl_FindFull.l0] at H
    by_cases c14 : x24_1 < (t469.length : Int)
    ·rw [if_pos c14] at H
     have c14b0 : decide (x24_1 < (t469.length : Int)) = true := decide_eq_true c14
     clear c14
     by_cases c15 : 0 ≤ x24_1
     ·rw [if_pos c15] at H
      have c15b0 : decide (0 ≤ x24_1) = true := decide_eq_true c15
      clear c15
      by_cases c16 : x24_1 < (t469.length : Int)
      ·rw [if_pos c16] at H
       have c16b0 : decide (x24_1 < (t469.length : Int)) = true := decide_eq_true c16
       clear c16
       by_cases c17 : 0 < ((rd_L1 t469 x24_1).length : Int)
       ·rw [if_pos c17] at H
        have c17b0 : decide (0 < ((rd_L1 t469 x24_1).length : Int)) = true := decide_eq_true c17
        have c17b1 : decide (0 < (rd_L1 t469 x24_1).length) = true := decide_eq_true (by omega)
        clear c17
        by_cases c18 : 1 < ((rd_L1 t469 x24_1).length : Int)
        ·rw [if_pos c18] at H
         have c18b0 : decide (1 < ((rd_L1 t469 x24_1).length : Int)) = true := decide_eq_true c18
         have c18b1 : decide (1 < (rd_L1 t469 x24_1).length) = true := decide_eq_true (by omega)
         clear c18
         obtain ⟨⟨t475, t478, t481⟩, A190, H⟩ := Option.bind_eq_some_iff.mp H
         replace H : (if t481 = true then (if 0 ≤ (wrap64 ((t475.length : Int) - 1)) then (if (wrap64 ((t475.length : Int) - 1)) < (t475.length : Int) then (some (rd t475 (wrap64 ((t475.length : Int) - 1)), true)) else (none)) else (none)) else (impl_FindFull.l0 k1 t469 (t469.length : Int) (wrap64 (x24_1 + 1)) t457 t458 t461 t464)) = some (r1, r2) := H
         have A19 := Aside0.mk A190
         clear A190
         by_cases c20 : t481 = true
         ·subst c20
          replace H := IP H
          obtain ⟨ji21, hji21⟩ : ∃ j_ : Int, (wrap64 ((t475.length : Int) - 1)) = j_ := ⟨_, rfl⟩
          replace H : (if 0 ≤ (ji21) then (if (ji21) < (t475.length : Int) then (some (rd t475 (ji21), true)) else (none)) else (none)) = some (r1, r2) := by first | (rw [hji21] at H; exact H) | (simp only [hji21] at H ⊢; exact H)
          (try rw [hji21] at A19)
          have hji21w : (IntKind.i64.wrap ((t475.length : Int) - 1)) = ji21 := (i64_w _).trans hji21
          by_cases c22 : 0 ≤ (ji21)
          ·rw [if_pos c22] at H
           have c22b0 : decide (0 ≤ (ji21)) = true := decide_eq_true c22
           clear c22
           by_cases c23 : (ji21) < (t475.length : Int)
           ·rw [if_pos c23] at H
            have c23b0 : decide ((ji21) < (t475.length : Int)) = true := decide_eq_true c23
            clear c23
            simp only [Option.some.injEq, Prod.mk.injEq] at H
            obtain ⟨rfl, rfl⟩ := H
            have p472 : 0 ≤ (x24_1 : Int) := of_decide_eq_true AS
            have q472 : x24_1 < (t469.length : Int) := of_decide_eq_true AS
            obtain ⟨ad472, A472_0, c472_0, e472, hx472_0, hl472_0, hi472_0⟩ := at_L1 (Kd.S_reads' HO_22.out).2.2 x24_1 p472 q472
            cases e472
            obtain ⟨ce472, hce472, hMe472, hcc472⟩ := Kd.S_get HO_22.out [] x24_1 p472 (by first | exact q472 | exact of_decide_eq_true AS | (have e_ := (Kd.S_reads' HO_22.out).1; omega))
            obtain ⟨ve472_0, rfl, ge472_0⟩ := hMe472
            have hv472_0 := hcc472 0 _ rfl
            rw [Nat.add_zero, show ((Kd.slice 3 (Kd.int .i64))).sz = 1 from rfl, Nat.mul_one] at hv472_0
            replace hv472_0 := Option.some.inj (hv472_0.symm.trans hx472_0)
            rw [hv472_0] at ge472_0
            have HL472_0 := Aside0.mk (show Kd.R (Kd.int .i64) 3 _ _ _ _ (rd_L1 t469 x24_1) from ge472_0)
            clear hv472_0 ge472_0
            clear hcc472 hce472
            have HR472_0 := Aside0.mk hi472_0
            have HC472_0 := Aside0.mk hl472_0
            clear hi472_0 hl472_0
            replace p472 := eq_true p472
            replace q472 := eq_true q472
            try go_wp2
            have n0_ := Aside0.mk (Kd.S_drew HO_22.out)
            have n1_ := Aside0.mk (Kd.V_drew HO_469001.out)
            have n2_ := Aside0.mk (Kd.S_drew HO_469002.out)
            have n3_ := Aside0.mk (Kd.R_drew HO_469003.out)
            have n4_ := Aside0.mk (Kd.R_drew HL472_0.out)
            have n5_ := Aside0.mk (blk_drew BK468.out)
            have n6_ := Aside0.mk (Kd.C_drew HR472_0.out)
            have n7_ := Aside0.mk (below_drew1 HB.out)
            clear HO_22
            clear HO_469001
            clear HO_469002
            clear HO_469003
            clear HL472_0
            clear BK468
            clear HR472_0
            clear HB
            have HO_22 := n0_
            have HO_469001 := n1_
            have HO_469002 := n2_
            have HO_469003 := n3_
            have HL472_0 := n4_
            have BK468 := n5_
            have HR472_0 := n6_
            have HB := n7_
            clear n0_ n1_ n2_ n3_ n4_ n5_ n6_ n7_
            have p473 : 0 ≤ (0 : Int) := (by omega)
            have q473 : 0 < ((rd_L1 t469 x24_1).length : Int) := of_decide_eq_true AS
            obtain ⟨ad473, e473, hx473_0⟩ := Kd.at_int (by repeat (first | (with_reducible exact HR472_0.out) | (with_reducible refine Kd.C_drewN ?_ _) | (with_reducible refine Kd.C_drew ?_) | (with_reducible refine Kd.C_alloc ?_ _) | exact HR472_0.out)) 0 p473 q473
            cases e473
            have qi473 : (0 < (rd_L1 t469 x24_1).length) = True := eq_true (by omega)
            (try rw [show ((0 : Int)).toNat = 0 from rfl] at hx473_0)
            (try rw [Addr.add_zero'] at hx473_0)
            replace p473 := eq_true p473
            replace q473 := eq_true q473
            have p474 : 0 ≤ (1 : Int) := (by omega)
            have q474 : 1 < ((rd_L1 t469 x24_1).length : Int) := of_decide_eq_true AS
            obtain ⟨ad474, e474, hx474_0⟩ := Kd.at_int (by repeat (first | (with_reducible exact HR472_0.out) | (with_reducible refine Kd.C_drewN ?_ _) | (with_reducible refine Kd.C_drew ?_) | (with_reducible refine Kd.C_alloc ?_ _) | exact HR472_0.out)) 1 p474 q474
            obtain rfl : ad473 = ad474 := (by injection e474)
            (try simp only [show (1 : Int).toNat = 1 from rfl, Nat.reduceMul, Nat.reduceEqDiff, Go.Addr.add, ↓reduceIte] at hx474_0)
            have qi474 : (1 < (rd_L1 t469 x24_1).length) = True := eq_true (by omega)
            (try rw [show ((1 : Int)).toNat = 1 from rfl] at hx474_0)
            replace p474 := eq_true p474
            replace q474 := eq_true q474
            refine start_ (n := 15) (S := fun w' => w'.cell? ⟨gb468, 0, none⟩ = some (.int .i64 t457) ∧ w'.cell? ⟨gb468, 1, none⟩ = some (.slice Ao9 t458.length co9) ∧ w'.cell? ⟨gb468, 2, none⟩ = some (.slice Ao10 t461.length co10) ∧ w'.cell? ⟨gb468, 3, none⟩ = some (.slice Ao11 t464.length co11) ∧ w'.cell? ad473 = some (.int .i64 (rd (rd_L1 t469 x24_1) 0)) ∧ w'.cell? ⟨ad473.block, ad473.off + 1, none⟩ = some (.int .i64 (rd (rd_L1 t469 x24_1) 1))) (ds := []) #[false, false, false, false, false, false, false, false, false, false, false, false, false, false, false] (by kernel_rfl) rfl rfl ⟨(blk_cell BK468.out 0).trans rfl, (blk_cell BK468.out 1).trans rfl, (blk_cell BK468.out 2).trans rfl, (blk_cell BK468.out 3).trans rfl, hx473_0, hx474_0⟩ (fun hHeld => ?_); refine with_tabW impl_FindFull.tab7 impl_FindFull.bits7 (fun HT_ HW_ => ?_)
            generalize wr.drew = w24 at HO_22 HO_469001 HO_469002 HO_469003 HL472_0 BK468 HR472_0 HB hx473_0 hx474_0 hHeld ⊢
            refine pure_ (i := 1) (N := some 30) #[false, true, false, false, false, false, false, false, false, false, false, false, false, false, false] rfl rfl (any_of HT_.out (by kernel_rfl)) (fun _ _ _ h => h) (Or.inl ⟨by rfl, PW⟩) PU ?_
            refine pure_ (i := 2) (N := some 31) #[false, true, true, false, false, false, false, false, false, false, false, false, false, false, false] rfl rfl (any_of HT_.out (by kernel_rfl)) (fun _ _ _ h => h) (Or.inl ⟨by rfl, PW⟩) PU ?_
            refine pure_ (i := 4) (N := some 33) #[false, true, true, false, true, false, false, false, false, false, false, false, false, false, false] rfl rfl (any_of HT_.out (by kernel_rfl)) (fun _ _ _ h => h) (Or.inl ⟨by rfl, PW⟩) PU ?_
            refine pure_ (i := 5) (N := some 34) #[false, true, true, false, true, true, false, false, false, false, false, false, false, false, false] rfl rfl (any_of HT_.out (by kernel_rfl)) (fun _ _ _ h => h) (Or.inl ⟨by rfl, PW⟩) PU ?_
            refine take_ (i := 0) (N := some 29) #[true, true, true, false, true, true, false, false, false, false, false, false, false, false, false] rfl rfl (take_ofW HT_.out HW_.out (by kernel_rfl)) (fun _ _ _ h => h) (Or.inl ⟨by rfl, PT⟩) hHeld PU ?_
            refine take_ (i := 3) (N := some 32) #[true, true, true, true, true, true, false, false, false, false, false, false, false, false, false] rfl rfl (take_ofW HT_.out HW_.out (by kernel_rfl)) (fun _ _ _ h => h) (Or.inl ⟨by rfl, PT⟩) hHeld PU ?_
            refine take_ (i := 6) (N := some 35) #[true, true, true, true, true, true, true, false, false, false, false, false, false, false, false] rfl rfl (take_ofW HT_.out HW_.out (by kernel_rfl)) (fun _ _ _ h => h) (Or.inl ⟨by rfl, PT⟩) hHeld PU ?_
            refine one_ (i := 7) (N := some 36) #[true, true, true, true, true, true, true, true, false, false, false, false, false, false, false] rfl rfl (one_of HT_.out (by kernel_rfl)) (by decide) (fun K hK => ?_)
            refine goes_ Try.func33 (by kernel_rfl) rfl #[.agg #[.int .i64 t457, .slice Ao9 t458.length co9, .slice Ao10 t461.length co10, .slice Ao11 t464.length co11], .int .i64 (rd (rd_L1 t469 x24_1) 0), .int .i64 (rd (rd_L1 t469 x24_1) 1)] (by rfl) rfl rfl TA ?_
            with_reducible refine (impl_house_enter.calls k1 t457 _ _ t458 _ _ t461 _ _ t464 (rd (rd_L1 t469 x24_1) 0) (rd (rd_L1 t469 x24_1) 1) t475 t478 true _ ?side1 ?side2 ?side3 ?side4 ?side5 ?side6 A19.out).mono ?_
            (case side1 => exact CW (Kd.V_reads' HO_469001.out).2.2)
            (case side2 => exact (Kd.V_reads' HO_469001.out).2.1)
            (case side3 => exact CW (Kd.S_reads' HO_469002.out).2.2)
            (case side4 => exact (Kd.S_reads' HO_469002.out).2.1)
            (case side5 => exact CW (Kd.R_reads' HO_469003.out).2.2)
            (case side6 => exact (Kd.R_reads' HO_469003.out).2.1)
            rintro e w25 ⟨v476, v479, rfl, ho0, ho1, hb⟩
            have HS4_ := (hb.cell (World.block_lt_of_cell? _ _ (hHeld.2.2.2.2.1))).trans (hHeld.2.2.2.2.1)
            have HS5_ := (hb.cell (World.block_lt_of_cell? _ _ (hHeld.2.2.2.2.2))).trans (hHeld.2.2.2.2.2)
            refine ⟨_, rfl, ?_⟩
            have n0_ := Aside0.mk (Kd.S_elder' (KS HO_22) (Kd.R_base ho0) hb)
            have n1_ := Aside0.mk (Kd.V_elder' (by (with_reducible repeat (first | apply Kd.V_alloc | apply Kd.V_drewN | apply Kd.V_drew)); exact HO_469001.out) (Kd.R_base ho0) hb)
            have n2_ := Aside0.mk (Kd.S_elder' (KS HO_469002) (Kd.R_base ho0) hb)
            have n3_ := Aside0.mk (Kd.R_elder' (KR HO_469003) (Kd.R_base ho0) hb)
            have n4_ := Aside0.mk (Kd.R_elder' (KR HL472_0) (Kd.R_base ho0) hb)
            have n5_ := Aside0.mk (Kd.R_lower (Kd.R_new' (Kd.R_new' (Kd.R_mono (ok' := fun k_ => True) ho0 (fun _ hk_ => trivial)) (Kd.R_lt (KR HO_469003))) (Kd.R_lt (KR HL472_0))) (below_size (by repeat (first | (with_reducible first | exact HB.out | apply below_alloc | apply pw_below_drewN | apply below_drew1 | refine below_set ?_ GE468.out) | exact HB.out))))
            have n6_ := Aside0.mk (Kd.V_lower (Kd.V_mono (ok' := fun k_ => some k_ ≠ (v476 : Value).ownBlock ∧ some k_ ≠ (.slice (some ad472) t469.length co13 : Value).ownBlock ∧ some k_ ≠ (.slice Ao10 t461.length co10 : Value).ownBlock ∧ some k_ ≠ (.slice Ao11 t464.length co11 : Value).ownBlock ∧ k_ ≠ gb468) ho1 (fun k_ hk_ => ⟨hk_.2, (Kd.fresh' (Kd.S_lt (KS HO_22)) k_ hk_.1), (Kd.fresh' (Kd.S_lt (KS HO_469002)) k_ hk_.1), (Kd.fresh' (Kd.R_lt (KR HO_469003)) k_ hk_.1), (Kd.freshB (g := gb468) (o := .cells #[.int .i64 t457, .slice Ao9 t458.length co9, .slice Ao10 t461.length co10, .slice Ao11 t464.length co11] 46 (0, 0)) (BW BK468) k_ hk_.1)⟩)) (below_size (by repeat (first | (with_reducible first | exact HB.out | apply below_alloc | apply pw_below_drewN | apply below_drew1 | refine below_set ?_ GE468.out) | exact HB.out))))
            have n7_ := Aside0.mk (blk_below (g := gb468) (o := .cells #[.int .i64 t457, .slice Ao9 t458.length co9, .slice Ao10 t461.length co10, .slice Ao11 t464.length co11] 46 (0, 0)) (BW BK468) hb)
            have n8_ := Aside0.mk (Kd.C_below (by repeat (first | (with_reducible exact HR472_0.out) | (with_reducible refine Kd.C_drewN ?_ _) | (with_reducible refine Kd.C_drew ?_) | (with_reducible refine Kd.C_alloc ?_ _) | exact HR472_0.out)) hb)
            have n9_ := Aside0.mk (below_step (by repeat (first | (with_reducible first | exact HB.out | apply below_alloc | apply pw_below_drewN | apply below_drew1 | refine below_set ?_ GE468.out) | exact HB.out)) hb)
            clear HO_22
            clear HO_469001
            clear HO_469002
            clear HO_469003
            clear HL472_0
            clear BK468
            clear HR472_0
            clear HB
            have HO_22 := n0_
            have HO_469001 := n1_
            have HO_469002 := n2_
            have HO_469003 := n3_
            have HL472_0 := n4_
            have HO477 := n5_
            have HO480 := n6_
            have BK468 := n7_
            have HR472_0 := n8_
            have HB := n9_
            clear n0_ n1_ n2_ n3_ n4_ n5_ n6_ n7_ n8_ n9_
            (try clear hb)
            (try clear hb2)
            (try clear hk)
            (try clear hi)
            (try clear ho0)
            (try clear ho1)
            refine hK.out _ _ ⟨(blk_cell BK468.out 0).trans rfl, (blk_cell BK468.out 1).trans rfl, (blk_cell BK468.out 2).trans rfl, (blk_cell BK468.out 3).trans rfl, HS4_, HS5_⟩ (fun hHeld => ?_)
            clear hK K
            refine norm_ (a' := ?_) ?_ ?_
            rotate_left
            ·show Act.put _ (some 36) _ = _
             simp only [Act.put, List.setIfInBounds_toArray, List.set_cons_zero, List.set_cons_succ, i64_w, i32_w]
             rfl
            refine pure_ (i := 8) (N := some 28) #[true, true, true, true, true, true, true, true, true, false, false, false, false, false, false] rfl rfl (any_of HT_.out (by kernel_rfl)) (fun _ _ _ h => h) (Or.inl ⟨by rfl, PW⟩) PU ?_
            refine pure_ (i := 9) (N := some 37) #[true, true, true, true, true, true, true, true, true, true, false, false, false, false, false] rfl rfl (any_of HT_.out (by kernel_rfl)) (fun _ _ _ h => h) (Or.inl ⟨by rfl, PW⟩) PU ?_
            refine pure_ (i := 10) (N := some 38) #[true, true, true, true, true, true, true, true, true, true, true, false, false, false, false] rfl rfl (any_of HT_.out (by kernel_rfl)) (fun _ _ _ h => h) (Or.inl ⟨by rfl, PW⟩) PU ?_
            refine pure_ (i := 11) (N := some 39) #[true, true, true, true, true, true, true, true, true, true, true, true, false, false, false] rfl rfl (any_of HT_.out (by kernel_rfl)) (fun _ _ _ h => h) (Or.inl ⟨by rfl, PW⟩) PU ?_
            refine pure_ (i := 12) (N := some 10) #[true, true, true, true, true, true, true, true, true, true, true, true, true, false, false] rfl rfl (any_of HT_.out (by kernel_rfl)) (fun _ _ _ h => h) (Or.inl ⟨by rfl, PW⟩) PU ?_
            refine pure_ (i := 13) (N := some 11) #[true, true, true, true, true, true, true, true, true, true, true, true, true, true, false] rfl rfl (any_of HT_.out (by kernel_rfl)) (fun _ _ _ h => h) (Or.inl ⟨by rfl, PW⟩) PU ?_
            refine pure_ (i := 14) (N := some 12) #[true, true, true, true, true, true, true, true, true, true, true, true, true, true, true] rfl rfl (any_of HT_.out (by kernel_rfl)) (fun _ _ _ h => h) (Or.inl ⟨by rfl, PW⟩) PU ?_
            refine done_ (done_of HT_.out (by kernel_rfl)) ?_
            obtain ⟨Ao26, co26, eo26⟩ := Kd.R_slice HO477.out
            subst eo26
            have p482 : 0 ≤ ((ji21) : Int) := of_decide_eq_true AS
            have q482 : (ji21) < (t475.length : Int) := of_decide_eq_true AS
            obtain ⟨ad482, e482, hx482_0⟩ := Kd.at_int (Kd.R_reads' HO477.out).2.2 (ji21) p482 q482
            cases e482
            replace p482 := eq_true p482
            replace q482 := eq_true q482
            try go_wp2
            go_ret2
            exact ⟨by first | rfl | (simp [errW_none, errW_some] <;> rfl) | (simp only [← hji21]; first | rfl | (simp [errW_none, errW_some] <;> rfl)) | (simp [*, errW_none, errW_some] <;> rfl), by repeat (first | (with_reducible first | exact HB.out | apply below_alloc | apply pw_below_drewN | apply below_drew1 | refine below_set ?_ GE468.out) | exact HB.out)⟩
           ·rw [if_neg c23] at H
            cases H
          ·rw [if_neg c22] at H
           cases H
         ·replace c20 := Bool.eq_false_iff.mpr c20
          subst c20
          replace H := IN H
          have H' := Aside0.mk H
          clear H
          have p472 : 0 ≤ (x24_1 : Int) := of_decide_eq_true AS
          have q472 : x24_1 < (t469.length : Int) := of_decide_eq_true AS
          obtain ⟨ad472, A472_0, c472_0, e472, hx472_0, hl472_0, hi472_0⟩ := at_L1 (Kd.S_reads' HO_22.out).2.2 x24_1 p472 q472
          cases e472
          obtain ⟨ce472, hce472, hMe472, hcc472⟩ := Kd.S_get HO_22.out [] x24_1 p472 (by first | exact q472 | exact of_decide_eq_true AS | (have e_ := (Kd.S_reads' HO_22.out).1; omega))
          obtain ⟨ve472_0, rfl, ge472_0⟩ := hMe472
          have hv472_0 := hcc472 0 _ rfl
          rw [Nat.add_zero, show ((Kd.slice 3 (Kd.int .i64))).sz = 1 from rfl, Nat.mul_one] at hv472_0
          replace hv472_0 := Option.some.inj (hv472_0.symm.trans hx472_0)
          rw [hv472_0] at ge472_0
          have HL472_0 := Aside0.mk (show Kd.R (Kd.int .i64) 3 _ _ _ _ (rd_L1 t469 x24_1) from ge472_0)
          clear hv472_0 ge472_0
          clear hcc472 hce472
          have HR472_0 := Aside0.mk hi472_0
          have HC472_0 := Aside0.mk hl472_0
          clear hi472_0 hl472_0
          replace p472 := eq_true p472
          replace q472 := eq_true q472
          try go_wp2
          have n0_ := Aside0.mk (Kd.S_drew HO_22.out)
          have n1_ := Aside0.mk (Kd.V_drew HO_469001.out)
          have n2_ := Aside0.mk (Kd.S_drew HO_469002.out)
          have n3_ := Aside0.mk (Kd.R_drew HO_469003.out)
          have n4_ := Aside0.mk (Kd.R_drew HL472_0.out)
          have n5_ := Aside0.mk (blk_drew BK468.out)
          have n6_ := Aside0.mk (Kd.C_drew HR472_0.out)
          have n7_ := Aside0.mk (below_drew1 HB.out)
          clear HO_22
          clear HO_469001
          clear HO_469002
          clear HO_469003
          clear HL472_0
          clear BK468
          clear HR472_0
          clear HB
          have HO_22 := n0_
          have HO_469001 := n1_
          have HO_469002 := n2_
          have HO_469003 := n3_
          have HL472_0 := n4_
          have BK468 := n5_
          have HR472_0 := n6_
          have HB := n7_
          clear n0_ n1_ n2_ n3_ n4_ n5_ n6_ n7_
          have p473 : 0 ≤ (0 : Int) := (by omega)
          have q473 : 0 < ((rd_L1 t469 x24_1).length : Int) := of_decide_eq_true AS
          obtain ⟨ad473, e473, hx473_0⟩ := Kd.at_int (by repeat (first | (with_reducible exact HR472_0.out) | (with_reducible refine Kd.C_drewN ?_ _) | (with_reducible refine Kd.C_drew ?_) | (with_reducible refine Kd.C_alloc ?_ _) | exact HR472_0.out)) 0 p473 q473
          cases e473
          have qi473 : (0 < (rd_L1 t469 x24_1).length) = True := eq_true (by omega)
          (try rw [show ((0 : Int)).toNat = 0 from rfl] at hx473_0)
          (try rw [Addr.add_zero'] at hx473_0)
          replace p473 := eq_true p473
          replace q473 := eq_true q473
          have p474 : 0 ≤ (1 : Int) := (by omega)
          have q474 : 1 < ((rd_L1 t469 x24_1).length : Int) := of_decide_eq_true AS
          obtain ⟨ad474, e474, hx474_0⟩ := Kd.at_int (by repeat (first | (with_reducible exact HR472_0.out) | (with_reducible refine Kd.C_drewN ?_ _) | (with_reducible refine Kd.C_drew ?_) | (with_reducible refine Kd.C_alloc ?_ _) | exact HR472_0.out)) 1 p474 q474
          obtain rfl : ad473 = ad474 := (by injection e474)
          (try simp only [show (1 : Int).toNat = 1 from rfl, Nat.reduceMul, Nat.reduceEqDiff, Go.Addr.add, ↓reduceIte] at hx474_0)
          have qi474 : (1 < (rd_L1 t469 x24_1).length) = True := eq_true (by omega)
          (try rw [show ((1 : Int)).toNat = 1 from rfl] at hx474_0)
          replace p474 := eq_true p474
          replace q474 := eq_true q474
          refine start_ (n := 15) (S := fun w' => w'.cell? ⟨gb468, 0, none⟩ = some (.int .i64 t457) ∧ w'.cell? ⟨gb468, 1, none⟩ = some (.slice Ao9 t458.length co9) ∧ w'.cell? ⟨gb468, 2, none⟩ = some (.slice Ao10 t461.length co10) ∧ w'.cell? ⟨gb468, 3, none⟩ = some (.slice Ao11 t464.length co11) ∧ w'.cell? ad473 = some (.int .i64 (rd (rd_L1 t469 x24_1) 0)) ∧ w'.cell? ⟨ad473.block, ad473.off + 1, none⟩ = some (.int .i64 (rd (rd_L1 t469 x24_1) 1))) (ds := []) #[false, false, false, false, false, false, false, false, false, false, false, false, false, false, false] (by kernel_rfl) rfl rfl ⟨(blk_cell BK468.out 0).trans rfl, (blk_cell BK468.out 1).trans rfl, (blk_cell BK468.out 2).trans rfl, (blk_cell BK468.out 3).trans rfl, hx473_0, hx474_0⟩ (fun hHeld => ?_); refine with_tabW impl_FindFull.tab7 impl_FindFull.bits7 (fun HT_ HW_ => ?_)
          generalize wr.drew = w27 at HO_22 HO_469001 HO_469002 HO_469003 HL472_0 BK468 HR472_0 HB hx473_0 hx474_0 hHeld ⊢
          refine pure_ (i := 1) (N := some 30) #[false, true, false, false, false, false, false, false, false, false, false, false, false, false, false] rfl rfl (any_of HT_.out (by kernel_rfl)) (fun _ _ _ h => h) (Or.inl ⟨by rfl, PW⟩) PU ?_
          refine pure_ (i := 2) (N := some 31) #[false, true, true, false, false, false, false, false, false, false, false, false, false, false, false] rfl rfl (any_of HT_.out (by kernel_rfl)) (fun _ _ _ h => h) (Or.inl ⟨by rfl, PW⟩) PU ?_
          refine pure_ (i := 4) (N := some 33) #[false, true, true, false, true, false, false, false, false, false, false, false, false, false, false] rfl rfl (any_of HT_.out (by kernel_rfl)) (fun _ _ _ h => h) (Or.inl ⟨by rfl, PW⟩) PU ?_
          refine pure_ (i := 5) (N := some 34) #[false, true, true, false, true, true, false, false, false, false, false, false, false, false, false] rfl rfl (any_of HT_.out (by kernel_rfl)) (fun _ _ _ h => h) (Or.inl ⟨by rfl, PW⟩) PU ?_
          refine take_ (i := 0) (N := some 29) #[true, true, true, false, true, true, false, false, false, false, false, false, false, false, false] rfl rfl (take_ofW HT_.out HW_.out (by kernel_rfl)) (fun _ _ _ h => h) (Or.inl ⟨by rfl, PT⟩) hHeld PU ?_
          refine take_ (i := 3) (N := some 32) #[true, true, true, true, true, true, false, false, false, false, false, false, false, false, false] rfl rfl (take_ofW HT_.out HW_.out (by kernel_rfl)) (fun _ _ _ h => h) (Or.inl ⟨by rfl, PT⟩) hHeld PU ?_
          refine take_ (i := 6) (N := some 35) #[true, true, true, true, true, true, true, false, false, false, false, false, false, false, false] rfl rfl (take_ofW HT_.out HW_.out (by kernel_rfl)) (fun _ _ _ h => h) (Or.inl ⟨by rfl, PT⟩) hHeld PU ?_
          refine one_ (i := 7) (N := some 36) #[true, true, true, true, true, true, true, true, false, false, false, false, false, false, false] rfl rfl (one_of HT_.out (by kernel_rfl)) (by decide) (fun K hK => ?_)
          refine goes_ Try.func33 (by kernel_rfl) rfl #[.agg #[.int .i64 t457, .slice Ao9 t458.length co9, .slice Ao10 t461.length co10, .slice Ao11 t464.length co11], .int .i64 (rd (rd_L1 t469 x24_1) 0), .int .i64 (rd (rd_L1 t469 x24_1) 1)] (by rfl) rfl rfl TA ?_
          with_reducible refine (impl_house_enter.calls k1 t457 _ _ t458 _ _ t461 _ _ t464 (rd (rd_L1 t469 x24_1) 0) (rd (rd_L1 t469 x24_1) 1) t475 t478 false _ ?side1 ?side2 ?side3 ?side4 ?side5 ?side6 A19.out).mono ?_
          (case side1 => exact CW (Kd.V_reads' HO_469001.out).2.2)
          (case side2 => exact (Kd.V_reads' HO_469001.out).2.1)
          (case side3 => exact CW (Kd.S_reads' HO_469002.out).2.2)
          (case side4 => exact (Kd.S_reads' HO_469002.out).2.1)
          (case side5 => exact CW (Kd.R_reads' HO_469003.out).2.2)
          (case side6 => exact (Kd.R_reads' HO_469003.out).2.1)
          rintro e w28 ⟨v476, v479, rfl, ho0, ho1, hb⟩
          have HS4_ := (hb.cell (World.block_lt_of_cell? _ _ (hHeld.2.2.2.2.1))).trans (hHeld.2.2.2.2.1)
          have HS5_ := (hb.cell (World.block_lt_of_cell? _ _ (hHeld.2.2.2.2.2))).trans (hHeld.2.2.2.2.2)
          refine ⟨_, rfl, ?_⟩
          have n0_ := Aside0.mk (Kd.S_elder' (KS HO_22) (Kd.R_base ho0) hb)
          have n1_ := Aside0.mk (Kd.V_elder' (by (with_reducible repeat (first | apply Kd.V_alloc | apply Kd.V_drewN | apply Kd.V_drew)); exact HO_469001.out) (Kd.R_base ho0) hb)
          have n2_ := Aside0.mk (Kd.S_elder' (KS HO_469002) (Kd.R_base ho0) hb)
          have n3_ := Aside0.mk (Kd.R_elder' (KR HO_469003) (Kd.R_base ho0) hb)
          have n4_ := Aside0.mk (Kd.R_elder' (KR HL472_0) (Kd.R_base ho0) hb)
          have n5_ := Aside0.mk (Kd.R_lower (Kd.R_new' (Kd.R_new' (Kd.R_mono (ok' := fun k_ => True) ho0 (fun _ hk_ => trivial)) (Kd.R_lt (KR HO_469003))) (Kd.R_lt (KR HL472_0))) (below_size (by repeat (first | (with_reducible first | exact HB.out | apply below_alloc | apply pw_below_drewN | apply below_drew1 | refine below_set ?_ GE468.out) | exact HB.out))))
          have n6_ := Aside0.mk (Kd.V_lower (Kd.V_mono (ok' := fun k_ => some k_ ≠ (v476 : Value).ownBlock ∧ some k_ ≠ (.slice (some ad472) t469.length co13 : Value).ownBlock ∧ some k_ ≠ (.slice Ao10 t461.length co10 : Value).ownBlock ∧ some k_ ≠ (.slice Ao11 t464.length co11 : Value).ownBlock ∧ k_ ≠ gb468) ho1 (fun k_ hk_ => ⟨hk_.2, (Kd.fresh' (Kd.S_lt (KS HO_22)) k_ hk_.1), (Kd.fresh' (Kd.S_lt (KS HO_469002)) k_ hk_.1), (Kd.fresh' (Kd.R_lt (KR HO_469003)) k_ hk_.1), (Kd.freshB (g := gb468) (o := .cells #[.int .i64 t457, .slice Ao9 t458.length co9, .slice Ao10 t461.length co10, .slice Ao11 t464.length co11] 46 (0, 0)) (BW BK468) k_ hk_.1)⟩)) (below_size (by repeat (first | (with_reducible first | exact HB.out | apply below_alloc | apply pw_below_drewN | apply below_drew1 | refine below_set ?_ GE468.out) | exact HB.out))))
          have n7_ := Aside0.mk (blk_below (g := gb468) (o := .cells #[.int .i64 t457, .slice Ao9 t458.length co9, .slice Ao10 t461.length co10, .slice Ao11 t464.length co11] 46 (0, 0)) (BW BK468) hb)
          have n8_ := Aside0.mk (Kd.C_below (by repeat (first | (with_reducible exact HR472_0.out) | (with_reducible refine Kd.C_drewN ?_ _) | (with_reducible refine Kd.C_drew ?_) | (with_reducible refine Kd.C_alloc ?_ _) | exact HR472_0.out)) hb)
          have n9_ := Aside0.mk (below_step (by repeat (first | (with_reducible first | exact HB.out | apply below_alloc | apply pw_below_drewN | apply below_drew1 | refine below_set ?_ GE468.out) | exact HB.out)) hb)
          clear HO_22
          clear HO_469001
          clear HO_469002
          clear HO_469003
          clear HL472_0
          clear BK468
          clear HR472_0
          clear HB
          have HO_22 := n0_
          have HO_469001 := n1_
          have HO_469002 := n2_
          have HO_469003 := n3_
          have HL472_0 := n4_
          have HO477 := n5_
          have HO480 := n6_
          have BK468 := n7_
          have HR472_0 := n8_
          have HB := n9_
          clear n0_ n1_ n2_ n3_ n4_ n5_ n6_ n7_ n8_ n9_
          (try clear hb)
          (try clear hb2)
          (try clear hk)
          (try clear hi)
          (try clear ho0)
          (try clear ho1)
          refine hK.out _ _ ⟨(blk_cell BK468.out 0).trans rfl, (blk_cell BK468.out 1).trans rfl, (blk_cell BK468.out 2).trans rfl, (blk_cell BK468.out 3).trans rfl, HS4_, HS5_⟩ (fun hHeld => ?_)
          clear hK K
          refine norm_ (a' := ?_) ?_ ?_
          rotate_left
          ·show Act.put _ (some 36) _ = _
           simp only [Act.put, List.setIfInBounds_toArray, List.set_cons_zero, List.set_cons_succ, i64_w, i32_w]
           rfl
          refine pure_ (i := 8) (N := some 28) #[true, true, true, true, true, true, true, true, true, false, false, false, false, false, false] rfl rfl (any_of HT_.out (by kernel_rfl)) (fun _ _ _ h => h) (Or.inl ⟨by rfl, PW⟩) PU ?_
          refine pure_ (i := 9) (N := some 37) #[true, true, true, true, true, true, true, true, true, true, false, false, false, false, false] rfl rfl (any_of HT_.out (by kernel_rfl)) (fun _ _ _ h => h) (Or.inl ⟨by rfl, PW⟩) PU ?_
          refine pure_ (i := 10) (N := some 38) #[true, true, true, true, true, true, true, true, true, true, true, false, false, false, false] rfl rfl (any_of HT_.out (by kernel_rfl)) (fun _ _ _ h => h) (Or.inl ⟨by rfl, PW⟩) PU ?_
          refine pure_ (i := 11) (N := some 39) #[true, true, true, true, true, true, true, true, true, true, true, true, false, false, false] rfl rfl (any_of HT_.out (by kernel_rfl)) (fun _ _ _ h => h) (Or.inl ⟨by rfl, PW⟩) PU ?_
          refine pure_ (i := 12) (N := some 10) #[true, true, true, true, true, true, true, true, true, true, true, true, true, false, false] rfl rfl (any_of HT_.out (by kernel_rfl)) (fun _ _ _ h => h) (Or.inl ⟨by rfl, PW⟩) PU ?_
          refine pure_ (i := 13) (N := some 11) #[true, true, true, true, true, true, true, true, true, true, true, true, true, true, false] rfl rfl (any_of HT_.out (by kernel_rfl)) (fun _ _ _ h => h) (Or.inl ⟨by rfl, PW⟩) PU ?_
          refine pure_ (i := 14) (N := some 12) #[true, true, true, true, true, true, true, true, true, true, true, true, true, true, true] rfl rfl (any_of HT_.out (by kernel_rfl)) (fun _ _ _ h => h) (Or.inl ⟨by rfl, PW⟩) PU ?_
          refine done_ (done_of HT_.out (by kernel_rfl)) ?_
          try go_wp2
          go_roundg k1
          case measure => have := HK1.out; omega
          case rel => exact ⟨(wrap64 (x24_1 + 1)), RF, H', ⟨by have := HK1.out; omega⟩, ⟨by (with_reducible repeat (first | apply Kd.S_alloc | apply Kd.S_drewN | apply Kd.S_drew)); exact Kd.S_mono HO_22.out (fun _ hk => ⟨hk.1.1, hk.1.2⟩)⟩, ⟨by (with_reducible repeat (first | apply Kd.V_alloc | apply Kd.V_drewN | apply Kd.V_drew)); exact Kd.V_mono HO_469001.out (fun _ hk => ⟨hk.1.1, ⟨hk.1.2.1, ⟨hk.1.2.2.1, hk.1.2.2.2⟩⟩⟩)⟩, ⟨by (with_reducible repeat (first | apply Kd.S_alloc | apply Kd.S_drewN | apply Kd.S_drew)); exact Kd.S_mono HO_469002.out (fun _ hk => ⟨hk.1.1, hk.1.2⟩)⟩, ⟨by (with_reducible repeat (first | apply Kd.R_alloc | apply Kd.R_drewN | apply Kd.R_drew)); exact Kd.R_mono HO_469003.out (fun _ hk => trivial)⟩, ⟨by (with_reducible repeat (first | refine blk_drewN ?_ _ | refine blk_drew ?_ | refine blk_alloc ?_ _)); exact BK468.out⟩, ⟨by repeat (first | (with_reducible first | exact HB.out | apply below_alloc | apply pw_below_drewN | apply below_drew1 | refine below_set ?_ GE468.out) | exact HB.out)⟩⟩
        ·rw [if_neg c18] at H
         cases H
       ·rw [if_neg c17] at H
        cases H
      ·rw [if_neg c16] at H
       cases H
     ·rw [if_neg c15] at H
      cases H
    ·rw [if_neg c14] at H
     have c14b0 : decide (x24_1 < (t469.length : Int)) = false := decide_eq_false c14
     clear c14
     simp only [Option.some.injEq, Prod.mk.injEq] at H
     obtain ⟨rfl, rfl⟩ := H
     go_wp2
     go_ret2
     exact ⟨RE, by repeat (first | (with_reducible first | exact HB.out | apply below_alloc | apply pw_below_drewN | apply below_drew1 | refine below_set ?_ GE468.out) | exact HB.out)⟩
 ·replace c4 := Bool.eq_false_iff.mpr c4
  subst c4
  replace H := IN H
  simp only [Option.some.injEq, Prod.mk.injEq] at H
  obtain ⟨rfl, rfl⟩ := H
  go_enter Try.func42, Try.ntmps42
  go_wp2_with (first | ((with_reducible refine gate_callee (f := 30) rfl ?_); refine goesL_ (some 16) rfl rfl Try.func30 (by kernel_rfl) rfl #[.int .i64 a0, .slice A1 l1.length c1] rfl TA ?_; (with_reducible refine (impl_houseOf.calls k a0 (fun k_ => k_ < w.heap.size) _ _ l1 t457 t458 t461 t464 false _ ?side1 A3.out).mono ?_); (case side1 => exact Kd.V_mk HC1.out (Kd.F_below (Kd.C_F (Kd.heap_int .i64) HR1.out) BB)); rintro e w29 ⟨v459, v462, v465, rfl, ho0, ho1, ho2, hb⟩; refine ⟨_, rfl, ?_⟩; have n0_ := Aside0.mk (Kd.V_lower (Kd.V_mono (ok' := fun k_ => some k_ ≠ (v462 : Value).ownBlock ∧ some k_ ≠ (v465 : Value).ownBlock) ho0 (fun k_ hk_ => ⟨hk_.2.1, hk_.2.2⟩)) (below_size BB)); have n1_ := Aside0.mk (Kd.S_lower (Kd.S_mono (ok' := fun k_ => some k_ ≠ (v465 : Value).ownBlock) ho1 (fun _ hk_ => hk_.2)) (below_size BB)); have n2_ := Aside0.mk (Kd.R_lower (Kd.R_mono (ok' := fun k_ => True) ho2 (fun _ hk_ => trivial)) (below_size BB)); have n3_ := Aside0.mk (below_step BB hb); clear HB; have HO460 := n0_; have HO463 := n1_; have HO466 := n2_; have HB := n3_; clear n0_ n1_ n2_ n3_; (try clear hb); (try clear hb2); (try clear hk); (try clear hi); (try clear ho0); (try clear ho1); (try clear ho2)) | ((with_reducible refine gate_dst (N := 6) rfl ?_); refine box_event ?hg (N := 6) ?hd (cs := #[.int .i64 0, .slice none 0 0, .slice none 0 0, .slice none 0 0]) (t := 46) ?hr ?_; (case hd => rfl); (case hg => rfl); (case hr => exact GS); intro gb468 hg w30 hbox hb; have n0_ := Aside0.mk (Kd.V_below (Kd.V_elderB (by (with_reducible repeat (first | apply Kd.V_alloc | apply Kd.V_drewN | apply Kd.V_drew)); exact HO460.out) gb468 (Nat.le_of_eq hg.symm)) hb); have n1_ := Aside0.mk (Kd.S_below (KS HO463) hb); have n2_ := Aside0.mk (Kd.R_below (KR HO466) hb); have n3_ := Aside0.mk (below_step BB hb); have n4_ := Aside0.mk (hbox); have n5_ := Aside0.mk ((by rw [hg]; exact (below_size BB) : w.heap.size ≤ gb468)); have n6_ := Aside0.mk ((by rw [hg]; exact (below_size BB) : w.heap.size ≤ gb468)); clear HO460; clear HO463; clear HO466; clear HB; have HO460 := n0_; have HO463 := n1_; have HO466 := n2_; have HB := n3_; have BK468 := n4_; have GW468 := n5_; have GE468 := n6_; clear n0_ n1_ n2_ n3_ n4_ n5_ n6_; clear hb hbox hg; have hcz31_0 : w30.cell? ⟨gb468, 0, none⟩ = some (.int .i64 0) := (blk_cell BK468.out 0).trans rfl; have hcz31_1 : w30.cell? ⟨gb468, 1, none⟩ = some (.slice none 0 0) := (blk_cell BK468.out 1).trans rfl; have hcz31_2 : w30.cell? ⟨gb468, 2, none⟩ = some (.slice none 0 0) := (blk_cell BK468.out 2).trans rfl; have hcz31_3 : w30.cell? ⟨gb468, 3, none⟩ = some (.slice none 0 0) := (blk_cell BK468.out 3).trans rfl; have hfz31_0 := blk_frozen BK468.out 0; have hfz31_1 := blk_frozen BK468.out 1; have hfz31_2 := blk_frozen BK468.out 2; have hfz31_3 := blk_frozen BK468.out 3; obtain ⟨Ao32, co32, eo32⟩ := Kd.V_slice HO460.out; subst eo32; obtain ⟨Ao33, co33, eo33⟩ := Kd.S_slice HO463.out; subst eo33; obtain ⟨Ao34, co34, eo34⟩ := Kd.R_slice HO466.out; subst eo34))
  go_ret2
  exact ⟨RE, by repeat (first | (with_reducible first | exact HB.out | apply below_alloc | apply pw_below_drewN | apply below_drew1 | refine below_set ?_ GE468.out) | exact HB.out)⟩

end Go.Proofs.Ytgpplbaloajgdab.PFnExactFullOfMap
