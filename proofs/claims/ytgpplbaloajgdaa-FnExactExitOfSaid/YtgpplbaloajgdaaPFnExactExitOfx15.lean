-- Written by a program of this session (wip/tools/pp.sh) out of the translation; Lean checks it.
import Derived.Test.YtgpplbaloajgdaaPFnExactExitOfx0
import Derived.Test.YtgpplbaloajgdaaPFnExactExitOfx9
import Derived.Test.YtgpplbaloajgdaaPFnExactExitOfx10
import Derived.Test.YtgpplbaloajgdaaPFnExactExitOfx11
import Derived.Test.YtgpplbaloajgdaaPFnExactExitOfx13
import Derived.Test.YtgpplbaloajgdaaPFnExactExitOfx14
namespace Go.Proofs.Ytgpplbaloajgdaa.PFnExactExitOf
open Go.RowKit Go.Proofs.YtgpplbaloajgdaaOwn Go.Proofs.YtgpplbaloajgdaaW.PrintWords Go.Proofs.YtgpplbaloajgdaaW.PrintLast Go.Proofs.YtgpplbaloajgdaaW.PrintMore
attribute [local go_sem] max2_int min2_int max_two min_two max_three min_three max_four min_four   -- for this text's walks alone
set_option linter.unusedVariables false
set_option linter.unusedSimpArgs false

mutual
def impl_ExitOf.j0 : Nat → Int → Int → Bool → Int → List Int → List (List Int) → List Int → Option (List Int × Bool)
 | 0, _, _, _, _, _, _, _ => none
 | k + 1, x2, x3, x31, x456000, x456001, x456002, x456003 => if x31 = true then (some (([] : List Int), false)) else ((impl_house_enter.f k x456000 x456001 x456002 x456003 x2 x3).bind fun bt457 => (if bt457.2.2 = true then (some (([] : List Int), false)) else ((impl_house_entries.f k x456000 x456001 x456002 x456003).bind fun t464 => (impl_ExitOf.l0 k bt457.2.1 t464 (t464.length : Int) 0))))
def impl_ExitOf.l0 : Nat → List Int → List (List Int) → Int → Int → Option (List Int × Bool)
 | 0, _, _, _, _ => none
 | k + 1, x13, x42, x43, x44 => if x44 < x43 then (if 0 ≤ x44 then (if x44 < (x42.length : Int) then (if 0 < ((rd_L1 x42 x44).length : Int) then (if 1 < ((rd_L1 x42 x44).length : Int) then ((impl_sorted.f (rd (rd_L1 x42 x44) 0) (rd (rd_L1 x42 x44) 1)).bind fun t470 => ((slices_Equal_int_int.f k t470 x13).bind fun t473 => (if t473 = true then (some (rd_L1 x42 x44, true)) else (impl_ExitOf.l0 k x13 x42 x43 (wrap64 (x44 + 1)))))) else (none)) else (none)) else (none)) else (none)) else (some (([] : List Int), false))
end
def impl_ExitOf.f (k : Nat) (a0 : Int) (l1 : List Int) (a2 : Int) (a3 : Int) : Option (List Int × Bool) := (impl_houseOf.f k a0 l1).bind fun bt444 => (if bt444.2.2.2.2 = true then ((impl_house_isEntry.f k bt444.1 bt444.2.1 bt444.2.2.1 bt444.2.2.2.1 a2 a3).bind fun t456 => (impl_ExitOf.j0 k a2 a3 (!t456) bt444.1 bt444.2.1 bt444.2.2.1 bt444.2.2.2.1)) else (impl_ExitOf.j0 k a2 a3 true bt444.1 bt444.2.1 bt444.2.2.1 bt444.2.2.2.1))
theorem impl_ExitOf.mono_l : ∀ k, (∀ y0 y1 y2 y3 y4 y5 y6, LeO (impl_ExitOf.j0 k y0 y1 y2 y3 y4 y5 y6) (impl_ExitOf.j0 (k + 1) y0 y1 y2 y3 y4 y5 y6)) ∧ (∀ y0 y1 y2 y3, LeO (impl_ExitOf.l0 k y0 y1 y2 y3) (impl_ExitOf.l0 (k + 1) y0 y1 y2 y3))
 | 0 => ⟨fun _ _ _ _ _ _ _ r h => by simp [impl_ExitOf.j0] at h, fun _ _ _ _ r h => by simp [impl_ExitOf.l0] at h⟩
 | k + 1 => by
  obtain ⟨ih0, ih1⟩ := impl_ExitOf.mono_l k
  refine ⟨?_, ?_⟩
  ·intro y0 y1 y2 y3 y4 y5 y6
   unfold impl_ExitOf.j0
   repeat' first
   | (with_reducible exact ih0 _ _ _ _ _ _ _)
   | (with_reducible exact ih1 _ _ _ _)
   | (with_reducible exact impl_houseOf.mono _ _ _)
   | (with_reducible exact impl_house_enter.mono _ _ _ _ _ _ _)
   | (with_reducible exact impl_house_entries.mono _ _ _ _ _)
   | (with_reducible exact impl_house_isEntry.mono _ _ _ _ _ _ _)
   | (with_reducible exact slices_Equal_int_int.mono _ _ _)
   | (with_reducible exact LeO.refl _)
   | (with_reducible exact LeO.none _)
   | (with_reducible refine LeO.ite ?_ ?_)
   | (with_reducible refine LeO.bind ?_ (fun _ => ?_))
   | exact ih0 _ _ _ _ _ _ _
   | exact ih1 _ _ _ _
   | exact impl_houseOf.mono _ _ _
   | exact impl_house_enter.mono _ _ _ _ _ _ _
   | exact impl_house_entries.mono _ _ _ _ _
   | exact impl_house_isEntry.mono _ _ _ _ _ _ _
   | exact slices_Equal_int_int.mono _ _ _
   | exact LeO.none _
   | refine LeO.ite ?_ ?_
   | refine LeO.bind ?_ (fun _ => ?_)
  ·intro y0 y1 y2 y3
   unfold impl_ExitOf.l0
   repeat' first
   | (with_reducible exact ih0 _ _ _ _ _ _ _)
   | (with_reducible exact ih1 _ _ _ _)
   | (with_reducible exact impl_houseOf.mono _ _ _)
   | (with_reducible exact impl_house_enter.mono _ _ _ _ _ _ _)
   | (with_reducible exact impl_house_entries.mono _ _ _ _ _)
   | (with_reducible exact impl_house_isEntry.mono _ _ _ _ _ _ _)
   | (with_reducible exact slices_Equal_int_int.mono _ _ _)
   | (with_reducible exact LeO.refl _)
   | (with_reducible exact LeO.none _)
   | (with_reducible refine LeO.ite ?_ ?_)
   | (with_reducible refine LeO.bind ?_ (fun _ => ?_))
   | exact ih0 _ _ _ _ _ _ _
   | exact ih1 _ _ _ _
   | exact impl_houseOf.mono _ _ _
   | exact impl_house_enter.mono _ _ _ _ _ _ _
   | exact impl_house_entries.mono _ _ _ _ _
   | exact impl_house_isEntry.mono _ _ _ _ _ _ _
   | exact slices_Equal_int_int.mono _ _ _
   | exact LeO.none _
   | refine LeO.ite ?_ ?_
   | refine LeO.bind ?_ (fun _ => ?_)
theorem impl_ExitOf.mono : ∀ a0 a1 a2 a3 k, LeO (impl_ExitOf.f k a0 a1 a2 a3) (impl_ExitOf.f (k + 1) a0 a1 a2 a3) := by
 intro a0 a1 a2 a3 k
 obtain ⟨ih0, ih1⟩ := impl_ExitOf.mono_l k
 unfold impl_ExitOf.f
 repeat' first
   | (with_reducible exact ih0 _ _ _ _ _ _ _)
   | (with_reducible exact ih1 _ _ _ _)
   | (with_reducible exact impl_houseOf.mono _ _ _)
   | (with_reducible exact impl_house_enter.mono _ _ _ _ _ _ _)
   | (with_reducible exact impl_house_entries.mono _ _ _ _ _)
   | (with_reducible exact impl_house_isEntry.mono _ _ _ _ _ _ _)
   | (with_reducible exact slices_Equal_int_int.mono _ _ _)
   | (with_reducible exact LeO.refl _)
   | (with_reducible exact LeO.none _)
   | (with_reducible refine LeO.ite ?_ ?_)
   | (with_reducible refine LeO.bind ?_ (fun _ => ?_))
   | exact ih0 _ _ _ _ _ _ _
   | exact ih1 _ _ _ _
   | exact impl_houseOf.mono _ _ _
   | exact impl_house_enter.mono _ _ _ _ _ _ _
   | exact impl_house_entries.mono _ _ _ _ _
   | exact impl_house_isEntry.mono _ _ _ _ _ _ _
   | exact slices_Equal_int_int.mono _ _ _
   | exact LeO.none _
   | refine LeO.ite ?_ ?_
   | refine LeO.bind ?_ (fun _ => ?_)
def impl_ExitOf.T10 : Bool × List (List Nat × List Nat) := (true, [([], []), ([0], [0]), ([1], [1]), ([], []), ([3], [3]), ([4], [4]), ([2, 5], [2, 5]), ([], []), ([6, 7, 6], [6, 7])])
def impl_ExitOf.B10 : List Nat := [0, 1, 3, 0, 8, 24, 63, 0, 255]
theorem impl_ExitOf.tab10 : rtab .any (opsOf Try.f16 10) = impl_ExitOf.T10 := by kernel_rfl
theorem impl_ExitOf.bits10 : waitsOk impl_ExitOf.T10.2 impl_ExitOf.B10 = true := by kernel_rfl
set_option maxHeartbeats 8000000 in
set_option maxRecDepth 100000 in
theorem impl_ExitOf.calls (k : Nat) (a0 : Int) (A1 : Option Addr) (c1 : Nat) (l1 : List Int) (a2 : Int) (a3 : Int) (r1 : List Int) (r2 : Bool) (w : World) (hr1 : Kd.C (Kd.int .i64) w A1 l1.length l1) (hc1 : l1.length ≤ c1) (h : impl_ExitOf.f k a0 l1 a2 a3 = some (r1, r2)) :
  Calls Try.prog 16 #[.int .i64 a0, .slice A1 l1.length c1, .int .i64 a2, .int .i64 a3] w fun e w' => ∃ v0_ : Value, e = .returned (.tuple #[v0_, .bool r2]) ∧ Kd.R (Kd.int .i64) 3 w' w.heap.size (fun _ => True) v0_ r1 ∧ Below w.heap.size w w' := by
 have hu42 := Try.underlying42; have HR1 := Aside0.mk hr1; have HC1 := Aside0.mk hc1; clear hr1 hc1; have HB := Aside0.mk (Below.refl w.heap.size w); have H : ((impl_houseOf.f k a0 l1).bind fun bt444 => (if bt444.2.2.2.2 = true then ((impl_house_isEntry.f k bt444.1 bt444.2.1 bt444.2.2.1 bt444.2.2.2.1 a2 a3).bind fun t456 => (impl_ExitOf.j0 k a2 a3 (!t456) bt444.1 bt444.2.1 bt444.2.2.1 bt444.2.2.2.1)) else (impl_ExitOf.j0 k a2 a3 true bt444.1 bt444.2.1 bt444.2.2.1 bt444.2.2.2.1))) = some (r1, r2) := h; clear h; replace H := Option.bind_eq_some_iff.mp H; obtain ⟨⟨t444, t445, t448, t451, t454⟩, A50, H⟩ := H; replace H : (if t454 = true then ((impl_house_isEntry.f k t444 t445 t448 t451 a2 a3).bind fun t456 => (impl_ExitOf.j0 k a2 a3 (!t456) t444 t445 t448 t451)) else (impl_ExitOf.j0 k a2 a3 true t444 t445 t448 t451)) = some (r1, r2) := H; have A5 := Aside0.mk A50; clear A50; have HC6 := Aside0.mk H; clear H
 go_enter Try.func16, Try.ntmps16
 go_upto_region 2 with (first | ((with_reducible refine gate_callee (f := 24) rfl ?_); refine goesL_ (some 20) rfl rfl Try.func24 (by kernel_rfl) rfl #[.int .i64 a0, .slice A1 l1.length c1] rfl TA ?_; (with_reducible refine (impl_houseOf.calls k a0 (fun k_ => k_ < w.heap.size) _ _ l1 t444 t445 t448 t451 t454 _ ?side1 A5.out).mono ?_); (case side1 => exact Kd.V_mk HC1.out (Kd.F_below (Kd.C_F (Kd.heap_int .i64) HR1.out) BB)); rintro e w7 ⟨v446, v449, v452, rfl, ho0, ho1, ho2, hb⟩; refine ⟨_, rfl, ?_⟩; have n0_ := Aside0.mk (Kd.V_lower (Kd.V_mono (ok' := fun k_ => some k_ ≠ (v449 : Value).ownBlock ∧ some k_ ≠ (v452 : Value).ownBlock) ho0 (fun k_ hk_ => ⟨hk_.2.1, hk_.2.2⟩)) (below_size BB)); have n1_ := Aside0.mk (Kd.S_lower (Kd.S_mono (ok' := fun k_ => some k_ ≠ (v452 : Value).ownBlock) ho1 (fun _ hk_ => hk_.2)) (below_size BB)); have n2_ := Aside0.mk (Kd.R_lower (Kd.R_mono (ok' := fun k_ => True) ho2 (fun _ hk_ => trivial)) (below_size BB)); have n3_ := Aside0.mk (below_step BB hb); clear HB; have HO447 := n0_; have HO450 := n1_; have HO453 := n2_; have HB := n3_; clear n0_ n1_ n2_ n3_; (try clear hb); (try clear hb2); (try clear hk); (try clear hi); (try clear ho0); (try clear ho1); (try clear ho2)) | ((with_reducible refine gate_dst (N := 10) rfl ?_); refine box_event ?hg (N := 10) ?hd (cs := #[.int .i64 0, .slice none 0 0, .slice none 0 0, .slice none 0 0]) (t := 42) ?hr ?_; (case hd => rfl); (case hg => rfl); (case hr => first | (go_simp; done) | (go_simp; rfl)); intro gb455 hg w8 hbox hb; have n0_ := Aside0.mk (Kd.V_below (Kd.V_elderB (by (with_reducible repeat (first | apply Kd.V_alloc | apply Kd.V_drewN | apply Kd.V_drew)); exact HO447.out) gb455 (Nat.le_of_eq hg.symm)) hb); have n1_ := Aside0.mk (Kd.S_below (KS HO450) hb); have n2_ := Aside0.mk (Kd.R_below (KR HO453) hb); have n3_ := Aside0.mk (below_step BB hb); have n4_ := Aside0.mk (hbox); have n5_ := Aside0.mk ((by rw [hg]; exact (below_size BB) : w.heap.size ≤ gb455)); have n6_ := Aside0.mk ((by rw [hg]; exact (below_size BB) : w.heap.size ≤ gb455)); clear HO447; clear HO450; clear HO453; clear HB; have HO447 := n0_; have HO450 := n1_; have HO453 := n2_; have HB := n3_; have BK455 := n4_; have GW455 := n5_; have GE455 := n6_; clear n0_ n1_ n2_ n3_ n4_ n5_ n6_; clear hb hbox hg; have hcz9_0 : w8.cell? ⟨gb455, 0, none⟩ = some (.int .i64 0) := (blk_cell BK455.out 0).trans rfl; have hcz9_1 : w8.cell? ⟨gb455, 1, none⟩ = some (.slice none 0 0) := (blk_cell BK455.out 1).trans rfl; have hcz9_2 : w8.cell? ⟨gb455, 2, none⟩ = some (.slice none 0 0) := (blk_cell BK455.out 2).trans rfl; have hcz9_3 : w8.cell? ⟨gb455, 3, none⟩ = some (.slice none 0 0) := (blk_cell BK455.out 3).trans rfl; have hfz9_0 := blk_frozen BK455.out 0; have hfz9_1 := blk_frozen BK455.out 1; have hfz9_2 := blk_frozen BK455.out 2; have hfz9_3 := blk_frozen BK455.out 3; obtain ⟨Ao10, co10, eo10⟩ := Kd.V_slice HO447.out; subst eo10; obtain ⟨Ao11, co11, eo11⟩ := Kd.S_slice HO450.out; subst eo11; obtain ⟨Ao12, co12, eo12⟩ := Kd.R_slice HO453.out; subst eo12))
 (try simp only [Act.put, List.setIfInBounds_toArray, List.set_cons_zero, List.set_cons_succ])
 go_cut [31] (fun v31 wc => ∃ (kq : Nat) (x31_5 : Bool), v31 = .bool x31_5 ∧ Aside0 (impl_ExitOf.j0 kq a2 a3 x31_5 t444 t445 t448 t451 = some (r1, r2)) ∧ Aside0 (kq ≤ k) ∧ Aside0 (Kd.V (Kd.int .i64) 3 wc w.heap.size (fun k_ => some k_ ≠ ((.slice Ao11 t448.length co11) : Value).ownBlock ∧ some k_ ≠ ((.slice Ao12 t451.length co12) : Value).ownBlock ∧ k_ ≠ gb455) (.slice Ao10 t445.length co10) t445) ∧ Aside0 (Kd.S (Kd.slice 3 (Kd.int .i64)) 22 wc w.heap.size (fun k_ => some k_ ≠ ((.slice Ao12 t451.length co12) : Value).ownBlock) (.slice Ao11 t448.length co11) t448) ∧ Aside0 (Kd.R (Kd.int .i64) 3 wc w.heap.size (fun _ => True) (.slice Ao12 t451.length co12) t451) ∧ Aside0 (wc.heap[gb455]? = some (.cells #[.int .i64 t444, (.slice Ao10 t445.length co10), (.slice Ao11 t448.length co11), (.slice Ao12 t451.length co12)] 42 (0, 0))) ∧ Aside0 (Below w.heap.size w wc))
 case first =>
  have H := HC6.out; clear HC6
  by_cases c13 : t454 = true
  ·subst c13
   have H1 : ((impl_house_isEntry.f k t444 t445 t448 t451 a2 a3).bind fun t456 => (impl_ExitOf.j0 k a2 a3 (!t456) t444 t445 t448 t451)) = some (r1, r2) := by rw [if_pos rfl] at H; exact H
   clear H; have H := H1; clear H1; replace H := Option.bind_eq_some_iff.mp H; obtain ⟨t456, A140, H⟩ := H; replace H : (impl_ExitOf.j0 k a2 a3 (!t456) t444 t445 t448 t451) = some (r1, r2) := H; have A14 := Aside0.mk A140; clear A140; have H' := Aside0.mk H; clear H; have hcz15_0 : w8.cell? ⟨gb455, 0, none⟩ = some (.int .i64 0) := (blk_cell BK455.out 0).trans rfl; have hcz15_1 : w8.cell? ⟨gb455, 1, none⟩ = some (.slice none 0 0) := (blk_cell BK455.out 1).trans rfl; have hcz15_2 : w8.cell? ⟨gb455, 2, none⟩ = some (.slice none 0 0) := (blk_cell BK455.out 2).trans rfl; have hcz15_3 : w8.cell? ⟨gb455, 3, none⟩ = some (.slice none 0 0) := (blk_cell BK455.out 3).trans rfl; have hfz15_0 := blk_frozen BK455.out 0; have hfz15_1 := blk_frozen BK455.out 1; have hfz15_2 := blk_frozen BK455.out 2; have hfz15_3 := blk_frozen BK455.out 3
   go_wp2_with (first | (go_at_call 28; (with_reducible refine (impl_house_isEntry.calls k t444 _ _ t445 _ _ t448 _ _ t451 a2 a3 t456 _ ?side1 ?side2 ?side3 ?side4 ?side5 ?side6 A14.out).mono ?_); (case side1 => refine (Kd.V_reads' (e := 3) (base := w.heap.size) (ok := fun k_ => ((some k_ ≠ (.slice Ao11 t448.length co11 : Value).ownBlock ∧ some k_ ≠ (.slice Ao12 t451.length co12 : Value).ownBlock) ∧ k_ ≠ gb455)) (n := t445.length) (c := co10) ?_).2.2; exact (by (with_reducible repeat (first | apply Kd.V_alloc | apply Kd.V_drewN | apply Kd.V_drew)); exact (Kd.V_mono (Kd.V_far (p := ⟨gb455, 3, none⟩) (Kd.V_far (p := ⟨gb455, 2, none⟩) (Kd.V_far (p := ⟨gb455, 1, none⟩) (Kd.V_far (p := ⟨gb455, 0, none⟩) (Kd.V_mono HO447.out (fun k_ hk => (⟨hk, hk.2⟩ : _ ∧ k_ ≠ gb455))) (fun _ hk => hk.2) (.int .i64 t444)) (fun _ hk => hk.2) (.slice Ao10 t445.length co10)) (fun _ hk => hk.2) (.slice Ao11 t448.length co11)) (fun _ hk => hk.2) (.slice Ao12 t451.length co12)) (fun _ h_ => h_.1)))); (case side2 => exact (Kd.V_reads' HO447.out).2.1); (case side3 => refine (Kd.S_reads' (e := 22) (base := w.heap.size) (ok := fun k_ => some k_ ≠ (.slice Ao12 t451.length co12 : Value).ownBlock) (n := t448.length) (c := co11) ?_).2.2; exact (by (with_reducible repeat (first | apply Kd.S_alloc | apply Kd.S_drewN | apply Kd.S_drew)); exact (Kd.S_mono (Kd.S_far (p := ⟨gb455, 3, none⟩) (Kd.S_far (p := ⟨gb455, 2, none⟩) (Kd.S_far (p := ⟨gb455, 1, none⟩) (Kd.S_far (p := ⟨gb455, 0, none⟩) (Kd.S_types HO450.out BK455.out (by decide)) (fun _ hk => hk.2) (.int .i64 t444)) (fun _ hk => hk.2) (.slice Ao10 t445.length co10)) (fun _ hk => hk.2) (.slice Ao11 t448.length co11)) (fun _ hk => hk.2) (.slice Ao12 t451.length co12)) (fun _ h_ => h_.1)))); (case side4 => exact (Kd.S_reads' HO450.out).2.1); (case side5 => refine (Kd.R_reads' (e := 3) (base := w.heap.size) (ok := fun k_ => True) (n := t451.length) (c := co12) ?_).2.2; exact (by (with_reducible repeat (first | apply Kd.R_alloc | apply Kd.R_drewN | apply Kd.R_drew)); exact (Kd.R_mono (Kd.R_far (p := ⟨gb455, 3, none⟩) (Kd.R_far (p := ⟨gb455, 2, none⟩) (Kd.R_far (p := ⟨gb455, 1, none⟩) (Kd.R_far (p := ⟨gb455, 0, none⟩) (Kd.R_types HO453.out BK455.out (by decide)) (fun _ hk => hk.2) (.int .i64 t444)) (fun _ hk => hk.2) (.slice Ao10 t445.length co10)) (fun _ hk => hk.2) (.slice Ao11 t448.length co11)) (fun _ hk => hk.2) (.slice Ao12 t451.length co12)) (fun _ h_ => h_.1)))); (case side6 => exact (Kd.R_reads' HO453.out).2.1); rintro e w16 ⟨rfl, hb⟩; have n0_ := Aside0.mk (Kd.V_below (by (with_reducible repeat (first | apply Kd.V_alloc | apply Kd.V_drewN | apply Kd.V_drew)); exact (Kd.V_mono (Kd.V_far (p := ⟨gb455, 3, none⟩) (Kd.V_far (p := ⟨gb455, 2, none⟩) (Kd.V_far (p := ⟨gb455, 1, none⟩) (Kd.V_far (p := ⟨gb455, 0, none⟩) (Kd.V_mono HO447.out (fun k_ hk => (⟨hk, hk.2⟩ : _ ∧ k_ ≠ gb455))) (fun _ hk => hk.2) (.int .i64 t444)) (fun _ hk => hk.2) (.slice Ao10 t445.length co10)) (fun _ hk => hk.2) (.slice Ao11 t448.length co11)) (fun _ hk => hk.2) (.slice Ao12 t451.length co12)) (fun _ h_ => h_.1))) hb); have n1_ := Aside0.mk (Kd.S_below (by (with_reducible repeat (first | apply Kd.S_alloc | apply Kd.S_drewN | apply Kd.S_drew)); exact (Kd.S_mono (Kd.S_far (p := ⟨gb455, 3, none⟩) (Kd.S_far (p := ⟨gb455, 2, none⟩) (Kd.S_far (p := ⟨gb455, 1, none⟩) (Kd.S_far (p := ⟨gb455, 0, none⟩) (Kd.S_types HO450.out BK455.out (by decide)) (fun _ hk => hk.2) (.int .i64 t444)) (fun _ hk => hk.2) (.slice Ao10 t445.length co10)) (fun _ hk => hk.2) (.slice Ao11 t448.length co11)) (fun _ hk => hk.2) (.slice Ao12 t451.length co12)) (fun _ h_ => h_.1))) hb); have n2_ := Aside0.mk (Kd.R_below (by (with_reducible repeat (first | apply Kd.R_alloc | apply Kd.R_drewN | apply Kd.R_drew)); exact (Kd.R_mono (Kd.R_far (p := ⟨gb455, 3, none⟩) (Kd.R_far (p := ⟨gb455, 2, none⟩) (Kd.R_far (p := ⟨gb455, 1, none⟩) (Kd.R_far (p := ⟨gb455, 0, none⟩) (Kd.R_types HO453.out BK455.out (by decide)) (fun _ hk => hk.2) (.int .i64 t444)) (fun _ hk => hk.2) (.slice Ao10 t445.length co10)) (fun _ hk => hk.2) (.slice Ao11 t448.length co11)) (fun _ hk => hk.2) (.slice Ao12 t451.length co12)) (fun _ h_ => h_.1))) hb); have n3_ := Aside0.mk (blk_below (g := gb455) (o := .cells #[.int .i64 t444, .slice Ao10 t445.length co10, .slice Ao11 t448.length co11, .slice Ao12 t451.length co12] 42 (0, 0)) (by (with_reducible repeat (first | refine blk_drewN ?_ _ | refine blk_drew ?_ | refine blk_alloc ?_ _)); refine blk_put (cs := #[.int .i64 t444, .slice Ao10 t445.length co10, .slice Ao11 t448.length co11, .slice none 0 0]) ?_ 3 _ rfl; (with_reducible repeat (first | refine blk_drewN ?_ _ | refine blk_drew ?_ | refine blk_alloc ?_ _)); refine blk_put (cs := #[.int .i64 t444, .slice Ao10 t445.length co10, .slice none 0 0, .slice none 0 0]) ?_ 2 _ rfl; (with_reducible repeat (first | refine blk_drewN ?_ _ | refine blk_drew ?_ | refine blk_alloc ?_ _)); refine blk_put (cs := #[.int .i64 t444, .slice none 0 0, .slice none 0 0, .slice none 0 0]) ?_ 1 _ rfl; (with_reducible repeat (first | refine blk_drewN ?_ _ | refine blk_drew ?_ | refine blk_alloc ?_ _)); refine blk_put (cs := #[.int .i64 0, .slice none 0 0, .slice none 0 0, .slice none 0 0]) ?_ 0 _ rfl; (with_reducible repeat (first | refine blk_drewN ?_ _ | refine blk_drew ?_ | refine blk_alloc ?_ _)); exact BK455.out) hb); have n4_ := Aside0.mk (below_step (by repeat (first | (with_reducible first | exact HB.out | apply below_alloc | apply pw_below_drewN | apply below_drew1 | refine below_set ?_ GE455.out) | exact HB.out)) hb); clear HO447; clear HO450; clear HO453; clear BK455; clear HB; have HO447 := n0_; have HO450 := n1_; have HO453 := n2_; have BK455 := n3_; have HB := n4_; clear n0_ n1_ n2_ n3_ n4_; (try clear hb); (try clear hb2); (try clear hk); (try clear hi)))
   go_meet
   case rel => exact ⟨_, (!t456), RF, H', ⟨by first | omega | exact Nat.le_refl _⟩, ⟨by (with_reducible repeat (first | apply Kd.V_alloc | apply Kd.V_drewN | apply Kd.V_drew)); exact Kd.V_mono HO447.out (fun _ hk => ⟨hk.1.1, ⟨hk.1.2, hk.2⟩⟩)⟩, ⟨KS HO450⟩, ⟨KR HO453⟩, ⟨by (with_reducible repeat (first | refine blk_drewN ?_ _ | refine blk_drew ?_ | refine blk_alloc ?_ _)); exact BK455.out⟩, ⟨by repeat (first | (with_reducible first | exact HB.out | apply below_alloc | apply pw_below_drewN | apply below_drew1 | refine below_set ?_ GE455.out) | exact HB.out)⟩⟩
  ·replace c13 := Bool.eq_false_iff.mpr c13
   subst c13; have H1 : (impl_ExitOf.j0 k a2 a3 true t444 t445 t448 t451) = some (r1, r2) := by rw [if_neg (show ¬ (false = true) by decide)] at H; exact H
   clear H; have H := H1; clear H1; have H' := Aside0.mk H; clear H
   go_wp2
   go_meet
   case rel => exact ⟨_, (true), RF, H', ⟨by first | omega | exact Nat.le_refl _⟩, ⟨by (with_reducible repeat (first | apply Kd.V_alloc | apply Kd.V_drewN | apply Kd.V_drew)); exact Kd.V_mono (Kd.V_far (p := ⟨gb455, 3, none⟩) (Kd.V_far (p := ⟨gb455, 2, none⟩) (Kd.V_far (p := ⟨gb455, 1, none⟩) (Kd.V_far (p := ⟨gb455, 0, none⟩) (Kd.V_mono HO447.out (fun k_ hk => (⟨hk, hk.2⟩ : _ ∧ k_ ≠ gb455))) (fun _ hk => hk.2) (.int .i64 t444)) (fun _ hk => hk.2) (.slice Ao10 t445.length co10)) (fun _ hk => hk.2) (.slice Ao11 t448.length co11)) (fun _ hk => hk.2) (.slice Ao12 t451.length co12)) (fun _ hk => ⟨hk.1.1.1, ⟨hk.1.1.2, hk.1.2⟩⟩)⟩, ⟨by (with_reducible repeat (first | apply Kd.S_alloc | apply Kd.S_drewN | apply Kd.S_drew)); exact Kd.S_mono (Kd.S_far (p := ⟨gb455, 3, none⟩) (Kd.S_far (p := ⟨gb455, 2, none⟩) (Kd.S_far (p := ⟨gb455, 1, none⟩) (Kd.S_far (p := ⟨gb455, 0, none⟩) (Kd.S_types HO450.out BK455.out (by decide)) (fun _ hk => hk.2) (.int .i64 t444)) (fun _ hk => hk.2) (.slice Ao10 t445.length co10)) (fun _ hk => hk.2) (.slice Ao11 t448.length co11)) (fun _ hk => hk.2) (.slice Ao12 t451.length co12)) (fun _ hk => hk.1)⟩, ⟨by (with_reducible repeat (first | apply Kd.R_alloc | apply Kd.R_drewN | apply Kd.R_drew)); exact Kd.R_mono (Kd.R_far (p := ⟨gb455, 3, none⟩) (Kd.R_far (p := ⟨gb455, 2, none⟩) (Kd.R_far (p := ⟨gb455, 1, none⟩) (Kd.R_far (p := ⟨gb455, 0, none⟩) (Kd.R_types HO453.out BK455.out (by decide)) (fun _ hk => hk.2) (.int .i64 t444)) (fun _ hk => hk.2) (.slice Ao10 t445.length co10)) (fun _ hk => hk.2) (.slice Ao11 t448.length co11)) (fun _ hk => hk.2) (.slice Ao12 t451.length co12)) (fun _ hk => trivial)⟩, ⟨by (with_reducible repeat (first | refine blk_drewN ?_ _ | refine blk_drew ?_ | refine blk_alloc ?_ _)); refine blk_put (cs := #[.int .i64 t444, .slice Ao10 t445.length co10, .slice Ao11 t448.length co11, .slice none 0 0]) ?_ 3 _ rfl; (with_reducible repeat (first | refine blk_drewN ?_ _ | refine blk_drew ?_ | refine blk_alloc ?_ _)); refine blk_put (cs := #[.int .i64 t444, .slice Ao10 t445.length co10, .slice none 0 0, .slice none 0 0]) ?_ 2 _ rfl; (with_reducible repeat (first | refine blk_drewN ?_ _ | refine blk_drew ?_ | refine blk_alloc ?_ _)); refine blk_put (cs := #[.int .i64 t444, .slice none 0 0, .slice none 0 0, .slice none 0 0]) ?_ 1 _ rfl; (with_reducible repeat (first | refine blk_drewN ?_ _ | refine blk_drew ?_ | refine blk_alloc ?_ _)); refine blk_put (cs := #[.int .i64 0, .slice none 0 0, .slice none 0 0, .slice none 0 0]) ?_ 0 _ rfl; (with_reducible repeat (first | refine blk_drewN ?_ _ | refine blk_drew ?_ | refine blk_alloc ?_ _)); exact BK455.out⟩, ⟨by repeat (first | (with_reducible first | exact HB.out | apply below_alloc | apply pw_below_drewN | apply below_drew1 | refine below_set ?_ GE455.out) | exact HB.out)⟩⟩
 case rest =>
  clear HC6
  try clear c1
  try clear c2
  try clear p2
  try clear p6
  try clear c13
  try clear c16
  try clear hcz15_0
  try clear hcz15_1
  try clear hcz15_2
  try clear hcz15_3
  try clear hcz9_0
  try clear hcz9_1
  try clear hcz9_2
  try clear hcz9_3
  try clear hfz15_0
  try clear hfz15_1
  try clear hfz15_2
  try clear hfz15_3
  try clear hfz9_0
  try clear hfz9_1
  try clear hfz9_2
  try clear hfz9_3
  obtain ⟨kq, x31_5, rfl, HA, HJ5, HO_456001, HO_456002, HO_456003, BK455, HB⟩ := hcut; cases kq with
  | zero => exact absurd HA.out (by simp [impl_ExitOf.j0])
  | succ kj5 =>
   have H := HA.out; clear HA
   simp only [impl_ExitOf.j0] at H
   by_cases c17 : x31_5 = true
   ·subst c17
    have H1 : (some (([] : List Int), false)) = some (r1, r2) := by rw [if_pos rfl] at H; exact H
    clear H; have H := H1; clear H1
    simp only [Option.some.injEq, Prod.mk.injEq] at H
    obtain ⟨rfl, rfl⟩ := H
    go_wp2
    go_ret2
    exact ⟨_, by first | rfl | (simp [errW_none, errW_some] <;> rfl) | (simp [*, errW_none, errW_some] <;> rfl), by first | exact Kd.R_nil _ _ _ _ _ | exact Kd.N_nil _ _ _ _ _ | exact Kd.V_nil _ _ _ _ _ | exact Kd.Q_nil _ _ _ _ _ | exact Kd.S_nil _ _ _ _ _, by repeat (first | (with_reducible first | exact HB.out | apply below_alloc | apply pw_below_drewN | apply below_drew1 | refine below_set ?_ GE455.out) | exact HB.out)⟩
   ·replace c17 := Bool.eq_false_iff.mpr c17
    subst c17; have H1 : ((impl_house_enter.f kj5 t444 t445 t448 t451 a2 a3).bind fun bt457 => (if bt457.2.2 = true then (some (([] : List Int), false)) else ((impl_house_entries.f kj5 t444 t445 t448 t451).bind fun t464 => (impl_ExitOf.l0 kj5 bt457.2.1 t464 (t464.length : Int) 0)))) = some (r1, r2) := by rw [if_neg (show ¬ (false = true) by decide)] at H; exact H
    clear H; have H := H1; clear H1; replace H := Option.bind_eq_some_iff.mp H; obtain ⟨⟨t457, t460, t463⟩, A180, H⟩ := H; replace H : (if t463 = true then (some (([] : List Int), false)) else ((impl_house_entries.f kj5 t444 t445 t448 t451).bind fun t464 => (impl_ExitOf.l0 kj5 t460 t464 (t464.length : Int) 0))) = some (r1, r2) := H; have A18 := Aside0.mk A180; clear A180
    by_cases c19 : t463 = true
    ·subst c19
     have H1 : (some (([] : List Int), false)) = some (r1, r2) := by rw [if_pos rfl] at H; exact H
     clear H; have H := H1; clear H1
     simp only [Option.some.injEq, Prod.mk.injEq] at H
     obtain ⟨rfl, rfl⟩ := H; have hcz20_0 : wc.cell? ⟨gb455, 0, none⟩ = some (.int .i64 t444) := (blk_cell BK455.out 0).trans rfl; have hcz20_1 : wc.cell? ⟨gb455, 1, none⟩ = some (.slice Ao10 t445.length co10) := (blk_cell BK455.out 1).trans rfl; have hcz20_2 : wc.cell? ⟨gb455, 2, none⟩ = some (.slice Ao11 t448.length co11) := (blk_cell BK455.out 2).trans rfl; have hcz20_3 : wc.cell? ⟨gb455, 3, none⟩ = some (.slice Ao12 t451.length co12) := (blk_cell BK455.out 3).trans rfl; have hfz20_0 := blk_frozen BK455.out 0; have hfz20_1 := blk_frozen BK455.out 1; have hfz20_2 := blk_frozen BK455.out 2; have hfz20_3 := blk_frozen BK455.out 3
     go_wp2_with (first | ((with_reducible refine gate_callee (f := 26) rfl ?_); refine goesL_ (some 36) rfl rfl Try.func26 (by kernel_rfl) rfl #[.agg #[.int .i64 t444, .slice Ao10 t445.length co10, .slice Ao11 t448.length co11, .slice Ao12 t451.length co12], .int .i64 a2, .int .i64 a3] rfl TA ?_; (with_reducible refine (impl_house_enter.calls kj5 t444 _ _ t445 _ _ t448 _ _ t451 a2 a3 t457 t460 true _ ?side1 ?side2 ?side3 ?side4 ?side5 ?side6 A18.out).mono ?_); (case side1 => repeat (first | exact (Kd.V_reads' HO_456001.out).2.2 | (with_reducible refine Kd.C_alloc ?_ _) | (with_reducible refine Kd.C_drewN ?_ _) | (with_reducible refine Kd.C_drew ?_))); (case side2 => exact (Kd.V_reads' HO_456001.out).2.1); (case side3 => repeat (first | exact (Kd.S_reads' HO_456002.out).2.2 | (with_reducible refine Kd.C_alloc ?_ _) | (with_reducible refine Kd.C_drewN ?_ _) | (with_reducible refine Kd.C_drew ?_))); (case side4 => exact (Kd.S_reads' HO_456002.out).2.1); (case side5 => repeat (first | exact (Kd.R_reads' HO_456003.out).2.2 | (with_reducible refine Kd.C_alloc ?_ _) | (with_reducible refine Kd.C_drewN ?_ _) | (with_reducible refine Kd.C_drew ?_))); (case side6 => exact (Kd.R_reads' HO_456003.out).2.1); rintro e w21 ⟨v458, v461, rfl, ho0, ho1, hb⟩; refine ⟨_, rfl, ?_⟩; have n0_ := Aside0.mk (Kd.V_elder' (by (with_reducible repeat (first | apply Kd.V_alloc | apply Kd.V_drewN | apply Kd.V_drew)); exact HO_456001.out) (Kd.R_base ho0) hb); have n1_ := Aside0.mk (Kd.S_elder' (KS HO_456002) (Kd.R_base ho0) hb); have n2_ := Aside0.mk (Kd.R_elder' (KR HO_456003) (Kd.R_base ho0) hb); have n3_ := Aside0.mk (Kd.R_lower (Kd.R_new' (Kd.R_mono (ok' := fun k_ => True) ho0 (fun _ hk_ => trivial)) (Kd.R_lt (KR HO_456003))) (below_size (by repeat (first | (with_reducible first | exact HB.out | apply below_alloc | apply pw_below_drewN | apply below_drew1 | refine below_set ?_ GE455.out) | exact HB.out)))); have n4_ := Aside0.mk (Kd.V_lower (Kd.V_mono (ok' := fun k_ => some k_ ≠ (v458 : Value).ownBlock ∧ some k_ ≠ (.slice Ao11 t448.length co11 : Value).ownBlock ∧ some k_ ≠ (.slice Ao12 t451.length co12 : Value).ownBlock ∧ k_ ≠ gb455) ho1 (fun k_ hk_ => ⟨hk_.2, (Kd.fresh' (Kd.S_lt (KS HO_456002)) k_ hk_.1), (Kd.fresh' (Kd.R_lt (KR HO_456003)) k_ hk_.1), (Kd.freshB (g := gb455) (o := .cells #[.int .i64 t444, .slice Ao10 t445.length co10, .slice Ao11 t448.length co11, .slice Ao12 t451.length co12] 42 (0, 0)) (by (with_reducible repeat (first | refine blk_drewN ?_ _ | refine blk_drew ?_ | refine blk_alloc ?_ _)); exact BK455.out) k_ hk_.1)⟩)) (below_size (by repeat (first | (with_reducible first | exact HB.out | apply below_alloc | apply pw_below_drewN | apply below_drew1 | refine below_set ?_ GE455.out) | exact HB.out)))); have n5_ := Aside0.mk (blk_below (g := gb455) (o := .cells #[.int .i64 t444, .slice Ao10 t445.length co10, .slice Ao11 t448.length co11, .slice Ao12 t451.length co12] 42 (0, 0)) (by (with_reducible repeat (first | refine blk_drewN ?_ _ | refine blk_drew ?_ | refine blk_alloc ?_ _)); exact BK455.out) hb); have n6_ := Aside0.mk (below_step (by repeat (first | (with_reducible first | exact HB.out | apply below_alloc | apply pw_below_drewN | apply below_drew1 | refine below_set ?_ GE455.out) | exact HB.out)) hb); clear HO_456001; clear HO_456002; clear HO_456003; clear BK455; clear HB; have HO_456001 := n0_; have HO_456002 := n1_; have HO_456003 := n2_; have HO459 := n3_; have HO462 := n4_; have BK455 := n5_; have HB := n6_; clear n0_ n1_ n2_ n3_ n4_ n5_ n6_; (try clear hb); (try clear hb2); (try clear hk); (try clear hi); (try clear ho0); (try clear ho1)))
     go_ret2
     exact ⟨_, by first | rfl | (simp [errW_none, errW_some] <;> rfl) | (simp [*, errW_none, errW_some] <;> rfl), by first | exact Kd.R_nil _ _ _ _ _ | exact Kd.N_nil _ _ _ _ _ | exact Kd.V_nil _ _ _ _ _ | exact Kd.Q_nil _ _ _ _ _ | exact Kd.S_nil _ _ _ _ _, by repeat (first | (with_reducible first | exact HB.out | apply below_alloc | apply pw_below_drewN | apply below_drew1 | refine below_set ?_ GE455.out) | exact HB.out)⟩
    ·replace c19 := Bool.eq_false_iff.mpr c19
     subst c19; have H1 : ((impl_house_entries.f kj5 t444 t445 t448 t451).bind fun t464 => (impl_ExitOf.l0 kj5 t460 t464 (t464.length : Int) 0)) = some (r1, r2) := by rw [if_neg (show ¬ (false = true) by decide)] at H; exact H
     clear H; have H := H1; clear H1; replace H := Option.bind_eq_some_iff.mp H; obtain ⟨t464, A220, H⟩ := H; replace H : (impl_ExitOf.l0 kj5 t460 t464 (t464.length : Int) 0) = some (r1, r2) := H; have A22 := Aside0.mk A220; clear A220; have H' := Aside0.mk H; clear H; have hcz23_0 : wc.cell? ⟨gb455, 0, none⟩ = some (.int .i64 t444) := (blk_cell BK455.out 0).trans rfl; have hcz23_1 : wc.cell? ⟨gb455, 1, none⟩ = some (.slice Ao10 t445.length co10) := (blk_cell BK455.out 1).trans rfl; have hcz23_2 : wc.cell? ⟨gb455, 2, none⟩ = some (.slice Ao11 t448.length co11) := (blk_cell BK455.out 2).trans rfl; have hcz23_3 : wc.cell? ⟨gb455, 3, none⟩ = some (.slice Ao12 t451.length co12) := (blk_cell BK455.out 3).trans rfl; have hfz23_0 := blk_frozen BK455.out 0; have hfz23_1 := blk_frozen BK455.out 1; have hfz23_2 := blk_frozen BK455.out 2; have hfz23_3 := blk_frozen BK455.out 3
     go_wp2_with (first | ((with_reducible refine gate_callee (f := 26) rfl ?_); refine goesL_ (some 36) rfl rfl Try.func26 (by kernel_rfl) rfl #[.agg #[.int .i64 t444, .slice Ao10 t445.length co10, .slice Ao11 t448.length co11, .slice Ao12 t451.length co12], .int .i64 a2, .int .i64 a3] rfl TA ?_; (with_reducible refine (impl_house_enter.calls kj5 t444 _ _ t445 _ _ t448 _ _ t451 a2 a3 t457 t460 false _ ?side1 ?side2 ?side3 ?side4 ?side5 ?side6 A18.out).mono ?_); (case side1 => repeat (first | exact (Kd.V_reads' HO_456001.out).2.2 | (with_reducible refine Kd.C_alloc ?_ _) | (with_reducible refine Kd.C_drewN ?_ _) | (with_reducible refine Kd.C_drew ?_))); (case side2 => exact (Kd.V_reads' HO_456001.out).2.1); (case side3 => repeat (first | exact (Kd.S_reads' HO_456002.out).2.2 | (with_reducible refine Kd.C_alloc ?_ _) | (with_reducible refine Kd.C_drewN ?_ _) | (with_reducible refine Kd.C_drew ?_))); (case side4 => exact (Kd.S_reads' HO_456002.out).2.1); (case side5 => repeat (first | exact (Kd.R_reads' HO_456003.out).2.2 | (with_reducible refine Kd.C_alloc ?_ _) | (with_reducible refine Kd.C_drewN ?_ _) | (with_reducible refine Kd.C_drew ?_))); (case side6 => exact (Kd.R_reads' HO_456003.out).2.1); rintro e w24 ⟨v458, v461, rfl, ho0, ho1, hb⟩; refine ⟨_, rfl, ?_⟩; have n0_ := Aside0.mk (Kd.V_elder' (by (with_reducible repeat (first | apply Kd.V_alloc | apply Kd.V_drewN | apply Kd.V_drew)); exact HO_456001.out) (Kd.R_base ho0) hb); have n1_ := Aside0.mk (Kd.S_elder' (KS HO_456002) (Kd.R_base ho0) hb); have n2_ := Aside0.mk (Kd.R_elder' (KR HO_456003) (Kd.R_base ho0) hb); have n3_ := Aside0.mk (Kd.R_lower (Kd.R_new' (Kd.R_mono (ok' := fun k_ => True) ho0 (fun _ hk_ => trivial)) (Kd.R_lt (KR HO_456003))) (below_size (by repeat (first | (with_reducible first | exact HB.out | apply below_alloc | apply pw_below_drewN | apply below_drew1 | refine below_set ?_ GE455.out) | exact HB.out)))); have n4_ := Aside0.mk (Kd.V_lower (Kd.V_mono (ok' := fun k_ => some k_ ≠ (v458 : Value).ownBlock ∧ some k_ ≠ (.slice Ao11 t448.length co11 : Value).ownBlock ∧ some k_ ≠ (.slice Ao12 t451.length co12 : Value).ownBlock ∧ k_ ≠ gb455) ho1 (fun k_ hk_ => ⟨hk_.2, (Kd.fresh' (Kd.S_lt (KS HO_456002)) k_ hk_.1), (Kd.fresh' (Kd.R_lt (KR HO_456003)) k_ hk_.1), (Kd.freshB (g := gb455) (o := .cells #[.int .i64 t444, .slice Ao10 t445.length co10, .slice Ao11 t448.length co11, .slice Ao12 t451.length co12] 42 (0, 0)) (by (with_reducible repeat (first | refine blk_drewN ?_ _ | refine blk_drew ?_ | refine blk_alloc ?_ _)); exact BK455.out) k_ hk_.1)⟩)) (below_size (by repeat (first | (with_reducible first | exact HB.out | apply below_alloc | apply pw_below_drewN | apply below_drew1 | refine below_set ?_ GE455.out) | exact HB.out)))); have n5_ := Aside0.mk (blk_below (g := gb455) (o := .cells #[.int .i64 t444, .slice Ao10 t445.length co10, .slice Ao11 t448.length co11, .slice Ao12 t451.length co12] 42 (0, 0)) (by (with_reducible repeat (first | refine blk_drewN ?_ _ | refine blk_drew ?_ | refine blk_alloc ?_ _)); exact BK455.out) hb); have n6_ := Aside0.mk (below_step (by repeat (first | (with_reducible first | exact HB.out | apply below_alloc | apply pw_below_drewN | apply below_drew1 | refine below_set ?_ GE455.out) | exact HB.out)) hb); clear HO_456001; clear HO_456002; clear HO_456003; clear BK455; clear HB; have HO_456001 := n0_; have HO_456002 := n1_; have HO_456003 := n2_; have HO459 := n3_; have HO462 := n4_; have BK455 := n5_; have HB := n6_; clear n0_ n1_ n2_ n3_ n4_ n5_ n6_; (try clear hb); (try clear hb2); (try clear hk); (try clear hi); (try clear ho0); (try clear ho1); have hcz25_0 : w24.cell? ⟨gb455, 0, none⟩ = some (.int .i64 t444) := (blk_cell BK455.out 0).trans rfl; have hcz25_1 : w24.cell? ⟨gb455, 1, none⟩ = some (.slice Ao10 t445.length co10) := (blk_cell BK455.out 1).trans rfl; have hcz25_2 : w24.cell? ⟨gb455, 2, none⟩ = some (.slice Ao11 t448.length co11) := (blk_cell BK455.out 2).trans rfl; have hcz25_3 : w24.cell? ⟨gb455, 3, none⟩ = some (.slice Ao12 t451.length co12) := (blk_cell BK455.out 3).trans rfl; have hfz25_0 := blk_frozen BK455.out 0; have hfz25_1 := blk_frozen BK455.out 1; have hfz25_2 := blk_frozen BK455.out 2; have hfz25_3 := blk_frozen BK455.out 3) | ((with_reducible refine gate_callee (f := 25) rfl ?_); refine goesL_ (some 42) rfl rfl Try.func25 (by kernel_rfl) rfl #[.agg #[.int .i64 t444, .slice Ao10 t445.length co10, .slice Ao11 t448.length co11, .slice Ao12 t451.length co12]] rfl TA ?_; (with_reducible refine (impl_house_entries.calls kj5 t444 _ _ t445 _ _ t448 _ _ t451 t464 _ ?side1 ?side2 ?side3 ?side4 ?side5 ?side6 A22.out).mono ?_); (case side1 => repeat (first | exact (Kd.V_reads' HO_456001.out).2.2 | (with_reducible refine Kd.C_alloc ?_ _) | (with_reducible refine Kd.C_drewN ?_ _) | (with_reducible refine Kd.C_drew ?_))); (case side2 => exact (Kd.V_reads' HO_456001.out).2.1); (case side3 => repeat (first | exact (Kd.S_reads' HO_456002.out).2.2 | (with_reducible refine Kd.C_alloc ?_ _) | (with_reducible refine Kd.C_drewN ?_ _) | (with_reducible refine Kd.C_drew ?_))); (case side4 => exact (Kd.S_reads' HO_456002.out).2.1); (case side5 => repeat (first | exact (Kd.R_reads' HO_456003.out).2.2 | (with_reducible refine Kd.C_alloc ?_ _) | (with_reducible refine Kd.C_drewN ?_ _) | (with_reducible refine Kd.C_drew ?_))); (case side6 => exact (Kd.R_reads' HO_456003.out).2.1); rintro e w26 ⟨v465, rfl, ho0, hb⟩; refine ⟨_, rfl, ?_⟩; have n0_ := Aside0.mk (Kd.V_elder' (by (with_reducible repeat (first | apply Kd.V_alloc | apply Kd.V_drewN | apply Kd.V_drew)); exact HO_456001.out) (Kd.S_base ho0) hb); have n1_ := Aside0.mk (Kd.S_elder' (KS HO_456002) (Kd.S_base ho0) hb); have n2_ := Aside0.mk (Kd.R_below (KR HO_456003) hb); have n3_ := Aside0.mk (Kd.R_below (KR HO459) hb); have n4_ := Aside0.mk (Kd.V_elder' (by (with_reducible repeat (first | apply Kd.V_alloc | apply Kd.V_drewN | apply Kd.V_drew)); exact HO462.out) (Kd.S_base ho0) hb); have n5_ := Aside0.mk (Kd.S_lower (Kd.S_new' (Kd.S_new' (Kd.S_new' ho0 (Kd.S_lt (KS HO_456002))) (Kd.R_lt (KR HO_456003))) (Kd.R_lt (KR HO459))) (below_size (by repeat (first | (with_reducible first | exact HB.out | apply below_alloc | apply pw_below_drewN | apply below_drew1 | refine below_set ?_ GE455.out) | exact HB.out)))); have n6_ := Aside0.mk (blk_below (g := gb455) (o := .cells #[.int .i64 t444, .slice Ao10 t445.length co10, .slice Ao11 t448.length co11, .slice Ao12 t451.length co12] 42 (0, 0)) (by (with_reducible repeat (first | refine blk_drewN ?_ _ | refine blk_drew ?_ | refine blk_alloc ?_ _)); exact BK455.out) hb); have n7_ := Aside0.mk (below_step (by repeat (first | (with_reducible first | exact HB.out | apply below_alloc | apply pw_below_drewN | apply below_drew1 | refine below_set ?_ GE455.out) | exact HB.out)) hb); clear HO_456001; clear HO_456002; clear HO_456003; clear HO459; clear HO462; clear BK455; clear HB; have HO_456001 := n0_; have HO_456002 := n1_; have HO_456003 := n2_; have HO459 := n3_; have HO462 := n4_; have HO466 := n5_; have BK455 := n6_; have HB := n7_; clear n0_ n1_ n2_ n3_ n4_ n5_ n6_ n7_; (try clear hb); (try clear hb2); (try clear hk); (try clear hi); (try clear ho0); obtain ⟨Ao27, co27, eo27⟩ := Kd.S_slice HO466.out; subst eo27))
     go_loopg [44] kj5 (fun kq v44 w' => ∃ (x44_2 : Int), v44 = .int .i64 x44_2 ∧ Aside0 (impl_ExitOf.l0 kq t460 t464 (t464.length : Int) x44_2 = some (r1, r2)) ∧ Aside0 (kq ≤ kj5) ∧ Aside0 (Kd.V (Kd.int .i64) 3 w' w.heap.size (fun k_ => some k_ ≠ ((.slice Ao27 t464.length co27) : Value).ownBlock ∧ some k_ ≠ ((.slice Ao11 t448.length co11) : Value).ownBlock ∧ some k_ ≠ ((.slice Ao12 t451.length co12) : Value).ownBlock ∧ k_ ≠ gb455) v461 t460) ∧ Aside0 (Kd.S (Kd.slice 3 (Kd.int .i64)) 22 w' w.heap.size (fun k_ => some k_ ≠ ((.slice Ao11 t448.length co11) : Value).ownBlock ∧ some k_ ≠ ((.slice Ao12 t451.length co12) : Value).ownBlock) (.slice Ao27 t464.length co27) t464) ∧ Aside0 (Kd.V (Kd.int .i64) 3 w' w.heap.size (fun k_ => some k_ ≠ ((.slice Ao27 t464.length co27) : Value).ownBlock ∧ some k_ ≠ ((.slice Ao11 t448.length co11) : Value).ownBlock ∧ some k_ ≠ ((.slice Ao12 t451.length co12) : Value).ownBlock ∧ k_ ≠ gb455) (.slice Ao10 t445.length co10) t445) ∧ Aside0 (Kd.S (Kd.slice 3 (Kd.int .i64)) 22 w' w.heap.size (fun k_ => some k_ ≠ ((.slice Ao27 t464.length co27) : Value).ownBlock ∧ some k_ ≠ ((.slice Ao12 t451.length co12) : Value).ownBlock) (.slice Ao11 t448.length co11) t448) ∧ Aside0 (Kd.R (Kd.int .i64) 3 w' w.heap.size (fun _ => True) (.slice Ao12 t451.length co12) t451) ∧ Aside0 (w'.heap[gb455]? = some (.cells #[.int .i64 t444, (.slice Ao10 t445.length co10), (.slice Ao11 t448.length co11), (.slice Ao12 t451.length co12)] 42 (0, 0))) ∧ Aside0 (Below w.heap.size w w'))
     case atStart => exact ⟨(0), RF, H', ⟨Nat.le_refl _⟩, ⟨by (with_reducible repeat (first | apply Kd.V_alloc | apply Kd.V_drewN | apply Kd.V_drew)); exact Kd.V_mono HO462.out (fun _ hk => ⟨hk.2, ⟨hk.1.2.1, ⟨hk.1.2.2.1, hk.1.2.2.2⟩⟩⟩)⟩, ⟨by (with_reducible repeat (first | apply Kd.S_alloc | apply Kd.S_drewN | apply Kd.S_drew)); exact Kd.S_mono HO466.out (fun _ hk => ⟨hk.1.1.2, hk.1.2⟩)⟩, ⟨by (with_reducible repeat (first | apply Kd.V_alloc | apply Kd.V_drewN | apply Kd.V_drew)); exact Kd.V_mono HO_456001.out (fun _ hk => ⟨hk.2, ⟨hk.1.1.1, ⟨hk.1.1.2.1, hk.1.1.2.2⟩⟩⟩)⟩, ⟨by (with_reducible repeat (first | apply Kd.S_alloc | apply Kd.S_drewN | apply Kd.S_drew)); exact Kd.S_mono HO_456002.out (fun _ hk => ⟨hk.2, hk.1.1⟩)⟩, ⟨by (with_reducible repeat (first | apply Kd.R_alloc | apply Kd.R_drewN | apply Kd.R_drew)); exact Kd.R_mono HO_456003.out (fun _ hk => trivial)⟩, ⟨by (with_reducible repeat (first | refine blk_drewN ?_ _ | refine blk_drew ?_ | refine blk_alloc ?_ _)); exact BK455.out⟩, ⟨by repeat (first | (with_reducible first | exact HB.out | apply below_alloc | apply pw_below_drewN | apply below_drew1 | refine below_set ?_ GE455.out) | exact HB.out)⟩⟩
     case round =>
      clear H'
      try clear c1
      try clear c2
      try clear p2
      try clear p6
      try clear c13
      try clear c16
      try clear c17
      try clear c19
      try clear c24
      try clear c25
      try clear c26
      try clear hcz15_0
      try clear hcz15_1
      try clear hcz15_2
      try clear hcz15_3
      try clear hcz20_0
      try clear hcz20_1
      try clear hcz20_2
      try clear hcz20_3
      try clear hcz23_0
      try clear hcz23_1
      try clear hcz23_2
      try clear hcz23_3
      try clear hcz25_0
      try clear hcz25_1
      try clear hcz25_2
      try clear hcz25_3
      try clear hcz9_0
      try clear hcz9_1
      try clear hcz9_2
      try clear hcz9_3
      try clear hfz15_0
      try clear hfz15_1
      try clear hfz15_2
      try clear hfz15_3
      try clear hfz20_0
      try clear hfz20_1
      try clear hfz20_2
      try clear hfz20_3
      try clear hfz23_0
      try clear hfz23_1
      try clear hfz23_2
      try clear hfz23_3
      try clear hfz25_0
      try clear hfz25_1
      try clear hfz25_2
      try clear hfz25_3
      try clear hfz9_0
      try clear hfz9_1
      try clear hfz9_2
      try clear hfz9_3
      try clear p2
      try clear p6
      obtain ⟨x44_2, rfl, HA, HK2, HO_13, HO_42, HO_456001, HO_456002, HO_456003, BK455, HB⟩ := hrel; cases gk with
      | zero => exact absurd HA.out (by simp [impl_ExitOf.l0])
      | succ k2 =>
       have H := HA.out; clear HA
       simp only [impl_ExitOf.l0] at H
       by_cases c28 : x44_2 < (t464.length : Int)
       ·rw [if_pos c28] at H
        have c28b0 : decide (x44_2 < (t464.length : Int)) = true := decide_eq_true c28; clear c28
        by_cases c29 : 0 ≤ x44_2
        ·rw [if_pos c29] at H
         have c29b0 : decide (0 ≤ x44_2) = true := decide_eq_true c29; clear c29
         by_cases c30 : x44_2 < (t464.length : Int)
         ·rw [if_pos c30] at H
          have c30b0 : decide (x44_2 < (t464.length : Int)) = true := decide_eq_true c30; clear c30
          by_cases c31 : 0 < ((rd_L1 t464 x44_2).length : Int)
          ·rw [if_pos c31] at H
           have c31b0 : decide (0 < ((rd_L1 t464 x44_2).length : Int)) = true := decide_eq_true c31; have c31b1 : decide (0 < (rd_L1 t464 x44_2).length) = true := decide_eq_true (by omega); clear c31
           by_cases c32 : 1 < ((rd_L1 t464 x44_2).length : Int)
           ·rw [if_pos c32] at H
            have c32b0 : decide (1 < ((rd_L1 t464 x44_2).length : Int)) = true := decide_eq_true c32; have c32b1 : decide (1 < (rd_L1 t464 x44_2).length) = true := decide_eq_true (by omega); clear c32; replace H := Option.bind_eq_some_iff.mp H; obtain ⟨t470, A330, H⟩ := H; replace H : ((slices_Equal_int_int.f k2 t470 t460).bind fun t473 => (if t473 = true then (some (rd_L1 t464 x44_2, true)) else (impl_ExitOf.l0 k2 t460 t464 (t464.length : Int) (wrap64 (x44_2 + 1))))) = some (r1, r2) := H; have A33 := Aside0.mk A330; clear A330; replace H := Option.bind_eq_some_iff.mp H; obtain ⟨t473, A340, H⟩ := H; replace H : (if t473 = true then (some (rd_L1 t464 x44_2, true)) else (impl_ExitOf.l0 k2 t460 t464 (t464.length : Int) (wrap64 (x44_2 + 1)))) = some (r1, r2) := H; have A34 := Aside0.mk A340; clear A340
            by_cases c35 : t473 = true
            ·subst c35
             have H1 : (some (rd_L1 t464 x44_2, true)) = some (r1, r2) := by rw [if_pos rfl] at H; exact H
             clear H; have H := H1; clear H1
             simp only [Option.some.injEq, Prod.mk.injEq] at H
             obtain ⟨rfl, rfl⟩ := H; have p467 : 0 ≤ (x44_2 : Int) := of_decide_eq_true AS; have q467 : x44_2 < (t464.length : Int) := of_decide_eq_true AS; obtain ⟨ad467, A467_0, c467_0, e467, hx467_0, hl467_0, hi467_0⟩ := at_L1 (Kd.S_reads' HO_42.out).2.2 x44_2 p467 q467; cases e467; obtain ⟨ce467, hce467, hMe467, hcc467⟩ := Kd.S_get HO_42.out [] x44_2 p467 (by first | exact q467 | exact of_decide_eq_true AS | (have e_ := (Kd.S_reads' HO_42.out).1; omega)); obtain ⟨ve467_0, rfl, ge467_0⟩ := hMe467; have hv467_0 := hcc467 0 _ rfl; rw [Nat.add_zero, show ((Kd.slice 3 (Kd.int .i64))).sz = 1 from rfl, Nat.mul_one] at hv467_0; replace hv467_0 := Option.some.inj (hv467_0.symm.trans hx467_0); rw [hv467_0] at ge467_0; have HL467_0 := Aside0.mk (show Kd.R (Kd.int .i64) 3 _ _ _ _ (rd_L1 t464 x44_2) from ge467_0); clear hv467_0 ge467_0; clear hcc467 hce467; have HR467_0 := Aside0.mk hi467_0; have HC467_0 := Aside0.mk hl467_0; clear hi467_0 hl467_0; replace p467 := eq_true p467; replace q467 := eq_true q467
             try go_wp2
             have n0_ := Aside0.mk (Kd.V_drew HO_13.out); have n1_ := Aside0.mk (Kd.S_drew HO_42.out); have n2_ := Aside0.mk (Kd.V_drew HO_456001.out); have n3_ := Aside0.mk (Kd.S_drew HO_456002.out); have n4_ := Aside0.mk (Kd.R_drew HO_456003.out); have n5_ := Aside0.mk (Kd.R_drew HL467_0.out); have n6_ := Aside0.mk (blk_drew BK455.out); have n7_ := Aside0.mk (Kd.C_drew HR467_0.out); have n8_ := Aside0.mk (below_drew1 HB.out); clear HO_13; clear HO_42; clear HO_456001; clear HO_456002; clear HO_456003; clear HL467_0; clear BK455; clear HR467_0; clear HB; have HO_13 := n0_; have HO_42 := n1_; have HO_456001 := n2_; have HO_456002 := n3_; have HO_456003 := n4_; have HL467_0 := n5_; have BK455 := n6_; have HR467_0 := n7_; have HB := n8_; clear n0_ n1_ n2_ n3_ n4_ n5_ n6_ n7_ n8_; have p468 : 0 ≤ (0 : Int) := (by omega); have q468 : 0 < ((rd_L1 t464 x44_2).length : Int) := of_decide_eq_true AS; obtain ⟨ad468, e468, hx468_0⟩ := Kd.at_int (by repeat (first | (with_reducible exact HR467_0.out) | (with_reducible refine Kd.C_alloc ?_ _) | (with_reducible refine Kd.C_drewN ?_ _) | (with_reducible refine Kd.C_drew ?_) | exact HR467_0.out)) 0 p468 q468; cases e468
             have qi468 : (0 < (rd_L1 t464 x44_2).length) = True := eq_true (by omega)
             (try rw [show ((0 : Int)).toNat = 0 from rfl] at hx468_0)
             (try rw [Addr.add_zero'] at hx468_0)
             replace p468 := eq_true p468; replace q468 := eq_true q468; have p469 : 0 ≤ (1 : Int) := (by omega); have q469 : 1 < ((rd_L1 t464 x44_2).length : Int) := of_decide_eq_true AS; obtain ⟨ad469, e469, hx469_0⟩ := Kd.at_int (by repeat (first | (with_reducible exact HR467_0.out) | (with_reducible refine Kd.C_alloc ?_ _) | (with_reducible refine Kd.C_drewN ?_ _) | (with_reducible refine Kd.C_drew ?_) | exact HR467_0.out)) 1 p469 q469; obtain rfl : ad468 = ad469 := (by injection e469)
             (try simp only [show (1 : Int).toNat = 1 from rfl, Nat.reduceMul, Nat.reduceEqDiff, Go.Addr.add, ↓reduceIte] at hx469_0)
             have qi469 : (1 < (rd_L1 t464 x44_2).length) = True := eq_true (by omega)
             (try rw [show ((1 : Int)).toNat = 1 from rfl] at hx469_0)
             replace p469 := eq_true p469; replace q469 := eq_true q469
             refine start_ (n := 9) (S := fun w' => w'.cell? ad468 = some (.int .i64 (rd (rd_L1 t464 x44_2) 0)) ∧ w'.cell? ⟨ad468.block, ad468.off + 1, none⟩ = some (.int .i64 (rd (rd_L1 t464 x44_2) 1))) (ds := []) #[false, false, false, false, false, false, false, false, false] (by kernel_rfl) rfl rfl ⟨hx468_0, hx469_0⟩ (fun hHeld => ?_); refine with_tabW impl_ExitOf.tab10 impl_ExitOf.bits10 (fun HT_ HW_ => ?_)
             generalize wr.drew = w36 at HO_13 HO_42 HO_456001 HO_456002 HO_456003 HL467_0 BK455 HR467_0 HB hx468_0 hx469_0 hHeld ⊢
             refine pure_ (i := 0) (N := some 48) (v := ?_) (a' := ?_) #[true, false, false, false, false, false, false, false, false] rfl rfl (any_of HT_.out (by kernel_rfl)) (fun _ _ _ h => h) (Or.inl ⟨by rfl, ?_⟩) ?_ ?_
             rotate_left
             ·intro w'; go_simp; with_reducible rfl
             rotate_left
             ·simp only [Act.put, List.setIfInBounds_toArray, List.set_cons_zero, List.set_cons_succ, i64_w, i32_w]; rfl
             refine pure_ (i := 1) (N := some 49) (v := ?_) (a' := ?_) #[true, true, false, false, false, false, false, false, false] rfl rfl (any_of HT_.out (by kernel_rfl)) (fun _ _ _ h => h) (Or.inl ⟨by rfl, ?_⟩) ?_ ?_
             rotate_left
             ·intro w'; go_simp; with_reducible rfl
             rotate_left
             ·simp only [Act.put, List.setIfInBounds_toArray, List.set_cons_zero, List.set_cons_succ, i64_w, i32_w]; rfl
             refine pure_ (i := 3) (N := some 51) (v := ?_) (a' := ?_) #[true, true, false, true, false, false, false, false, false] rfl rfl (any_of HT_.out (by kernel_rfl)) (fun _ _ _ h => h) (Or.inl ⟨by rfl, ?_⟩) ?_ ?_
             rotate_left
             ·intro w'; go_simp; with_reducible rfl
             rotate_left
             ·simp only [Act.put, List.setIfInBounds_toArray, List.set_cons_zero, List.set_cons_succ, i64_w, i32_w]; rfl
             refine pure_ (i := 4) (N := some 52) (v := ?_) (a' := ?_) #[true, true, false, true, true, false, false, false, false] rfl rfl (any_of HT_.out (by kernel_rfl)) (fun _ _ _ h => h) (Or.inl ⟨by rfl, ?_⟩) ?_ ?_
             rotate_left
             ·intro w'; go_simp; with_reducible rfl
             rotate_left
             ·simp only [Act.put, List.setIfInBounds_toArray, List.set_cons_zero, List.set_cons_succ, i64_w, i32_w]; rfl
             refine pure_ (i := 7) (N := some 55) (v := ?_) (a' := ?_) #[true, true, false, true, true, false, false, true, false] rfl rfl (any_of HT_.out (by kernel_rfl)) (fun _ _ _ h => h) (Or.inl ⟨by rfl, ?_⟩) ?_ ?_
             rotate_left
             ·intro w'; go_simp; with_reducible rfl
             rotate_left
             ·simp only [Act.put, List.setIfInBounds_toArray, List.set_cons_zero, List.set_cons_succ, i64_w, i32_w]; rfl
             refine take_ (i := 2) (N := some 50) (v := ?_) (a' := ?_) #[true, true, true, true, true, false, false, true, false] rfl rfl (take_ofW HT_.out HW_.out (by kernel_rfl)) (fun _ _ _ h => h) (Or.inl ⟨by rfl, ?_⟩) hHeld ?_ ?_
             rotate_left
             ·rintro w' ⟨s0, s1⟩; go_simp; with_reducible rfl
             rotate_left
             ·simp only [Act.put, List.setIfInBounds_toArray, List.set_cons_zero, List.set_cons_succ, i64_w, i32_w]; rfl
             refine take_ (i := 5) (N := some 53) (v := ?_) (a' := ?_) #[true, true, true, true, true, true, false, true, false] rfl rfl (take_ofW HT_.out HW_.out (by kernel_rfl)) (fun _ _ _ h => h) (Or.inl ⟨by rfl, ?_⟩) hHeld ?_ ?_
             rotate_left
             ·rintro w' ⟨s0, s1⟩; go_simp; with_reducible rfl
             rotate_left
             ·simp only [Act.put, List.setIfInBounds_toArray, List.set_cons_zero, List.set_cons_succ, i64_w, i32_w]; rfl
             refine one_ (i := 6) (N := some 54) #[true, true, true, true, true, true, true, true, false] rfl rfl (one_of HT_.out (by kernel_rfl)) (by decide) (fun K hK => ?_)
             refine goes_ Try.func32 (by kernel_rfl) rfl #[.int .i64 (rd (rd_L1 t464 x44_2) 0), .int .i64 (rd (rd_L1 t464 x44_2) 1)] (by rfl) rfl rfl TA ?_
             with_reducible refine (impl_sorted.calls (rd (rd_L1 t464 x44_2) 0) (rd (rd_L1 t464 x44_2) 1) t470 _ A33.out).mono ?_
             rintro e w37 ⟨v471, rfl, ho0, hb⟩
             have HS0_ := (hb.cell (World.block_lt_of_cell? _ _ (hHeld.1))).trans (hHeld.1); have HS1_ := (hb.cell (World.block_lt_of_cell? _ _ (hHeld.2))).trans (hHeld.2)
             refine ⟨_, rfl, ?_⟩
             have n0_ := Aside0.mk (Kd.V_elder' (by (with_reducible repeat (first | apply Kd.V_alloc | apply Kd.V_drewN | apply Kd.V_drew)); exact HO_13.out) (Kd.R_base ho0) hb); have n1_ := Aside0.mk (Kd.S_elder' (KS HO_42) (Kd.R_base ho0) hb); have n2_ := Aside0.mk (Kd.V_elder' (by (with_reducible repeat (first | apply Kd.V_alloc | apply Kd.V_drewN | apply Kd.V_drew)); exact HO_456001.out) (Kd.R_base ho0) hb); have n3_ := Aside0.mk (Kd.S_elder' (KS HO_456002) (Kd.R_base ho0) hb); have n4_ := Aside0.mk (Kd.R_elder' (KR HO_456003) (Kd.R_base ho0) hb); have n5_ := Aside0.mk (Kd.R_elder' (KR HL467_0) (Kd.R_base ho0) hb); have n6_ := Aside0.mk (Kd.R_lower (Kd.R_new' (Kd.R_new' ho0 (Kd.R_lt (KR HO_456003))) (Kd.R_lt (KR HL467_0))) (below_size (by repeat (first | (with_reducible first | exact HB.out | apply below_alloc | apply pw_below_drewN | apply below_drew1 | refine below_set ?_ GE455.out) | exact HB.out))))
             have n7_ := Aside0.mk (blk_below (g := gb455) (o := .cells #[.int .i64 t444, .slice Ao10 t445.length co10, .slice Ao11 t448.length co11, .slice Ao12 t451.length co12] 42 (0, 0)) (by (with_reducible repeat (first | refine blk_drewN ?_ _ | refine blk_drew ?_ | refine blk_alloc ?_ _)); exact BK455.out) hb); have n8_ := Aside0.mk (Kd.C_below (by repeat (first | (with_reducible exact HR467_0.out) | (with_reducible refine Kd.C_alloc ?_ _) | (with_reducible refine Kd.C_drewN ?_ _) | (with_reducible refine Kd.C_drew ?_) | exact HR467_0.out)) hb); have n9_ := Aside0.mk (below_step (by repeat (first | (with_reducible first | exact HB.out | apply below_alloc | apply pw_below_drewN | apply below_drew1 | refine below_set ?_ GE455.out) | exact HB.out)) hb); clear HO_13; clear HO_42; clear HO_456001; clear HO_456002; clear HO_456003; clear HL467_0; clear BK455; clear HR467_0; clear HB; have HO_13 := n0_; have HO_42 := n1_; have HO_456001 := n2_; have HO_456002 := n3_; have HO_456003 := n4_; have HL467_0 := n5_; have HO472 := n6_; have BK455 := n7_; have HR467_0 := n8_; have HB := n9_; clear n0_ n1_ n2_ n3_ n4_ n5_ n6_ n7_ n8_ n9_
             (try clear hb)
             (try clear hb2)
             (try clear hk)
             (try clear hi)
             (try clear ho0)
             obtain ⟨Ao38, co38, eo38⟩ := Kd.R_slice HO472.out
             (first | subst eo38 | (injection eo38 with f1_ f2_ f3_; have f4_ := f1_.symm; have f5_ := f3_.symm; clear f1_ f2_ f3_; subst f4_; subst f5_))
             obtain ⟨Ao39, co39, eo39⟩ := Kd.V_slice HO_13.out
             (first | subst eo39 | (injection eo39 with f1_ f2_ f3_; have f4_ := f1_.symm; have f5_ := f3_.symm; clear f1_ f2_ f3_; subst f4_; subst f5_))
             refine hK.out _ _ ⟨HS0_, HS1_⟩ (fun hHeld => ?_)
             clear hK K
             refine norm_ (a' := ?_) ?_ ?_
             rotate_left
             ·show Act.put _ (some 54) _ = _
              simp only [Act.put, List.setIfInBounds_toArray, List.set_cons_zero, List.set_cons_succ, i64_w, i32_w]
              rfl
             refine one_ (i := 8) (N := some 56) #[true, true, true, true, true, true, true, true, true] rfl rfl (one_of HT_.out (by kernel_rfl)) (by decide) (fun K hK => ?_)
             refine goes_ Try.func31 (by kernel_rfl) rfl #[.slice Ao38 t470.length co38, .slice Ao39 t460.length co39] (by rfl) rfl rfl TA ?_
             with_reducible refine (slices_Equal_int_int.calls k2 _ _ t470 _ _ t460 true _ ?side1 ?side2 ?side3 ?side4 A34.out).mono ?_
             (case side1 => repeat (first | exact (Kd.R_reads' HO472.out).2.2 | (with_reducible refine Kd.C_alloc ?_ _) | (with_reducible refine Kd.C_drewN ?_ _) | (with_reducible refine Kd.C_drew ?_)))
             (case side2 => exact (Kd.R_reads' HO472.out).2.1)
             (case side3 => repeat (first | exact (Kd.V_reads' HO_13.out).2.2 | (with_reducible refine Kd.C_alloc ?_ _) | (with_reducible refine Kd.C_drewN ?_ _) | (with_reducible refine Kd.C_drew ?_)))
             (case side4 => exact (Kd.V_reads' HO_13.out).2.1)
             rintro e w' ⟨rfl, ⟨nd, rfl⟩⟩
             refine ⟨_, rfl, ?_⟩
             refine hK.out _ _ ⟨hHeld.1, hHeld.2⟩ (fun hHeld => ?_)
             clear hK K
             refine norm_ (a' := ?_) ?_ ?_
             rotate_left
             ·show Act.put _ (some 56) _ = _
              simp only [Act.put, List.setIfInBounds_toArray, List.set_cons_zero, List.set_cons_succ, i64_w, i32_w]
              rfl
             refine done_ (done_of HT_.out (by kernel_rfl)) ?_
             try go_wp2
             go_ret2
             exact ⟨_, by first | rfl | (simp [errW_none, errW_some] <;> rfl) | (simp [*, errW_none, errW_some] <;> rfl), by (with_reducible repeat (first | apply Kd.R_alloc | apply Kd.R_drewN | apply Kd.R_drew)); exact Kd.R_mono HL467_0.out (fun _ hk => trivial), by repeat (first | (with_reducible first | exact HB.out | apply below_alloc | apply pw_below_drewN | apply below_drew1 | refine below_set ?_ GE455.out) | exact HB.out)⟩
            ·replace c35 := Bool.eq_false_iff.mpr c35
             subst c35; have H1 : (impl_ExitOf.l0 k2 t460 t464 (t464.length : Int) (wrap64 (x44_2 + 1))) = some (r1, r2) := by rw [if_neg (show ¬ (false = true) by decide)] at H; exact H
             clear H; have H := H1; clear H1; have H' := Aside0.mk H; clear H; have p467 : 0 ≤ (x44_2 : Int) := of_decide_eq_true AS; have q467 : x44_2 < (t464.length : Int) := of_decide_eq_true AS; obtain ⟨ad467, A467_0, c467_0, e467, hx467_0, hl467_0, hi467_0⟩ := at_L1 (Kd.S_reads' HO_42.out).2.2 x44_2 p467 q467; cases e467; obtain ⟨ce467, hce467, hMe467, hcc467⟩ := Kd.S_get HO_42.out [] x44_2 p467 (by first | exact q467 | exact of_decide_eq_true AS | (have e_ := (Kd.S_reads' HO_42.out).1; omega)); obtain ⟨ve467_0, rfl, ge467_0⟩ := hMe467; have hv467_0 := hcc467 0 _ rfl; rw [Nat.add_zero, show ((Kd.slice 3 (Kd.int .i64))).sz = 1 from rfl, Nat.mul_one] at hv467_0; replace hv467_0 := Option.some.inj (hv467_0.symm.trans hx467_0); rw [hv467_0] at ge467_0; have HL467_0 := Aside0.mk (show Kd.R (Kd.int .i64) 3 _ _ _ _ (rd_L1 t464 x44_2) from ge467_0); clear hv467_0 ge467_0; clear hcc467 hce467; have HR467_0 := Aside0.mk hi467_0; have HC467_0 := Aside0.mk hl467_0; clear hi467_0 hl467_0; replace p467 := eq_true p467; replace q467 := eq_true q467
             try go_wp2
             have n0_ := Aside0.mk (Kd.V_drew HO_13.out); have n1_ := Aside0.mk (Kd.S_drew HO_42.out); have n2_ := Aside0.mk (Kd.V_drew HO_456001.out); have n3_ := Aside0.mk (Kd.S_drew HO_456002.out); have n4_ := Aside0.mk (Kd.R_drew HO_456003.out); have n5_ := Aside0.mk (Kd.R_drew HL467_0.out); have n6_ := Aside0.mk (blk_drew BK455.out); have n7_ := Aside0.mk (Kd.C_drew HR467_0.out); have n8_ := Aside0.mk (below_drew1 HB.out); clear HO_13; clear HO_42; clear HO_456001; clear HO_456002; clear HO_456003; clear HL467_0; clear BK455; clear HR467_0; clear HB; have HO_13 := n0_; have HO_42 := n1_; have HO_456001 := n2_; have HO_456002 := n3_; have HO_456003 := n4_; have HL467_0 := n5_; have BK455 := n6_; have HR467_0 := n7_; have HB := n8_; clear n0_ n1_ n2_ n3_ n4_ n5_ n6_ n7_ n8_; have p468 : 0 ≤ (0 : Int) := (by omega); have q468 : 0 < ((rd_L1 t464 x44_2).length : Int) := of_decide_eq_true AS; obtain ⟨ad468, e468, hx468_0⟩ := Kd.at_int (by repeat (first | (with_reducible exact HR467_0.out) | (with_reducible refine Kd.C_alloc ?_ _) | (with_reducible refine Kd.C_drewN ?_ _) | (with_reducible refine Kd.C_drew ?_) | exact HR467_0.out)) 0 p468 q468; cases e468
             have qi468 : (0 < (rd_L1 t464 x44_2).length) = True := eq_true (by omega)
             (try rw [show ((0 : Int)).toNat = 0 from rfl] at hx468_0)
             (try rw [Addr.add_zero'] at hx468_0)
             replace p468 := eq_true p468; replace q468 := eq_true q468; have p469 : 0 ≤ (1 : Int) := (by omega); have q469 : 1 < ((rd_L1 t464 x44_2).length : Int) := of_decide_eq_true AS; obtain ⟨ad469, e469, hx469_0⟩ := Kd.at_int (by repeat (first | (with_reducible exact HR467_0.out) | (with_reducible refine Kd.C_alloc ?_ _) | (with_reducible refine Kd.C_drewN ?_ _) | (with_reducible refine Kd.C_drew ?_) | exact HR467_0.out)) 1 p469 q469; obtain rfl : ad468 = ad469 := (by injection e469)
             (try simp only [show (1 : Int).toNat = 1 from rfl, Nat.reduceMul, Nat.reduceEqDiff, Go.Addr.add, ↓reduceIte] at hx469_0)
             have qi469 : (1 < (rd_L1 t464 x44_2).length) = True := eq_true (by omega)
             (try rw [show ((1 : Int)).toNat = 1 from rfl] at hx469_0)
             replace p469 := eq_true p469; replace q469 := eq_true q469
             refine start_ (n := 9) (S := fun w' => w'.cell? ad468 = some (.int .i64 (rd (rd_L1 t464 x44_2) 0)) ∧ w'.cell? ⟨ad468.block, ad468.off + 1, none⟩ = some (.int .i64 (rd (rd_L1 t464 x44_2) 1))) (ds := []) #[false, false, false, false, false, false, false, false, false] (by kernel_rfl) rfl rfl ⟨hx468_0, hx469_0⟩ (fun hHeld => ?_); refine with_tabW impl_ExitOf.tab10 impl_ExitOf.bits10 (fun HT_ HW_ => ?_)
             generalize wr.drew = w40 at HO_13 HO_42 HO_456001 HO_456002 HO_456003 HL467_0 BK455 HR467_0 HB hx468_0 hx469_0 hHeld ⊢
             refine pure_ (i := 0) (N := some 48) (v := ?_) (a' := ?_) #[true, false, false, false, false, false, false, false, false] rfl rfl (any_of HT_.out (by kernel_rfl)) (fun _ _ _ h => h) (Or.inl ⟨by rfl, ?_⟩) ?_ ?_
             rotate_left
             ·intro w'; go_simp; with_reducible rfl
             rotate_left
             ·simp only [Act.put, List.setIfInBounds_toArray, List.set_cons_zero, List.set_cons_succ, i64_w, i32_w]; rfl
             refine pure_ (i := 1) (N := some 49) (v := ?_) (a' := ?_) #[true, true, false, false, false, false, false, false, false] rfl rfl (any_of HT_.out (by kernel_rfl)) (fun _ _ _ h => h) (Or.inl ⟨by rfl, ?_⟩) ?_ ?_
             rotate_left
             ·intro w'; go_simp; with_reducible rfl
             rotate_left
             ·simp only [Act.put, List.setIfInBounds_toArray, List.set_cons_zero, List.set_cons_succ, i64_w, i32_w]; rfl
             refine pure_ (i := 3) (N := some 51) (v := ?_) (a' := ?_) #[true, true, false, true, false, false, false, false, false] rfl rfl (any_of HT_.out (by kernel_rfl)) (fun _ _ _ h => h) (Or.inl ⟨by rfl, ?_⟩) ?_ ?_
             rotate_left
             ·intro w'; go_simp; with_reducible rfl
             rotate_left
             ·simp only [Act.put, List.setIfInBounds_toArray, List.set_cons_zero, List.set_cons_succ, i64_w, i32_w]; rfl
             refine pure_ (i := 4) (N := some 52) (v := ?_) (a' := ?_) #[true, true, false, true, true, false, false, false, false] rfl rfl (any_of HT_.out (by kernel_rfl)) (fun _ _ _ h => h) (Or.inl ⟨by rfl, ?_⟩) ?_ ?_
             rotate_left
             ·intro w'; go_simp; with_reducible rfl
             rotate_left
             ·simp only [Act.put, List.setIfInBounds_toArray, List.set_cons_zero, List.set_cons_succ, i64_w, i32_w]; rfl
             refine pure_ (i := 7) (N := some 55) (v := ?_) (a' := ?_) #[true, true, false, true, true, false, false, true, false] rfl rfl (any_of HT_.out (by kernel_rfl)) (fun _ _ _ h => h) (Or.inl ⟨by rfl, ?_⟩) ?_ ?_
             rotate_left
             ·intro w'; go_simp; with_reducible rfl
             rotate_left
             ·simp only [Act.put, List.setIfInBounds_toArray, List.set_cons_zero, List.set_cons_succ, i64_w, i32_w]; rfl
             refine take_ (i := 2) (N := some 50) (v := ?_) (a' := ?_) #[true, true, true, true, true, false, false, true, false] rfl rfl (take_ofW HT_.out HW_.out (by kernel_rfl)) (fun _ _ _ h => h) (Or.inl ⟨by rfl, ?_⟩) hHeld ?_ ?_
             rotate_left
             ·rintro w' ⟨s0, s1⟩; go_simp; with_reducible rfl
             rotate_left
             ·simp only [Act.put, List.setIfInBounds_toArray, List.set_cons_zero, List.set_cons_succ, i64_w, i32_w]; rfl
             refine take_ (i := 5) (N := some 53) (v := ?_) (a' := ?_) #[true, true, true, true, true, true, false, true, false] rfl rfl (take_ofW HT_.out HW_.out (by kernel_rfl)) (fun _ _ _ h => h) (Or.inl ⟨by rfl, ?_⟩) hHeld ?_ ?_
             rotate_left
             ·rintro w' ⟨s0, s1⟩; go_simp; with_reducible rfl
             rotate_left
             ·simp only [Act.put, List.setIfInBounds_toArray, List.set_cons_zero, List.set_cons_succ, i64_w, i32_w]; rfl
             refine one_ (i := 6) (N := some 54) #[true, true, true, true, true, true, true, true, false] rfl rfl (one_of HT_.out (by kernel_rfl)) (by decide) (fun K hK => ?_)
             refine goes_ Try.func32 (by kernel_rfl) rfl #[.int .i64 (rd (rd_L1 t464 x44_2) 0), .int .i64 (rd (rd_L1 t464 x44_2) 1)] (by rfl) rfl rfl TA ?_
             with_reducible refine (impl_sorted.calls (rd (rd_L1 t464 x44_2) 0) (rd (rd_L1 t464 x44_2) 1) t470 _ A33.out).mono ?_
             rintro e w41 ⟨v471, rfl, ho0, hb⟩
             have HS0_ := (hb.cell (World.block_lt_of_cell? _ _ (hHeld.1))).trans (hHeld.1); have HS1_ := (hb.cell (World.block_lt_of_cell? _ _ (hHeld.2))).trans (hHeld.2)
             refine ⟨_, rfl, ?_⟩
             have n0_ := Aside0.mk (Kd.V_elder' (by (with_reducible repeat (first | apply Kd.V_alloc | apply Kd.V_drewN | apply Kd.V_drew)); exact HO_13.out) (Kd.R_base ho0) hb); have n1_ := Aside0.mk (Kd.S_elder' (KS HO_42) (Kd.R_base ho0) hb); have n2_ := Aside0.mk (Kd.V_elder' (by (with_reducible repeat (first | apply Kd.V_alloc | apply Kd.V_drewN | apply Kd.V_drew)); exact HO_456001.out) (Kd.R_base ho0) hb); have n3_ := Aside0.mk (Kd.S_elder' (KS HO_456002) (Kd.R_base ho0) hb); have n4_ := Aside0.mk (Kd.R_elder' (KR HO_456003) (Kd.R_base ho0) hb); have n5_ := Aside0.mk (Kd.R_elder' (KR HL467_0) (Kd.R_base ho0) hb); have n6_ := Aside0.mk (Kd.R_lower (Kd.R_new' (Kd.R_new' ho0 (Kd.R_lt (KR HO_456003))) (Kd.R_lt (KR HL467_0))) (below_size (by repeat (first | (with_reducible first | exact HB.out | apply below_alloc | apply pw_below_drewN | apply below_drew1 | refine below_set ?_ GE455.out) | exact HB.out))))
             have n7_ := Aside0.mk (blk_below (g := gb455) (o := .cells #[.int .i64 t444, .slice Ao10 t445.length co10, .slice Ao11 t448.length co11, .slice Ao12 t451.length co12] 42 (0, 0)) (by (with_reducible repeat (first | refine blk_drewN ?_ _ | refine blk_drew ?_ | refine blk_alloc ?_ _)); exact BK455.out) hb); have n8_ := Aside0.mk (Kd.C_below (by repeat (first | (with_reducible exact HR467_0.out) | (with_reducible refine Kd.C_alloc ?_ _) | (with_reducible refine Kd.C_drewN ?_ _) | (with_reducible refine Kd.C_drew ?_) | exact HR467_0.out)) hb); have n9_ := Aside0.mk (below_step (by repeat (first | (with_reducible first | exact HB.out | apply below_alloc | apply pw_below_drewN | apply below_drew1 | refine below_set ?_ GE455.out) | exact HB.out)) hb); clear HO_13; clear HO_42; clear HO_456001; clear HO_456002; clear HO_456003; clear HL467_0; clear BK455; clear HR467_0; clear HB; have HO_13 := n0_; have HO_42 := n1_; have HO_456001 := n2_; have HO_456002 := n3_; have HO_456003 := n4_; have HL467_0 := n5_; have HO472 := n6_; have BK455 := n7_; have HR467_0 := n8_; have HB := n9_; clear n0_ n1_ n2_ n3_ n4_ n5_ n6_ n7_ n8_ n9_
             (try clear hb)
             (try clear hb2)
             (try clear hk)
             (try clear hi)
             (try clear ho0)
             obtain ⟨Ao42, co42, eo42⟩ := Kd.R_slice HO472.out
             (first | subst eo42 | (injection eo42 with f1_ f2_ f3_; have f4_ := f1_.symm; have f5_ := f3_.symm; clear f1_ f2_ f3_; subst f4_; subst f5_))
             obtain ⟨Ao43, co43, eo43⟩ := Kd.V_slice HO_13.out
             (first | subst eo43 | (injection eo43 with f1_ f2_ f3_; have f4_ := f1_.symm; have f5_ := f3_.symm; clear f1_ f2_ f3_; subst f4_; subst f5_))
             refine hK.out _ _ ⟨HS0_, HS1_⟩ (fun hHeld => ?_)
             clear hK K
             refine norm_ (a' := ?_) ?_ ?_
             rotate_left
             ·show Act.put _ (some 54) _ = _
              simp only [Act.put, List.setIfInBounds_toArray, List.set_cons_zero, List.set_cons_succ, i64_w, i32_w]
              rfl
             refine one_ (i := 8) (N := some 56) #[true, true, true, true, true, true, true, true, true] rfl rfl (one_of HT_.out (by kernel_rfl)) (by decide) (fun K hK => ?_)
             refine goes_ Try.func31 (by kernel_rfl) rfl #[.slice Ao42 t470.length co42, .slice Ao43 t460.length co43] (by rfl) rfl rfl TA ?_
             with_reducible refine (slices_Equal_int_int.calls k2 _ _ t470 _ _ t460 false _ ?side1 ?side2 ?side3 ?side4 A34.out).mono ?_
             (case side1 => repeat (first | exact (Kd.R_reads' HO472.out).2.2 | (with_reducible refine Kd.C_alloc ?_ _) | (with_reducible refine Kd.C_drewN ?_ _) | (with_reducible refine Kd.C_drew ?_)))
             (case side2 => exact (Kd.R_reads' HO472.out).2.1)
             (case side3 => repeat (first | exact (Kd.V_reads' HO_13.out).2.2 | (with_reducible refine Kd.C_alloc ?_ _) | (with_reducible refine Kd.C_drewN ?_ _) | (with_reducible refine Kd.C_drew ?_)))
             (case side4 => exact (Kd.V_reads' HO_13.out).2.1)
             rintro e w' ⟨rfl, ⟨nd, rfl⟩⟩
             refine ⟨_, rfl, ?_⟩
             refine hK.out _ _ ⟨hHeld.1, hHeld.2⟩ (fun hHeld => ?_)
             clear hK K
             refine norm_ (a' := ?_) ?_ ?_
             rotate_left
             ·show Act.put _ (some 56) _ = _
              simp only [Act.put, List.setIfInBounds_toArray, List.set_cons_zero, List.set_cons_succ, i64_w, i32_w]
              rfl
             refine done_ (done_of HT_.out (by kernel_rfl)) ?_
             try go_wp2
             go_roundg k2
             case measure => have := HJ5.out; have := HK2.out; omega
             case rel => exact ⟨(wrap64 (x44_2 + 1)), RF, H', ⟨by have := HJ5.out; have := HK2.out; omega⟩, ⟨by (with_reducible repeat (first | apply Kd.V_alloc | apply Kd.V_drewN | apply Kd.V_drew)); exact Kd.V_mono HO_13.out (fun _ hk => ⟨hk.1.1, ⟨hk.1.2.1, ⟨hk.1.2.2.1, hk.1.2.2.2⟩⟩⟩)⟩, ⟨by (with_reducible repeat (first | apply Kd.S_alloc | apply Kd.S_drewN | apply Kd.S_drew)); exact Kd.S_mono HO_42.out (fun _ hk => ⟨hk.1.1, hk.1.2⟩)⟩, ⟨by (with_reducible repeat (first | apply Kd.V_alloc | apply Kd.V_drewN | apply Kd.V_drew)); exact Kd.V_mono HO_456001.out (fun _ hk => ⟨hk.1.1, ⟨hk.1.2.1, ⟨hk.1.2.2.1, hk.1.2.2.2⟩⟩⟩)⟩, ⟨by (with_reducible repeat (first | apply Kd.S_alloc | apply Kd.S_drewN | apply Kd.S_drew)); exact Kd.S_mono HO_456002.out (fun _ hk => ⟨hk.1.1, hk.1.2⟩)⟩, ⟨by (with_reducible repeat (first | apply Kd.R_alloc | apply Kd.R_drewN | apply Kd.R_drew)); exact Kd.R_mono HO_456003.out (fun _ hk => trivial)⟩, ⟨by (with_reducible repeat (first | refine blk_drewN ?_ _ | refine blk_drew ?_ | refine blk_alloc ?_ _)); exact BK455.out⟩, ⟨by repeat (first | (with_reducible first | exact HB.out | apply below_alloc | apply pw_below_drewN | apply below_drew1 | refine below_set ?_ GE455.out) | exact HB.out)⟩⟩
           ·rw [if_neg c32] at H
            exact absurd H (by simp)
          ·rw [if_neg c31] at H
           exact absurd H (by simp)
         ·rw [if_neg c30] at H
          exact absurd H (by simp)
        ·rw [if_neg c29] at H
         exact absurd H (by simp)
       ·rw [if_neg c28] at H
        have c28b0 : decide (x44_2 < (t464.length : Int)) = false := decide_eq_false c28; clear c28
        simp only [Option.some.injEq, Prod.mk.injEq] at H
        obtain ⟨rfl, rfl⟩ := H
        go_wp2
        go_ret2
        exact ⟨_, by first | rfl | (simp [errW_none, errW_some] <;> rfl) | (simp [*, errW_none, errW_some] <;> rfl), by first | exact Kd.R_nil _ _ _ _ _ | exact Kd.N_nil _ _ _ _ _ | exact Kd.V_nil _ _ _ _ _ | exact Kd.Q_nil _ _ _ _ _ | exact Kd.S_nil _ _ _ _ _, by repeat (first | (with_reducible first | exact HB.out | apply below_alloc | apply pw_below_drewN | apply below_drew1 | refine below_set ?_ GE455.out) | exact HB.out)⟩

end Go.Proofs.Ytgpplbaloajgdaa.PFnExactExitOf
