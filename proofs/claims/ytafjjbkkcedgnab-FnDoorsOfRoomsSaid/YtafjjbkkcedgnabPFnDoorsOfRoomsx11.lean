-- Written by a program of this session (wip/tools/pp.sh) out of the translation; Lean checks it.
import Derived.Test.YtafjjbkkcedgnabPFnDoorsOfRoomsx0
import Derived.Test.YtafjjbkkcedgnabPFnDoorsOfRoomsx1
import Derived.Test.YtafjjbkkcedgnabPFnDoorsOfRoomsx2
import Derived.Test.YtafjjbkkcedgnabPFnDoorsOfRoomsx4
import Derived.Test.YtafjjbkkcedgnabPFnDoorsOfRoomsx5
import Derived.Test.YtafjjbkkcedgnabPFnDoorsOfRoomsx7
import Derived.Test.YtafjjbkkcedgnabPFnDoorsOfRoomsx10
namespace Go.Proofs.Ytafjjbkkcedgnab.PFnDoorsOfRooms
open Go.RowKit Go.Proofs.YtafjjbkkcedgnabOwn Go.Proofs.YtafjjbkkcedgnabW.PrintWords Go.Proofs.YtafjjbkkcedgnabW.PrintLast Go.Proofs.YtafjjbkkcedgnabW.PrintMore
attribute [local go_sem] max2_int min2_int max_two min_two max_three min_three max_four min_four   -- for this text's walks alone
set_option linter.unusedVariables false
set_option maxHeartbeats 8000000
set_option maxRecDepth 100000
set_option linter.unusedSimpArgs false

/-! ### impl_IsDoor: function 12 -/
def impl_IsDoor.j0 : Nat → Int → Int → Int → Bool → Int → List Int → List (List Int) → List Int → Option (Bool × Bool)
 | 0, _, _, _, _, _, _, _, _ => none
 | k + 1, x0, x2, x3, x28, x445000, x445001, x445002, x445003 => if x28 = true then (some (false, false)) else ((impl_points.f k x0).bind fun t449 => (if 0 ≤ x2 then (if x2 < (t449.length : Int) then (if 0 ≤ x3 then (if x3 < (t449.length : Int) then ((impl_near.f k ((rd_T67 t449 x2).f0) ((rd_T67 t449 x2).f1) ((rd_T67 t449 x2).f2) ((rd_T67 t449 x3).f0) ((rd_T67 t449 x3).f1) ((rd_T67 t449 x3).f2)).bind fun t454 => (if t454 = true then ((impl_house_isDoor.f x445000 x445001 x445002 x445003 x2 x3).bind fun t455 => (some (t455, true))) else (some (false, false)))) else (none)) else (none)) else (none)) else (none)))
def impl_IsDoor.f (k : Nat) (a0 : Int) (l1 : List Int) (a2 : Int) (a3 : Int) : Option (Bool × Bool) := (impl_houseOf.f k a0 l1).bind fun bt433 => (if bt433.2.2.2.2 = true then ((impl_isPoint.f k a0 (([a2, a3] : List Int))).bind fun t448 => (impl_IsDoor.j0 k a0 a2 a3 (!t448) bt433.1 bt433.2.1 bt433.2.2.1 bt433.2.2.2.1)) else (impl_IsDoor.j0 k a0 a2 a3 true bt433.1 bt433.2.1 bt433.2.2.1 bt433.2.2.2.1))
theorem impl_IsDoor.mono_l : ∀ k, (∀ y0 y1 y2 y3 y4 y5 y6 y7, LeO (impl_IsDoor.j0 k y0 y1 y2 y3 y4 y5 y6 y7) (impl_IsDoor.j0 (k + 1) y0 y1 y2 y3 y4 y5 y6 y7))
 | 0 => fun _ _ _ _ _ _ _ _ r h => by simp [impl_IsDoor.j0] at h
 | k + 1 => by
  have ih0 := impl_IsDoor.mono_l k
  ·intro y0 y1 y2 y3 y4 y5 y6 y7
   unfold impl_IsDoor.j0
   repeat' first
   | with_reducible first | exact ih0 _ _ _ _ _ _ _ _ | exact impl_houseOf.mono _ _ _ | exact impl_isPoint.mono _ _ _ | exact impl_near.mono _ _ _ _ _ _ _ | exact impl_points.mono _ _ | exact LeO.refl _ | exact LeO.none _ | refine LeO.ite ?_ ?_ | refine LeO.bind ?_ (fun _ => ?_)
   | exact LeO.none _ | refine LeO.ite ?_ ?_ | refine LeO.bind ?_ (fun _ => ?_)
theorem impl_IsDoor.mono : ∀ a0 a1 a2 a3 k, LeO (impl_IsDoor.f k a0 a1 a2 a3) (impl_IsDoor.f (k + 1) a0 a1 a2 a3) := by
 intro a0 a1 a2 a3 k
 have ih0 := impl_IsDoor.mono_l k
 unfold impl_IsDoor.f
 repeat' first
   | with_reducible first | exact ih0 _ _ _ _ _ _ _ _ | exact impl_houseOf.mono _ _ _ | exact impl_isPoint.mono _ _ _ | exact impl_near.mono _ _ _ _ _ _ _ | exact impl_points.mono _ _ | exact LeO.refl _ | exact LeO.none _ | refine LeO.ite ?_ ?_ | refine LeO.bind ?_ (fun _ => ?_)
   | exact LeO.none _ | refine LeO.ite ?_ ?_ | refine LeO.bind ?_ (fun _ => ?_)
def impl_IsDoor.T5 : Bool × List (List Nat × List Nat) := (true, [([], []), ([], []), ([0, 1], [0, 1]), ([2], [2]), ([], []), ([], []), ([4, 5], [4, 5]), ([6], [6]), ([3, 7], [3, 7]), ([8], [8])])
def impl_IsDoor.B5 : List Nat := [0, 0, 3, 7, 0, 0, 48, 112, 255, 511]
theorem impl_IsDoor.tab5 : rtab .any (opsOf Try.f12 5) = impl_IsDoor.T5 := by kernel_rfl
theorem impl_IsDoor.bits5 : waitsOk impl_IsDoor.T5.2 impl_IsDoor.B5 = true := by kernel_rfl
theorem impl_IsDoor.calls (k : Nat) (a0 : Int) (A1 : Option Addr) (c1 : Nat) (l1 : List Int) (a2 : Int) (a3 : Int) (r1 : Bool) (r2 : Bool) (w : World) (hr1 : Kd.C (Kd.int .i64) w A1 l1.length l1) (hc1 : l1.length ≤ c1) (h : impl_IsDoor.f k a0 l1 a2 a3 = some (r1, r2)) :
  Calls Try.prog 12 #[.int .i64 a0, .slice A1 l1.length c1, .int .i64 a2, .int .i64 a3] w fun e w' => e = .returned (.tuple #[.bool r1, .bool r2]) ∧ Below w.heap.size w w' := by
 have hu55 := Try.underlying55
 have hu67 := Try.underlying67
 have HR1 := Aside0.mk hr1
 have HC1 := Aside0.mk hc1
 clear hr1 hc1
 have HB := Aside0.mk (Below.refl w.heap.size w)
 have H : ((impl_houseOf.f k a0 l1).bind fun bt433 => (if bt433.2.2.2.2 = true then ((impl_isPoint.f k a0 (([a2, a3] : List Int))).bind fun t448 => (impl_IsDoor.j0 k a0 a2 a3 (!t448) bt433.1 bt433.2.1 bt433.2.2.1 bt433.2.2.2.1)) else (impl_IsDoor.j0 k a0 a2 a3 true bt433.1 bt433.2.1 bt433.2.2.1 bt433.2.2.2.1))) = some (r1, r2) := h
 clear h
 obtain ⟨⟨t433, t434, t437, t440, t443⟩, A50, H⟩ := Option.bind_eq_some_iff.mp H
 replace H : (if t443 = true then ((impl_isPoint.f k a0 (([a2, a3] : List Int))).bind fun t448 => (impl_IsDoor.j0 k a0 a2 a3 (!t448) t433 t434 t437 t440)) else (impl_IsDoor.j0 k a0 a2 a3 true t433 t434 t437 t440)) = some (r1, r2) := H
 have A5 := Aside0.mk A50
 clear A50
 have HC6 := Aside0.mk H
 clear H
 go_enter Try.func12, Try.ntmps12
 go_upto_region 2 with (first | ((with_reducible refine gate_callee (f := 36) rfl ?_); refine goesL_ (some 16) rfl rfl Try.func36 (by kernel_rfl) rfl #[.int .i64 a0, .slice A1 l1.length c1] rfl TA ?_; (with_reducible refine (impl_houseOf.calls k a0 (fun k_ => k_ < w.heap.size) _ _ l1 t433 t434 t437 t440 t443 _ ?side1 A5.out).mono ?_); (case side1 => exact Kd.V_mk HC1.out (Kd.F_below (Kd.C_F (Kd.heap_int .i64) HR1.out) BB)); rintro e w7 ⟨v435, v438, v441, rfl, ho0, ho1, ho2, hb⟩; refine ⟨_, rfl, ?_⟩; have n0_ := Aside0.mk (Kd.V_lower (Kd.V_mono (ok' := fun k_ => some k_ ≠ (v438 : Value).ownBlock ∧ some k_ ≠ (v441 : Value).ownBlock) ho0 (fun k_ hk_ => ⟨hk_.2.1, hk_.2.2⟩)) (below_size BB)); have n1_ := Aside0.mk (Kd.S_lower (Kd.S_mono (ok' := fun k_ => some k_ ≠ (v441 : Value).ownBlock) ho1 (fun _ hk_ => hk_.2)) (below_size BB)); have n2_ := Aside0.mk (Kd.R_lower (Kd.R_mono (ok' := fun k_ => True) ho2 (fun _ hk_ => trivial)) (below_size BB)); have n3_ := Aside0.mk (below_step BB hb); clear HB; have HO436 := n0_; have HO439 := n1_; have HO442 := n2_; have HB := n3_; clear n0_ n1_ n2_ n3_; (try clear hb); (try clear hb2); (try clear hk); (try clear hi); (try clear ho0); (try clear ho1); (try clear ho2)) | ((with_reducible refine gate_dst (N := 10) rfl ?_); (try (refine gate_guard (by rfl) ?_; dsimp only)); refine box_event ?hg (N := 10) ?hd (cs := #[.int .i64 0, .slice none 0 0, .slice none 0 0, .slice none 0 0]) (t := 55) ?hr ?_; (case hd => rfl); (case hg => rfl); (case hr => exact GS); intro gb444 hg w8 hbox hb; have n0_ := Aside0.mk (Kd.V_below (Kd.V_elderB (by (with_reducible repeat (first | apply Kd.V_alloc | apply Kd.V_drewN | apply Kd.V_drew)); exact HO436.out) gb444 (Nat.le_of_eq hg.symm)) hb); have n1_ := Aside0.mk (Kd.S_below (KS HO439) hb); have n2_ := Aside0.mk (Kd.R_below (KR HO442) hb); have n3_ := Aside0.mk (below_step BB hb); have n4_ := Aside0.mk (hbox); have n5_ := Aside0.mk ((by rw [hg]; exact (below_size BB) : w.heap.size ≤ gb444)); have n6_ := Aside0.mk ((by rw [hg]; exact (below_size BB) : w.heap.size ≤ gb444)); clear HO436; clear HO439; clear HO442; clear HB; have HO436 := n0_; have HO439 := n1_; have HO442 := n2_; have HB := n3_; have BK444 := n4_; have GW444 := n5_; have GE444 := n6_; clear n0_ n1_ n2_ n3_ n4_ n5_ n6_; clear hb hbox hg; have hcz9_0 : w8.cell? ⟨gb444, 0, none⟩ = some (.int .i64 0) := (blk_cell BK444.out 0).trans rfl; have hcz9_1 : w8.cell? ⟨gb444, 1, none⟩ = some (.slice none 0 0) := (blk_cell BK444.out 1).trans rfl; have hcz9_2 : w8.cell? ⟨gb444, 2, none⟩ = some (.slice none 0 0) := (blk_cell BK444.out 2).trans rfl; have hcz9_3 : w8.cell? ⟨gb444, 3, none⟩ = some (.slice none 0 0) := (blk_cell BK444.out 3).trans rfl; have hfz9_0 := blk_frozen BK444.out 0; have hfz9_1 := blk_frozen BK444.out 1; have hfz9_2 := blk_frozen BK444.out 2; have hfz9_3 := blk_frozen BK444.out 3; obtain ⟨Ao10, co10, eo10⟩ := Kd.V_slice HO436.out; subst eo10; obtain ⟨Ao11, co11, eo11⟩ := Kd.S_slice HO439.out; subst eo11; obtain ⟨Ao12, co12, eo12⟩ := Kd.R_slice HO442.out; subst eo12))
 (try simp only [Act.put, List.setIfInBounds_toArray, List.set_cons_zero, List.set_cons_succ])
 go_cut [28] (fun v28 wc => ∃ (kq : Nat) (x28_5 : Bool), v28 = .bool x28_5 ∧ Aside0 (impl_IsDoor.j0 kq a0 a2 a3 x28_5 t433 t434 t437 t440 = some (r1, r2)) ∧ Aside0 (kq ≤ k) ∧ Aside0 (Kd.V (Kd.int .i64) 3 wc w.heap.size (fun k_ => some k_ ≠ ((.slice Ao11 t437.length co11) : Value).ownBlock ∧ some k_ ≠ ((.slice Ao12 t440.length co12) : Value).ownBlock ∧ k_ ≠ gb444) (.slice Ao10 t434.length co10) t434) ∧ Aside0 (Kd.S (Kd.slice 3 (Kd.int .i64)) 24 wc w.heap.size (fun k_ => some k_ ≠ ((.slice Ao12 t440.length co12) : Value).ownBlock) (.slice Ao11 t437.length co11) t437) ∧ Aside0 (Kd.R (Kd.int .i64) 3 wc w.heap.size (fun _ => True) (.slice Ao12 t440.length co12) t440) ∧ Aside0 (wc.heap[gb444]? = some (.cells #[.int .i64 t433, (.slice Ao10 t434.length co10), (.slice Ao11 t437.length co11), (.slice Ao12 t440.length co12)] 55 (0, 0))) ∧ Aside0 (Below w.heap.size w wc))
 case first =>
  have H := HC6.out
  clear HC6
  by_cases c13 : t443 = true
  ·subst c13
   replace H := IP H
   obtain ⟨y445, hy445⟩ : ∃ y_ : List Int, y_ = (([a2, a3] : List Int)) := ⟨_, rfl⟩
   replace H : ((impl_isPoint.f k a0 y445).bind fun t448 => (impl_IsDoor.j0 k a0 a2 a3 (!t448) t433 t434 t437 t440)) = some (r1, r2) := HY H hy445
   have Ny445 := Aside0.mk hy445
   clear hy445
   obtain ⟨t448, A140, H⟩ := Option.bind_eq_some_iff.mp H
   have A14 := Aside0.mk A140
   clear A140
   have H' := Aside0.mk H
   clear H
   go_wp2_with (first | ((with_reducible refine gate_dst (N := 25) rfl ?_); (try (refine gate_guard (by rfl) ?_; dsimp only)); refine Kd.R_lit (Kd.int .i64) _ 3 ?hg (N := 25) ?hd (xs := ([a2, a3] : List Int)) (inner := [.int .i64 a2, .int .i64 a3]) (ok := fun _ => True) (okp := fun _ => True) ?hr ?hp (fun _ hk => hk) trivial (Below.refl _ _) (Nat.le_refl _) (by simp) ?_; (case hd => rfl); (case hg => rfl); (case hr => exact GS); (case hp => exact (Reps.one (show Kd.M (Kd.int .i64) _ _ _ a2 [.int .i64 a2] from rfl) (Reps.one (show Kd.M (Kd.int .i64) _ _ _ a3 [.int .i64 a3] from rfl) (Reps.none _ _)))); intro v446 w15 ho16 hb hg_ hnew_; clear hg_ hnew_; (first | rw [← Ny445.out] at ho16 | (simp only [Int.reduceToNat] at ho16; rw [← Ny445.out] at ho16)); have n0_ := Aside0.mk (Kd.V_elder' (by (with_reducible repeat (first | apply Kd.V_alloc | apply Kd.V_drewN | apply Kd.V_drew)); exact (Kd.V_mono (Kd.V_far (p := ⟨gb444, 3, none⟩) (Kd.V_far (p := ⟨gb444, 2, none⟩) (Kd.V_far (p := ⟨gb444, 1, none⟩) (Kd.V_far (p := ⟨gb444, 0, none⟩) (Kd.V_mono HO436.out (fun k_ hk => (⟨hk, hk.2⟩ : _ ∧ k_ ≠ gb444))) (fun _ hk => hk.2) (.int .i64 t433)) (fun _ hk => hk.2) (.slice Ao10 t434.length co10)) (fun _ hk => hk.2) (.slice Ao11 t437.length co11)) (fun _ hk => hk.2) (.slice Ao12 t440.length co12)) (fun _ h_ => h_.1))) (Kd.R_base ho16) hb); have n1_ := Aside0.mk (Kd.S_elder' (by (with_reducible repeat (first | apply Kd.S_alloc | apply Kd.S_drewN | apply Kd.S_drew)); exact (Kd.S_mono (Kd.S_far (p := ⟨gb444, 3, none⟩) (Kd.S_far (p := ⟨gb444, 2, none⟩) (Kd.S_far (p := ⟨gb444, 1, none⟩) (Kd.S_far (p := ⟨gb444, 0, none⟩) (Kd.S_types HO439.out BK444.out (by decide)) (fun _ hk => hk.2) (.int .i64 t433)) (fun _ hk => hk.2) (.slice Ao10 t434.length co10)) (fun _ hk => hk.2) (.slice Ao11 t437.length co11)) (fun _ hk => hk.2) (.slice Ao12 t440.length co12)) (fun _ h_ => h_.1))) (Kd.R_base ho16) hb); have n2_ := Aside0.mk (Kd.R_elder' (by (with_reducible repeat (first | apply Kd.R_alloc | apply Kd.R_drewN | apply Kd.R_drew)); exact (Kd.R_mono (Kd.R_far (p := ⟨gb444, 3, none⟩) (Kd.R_far (p := ⟨gb444, 2, none⟩) (Kd.R_far (p := ⟨gb444, 1, none⟩) (Kd.R_far (p := ⟨gb444, 0, none⟩) (Kd.R_types HO442.out BK444.out (by decide)) (fun _ hk => hk.2) (.int .i64 t433)) (fun _ hk => hk.2) (.slice Ao10 t434.length co10)) (fun _ hk => hk.2) (.slice Ao11 t437.length co11)) (fun _ hk => hk.2) (.slice Ao12 t440.length co12)) (fun _ h_ => h_.1))) (Kd.R_base ho16) hb); have n3_ := Aside0.mk (Kd.R_lower (Kd.R_new' ho16 (Kd.R_lt (by (with_reducible repeat (first | apply Kd.R_alloc | apply Kd.R_drewN | apply Kd.R_drew)); exact (Kd.R_mono (Kd.R_far (p := ⟨gb444, 3, none⟩) (Kd.R_far (p := ⟨gb444, 2, none⟩) (Kd.R_far (p := ⟨gb444, 1, none⟩) (Kd.R_far (p := ⟨gb444, 0, none⟩) (Kd.R_types HO442.out BK444.out (by decide)) (fun _ hk => hk.2) (.int .i64 t433)) (fun _ hk => hk.2) (.slice Ao10 t434.length co10)) (fun _ hk => hk.2) (.slice Ao11 t437.length co11)) (fun _ hk => hk.2) (.slice Ao12 t440.length co12)) (fun _ h_ => h_.1))))) (below_size (AGE GE444))); have n4_ := Aside0.mk (blk_below (g := gb444) (o := .cells #[.int .i64 t433, .slice Ao10 t434.length co10, .slice Ao11 t437.length co11, .slice Ao12 t440.length co12] 55 (0, 0)) (by (with_reducible repeat (first | refine blk_drewN ?_ _ | refine blk_drew ?_ | refine blk_alloc ?_ _)); refine blk_put (cs := #[.int .i64 t433, .slice Ao10 t434.length co10, .slice Ao11 t437.length co11, .slice none 0 0]) ?_ 3 _ rfl; (with_reducible repeat (first | refine blk_drewN ?_ _ | refine blk_drew ?_ | refine blk_alloc ?_ _)); refine blk_put (cs := #[.int .i64 t433, .slice Ao10 t434.length co10, .slice none 0 0, .slice none 0 0]) ?_ 2 _ rfl; (with_reducible repeat (first | refine blk_drewN ?_ _ | refine blk_drew ?_ | refine blk_alloc ?_ _)); refine blk_put (cs := #[.int .i64 t433, .slice none 0 0, .slice none 0 0, .slice none 0 0]) ?_ 1 _ rfl; (with_reducible repeat (first | refine blk_drewN ?_ _ | refine blk_drew ?_ | refine blk_alloc ?_ _)); refine blk_put (cs := #[.int .i64 0, .slice none 0 0, .slice none 0 0, .slice none 0 0]) ?_ 0 _ rfl; (with_reducible repeat (first | refine blk_drewN ?_ _ | refine blk_drew ?_ | refine blk_alloc ?_ _)); exact BK444.out) hb); have n5_ := Aside0.mk (below_step (AGE GE444) hb); clear HO436; clear HO439; clear HO442; clear BK444; clear HB; have HO436 := n0_; have HO439 := n1_; have HO442 := n2_; have HO447 := n3_; have BK444 := n4_; have HB := n5_; clear n0_ n1_ n2_ n3_ n4_ n5_; clear hb ho16; obtain ⟨Ao17, co17, eo17⟩ := Kd.R_slice HO447.out; subst eo17) | (go_at_call 44; (with_reducible refine (impl_isPoint.calls k a0 _ _ y445 t448 _ ?side1 ?side2 A14.out).mono ?_); (case side1 => exact CW (Kd.R_reads' HO447.out).2.2); (case side2 => exact (Kd.R_reads' HO447.out).2.1); rintro e w18 ⟨rfl, hb⟩; have n0_ := Aside0.mk (Kd.V_below (by (with_reducible repeat (first | apply Kd.V_alloc | apply Kd.V_drewN | apply Kd.V_drew)); exact HO436.out) hb); have n1_ := Aside0.mk (Kd.S_below (KS HO439) hb); have n2_ := Aside0.mk (Kd.R_below (KR HO442) hb); have n3_ := Aside0.mk (Kd.R_below (KR HO447) hb); have n4_ := Aside0.mk (blk_below (g := gb444) (o := .cells #[.int .i64 t433, .slice Ao10 t434.length co10, .slice Ao11 t437.length co11, .slice Ao12 t440.length co12] 55 (0, 0)) (BW BK444) hb); have n5_ := Aside0.mk (below_step (AGE GE444) hb); clear HO436; clear HO439; clear HO442; clear HO447; clear BK444; clear HB; have HO436 := n0_; have HO439 := n1_; have HO442 := n2_; have HO447 := n3_; have BK444 := n4_; have HB := n5_; clear n0_ n1_ n2_ n3_ n4_ n5_; (try clear hb); (try clear hb2); (try clear hk); (try clear hi)))
   go_meet
   case rel => exact ⟨_, (!t448), RF, H', ⟨by first | omega | exact Nat.le_refl _⟩, ⟨by (with_reducible repeat (first | apply Kd.V_alloc | apply Kd.V_drewN | apply Kd.V_drew)); exact Kd.V_mono HO436.out (fun _ hk => ⟨hk.1.1.1, ⟨hk.1.1.2, hk.1.2⟩⟩)⟩, ⟨by (with_reducible repeat (first | apply Kd.S_alloc | apply Kd.S_drewN | apply Kd.S_drew)); exact Kd.S_mono HO439.out (fun _ hk => hk.1)⟩, ⟨by (with_reducible repeat (first | apply Kd.R_alloc | apply Kd.R_drewN | apply Kd.R_drew)); exact Kd.R_mono HO442.out (fun _ hk => trivial)⟩, ⟨by (with_reducible repeat (first | refine blk_drewN ?_ _ | refine blk_drew ?_ | refine blk_alloc ?_ _)); exact BK444.out⟩, ⟨AGE GE444⟩⟩
  ·replace c13 := Bool.eq_false_iff.mpr c13
   subst c13
   replace H := IN H
   have H' := Aside0.mk H
   clear H
   go_wp2
   go_meet
   case rel => exact ⟨_, (true), RF, H', ⟨by first | omega | exact Nat.le_refl _⟩, ⟨by (with_reducible repeat (first | apply Kd.V_alloc | apply Kd.V_drewN | apply Kd.V_drew)); exact Kd.V_mono (Kd.V_far (p := ⟨gb444, 3, none⟩) (Kd.V_far (p := ⟨gb444, 2, none⟩) (Kd.V_far (p := ⟨gb444, 1, none⟩) (Kd.V_far (p := ⟨gb444, 0, none⟩) (Kd.V_mono HO436.out (fun k_ hk => (⟨hk, hk.2⟩ : _ ∧ k_ ≠ gb444))) (fun _ hk => hk.2) (.int .i64 t433)) (fun _ hk => hk.2) (.slice Ao10 t434.length co10)) (fun _ hk => hk.2) (.slice Ao11 t437.length co11)) (fun _ hk => hk.2) (.slice Ao12 t440.length co12)) (fun _ hk => ⟨hk.1.1.1, ⟨hk.1.1.2, hk.1.2⟩⟩)⟩, ⟨by (with_reducible repeat (first | apply Kd.S_alloc | apply Kd.S_drewN | apply Kd.S_drew)); exact Kd.S_mono (Kd.S_far (p := ⟨gb444, 3, none⟩) (Kd.S_far (p := ⟨gb444, 2, none⟩) (Kd.S_far (p := ⟨gb444, 1, none⟩) (Kd.S_far (p := ⟨gb444, 0, none⟩) (Kd.S_types HO439.out BK444.out (by decide)) (fun _ hk => hk.2) (.int .i64 t433)) (fun _ hk => hk.2) (.slice Ao10 t434.length co10)) (fun _ hk => hk.2) (.slice Ao11 t437.length co11)) (fun _ hk => hk.2) (.slice Ao12 t440.length co12)) (fun _ hk => hk.1)⟩, ⟨by (with_reducible repeat (first | apply Kd.R_alloc | apply Kd.R_drewN | apply Kd.R_drew)); exact Kd.R_mono (Kd.R_far (p := ⟨gb444, 3, none⟩) (Kd.R_far (p := ⟨gb444, 2, none⟩) (Kd.R_far (p := ⟨gb444, 1, none⟩) (Kd.R_far (p := ⟨gb444, 0, none⟩) (Kd.R_types HO442.out BK444.out (by decide)) (fun _ hk => hk.2) (.int .i64 t433)) (fun _ hk => hk.2) (.slice Ao10 t434.length co10)) (fun _ hk => hk.2) (.slice Ao11 t437.length co11)) (fun _ hk => hk.2) (.slice Ao12 t440.length co12)) (fun _ hk => trivial)⟩, ⟨by (with_reducible repeat (first | refine blk_drewN ?_ _ | refine blk_drew ?_ | refine blk_alloc ?_ _)); refine blk_put (cs := #[.int .i64 t433, .slice Ao10 t434.length co10, .slice Ao11 t437.length co11, .slice none 0 0]) ?_ 3 _ rfl; (with_reducible repeat (first | refine blk_drewN ?_ _ | refine blk_drew ?_ | refine blk_alloc ?_ _)); refine blk_put (cs := #[.int .i64 t433, .slice Ao10 t434.length co10, .slice none 0 0, .slice none 0 0]) ?_ 2 _ rfl; (with_reducible repeat (first | refine blk_drewN ?_ _ | refine blk_drew ?_ | refine blk_alloc ?_ _)); refine blk_put (cs := #[.int .i64 t433, .slice none 0 0, .slice none 0 0, .slice none 0 0]) ?_ 1 _ rfl; (with_reducible repeat (first | refine blk_drewN ?_ _ | refine blk_drew ?_ | refine blk_alloc ?_ _)); refine blk_put (cs := #[.int .i64 0, .slice none 0 0, .slice none 0 0, .slice none 0 0]) ?_ 0 _ rfl; (with_reducible repeat (first | refine blk_drewN ?_ _ | refine blk_drew ?_ | refine blk_alloc ?_ _)); exact BK444.out⟩, ⟨AGE GE444⟩⟩
 case rest =>
  clear HC6
  try clear c1
  try clear p2
  try clear c3
  try clear p6
  try clear c12
  try clear c13
  try clear hcz9_0
  try clear hcz9_1
  try clear hcz9_2
  try clear hcz9_3
  try clear hfz9_0
  try clear hfz9_1
  try clear hfz9_2
  try clear hfz9_3
  obtain ⟨kq, x28_5, rfl, HA, HJ5, HO_445001, HO_445002, HO_445003, BK444, HB⟩ := hcut
  cases kq with
  | zero => exact absurd HA.out (by simp [impl_IsDoor.j0])
  | succ kj5 =>
   have H := HA.out
   clear HA
   simp only [impl_IsDoor.j0] at H
   by_cases c19 : x28_5 = true
   ·subst c19
    replace H := IP H
    simp only [Option.some.injEq, Prod.mk.injEq] at H
    obtain ⟨rfl, rfl⟩ := H
    go_wp2
    go_ret2
    exact ⟨RE, AGE GE444⟩
   ·replace c19 := Bool.eq_false_iff.mpr c19
    subst c19
    replace H := IN H
    obtain ⟨t449, A200, H⟩ := Option.bind_eq_some_iff.mp H
    have A20 := Aside0.mk A200
    clear A200
    by_cases c21 : 0 ≤ a2
    ·rw [if_pos c21] at H
     have c21b0 : decide (0 ≤ a2) = true := decide_eq_true c21
     clear c21
     by_cases c22 : a2 < (t449.length : Int)
     ·rw [if_pos c22] at H
      have c22b0 : decide (a2 < (t449.length : Int)) = true := decide_eq_true c22
      clear c22
      by_cases c23 : 0 ≤ a3
      ·rw [if_pos c23] at H
       have c23b0 : decide (0 ≤ a3) = true := decide_eq_true c23
       clear c23
       by_cases c24 : a3 < (t449.length : Int)
       ·rw [if_pos c24] at H
        have c24b0 : decide (a3 < (t449.length : Int)) = true := decide_eq_true c24
        clear c24
        obtain ⟨t454, A250, H⟩ := Option.bind_eq_some_iff.mp H
        have A25 := Aside0.mk A250
        clear A250
        by_cases c26 : t454 = true
        ·subst c26
         replace H := IP H
         obtain ⟨t455, A270, H⟩ := Option.bind_eq_some_iff.mp H
         have A27 := Aside0.mk A270
         clear A270
         simp only [Option.some.injEq, Prod.mk.injEq] at H
         obtain ⟨rfl, rfl⟩ := H
         try go_wp2_with (first | ((with_reducible refine gate_callee (f := 45) rfl ?_); refine goesL_ (some 30) rfl rfl Try.func45 (by kernel_rfl) rfl #[.int .i64 a0] rfl TA ?_; (with_reducible refine (impl_points.calls kj5 a0 t449 _ A20.out).mono ?_); rintro e w28 ⟨v450, rfl, ho0, hb⟩; refine ⟨_, rfl, ?_⟩; have n0_ := Aside0.mk (Kd.V_elder' (by (with_reducible repeat (first | apply Kd.V_alloc | apply Kd.V_drewN | apply Kd.V_drew)); exact HO_445001.out) (Kd.R_base ho0) hb); have n1_ := Aside0.mk (Kd.S_below (KS HO_445002) hb); have n2_ := Aside0.mk (Kd.R_below (KR HO_445003) hb); have n3_ := Aside0.mk (Kd.R_lower ho0 (below_size (AGE GE444))); have n4_ := Aside0.mk (blk_below (g := gb444) (o := .cells #[.int .i64 t433, .slice Ao10 t434.length co10, .slice Ao11 t437.length co11, .slice Ao12 t440.length co12] 55 (0, 0)) (BW BK444) hb); have n5_ := Aside0.mk (below_step (AGE GE444) hb); clear HO_445001; clear HO_445002; clear HO_445003; clear BK444; clear HB; have HO_445001 := n0_; have HO_445002 := n1_; have HO_445003 := n2_; have HO451 := n3_; have BK444 := n4_; have HB := n5_; clear n0_ n1_ n2_ n3_ n4_ n5_; (try clear hb); (try clear hb2); (try clear hk); (try clear hi); (try clear ho0)))
         have n0_ := Aside0.mk (Kd.V_drew HO_445001.out)
         have n1_ := Aside0.mk (Kd.S_drew HO_445002.out)
         have n2_ := Aside0.mk (Kd.R_drew HO_445003.out)
         have n3_ := Aside0.mk (Kd.R_drew HO451.out)
         have n4_ := Aside0.mk (blk_drew BK444.out)
         have n5_ := Aside0.mk (below_drew1 HB.out)
         clear HO_445001
         clear HO_445002
         clear HO_445003
         clear HO451
         clear BK444
         clear HB
         have HO_445001 := n0_
         have HO_445002 := n1_
         have HO_445003 := n2_
         have HO451 := n3_
         have BK444 := n4_
         have HB := n5_
         clear n0_ n1_ n2_ n3_ n4_ n5_
         obtain ⟨Ao30, co30, eo30⟩ := Kd.R_slice HO451.out
         (first | subst eo30 | (injection eo30 with f1_ f2_ f3_; have f4_ := f1_.symm; have f5_ := f3_.symm; clear f1_ f2_ f3_; subst f4_; subst f5_))
         have p452 : 0 ≤ (a2 : Int) := of_decide_eq_true AS
         have q452 : a2 < (t449.length : Int) := of_decide_eq_true AS
         obtain ⟨ad452, e452, hx452_0, hx452_1, hx452_2⟩ := at_T67 (Kd.R_reads' HO451.out).2.2 a2 p452 q452
         cases e452
         replace p452 := eq_true p452
         replace q452 := eq_true q452
         have p453 : 0 ≤ (a3 : Int) := of_decide_eq_true AS
         have q453 : a3 < (t449.length : Int) := of_decide_eq_true AS
         obtain ⟨ad453, e453, hx453_0, hx453_1, hx453_2⟩ := at_T67 (Kd.R_reads' HO451.out).2.2 a3 p453 q453
         obtain rfl : ad452 = ad453 := (by injection e453)
         replace p453 := eq_true p453
         replace q453 := eq_true q453
         refine start_ (n := 10) (S := fun w' => w'.cell? (ad452.add ((a2).toNat * 3)) = some (.int .i64 ((rd_T67 t449 a2).f0)) ∧ w'.cell? ⟨(ad452.add ((a2).toNat * 3)).block, (ad452.add ((a2).toNat * 3)).off + 1, none⟩ = some (.int .i64 ((rd_T67 t449 a2).f1)) ∧ w'.cell? ⟨(ad452.add ((a2).toNat * 3)).block, (ad452.add ((a2).toNat * 3)).off + 2, none⟩ = some (.int .i64 ((rd_T67 t449 a2).f2)) ∧ w'.cell? (ad452.add ((a3).toNat * 3)) = some (.int .i64 ((rd_T67 t449 a3).f0)) ∧ w'.cell? ⟨(ad452.add ((a3).toNat * 3)).block, (ad452.add ((a3).toNat * 3)).off + 1, none⟩ = some (.int .i64 ((rd_T67 t449 a3).f1)) ∧ w'.cell? ⟨(ad452.add ((a3).toNat * 3)).block, (ad452.add ((a3).toNat * 3)).off + 2, none⟩ = some (.int .i64 ((rd_T67 t449 a3).f2))) (ds := []) #[false, false, false, false, false, false, false, false, false, false] (by kernel_rfl) rfl rfl ⟨hx452_0, hx452_1, hx452_2, hx453_0, hx453_1, hx453_2⟩ (fun hHeld => ?_); refine with_tabW impl_IsDoor.tab5 impl_IsDoor.bits5 (fun HT_ HW_ => ?_)
         generalize w28.drew = w29 at HO_445001 HO_445002 HO_445003 HO451 BK444 HB hx452_0 hx452_1 hx452_2 hx453_0 hx453_1 hx453_2 hHeld ⊢
         refine pure_ (i := 0) (N := some 31) #[true, false, false, false, false, false, false, false, false, false] rfl rfl (any_of HT_.out (by kernel_rfl)) (fun _ _ _ h => h) (Or.inl ⟨by rfl, PW⟩) PU ?_
         refine pure_ (i := 1) (N := some 32) #[true, true, false, false, false, false, false, false, false, false] rfl rfl (any_of HT_.out (by kernel_rfl)) (fun _ _ _ h => h) (Or.inl ⟨by rfl, PW⟩) PU ?_
         refine pure_ (i := 2) (N := some 33) #[true, true, true, false, false, false, false, false, false, false] rfl rfl (any_of HT_.out (by kernel_rfl)) (fun _ _ _ h => h) (Or.inl ⟨by rfl, PW⟩) PU ?_
         refine pure_ (i := 4) (N := some 35) #[true, true, true, false, true, false, false, false, false, false] rfl rfl (any_of HT_.out (by kernel_rfl)) (fun _ _ _ h => h) (Or.inl ⟨by rfl, PW⟩) PU ?_
         refine pure_ (i := 5) (N := some 36) #[true, true, true, false, true, true, false, false, false, false] rfl rfl (any_of HT_.out (by kernel_rfl)) (fun _ _ _ h => h) (Or.inl ⟨by rfl, PW⟩) PU ?_
         refine pure_ (i := 6) (N := some 37) #[true, true, true, false, true, true, true, false, false, false] rfl rfl (any_of HT_.out (by kernel_rfl)) (fun _ _ _ h => h) (Or.inl ⟨by rfl, PW⟩) PU ?_
         refine take_ (i := 3) (N := some 34) #[true, true, true, true, true, true, true, false, false, false] rfl rfl (take_ofW HT_.out HW_.out (by kernel_rfl)) (fun _ _ _ h => h) (Or.inl ⟨by rfl, PT⟩) hHeld PU ?_
         refine take_ (i := 7) (N := some 38) #[true, true, true, true, true, true, true, true, false, false] rfl rfl (take_ofW HT_.out HW_.out (by kernel_rfl)) (fun _ _ _ h => h) (Or.inl ⟨by rfl, PT⟩) hHeld PU ?_
         refine one_ (i := 8) (N := some 39) #[true, true, true, true, true, true, true, true, true, false] rfl rfl (one_of HT_.out (by kernel_rfl)) (by decide) (fun K hK => ?_)
         refine goes_ Try.func46 (by kernel_rfl) rfl #[.agg #[.int .i64 ((rd_T67 t449 a2).f0), .int .i64 ((rd_T67 t449 a2).f1), .int .i64 ((rd_T67 t449 a2).f2)], .agg #[.int .i64 ((rd_T67 t449 a3).f0), .int .i64 ((rd_T67 t449 a3).f1), .int .i64 ((rd_T67 t449 a3).f2)]] (by rfl) rfl rfl TA ?_
         with_reducible refine (impl_near.calls kj5 ((rd_T67 t449 a2).f0) ((rd_T67 t449 a2).f1) ((rd_T67 t449 a2).f2) ((rd_T67 t449 a3).f0) ((rd_T67 t449 a3).f1) ((rd_T67 t449 a3).f2) true _ A25.out).mono ?_
         rintro e w31 ⟨rfl, hb⟩
         have HS0_ := (hb.cell (World.block_lt_of_cell? _ _ (hHeld.1))).trans (hHeld.1)
         have HS1_ := (hb.cell (World.block_lt_of_cell? _ _ (hHeld.2.1))).trans (hHeld.2.1)
         have HS2_ := (hb.cell (World.block_lt_of_cell? _ _ (hHeld.2.2.1))).trans (hHeld.2.2.1)
         have HS3_ := (hb.cell (World.block_lt_of_cell? _ _ (hHeld.2.2.2.1))).trans (hHeld.2.2.2.1)
         have HS4_ := (hb.cell (World.block_lt_of_cell? _ _ (hHeld.2.2.2.2.1))).trans (hHeld.2.2.2.2.1)
         have HS5_ := (hb.cell (World.block_lt_of_cell? _ _ (hHeld.2.2.2.2.2))).trans (hHeld.2.2.2.2.2)
         refine ⟨_, rfl, ?_⟩
         have n0_ := Aside0.mk (Kd.V_below (by (with_reducible repeat (first | apply Kd.V_alloc | apply Kd.V_drewN | apply Kd.V_drew)); exact HO_445001.out) hb)
         have n1_ := Aside0.mk (Kd.S_below (KS HO_445002) hb)
         have n2_ := Aside0.mk (Kd.R_below (KR HO_445003) hb)
         have n3_ := Aside0.mk (Kd.R_below (KR HO451) hb)
         have n4_ := Aside0.mk (blk_below (g := gb444) (o := .cells #[.int .i64 t433, .slice Ao10 t434.length co10, .slice Ao11 t437.length co11, .slice Ao12 t440.length co12] 55 (0, 0)) (BW BK444) hb)
         have n5_ := Aside0.mk (below_step (AGE GE444) hb)
         clear HO_445001
         clear HO_445002
         clear HO_445003
         clear HO451
         clear BK444
         clear HB
         have HO_445001 := n0_
         have HO_445002 := n1_
         have HO_445003 := n2_
         have HO451 := n3_
         have BK444 := n4_
         have HB := n5_
         clear n0_ n1_ n2_ n3_ n4_ n5_
         (try clear hb)
         (try clear hb2)
         (try clear hk)
         (try clear hi)
         refine hK.out _ _ ⟨HS0_, HS1_, HS2_, HS3_, HS4_, HS5_⟩ (fun hHeld => ?_)
         clear hK K
         refine norm_ (a' := ?_) ?_ ?_
         rotate_left
         ·show Act.put _ (some 39) _ = _
          simp only [Act.put, List.setIfInBounds_toArray, List.set_cons_zero, List.set_cons_succ, i64_w, i32_w]
          rfl
         refine pure_ (i := 9) (N := some 40) #[true, true, true, true, true, true, true, true, true, true] rfl rfl (any_of HT_.out (by kernel_rfl)) (fun _ _ _ h => h) (Or.inl ⟨by rfl, PW⟩) PU ?_
         refine done_ (done_of HT_.out (by kernel_rfl)) ?_
         have hcz32_0 : w31.cell? ⟨gb444, 0, none⟩ = some (.int .i64 t433) := (blk_cell BK444.out 0).trans rfl
         have hcz32_1 : w31.cell? ⟨gb444, 1, none⟩ = some (.slice Ao10 t434.length co10) := (blk_cell BK444.out 1).trans rfl
         have hcz32_2 : w31.cell? ⟨gb444, 2, none⟩ = some (.slice Ao11 t437.length co11) := (blk_cell BK444.out 2).trans rfl
         have hcz32_3 : w31.cell? ⟨gb444, 3, none⟩ = some (.slice Ao12 t440.length co12) := (blk_cell BK444.out 3).trans rfl
         have hfz32_0 := blk_frozen BK444.out 0
         have hfz32_1 := blk_frozen BK444.out 1
         have hfz32_2 := blk_frozen BK444.out 2
         have hfz32_3 := blk_frozen BK444.out 3
         try go_wp2_with (first | ((with_reducible refine gate_callee (f := 47) rfl ?_); refine goesL_ (some 44) rfl rfl Try.func47 (by kernel_rfl) rfl #[.agg #[.int .i64 t433, .slice Ao10 t434.length co10, .slice Ao11 t437.length co11, .slice Ao12 t440.length co12], .int .i64 a2, .int .i64 a3] rfl TA ?_; (with_reducible refine (impl_house_isDoor.calls t433 _ _ t434 _ _ t437 _ _ t440 a2 a3 t455 _ ?side1 ?side2 ?side3 ?side4 ?side5 ?side6 A27.out).mono ?_); (case side1 => exact CW (Kd.V_reads' HO_445001.out).2.2); (case side2 => exact (Kd.V_reads' HO_445001.out).2.1); (case side3 => exact CW (Kd.S_reads' HO_445002.out).2.2); (case side4 => exact (Kd.S_reads' HO_445002.out).2.1); (case side5 => exact CW (Kd.R_reads' HO_445003.out).2.2); (case side6 => exact (Kd.R_reads' HO_445003.out).2.1); rintro e w33 ⟨rfl, hb⟩; refine ⟨_, rfl, ?_⟩; have n0_ := Aside0.mk (Kd.V_below (by (with_reducible repeat (first | apply Kd.V_alloc | apply Kd.V_drewN | apply Kd.V_drew)); exact HO_445001.out) hb); have n1_ := Aside0.mk (Kd.S_below (KS HO_445002) hb); have n2_ := Aside0.mk (Kd.R_below (KR HO_445003) hb); have n3_ := Aside0.mk (Kd.R_below (KR HO451) hb); have n4_ := Aside0.mk (blk_below (g := gb444) (o := .cells #[.int .i64 t433, .slice Ao10 t434.length co10, .slice Ao11 t437.length co11, .slice Ao12 t440.length co12] 55 (0, 0)) (BW BK444) hb); have n5_ := Aside0.mk (below_step (AGE GE444) hb); clear HO_445001; clear HO_445002; clear HO_445003; clear HO451; clear BK444; clear HB; have HO_445001 := n0_; have HO_445002 := n1_; have HO_445003 := n2_; have HO451 := n3_; have BK444 := n4_; have HB := n5_; clear n0_ n1_ n2_ n3_ n4_ n5_; (try clear hb); (try clear hb2); (try clear hk); (try clear hi)))
         go_ret2
         exact ⟨RE, AGE GE444⟩
        ·replace c26 := Bool.eq_false_iff.mpr c26
         subst c26
         replace H := IN H
         simp only [Option.some.injEq, Prod.mk.injEq] at H
         obtain ⟨rfl, rfl⟩ := H
         try go_wp2_with (first | ((with_reducible refine gate_callee (f := 45) rfl ?_); refine goesL_ (some 30) rfl rfl Try.func45 (by kernel_rfl) rfl #[.int .i64 a0] rfl TA ?_; (with_reducible refine (impl_points.calls kj5 a0 t449 _ A20.out).mono ?_); rintro e w34 ⟨v450, rfl, ho0, hb⟩; refine ⟨_, rfl, ?_⟩; have n0_ := Aside0.mk (Kd.V_elder' (by (with_reducible repeat (first | apply Kd.V_alloc | apply Kd.V_drewN | apply Kd.V_drew)); exact HO_445001.out) (Kd.R_base ho0) hb); have n1_ := Aside0.mk (Kd.S_below (KS HO_445002) hb); have n2_ := Aside0.mk (Kd.R_below (KR HO_445003) hb); have n3_ := Aside0.mk (Kd.R_lower ho0 (below_size (AGE GE444))); have n4_ := Aside0.mk (blk_below (g := gb444) (o := .cells #[.int .i64 t433, .slice Ao10 t434.length co10, .slice Ao11 t437.length co11, .slice Ao12 t440.length co12] 55 (0, 0)) (BW BK444) hb); have n5_ := Aside0.mk (below_step (AGE GE444) hb); clear HO_445001; clear HO_445002; clear HO_445003; clear BK444; clear HB; have HO_445001 := n0_; have HO_445002 := n1_; have HO_445003 := n2_; have HO451 := n3_; have BK444 := n4_; have HB := n5_; clear n0_ n1_ n2_ n3_ n4_ n5_; (try clear hb); (try clear hb2); (try clear hk); (try clear hi); (try clear ho0)))
         have n0_ := Aside0.mk (Kd.V_drew HO_445001.out)
         have n1_ := Aside0.mk (Kd.S_drew HO_445002.out)
         have n2_ := Aside0.mk (Kd.R_drew HO_445003.out)
         have n3_ := Aside0.mk (Kd.R_drew HO451.out)
         have n4_ := Aside0.mk (blk_drew BK444.out)
         have n5_ := Aside0.mk (below_drew1 HB.out)
         clear HO_445001
         clear HO_445002
         clear HO_445003
         clear HO451
         clear BK444
         clear HB
         have HO_445001 := n0_
         have HO_445002 := n1_
         have HO_445003 := n2_
         have HO451 := n3_
         have BK444 := n4_
         have HB := n5_
         clear n0_ n1_ n2_ n3_ n4_ n5_
         obtain ⟨Ao36, co36, eo36⟩ := Kd.R_slice HO451.out
         (first | subst eo36 | (injection eo36 with f1_ f2_ f3_; have f4_ := f1_.symm; have f5_ := f3_.symm; clear f1_ f2_ f3_; subst f4_; subst f5_))
         have p452 : 0 ≤ (a2 : Int) := of_decide_eq_true AS
         have q452 : a2 < (t449.length : Int) := of_decide_eq_true AS
         obtain ⟨ad452, e452, hx452_0, hx452_1, hx452_2⟩ := at_T67 (Kd.R_reads' HO451.out).2.2 a2 p452 q452
         cases e452
         replace p452 := eq_true p452
         replace q452 := eq_true q452
         have p453 : 0 ≤ (a3 : Int) := of_decide_eq_true AS
         have q453 : a3 < (t449.length : Int) := of_decide_eq_true AS
         obtain ⟨ad453, e453, hx453_0, hx453_1, hx453_2⟩ := at_T67 (Kd.R_reads' HO451.out).2.2 a3 p453 q453
         obtain rfl : ad452 = ad453 := (by injection e453)
         replace p453 := eq_true p453
         replace q453 := eq_true q453
         refine start_ (n := 10) (S := fun w' => w'.cell? (ad452.add ((a2).toNat * 3)) = some (.int .i64 ((rd_T67 t449 a2).f0)) ∧ w'.cell? ⟨(ad452.add ((a2).toNat * 3)).block, (ad452.add ((a2).toNat * 3)).off + 1, none⟩ = some (.int .i64 ((rd_T67 t449 a2).f1)) ∧ w'.cell? ⟨(ad452.add ((a2).toNat * 3)).block, (ad452.add ((a2).toNat * 3)).off + 2, none⟩ = some (.int .i64 ((rd_T67 t449 a2).f2)) ∧ w'.cell? (ad452.add ((a3).toNat * 3)) = some (.int .i64 ((rd_T67 t449 a3).f0)) ∧ w'.cell? ⟨(ad452.add ((a3).toNat * 3)).block, (ad452.add ((a3).toNat * 3)).off + 1, none⟩ = some (.int .i64 ((rd_T67 t449 a3).f1)) ∧ w'.cell? ⟨(ad452.add ((a3).toNat * 3)).block, (ad452.add ((a3).toNat * 3)).off + 2, none⟩ = some (.int .i64 ((rd_T67 t449 a3).f2))) (ds := []) #[false, false, false, false, false, false, false, false, false, false] (by kernel_rfl) rfl rfl ⟨hx452_0, hx452_1, hx452_2, hx453_0, hx453_1, hx453_2⟩ (fun hHeld => ?_); refine with_tabW impl_IsDoor.tab5 impl_IsDoor.bits5 (fun HT_ HW_ => ?_)
         generalize w34.drew = w35 at HO_445001 HO_445002 HO_445003 HO451 BK444 HB hx452_0 hx452_1 hx452_2 hx453_0 hx453_1 hx453_2 hHeld ⊢
         refine pure_ (i := 0) (N := some 31) #[true, false, false, false, false, false, false, false, false, false] rfl rfl (any_of HT_.out (by kernel_rfl)) (fun _ _ _ h => h) (Or.inl ⟨by rfl, PW⟩) PU ?_
         refine pure_ (i := 1) (N := some 32) #[true, true, false, false, false, false, false, false, false, false] rfl rfl (any_of HT_.out (by kernel_rfl)) (fun _ _ _ h => h) (Or.inl ⟨by rfl, PW⟩) PU ?_
         refine pure_ (i := 2) (N := some 33) #[true, true, true, false, false, false, false, false, false, false] rfl rfl (any_of HT_.out (by kernel_rfl)) (fun _ _ _ h => h) (Or.inl ⟨by rfl, PW⟩) PU ?_
         refine pure_ (i := 4) (N := some 35) #[true, true, true, false, true, false, false, false, false, false] rfl rfl (any_of HT_.out (by kernel_rfl)) (fun _ _ _ h => h) (Or.inl ⟨by rfl, PW⟩) PU ?_
         refine pure_ (i := 5) (N := some 36) #[true, true, true, false, true, true, false, false, false, false] rfl rfl (any_of HT_.out (by kernel_rfl)) (fun _ _ _ h => h) (Or.inl ⟨by rfl, PW⟩) PU ?_
         refine pure_ (i := 6) (N := some 37) #[true, true, true, false, true, true, true, false, false, false] rfl rfl (any_of HT_.out (by kernel_rfl)) (fun _ _ _ h => h) (Or.inl ⟨by rfl, PW⟩) PU ?_
         refine take_ (i := 3) (N := some 34) #[true, true, true, true, true, true, true, false, false, false] rfl rfl (take_ofW HT_.out HW_.out (by kernel_rfl)) (fun _ _ _ h => h) (Or.inl ⟨by rfl, PT⟩) hHeld PU ?_
         refine take_ (i := 7) (N := some 38) #[true, true, true, true, true, true, true, true, false, false] rfl rfl (take_ofW HT_.out HW_.out (by kernel_rfl)) (fun _ _ _ h => h) (Or.inl ⟨by rfl, PT⟩) hHeld PU ?_
         refine one_ (i := 8) (N := some 39) #[true, true, true, true, true, true, true, true, true, false] rfl rfl (one_of HT_.out (by kernel_rfl)) (by decide) (fun K hK => ?_)
         refine goes_ Try.func46 (by kernel_rfl) rfl #[.agg #[.int .i64 ((rd_T67 t449 a2).f0), .int .i64 ((rd_T67 t449 a2).f1), .int .i64 ((rd_T67 t449 a2).f2)], .agg #[.int .i64 ((rd_T67 t449 a3).f0), .int .i64 ((rd_T67 t449 a3).f1), .int .i64 ((rd_T67 t449 a3).f2)]] (by rfl) rfl rfl TA ?_
         with_reducible refine (impl_near.calls kj5 ((rd_T67 t449 a2).f0) ((rd_T67 t449 a2).f1) ((rd_T67 t449 a2).f2) ((rd_T67 t449 a3).f0) ((rd_T67 t449 a3).f1) ((rd_T67 t449 a3).f2) false _ A25.out).mono ?_
         rintro e w37 ⟨rfl, hb⟩
         have HS0_ := (hb.cell (World.block_lt_of_cell? _ _ (hHeld.1))).trans (hHeld.1)
         have HS1_ := (hb.cell (World.block_lt_of_cell? _ _ (hHeld.2.1))).trans (hHeld.2.1)
         have HS2_ := (hb.cell (World.block_lt_of_cell? _ _ (hHeld.2.2.1))).trans (hHeld.2.2.1)
         have HS3_ := (hb.cell (World.block_lt_of_cell? _ _ (hHeld.2.2.2.1))).trans (hHeld.2.2.2.1)
         have HS4_ := (hb.cell (World.block_lt_of_cell? _ _ (hHeld.2.2.2.2.1))).trans (hHeld.2.2.2.2.1)
         have HS5_ := (hb.cell (World.block_lt_of_cell? _ _ (hHeld.2.2.2.2.2))).trans (hHeld.2.2.2.2.2)
         refine ⟨_, rfl, ?_⟩
         have n0_ := Aside0.mk (Kd.V_below (by (with_reducible repeat (first | apply Kd.V_alloc | apply Kd.V_drewN | apply Kd.V_drew)); exact HO_445001.out) hb)
         have n1_ := Aside0.mk (Kd.S_below (KS HO_445002) hb)
         have n2_ := Aside0.mk (Kd.R_below (KR HO_445003) hb)
         have n3_ := Aside0.mk (Kd.R_below (KR HO451) hb)
         have n4_ := Aside0.mk (blk_below (g := gb444) (o := .cells #[.int .i64 t433, .slice Ao10 t434.length co10, .slice Ao11 t437.length co11, .slice Ao12 t440.length co12] 55 (0, 0)) (BW BK444) hb)
         have n5_ := Aside0.mk (below_step (AGE GE444) hb)
         clear HO_445001
         clear HO_445002
         clear HO_445003
         clear HO451
         clear BK444
         clear HB
         have HO_445001 := n0_
         have HO_445002 := n1_
         have HO_445003 := n2_
         have HO451 := n3_
         have BK444 := n4_
         have HB := n5_
         clear n0_ n1_ n2_ n3_ n4_ n5_
         (try clear hb)
         (try clear hb2)
         (try clear hk)
         (try clear hi)
         refine hK.out _ _ ⟨HS0_, HS1_, HS2_, HS3_, HS4_, HS5_⟩ (fun hHeld => ?_)
         clear hK K
         refine norm_ (a' := ?_) ?_ ?_
         rotate_left
         ·show Act.put _ (some 39) _ = _
          simp only [Act.put, List.setIfInBounds_toArray, List.set_cons_zero, List.set_cons_succ, i64_w, i32_w]
          rfl
         refine pure_ (i := 9) (N := some 40) #[true, true, true, true, true, true, true, true, true, true] rfl rfl (any_of HT_.out (by kernel_rfl)) (fun _ _ _ h => h) (Or.inl ⟨by rfl, PW⟩) PU ?_
         refine done_ (done_of HT_.out (by kernel_rfl)) ?_
         try go_wp2
         go_ret2
         exact ⟨RE, AGE GE444⟩
       ·rw [if_neg c24] at H
        cases H
      ·rw [if_neg c23] at H
       cases H
     ·rw [if_neg c22] at H
      cases H
    ·rw [if_neg c21] at H
     cases H

/-! ### spec_DrawDoorsOf: function 13 -/
def spec_DrawDoorsOf.f (k : Nat) (l0 : List Int) : Option (Int × List Int) := (spec_l1Cur_anyLabels.f k l0 0 0 4).bind fun bt457 => (some (bt457.1, bt457.2.1))
theorem spec_DrawDoorsOf.mono : ∀ a0 k, LeO (spec_DrawDoorsOf.f k a0) (spec_DrawDoorsOf.f (k + 1) a0) := by
 intro a0 k
 unfold spec_DrawDoorsOf.f
 repeat' first
   | with_reducible first | exact spec_l1Cur_anyLabels.mono _ _ _ _ _ | exact LeO.refl _ | exact LeO.none _ | refine LeO.ite ?_ ?_ | refine LeO.bind ?_ (fun _ => ?_)
   | exact LeO.none _ | refine LeO.ite ?_ ?_ | refine LeO.bind ?_ (fun _ => ?_)
theorem spec_DrawDoorsOf.calls (k : Nat) (A0 : Option Addr) (c0 : Nat) (l0 : List Int) (r1 : Int) (r2 : List Int) (w : World) (hr0 : Kd.C (Kd.int .u8) w A0 l0.length l0) (hc0 : l0.length ≤ c0) (h : spec_DrawDoorsOf.f k l0 = some (r1, r2)) :
  Calls Try.prog 13 #[.slice A0 l0.length c0] w fun e w' => ∃ v1_ : Value, e = .returned (.tuple #[.int .i64 r1, v1_]) ∧ Kd.R (Kd.int .i64) 3 w' w.heap.size (fun _ => True) v1_ r2 ∧ Below w.heap.size w w' := by
 have hu52 := Try.underlying52
 have HR0 := Aside0.mk hr0
 have HC0 := Aside0.mk hc0
 clear hr0 hc0
 have HB := Aside0.mk (Below.refl w.heap.size w)
 have H : ((spec_l1Cur_anyLabels.f k l0 0 0 4).bind fun bt457 => (some (bt457.1, bt457.2.1))) = some (r1, r2) := h
 clear h
 obtain ⟨⟨t457, t458, t461, t462⟩, A20, H⟩ := Option.bind_eq_some_iff.mp H
 replace H : (some (t457, t458)) = some (r1, r2) := H
 have A2 := Aside0.mk A20
 clear A20
 simp only [Option.some.injEq, Prod.mk.injEq] at H
 obtain ⟨rfl, rfl⟩ := H
 go_enter Try.func13, Try.ntmps13
 go_wp2_with (first | ((with_reducible refine gate_dst (N := 7) rfl ?_); refine box_event ?hg (N := 7) ?hd (cs := #[.slice A0 l0.length c0, .int .i64 0, .int .u64 0]) (t := 52) ?hr ?_; (case hd => rfl); (case hg => rfl); (case hr => exact GS); intro gb456 hg w3 hbox hb; have n0_ := Aside0.mk (below_step BB hb); have n1_ := Aside0.mk ((by rw [hg]; exact (below_size BB) : w.heap.size ≤ gb456)); have n2_ := Aside0.mk ((by rw [hg]; exact (below_size BB) : w.heap.size ≤ gb456)); have n3_ := Aside0.mk ((show IsS52 w w3 gb456 l0 0 0 from ⟨A0, c0, hbox, (by rw [hg]; exact (below_size BB) : w.heap.size ≤ gb456), HR0.out⟩)); clear HB; have HB := n0_; have GW456 := n1_; have GE456 := n2_; have HI456 := n3_; clear n0_ n1_ n2_ n3_; clear hb hbox hg) | ((with_reducible refine gate_callee (f := 48) rfl ?_); refine goesL_ (some 9) rfl rfl Try.func48 (by kernel_rfl) rfl #[.pointer (some ⟨gb456, 0, none⟩), .int .i64 4] rfl TA ?_; (with_reducible refine (spec_l1Cur_anyLabels.calls k gb456 l0 0 0 4 t457 t458 t461 t462 w _ ?side1 ?side2 A2.out).mono ?_); (case side1 => repeat (first | (with_reducible first | exact HI456.out | apply IsS52.alloc | apply IsS52.drewN | apply IsS52.drew | apply IsS52.set_1 | apply IsS52.set_2) | exact HI456.out)); (case side2 => repeat (first | (with_reducible first | exact HB.out | apply below_alloc | apply pw_below_drewN | apply below_drew1 | refine below_set ?_ (IsS52.ge HI456.out)) | exact HB.out)); rintro e w4 ⟨v459, rfl, ho0, hi, hb, hk⟩; refine ⟨_, rfl, ?_⟩; have n0_ := Aside0.mk (Kd.R_lower ho0 (below_size (by repeat (first | (with_reducible first | exact HB.out | apply below_alloc | apply pw_below_drewN | apply below_drew1 | refine below_set ?_ (IsS52.ge HI456.out)) | exact HB.out)))); have n1_ := Aside0.mk (hb); have n2_ := Aside0.mk (hi); clear HB; clear HI456; have HO460 := n0_; have HB := n1_; have HI456 := n2_; clear n0_ n1_ n2_; (try clear hb); (try clear hb2); (try clear hk); (try clear hi); (try clear ho0)))
 go_ret2
 exact ⟨_, RE, KR HO460, by repeat (first | (with_reducible first | exact HB.out | apply below_alloc | apply pw_below_drewN | apply below_drew1 | refine below_set ?_ (IsS52.ge HI456.out)) | exact HB.out)⟩

end Go.Proofs.Ytafjjbkkcedgnab.PFnDoorsOfRooms
