-- Written by a program of this session (wip/tools/pp.sh) out of the translation; Lean checks it.
import Derived.Test.YthkdkgbcokpbaacGreatDoorPFnNecklacesSharedx0
import Derived.Test.YthkdkgbcokpbaacGreatDoorPFnNecklacesSharedx1
import Derived.Test.YthkdkgbcokpbaacGreatDoorPFnNecklacesSharedx3
import Derived.Test.YthkdkgbcokpbaacGreatDoorPFnNecklacesSharedx4
import Derived.Test.YthkdkgbcokpbaacGreatDoorPFnNecklacesSharedx8
namespace Go.Proofs.YthkdkgbcokpbaacGreatDoor.PFnNecklacesShared
open Go.RowKit Go.Proofs.YthkdkgbcokpbaacGreatDoorOwn Go.Proofs.YthkdkgbcokpbaacGreatDoorW.PrintWords Go.Proofs.YthkdkgbcokpbaacGreatDoorW.PrintLast Go.Proofs.YthkdkgbcokpbaacGreatDoorW.PrintMore
attribute [local go_sem] max2_int min2_int max_two min_two max_three min_three max_four min_four   -- for this text's walks alone
set_option linter.unusedVariables false
set_option maxHeartbeats 8000000
set_option maxRecDepth 100000
set_option linter.unusedSimpArgs false

/-! ### spec_DrawRenameBeads: function 29 -/
def spec_DrawRenameBeads.f (k : Nat) (l0 : List Int) : Option (ByteArray × List Int) := (spec_l1Cur_beads.f k l0 0 0 12).bind fun bt368 => ((some (([(([0, 1, 2, 3] : List Int)), (([1, 0, 2, 3] : List Int)), (([3, 2, 1, 0] : List Int)), (([1, 2, 3, 0] : List Int)), (([2, 0, 3, 1] : List Int)), (([0, 0, 1, 2] : List Int)), (([0, 1, 2] : List Int)), (([1, 2, 3, 4] : List Int))] : List (List Int)) : List (List Int))).bind fun y395 => ((spec_l1Cur_pick.f l0 bt368.2.1 bt368.2.2 8).bind fun bt398 => (if 0 ≤ bt398.1 then (if bt398.1 < (y395.length : Int) then (some (bt368.1, rd_L3 y395 bt398.1)) else (none)) else (none))))
theorem spec_DrawRenameBeads.mono : ∀ a0 k, LeO (spec_DrawRenameBeads.f k a0) (spec_DrawRenameBeads.f (k + 1) a0) := by
 intro a0 k
 unfold spec_DrawRenameBeads.f
 repeat' first
   | with_reducible first | exact spec_l1Cur_beads.mono _ _ _ _ _ | exact LeO.refl _ | exact LeO.none _ | refine LeO.ite ?_ ?_ | refine LeO.bind ?_ (fun _ => ?_)
   | exact LeO.none _ | refine LeO.ite ?_ ?_ | refine LeO.bind ?_ (fun _ => ?_)
theorem spec_DrawRenameBeads.calls (k : Nat) (A0 : Option Addr) (c0 : Nat) (l0 : List Int) (r1 : ByteArray) (r2 : List Int) (w : World) (hr0 : Kd.C (Kd.int .u8) w A0 l0.length l0) (hc0 : l0.length ≤ c0) (h : spec_DrawRenameBeads.f k l0 = some (r1, r2)) :
  Calls Tryz.prog 29 #[.slice A0 l0.length c0] w fun e w' => ∃ v1_ : Value, e = .returned (.tuple #[.string r1, v1_]) ∧ Kd.V (Kd.int .i64) 3 w' w.heap.size (fun k_ => (w.heap.size ≤ k_)) v1_ r2 ∧ Below w.heap.size w w' := by
 have hu58 := Tryz.underlying58
 have HR0 := Aside0.mk hr0
 have HC0 := Aside0.mk hc0
 clear hr0 hc0
 have HB := Aside0.mk (Below.refl w.heap.size w)
 have H : ((spec_l1Cur_beads.f k l0 0 0 12).bind fun bt368 => ((some (([(([0, 1, 2, 3] : List Int)), (([1, 0, 2, 3] : List Int)), (([3, 2, 1, 0] : List Int)), (([1, 2, 3, 0] : List Int)), (([2, 0, 3, 1] : List Int)), (([0, 0, 1, 2] : List Int)), (([0, 1, 2] : List Int)), (([1, 2, 3, 4] : List Int))] : List (List Int)) : List (List Int))).bind fun y395 => ((spec_l1Cur_pick.f l0 bt368.2.1 bt368.2.2 8).bind fun bt398 => (if 0 ≤ bt398.1 then (if bt398.1 < (y395.length : Int) then (some (bt368.1, rd_L3 y395 bt398.1)) else (none)) else (none))))) = some (r1, r2) := h
 clear h
 replace H := EA H
 obtain ⟨⟨t368, t369, t370⟩, A2, H⟩ := H
 try dsimp only at H
 obtain ⟨y371, hy371⟩ : ∃ y_ : List Int, y_ = (([0, 1, 2, 3] : List Int)) := ⟨_, rfl⟩
 replace H : ((some (([y371, (([1, 0, 2, 3] : List Int)), (([3, 2, 1, 0] : List Int)), (([1, 2, 3, 0] : List Int)), (([2, 0, 3, 1] : List Int)), (([0, 0, 1, 2] : List Int)), (([0, 1, 2] : List Int)), (([1, 2, 3, 4] : List Int))] : List (List Int)) : List (List Int))).bind fun y395 => ((spec_l1Cur_pick.f l0 t369 t370 8).bind fun bt398 => (if 0 ≤ bt398.1 then (if bt398.1 < (y395.length : Int) then (some (t368, rd_L3 y395 bt398.1)) else (none)) else (none)))) = some (r1, r2) := HY H hy371
 have Ny371 := Aside0.mk hy371
 clear hy371
 obtain ⟨y374, hy374⟩ : ∃ y_ : List Int, y_ = (([1, 0, 2, 3] : List Int)) := ⟨_, rfl⟩
 replace H : ((some (([y371, y374, (([3, 2, 1, 0] : List Int)), (([1, 2, 3, 0] : List Int)), (([2, 0, 3, 1] : List Int)), (([0, 0, 1, 2] : List Int)), (([0, 1, 2] : List Int)), (([1, 2, 3, 4] : List Int))] : List (List Int)) : List (List Int))).bind fun y395 => ((spec_l1Cur_pick.f l0 t369 t370 8).bind fun bt398 => (if 0 ≤ bt398.1 then (if bt398.1 < (y395.length : Int) then (some (t368, rd_L3 y395 bt398.1)) else (none)) else (none)))) = some (r1, r2) := HY H hy374
 have Ny374 := Aside0.mk hy374
 clear hy374
 obtain ⟨y377, hy377⟩ : ∃ y_ : List Int, y_ = (([3, 2, 1, 0] : List Int)) := ⟨_, rfl⟩
 replace H : ((some (([y371, y374, y377, (([1, 2, 3, 0] : List Int)), (([2, 0, 3, 1] : List Int)), (([0, 0, 1, 2] : List Int)), (([0, 1, 2] : List Int)), (([1, 2, 3, 4] : List Int))] : List (List Int)) : List (List Int))).bind fun y395 => ((spec_l1Cur_pick.f l0 t369 t370 8).bind fun bt398 => (if 0 ≤ bt398.1 then (if bt398.1 < (y395.length : Int) then (some (t368, rd_L3 y395 bt398.1)) else (none)) else (none)))) = some (r1, r2) := HY H hy377
 have Ny377 := Aside0.mk hy377
 clear hy377
 obtain ⟨y380, hy380⟩ : ∃ y_ : List Int, y_ = (([1, 2, 3, 0] : List Int)) := ⟨_, rfl⟩
 replace H : ((some (([y371, y374, y377, y380, (([2, 0, 3, 1] : List Int)), (([0, 0, 1, 2] : List Int)), (([0, 1, 2] : List Int)), (([1, 2, 3, 4] : List Int))] : List (List Int)) : List (List Int))).bind fun y395 => ((spec_l1Cur_pick.f l0 t369 t370 8).bind fun bt398 => (if 0 ≤ bt398.1 then (if bt398.1 < (y395.length : Int) then (some (t368, rd_L3 y395 bt398.1)) else (none)) else (none)))) = some (r1, r2) := HY H hy380
 have Ny380 := Aside0.mk hy380
 clear hy380
 obtain ⟨y383, hy383⟩ : ∃ y_ : List Int, y_ = (([2, 0, 3, 1] : List Int)) := ⟨_, rfl⟩
 replace H : ((some (([y371, y374, y377, y380, y383, (([0, 0, 1, 2] : List Int)), (([0, 1, 2] : List Int)), (([1, 2, 3, 4] : List Int))] : List (List Int)) : List (List Int))).bind fun y395 => ((spec_l1Cur_pick.f l0 t369 t370 8).bind fun bt398 => (if 0 ≤ bt398.1 then (if bt398.1 < (y395.length : Int) then (some (t368, rd_L3 y395 bt398.1)) else (none)) else (none)))) = some (r1, r2) := HY H hy383
 have Ny383 := Aside0.mk hy383
 clear hy383
 obtain ⟨y386, hy386⟩ : ∃ y_ : List Int, y_ = (([0, 0, 1, 2] : List Int)) := ⟨_, rfl⟩
 replace H : ((some (([y371, y374, y377, y380, y383, y386, (([0, 1, 2] : List Int)), (([1, 2, 3, 4] : List Int))] : List (List Int)) : List (List Int))).bind fun y395 => ((spec_l1Cur_pick.f l0 t369 t370 8).bind fun bt398 => (if 0 ≤ bt398.1 then (if bt398.1 < (y395.length : Int) then (some (t368, rd_L3 y395 bt398.1)) else (none)) else (none)))) = some (r1, r2) := HY H hy386
 have Ny386 := Aside0.mk hy386
 clear hy386
 obtain ⟨y389, hy389⟩ : ∃ y_ : List Int, y_ = (([0, 1, 2] : List Int)) := ⟨_, rfl⟩
 replace H : ((some (([y371, y374, y377, y380, y383, y386, y389, (([1, 2, 3, 4] : List Int))] : List (List Int)) : List (List Int))).bind fun y395 => ((spec_l1Cur_pick.f l0 t369 t370 8).bind fun bt398 => (if 0 ≤ bt398.1 then (if bt398.1 < (y395.length : Int) then (some (t368, rd_L3 y395 bt398.1)) else (none)) else (none)))) = some (r1, r2) := HY H hy389
 have Ny389 := Aside0.mk hy389
 clear hy389
 obtain ⟨y392, hy392⟩ : ∃ y_ : List Int, y_ = (([1, 2, 3, 4] : List Int)) := ⟨_, rfl⟩
 replace H : ((some (([y371, y374, y377, y380, y383, y386, y389, y392] : List (List Int)) : List (List Int))).bind fun y395 => ((spec_l1Cur_pick.f l0 t369 t370 8).bind fun bt398 => (if 0 ≤ bt398.1 then (if bt398.1 < (y395.length : Int) then (some (t368, rd_L3 y395 bt398.1)) else (none)) else (none)))) = some (r1, r2) := HY H hy392
 have Ny392 := Aside0.mk hy392
 clear hy392
 obtain ⟨y395, hy395⟩ : ∃ y_ : List (List Int), y_ = (([y371, y374, y377, y380, y383, y386, y389, y392] : List (List Int))) := ⟨_, rfl⟩
 replace H : ((spec_l1Cur_pick.f l0 t369 t370 8).bind fun bt398 => (if 0 ≤ bt398.1 then (if bt398.1 < (y395.length : Int) then (some (t368, rd_L3 y395 bt398.1)) else (none)) else (none))) = some (r1, r2) := HY H hy395
 have Ny395 := Aside0.mk hy395
 clear hy395
 replace H := EA H
 obtain ⟨⟨t398, t399, t400⟩, A3, H⟩ := H
 try dsimp only at H
 by_cases c4 : 0 ≤ t398
 ·rw [if_pos c4] at H
  have c4b0 : decide (0 ≤ t398) = true := decide_eq_true c4
  clear c4
  by_cases c5 : t398 < (y395.length : Int)
  ·rw [if_pos c5] at H
   have c5b0 : decide (t398 < (y395.length : Int)) = true := decide_eq_true c5
   clear c5
   simp only [Option.some.injEq, Prod.mk.injEq] at H
   obtain ⟨rfl, rfl⟩ := H
   go_enter Tryz.func29, Tryz.ntmps29
   go_wp2_with (first | ((with_reducible refine gate_dst (N := 9) rfl ?_); refine box_event ?hg (N := 9) ?hd (cs := #[.slice A0 l0.length c0, .int .i64 0, .int .u64 0]) (t := 58) ?hr ?_; (case hd => rfl); (case hg => rfl); (case hr => exact GS); intro gb367 hg w6 hbox hb; have n0_ := Aside0.mk (below_step BB hb); have n1_ := Aside0.mk ((by rw [hg]; exact (below_size BB) : w.heap.size ≤ gb367)); have n2_ := Aside0.mk ((by rw [hg]; exact (below_size BB) : w.heap.size ≤ gb367)); have n3_ := Aside0.mk ((show IsS58 w w6 gb367 l0 0 0 from ⟨A0, c0, hbox, (by rw [hg]; exact (below_size BB) : w.heap.size ≤ gb367), HR0.out⟩)); clear HB; have HB := n0_; have GW367 := n1_; have GE367 := n2_; have HI367 := n3_; clear n0_ n1_ n2_ n3_; clear hb hbox hg) | ((with_reducible refine gate_callee (f := 49) rfl ?_); refine goesL_ (some 11) rfl rfl Tryz.func49 (by kernel_rfl) rfl #[.pointer (some ⟨gb367, 0, none⟩), .int .i64 12] rfl TA ?_; (with_reducible refine (spec_l1Cur_beads.calls k gb367 l0 0 0 12 t368 t369 t370 w _ ?side1 ?side2 A2.out).mono ?_); (case side1 => repeat (first | (with_reducible first | exact HI367.out | apply IsS58.alloc | apply IsS58.drewN | apply IsS58.drew | apply IsS58.set_1 | apply IsS58.set_2) | exact HI367.out)); (case side2 => repeat (first | (with_reducible first | exact HB.out | apply below_alloc | apply pw_below_drewN | apply below_drew1 | refine below_set ?_ (IsS58.ge HI367.out)) | exact HB.out)); rintro e w7 ⟨rfl, hi, hb, hk⟩; refine ⟨_, rfl, ?_⟩; have n0_ := Aside0.mk (hb); have n1_ := Aside0.mk (hi); clear HB; clear HI367; have HB := n0_; have HI367 := n1_; clear n0_ n1_; (try clear hb); (try clear hb2); (try clear hk); (try clear hi)) | ((with_reducible refine gate_dst (N := 12) rfl ?_); refine Kd.R_lit (Kd.int .i64) _ 3 ?hg (N := 12) ?hd (xs := ([0, 1, 2, 3] : List Int)) (inner := [.int .i64 0, .int .i64 1, .int .i64 2, .int .i64 3]) (ok := fun _ => True) (okp := fun _ => True) ?hr ?hp (fun _ hk => hk) trivial (Below.refl _ _) (Nat.le_refl _) (by simp) ?_; (case hd => rfl); (case hg => rfl); (case hr => exact GS); (case hp => exact (Reps.one (show Kd.M (Kd.int .i64) _ _ _ 0 [.int .i64 0] from rfl) (Reps.one (show Kd.M (Kd.int .i64) _ _ _ 1 [.int .i64 1] from rfl) (Reps.one (show Kd.M (Kd.int .i64) _ _ _ 2 [.int .i64 2] from rfl) (Reps.one (show Kd.M (Kd.int .i64) _ _ _ 3 [.int .i64 3] from rfl) (Reps.none _ _)))))); intro v372 w8 ho9 hb hg_ hnew_; clear hg_ hnew_; (first | rw [← Ny371.out] at ho9 | (simp only [Int.reduceToNat] at ho9; rw [← Ny371.out] at ho9)); have n0_ := Aside0.mk (Kd.R_lower (Kd.R_newM (M := fun k_ => (w.heap.size ≤ k_)) ho9 (below_size (by repeat (first | (with_reducible first | exact HB.out | apply below_alloc | apply pw_below_drewN | apply below_drew1 | refine below_set ?_ (IsS58.ge HI367.out)) | exact HB.out))) (fun k_ h_ => h_)) (below_size (by repeat (first | (with_reducible first | exact HB.out | apply below_alloc | apply pw_below_drewN | apply below_drew1 | refine below_set ?_ (IsS58.ge HI367.out)) | exact HB.out)))); have n1_ := Aside0.mk (IsS58.below (by repeat (first | (with_reducible first | exact HI367.out | apply IsS58.alloc | apply IsS58.drewN | apply IsS58.drew | apply IsS58.set_1 | apply IsS58.set_2) | exact HI367.out)) hb); have n2_ := Aside0.mk (below_step (by repeat (first | (with_reducible first | exact HB.out | apply below_alloc | apply pw_below_drewN | apply below_drew1 | refine below_set ?_ (IsS58.ge HI367.out)) | exact HB.out)) hb); clear HI367; clear HB; have HO373 := n0_; have HI367 := n1_; have HB := n2_; clear n0_ n1_ n2_; clear hb ho9) | ((with_reducible refine gate_dst (N := 13) rfl ?_); refine Kd.R_lit (Kd.int .i64) _ 3 ?hg (N := 13) ?hd (xs := ([1, 0, 2, 3] : List Int)) (inner := [.int .i64 1, .int .i64 0, .int .i64 2, .int .i64 3]) (ok := fun _ => True) (okp := fun _ => True) ?hr ?hp (fun _ hk => hk) trivial (Below.refl _ _) (Nat.le_refl _) (by simp) ?_; (case hd => rfl); (case hg => rfl); (case hr => exact GS); (case hp => exact (Reps.one (show Kd.M (Kd.int .i64) _ _ _ 1 [.int .i64 1] from rfl) (Reps.one (show Kd.M (Kd.int .i64) _ _ _ 0 [.int .i64 0] from rfl) (Reps.one (show Kd.M (Kd.int .i64) _ _ _ 2 [.int .i64 2] from rfl) (Reps.one (show Kd.M (Kd.int .i64) _ _ _ 3 [.int .i64 3] from rfl) (Reps.none _ _)))))); intro v375 w10 ho11 hb hg_ hnew_; clear hg_ hnew_; (first | rw [← Ny374.out] at ho11 | (simp only [Int.reduceToNat] at ho11; rw [← Ny374.out] at ho11)); have n0_ := Aside0.mk (Kd.R_elder' (KR HO373) (Kd.R_base ho11) hb); have n1_ := Aside0.mk (Kd.R_lower (Kd.R_new' (Kd.R_newM (M := fun k_ => (w.heap.size ≤ k_)) ho11 (below_size (by repeat (first | (with_reducible first | exact HB.out | apply below_alloc | apply pw_below_drewN | apply below_drew1 | refine below_set ?_ (IsS58.ge HI367.out)) | exact HB.out))) (fun k_ h_ => h_)) (Kd.R_lt (KR HO373))) (below_size (by repeat (first | (with_reducible first | exact HB.out | apply below_alloc | apply pw_below_drewN | apply below_drew1 | refine below_set ?_ (IsS58.ge HI367.out)) | exact HB.out)))); have n2_ := Aside0.mk (IsS58.below (by repeat (first | (with_reducible first | exact HI367.out | apply IsS58.alloc | apply IsS58.drewN | apply IsS58.drew | apply IsS58.set_1 | apply IsS58.set_2) | exact HI367.out)) hb); have n3_ := Aside0.mk (below_step (by repeat (first | (with_reducible first | exact HB.out | apply below_alloc | apply pw_below_drewN | apply below_drew1 | refine below_set ?_ (IsS58.ge HI367.out)) | exact HB.out)) hb); clear HO373; clear HI367; clear HB; have HO373 := n0_; have HO376 := n1_; have HI367 := n2_; have HB := n3_; clear n0_ n1_ n2_ n3_; clear hb ho11) | ((with_reducible refine gate_dst (N := 14) rfl ?_); refine Kd.R_lit (Kd.int .i64) _ 3 ?hg (N := 14) ?hd (xs := ([3, 2, 1, 0] : List Int)) (inner := [.int .i64 3, .int .i64 2, .int .i64 1, .int .i64 0]) (ok := fun _ => True) (okp := fun _ => True) ?hr ?hp (fun _ hk => hk) trivial (Below.refl _ _) (Nat.le_refl _) (by simp) ?_; (case hd => rfl); (case hg => rfl); (case hr => exact GS); (case hp => exact (Reps.one (show Kd.M (Kd.int .i64) _ _ _ 3 [.int .i64 3] from rfl) (Reps.one (show Kd.M (Kd.int .i64) _ _ _ 2 [.int .i64 2] from rfl) (Reps.one (show Kd.M (Kd.int .i64) _ _ _ 1 [.int .i64 1] from rfl) (Reps.one (show Kd.M (Kd.int .i64) _ _ _ 0 [.int .i64 0] from rfl) (Reps.none _ _)))))); intro v378 w12 ho13 hb hg_ hnew_; clear hg_ hnew_; (first | rw [← Ny377.out] at ho13 | (simp only [Int.reduceToNat] at ho13; rw [← Ny377.out] at ho13)); have n0_ := Aside0.mk (Kd.R_elder' (KR HO373) (Kd.R_base ho13) hb); have n1_ := Aside0.mk (Kd.R_elder' (KR HO376) (Kd.R_base ho13) hb); have n2_ := Aside0.mk (Kd.R_lower (Kd.R_new' (Kd.R_new' (Kd.R_newM (M := fun k_ => (w.heap.size ≤ k_)) ho13 (below_size (by repeat (first | (with_reducible first | exact HB.out | apply below_alloc | apply pw_below_drewN | apply below_drew1 | refine below_set ?_ (IsS58.ge HI367.out)) | exact HB.out))) (fun k_ h_ => h_)) (Kd.R_lt (KR HO373))) (Kd.R_lt (KR HO376))) (below_size (by repeat (first | (with_reducible first | exact HB.out | apply below_alloc | apply pw_below_drewN | apply below_drew1 | refine below_set ?_ (IsS58.ge HI367.out)) | exact HB.out)))); have n3_ := Aside0.mk (IsS58.below (by repeat (first | (with_reducible first | exact HI367.out | apply IsS58.alloc | apply IsS58.drewN | apply IsS58.drew | apply IsS58.set_1 | apply IsS58.set_2) | exact HI367.out)) hb); have n4_ := Aside0.mk (below_step (by repeat (first | (with_reducible first | exact HB.out | apply below_alloc | apply pw_below_drewN | apply below_drew1 | refine below_set ?_ (IsS58.ge HI367.out)) | exact HB.out)) hb); clear HO373; clear HO376; clear HI367; clear HB; have HO373 := n0_; have HO376 := n1_; have HO379 := n2_; have HI367 := n3_; have HB := n4_; clear n0_ n1_ n2_ n3_ n4_; clear hb ho13) | ((with_reducible refine gate_dst (N := 15) rfl ?_); refine Kd.R_lit (Kd.int .i64) _ 3 ?hg (N := 15) ?hd (xs := ([1, 2, 3, 0] : List Int)) (inner := [.int .i64 1, .int .i64 2, .int .i64 3, .int .i64 0]) (ok := fun _ => True) (okp := fun _ => True) ?hr ?hp (fun _ hk => hk) trivial (Below.refl _ _) (Nat.le_refl _) (by simp) ?_; (case hd => rfl); (case hg => rfl); (case hr => exact GS); (case hp => exact (Reps.one (show Kd.M (Kd.int .i64) _ _ _ 1 [.int .i64 1] from rfl) (Reps.one (show Kd.M (Kd.int .i64) _ _ _ 2 [.int .i64 2] from rfl) (Reps.one (show Kd.M (Kd.int .i64) _ _ _ 3 [.int .i64 3] from rfl) (Reps.one (show Kd.M (Kd.int .i64) _ _ _ 0 [.int .i64 0] from rfl) (Reps.none _ _)))))); intro v381 w14 ho15 hb hg_ hnew_; clear hg_ hnew_; (first | rw [← Ny380.out] at ho15 | (simp only [Int.reduceToNat] at ho15; rw [← Ny380.out] at ho15)); have n0_ := Aside0.mk (Kd.R_elder' (KR HO373) (Kd.R_base ho15) hb); have n1_ := Aside0.mk (Kd.R_elder' (KR HO376) (Kd.R_base ho15) hb); have n2_ := Aside0.mk (Kd.R_elder' (KR HO379) (Kd.R_base ho15) hb); have n3_ := Aside0.mk (Kd.R_lower (Kd.R_new' (Kd.R_new' (Kd.R_new' (Kd.R_newM (M := fun k_ => (w.heap.size ≤ k_)) ho15 (below_size (by repeat (first | (with_reducible first | exact HB.out | apply below_alloc | apply pw_below_drewN | apply below_drew1 | refine below_set ?_ (IsS58.ge HI367.out)) | exact HB.out))) (fun k_ h_ => h_)) (Kd.R_lt (KR HO373))) (Kd.R_lt (KR HO376))) (Kd.R_lt (KR HO379))) (below_size (by repeat (first | (with_reducible first | exact HB.out | apply below_alloc | apply pw_below_drewN | apply below_drew1 | refine below_set ?_ (IsS58.ge HI367.out)) | exact HB.out)))); have n4_ := Aside0.mk (IsS58.below (by repeat (first | (with_reducible first | exact HI367.out | apply IsS58.alloc | apply IsS58.drewN | apply IsS58.drew | apply IsS58.set_1 | apply IsS58.set_2) | exact HI367.out)) hb); have n5_ := Aside0.mk (below_step (by repeat (first | (with_reducible first | exact HB.out | apply below_alloc | apply pw_below_drewN | apply below_drew1 | refine below_set ?_ (IsS58.ge HI367.out)) | exact HB.out)) hb); clear HO373; clear HO376; clear HO379; clear HI367; clear HB; have HO373 := n0_; have HO376 := n1_; have HO379 := n2_; have HO382 := n3_; have HI367 := n4_; have HB := n5_; clear n0_ n1_ n2_ n3_ n4_ n5_; clear hb ho15) | ((with_reducible refine gate_dst (N := 16) rfl ?_); refine Kd.R_lit (Kd.int .i64) _ 3 ?hg (N := 16) ?hd (xs := ([2, 0, 3, 1] : List Int)) (inner := [.int .i64 2, .int .i64 0, .int .i64 3, .int .i64 1]) (ok := fun _ => True) (okp := fun _ => True) ?hr ?hp (fun _ hk => hk) trivial (Below.refl _ _) (Nat.le_refl _) (by simp) ?_; (case hd => rfl); (case hg => rfl); (case hr => exact GS); (case hp => exact (Reps.one (show Kd.M (Kd.int .i64) _ _ _ 2 [.int .i64 2] from rfl) (Reps.one (show Kd.M (Kd.int .i64) _ _ _ 0 [.int .i64 0] from rfl) (Reps.one (show Kd.M (Kd.int .i64) _ _ _ 3 [.int .i64 3] from rfl) (Reps.one (show Kd.M (Kd.int .i64) _ _ _ 1 [.int .i64 1] from rfl) (Reps.none _ _)))))); intro v384 w16 ho17 hb hg_ hnew_; clear hg_ hnew_; (first | rw [← Ny383.out] at ho17 | (simp only [Int.reduceToNat] at ho17; rw [← Ny383.out] at ho17)); have n0_ := Aside0.mk (Kd.R_elder' (KR HO373) (Kd.R_base ho17) hb); have n1_ := Aside0.mk (Kd.R_elder' (KR HO376) (Kd.R_base ho17) hb); have n2_ := Aside0.mk (Kd.R_elder' (KR HO379) (Kd.R_base ho17) hb); have n3_ := Aside0.mk (Kd.R_elder' (KR HO382) (Kd.R_base ho17) hb); have n4_ := Aside0.mk (Kd.R_lower (Kd.R_new' (Kd.R_new' (Kd.R_new' (Kd.R_new' (Kd.R_newM (M := fun k_ => (w.heap.size ≤ k_)) ho17 (below_size (by repeat (first | (with_reducible first | exact HB.out | apply below_alloc | apply pw_below_drewN | apply below_drew1 | refine below_set ?_ (IsS58.ge HI367.out)) | exact HB.out))) (fun k_ h_ => h_)) (Kd.R_lt (KR HO373))) (Kd.R_lt (KR HO376))) (Kd.R_lt (KR HO379))) (Kd.R_lt (KR HO382))) (below_size (by repeat (first | (with_reducible first | exact HB.out | apply below_alloc | apply pw_below_drewN | apply below_drew1 | refine below_set ?_ (IsS58.ge HI367.out)) | exact HB.out)))); have n5_ := Aside0.mk (IsS58.below (by repeat (first | (with_reducible first | exact HI367.out | apply IsS58.alloc | apply IsS58.drewN | apply IsS58.drew | apply IsS58.set_1 | apply IsS58.set_2) | exact HI367.out)) hb); have n6_ := Aside0.mk (below_step (by repeat (first | (with_reducible first | exact HB.out | apply below_alloc | apply pw_below_drewN | apply below_drew1 | refine below_set ?_ (IsS58.ge HI367.out)) | exact HB.out)) hb); clear HO373; clear HO376; clear HO379; clear HO382; clear HI367; clear HB; have HO373 := n0_; have HO376 := n1_; have HO379 := n2_; have HO382 := n3_; have HO385 := n4_; have HI367 := n5_; have HB := n6_; clear n0_ n1_ n2_ n3_ n4_ n5_ n6_; clear hb ho17) | ((with_reducible refine gate_dst (N := 17) rfl ?_); refine Kd.R_lit (Kd.int .i64) _ 3 ?hg (N := 17) ?hd (xs := ([0, 0, 1, 2] : List Int)) (inner := [.int .i64 0, .int .i64 0, .int .i64 1, .int .i64 2]) (ok := fun _ => True) (okp := fun _ => True) ?hr ?hp (fun _ hk => hk) trivial (Below.refl _ _) (Nat.le_refl _) (by simp) ?_; (case hd => rfl); (case hg => rfl); (case hr => exact GS); (case hp => exact (Reps.one (show Kd.M (Kd.int .i64) _ _ _ 0 [.int .i64 0] from rfl) (Reps.one (show Kd.M (Kd.int .i64) _ _ _ 0 [.int .i64 0] from rfl) (Reps.one (show Kd.M (Kd.int .i64) _ _ _ 1 [.int .i64 1] from rfl) (Reps.one (show Kd.M (Kd.int .i64) _ _ _ 2 [.int .i64 2] from rfl) (Reps.none _ _)))))); intro v387 w18 ho19 hb hg_ hnew_; clear hg_ hnew_; (first | rw [← Ny386.out] at ho19 | (simp only [Int.reduceToNat] at ho19; rw [← Ny386.out] at ho19)); have n0_ := Aside0.mk (Kd.R_elder' (KR HO373) (Kd.R_base ho19) hb); have n1_ := Aside0.mk (Kd.R_elder' (KR HO376) (Kd.R_base ho19) hb); have n2_ := Aside0.mk (Kd.R_elder' (KR HO379) (Kd.R_base ho19) hb); have n3_ := Aside0.mk (Kd.R_elder' (KR HO382) (Kd.R_base ho19) hb); have n4_ := Aside0.mk (Kd.R_elder' (KR HO385) (Kd.R_base ho19) hb); have n5_ := Aside0.mk (Kd.R_lower (Kd.R_new' (Kd.R_new' (Kd.R_new' (Kd.R_new' (Kd.R_new' (Kd.R_newM (M := fun k_ => (w.heap.size ≤ k_)) ho19 (below_size (by repeat (first | (with_reducible first | exact HB.out | apply below_alloc | apply pw_below_drewN | apply below_drew1 | refine below_set ?_ (IsS58.ge HI367.out)) | exact HB.out))) (fun k_ h_ => h_)) (Kd.R_lt (KR HO373))) (Kd.R_lt (KR HO376))) (Kd.R_lt (KR HO379))) (Kd.R_lt (KR HO382))) (Kd.R_lt (KR HO385))) (below_size (by repeat (first | (with_reducible first | exact HB.out | apply below_alloc | apply pw_below_drewN | apply below_drew1 | refine below_set ?_ (IsS58.ge HI367.out)) | exact HB.out)))); have n6_ := Aside0.mk (IsS58.below (by repeat (first | (with_reducible first | exact HI367.out | apply IsS58.alloc | apply IsS58.drewN | apply IsS58.drew | apply IsS58.set_1 | apply IsS58.set_2) | exact HI367.out)) hb); have n7_ := Aside0.mk (below_step (by repeat (first | (with_reducible first | exact HB.out | apply below_alloc | apply pw_below_drewN | apply below_drew1 | refine below_set ?_ (IsS58.ge HI367.out)) | exact HB.out)) hb); clear HO373; clear HO376; clear HO379; clear HO382; clear HO385; clear HI367; clear HB; have HO373 := n0_; have HO376 := n1_; have HO379 := n2_; have HO382 := n3_; have HO385 := n4_; have HO388 := n5_; have HI367 := n6_; have HB := n7_; clear n0_ n1_ n2_ n3_ n4_ n5_ n6_ n7_; clear hb ho19) | ((with_reducible refine gate_dst (N := 18) rfl ?_); refine Kd.R_lit (Kd.int .i64) _ 3 ?hg (N := 18) ?hd (xs := ([0, 1, 2] : List Int)) (inner := [.int .i64 0, .int .i64 1, .int .i64 2]) (ok := fun _ => True) (okp := fun _ => True) ?hr ?hp (fun _ hk => hk) trivial (Below.refl _ _) (Nat.le_refl _) (by simp) ?_; (case hd => rfl); (case hg => rfl); (case hr => exact GS); (case hp => exact (Reps.one (show Kd.M (Kd.int .i64) _ _ _ 0 [.int .i64 0] from rfl) (Reps.one (show Kd.M (Kd.int .i64) _ _ _ 1 [.int .i64 1] from rfl) (Reps.one (show Kd.M (Kd.int .i64) _ _ _ 2 [.int .i64 2] from rfl) (Reps.none _ _))))); intro v390 w20 ho21 hb hg_ hnew_; clear hg_ hnew_; (first | rw [← Ny389.out] at ho21 | (simp only [Int.reduceToNat] at ho21; rw [← Ny389.out] at ho21)); have n0_ := Aside0.mk (Kd.R_elder' (KR HO373) (Kd.R_base ho21) hb); have n1_ := Aside0.mk (Kd.R_elder' (KR HO376) (Kd.R_base ho21) hb); have n2_ := Aside0.mk (Kd.R_elder' (KR HO379) (Kd.R_base ho21) hb); have n3_ := Aside0.mk (Kd.R_elder' (KR HO382) (Kd.R_base ho21) hb); have n4_ := Aside0.mk (Kd.R_elder' (KR HO385) (Kd.R_base ho21) hb); have n5_ := Aside0.mk (Kd.R_elder' (KR HO388) (Kd.R_base ho21) hb); have n6_ := Aside0.mk (Kd.R_lower (Kd.R_new' (Kd.R_new' (Kd.R_new' (Kd.R_new' (Kd.R_new' (Kd.R_new' (Kd.R_newM (M := fun k_ => (w.heap.size ≤ k_)) ho21 (below_size (by repeat (first | (with_reducible first | exact HB.out | apply below_alloc | apply pw_below_drewN | apply below_drew1 | refine below_set ?_ (IsS58.ge HI367.out)) | exact HB.out))) (fun k_ h_ => h_)) (Kd.R_lt (KR HO373))) (Kd.R_lt (KR HO376))) (Kd.R_lt (KR HO379))) (Kd.R_lt (KR HO382))) (Kd.R_lt (KR HO385))) (Kd.R_lt (KR HO388))) (below_size (by repeat (first | (with_reducible first | exact HB.out | apply below_alloc | apply pw_below_drewN | apply below_drew1 | refine below_set ?_ (IsS58.ge HI367.out)) | exact HB.out)))); have n7_ := Aside0.mk (IsS58.below (by repeat (first | (with_reducible first | exact HI367.out | apply IsS58.alloc | apply IsS58.drewN | apply IsS58.drew | apply IsS58.set_1 | apply IsS58.set_2) | exact HI367.out)) hb); have n8_ := Aside0.mk (below_step (by repeat (first | (with_reducible first | exact HB.out | apply below_alloc | apply pw_below_drewN | apply below_drew1 | refine below_set ?_ (IsS58.ge HI367.out)) | exact HB.out)) hb); clear HO373; clear HO376; clear HO379; clear HO382; clear HO385; clear HO388; clear HI367; clear HB; have HO373 := n0_; have HO376 := n1_; have HO379 := n2_; have HO382 := n3_; have HO385 := n4_; have HO388 := n5_; have HO391 := n6_; have HI367 := n7_; have HB := n8_; clear n0_ n1_ n2_ n3_ n4_ n5_ n6_ n7_ n8_; clear hb ho21) | ((with_reducible refine gate_dst (N := 19) rfl ?_); refine Kd.R_lit (Kd.int .i64) _ 3 ?hg (N := 19) ?hd (xs := ([1, 2, 3, 4] : List Int)) (inner := [.int .i64 1, .int .i64 2, .int .i64 3, .int .i64 4]) (ok := fun _ => True) (okp := fun _ => True) ?hr ?hp (fun _ hk => hk) trivial (Below.refl _ _) (Nat.le_refl _) (by simp) ?_; (case hd => rfl); (case hg => rfl); (case hr => exact GS); (case hp => exact (Reps.one (show Kd.M (Kd.int .i64) _ _ _ 1 [.int .i64 1] from rfl) (Reps.one (show Kd.M (Kd.int .i64) _ _ _ 2 [.int .i64 2] from rfl) (Reps.one (show Kd.M (Kd.int .i64) _ _ _ 3 [.int .i64 3] from rfl) (Reps.one (show Kd.M (Kd.int .i64) _ _ _ 4 [.int .i64 4] from rfl) (Reps.none _ _)))))); intro v393 w22 ho23 hb hg_ hnew_; clear hg_ hnew_; (first | rw [← Ny392.out] at ho23 | (simp only [Int.reduceToNat] at ho23; rw [← Ny392.out] at ho23)); have n0_ := Aside0.mk (Kd.R_elder' (KR HO373) (Kd.R_base ho23) hb); have n1_ := Aside0.mk (Kd.R_elder' (KR HO376) (Kd.R_base ho23) hb); have n2_ := Aside0.mk (Kd.R_elder' (KR HO379) (Kd.R_base ho23) hb); have n3_ := Aside0.mk (Kd.R_elder' (KR HO382) (Kd.R_base ho23) hb); have n4_ := Aside0.mk (Kd.R_elder' (KR HO385) (Kd.R_base ho23) hb); have n5_ := Aside0.mk (Kd.R_elder' (KR HO388) (Kd.R_base ho23) hb); have n6_ := Aside0.mk (Kd.R_elder' (KR HO391) (Kd.R_base ho23) hb); have n7_ := Aside0.mk (Kd.R_lower (Kd.R_new' (Kd.R_new' (Kd.R_new' (Kd.R_new' (Kd.R_new' (Kd.R_new' (Kd.R_new' (Kd.R_newM (M := fun k_ => (w.heap.size ≤ k_)) ho23 (below_size (by repeat (first | (with_reducible first | exact HB.out | apply below_alloc | apply pw_below_drewN | apply below_drew1 | refine below_set ?_ (IsS58.ge HI367.out)) | exact HB.out))) (fun k_ h_ => h_)) (Kd.R_lt (KR HO373))) (Kd.R_lt (KR HO376))) (Kd.R_lt (KR HO379))) (Kd.R_lt (KR HO382))) (Kd.R_lt (KR HO385))) (Kd.R_lt (KR HO388))) (Kd.R_lt (KR HO391))) (below_size (by repeat (first | (with_reducible first | exact HB.out | apply below_alloc | apply pw_below_drewN | apply below_drew1 | refine below_set ?_ (IsS58.ge HI367.out)) | exact HB.out)))); have n8_ := Aside0.mk (IsS58.below (by repeat (first | (with_reducible first | exact HI367.out | apply IsS58.alloc | apply IsS58.drewN | apply IsS58.drew | apply IsS58.set_1 | apply IsS58.set_2) | exact HI367.out)) hb); have n9_ := Aside0.mk (below_step (by repeat (first | (with_reducible first | exact HB.out | apply below_alloc | apply pw_below_drewN | apply below_drew1 | refine below_set ?_ (IsS58.ge HI367.out)) | exact HB.out)) hb); clear HO373; clear HO376; clear HO379; clear HO382; clear HO385; clear HO388; clear HO391; clear HI367; clear HB; have HO373 := n0_; have HO376 := n1_; have HO379 := n2_; have HO382 := n3_; have HO385 := n4_; have HO388 := n5_; have HO391 := n6_; have HO394 := n7_; have HI367 := n8_; have HB := n9_; clear n0_ n1_ n2_ n3_ n4_ n5_ n6_ n7_ n8_ n9_; clear hb ho23; obtain ⟨Ao24, co24, eo24⟩ := Kd.R_slice HO373.out; subst eo24; obtain ⟨Ao25, co25, eo25⟩ := Kd.R_slice HO376.out; subst eo25; obtain ⟨Ao26, co26, eo26⟩ := Kd.R_slice HO379.out; subst eo26; obtain ⟨Ao27, co27, eo27⟩ := Kd.R_slice HO382.out; subst eo27; obtain ⟨Ao28, co28, eo28⟩ := Kd.R_slice HO385.out; subst eo28; obtain ⟨Ao29, co29, eo29⟩ := Kd.R_slice HO388.out; subst eo29; obtain ⟨Ao30, co30, eo30⟩ := Kd.R_slice HO391.out; subst eo30; obtain ⟨Ao31, co31, eo31⟩ := Kd.R_slice HO394.out; subst eo31) | ((with_reducible refine gate_dst (N := 20) rfl ?_); refine Kd.N_lit (Kd.slice 3 (Kd.int .i64)) _ 25 ?hg (N' := 20) ?hd (xs := ([y371, y374, y377, y380, y383, y386, y389, y392] : List (List Int))) (inner := [.slice Ao24 y371.length co24, .slice Ao25 y374.length co25, .slice Ao26 y377.length co26, .slice Ao27 y380.length co27, .slice Ao28 y383.length co28, .slice Ao29 y386.length co29, .slice Ao30 y389.length co30, .slice Ao31 y392.length co31]) (ok := (fun k_ => (w.heap.size ≤ k_) ∧ k_ ≠ gb367)) (okp := (fun k_ => (w.heap.size ≤ k_) ∧ k_ ≠ gb367)) ?hr ?hp (fun _ hk => hk) ((show ∀ k_, w22.heap.size ≤ k_ → (fun k_ => (w.heap.size ≤ k_) ∧ k_ ≠ gb367) k_ from fun k_ hk => ⟨(Nat.le_trans (below_size (by repeat (first | (with_reducible first | exact HB.out | apply below_alloc | apply pw_below_drewN | apply below_drew1 | refine below_set ?_ (IsS58.ge HI367.out)) | exact HB.out))) hk), IsS58.fresh (by repeat (first | (with_reducible first | exact HI367.out | apply IsS58.alloc | apply IsS58.drewN | apply IsS58.drew | apply IsS58.set_1 | apply IsS58.set_2) | exact HI367.out)) k_ hk⟩) _ (Nat.le_refl _)) (Below.refl _ _) (Nat.le_refl _) (by simp) ?_; (case hd => rfl); (case hg => rfl); (case hr => exact GS); (case hp => exact (Reps.one (show Kd.FK (Kd.slice 3 (Kd.int .i64)) _ _ y371 [.slice Ao24 y371.length co24] from (Kd.FK_slice_mk (Kd.R_reads' (Kd.R_mono (ok' := (fun k_ => (w.heap.size ≤ k_) ∧ k_ ≠ gb367)) (IsS58.apart HI367.out (HO373.out) (by decide)) (fun k_ hk => ⟨hk.1.1.1.1.1.1.1.1.1, hk.2⟩))).2.1 (Kd.R_F (Kd.R_mono (ok' := (fun k_ => (w.heap.size ≤ k_) ∧ k_ ≠ gb367)) (IsS58.apart HI367.out (HO373.out) (by decide)) (fun k_ hk => ⟨hk.1.1.1.1.1.1.1.1.1, hk.2⟩))))) (Reps.one (show Kd.FK (Kd.slice 3 (Kd.int .i64)) _ _ y374 [.slice Ao25 y374.length co25] from (Kd.FK_slice_mk (Kd.R_reads' (Kd.R_mono (ok' := (fun k_ => (w.heap.size ≤ k_) ∧ k_ ≠ gb367)) (IsS58.apart HI367.out (HO376.out) (by decide)) (fun k_ hk => ⟨hk.1.1.1.1.1.1.1.1.1, hk.2⟩))).2.1 (Kd.R_F (Kd.R_mono (ok' := (fun k_ => (w.heap.size ≤ k_) ∧ k_ ≠ gb367)) (IsS58.apart HI367.out (HO376.out) (by decide)) (fun k_ hk => ⟨hk.1.1.1.1.1.1.1.1.1, hk.2⟩))))) (Reps.one (show Kd.FK (Kd.slice 3 (Kd.int .i64)) _ _ y377 [.slice Ao26 y377.length co26] from (Kd.FK_slice_mk (Kd.R_reads' (Kd.R_mono (ok' := (fun k_ => (w.heap.size ≤ k_) ∧ k_ ≠ gb367)) (IsS58.apart HI367.out (HO379.out) (by decide)) (fun k_ hk => ⟨hk.1.1.1.1.1.1.1.1.1, hk.2⟩))).2.1 (Kd.R_F (Kd.R_mono (ok' := (fun k_ => (w.heap.size ≤ k_) ∧ k_ ≠ gb367)) (IsS58.apart HI367.out (HO379.out) (by decide)) (fun k_ hk => ⟨hk.1.1.1.1.1.1.1.1.1, hk.2⟩))))) (Reps.one (show Kd.FK (Kd.slice 3 (Kd.int .i64)) _ _ y380 [.slice Ao27 y380.length co27] from (Kd.FK_slice_mk (Kd.R_reads' (Kd.R_mono (ok' := (fun k_ => (w.heap.size ≤ k_) ∧ k_ ≠ gb367)) (IsS58.apart HI367.out (HO382.out) (by decide)) (fun k_ hk => ⟨hk.1.1.1.1.1.1.1.1.1, hk.2⟩))).2.1 (Kd.R_F (Kd.R_mono (ok' := (fun k_ => (w.heap.size ≤ k_) ∧ k_ ≠ gb367)) (IsS58.apart HI367.out (HO382.out) (by decide)) (fun k_ hk => ⟨hk.1.1.1.1.1.1.1.1.1, hk.2⟩))))) (Reps.one (show Kd.FK (Kd.slice 3 (Kd.int .i64)) _ _ y383 [.slice Ao28 y383.length co28] from (Kd.FK_slice_mk (Kd.R_reads' (Kd.R_mono (ok' := (fun k_ => (w.heap.size ≤ k_) ∧ k_ ≠ gb367)) (IsS58.apart HI367.out (HO385.out) (by decide)) (fun k_ hk => ⟨hk.1.1.1.1.1.1.1.1.1, hk.2⟩))).2.1 (Kd.R_F (Kd.R_mono (ok' := (fun k_ => (w.heap.size ≤ k_) ∧ k_ ≠ gb367)) (IsS58.apart HI367.out (HO385.out) (by decide)) (fun k_ hk => ⟨hk.1.1.1.1.1.1.1.1.1, hk.2⟩))))) (Reps.one (show Kd.FK (Kd.slice 3 (Kd.int .i64)) _ _ y386 [.slice Ao29 y386.length co29] from (Kd.FK_slice_mk (Kd.R_reads' (Kd.R_mono (ok' := (fun k_ => (w.heap.size ≤ k_) ∧ k_ ≠ gb367)) (IsS58.apart HI367.out (HO388.out) (by decide)) (fun k_ hk => ⟨hk.1.1.1.1.1.1.1.1.1, hk.2⟩))).2.1 (Kd.R_F (Kd.R_mono (ok' := (fun k_ => (w.heap.size ≤ k_) ∧ k_ ≠ gb367)) (IsS58.apart HI367.out (HO388.out) (by decide)) (fun k_ hk => ⟨hk.1.1.1.1.1.1.1.1.1, hk.2⟩))))) (Reps.one (show Kd.FK (Kd.slice 3 (Kd.int .i64)) _ _ y389 [.slice Ao30 y389.length co30] from (Kd.FK_slice_mk (Kd.R_reads' (Kd.R_mono (ok' := (fun k_ => (w.heap.size ≤ k_) ∧ k_ ≠ gb367)) (IsS58.apart HI367.out (HO391.out) (by decide)) (fun k_ hk => ⟨hk.1.1.1.1.1.1.1.1.1, hk.2⟩))).2.1 (Kd.R_F (Kd.R_mono (ok' := (fun k_ => (w.heap.size ≤ k_) ∧ k_ ≠ gb367)) (IsS58.apart HI367.out (HO391.out) (by decide)) (fun k_ hk => ⟨hk.1.1.1.1.1.1.1.1.1, hk.2⟩))))) (Reps.one (show Kd.FK (Kd.slice 3 (Kd.int .i64)) _ _ y392 [.slice Ao31 y392.length co31] from (Kd.FK_slice_mk (Kd.R_reads' (Kd.R_mono (ok' := (fun k_ => (w.heap.size ≤ k_) ∧ k_ ≠ gb367)) (IsS58.apart HI367.out (HO394.out) (by decide)) (fun k_ hk => ⟨hk.1.1.1.1.1.1.1.1.1, hk.2⟩))).2.1 (Kd.R_F (Kd.R_mono (ok' := (fun k_ => (w.heap.size ≤ k_) ∧ k_ ≠ gb367)) (IsS58.apart HI367.out (HO394.out) (by decide)) (fun k_ hk => ⟨hk.1.1.1.1.1.1.1.1.1, hk.2⟩))))) (Reps.none _ _)))))))))); intro v396 w32 ho33 hb hg_ hnew_; clear hg_ hnew_; (first | rw [← Ny395.out] at ho33 | (simp only [Int.reduceToNat] at ho33; rw [← Ny395.out] at ho33)); have n0_ := Aside0.mk (Kd.N_lower ho33 (below_size (by repeat (first | (with_reducible first | exact HB.out | apply below_alloc | apply pw_below_drewN | apply below_drew1 | refine below_set ?_ (IsS58.ge HI367.out)) | exact HB.out)))); have n1_ := Aside0.mk (IsS58.below (by repeat (first | (with_reducible first | exact HI367.out | apply IsS58.alloc | apply IsS58.drewN | apply IsS58.drew | apply IsS58.set_1 | apply IsS58.set_2) | exact HI367.out)) hb); have n2_ := Aside0.mk (below_step (by repeat (first | (with_reducible first | exact HB.out | apply below_alloc | apply pw_below_drewN | apply below_drew1 | refine below_set ?_ (IsS58.ge HI367.out)) | exact HB.out)) hb); clear HI367; clear HB; clear HO373; clear HO376; clear HO379; clear HO382; clear HO385; clear HO388; clear HO391; clear HO394; have HO397 := n0_; have HI367 := n1_; have HB := n2_; clear n0_ n1_ n2_; clear hb ho33) | ((with_reducible refine gate_callee (f := 53) rfl ?_); refine goesL_ (some 22) rfl rfl Tryz.func53 (by kernel_rfl) rfl #[.pointer (some ⟨gb367, 0, none⟩), .int .i64 8] rfl TA ?_; (with_reducible refine (spec_l1Cur_pick.calls gb367 l0 t369 t370 8 t398 t399 t400 w _ ?side1 ?side2 A3.out).mono ?_); (case side1 => repeat (first | (with_reducible first | exact HI367.out | apply IsS58.alloc | apply IsS58.drewN | apply IsS58.drew | apply IsS58.set_1 | apply IsS58.set_2) | exact HI367.out)); (case side2 => repeat (first | (with_reducible first | exact HB.out | apply below_alloc | apply pw_below_drewN | apply below_drew1 | refine below_set ?_ (IsS58.ge HI367.out)) | exact HB.out)); rintro e w34 ⟨rfl, hi, hb, hk⟩; refine ⟨_, rfl, ?_⟩; have n0_ := Aside0.mk (Kd.N_mono (Kd.N_keep (Kd.N_mono (ok := fun k_ => (((w.heap.size ≤ k_)) ∧ k_ ≠ gb367)) (KN HO397) (fun k_ hk_ => (⟨hk_, hk_.2⟩ : _ ∧ k_ ≠ gb367))) hk (fun _ h => h.2)) (fun _ h => h.1)); have n1_ := Aside0.mk (hb); have n2_ := Aside0.mk (hi); clear HO397; clear HB; clear HI367; have HO397 := n0_; have HB := n1_; have HI367 := n2_; clear n0_ n1_ n2_; (try clear hb); (try clear hb2); (try clear hk); (try clear hi); obtain ⟨Ao35, co35, eo35⟩ := Kd.N_slice HO397.out; subst eo35; have p401 : 0 ≤ (t398 : Int) := of_decide_eq_true AS; have q401 : t398 < (y395.length : Int) := of_decide_eq_true AS; obtain ⟨ad401, A401_0, c401_0, e401, hx401_0, hl401_0, hi401_0⟩ := at_L3 (Kd.N_reads' HO397.out).2.2 t398 p401 q401; cases e401; obtain ⟨ce401, hce401, hMe401, hcc401⟩ := Kd.N_get HO397.out [] t398 p401 (by first | exact q401 | exact of_decide_eq_true AS | (have e_ := (Kd.N_reads' HO397.out).1; omega)); obtain ⟨ua401_0, uc401_0, rfl, ul401_0, ge401_0⟩ := Kd.FK_slice_open hMe401; have hv401_0 := hcc401 0 _ rfl; rw [Nat.add_zero, show ((Kd.slice 3 (Kd.int .i64))).sz = 1 from rfl, Nat.mul_one] at hv401_0; replace hv401_0 := Option.some.inj (hv401_0.symm.trans hx401_0); injection hv401_0 with hva_ hvn_ hvc_; rw [hva_] at ge401_0; rw [hvc_] at ul401_0; have HL401_0 := Aside0.mk (show Kd.V (Kd.int .i64) 3 _ w.heap.size _ _ (rd_L3 y395 t398) from Kd.V_mk ul401_0 ge401_0); clear hva_ hvn_ hvc_ ge401_0 ul401_0; clear hcc401 hce401; have HR401_0 := Aside0.mk hi401_0; have HC401_0 := Aside0.mk hl401_0; clear hi401_0 hl401_0; replace p401 := eq_true p401; replace q401 := eq_true q401))
   go_ret2
   exact ⟨_, RE, by (with_reducible repeat (first | apply Kd.V_alloc | apply Kd.V_drewN | apply Kd.V_drew)); exact Kd.V_mono HL401_0.out (fun _ hk => hk.1.1), by repeat (first | (with_reducible first | exact HB.out | apply below_alloc | apply pw_below_drewN | apply below_drew1 | refine below_set ?_ (IsS58.ge HI367.out)) | exact HB.out)⟩
  ·rw [if_neg c5] at H
   cases H
 ·rw [if_neg c4] at H
  cases H

/-! ### spec_RenameBeads: function 30 -/
mutual
def spec_RenameBeads.j0 : Nat → ByteArray → List Int → Bool → Option (ByteArray × Bool)
 | 0, _, _, _ => none
 | k + 1, x0, x1, x23 => if x23 = true then (some ((⟨#[]⟩ : ByteArray), false)) else (spec_RenameBeads.l0 k x0 x1 x1 (x1.length : Int) 0)
def spec_RenameBeads.l0 : Nat → ByteArray → List Int → List Int → Int → Int → Option (ByteArray × Bool)
 | 0, _, _, _, _, _ => none
 | k + 1, x0, x1, x24, x25, x26 => if x26 < x25 then (if 0 ≤ x26 then (if x26 < (x24.length : Int) then (if x26 ≤ (x1.length : Int) then ((spec_l1Has.f k (x1.take (x26 : Int).toNat) (rd x24 x26)).bind fun t406 => (if t406 = true then (some ((⟨#[]⟩ : ByteArray), false)) else (spec_RenameBeads.l0 k x0 x1 x24 x25 (wrap64 (x26 + 1))))) else (none)) else (none)) else (none)) else (spec_RenameBeads.l1 k x0 x1 (⟨#[]⟩ : ByteArray) 0)
def spec_RenameBeads.l1 : Nat → ByteArray → List Int → ByteArray → Int → Option (ByteArray × Bool)
 | 0, _, _, _, _ => none
 | k + 1, x0, x1, x8, x9 => if x9 < (x0.size : Int) then (if 0 ≤ x9 then (if 0 ≤ (((bt x0 x9) - 97) % 256) then (if (((bt x0 x9) - 97) % 256) < (x1.length : Int) then (if 0 ≤ (rd x1 (((bt x0 x9) - 97) % 256)) then (if (rd x1 (((bt x0 x9) - 97) % 256)) ≤ (wrap64 ((rd x1 (((bt x0 x9) - 97) % 256)) + 1)) then (if (wrap64 ((rd x1 (((bt x0 x9) - 97) % 256)) + 1)) ≤ 4 then (if x8.size + ((⟨#[97, 98, 99, 100]⟩ : ByteArray).extract ((rd x1 (((bt x0 x9) - 97) % 256)) : Int).toNat ((wrap64 ((rd x1 (((bt x0 x9) - 97) % 256)) + 1)) : Int).toNat).size ≤ 9223372036854775807 then (spec_RenameBeads.l1 k x0 x1 (x8 ++ ((⟨#[97, 98, 99, 100]⟩ : ByteArray).extract ((rd x1 (((bt x0 x9) - 97) % 256)) : Int).toNat ((wrap64 ((rd x1 (((bt x0 x9) - 97) % 256)) + 1)) : Int).toNat)) (wrap64 (x9 + 1))) else (none)) else (none)) else (none)) else (none)) else (none)) else (none)) else (none)) else (some (x8, true))
end
def spec_RenameBeads.f (k : Nat) (a0 : ByteArray) (l1 : List Int) : Option (ByteArray × Bool) := (spec_nlGood.f k a0).bind fun t402 => (if t402 = true then (if (l1.length : Int) = 4 then ((spec_l1All.f k l1 0 3).bind fun t403 => (spec_RenameBeads.j0 k a0 l1 (!t403))) else (spec_RenameBeads.j0 k a0 l1 true)) else (spec_RenameBeads.j0 k a0 l1 true))
theorem spec_RenameBeads.mono_l : ∀ k, (∀ y0 y1 y2, LeO (spec_RenameBeads.j0 k y0 y1 y2) (spec_RenameBeads.j0 (k + 1) y0 y1 y2)) ∧ (∀ y0 y1 y2 y3 y4, LeO (spec_RenameBeads.l0 k y0 y1 y2 y3 y4) (spec_RenameBeads.l0 (k + 1) y0 y1 y2 y3 y4)) ∧ (∀ y0 y1 y2 y3, LeO (spec_RenameBeads.l1 k y0 y1 y2 y3) (spec_RenameBeads.l1 (k + 1) y0 y1 y2 y3))
 | 0 => ⟨fun _ _ _ r h => by simp [spec_RenameBeads.j0] at h, fun _ _ _ _ _ r h => by simp [spec_RenameBeads.l0] at h, fun _ _ _ _ r h => by simp [spec_RenameBeads.l1] at h⟩
 | k + 1 => by
  obtain ⟨ih0, ih1, ih2⟩ := spec_RenameBeads.mono_l k
  refine ⟨?_, ?_, ?_⟩
  ·intro y0 y1 y2
   unfold spec_RenameBeads.j0
   repeat' first
   | with_reducible first | exact ih0 _ _ _ | exact ih1 _ _ _ _ _ | exact ih2 _ _ _ _ | exact spec_l1All.mono _ _ _ _ | exact spec_l1Has.mono _ _ _ | exact spec_nlGood.mono _ _ | exact LeO.refl _ | exact LeO.none _ | refine LeO.ite ?_ ?_ | refine LeO.bind ?_ (fun _ => ?_)
   | exact LeO.none _ | refine LeO.ite ?_ ?_ | refine LeO.bind ?_ (fun _ => ?_)
  ·intro y0 y1 y2 y3 y4
   unfold spec_RenameBeads.l0
   repeat' first
   | with_reducible first | exact ih0 _ _ _ | exact ih1 _ _ _ _ _ | exact ih2 _ _ _ _ | exact spec_l1All.mono _ _ _ _ | exact spec_l1Has.mono _ _ _ | exact spec_nlGood.mono _ _ | exact LeO.refl _ | exact LeO.none _ | refine LeO.ite ?_ ?_ | refine LeO.bind ?_ (fun _ => ?_)
   | exact LeO.none _ | refine LeO.ite ?_ ?_ | refine LeO.bind ?_ (fun _ => ?_)
  ·intro y0 y1 y2 y3
   unfold spec_RenameBeads.l1
   repeat' first
   | with_reducible first | exact ih0 _ _ _ | exact ih1 _ _ _ _ _ | exact ih2 _ _ _ _ | exact spec_l1All.mono _ _ _ _ | exact spec_l1Has.mono _ _ _ | exact spec_nlGood.mono _ _ | exact LeO.refl _ | exact LeO.none _ | refine LeO.ite ?_ ?_ | refine LeO.bind ?_ (fun _ => ?_)
   | exact LeO.none _ | refine LeO.ite ?_ ?_ | refine LeO.bind ?_ (fun _ => ?_)
theorem spec_RenameBeads.mono : ∀ a0 a1 k, LeO (spec_RenameBeads.f k a0 a1) (spec_RenameBeads.f (k + 1) a0 a1) := by
 intro a0 a1 k
 obtain ⟨ih0, ih1, ih2⟩ := spec_RenameBeads.mono_l k
 unfold spec_RenameBeads.f
 repeat' first
   | with_reducible first | exact ih0 _ _ _ | exact ih1 _ _ _ _ _ | exact ih2 _ _ _ _ | exact spec_l1All.mono _ _ _ _ | exact spec_l1Has.mono _ _ _ | exact spec_nlGood.mono _ _ | exact LeO.refl _ | exact LeO.none _ | refine LeO.ite ?_ ?_ | refine LeO.bind ?_ (fun _ => ?_)
   | exact LeO.none _ | refine LeO.ite ?_ ?_ | refine LeO.bind ?_ (fun _ => ?_)
theorem spec_RenameBeads.calls (k : Nat) (a0 : ByteArray) (A1 : Option Addr) (c1 : Nat) (l1 : List Int) (r1 : ByteArray) (r2 : Bool) (w : World) (hr1 : Kd.C (Kd.int .i64) w A1 l1.length l1) (hc1 : l1.length ≤ c1) (h : spec_RenameBeads.f k a0 l1 = some (r1, r2)) :
  Calls Tryz.prog 30 #[.string a0, .slice A1 l1.length c1] w fun e w' => e = .returned (.tuple #[.string r1, .bool r2]) ∧ Drawn0 w w' := by
 have HR1 := Aside0.mk hr1
 have HC1 := Aside0.mk hc1
 clear hr1 hc1
 have H : ((spec_nlGood.f k a0).bind fun t402 => (if t402 = true then (if (l1.length : Int) = 4 then ((spec_l1All.f k l1 0 3).bind fun t403 => (spec_RenameBeads.j0 k a0 l1 (!t403))) else (spec_RenameBeads.j0 k a0 l1 true)) else (spec_RenameBeads.j0 k a0 l1 true))) = some (r1, r2) := h
 clear h
 have HC3 := Aside0.mk H
 clear H
 go_enter Tryz.func30, Tryz.ntmps30
 go_upto_region 1 with (fail)
 go_cut [23] (fun v23 wc => ∃ (kq : Nat) (x23_2 : Bool), v23 = .bool x23_2 ∧ Aside0 (spec_RenameBeads.j0 kq a0 l1 x23_2 = some (r1, r2)) ∧ Aside0 (kq ≤ k) ∧ Drawn0 w wc)
 case first =>
  have H := HC3.out
  clear HC3
  replace H := EA H
  obtain ⟨t402, A4, H⟩ := H
  by_cases c5 : t402 = true
  ·subst c5
   replace H := IP H
   by_cases c6 : (l1.length : Int) = 4
   ·rw [if_pos c6] at H
    have c6b0 : ((l1.length : Int) == 4) = true := beq_iff_eq.mpr c6
    have c6b1 : ((l1.length : Int) != 4) = false := bne_eq_false_iff_eq.mpr c6
    clear c6
    (first | rw [c6b0] | (simp only [i64_w, i32_w]; rw [c6b0]) | skip)
    replace H := EA H
    obtain ⟨t403, A7, H⟩ := H
    have H' := Aside0.mk H
    clear H
    go_wp2_with (first | ((with_reducible refine gate_callee (f := 33) rfl ?_); refine goesL_ (some 12) rfl rfl Tryz.func33 (by kernel_rfl) rfl #[.string a0] rfl TA ?_; (with_reducible refine (spec_nlGood.calls k a0 true _ A4.out).mono ?_); rintro e w' ⟨rfl, ⟨nd, rfl⟩⟩; refine ⟨_, rfl, ?_⟩) | (go_at_call 58; (with_reducible refine (spec_l1All.calls k _ _ l1 0 3 t403 _ ?side1 ?side2 A7.out).mono ?_); (case side1 => exact CW HR1.out); (case side2 => exact HC1.out); rintro e w' ⟨rfl, ⟨nd, rfl⟩⟩))
    go_meet
    case rel => exact ⟨_, (!t403), RF, H', ⟨by first | omega | exact Nat.le_refl _⟩, by repeat (first | exact Drawn0.refl _ | apply Drawn0.step)⟩
   ·rw [if_neg c6] at H
    have c6b0 : ((l1.length : Int) == 4) = false := beq_eq_false_iff_ne.mpr c6
    have c6b1 : ((l1.length : Int) != 4) = true := bne_iff_ne.mpr c6
    (first | rw [c6b0] | (simp only [i64_w, i32_w]; rw [c6b0]) | skip)
    have H' := Aside0.mk H
    clear H
    go_wp2_with (first | ((with_reducible refine gate_callee (f := 33) rfl ?_); refine goesL_ (some 12) rfl rfl Tryz.func33 (by kernel_rfl) rfl #[.string a0] rfl TA ?_; (with_reducible refine (spec_nlGood.calls k a0 true _ A4.out).mono ?_); rintro e w' ⟨rfl, ⟨nd, rfl⟩⟩; refine ⟨_, rfl, ?_⟩))
    go_meet
    case rel => exact ⟨_, (true), RF, H', ⟨by first | omega | exact Nat.le_refl _⟩, by repeat (first | exact Drawn0.refl _ | apply Drawn0.step)⟩
  ·replace c5 := Bool.eq_false_iff.mpr c5
   subst c5
   replace H := IN H
   have H' := Aside0.mk H
   clear H
   go_wp2_with (first | ((with_reducible refine gate_callee (f := 33) rfl ?_); refine goesL_ (some 12) rfl rfl Tryz.func33 (by kernel_rfl) rfl #[.string a0] rfl TA ?_; (with_reducible refine (spec_nlGood.calls k a0 false _ A4.out).mono ?_); rintro e w' ⟨rfl, ⟨nd, rfl⟩⟩; refine ⟨_, rfl, ?_⟩))
   go_meet
   case rel => exact ⟨_, (true), RF, H', ⟨by first | omega | exact Nat.le_refl _⟩, by repeat (first | exact Drawn0.refl _ | apply Drawn0.step)⟩
 case rest =>
  clear HC3
  try clear c1
  try clear p2
  try clear c3
  try clear c5
  try clear c6
  try clear c6b0
  try clear c6b1
  try clear p6
  obtain ⟨kq, x23_2, rfl, HA, HJ2, ⟨mc2, rfl⟩⟩ := hcut
  cases kq with
  | zero => exact absurd HA.out (by simp [spec_RenameBeads.j0])
  | succ kj2 =>
   have H := HA.out
   clear HA
   simp only [spec_RenameBeads.j0] at H
   by_cases c8 : x23_2 = true
   ·subst c8
    replace H := IP H
    simp only [Option.some.injEq, Prod.mk.injEq] at H
    obtain ⟨rfl, rfl⟩ := H
    go_wp2
    go_ret2
    exact ⟨RF, DR⟩
   ·replace c8 := Bool.eq_false_iff.mpr c8
    subst c8
    replace H := IN H
    have H' := Aside0.mk H
    clear H
    go_wp2
    go_loopg [26] kj2 (fun kq v26 w' => ∃ (x26_2 : Int), v26 = .int .i64 x26_2 ∧ Aside0 (spec_RenameBeads.l0 kq a0 l1 l1 (l1.length : Int) x26_2 = some (r1, r2)) ∧ Aside0 (kq ≤ kj2) ∧ Drawn0 w w')
    case atStart => exact ⟨(0), RF, H', ⟨Nat.le_refl _⟩, by repeat (first | exact Drawn0.refl _ | apply Drawn0.step)⟩
    case round =>
     clear H'
     try clear c1
     try clear c2
     try clear p2
     try clear c3
     try clear c5
     try clear c6
     try clear c6b0
     try clear c6b1
     try clear p6
     try clear c8
     try clear p2
     try clear p6
     obtain ⟨x26_2, rfl, HA, HK2, ⟨m2, rfl⟩⟩ := hrel
     cases gk with
     | zero => exact absurd HA.out (by simp [spec_RenameBeads.l0])
     | succ k2 =>
      have H := HA.out
      clear HA
      simp only [spec_RenameBeads.l0] at H
      by_cases c9 : x26_2 < (l1.length : Int)
      ·rw [if_pos c9] at H
       have c9b0 : decide (x26_2 < (l1.length : Int)) = true := decide_eq_true c9
       clear c9
       by_cases c10 : 0 ≤ x26_2
       ·rw [if_pos c10] at H
        have c10b0 : decide (0 ≤ x26_2) = true := decide_eq_true c10
        clear c10
        by_cases c11 : x26_2 < (l1.length : Int)
        ·rw [if_pos c11] at H
         have c11b0 : decide (x26_2 < (l1.length : Int)) = true := decide_eq_true c11
         clear c11
         have c12b0 := eq_true (of_decide_eq_true AS : 0 ≤ x26_2)
         by_cases c13 : x26_2 ≤ (l1.length : Int)
         ·rw [if_pos c13] at H
          have c13b0 := eq_true c13
          have c13b1 : decide (x26_2 ≤ (l1.length : Int)) = true := decide_eq_true c13
          clear c13
          replace H := EA H
          obtain ⟨t406, A14, H⟩ := H
          by_cases c15 : t406 = true
          ·subst c15
           replace H := IP H
           simp only [Option.some.injEq, Prod.mk.injEq] at H
           obtain ⟨rfl, rfl⟩ := H
           have p404 : 0 ≤ (x26_2 : Int) := of_decide_eq_true AS
           have q404 : x26_2 < (l1.length : Int) := of_decide_eq_true AS
           obtain ⟨ad404, e404, hx404_0⟩ := Kd.at_int HR1.out x26_2 p404 q404
           cases e404
           replace p404 := eq_true p404
           replace q404 := eq_true q404
           obtain ⟨i016, hi016, _, hsz16, _⟩ := info_parts info3
           obtain ⟨hcut16, hA16, hC16⟩ := print_take_of (P := Tryz.prog) (Value.int .i64) 0 25 3 .i64 Tryz.underlying25 hi016 hsz16 (some ad404) c1 l1 x26_2 (of_decide_eq_true AS) (of_decide_eq_true AS) HC1.out
           have HR405 := Aside0.mk (Kd.C_of_reads (h1 := fun _ => rfl) (hA16 _ (Kd.reads_of_C HR1.out)))
           have HC405 := Aside0.mk hC16
           clear hA16 hC16 hi016 hsz16
           go_wp2_with (first | ((with_reducible refine gate_callee (f := 59) rfl ?_); refine goesL_ (some 35) rfl rfl Tryz.func59 (by kernel_rfl) rfl #[.slice (some ad404) (l1.take (x26_2 : Int).toNat).length c1, .int .i64 (rd l1 x26_2)] rfl (by (try simp only [List.map_toArray, List.map_cons, List.map_nil]); first | done | (rw [show (l1.take (x26_2 : Int).toNat).length = x26_2.toNat from (by rw [List.length_take]; have h_ : (x26_2 : Int) ≤ (l1.length : Int) := of_decide_eq_true AS; omega)] <;> rfl) | rfl | (simp only [List.length_drop, List.length_take]; rfl)) ?_; (with_reducible refine (spec_l1Has.calls k2 _ _ (l1.take (x26_2 : Int).toNat) (rd l1 x26_2) true _ ?side1 ?side2 A14.out).mono ?_); (case side1 => exact CW HR405.out); (case side2 => exact HC405.out); rintro e w' ⟨rfl, ⟨nd, rfl⟩⟩; refine ⟨_, rfl, ?_⟩))
           go_ret2
           exact ⟨RF, DR⟩
          ·replace c15 := Bool.eq_false_iff.mpr c15
           subst c15
           replace H := IN H
           have H' := Aside0.mk H
           clear H
           have p404 : 0 ≤ (x26_2 : Int) := of_decide_eq_true AS
           have q404 : x26_2 < (l1.length : Int) := of_decide_eq_true AS
           obtain ⟨ad404, e404, hx404_0⟩ := Kd.at_int HR1.out x26_2 p404 q404
           cases e404
           replace p404 := eq_true p404
           replace q404 := eq_true q404
           obtain ⟨i017, hi017, _, hsz17, _⟩ := info_parts info3
           obtain ⟨hcut17, hA17, hC17⟩ := print_take_of (P := Tryz.prog) (Value.int .i64) 0 25 3 .i64 Tryz.underlying25 hi017 hsz17 (some ad404) c1 l1 x26_2 (of_decide_eq_true AS) (of_decide_eq_true AS) HC1.out
           have HR405 := Aside0.mk (Kd.C_of_reads (h1 := fun _ => rfl) (hA17 _ (Kd.reads_of_C HR1.out)))
           have HC405 := Aside0.mk hC17
           clear hA17 hC17 hi017 hsz17
           go_wp2_with (first | ((with_reducible refine gate_callee (f := 59) rfl ?_); refine goesL_ (some 35) rfl rfl Tryz.func59 (by kernel_rfl) rfl #[.slice (some ad404) (l1.take (x26_2 : Int).toNat).length c1, .int .i64 (rd l1 x26_2)] rfl (by (try simp only [List.map_toArray, List.map_cons, List.map_nil]); first | done | (rw [show (l1.take (x26_2 : Int).toNat).length = x26_2.toNat from (by rw [List.length_take]; have h_ : (x26_2 : Int) ≤ (l1.length : Int) := of_decide_eq_true AS; omega)] <;> rfl) | rfl | (simp only [List.length_drop, List.length_take]; rfl)) ?_; (with_reducible refine (spec_l1Has.calls k2 _ _ (l1.take (x26_2 : Int).toNat) (rd l1 x26_2) false _ ?side1 ?side2 A14.out).mono ?_); (case side1 => exact CW HR405.out); (case side2 => exact HC405.out); rintro e w' ⟨rfl, ⟨nd, rfl⟩⟩; refine ⟨_, rfl, ?_⟩))
           go_roundg k2
           case measure => have := HJ2.out; have := HK2.out; omega
           case rel => exact ⟨(wrap64 (x26_2 + 1)), RF, H', ⟨by have := HJ2.out; have := HK2.out; omega⟩, by repeat (first | exact Drawn0.refl _ | apply Drawn0.step)⟩
         ·rw [if_neg c13] at H
          cases H
        ·rw [if_neg c11] at H
         cases H
       ·rw [if_neg c10] at H
        cases H
      ·rw [if_neg c9] at H
       have c9b0 : decide (x26_2 < (l1.length : Int)) = false := decide_eq_false c9
       clear c9
       have H' := Aside0.mk H
       clear H
       go_wp2
       go_loopg [8, 9] k2 (fun kq v8 v9 w' => ∃ (x8_3 : ByteArray) (x9_3 : Int), v8 = .string x8_3 ∧ v9 = .int .i64 x9_3 ∧ Aside0 (spec_RenameBeads.l1 kq a0 l1 x8_3 x9_3 = some (r1, r2)) ∧ Aside0 (kq ≤ k2) ∧ Drawn0 w w')
       case atStart => exact ⟨((⟨#[]⟩ : ByteArray)), (0), RF, RF, H', ⟨Nat.le_refl _⟩, by repeat (first | exact Drawn0.refl _ | apply Drawn0.step)⟩
       case round =>
        clear H'
        try clear c1
        try clear c2
        try clear p2
        try clear c3
        try clear p4
        try clear q4
        try clear hx4
        try clear c5
        try clear c6
        try clear c6b0
        try clear c6b1
        try clear p6
        try clear c8
        try clear c9
        try clear c9b0
        try clear c10
        try clear c10b0
        try clear c11
        try clear c11b0
        try clear c12
        try clear c12b0
        try clear c13
        try clear c13b0
        try clear c13b1
        try clear c15
        try clear hx404_0
        try clear p2
        try clear p404
        try clear p6
        try clear q404
        obtain ⟨x8_3, x9_3, rfl, rfl, HA, HK3, ⟨m3, rfl⟩⟩ := hrel
        cases gk with
        | zero => exact absurd HA.out (by simp [spec_RenameBeads.l1])
        | succ k3 =>
         have H := HA.out
         clear HA
         simp only [spec_RenameBeads.l1] at H
         by_cases c18 : x9_3 < (a0.size : Int)
         ·rw [if_pos c18] at H
          have c18b0 : decide (x9_3 < (a0.size : Int)) = true := decide_eq_true c18
          clear c18
          by_cases c19 : 0 ≤ x9_3
          ·rw [if_pos c19] at H
           have c19b0 : decide (0 ≤ x9_3) = true := decide_eq_true c19
           clear c19
           obtain ⟨ji21, hji21⟩ : ∃ j_ : Int, (((bt a0 x9_3) - 97) % 256) = j_ := ⟨_, rfl⟩
           replace H : (if 0 ≤ (ji21) then (if (ji21) < (l1.length : Int) then (if 0 ≤ (rd l1 (ji21)) then (if (rd l1 (ji21)) ≤ (wrap64 ((rd l1 (ji21)) + 1)) then (if (wrap64 ((rd l1 (ji21)) + 1)) ≤ 4 then (if x8_3.size + ((⟨#[97, 98, 99, 100]⟩ : ByteArray).extract ((rd l1 (ji21)) : Int).toNat ((wrap64 ((rd l1 (ji21)) + 1)) : Int).toNat).size ≤ 9223372036854775807 then (spec_RenameBeads.l1 k3 a0 l1 (x8_3 ++ ((⟨#[97, 98, 99, 100]⟩ : ByteArray).extract ((rd l1 (ji21)) : Int).toNat ((wrap64 ((rd l1 (ji21)) + 1)) : Int).toNat)) (wrap64 (x9_3 + 1))) else (none)) else (none)) else (none)) else (none)) else (none)) else (none)) = some (r1, r2) := by first | (rw [hji21] at H; exact H) | (simp only [hji21] at H ⊢; exact H)
           by_cases c22 : 0 ≤ (ji21)
           ·rw [if_pos c22] at H
            have c22b0 : decide (0 ≤ (ji21)) = true := decide_eq_true c22
            clear c22
            by_cases c23 : (ji21) < (l1.length : Int)
            ·rw [if_pos c23] at H
             have c23b0 : decide ((ji21) < (l1.length : Int)) = true := decide_eq_true c23
             clear c23
             by_cases c24 : 0 ≤ (rd l1 (ji21))
             ·rw [if_pos c24] at H
              have c24b0 := eq_true c24
              have c24b1 : decide (0 ≤ (rd l1 (ji21))) = true := decide_eq_true c24
              clear c24
              by_cases c25 : (rd l1 (ji21)) ≤ (wrap64 ((rd l1 (ji21)) + 1))
              ·rw [if_pos c25] at H
               have c25b0 := eq_true c25
               have c25b1 : decide ((rd l1 (ji21)) ≤ (wrap64 ((rd l1 (ji21)) + 1))) = true := decide_eq_true c25
               by_cases c26 : (wrap64 ((rd l1 (ji21)) + 1)) ≤ 4
               ·rw [if_pos c26] at H
                have c26b0 := eq_true c26
                have c26b1 : decide ((wrap64 ((rd l1 (ji21)) + 1)) ≤ 4) = true := decide_eq_true c26
                by_cases c27 : x8_3.size + ((⟨#[97, 98, 99, 100]⟩ : ByteArray).extract ((rd l1 (ji21)) : Int).toNat ((wrap64 ((rd l1 (ji21)) + 1)) : Int).toNat).size ≤ 9223372036854775807
                ·rw [if_pos c27] at H
                 have c27b0 := eq_true c27
                 have c27b1 : decide (x8_3.size + ((⟨#[97, 98, 99, 100]⟩ : ByteArray).extract ((rd l1 (ji21)) : Int).toNat ((wrap64 ((rd l1 (ji21)) + 1)) : Int).toNat).size ≤ 9223372036854775807) = true := decide_eq_true c27
                 try have c27b2 : (9223372036854775807 < x8_3.size + ((⟨#[97, 98, 99, 100]⟩ : ByteArray).extract ((rd l1 (ji21)) : Int).toNat ((wrap64 ((rd l1 (ji21)) + 1)) : Int).toNat).size) = False := eq_false (Nat.not_lt.2 c27)
                 have H' := Aside0.mk H
                 clear H
                 have p20 : 0 ≤ (x9_3 : Int) := of_decide_eq_true AS
                 have q20 : x9_3 < (a0.size : Int) := of_decide_eq_true AS
                 have hx20 := bt_at a0 x9_3
                 replace p20 := eq_true p20
                 replace q20 := eq_true q20
                 have p407 : 0 ≤ ((ji21) : Int) := of_decide_eq_true AS
                 have q407 : (ji21) < (l1.length : Int) := of_decide_eq_true AS
                 obtain ⟨ad407, e407, hx407_0⟩ := Kd.at_int HR1.out (ji21) p407 q407
                 cases e407
                 replace p407 := eq_true p407
                 replace q407 := eq_true q407
                 go_wp2
                 go_roundg k3
                 case measure => have := HJ2.out; have := HK2.out; have := HK3.out; omega
                 case rel => exact ⟨(x8_3 ++ ((⟨#[97, 98, 99, 100]⟩ : ByteArray).extract ((rd l1 (ji21)) : Int).toNat ((wrap64 ((rd l1 (ji21)) + 1)) : Int).toNat)), (wrap64 (x9_3 + 1)), (by first | rfl | (simp; done) | (simp only [← hji21] <;> (first | rfl | simp)) | (simp [*]; done) | (simp [*, wrap64]; done)), RF, H', ⟨by have := HJ2.out; have := HK2.out; have := HK3.out; omega⟩, by repeat (first | exact Drawn0.refl _ | apply Drawn0.step)⟩
                ·rw [if_neg c27] at H
                 cases H
               ·rw [if_neg c26] at H
                cases H
              ·rw [if_neg c25] at H
               cases H
             ·rw [if_neg c24] at H
              cases H
            ·rw [if_neg c23] at H
             cases H
           ·rw [if_neg c22] at H
            cases H
          ·rw [if_neg c19] at H
           cases H
         ·rw [if_neg c18] at H
          have c18b0 : decide (x9_3 < (a0.size : Int)) = false := decide_eq_false c18
          clear c18
          simp only [Option.some.injEq, Prod.mk.injEq] at H
          obtain ⟨rfl, rfl⟩ := H
          go_wp2
          go_ret2
          exact ⟨RF, DR⟩

end Go.Proofs.YthkdkgbcokpbaacGreatDoor.PFnNecklacesShared
