-- Written by a program of this session (wip/tools/pp.sh) out of the translation; Lean checks it.
import Derived.Test.YtgpplbaloajgdabPFnExactFairCellx0
import Derived.Test.YtgpplbaloajgdabPFnExactFairCellx11
namespace Go.Proofs.Ytgpplbaloajgdab.PFnExactFairCell
open Go.RowKit Go.Proofs.YtgpplbaloajgdabOwn Go.Proofs.YtgpplbaloajgdabW.PrintWords Go.Proofs.YtgpplbaloajgdabW.PrintLast Go.Proofs.YtgpplbaloajgdabW.PrintMore
attribute [local go_sem] max2_int min2_int max_two min_two max_three min_three max_four min_four   -- for this text's walks alone
set_option linter.unusedVariables false
set_option maxHeartbeats 8000000
set_option maxRecDepth 100000
set_option linter.unusedSimpArgs false

/-! ### impl_house_doors: function 36 -/
def impl_house_doors.l0 : Nat → List (List Int) → List (List Int) → Int → Int → Int → List Int → List (List Int) → List Int → Option ((List (List Int)))
 | 0, _, _, _, _, _, _, _, _ => none
 | k + 1, x6, x36, x37, x38, x406000, x406001, x406002, x406003 => if x38 < x37 then (if 0 ≤ x38 then (if x38 < (x36.length : Int) then (if 0 < ((rd_L1 x36 x38).length : Int) then (if 1 < ((rd_L1 x36 x38).length : Int) then ((impl_house_isDoor.f x406000 x406001 x406002 x406003 (rd (rd_L1 x36 x38) 0) (rd (rd_L1 x36 x38) 1)).bind fun t431 => (if t431 = true then (if x6.length < 5864062014805 then (impl_house_doors.l0 k (x6 ++ [rd_L1 x36 x38]) x36 x37 (wrap64 (x38 + 1)) x406000 x406001 x406002 x406003) else (none)) else (impl_house_doors.l0 k x6 x36 x37 (wrap64 (x38 + 1)) x406000 x406001 x406002 x406003))) else (none)) else (none)) else (none)) else (none)) else (some x6)
def impl_house_doors.f (k : Nat) (a0_0 : Int) (l0_1 : List Int) (l0_2 : List (List Int)) (l0_3 : List Int) (a1 : Int) : Option ((List (List Int))) := if 0 ≤ a1 then (if a1 < (l0_2.length : Int) then (if 0 < ((rd_L1 l0_2 a1).length : Int) then (if 1 < ((rd_L1 l0_2 a1).length : Int) then (if 2 < ((rd_L1 l0_2 a1).length : Int) then ((some (([(([rd (rd_L1 l0_2 a1) 0, rd (rd_L1 l0_2 a1) 1] : List Int)), (([rd (rd_L1 l0_2 a1) 0, rd (rd_L1 l0_2 a1) 2] : List Int)), (([rd (rd_L1 l0_2 a1) 1, rd (rd_L1 l0_2 a1) 2] : List Int))] : List (List Int)) : List (List Int))).bind fun y425 => (impl_house_doors.l0 k (([] : List (List Int))) y425 (y425.length : Int) 0 a0_0 l0_1 l0_2 l0_3)) else (none)) else (none)) else (none)) else (none)) else (none)
theorem impl_house_doors.mono_l : ∀ k, (∀ y0 y1 y2 y3 y4 y5 y6 y7, LeO (impl_house_doors.l0 k y0 y1 y2 y3 y4 y5 y6 y7) (impl_house_doors.l0 (k + 1) y0 y1 y2 y3 y4 y5 y6 y7))
 | 0 => fun _ _ _ _ _ _ _ _ r h => by simp [impl_house_doors.l0] at h
 | k + 1 => by
  have ih0 := impl_house_doors.mono_l k
  ·intro y0 y1 y2 y3 y4 y5 y6 y7
   unfold impl_house_doors.l0
   repeat' first
   | with_reducible first | exact ih0 _ _ _ _ _ _ _ _ | exact LeO.refl _ | exact LeO.none _ | refine LeO.ite ?_ ?_ | refine LeO.bind ?_ (fun _ => ?_)
   | exact LeO.none _ | refine LeO.ite ?_ ?_ | refine LeO.bind ?_ (fun _ => ?_)
theorem impl_house_doors.mono : ∀ a0 a1 a2 a3 a4 k, LeO (impl_house_doors.f k a0 a1 a2 a3 a4) (impl_house_doors.f (k + 1) a0 a1 a2 a3 a4) := by
 intro a0 a1 a2 a3 a4 k
 have ih0 := impl_house_doors.mono_l k
 unfold impl_house_doors.f
 repeat' first
   | with_reducible first | exact ih0 _ _ _ _ _ _ _ _ | exact LeO.refl _ | exact LeO.none _ | refine LeO.ite ?_ ?_ | refine LeO.bind ?_ (fun _ => ?_)
   | exact LeO.none _ | refine LeO.ite ?_ ?_ | refine LeO.bind ?_ (fun _ => ?_)
def impl_house_doors.T2 : Bool × List (List Nat × List Nat) := (true, [([], []), ([0], [0]), ([1], [1]), ([], []), ([3], [3]), ([4], [4]), ([2, 5], [2, 5]), ([], []), ([7], [7]), ([8], [8]), ([], []), ([10], [10]), ([11], [11]), ([9, 12], [9, 12]), ([], []), ([14], [14]), ([15], [15]), ([], []), ([17], [17]), ([18], [18]), ([16, 19], [16, 19]), ([6, 13, 20], [6, 13, 20]), ([21], [21]), ([], [])])
def impl_house_doors.B2 : List Nat := [0, 1, 3, 0, 8, 24, 63, 0, 128, 384, 0, 1024, 3072, 8064, 0, 16384, 49152, 0, 131072, 393216, 1032192, 2097151, 4194303, 0]
theorem impl_house_doors.tab2 : rtab .any (opsOf Try.f36 2) = impl_house_doors.T2 := by kernel_rfl
theorem impl_house_doors.bits2 : waitsOk impl_house_doors.T2.2 impl_house_doors.B2 = true := by kernel_rfl
def impl_house_doors.T5 : Bool × List (List Nat × List Nat) := (true, [([], []), ([], []), ([1], [1]), ([2], [2]), ([], []), ([4], [4]), ([5], [5]), ([0, 3, 6], [0, 3, 6])])
def impl_house_doors.B5 : List Nat := [0, 0, 2, 6, 0, 16, 48, 127]
theorem impl_house_doors.tab5 : rtab .any (opsOf Try.f36 5) = impl_house_doors.T5 := by kernel_rfl
theorem impl_house_doors.bits5 : waitsOk impl_house_doors.T5.2 impl_house_doors.B5 = true := by kernel_rfl
theorem impl_house_doors.calls (k : Nat) (a0_0 : Int) (A0_1 : Option Addr) (c0_1 : Nat) (l0_1 : List Int) (A0_2 : Option Addr) (c0_2 : Nat) (l0_2 : List (List Int)) (A0_3 : Option Addr) (c0_3 : Nat) (l0_3 : List Int) (a1 : Int) (r : List (List Int)) (w : World) (hr0_1 : Kd.C (Kd.int .i64) w A0_1 l0_1.length l0_1) (hc0_1 : l0_1.length ≤ c0_1) (hr0_2 : Kd.C (Kd.slice 3 (Kd.int .i64)) w A0_2 l0_2.length l0_2) (hc0_2 : l0_2.length ≤ c0_2) (hr0_3 : Kd.C (Kd.int .i64) w A0_3 l0_3.length l0_3) (hc0_3 : l0_3.length ≤ c0_3) (h : impl_house_doors.f k a0_0 l0_1 l0_2 l0_3 a1 = some r) :
  Calls Try.prog 36 #[.agg #[.int .i64 a0_0, .slice A0_1 l0_1.length c0_1, .slice A0_2 l0_2.length c0_2, .slice A0_3 l0_3.length c0_3], .int .i64 a1] w fun e w' => ∃ v0_ : Value, e = .returned (v0_) ∧ Kd.N (Kd.slice 3 (Kd.int .i64)) 22 w' w.heap.size (fun k_ => (w.heap.size ≤ k_)) v0_ r ∧ Below w.heap.size w w' := by
 have hu46 := Try.underlying46
 have HR0_1 := Aside0.mk hr0_1
 have HC0_1 := Aside0.mk hc0_1
 clear hr0_1 hc0_1
 have HR0_2 := Aside0.mk hr0_2
 have HC0_2 := Aside0.mk hc0_2
 clear hr0_2 hc0_2
 have HR0_3 := Aside0.mk hr0_3
 have HC0_3 := Aside0.mk hc0_3
 clear hr0_3 hc0_3
 have HB := Aside0.mk (Below.refl w.heap.size w)
 have H : (if 0 ≤ a1 then (if a1 < (l0_2.length : Int) then (if 0 < ((rd_L1 l0_2 a1).length : Int) then (if 1 < ((rd_L1 l0_2 a1).length : Int) then (if 2 < ((rd_L1 l0_2 a1).length : Int) then ((some (([(([rd (rd_L1 l0_2 a1) 0, rd (rd_L1 l0_2 a1) 1] : List Int)), (([rd (rd_L1 l0_2 a1) 0, rd (rd_L1 l0_2 a1) 2] : List Int)), (([rd (rd_L1 l0_2 a1) 1, rd (rd_L1 l0_2 a1) 2] : List Int))] : List (List Int)) : List (List Int))).bind fun y425 => (impl_house_doors.l0 k (([] : List (List Int))) y425 (y425.length : Int) 0 a0_0 l0_1 l0_2 l0_3)) else (none)) else (none)) else (none)) else (none)) else (none)) = some r := h
 clear h
 by_cases c3 : 0 ≤ a1
 ·rw [if_pos c3] at H
  have c3b0 : decide (0 ≤ a1) = true := decide_eq_true c3
  clear c3
  by_cases c4 : a1 < (l0_2.length : Int)
  ·rw [if_pos c4] at H
   have c4b0 : decide (a1 < (l0_2.length : Int)) = true := decide_eq_true c4
   clear c4
   obtain ⟨y407, hy407⟩ : ∃ y_ : List (List Int), y_ = (([] : List (List Int))) := ⟨_, rfl⟩
   replace H : (if 0 < ((rd_L1 l0_2 a1).length : Int) then (if 1 < ((rd_L1 l0_2 a1).length : Int) then (if 2 < ((rd_L1 l0_2 a1).length : Int) then ((some (([(([rd (rd_L1 l0_2 a1) 0, rd (rd_L1 l0_2 a1) 1] : List Int)), (([rd (rd_L1 l0_2 a1) 0, rd (rd_L1 l0_2 a1) 2] : List Int)), (([rd (rd_L1 l0_2 a1) 1, rd (rd_L1 l0_2 a1) 2] : List Int))] : List (List Int)) : List (List Int))).bind fun y425 => (impl_house_doors.l0 k y407 y425 (y425.length : Int) 0 a0_0 l0_1 l0_2 l0_3)) else (none)) else (none)) else (none)) = some r := HY H hy407
   have Ny407 := Aside0.mk hy407
   clear hy407
   by_cases c5 : 0 < ((rd_L1 l0_2 a1).length : Int)
   ·rw [if_pos c5] at H
    have c5b0 : decide (0 < ((rd_L1 l0_2 a1).length : Int)) = true := decide_eq_true c5
    have c5b1 : decide (0 < (rd_L1 l0_2 a1).length) = true := decide_eq_true (by omega)
    clear c5
    by_cases c6 : 1 < ((rd_L1 l0_2 a1).length : Int)
    ·rw [if_pos c6] at H
     have c6b0 : decide (1 < ((rd_L1 l0_2 a1).length : Int)) = true := decide_eq_true c6
     have c6b1 : decide (1 < (rd_L1 l0_2 a1).length) = true := decide_eq_true (by omega)
     clear c6
     obtain ⟨y412, hy412⟩ : ∃ y_ : List Int, y_ = (([rd (rd_L1 l0_2 a1) 0, rd (rd_L1 l0_2 a1) 1] : List Int)) := ⟨_, rfl⟩
     replace H : (if 2 < ((rd_L1 l0_2 a1).length : Int) then ((some (([y412, (([rd (rd_L1 l0_2 a1) 0, rd (rd_L1 l0_2 a1) 2] : List Int)), (([rd (rd_L1 l0_2 a1) 1, rd (rd_L1 l0_2 a1) 2] : List Int))] : List (List Int)) : List (List Int))).bind fun y425 => (impl_house_doors.l0 k y407 y425 (y425.length : Int) 0 a0_0 l0_1 l0_2 l0_3)) else (none)) = some r := HY H hy412
     have Ny412 := Aside0.mk hy412
     clear hy412
     by_cases c7 : 2 < ((rd_L1 l0_2 a1).length : Int)
     ·rw [if_pos c7] at H
      have c7b0 : decide (2 < ((rd_L1 l0_2 a1).length : Int)) = true := decide_eq_true c7
      have c7b1 : decide (2 < (rd_L1 l0_2 a1).length) = true := decide_eq_true (by omega)
      clear c7
      obtain ⟨y417, hy417⟩ : ∃ y_ : List Int, y_ = (([rd (rd_L1 l0_2 a1) 0, rd (rd_L1 l0_2 a1) 2] : List Int)) := ⟨_, rfl⟩
      replace H : ((some (([y412, y417, (([rd (rd_L1 l0_2 a1) 1, rd (rd_L1 l0_2 a1) 2] : List Int))] : List (List Int)) : List (List Int))).bind fun y425 => (impl_house_doors.l0 k y407 y425 (y425.length : Int) 0 a0_0 l0_1 l0_2 l0_3)) = some r := HY H hy417
      have Ny417 := Aside0.mk hy417
      clear hy417
      obtain ⟨y422, hy422⟩ : ∃ y_ : List Int, y_ = (([rd (rd_L1 l0_2 a1) 1, rd (rd_L1 l0_2 a1) 2] : List Int)) := ⟨_, rfl⟩
      replace H : ((some (([y412, y417, y422] : List (List Int)) : List (List Int))).bind fun y425 => (impl_house_doors.l0 k y407 y425 (y425.length : Int) 0 a0_0 l0_1 l0_2 l0_3)) = some r := HY H hy422
      have Ny422 := Aside0.mk hy422
      clear hy422
      obtain ⟨y425, hy425⟩ : ∃ y_ : List (List Int), y_ = (([y412, y417, y422] : List (List Int))) := ⟨_, rfl⟩
      replace H : (impl_house_doors.l0 k y407 y425 (y425.length : Int) 0 a0_0 l0_1 l0_2 l0_3) = some r := HY H hy425
      have Ny425 := Aside0.mk hy425
      clear hy425
      have H' := Aside0.mk H
      clear H
      go_enter Try.func36, Try.ntmps36
      try go_wp2_with (first | ((with_reducible refine gate_dst (N := 2) rfl ?_); refine box_event ?hg (N := 2) ?hd (cs := #[.int .i64 a0_0, .slice A0_1 l0_1.length c0_1, .slice A0_2 l0_2.length c0_2, .slice A0_3 l0_3.length c0_3]) (t := 46) ?hr ?_; (case hd => rfl); (case hg => rfl); (case hr => exact GS); intro gb405 hg w8 hbox hb; have n0_ := Aside0.mk (below_step BB hb); have n1_ := Aside0.mk (hbox); have n2_ := Aside0.mk ((by rw [hg]; exact (below_size BB) : w.heap.size ≤ gb405)); have n3_ := Aside0.mk ((by rw [hg]; exact (below_size BB) : w.heap.size ≤ gb405)); clear HB; have HB := n0_; have BK405 := n1_; have GW405 := n2_; have GE405 := n3_; clear n0_ n1_ n2_ n3_; clear hb hbox hg; have hcz9_0 : w8.cell? ⟨gb405, 0, none⟩ = some (.int .i64 a0_0) := (blk_cell BK405.out 0).trans rfl; have hcz9_1 : w8.cell? ⟨gb405, 1, none⟩ = some (.slice A0_1 l0_1.length c0_1) := (blk_cell BK405.out 1).trans rfl; have hcz9_2 : w8.cell? ⟨gb405, 2, none⟩ = some (.slice A0_2 l0_2.length c0_2) := (blk_cell BK405.out 2).trans rfl; have hcz9_3 : w8.cell? ⟨gb405, 3, none⟩ = some (.slice A0_3 l0_3.length c0_3) := (blk_cell BK405.out 3).trans rfl; have hfz9_0 := blk_frozen BK405.out 0; have hfz9_1 := blk_frozen BK405.out 1; have hfz9_2 := blk_frozen BK405.out 2; have hfz9_3 := blk_frozen BK405.out 3; have p406 : 0 ≤ (a1 : Int) := of_decide_eq_true AS; have q406 : a1 < (l0_2.length : Int) := of_decide_eq_true AS; obtain ⟨ad406, A406_0, c406_0, e406, hx406_0, hl406_0, hi406_0⟩ := at_L1 HR0_2.out a1 p406 q406; cases e406; replace hx406_0 := (HB.out.cell (World.block_lt_of_cell? w _ hx406_0)).trans hx406_0; have HR406_0 := Aside0.mk hi406_0; have HC406_0 := Aside0.mk hl406_0; clear hi406_0 hl406_0; replace p406 := eq_true p406; replace q406 := eq_true q406) | ((with_reducible refine gate_dst (N := 14) rfl ?_); refine Kd.N_lit (Kd.slice 3 (Kd.int .i64)) _ 22 ?hg (N' := 14) ?hd (xs := ([] : List (List Int))) (inner := []) (ok := (fun k_ => (w.heap.size ≤ k_) ∧ k_ ≠ gb405)) (okp := (fun k_ => (w.heap.size ≤ k_) ∧ k_ ≠ gb405)) ?hr ?hp (fun _ hk => hk) ((show ∀ k_, w8.heap.size ≤ k_ → (fun k_ => (w.heap.size ≤ k_) ∧ k_ ≠ gb405) k_ from fun k_ hk => ⟨(Nat.le_trans (below_size (by repeat (first | (with_reducible first | exact HB.out | apply below_alloc | apply pw_below_drewN | apply below_drew1 | refine below_set ?_ GE405.out) | exact HB.out))) hk), Kd.freshB (g := gb405) (o := .cells #[.int .i64 a0_0, .slice A0_1 l0_1.length c0_1, .slice (some ad406) l0_2.length c0_2, .slice A0_3 l0_3.length c0_3] 46 (0, 0)) (BW BK405) k_ hk⟩) _ (Nat.le_refl _)) (Below.refl _ _) (Nat.le_refl _) (by simp) ?_; (case hd => rfl); (case hg => rfl); (case hr => exact GS); (case hp => exact (Reps.none _ _)); intro v408 w10 ho11 hb hg_ hnew_; clear hg_ hnew_; (first | rw [← Ny407.out] at ho11 | (simp only [Int.reduceToNat] at ho11; rw [← Ny407.out] at ho11)); have n0_ := Aside0.mk (Kd.N_lower ho11 (below_size (by repeat (first | (with_reducible first | exact HB.out | apply below_alloc | apply pw_below_drewN | apply below_drew1 | refine below_set ?_ GE405.out) | exact HB.out)))); have n1_ := Aside0.mk (blk_below (g := gb405) (o := .cells #[.int .i64 a0_0, .slice A0_1 l0_1.length c0_1, .slice (some ad406) l0_2.length c0_2, .slice A0_3 l0_3.length c0_3] 46 (0, 0)) (BW BK405) hb); have n2_ := Aside0.mk (below_step (by repeat (first | (with_reducible first | exact HB.out | apply below_alloc | apply pw_below_drewN | apply below_drew1 | refine below_set ?_ GE405.out) | exact HB.out)) hb); clear BK405; clear HB; have HO409 := n0_; have BK405 := n1_; have HB := n2_; clear n0_ n1_ n2_; clear hb ho11))
      have n0_ := Aside0.mk (Kd.N_drew HO409.out)
      have n1_ := Aside0.mk (blk_drew BK405.out)
      have n2_ := Aside0.mk (below_drew1 HB.out)
      clear HO409
      clear BK405
      clear HB
      have HO409 := n0_
      have BK405 := n1_
      have HB := n2_
      clear n0_ n1_ n2_
      have p410 : 0 ≤ (0 : Int) := (by omega)
      have q410 : 0 < ((rd_L1 l0_2 a1).length : Int) := of_decide_eq_true AS
      obtain ⟨ad410, e410, hx410_0⟩ := Kd.at_int HR406_0.out 0 p410 q410
      have hw410_0 := hx410_0
      (try rw [show ((0 : Int)).toNat = 0 from rfl] at hw410_0)
      (try rw [show 0 * 1 = 0 from rfl] at hw410_0)
      (try rw [Addr.add_zero'] at hw410_0)
      cases e410
      have qi410 : (0 < (rd_L1 l0_2 a1).length) = True := eq_true (by omega)
      (try rw [show ((0 : Int)).toNat = 0 from rfl] at hx410_0)
      (try rw [Addr.add_zero'] at hx410_0)
      try (replace hx410_0 := (HB.out.cell (World.block_lt_of_cell? w _ hx410_0)).trans hx410_0)
      replace p410 := eq_true p410
      replace q410 := eq_true q410
      have p411 : 0 ≤ (1 : Int) := (by omega)
      have q411 : 1 < ((rd_L1 l0_2 a1).length : Int) := of_decide_eq_true AS
      obtain ⟨ad411, e411, hx411_0⟩ := Kd.at_int HR406_0.out 1 p411 q411
      have hw411_0 := hx411_0
      (try rw [show ((1 : Int)).toNat = 1 from rfl] at hw411_0)
      (try rw [show 1 * 1 = 1 from rfl] at hw411_0)
      (try simp only [Nat.reduceMul, Nat.reduceEqDiff, Go.Addr.add, ↓reduceIte] at hw411_0)
      obtain rfl : ad410 = ad411 := (by injection e411)
      (try simp only [show (1 : Int).toNat = 1 from rfl, Nat.reduceMul, Nat.reduceEqDiff, Go.Addr.add, ↓reduceIte] at hx411_0)
      have qi411 : (1 < (rd_L1 l0_2 a1).length) = True := eq_true (by omega)
      (try rw [show ((1 : Int)).toNat = 1 from rfl] at hx411_0)
      try (replace hx411_0 := (HB.out.cell (World.block_lt_of_cell? w _ hx411_0)).trans hx411_0)
      replace p411 := eq_true p411
      replace q411 := eq_true q411
      have p415 : 0 ≤ (0 : Int) := (by omega)
      have q415 : 0 < ((rd_L1 l0_2 a1).length : Int) := of_decide_eq_true AS
      obtain ⟨ad415, e415, hx415_0⟩ := Kd.at_int HR406_0.out 0 p415 q415
      have hw415_0 := hx415_0
      (try rw [show ((0 : Int)).toNat = 0 from rfl] at hw415_0)
      (try rw [show 0 * 1 = 0 from rfl] at hw415_0)
      (try rw [Addr.add_zero'] at hw415_0)
      obtain rfl : ad410 = ad415 := (by injection e415)
      have qi415 : (0 < (rd_L1 l0_2 a1).length) = True := eq_true (by omega)
      (try rw [show ((0 : Int)).toNat = 0 from rfl] at hx415_0)
      (try rw [Addr.add_zero'] at hx415_0)
      try (replace hx415_0 := (HB.out.cell (World.block_lt_of_cell? w _ hx415_0)).trans hx415_0)
      replace p415 := eq_true p415
      replace q415 := eq_true q415
      have p416 : 0 ≤ (2 : Int) := (by omega)
      have q416 : 2 < ((rd_L1 l0_2 a1).length : Int) := of_decide_eq_true AS
      obtain ⟨ad416, e416, hx416_0⟩ := Kd.at_int HR406_0.out 2 p416 q416
      have hw416_0 := hx416_0
      (try rw [show ((2 : Int)).toNat = 2 from rfl] at hw416_0)
      (try rw [show 2 * 1 = 2 from rfl] at hw416_0)
      (try simp only [Nat.reduceMul, Nat.reduceEqDiff, Go.Addr.add, ↓reduceIte] at hw416_0)
      obtain rfl : ad410 = ad416 := (by injection e416)
      (try simp only [show (2 : Int).toNat = 2 from rfl, Nat.reduceMul, Nat.reduceEqDiff, Go.Addr.add, ↓reduceIte] at hx416_0)
      have qi416 : (2 < (rd_L1 l0_2 a1).length) = True := eq_true (by omega)
      (try rw [show ((2 : Int)).toNat = 2 from rfl] at hx416_0)
      try (replace hx416_0 := (HB.out.cell (World.block_lt_of_cell? w _ hx416_0)).trans hx416_0)
      replace p416 := eq_true p416
      replace q416 := eq_true q416
      have p420 : 0 ≤ (1 : Int) := (by omega)
      have q420 : 1 < ((rd_L1 l0_2 a1).length : Int) := of_decide_eq_true AS
      obtain ⟨ad420, e420, hx420_0⟩ := Kd.at_int HR406_0.out 1 p420 q420
      have hw420_0 := hx420_0
      (try rw [show ((1 : Int)).toNat = 1 from rfl] at hw420_0)
      (try rw [show 1 * 1 = 1 from rfl] at hw420_0)
      (try simp only [Nat.reduceMul, Nat.reduceEqDiff, Go.Addr.add, ↓reduceIte] at hw420_0)
      obtain rfl : ad410 = ad420 := (by injection e420)
      (try simp only [show (1 : Int).toNat = 1 from rfl, Nat.reduceMul, Nat.reduceEqDiff, Go.Addr.add, ↓reduceIte] at hx420_0)
      have qi420 : (1 < (rd_L1 l0_2 a1).length) = True := eq_true (by omega)
      (try rw [show ((1 : Int)).toNat = 1 from rfl] at hx420_0)
      try (replace hx420_0 := (HB.out.cell (World.block_lt_of_cell? w _ hx420_0)).trans hx420_0)
      replace p420 := eq_true p420
      replace q420 := eq_true q420
      have p421 : 0 ≤ (2 : Int) := (by omega)
      have q421 : 2 < ((rd_L1 l0_2 a1).length : Int) := of_decide_eq_true AS
      obtain ⟨ad421, e421, hx421_0⟩ := Kd.at_int HR406_0.out 2 p421 q421
      have hw421_0 := hx421_0
      (try rw [show ((2 : Int)).toNat = 2 from rfl] at hw421_0)
      (try rw [show 2 * 1 = 2 from rfl] at hw421_0)
      (try simp only [Nat.reduceMul, Nat.reduceEqDiff, Go.Addr.add, ↓reduceIte] at hw421_0)
      obtain rfl : ad410 = ad421 := (by injection e421)
      (try simp only [show (2 : Int).toNat = 2 from rfl, Nat.reduceMul, Nat.reduceEqDiff, Go.Addr.add, ↓reduceIte] at hx421_0)
      have qi421 : (2 < (rd_L1 l0_2 a1).length) = True := eq_true (by omega)
      (try rw [show ((2 : Int)).toNat = 2 from rfl] at hx421_0)
      try (replace hx421_0 := (HB.out.cell (World.block_lt_of_cell? w _ hx421_0)).trans hx421_0)
      replace p421 := eq_true p421
      replace q421 := eq_true q421
      refine start_ (n := 24) (S := fun w' => True) (ds := []) #[false, false, false, false, false, false, false, false, false, false, false, false, false, false, false, false, false, false, false, false, false, false, false, false] (by kernel_rfl) rfl rfl trivial (fun hHeld => ?_); refine with_tabW impl_house_doors.tab2 impl_house_doors.bits2 (fun HT_ HW_ => ?_)
      generalize w10.drew = w12 at HO409 BK405 HB hx410_0 hx411_0 hx415_0 hx416_0 hx420_0 hx421_0 hHeld ⊢
      refine pure_ (i := 0) (N := some 15) #[true, false, false, false, false, false, false, false, false, false, false, false, false, false, false, false, false, false, false, false, false, false, false, false] rfl rfl (any_of HT_.out (by kernel_rfl)) (fun _ _ _ h => h) (Or.inl ⟨by rfl, PW⟩) PU ?_
      refine pure_ (i := 3) (N := some 18) #[true, false, false, true, false, false, false, false, false, false, false, false, false, false, false, false, false, false, false, false, false, false, false, false] rfl rfl (any_of HT_.out (by kernel_rfl)) (fun _ _ _ h => h) (Or.inl ⟨by rfl, PW⟩) PU ?_
      refine pure_ (i := 7) (N := some 22) #[true, false, false, true, false, false, false, true, false, false, false, false, false, false, false, false, false, false, false, false, false, false, false, false] rfl rfl (any_of HT_.out (by kernel_rfl)) (fun _ _ _ h => h) (Or.inl ⟨by rfl, PW⟩) PU ?_
      refine pure_ (i := 10) (N := some 25) #[true, false, false, true, false, false, false, true, false, false, true, false, false, false, false, false, false, false, false, false, false, false, false, false] rfl rfl (any_of HT_.out (by kernel_rfl)) (fun _ _ _ h => h) (Or.inl ⟨by rfl, PW⟩) PU ?_
      refine pure_ (i := 14) (N := some 29) #[true, false, false, true, false, false, false, true, false, false, true, false, false, false, true, false, false, false, false, false, false, false, false, false] rfl rfl (any_of HT_.out (by kernel_rfl)) (fun _ _ _ h => h) (Or.inl ⟨by rfl, PW⟩) PU ?_
      refine pure_ (i := 17) (N := some 32) #[true, false, false, true, false, false, false, true, false, false, true, false, false, false, true, false, false, true, false, false, false, false, false, false] rfl rfl (any_of HT_.out (by kernel_rfl)) (fun _ _ _ h => h) (Or.inl ⟨by rfl, PW⟩) PU ?_
      refine pure_ (i := 23) (N := some 38) #[true, false, false, true, false, false, false, true, false, false, true, false, false, false, true, false, false, true, false, false, false, false, false, true] rfl rfl (any_of HT_.out (by kernel_rfl)) (fun _ _ _ h => h) (Or.inl ⟨by rfl, PW⟩) PU ?_
      refine inv_at [1, 2, 4, 5, 6, 8, 9, 11, 12, 13, 15, 16, 18, 19, 20, 21, 22] (fun a0_ b a w' => ∃ (v413 : Value) (v418 : Value) (v423 : Value) (v426 : Value), a = putSel a0_ b [(1, 16, .pointer (some ad410)), (2, 17, .int .i64 (rd (rd_L1 l0_2 a1) 0)), (4, 19, .pointer (some (ad410.add 1))), (5, 20, .int .i64 (rd (rd_L1 l0_2 a1) 1)), (6, 21, v413), (8, 23, .pointer (some ad410)), (9, 24, .int .i64 (rd (rd_L1 l0_2 a1) 0)), (11, 26, .pointer (some (ad410.add 2))), (12, 27, .int .i64 (rd (rd_L1 l0_2 a1) 2)), (13, 28, v418), (15, 30, .pointer (some (ad410.add 1))), (16, 31, .int .i64 (rd (rd_L1 l0_2 a1) 1)), (18, 33, .pointer (some (ad410.add 2))), (19, 34, .int .i64 (rd (rd_L1 l0_2 a1) 2)), (20, 35, v423), (21, 36, v426), (22, 37, .int .i64 (y425.length : Int))] ∧ (Kd.N (Kd.slice 3 (Kd.int .i64)) 22 w' w.heap.size (fun k_ => (w.heap.size ≤ k_) ∧ k_ ≠ gb405) v408 y407) ∧ (w'.heap[gb405]? = some (.cells #[.int .i64 a0_0, .slice A0_1 l0_1.length c0_1, .slice (some ad406) l0_2.length c0_2, .slice A0_3 l0_3.length c0_3] 46 (0, 0))) ∧ (Below w.heap.size w w') ∧ (b 6 = true → b 21 = false → Kd.R (Kd.int .i64) 3 w' w.heap.size (fun k_ => (w.heap.size ≤ k_)) v413 y412) ∧ (b 13 = true → b 21 = false → Kd.R (Kd.int .i64) 3 w' w.heap.size (fun k_ => (w.heap.size ≤ k_)) v418 y417) ∧ (b 20 = true → b 21 = false → Kd.R (Kd.int .i64) 3 w' w.heap.size (fun k_ => (w.heap.size ≤ k_)) v423 y422) ∧ (b 21 = true → Kd.N (Kd.slice 3 (Kd.int .i64)) 22 w' w.heap.size (fun k_ => (w.heap.size ≤ k_) ∧ some k_ ≠ (v408 : Value).ownBlock ∧ k_ ≠ gb405) v426 y425)) HT_.out HW_.out (by kernel_rfl) (by kernel_rfl) ?_ ?_ ?_
      ·exact ⟨.bool false, .bool false, .bool false, .bool false, by simp only [putSel, Bool.false_eq_true, if_false], HO409.out, BK405.out, HB.out, fun h_ => absurd h_ (by decide), fun h_ => absurd h_ (by decide), fun h_ => absurd h_ (by decide), fun h_ => absurd h_ (by decide)⟩
      ·skip
       clear BK405 HB HO409
       refine steps_cons ?_ ?_
       ·rintro b a w' ⟨v413, v418, v423, v426, ha, Q_HO409, Q_BK405, Q_HB, Q_HO414, Q_HO419, Q_HO424, Q_HO427⟩ hb_ hon hoff
        refine ⟨_, rfl, fun K hK => ?_⟩
        have e15 : a.tmps[15]? = some (.slice (some ad410) (rd_L1 l0_2 a1).length c406_0) := by rw [ha]; exact (putSel_off rfl).trans rfl
        replace ha := Aside0.mk ha
        have HO409 := Aside0.mk Q_HO409
        have BK405 := Aside0.mk Q_BK405
        have HB := Aside0.mk Q_HB
        have hs0_ : w'.cell? ad410 = some (.int .i64 (rd (rd_L1 l0_2 a1) 0)) := ((HB.out.cell (World.block_lt_of_cell? w _ hw410_0)).trans hw410_0)
        refine value_ (w1 := w') (v := .pointer (some ad410)) (by rfl) rfl ?_ ?_
        ·exact PG
        refine hK.out _ _ ⟨v413, v418, v423, v426, (by rw [ha.out]; exact putSel_upk 0 hb_ rfl rfl rfl), Q_HO409, Q_BK405, Q_HB, fun h0_ _ => absurd ((hoff 6 (by kernel_rfl)).symm.trans h0_) (by decide), Q_HO419, Q_HO424, fun h0_ => absurd ((hoff 21 (by kernel_rfl)).symm.trans h0_) (by decide)⟩
       refine steps_cons ?_ ?_
       ·rintro b a w' ⟨v413, v418, v423, v426, ha, Q_HO409, Q_BK405, Q_HB, Q_HO414, Q_HO419, Q_HO424, Q_HO427⟩ hb_ hon hoff
        refine ⟨_, rfl, fun K hK => ?_⟩
        have e16 : a.tmps[16]? = some (.pointer (some ad410)) := by rw [ha]; exact putSel_on (e := (1, 16, .pointer (some ad410))) 0 rfl rfl (hon 1 (by kernel_rfl)) rfl
        replace ha := Aside0.mk ha
        have HO409 := Aside0.mk Q_HO409
        have BK405 := Aside0.mk Q_BK405
        have HB := Aside0.mk Q_HB
        have hs0_ : w'.cell? ad410 = some (.int .i64 (rd (rd_L1 l0_2 a1) 0)) := ((HB.out.cell (World.block_lt_of_cell? w _ hw410_0)).trans hw410_0)
        refine value_ (w1 := w') (v := .int .i64 (rd (rd_L1 l0_2 a1) 0)) (by rfl) rfl ?_ ?_
        ·exact PG
        refine hK.out _ _ ⟨v413, v418, v423, v426, (by rw [ha.out]; exact putSel_upk 1 hb_ rfl rfl rfl), Q_HO409, Q_BK405, Q_HB, fun h0_ _ => absurd ((hoff 6 (by kernel_rfl)).symm.trans h0_) (by decide), Q_HO419, Q_HO424, fun h0_ => absurd ((hoff 21 (by kernel_rfl)).symm.trans h0_) (by decide)⟩
       refine steps_cons ?_ ?_
       ·rintro b a w' ⟨v413, v418, v423, v426, ha, Q_HO409, Q_BK405, Q_HB, Q_HO414, Q_HO419, Q_HO424, Q_HO427⟩ hb_ hon hoff
        refine ⟨_, rfl, fun K hK => ?_⟩
        have e18 : a.tmps[18]? = some (.slice (some ad410) (rd_L1 l0_2 a1).length c406_0) := by rw [ha]; exact (putSel_off rfl).trans rfl
        replace ha := Aside0.mk ha
        have HO409 := Aside0.mk Q_HO409
        have BK405 := Aside0.mk Q_BK405
        have HB := Aside0.mk Q_HB
        have hs1_ : w'.cell? ⟨ad410.block, ad410.off + 1, none⟩ = some (.int .i64 (rd (rd_L1 l0_2 a1) 1)) := ((HB.out.cell (World.block_lt_of_cell? w _ hw411_0)).trans hw411_0)
        refine value_ (w1 := w') (v := .pointer (some (ad410.add 1))) (by rfl) rfl ?_ ?_
        ·exact PG
        refine hK.out _ _ ⟨v413, v418, v423, v426, (by rw [ha.out]; exact putSel_upk 2 hb_ rfl rfl rfl), Q_HO409, Q_BK405, Q_HB, fun h0_ _ => absurd ((hoff 6 (by kernel_rfl)).symm.trans h0_) (by decide), Q_HO419, Q_HO424, fun h0_ => absurd ((hoff 21 (by kernel_rfl)).symm.trans h0_) (by decide)⟩
       refine steps_cons ?_ ?_
       ·rintro b a w' ⟨v413, v418, v423, v426, ha, Q_HO409, Q_BK405, Q_HB, Q_HO414, Q_HO419, Q_HO424, Q_HO427⟩ hb_ hon hoff
        refine ⟨_, rfl, fun K hK => ?_⟩
        have e19 : a.tmps[19]? = some (.pointer (some (ad410.add 1))) := by rw [ha]; exact putSel_on (e := (4, 19, .pointer (some (ad410.add 1)))) 2 rfl rfl (hon 4 (by kernel_rfl)) rfl
        replace ha := Aside0.mk ha
        have HO409 := Aside0.mk Q_HO409
        have BK405 := Aside0.mk Q_BK405
        have HB := Aside0.mk Q_HB
        have hs1_ : w'.cell? ⟨ad410.block, ad410.off + 1, none⟩ = some (.int .i64 (rd (rd_L1 l0_2 a1) 1)) := ((HB.out.cell (World.block_lt_of_cell? w _ hw411_0)).trans hw411_0)
        refine value_ (w1 := w') (v := .int .i64 (rd (rd_L1 l0_2 a1) 1)) (by rfl) rfl ?_ ?_
        ·exact PG
        refine hK.out _ _ ⟨v413, v418, v423, v426, (by rw [ha.out]; exact putSel_upk 3 hb_ rfl rfl rfl), Q_HO409, Q_BK405, Q_HB, fun h0_ _ => absurd ((hoff 6 (by kernel_rfl)).symm.trans h0_) (by decide), Q_HO419, Q_HO424, fun h0_ => absurd ((hoff 21 (by kernel_rfl)).symm.trans h0_) (by decide)⟩
       refine steps_cons ?_ ?_
       ·rintro b a w' ⟨v413, v418, v423, v426, ha, Q_HO409, Q_BK405, Q_HB, Q_HO414, Q_HO419, Q_HO424, Q_HO427⟩ hb_ hon hoff
        refine ⟨_, rfl, fun K hK => ?_⟩
        have e17 : a.tmps[17]? = some (.int .i64 (rd (rd_L1 l0_2 a1) 0)) := by rw [ha]; exact putSel_on (e := (2, 17, .int .i64 (rd (rd_L1 l0_2 a1) 0))) 1 rfl rfl (hon 2 (by kernel_rfl)) rfl
        have e20 : a.tmps[20]? = some (.int .i64 (rd (rd_L1 l0_2 a1) 1)) := by rw [ha]; exact putSel_on (e := (5, 20, .int .i64 (rd (rd_L1 l0_2 a1) 1))) 3 rfl rfl (hon 5 (by kernel_rfl)) rfl
        replace ha := Aside0.mk ha
        have HO409 := Aside0.mk Q_HO409
        have BK405 := Aside0.mk Q_BK405
        have HB := Aside0.mk Q_HB
        refine Kd.R_lit_step (Kd.int .i64) _ 3 ?hg (N := 21) ?hd (xs := ([rd (rd_L1 l0_2 a1) 0, rd (rd_L1 l0_2 a1) 1] : List Int)) (inner := [.int .i64 (rd (rd_L1 l0_2 a1) 0), .int .i64 (rd (rd_L1 l0_2 a1) 1)]) (ok := fun _ => True) (okp := fun _ => True) ?hr ?hp (fun _ hk => hk) trivial (Below.refl _ _) (Nat.le_refl _) (by simp) ?_; (case hd => rfl); (case hg => rfl); (case hr => exact GS); (case hp => exact (Reps.one (show Kd.M (Kd.int .i64) _ _ _ (rd (rd_L1 l0_2 a1) 0) [.int .i64 (rd (rd_L1 l0_2 a1) 0)] from rfl) (Reps.one (show Kd.M (Kd.int .i64) _ _ _ (rd (rd_L1 l0_2 a1) 1) [.int .i64 (rd (rd_L1 l0_2 a1) 1)] from rfl) (Reps.none _ _))))
        intro v413 w13 ho14 hb hg_ hnew_
        clear hg_ hnew_
        (first | rw [← Ny412.out] at ho14 | (simp only [Int.reduceToNat] at ho14; rw [← Ny412.out] at ho14))
        have n0_ := Aside0.mk (Kd.N_elder' (KN HO409) (Kd.R_base ho14) hb)
        have n1_ := Aside0.mk (Kd.R_lower (Kd.R_newM (M := fun k_ => (w.heap.size ≤ k_)) ho14 (below_size (by repeat (first | (with_reducible first | exact HB.out | apply below_alloc | apply pw_below_drewN | apply below_drew1 | refine below_set ?_ GE405.out) | exact HB.out))) (fun k_ h_ => h_)) (below_size (by repeat (first | (with_reducible first | exact HB.out | apply below_alloc | apply pw_below_drewN | apply below_drew1 | refine below_set ?_ GE405.out) | exact HB.out))))
        have n2_ := Aside0.mk (blk_below (g := gb405) (o := .cells #[.int .i64 a0_0, .slice A0_1 l0_1.length c0_1, .slice (some ad406) l0_2.length c0_2, .slice A0_3 l0_3.length c0_3] 46 (0, 0)) (BW BK405) hb)
        have n3_ := Aside0.mk (below_step (by repeat (first | (with_reducible first | exact HB.out | apply below_alloc | apply pw_below_drewN | apply below_drew1 | refine below_set ?_ GE405.out) | exact HB.out)) hb)
        have z_HO419 := fun (h0_ : b 13 = true) (h1_ : b 21 = false) => (show Kd.R (Kd.int .i64) 3 w13 w.heap.size (fun k_ => (w.heap.size ≤ k_)) v418 y417 from by first | exact (Kd.R_elder' (by (with_reducible repeat (first | apply Kd.R_alloc | apply Kd.R_drewN | apply Kd.R_drew)); exact (Q_HO419 h0_ h1_)) (Kd.R_base ho14) hb) | exact Kd.R_mono (Kd.R_elder' (by (with_reducible repeat (first | apply Kd.R_alloc | apply Kd.R_drewN | apply Kd.R_drew)); exact (Q_HO419 h0_ h1_)) (Kd.R_base ho14) hb) (fun _ h_ => by first | trivial | exact h_ | exact h_.1))
        have z_HO424 := fun (h0_ : b 20 = true) (h1_ : b 21 = false) => (show Kd.R (Kd.int .i64) 3 w13 w.heap.size (fun k_ => (w.heap.size ≤ k_)) v423 y422 from by first | exact (Kd.R_elder' (by (with_reducible repeat (first | apply Kd.R_alloc | apply Kd.R_drewN | apply Kd.R_drew)); exact (Q_HO424 h0_ h1_)) (Kd.R_base ho14) hb) | exact Kd.R_mono (Kd.R_elder' (by (with_reducible repeat (first | apply Kd.R_alloc | apply Kd.R_drewN | apply Kd.R_drew)); exact (Q_HO424 h0_ h1_)) (Kd.R_base ho14) hb) (fun _ h_ => by first | trivial | exact h_ | exact h_.1))
        clear HO409
        clear BK405
        clear HB
        have HO409 := n0_
        have HO414 := n1_
        have BK405 := n2_
        have HB := n3_
        clear n0_ n1_ n2_ n3_
        clear hb ho14
        refine hK.out _ _ ⟨v413, v418, v423, v426, (by rw [ha.out]; exact putSel_upk 4 hb_ rfl rfl rfl), (by (with_reducible repeat (first | apply Kd.N_alloc | apply Kd.N_drewN | apply Kd.N_drew)); exact Kd.N_mono HO409.out (fun _ hk => by first | exact ⟨hk.1.1, ⟨hk.2, hk.1.2⟩⟩ | exact hk.1 | exact hk)), (BW BK405), (by repeat (first | (with_reducible first | exact HB.out | apply below_alloc | apply pw_below_drewN | apply below_drew1 | refine below_set ?_ GE405.out) | exact HB.out)), fun _ _ => (by (with_reducible repeat (first | apply Kd.R_alloc | apply Kd.R_drewN | apply Kd.R_drew)); exact Kd.R_mono HO414.out (fun _ hk => hk.1)), z_HO419, z_HO424, fun h0_ => absurd ((hoff 21 (by kernel_rfl)).symm.trans h0_) (by decide)⟩
       refine steps_cons ?_ ?_
       ·rintro b a w' ⟨v413, v418, v423, v426, ha, Q_HO409, Q_BK405, Q_HB, Q_HO414, Q_HO419, Q_HO424, Q_HO427⟩ hb_ hon hoff
        refine ⟨_, rfl, fun K hK => ?_⟩
        have e22 : a.tmps[22]? = some (.slice (some ad410) (rd_L1 l0_2 a1).length c406_0) := by rw [ha]; exact (putSel_off rfl).trans rfl
        replace ha := Aside0.mk ha
        have HO409 := Aside0.mk Q_HO409
        have BK405 := Aside0.mk Q_BK405
        have HB := Aside0.mk Q_HB
        have hs2_ : w'.cell? ad410 = some (.int .i64 (rd (rd_L1 l0_2 a1) 0)) := ((HB.out.cell (World.block_lt_of_cell? w _ hw415_0)).trans hw415_0)
        refine value_ (w1 := w') (v := .pointer (some ad410)) (by rfl) rfl ?_ ?_
        ·exact PG
        refine hK.out _ _ ⟨v413, v418, v423, v426, (by rw [ha.out]; exact putSel_upk 5 hb_ rfl rfl rfl), Q_HO409, Q_BK405, Q_HB, Q_HO414, fun h0_ _ => absurd ((hoff 13 (by kernel_rfl)).symm.trans h0_) (by decide), Q_HO424, fun h0_ => absurd ((hoff 21 (by kernel_rfl)).symm.trans h0_) (by decide)⟩
       refine steps_cons ?_ ?_
       ·rintro b a w' ⟨v413, v418, v423, v426, ha, Q_HO409, Q_BK405, Q_HB, Q_HO414, Q_HO419, Q_HO424, Q_HO427⟩ hb_ hon hoff
        refine ⟨_, rfl, fun K hK => ?_⟩
        have e23 : a.tmps[23]? = some (.pointer (some ad410)) := by rw [ha]; exact putSel_on (e := (8, 23, .pointer (some ad410))) 5 rfl rfl (hon 8 (by kernel_rfl)) rfl
        replace ha := Aside0.mk ha
        have HO409 := Aside0.mk Q_HO409
        have BK405 := Aside0.mk Q_BK405
        have HB := Aside0.mk Q_HB
        have hs2_ : w'.cell? ad410 = some (.int .i64 (rd (rd_L1 l0_2 a1) 0)) := ((HB.out.cell (World.block_lt_of_cell? w _ hw415_0)).trans hw415_0)
        refine value_ (w1 := w') (v := .int .i64 (rd (rd_L1 l0_2 a1) 0)) (by rfl) rfl ?_ ?_
        ·exact PG
        refine hK.out _ _ ⟨v413, v418, v423, v426, (by rw [ha.out]; exact putSel_upk 6 hb_ rfl rfl rfl), Q_HO409, Q_BK405, Q_HB, Q_HO414, fun h0_ _ => absurd ((hoff 13 (by kernel_rfl)).symm.trans h0_) (by decide), Q_HO424, fun h0_ => absurd ((hoff 21 (by kernel_rfl)).symm.trans h0_) (by decide)⟩
       refine steps_cons ?_ ?_
       ·rintro b a w' ⟨v413, v418, v423, v426, ha, Q_HO409, Q_BK405, Q_HB, Q_HO414, Q_HO419, Q_HO424, Q_HO427⟩ hb_ hon hoff
        refine ⟨_, rfl, fun K hK => ?_⟩
        have e25 : a.tmps[25]? = some (.slice (some ad410) (rd_L1 l0_2 a1).length c406_0) := by rw [ha]; exact (putSel_off rfl).trans rfl
        replace ha := Aside0.mk ha
        have HO409 := Aside0.mk Q_HO409
        have BK405 := Aside0.mk Q_BK405
        have HB := Aside0.mk Q_HB
        have hs3_ : w'.cell? ⟨ad410.block, ad410.off + 2, none⟩ = some (.int .i64 (rd (rd_L1 l0_2 a1) 2)) := ((HB.out.cell (World.block_lt_of_cell? w _ hw416_0)).trans hw416_0)
        refine value_ (w1 := w') (v := .pointer (some (ad410.add 2))) (by rfl) rfl ?_ ?_
        ·exact PG
        refine hK.out _ _ ⟨v413, v418, v423, v426, (by rw [ha.out]; exact putSel_upk 7 hb_ rfl rfl rfl), Q_HO409, Q_BK405, Q_HB, Q_HO414, fun h0_ _ => absurd ((hoff 13 (by kernel_rfl)).symm.trans h0_) (by decide), Q_HO424, fun h0_ => absurd ((hoff 21 (by kernel_rfl)).symm.trans h0_) (by decide)⟩
       refine steps_cons ?_ ?_
       ·rintro b a w' ⟨v413, v418, v423, v426, ha, Q_HO409, Q_BK405, Q_HB, Q_HO414, Q_HO419, Q_HO424, Q_HO427⟩ hb_ hon hoff
        refine ⟨_, rfl, fun K hK => ?_⟩
        have e26 : a.tmps[26]? = some (.pointer (some (ad410.add 2))) := by rw [ha]; exact putSel_on (e := (11, 26, .pointer (some (ad410.add 2)))) 7 rfl rfl (hon 11 (by kernel_rfl)) rfl
        replace ha := Aside0.mk ha
        have HO409 := Aside0.mk Q_HO409
        have BK405 := Aside0.mk Q_BK405
        have HB := Aside0.mk Q_HB
        have hs3_ : w'.cell? ⟨ad410.block, ad410.off + 2, none⟩ = some (.int .i64 (rd (rd_L1 l0_2 a1) 2)) := ((HB.out.cell (World.block_lt_of_cell? w _ hw416_0)).trans hw416_0)
        refine value_ (w1 := w') (v := .int .i64 (rd (rd_L1 l0_2 a1) 2)) (by rfl) rfl ?_ ?_
        ·exact PG
        refine hK.out _ _ ⟨v413, v418, v423, v426, (by rw [ha.out]; exact putSel_upk 8 hb_ rfl rfl rfl), Q_HO409, Q_BK405, Q_HB, Q_HO414, fun h0_ _ => absurd ((hoff 13 (by kernel_rfl)).symm.trans h0_) (by decide), Q_HO424, fun h0_ => absurd ((hoff 21 (by kernel_rfl)).symm.trans h0_) (by decide)⟩
       refine steps_cons ?_ ?_
       ·rintro b a w' ⟨v413, v418, v423, v426, ha, Q_HO409, Q_BK405, Q_HB, Q_HO414, Q_HO419, Q_HO424, Q_HO427⟩ hb_ hon hoff
        refine ⟨_, rfl, fun K hK => ?_⟩
        have e24 : a.tmps[24]? = some (.int .i64 (rd (rd_L1 l0_2 a1) 0)) := by rw [ha]; exact putSel_on (e := (9, 24, .int .i64 (rd (rd_L1 l0_2 a1) 0))) 6 rfl rfl (hon 9 (by kernel_rfl)) rfl
        have e27 : a.tmps[27]? = some (.int .i64 (rd (rd_L1 l0_2 a1) 2)) := by rw [ha]; exact putSel_on (e := (12, 27, .int .i64 (rd (rd_L1 l0_2 a1) 2))) 8 rfl rfl (hon 12 (by kernel_rfl)) rfl
        replace ha := Aside0.mk ha
        have HO409 := Aside0.mk Q_HO409
        have BK405 := Aside0.mk Q_BK405
        have HB := Aside0.mk Q_HB
        refine Kd.R_lit_step (Kd.int .i64) _ 3 ?hg (N := 28) ?hd (xs := ([rd (rd_L1 l0_2 a1) 0, rd (rd_L1 l0_2 a1) 2] : List Int)) (inner := [.int .i64 (rd (rd_L1 l0_2 a1) 0), .int .i64 (rd (rd_L1 l0_2 a1) 2)]) (ok := fun _ => True) (okp := fun _ => True) ?hr ?hp (fun _ hk => hk) trivial (Below.refl _ _) (Nat.le_refl _) (by simp) ?_; (case hd => rfl); (case hg => rfl); (case hr => exact GS); (case hp => exact (Reps.one (show Kd.M (Kd.int .i64) _ _ _ (rd (rd_L1 l0_2 a1) 0) [.int .i64 (rd (rd_L1 l0_2 a1) 0)] from rfl) (Reps.one (show Kd.M (Kd.int .i64) _ _ _ (rd (rd_L1 l0_2 a1) 2) [.int .i64 (rd (rd_L1 l0_2 a1) 2)] from rfl) (Reps.none _ _))))
        intro v418 w13 ho14 hb hg_ hnew_
        clear hg_ hnew_
        (first | rw [← Ny417.out] at ho14 | (simp only [Int.reduceToNat] at ho14; rw [← Ny417.out] at ho14))
        have n0_ := Aside0.mk (Kd.N_elder' (KN HO409) (Kd.R_base ho14) hb)
        have n1_ := Aside0.mk (Kd.R_lower (Kd.R_newM (M := fun k_ => (w.heap.size ≤ k_)) ho14 (below_size (by repeat (first | (with_reducible first | exact HB.out | apply below_alloc | apply pw_below_drewN | apply below_drew1 | refine below_set ?_ GE405.out) | exact HB.out))) (fun k_ h_ => h_)) (below_size (by repeat (first | (with_reducible first | exact HB.out | apply below_alloc | apply pw_below_drewN | apply below_drew1 | refine below_set ?_ GE405.out) | exact HB.out))))
        have n2_ := Aside0.mk (blk_below (g := gb405) (o := .cells #[.int .i64 a0_0, .slice A0_1 l0_1.length c0_1, .slice (some ad406) l0_2.length c0_2, .slice A0_3 l0_3.length c0_3] 46 (0, 0)) (BW BK405) hb)
        have n3_ := Aside0.mk (below_step (by repeat (first | (with_reducible first | exact HB.out | apply below_alloc | apply pw_below_drewN | apply below_drew1 | refine below_set ?_ GE405.out) | exact HB.out)) hb)
        have z_HO414 := fun (h0_ : b 6 = true) (h1_ : b 21 = false) => (show Kd.R (Kd.int .i64) 3 w13 w.heap.size (fun k_ => (w.heap.size ≤ k_)) v413 y412 from by first | exact (Kd.R_elder' (by (with_reducible repeat (first | apply Kd.R_alloc | apply Kd.R_drewN | apply Kd.R_drew)); exact (Q_HO414 h0_ h1_)) (Kd.R_base ho14) hb) | exact Kd.R_mono (Kd.R_elder' (by (with_reducible repeat (first | apply Kd.R_alloc | apply Kd.R_drewN | apply Kd.R_drew)); exact (Q_HO414 h0_ h1_)) (Kd.R_base ho14) hb) (fun _ h_ => by first | trivial | exact h_ | exact h_.1))
        have z_HO424 := fun (h0_ : b 20 = true) (h1_ : b 21 = false) => (show Kd.R (Kd.int .i64) 3 w13 w.heap.size (fun k_ => (w.heap.size ≤ k_)) v423 y422 from by first | exact (Kd.R_elder' (by (with_reducible repeat (first | apply Kd.R_alloc | apply Kd.R_drewN | apply Kd.R_drew)); exact (Q_HO424 h0_ h1_)) (Kd.R_base ho14) hb) | exact Kd.R_mono (Kd.R_elder' (by (with_reducible repeat (first | apply Kd.R_alloc | apply Kd.R_drewN | apply Kd.R_drew)); exact (Q_HO424 h0_ h1_)) (Kd.R_base ho14) hb) (fun _ h_ => by first | trivial | exact h_ | exact h_.1))
        clear HO409
        clear BK405
        clear HB
        have HO409 := n0_
        have HO419 := n1_
        have BK405 := n2_
        have HB := n3_
        clear n0_ n1_ n2_ n3_
        clear hb ho14
        refine hK.out _ _ ⟨v413, v418, v423, v426, (by rw [ha.out]; exact putSel_upk 9 hb_ rfl rfl rfl), (by (with_reducible repeat (first | apply Kd.N_alloc | apply Kd.N_drewN | apply Kd.N_drew)); exact Kd.N_mono HO409.out (fun _ hk => by first | exact ⟨hk.1.1, ⟨hk.2, hk.1.2⟩⟩ | exact hk.1 | exact hk)), (BW BK405), (by repeat (first | (with_reducible first | exact HB.out | apply below_alloc | apply pw_below_drewN | apply below_drew1 | refine below_set ?_ GE405.out) | exact HB.out)), z_HO414, fun _ _ => (by (with_reducible repeat (first | apply Kd.R_alloc | apply Kd.R_drewN | apply Kd.R_drew)); exact Kd.R_mono HO419.out (fun _ hk => hk.1)), z_HO424, fun h0_ => absurd ((hoff 21 (by kernel_rfl)).symm.trans h0_) (by decide)⟩
       refine steps_cons ?_ ?_
       ·rintro b a w' ⟨v413, v418, v423, v426, ha, Q_HO409, Q_BK405, Q_HB, Q_HO414, Q_HO419, Q_HO424, Q_HO427⟩ hb_ hon hoff
        refine ⟨_, rfl, fun K hK => ?_⟩
        have e29 : a.tmps[29]? = some (.slice (some ad410) (rd_L1 l0_2 a1).length c406_0) := by rw [ha]; exact (putSel_off rfl).trans rfl
        replace ha := Aside0.mk ha
        have HO409 := Aside0.mk Q_HO409
        have BK405 := Aside0.mk Q_BK405
        have HB := Aside0.mk Q_HB
        have hs4_ : w'.cell? ⟨ad410.block, ad410.off + 1, none⟩ = some (.int .i64 (rd (rd_L1 l0_2 a1) 1)) := ((HB.out.cell (World.block_lt_of_cell? w _ hw420_0)).trans hw420_0)
        refine value_ (w1 := w') (v := .pointer (some (ad410.add 1))) (by rfl) rfl ?_ ?_
        ·exact PG
        refine hK.out _ _ ⟨v413, v418, v423, v426, (by rw [ha.out]; exact putSel_upk 10 hb_ rfl rfl rfl), Q_HO409, Q_BK405, Q_HB, Q_HO414, Q_HO419, fun h0_ _ => absurd ((hoff 20 (by kernel_rfl)).symm.trans h0_) (by decide), fun h0_ => absurd ((hoff 21 (by kernel_rfl)).symm.trans h0_) (by decide)⟩
       refine steps_cons ?_ ?_
       ·rintro b a w' ⟨v413, v418, v423, v426, ha, Q_HO409, Q_BK405, Q_HB, Q_HO414, Q_HO419, Q_HO424, Q_HO427⟩ hb_ hon hoff
        refine ⟨_, rfl, fun K hK => ?_⟩
        have e30 : a.tmps[30]? = some (.pointer (some (ad410.add 1))) := by rw [ha]; exact putSel_on (e := (15, 30, .pointer (some (ad410.add 1)))) 10 rfl rfl (hon 15 (by kernel_rfl)) rfl
        replace ha := Aside0.mk ha
        have HO409 := Aside0.mk Q_HO409
        have BK405 := Aside0.mk Q_BK405
        have HB := Aside0.mk Q_HB
        have hs4_ : w'.cell? ⟨ad410.block, ad410.off + 1, none⟩ = some (.int .i64 (rd (rd_L1 l0_2 a1) 1)) := ((HB.out.cell (World.block_lt_of_cell? w _ hw420_0)).trans hw420_0)
        refine value_ (w1 := w') (v := .int .i64 (rd (rd_L1 l0_2 a1) 1)) (by rfl) rfl ?_ ?_
        ·exact PG
        refine hK.out _ _ ⟨v413, v418, v423, v426, (by rw [ha.out]; exact putSel_upk 11 hb_ rfl rfl rfl), Q_HO409, Q_BK405, Q_HB, Q_HO414, Q_HO419, fun h0_ _ => absurd ((hoff 20 (by kernel_rfl)).symm.trans h0_) (by decide), fun h0_ => absurd ((hoff 21 (by kernel_rfl)).symm.trans h0_) (by decide)⟩
       refine steps_cons ?_ ?_
       ·rintro b a w' ⟨v413, v418, v423, v426, ha, Q_HO409, Q_BK405, Q_HB, Q_HO414, Q_HO419, Q_HO424, Q_HO427⟩ hb_ hon hoff
        refine ⟨_, rfl, fun K hK => ?_⟩
        have e32 : a.tmps[32]? = some (.slice (some ad410) (rd_L1 l0_2 a1).length c406_0) := by rw [ha]; exact (putSel_off rfl).trans rfl
        replace ha := Aside0.mk ha
        have HO409 := Aside0.mk Q_HO409
        have BK405 := Aside0.mk Q_BK405
        have HB := Aside0.mk Q_HB
        have hs5_ : w'.cell? ⟨ad410.block, ad410.off + 2, none⟩ = some (.int .i64 (rd (rd_L1 l0_2 a1) 2)) := ((HB.out.cell (World.block_lt_of_cell? w _ hw421_0)).trans hw421_0)
        refine value_ (w1 := w') (v := .pointer (some (ad410.add 2))) (by rfl) rfl ?_ ?_
        ·exact PG
        refine hK.out _ _ ⟨v413, v418, v423, v426, (by rw [ha.out]; exact putSel_upk 12 hb_ rfl rfl rfl), Q_HO409, Q_BK405, Q_HB, Q_HO414, Q_HO419, fun h0_ _ => absurd ((hoff 20 (by kernel_rfl)).symm.trans h0_) (by decide), fun h0_ => absurd ((hoff 21 (by kernel_rfl)).symm.trans h0_) (by decide)⟩
       refine steps_cons ?_ ?_
       ·rintro b a w' ⟨v413, v418, v423, v426, ha, Q_HO409, Q_BK405, Q_HB, Q_HO414, Q_HO419, Q_HO424, Q_HO427⟩ hb_ hon hoff
        refine ⟨_, rfl, fun K hK => ?_⟩
        have e33 : a.tmps[33]? = some (.pointer (some (ad410.add 2))) := by rw [ha]; exact putSel_on (e := (18, 33, .pointer (some (ad410.add 2)))) 12 rfl rfl (hon 18 (by kernel_rfl)) rfl
        replace ha := Aside0.mk ha
        have HO409 := Aside0.mk Q_HO409
        have BK405 := Aside0.mk Q_BK405
        have HB := Aside0.mk Q_HB
        have hs5_ : w'.cell? ⟨ad410.block, ad410.off + 2, none⟩ = some (.int .i64 (rd (rd_L1 l0_2 a1) 2)) := ((HB.out.cell (World.block_lt_of_cell? w _ hw421_0)).trans hw421_0)
        refine value_ (w1 := w') (v := .int .i64 (rd (rd_L1 l0_2 a1) 2)) (by rfl) rfl ?_ ?_
        ·exact PG
        refine hK.out _ _ ⟨v413, v418, v423, v426, (by rw [ha.out]; exact putSel_upk 13 hb_ rfl rfl rfl), Q_HO409, Q_BK405, Q_HB, Q_HO414, Q_HO419, fun h0_ _ => absurd ((hoff 20 (by kernel_rfl)).symm.trans h0_) (by decide), fun h0_ => absurd ((hoff 21 (by kernel_rfl)).symm.trans h0_) (by decide)⟩
       refine steps_cons ?_ ?_
       ·rintro b a w' ⟨v413, v418, v423, v426, ha, Q_HO409, Q_BK405, Q_HB, Q_HO414, Q_HO419, Q_HO424, Q_HO427⟩ hb_ hon hoff
        refine ⟨_, rfl, fun K hK => ?_⟩
        have e31 : a.tmps[31]? = some (.int .i64 (rd (rd_L1 l0_2 a1) 1)) := by rw [ha]; exact putSel_on (e := (16, 31, .int .i64 (rd (rd_L1 l0_2 a1) 1))) 11 rfl rfl (hon 16 (by kernel_rfl)) rfl
        have e34 : a.tmps[34]? = some (.int .i64 (rd (rd_L1 l0_2 a1) 2)) := by rw [ha]; exact putSel_on (e := (19, 34, .int .i64 (rd (rd_L1 l0_2 a1) 2))) 13 rfl rfl (hon 19 (by kernel_rfl)) rfl
        replace ha := Aside0.mk ha
        have HO409 := Aside0.mk Q_HO409
        have BK405 := Aside0.mk Q_BK405
        have HB := Aside0.mk Q_HB
        refine Kd.R_lit_step (Kd.int .i64) _ 3 ?hg (N := 35) ?hd (xs := ([rd (rd_L1 l0_2 a1) 1, rd (rd_L1 l0_2 a1) 2] : List Int)) (inner := [.int .i64 (rd (rd_L1 l0_2 a1) 1), .int .i64 (rd (rd_L1 l0_2 a1) 2)]) (ok := fun _ => True) (okp := fun _ => True) ?hr ?hp (fun _ hk => hk) trivial (Below.refl _ _) (Nat.le_refl _) (by simp) ?_; (case hd => rfl); (case hg => rfl); (case hr => exact GS); (case hp => exact (Reps.one (show Kd.M (Kd.int .i64) _ _ _ (rd (rd_L1 l0_2 a1) 1) [.int .i64 (rd (rd_L1 l0_2 a1) 1)] from rfl) (Reps.one (show Kd.M (Kd.int .i64) _ _ _ (rd (rd_L1 l0_2 a1) 2) [.int .i64 (rd (rd_L1 l0_2 a1) 2)] from rfl) (Reps.none _ _))))
        intro v423 w13 ho14 hb hg_ hnew_
        clear hg_ hnew_
        (first | rw [← Ny422.out] at ho14 | (simp only [Int.reduceToNat] at ho14; rw [← Ny422.out] at ho14))
        have n0_ := Aside0.mk (Kd.N_elder' (KN HO409) (Kd.R_base ho14) hb)
        have n1_ := Aside0.mk (Kd.R_lower (Kd.R_newM (M := fun k_ => (w.heap.size ≤ k_)) ho14 (below_size (by repeat (first | (with_reducible first | exact HB.out | apply below_alloc | apply pw_below_drewN | apply below_drew1 | refine below_set ?_ GE405.out) | exact HB.out))) (fun k_ h_ => h_)) (below_size (by repeat (first | (with_reducible first | exact HB.out | apply below_alloc | apply pw_below_drewN | apply below_drew1 | refine below_set ?_ GE405.out) | exact HB.out))))
        have n2_ := Aside0.mk (blk_below (g := gb405) (o := .cells #[.int .i64 a0_0, .slice A0_1 l0_1.length c0_1, .slice (some ad406) l0_2.length c0_2, .slice A0_3 l0_3.length c0_3] 46 (0, 0)) (BW BK405) hb)
        have n3_ := Aside0.mk (below_step (by repeat (first | (with_reducible first | exact HB.out | apply below_alloc | apply pw_below_drewN | apply below_drew1 | refine below_set ?_ GE405.out) | exact HB.out)) hb)
        have z_HO414 := fun (h0_ : b 6 = true) (h1_ : b 21 = false) => (show Kd.R (Kd.int .i64) 3 w13 w.heap.size (fun k_ => (w.heap.size ≤ k_)) v413 y412 from by first | exact (Kd.R_elder' (by (with_reducible repeat (first | apply Kd.R_alloc | apply Kd.R_drewN | apply Kd.R_drew)); exact (Q_HO414 h0_ h1_)) (Kd.R_base ho14) hb) | exact Kd.R_mono (Kd.R_elder' (by (with_reducible repeat (first | apply Kd.R_alloc | apply Kd.R_drewN | apply Kd.R_drew)); exact (Q_HO414 h0_ h1_)) (Kd.R_base ho14) hb) (fun _ h_ => by first | trivial | exact h_ | exact h_.1))
        have z_HO419 := fun (h0_ : b 13 = true) (h1_ : b 21 = false) => (show Kd.R (Kd.int .i64) 3 w13 w.heap.size (fun k_ => (w.heap.size ≤ k_)) v418 y417 from by first | exact (Kd.R_elder' (by (with_reducible repeat (first | apply Kd.R_alloc | apply Kd.R_drewN | apply Kd.R_drew)); exact (Q_HO419 h0_ h1_)) (Kd.R_base ho14) hb) | exact Kd.R_mono (Kd.R_elder' (by (with_reducible repeat (first | apply Kd.R_alloc | apply Kd.R_drewN | apply Kd.R_drew)); exact (Q_HO419 h0_ h1_)) (Kd.R_base ho14) hb) (fun _ h_ => by first | trivial | exact h_ | exact h_.1))
        clear HO409
        clear BK405
        clear HB
        have HO409 := n0_
        have HO424 := n1_
        have BK405 := n2_
        have HB := n3_
        clear n0_ n1_ n2_ n3_
        clear hb ho14
        refine hK.out _ _ ⟨v413, v418, v423, v426, (by rw [ha.out]; exact putSel_upk 14 hb_ rfl rfl rfl), (by (with_reducible repeat (first | apply Kd.N_alloc | apply Kd.N_drewN | apply Kd.N_drew)); exact Kd.N_mono HO409.out (fun _ hk => by first | exact ⟨hk.1.1, ⟨hk.2, hk.1.2⟩⟩ | exact hk.1 | exact hk)), (BW BK405), (by repeat (first | (with_reducible first | exact HB.out | apply below_alloc | apply pw_below_drewN | apply below_drew1 | refine below_set ?_ GE405.out) | exact HB.out)), z_HO414, z_HO419, fun _ _ => (by (with_reducible repeat (first | apply Kd.R_alloc | apply Kd.R_drewN | apply Kd.R_drew)); exact Kd.R_mono HO424.out (fun _ hk => hk.1)), fun h0_ => absurd ((hoff 21 (by kernel_rfl)).symm.trans h0_) (by decide)⟩
       refine steps_cons ?_ ?_
       ·rintro b a w' ⟨v413, v418, v423, v426, ha, Q_HO409, Q_BK405, Q_HB, Q_HO414, Q_HO419, Q_HO424, Q_HO427⟩ hb_ hon hoff
        refine ⟨_, rfl, fun K hK => ?_⟩
        have e21 : a.tmps[21]? = some (v413) := by rw [ha]; exact putSel_on (e := (6, 21, v413)) 4 rfl rfl (hon 6 (by kernel_rfl)) rfl
        have e28 : a.tmps[28]? = some (v418) := by rw [ha]; exact putSel_on (e := (13, 28, v418)) 9 rfl rfl (hon 13 (by kernel_rfl)) rfl
        have e35 : a.tmps[35]? = some (v423) := by rw [ha]; exact putSel_on (e := (20, 35, v423)) 14 rfl rfl (hon 20 (by kernel_rfl)) rfl
        replace ha := Aside0.mk ha
        have HO409 := Aside0.mk Q_HO409
        have BK405 := Aside0.mk Q_BK405
        have HB := Aside0.mk Q_HB
        have HO414 := Aside0.mk (Q_HO414 (hon 6 (by kernel_rfl)) hb_)
        have HO419 := Aside0.mk (Q_HO419 (hon 13 (by kernel_rfl)) hb_)
        have HO424 := Aside0.mk (Q_HO424 (hon 20 (by kernel_rfl)) hb_)
        obtain ⟨Ao20, co20, eo20⟩ := Kd.R_slice HO414.out
        (first | subst eo20 | (injection eo20 with f1_ f2_ f3_; have f4_ := f1_.symm; have f5_ := f3_.symm; clear f1_ f2_ f3_; subst f4_; subst f5_))
        obtain ⟨Ao21, co21, eo21⟩ := Kd.R_slice HO419.out
        (first | subst eo21 | (injection eo21 with f1_ f2_ f3_; have f4_ := f1_.symm; have f5_ := f3_.symm; clear f1_ f2_ f3_; subst f4_; subst f5_))
        obtain ⟨Ao22, co22, eo22⟩ := Kd.R_slice HO424.out
        (first | subst eo22 | (injection eo22 with f1_ f2_ f3_; have f4_ := f1_.symm; have f5_ := f3_.symm; clear f1_ f2_ f3_; subst f4_; subst f5_))
        refine Kd.N_lit_step (Kd.slice 3 (Kd.int .i64)) _ 22 ?hg (N' := 36) ?hd (xs := ([y412, y417, y422] : List (List Int))) (inner := [.slice Ao20 y412.length co20, .slice Ao21 y417.length co21, .slice Ao22 y422.length co22]) (ok := (fun k_ => (w.heap.size ≤ k_) ∧ some k_ ≠ (v408 : Value).ownBlock ∧ k_ ≠ gb405)) (okp := (fun k_ => (w.heap.size ≤ k_) ∧ some k_ ≠ (v408 : Value).ownBlock ∧ k_ ≠ gb405)) ?hr ?hp (fun _ hk => hk) ((show ∀ k_, w'.heap.size ≤ k_ → (fun k_ => (w.heap.size ≤ k_) ∧ some k_ ≠ (v408 : Value).ownBlock ∧ k_ ≠ gb405) k_ from fun k_ hk => ⟨(Nat.le_trans (below_size (by repeat (first | (with_reducible first | exact HB.out | apply below_alloc | apply pw_below_drewN | apply below_drew1 | refine below_set ?_ GE405.out) | exact HB.out))) hk), Kd.fresh' (Kd.N_lt (KN HO409)) k_ hk, Kd.freshB (g := gb405) (o := .cells #[.int .i64 a0_0, .slice A0_1 l0_1.length c0_1, .slice (some ad406) l0_2.length c0_2, .slice A0_3 l0_3.length c0_3] 46 (0, 0)) (BW BK405) k_ hk⟩) _ (Nat.le_refl _)) (Below.refl _ _) (Nat.le_refl _) (by simp) ?_; (case hd => rfl); (case hg => rfl); (case hr => exact GS); (case hp => exact (Reps.one (show Kd.FK (Kd.slice 3 (Kd.int .i64)) _ _ y412 [.slice Ao20 y412.length co20] from (Kd.FK_slice_mk (Kd.R_reads' (Kd.R_mono (ok' := (fun k_ => (w.heap.size ≤ k_) ∧ some k_ ≠ (v408 : Value).ownBlock ∧ k_ ≠ gb405)) (Kd.R_types (Kd.R_apart' (HO414.out) (Kd.N_typed HO409.out) (by decide)) BK405.out (by decide)) (fun k_ hk => by first | exact ⟨hk.1.1.1, ⟨hk.1.2, hk.2⟩⟩ | exact ⟨hk.1.1, ⟨hk.1.2, hk.2⟩⟩))).2.1 (Kd.R_F (Kd.R_mono (ok' := (fun k_ => (w.heap.size ≤ k_) ∧ some k_ ≠ (v408 : Value).ownBlock ∧ k_ ≠ gb405)) (Kd.R_types (Kd.R_apart' (HO414.out) (Kd.N_typed HO409.out) (by decide)) BK405.out (by decide)) (fun k_ hk => by first | exact ⟨hk.1.1.1, ⟨hk.1.2, hk.2⟩⟩ | exact ⟨hk.1.1, ⟨hk.1.2, hk.2⟩⟩))))) (Reps.one (show Kd.FK (Kd.slice 3 (Kd.int .i64)) _ _ y417 [.slice Ao21 y417.length co21] from (Kd.FK_slice_mk (Kd.R_reads' (Kd.R_mono (ok' := (fun k_ => (w.heap.size ≤ k_) ∧ some k_ ≠ (v408 : Value).ownBlock ∧ k_ ≠ gb405)) (Kd.R_types (Kd.R_apart' (HO419.out) (Kd.N_typed HO409.out) (by decide)) BK405.out (by decide)) (fun k_ hk => by first | exact ⟨hk.1.1.1, ⟨hk.1.2, hk.2⟩⟩ | exact ⟨hk.1.1, ⟨hk.1.2, hk.2⟩⟩))).2.1 (Kd.R_F (Kd.R_mono (ok' := (fun k_ => (w.heap.size ≤ k_) ∧ some k_ ≠ (v408 : Value).ownBlock ∧ k_ ≠ gb405)) (Kd.R_types (Kd.R_apart' (HO419.out) (Kd.N_typed HO409.out) (by decide)) BK405.out (by decide)) (fun k_ hk => by first | exact ⟨hk.1.1.1, ⟨hk.1.2, hk.2⟩⟩ | exact ⟨hk.1.1, ⟨hk.1.2, hk.2⟩⟩))))) (Reps.one (show Kd.FK (Kd.slice 3 (Kd.int .i64)) _ _ y422 [.slice Ao22 y422.length co22] from (Kd.FK_slice_mk (Kd.R_reads' (Kd.R_mono (ok' := (fun k_ => (w.heap.size ≤ k_) ∧ some k_ ≠ (v408 : Value).ownBlock ∧ k_ ≠ gb405)) (Kd.R_types (Kd.R_apart' (HO424.out) (Kd.N_typed HO409.out) (by decide)) BK405.out (by decide)) (fun k_ hk => by first | exact ⟨hk.1.1.1, ⟨hk.1.2, hk.2⟩⟩ | exact ⟨hk.1.1, ⟨hk.1.2, hk.2⟩⟩))).2.1 (Kd.R_F (Kd.R_mono (ok' := (fun k_ => (w.heap.size ≤ k_) ∧ some k_ ≠ (v408 : Value).ownBlock ∧ k_ ≠ gb405)) (Kd.R_types (Kd.R_apart' (HO424.out) (Kd.N_typed HO409.out) (by decide)) BK405.out (by decide)) (fun k_ hk => by first | exact ⟨hk.1.1.1, ⟨hk.1.2, hk.2⟩⟩ | exact ⟨hk.1.1, ⟨hk.1.2, hk.2⟩⟩))))) (Reps.none _ _)))))
        intro v426 w23 ho24 hb hg_ hnew_
        clear hg_ hnew_
        (first | rw [← Ny425.out] at ho24 | (simp only [Int.reduceToNat] at ho24; rw [← Ny425.out] at ho24))
        have n0_ := Aside0.mk (Kd.N_elder' (KN HO409) (Kd.N_base ho24) hb)
        have n1_ := Aside0.mk (Kd.N_lower ho24 (below_size (by repeat (first | (with_reducible first | exact HB.out | apply below_alloc | apply pw_below_drewN | apply below_drew1 | refine below_set ?_ GE405.out) | exact HB.out))))
        have n2_ := Aside0.mk (blk_below (g := gb405) (o := .cells #[.int .i64 a0_0, .slice A0_1 l0_1.length c0_1, .slice (some ad406) l0_2.length c0_2, .slice A0_3 l0_3.length c0_3] 46 (0, 0)) (BW BK405) hb)
        have n3_ := Aside0.mk (below_step (by repeat (first | (with_reducible first | exact HB.out | apply below_alloc | apply pw_below_drewN | apply below_drew1 | refine below_set ?_ GE405.out) | exact HB.out)) hb)
        clear HO409
        clear BK405
        clear HB
        clear HO414
        clear HO419
        clear HO424
        have HO409 := n0_
        have HO427 := n1_
        have BK405 := n2_
        have HB := n3_
        clear n0_ n1_ n2_ n3_
        clear hb ho24
        obtain ⟨Ao25, co25, eo25⟩ := Kd.N_slice HO427.out
        (first | subst eo25 | (injection eo25 with f1_ f2_ f3_; have f4_ := f1_.symm; have f5_ := f3_.symm; clear f1_ f2_ f3_; subst f4_; subst f5_))
        refine hK.out _ _ ⟨.slice Ao20 y412.length co20, .slice Ao21 y417.length co21, .slice Ao22 y422.length co22, .slice Ao25 y425.length co25, (by rw [ha.out]; exact putSel_upk 15 hb_ rfl rfl rfl), (by (with_reducible repeat (first | apply Kd.N_alloc | apply Kd.N_drewN | apply Kd.N_drew)); exact Kd.N_mono HO409.out (fun _ hk => by first | exact hk.1 | exact hk | exact ⟨hk.1.1, hk.1.2.2.2.2⟩ | exact ⟨hk.1.1, hk.1.2⟩)), (BW BK405), (by repeat (first | (with_reducible first | exact HB.out | apply below_alloc | apply pw_below_drewN | apply below_drew1 | refine below_set ?_ GE405.out) | exact HB.out)), fun _ h1_ => absurd ((up_self b 21).symm.trans h1_) (by decide), fun _ h1_ => absurd ((up_self b 21).symm.trans h1_) (by decide), fun _ h1_ => absurd ((up_self b 21).symm.trans h1_) (by decide), fun _ => (KN HO427)⟩
       refine steps_cons ?_ ?_
       ·rintro b a w' ⟨v413, v418, v423, v426, ha, Q_HO409, Q_BK405, Q_HB, Q_HO414, Q_HO419, Q_HO424, Q_HO427⟩ hb_ hon hoff
        refine ⟨_, rfl, fun K hK => ?_⟩
        have e36 : a.tmps[36]? = some (v426) := by rw [ha]; exact putSel_on (e := (21, 36, v426)) 15 rfl rfl (hon 21 (by kernel_rfl)) rfl
        replace ha := Aside0.mk ha
        have HO409 := Aside0.mk Q_HO409
        have BK405 := Aside0.mk Q_BK405
        have HB := Aside0.mk Q_HB
        have HO427 := Aside0.mk (Q_HO427 (hon 21 (by kernel_rfl)))
        obtain ⟨Ao22_0, co22_0, eo_⟩ := Kd.N_slice HO427.out
        subst eo_
        refine value_ (w1 := w') (v := .int .i64 (y425.length : Int)) (by rfl) rfl ?_ ?_
        ·exact PG
        refine hK.out _ _ ⟨v413, v418, v423, .slice Ao22_0 y425.length co22_0, (by rw [ha.out]; exact putSel_upk 16 hb_ rfl rfl rfl), Q_HO409, Q_BK405, Q_HB, fun _ h1_ => absurd ((hon 21 (by kernel_rfl)).symm.trans h1_) (by decide), fun _ h1_ => absurd ((hon 21 (by kernel_rfl)).symm.trans h1_) (by decide), fun _ h1_ => absurd ((hon 21 (by kernel_rfl)).symm.trans h1_) (by decide), Q_HO427⟩
       exact steps_nil
      rintro b a w25 hall ⟨v413, v418, v423, v426, ha, Q_HO409, Q_BK405, Q_HB, Q_HO414, Q_HO419, Q_HO424, Q_HO427⟩
      clear BK405 HB HO409
      have hb1_ := hall 1 (by kernel_rfl)
      have hb2_ := hall 2 (by kernel_rfl)
      have hb4_ := hall 4 (by kernel_rfl)
      have hb5_ := hall 5 (by kernel_rfl)
      have hb6_ := hall 6 (by kernel_rfl)
      have hb8_ := hall 8 (by kernel_rfl)
      have hb9_ := hall 9 (by kernel_rfl)
      have hb11_ := hall 11 (by kernel_rfl)
      have hb12_ := hall 12 (by kernel_rfl)
      have hb13_ := hall 13 (by kernel_rfl)
      have hb15_ := hall 15 (by kernel_rfl)
      have hb16_ := hall 16 (by kernel_rfl)
      have hb18_ := hall 18 (by kernel_rfl)
      have hb19_ := hall 19 (by kernel_rfl)
      have hb20_ := hall 20 (by kernel_rfl)
      have hb21_ := hall 21 (by kernel_rfl)
      have hb22_ := hall 22 (by kernel_rfl)
      subst ha
      simp only [putSel, hb1_, hb2_, hb4_, hb5_, hb6_, hb8_, hb9_, hb11_, hb12_, hb13_, hb15_, hb16_, hb18_, hb19_, hb20_, hb21_, hb22_, if_true, Act.put, List.setIfInBounds_toArray, List.set_cons_zero, List.set_cons_succ]
      have HO409 := Aside0.mk Q_HO409
      clear Q_HO409
      have BK405 := Aside0.mk Q_BK405
      clear Q_BK405
      have HB := Aside0.mk Q_HB
      clear Q_HB
      clear Q_HO414
      clear Q_HO419
      clear Q_HO424
      have HO427 := Aside0.mk (Q_HO427 hb21_)
      clear Q_HO427
      clear hall hb1_ hb2_ hb4_ hb5_ hb6_ hb8_ hb9_ hb11_ hb12_ hb13_ hb15_ hb16_ hb18_ hb19_ hb20_ hb21_ hb22_
      obtain ⟨Ao26, co26, eo26⟩ := Kd.N_slice HO427.out
      (first | subst eo26 | (injection eo26 with f1_ f2_ f3_; have f4_ := f1_.symm; have f5_ := f3_.symm; clear f1_ f2_ f3_; subst f4_; subst f5_))
      try go_wp2
      go_loopg [6, 38] k (fun kq v6 v38 w' => ∃ (x6_1 : List (List Int)) (x38_1 : Int), v38 = .int .i64 x38_1 ∧ Aside0 (impl_house_doors.l0 kq x6_1 y425 (y425.length : Int) x38_1 a0_0 l0_1 l0_2 l0_3 = some r) ∧ Aside0 (kq ≤ k) ∧ Aside0 (Kd.N (Kd.slice 3 (Kd.int .i64)) 22 w' w.heap.size (fun k_ => (w.heap.size ≤ k_) ∧ some k_ ≠ ((.slice Ao26 y425.length co26) : Value).ownBlock ∧ k_ ≠ gb405) v6 x6_1) ∧ Aside0 (Kd.N (Kd.slice 3 (Kd.int .i64)) 22 w' w.heap.size (fun k_ => (w.heap.size ≤ k_) ∧ some k_ ≠ (v6 : Value).ownBlock ∧ k_ ≠ gb405) (.slice Ao26 y425.length co26) y425) ∧ Aside0 (w'.heap[gb405]? = some (.cells #[.int .i64 a0_0, (.slice A0_1 l0_1.length c0_1), (.slice (some ad406) l0_2.length c0_2), (.slice A0_3 l0_3.length c0_3)] 46 (0, 0))) ∧ Aside0 (Below w.heap.size w w'))
      case atStart => exact ⟨(y407), (0), RF, H', ⟨Nat.le_refl _⟩, ⟨N_empty HO409.out Ny407.out HO427.out (fun _ h_ => h_.2.1) (fun _ h_ z_ => ⟨h_.1, z_, h_.2⟩)⟩, ⟨KN HO427⟩, ⟨by (with_reducible repeat (first | refine blk_drewN ?_ _ | refine blk_drew ?_ | refine blk_alloc ?_ _)); exact BK405.out⟩, ⟨by repeat (first | (with_reducible first | exact HB.out | apply below_alloc | apply pw_below_drewN | apply below_drew1 | refine below_set ?_ GE405.out) | exact HB.out)⟩⟩
      case round =>
       clear H'
       try clear p2
       try clear c3
       try clear c3b0
       try clear c4
       try clear c4b0
       try clear p4
       try clear q4
       try clear hx4
       try clear qi4
       try clear c5
       try clear c5b0
       try clear c5b1
       try clear c6
       try clear c6b0
       try clear c6b1
       try clear p6
       try clear c7
       try clear c7b0
       try clear c7b1
       try clear hcz9_0
       try clear hcz9_1
       try clear hcz9_2
       try clear hcz9_3
       try clear hfz9_0
       try clear hfz9_1
       try clear hfz9_2
       try clear hfz9_3
       try clear hx406_0
       try clear hx410_0
       try clear hx411_0
       try clear hx415_0
       try clear hx416_0
       try clear hx420_0
       try clear hx421_0
       try clear p406
       try clear p410
       try clear p411
       try clear p415
       try clear p416
       try clear p420
       try clear p421
       try clear q406
       try clear q410
       try clear q411
       try clear q415
       try clear q416
       try clear q420
       try clear q421
       obtain ⟨x6_1, x38_1, rfl, HA, HK1, HO_6, HO_36, BK405, HB⟩ := hrel
       cases gk with
       | zero => exact absurd HA.out (by simp [impl_house_doors.l0])
       | succ k1 =>
        have H := HA.out
        clear HA
        simp only [impl_house_doors.l0] at H
        by_cases c27 : x38_1 < (y425.length : Int)
        ·rw [if_pos c27] at H
         have c27b0 : decide (x38_1 < (y425.length : Int)) = true := decide_eq_true c27
         clear c27
         by_cases c28 : 0 ≤ x38_1
         ·rw [if_pos c28] at H
          have c28b0 : decide (0 ≤ x38_1) = true := decide_eq_true c28
          clear c28
          by_cases c29 : x38_1 < (y425.length : Int)
          ·rw [if_pos c29] at H
           have c29b0 : decide (x38_1 < (y425.length : Int)) = true := decide_eq_true c29
           clear c29
           by_cases c30 : 0 < ((rd_L1 y425 x38_1).length : Int)
           ·rw [if_pos c30] at H
            have c30b0 : decide (0 < ((rd_L1 y425 x38_1).length : Int)) = true := decide_eq_true c30
            have c30b1 : decide (0 < (rd_L1 y425 x38_1).length) = true := decide_eq_true (by omega)
            clear c30
            by_cases c31 : 1 < ((rd_L1 y425 x38_1).length : Int)
            ·rw [if_pos c31] at H
             have c31b0 : decide (1 < ((rd_L1 y425 x38_1).length : Int)) = true := decide_eq_true c31
             have c31b1 : decide (1 < (rd_L1 y425 x38_1).length) = true := decide_eq_true (by omega)
             clear c31
             obtain ⟨t431, A320, H⟩ := Option.bind_eq_some_iff.mp H
             have A32 := Aside0.mk A320
             clear A320
             by_cases c33 : t431 = true
             ·subst c33
              replace H := IP H
              by_cases c34 : x6_1.length < 5864062014805
              ·rw [if_pos c34] at H
               have LMc34 := Aside0.mk c34
               clear c34
               obtain ⟨y432, hy432⟩ : ∃ y_ : List (List Int), y_ = (x6_1 ++ [rd_L1 y425 x38_1]) := ⟨_, rfl⟩
               replace H : (impl_house_doors.l0 k1 y432 y425 (y425.length : Int) (wrap64 (x38_1 + 1)) a0_0 l0_1 l0_2 l0_3) = some r := HY H hy432
               have Ny432 := Aside0.mk hy432
               clear hy432
               have H' := Aside0.mk H
               clear H
               have p428 : 0 ≤ (x38_1 : Int) := of_decide_eq_true AS
               have q428 : x38_1 < (y425.length : Int) := of_decide_eq_true AS
               obtain ⟨ad428, A428_0, c428_0, e428, hx428_0, hl428_0, hi428_0⟩ := at_L1 (Kd.N_reads' HO_36.out).2.2 x38_1 p428 q428
               cases e428
               obtain ⟨ce428, hce428, hMe428, hcc428⟩ := Kd.N_get HO_36.out [] x38_1 p428 (by first | exact q428 | exact of_decide_eq_true AS | (have e_ := (Kd.N_reads' HO_36.out).1; omega))
               obtain ⟨ua428_0, uc428_0, rfl, ul428_0, ge428_0⟩ := Kd.FK_slice_open hMe428
               have hv428_0 := hcc428 0 _ rfl
               rw [Nat.add_zero, show ((Kd.slice 3 (Kd.int .i64))).sz = 1 from rfl, Nat.mul_one] at hv428_0
               replace hv428_0 := Option.some.inj (hv428_0.symm.trans hx428_0)
               injection hv428_0 with hva_ hvn_ hvc_
               rw [hva_] at ge428_0
               rw [hvc_] at ul428_0
               have HL428_0 := Aside0.mk (show Kd.V (Kd.int .i64) 3 _ w.heap.size _ _ (rd_L1 y425 x38_1) from Kd.V_mk ul428_0 ge428_0)
               clear hva_ hvn_ hvc_ ge428_0 ul428_0
               clear hcc428 hce428
               have HR428_0 := Aside0.mk hi428_0
               have HC428_0 := Aside0.mk hl428_0
               clear hi428_0 hl428_0
               replace p428 := eq_true p428
               replace q428 := eq_true q428
               try go_wp2
               have n0_ := Aside0.mk (Kd.N_drew HO_6.out)
               have n1_ := Aside0.mk (Kd.N_drew HO_36.out)
               have n2_ := Aside0.mk (Kd.V_drew HL428_0.out)
               have n3_ := Aside0.mk (blk_drew BK405.out)
               have n4_ := Aside0.mk (Kd.C_drew HR428_0.out)
               have n5_ := Aside0.mk (below_drew1 HB.out)
               clear HO_6
               clear HO_36
               clear HL428_0
               clear BK405
               clear HR428_0
               clear HB
               have HO_6 := n0_
               have HO_36 := n1_
               have HL428_0 := n2_
               have BK405 := n3_
               have HR428_0 := n4_
               have HB := n5_
               clear n0_ n1_ n2_ n3_ n4_ n5_
               have p429 : 0 ≤ (0 : Int) := (by omega)
               have q429 : 0 < ((rd_L1 y425 x38_1).length : Int) := of_decide_eq_true AS
               obtain ⟨ad429, e429, hx429_0⟩ := Kd.at_int (by repeat (first | (with_reducible exact HR428_0.out) | (with_reducible refine Kd.C_drewN ?_ _) | (with_reducible refine Kd.C_drew ?_) | (with_reducible refine Kd.C_alloc ?_ _) | exact HR428_0.out)) 0 p429 q429
               cases e429
               have qi429 : (0 < (rd_L1 y425 x38_1).length) = True := eq_true (by omega)
               (try rw [show ((0 : Int)).toNat = 0 from rfl] at hx429_0)
               (try rw [Addr.add_zero'] at hx429_0)
               replace p429 := eq_true p429
               replace q429 := eq_true q429
               have p430 : 0 ≤ (1 : Int) := (by omega)
               have q430 : 1 < ((rd_L1 y425 x38_1).length : Int) := of_decide_eq_true AS
               obtain ⟨ad430, e430, hx430_0⟩ := Kd.at_int (by repeat (first | (with_reducible exact HR428_0.out) | (with_reducible refine Kd.C_drewN ?_ _) | (with_reducible refine Kd.C_drew ?_) | (with_reducible refine Kd.C_alloc ?_ _) | exact HR428_0.out)) 1 p430 q430
               obtain rfl : ad429 = ad430 := (by injection e430)
               (try simp only [show (1 : Int).toNat = 1 from rfl, Nat.reduceMul, Nat.reduceEqDiff, Go.Addr.add, ↓reduceIte] at hx430_0)
               have qi430 : (1 < (rd_L1 y425 x38_1).length) = True := eq_true (by omega)
               (try rw [show ((1 : Int)).toNat = 1 from rfl] at hx430_0)
               replace p430 := eq_true p430
               replace q430 := eq_true q430
               refine start_ (n := 8) (S := fun w' => w'.cell? ⟨gb405, 0, none⟩ = some (.int .i64 a0_0) ∧ w'.cell? ⟨gb405, 1, none⟩ = some (.slice A0_1 l0_1.length c0_1) ∧ w'.cell? ⟨gb405, 2, none⟩ = some (.slice (some ad406) l0_2.length c0_2) ∧ w'.cell? ⟨gb405, 3, none⟩ = some (.slice A0_3 l0_3.length c0_3) ∧ w'.cell? ad429 = some (.int .i64 (rd (rd_L1 y425 x38_1) 0)) ∧ w'.cell? ⟨ad429.block, ad429.off + 1, none⟩ = some (.int .i64 (rd (rd_L1 y425 x38_1) 1))) (ds := []) #[false, false, false, false, false, false, false, false] (by kernel_rfl) rfl rfl ⟨(blk_cell BK405.out 0).trans rfl, (blk_cell BK405.out 1).trans rfl, (blk_cell BK405.out 2).trans rfl, (blk_cell BK405.out 3).trans rfl, hx429_0, hx430_0⟩ (fun hHeld => ?_); refine with_tabW impl_house_doors.tab5 impl_house_doors.bits5 (fun HT_ HW_ => ?_)
               generalize wr.drew = w35 at HO_6 HO_36 HL428_0 BK405 HR428_0 HB hx429_0 hx430_0 hHeld ⊢
               refine pure_ (i := 1) (N := some 43) #[false, true, false, false, false, false, false, false] rfl rfl (any_of HT_.out (by kernel_rfl)) (fun _ _ _ h => h) (Or.inl ⟨by rfl, PW⟩) PU ?_
               refine pure_ (i := 2) (N := some 44) #[false, true, true, false, false, false, false, false] rfl rfl (any_of HT_.out (by kernel_rfl)) (fun _ _ _ h => h) (Or.inl ⟨by rfl, PW⟩) PU ?_
               refine pure_ (i := 4) (N := some 46) #[false, true, true, false, true, false, false, false] rfl rfl (any_of HT_.out (by kernel_rfl)) (fun _ _ _ h => h) (Or.inl ⟨by rfl, PW⟩) PU ?_
               refine pure_ (i := 5) (N := some 47) #[false, true, true, false, true, true, false, false] rfl rfl (any_of HT_.out (by kernel_rfl)) (fun _ _ _ h => h) (Or.inl ⟨by rfl, PW⟩) PU ?_
               refine take_ (i := 0) (N := some 42) #[true, true, true, false, true, true, false, false] rfl rfl (take_ofW HT_.out HW_.out (by kernel_rfl)) (fun _ _ _ h => h) (Or.inl ⟨by rfl, PT⟩) hHeld PU ?_
               refine take_ (i := 3) (N := some 45) #[true, true, true, true, true, true, false, false] rfl rfl (take_ofW HT_.out HW_.out (by kernel_rfl)) (fun _ _ _ h => h) (Or.inl ⟨by rfl, PT⟩) hHeld PU ?_
               refine take_ (i := 6) (N := some 48) #[true, true, true, true, true, true, true, false] rfl rfl (take_ofW HT_.out HW_.out (by kernel_rfl)) (fun _ _ _ h => h) (Or.inl ⟨by rfl, PT⟩) hHeld PU ?_
               refine one_ (i := 7) (N := some 49) #[true, true, true, true, true, true, true, true] rfl rfl (one_of HT_.out (by kernel_rfl)) (by decide) (fun K hK => ?_)
               refine goes_ Try.func68 (by kernel_rfl) rfl #[.agg #[.int .i64 a0_0, .slice A0_1 l0_1.length c0_1, .slice (some ad406) l0_2.length c0_2, .slice A0_3 l0_3.length c0_3], .int .i64 (rd (rd_L1 y425 x38_1) 0), .int .i64 (rd (rd_L1 y425 x38_1) 1)] (by rfl) rfl rfl TA ?_
               with_reducible refine (impl_house_isDoor.calls a0_0 _ _ l0_1 _ _ l0_2 _ _ l0_3 (rd (rd_L1 y425 x38_1) 0) (rd (rd_L1 y425 x38_1) 1) true _ ?side1 ?side2 ?side3 ?side4 ?side5 ?side6 A32.out).mono ?_
               (case side1 => exact CW (Kd.C_below HR0_1.out HB.out))
               (case side2 => exact HC0_1.out)
               (case side3 => exact CW (Kd.C_below HR0_2.out HB.out))
               (case side4 => exact HC0_2.out)
               (case side5 => exact CW (Kd.C_below HR0_3.out HB.out))
               (case side6 => exact HC0_3.out)
               rintro e w36 ⟨rfl, hb⟩
               have HS4_ := (hb.cell (World.block_lt_of_cell? _ _ (hHeld.2.2.2.2.1))).trans (hHeld.2.2.2.2.1)
               have HS5_ := (hb.cell (World.block_lt_of_cell? _ _ (hHeld.2.2.2.2.2))).trans (hHeld.2.2.2.2.2)
               refine ⟨_, rfl, ?_⟩
               have n0_ := Aside0.mk (Kd.N_below (KN HO_6) hb)
               have n1_ := Aside0.mk (Kd.N_below (KN HO_36) hb)
               have n2_ := Aside0.mk (Kd.V_below (by (with_reducible repeat (first | apply Kd.V_alloc | apply Kd.V_drewN | apply Kd.V_drew)); exact HL428_0.out) hb)
               have n3_ := Aside0.mk (blk_below (g := gb405) (o := .cells #[.int .i64 a0_0, .slice A0_1 l0_1.length c0_1, .slice (some ad406) l0_2.length c0_2, .slice A0_3 l0_3.length c0_3] 46 (0, 0)) (BW BK405) hb)
               have n4_ := Aside0.mk (Kd.C_below (by repeat (first | (with_reducible exact HR428_0.out) | (with_reducible refine Kd.C_drewN ?_ _) | (with_reducible refine Kd.C_drew ?_) | (with_reducible refine Kd.C_alloc ?_ _) | exact HR428_0.out)) hb)
               have n5_ := Aside0.mk (below_step (by repeat (first | (with_reducible first | exact HB.out | apply below_alloc | apply pw_below_drewN | apply below_drew1 | refine below_set ?_ GE405.out) | exact HB.out)) hb)
               clear HO_6
               clear HO_36
               clear HL428_0
               clear BK405
               clear HR428_0
               clear HB
               have HO_6 := n0_
               have HO_36 := n1_
               have HL428_0 := n2_
               have BK405 := n3_
               have HR428_0 := n4_
               have HB := n5_
               clear n0_ n1_ n2_ n3_ n4_ n5_
               (try clear hb)
               (try clear hb2)
               (try clear hk)
               (try clear hi)
               refine hK.out _ _ ⟨(blk_cell BK405.out 0).trans rfl, (blk_cell BK405.out 1).trans rfl, (blk_cell BK405.out 2).trans rfl, (blk_cell BK405.out 3).trans rfl, HS4_, HS5_⟩ (fun hHeld => ?_)
               clear hK K
               refine norm_ (a' := ?_) ?_ ?_
               rotate_left
               ·show Act.put _ (some 49) _ = _
                simp only [Act.put, List.setIfInBounds_toArray, List.set_cons_zero, List.set_cons_succ, i64_w, i32_w]
                rfl
               refine done_ (done_of HT_.out (by kernel_rfl)) ?_
               try go_wp2_with (first | ((with_reducible refine gate_builtin (b := .append) (xs := #[.tmp 50, .tmp 52]) rfl ?_); at_builtin; refine Kd.N_append (Kd.slice 3 (Kd.int .i64)) (w0 := w) w.heap.size rfl (.tmp 50) (.tmp 52) 28 22 (.slice none 0 0) 24 rfl Try.underlying28 info22 rfl (by decide) (by omega) u6 x6_1 (rd_L1 y425 x38_1) [.slice (some ad429) (rd_L1 y425 x38_1).length c428_0] (fun k_ => (w.heap.size ≤ k_) ∧ some k_ ≠ (.slice (some ad428) y425.length co26 : Value).ownBlock ∧ k_ ≠ gb405) (fun k_ => ((fun k_ => (w.heap.size ≤ k_) ∧ some k_ ≠ (.slice (some ad428) y425.length co26 : Value).ownBlock ∧ k_ ≠ gb405)) k_ ∧ some k_ ≠ (u6 : Value).ownBlock) rfl rfl ?aP (fun _ hk => hk) ?aF ?aO ?aB ?aS ?aL ?_; (case aP => exact (Kd.FK_slice_mk (Kd.V_reads' (Kd.V_mono (ok' := (fun k_ => ((fun k_ => (w.heap.size ≤ k_) ∧ some k_ ≠ (.slice (some ad428) y425.length co26 : Value).ownBlock ∧ k_ ≠ gb405)) k_ ∧ some k_ ≠ (u6 : Value).ownBlock)) (HL428_0.out) (fun k_ hk => ⟨⟨hk.1.1, ⟨hk.2, hk.1.2.2⟩⟩, hk.1.2.1⟩))).2.1 (Kd.V_F (Kd.V_mono (ok' := (fun k_ => ((fun k_ => (w.heap.size ≤ k_) ∧ some k_ ≠ (.slice (some ad428) y425.length co26 : Value).ownBlock ∧ k_ ≠ gb405)) k_ ∧ some k_ ≠ (u6 : Value).ownBlock)) (HL428_0.out) (fun k_ hk => ⟨⟨hk.1.1, ⟨hk.2, hk.1.2.2⟩⟩, hk.1.2.1⟩))))); (case aB => exact (by repeat (first | (with_reducible first | exact HB.out | apply below_alloc | apply pw_below_drewN | apply below_drew1 | refine below_set ?_ GE405.out) | exact HB.out))); (case aF => exact (fun k_ hk => ⟨(Nat.le_trans (below_size (by repeat (first | (with_reducible first | exact HB.out | apply below_alloc | apply pw_below_drewN | apply below_drew1 | refine below_set ?_ GE405.out) | exact HB.out))) hk), Kd.fresh' (Kd.N_lt (KN HO_36)) k_ hk, Kd.freshB (g := gb405) (o := .cells #[.int .i64 a0_0, .slice A0_1 l0_1.length c0_1, .slice (some ad406) l0_2.length c0_2, .slice A0_3 l0_3.length c0_3] 46 (0, 0)) (BW BK405) k_ hk⟩)); (case aO => exact (KN HO_6)); (case aS => exact (below_size (by repeat (first | (with_reducible first | exact HB.out | apply below_alloc | apply pw_below_drewN | apply below_drew1 | refine below_set ?_ GE405.out) | exact HB.out)))); (case aL => have := LMc34.out; omega); intro v433 w37 ho hb hg hat; rw [← Ny432.out] at ho; have n0_ := Aside0.mk (Kd.N_afterv (ok := (fun k_ => (w.heap.size ≤ k_) ∧ k_ ≠ gb405)) (by (with_reducible repeat (first | apply Kd.N_alloc | apply Kd.N_drewN | apply Kd.N_drew)); exact Kd.N_mono HO_36.out (fun _ hk => ⟨⟨hk.1, hk.2.2⟩, hk.2.1⟩)) hg hat); have n1_ := Aside0.mk (blk_grown (g := gb405) (o := .cells #[.int .i64 a0_0, .slice A0_1 l0_1.length c0_1, .slice (some ad406) l0_2.length c0_2, .slice A0_3 l0_3.length c0_3] 46 (0, 0)) (BW BK405) hg (Kd.N_ne HO_6.out BK405.out (by decide))); have n2_ := Aside0.mk (Kd.V_afterv (ok := (fun k_ => (w.heap.size ≤ k_) ∧ some k_ ≠ (.slice (some ad428) y425.length co26 : Value).ownBlock ∧ k_ ≠ gb405)) (by (with_reducible repeat (first | apply Kd.V_alloc | apply Kd.V_drewN | apply Kd.V_drew)); exact Kd.V_mono HL428_0.out (fun _ hk => ⟨⟨hk.1.1, ⟨hk.2, hk.1.2.2⟩⟩, hk.1.2.1⟩)) hg hat); have n3_ := Aside0.mk (hb); have n4_ := Aside0.mk (ho); clear HO_36; clear BK405; clear HL428_0; clear HB; clear HO_6; have HO_36 := n0_; have BK405 := n1_; have HL428_0 := n2_; have HB := n3_; have HO434 := n4_; clear n0_ n1_ n2_ n3_ n4_; clear ho hb hg hat))
               go_roundg k1
               case measure => have := HK1.out; omega
               case rel => exact ⟨(y432), (wrap64 (x38_1 + 1)), RF, H', ⟨by have := HK1.out; omega⟩, ⟨KN HO434⟩, ⟨by (with_reducible repeat (first | apply Kd.N_alloc | apply Kd.N_drewN | apply Kd.N_drew)); exact Kd.N_mono HO_36.out (fun _ hk => by first | exact ⟨hk.1.1, ⟨hk.2, hk.1.2⟩⟩ | exact hk.1 | exact hk)⟩, ⟨by (with_reducible repeat (first | refine blk_drewN ?_ _ | refine blk_drew ?_ | refine blk_alloc ?_ _)); exact BK405.out⟩, ⟨by repeat (first | (with_reducible first | exact HB.out | apply below_alloc | apply pw_below_drewN | apply below_drew1 | refine below_set ?_ GE405.out) | exact HB.out)⟩⟩
              ·rw [if_neg c34] at H
               cases H
             ·replace c33 := Bool.eq_false_iff.mpr c33
              subst c33
              replace H := IN H
              have H' := Aside0.mk H
              clear H
              have p428 : 0 ≤ (x38_1 : Int) := of_decide_eq_true AS
              have q428 : x38_1 < (y425.length : Int) := of_decide_eq_true AS
              obtain ⟨ad428, A428_0, c428_0, e428, hx428_0, hl428_0, hi428_0⟩ := at_L1 (Kd.N_reads' HO_36.out).2.2 x38_1 p428 q428
              cases e428
              obtain ⟨ce428, hce428, hMe428, hcc428⟩ := Kd.N_get HO_36.out [] x38_1 p428 (by first | exact q428 | exact of_decide_eq_true AS | (have e_ := (Kd.N_reads' HO_36.out).1; omega))
              obtain ⟨ua428_0, uc428_0, rfl, ul428_0, ge428_0⟩ := Kd.FK_slice_open hMe428
              have hv428_0 := hcc428 0 _ rfl
              rw [Nat.add_zero, show ((Kd.slice 3 (Kd.int .i64))).sz = 1 from rfl, Nat.mul_one] at hv428_0
              replace hv428_0 := Option.some.inj (hv428_0.symm.trans hx428_0)
              injection hv428_0 with hva_ hvn_ hvc_
              rw [hva_] at ge428_0
              rw [hvc_] at ul428_0
              have HL428_0 := Aside0.mk (show Kd.V (Kd.int .i64) 3 _ w.heap.size _ _ (rd_L1 y425 x38_1) from Kd.V_mk ul428_0 ge428_0)
              clear hva_ hvn_ hvc_ ge428_0 ul428_0
              clear hcc428 hce428
              have HR428_0 := Aside0.mk hi428_0
              have HC428_0 := Aside0.mk hl428_0
              clear hi428_0 hl428_0
              replace p428 := eq_true p428
              replace q428 := eq_true q428
              try go_wp2
              have n0_ := Aside0.mk (Kd.N_drew HO_6.out)
              have n1_ := Aside0.mk (Kd.N_drew HO_36.out)
              have n2_ := Aside0.mk (Kd.V_drew HL428_0.out)
              have n3_ := Aside0.mk (blk_drew BK405.out)
              have n4_ := Aside0.mk (Kd.C_drew HR428_0.out)
              have n5_ := Aside0.mk (below_drew1 HB.out)
              clear HO_6
              clear HO_36
              clear HL428_0
              clear BK405
              clear HR428_0
              clear HB
              have HO_6 := n0_
              have HO_36 := n1_
              have HL428_0 := n2_
              have BK405 := n3_
              have HR428_0 := n4_
              have HB := n5_
              clear n0_ n1_ n2_ n3_ n4_ n5_
              have p429 : 0 ≤ (0 : Int) := (by omega)
              have q429 : 0 < ((rd_L1 y425 x38_1).length : Int) := of_decide_eq_true AS
              obtain ⟨ad429, e429, hx429_0⟩ := Kd.at_int (by repeat (first | (with_reducible exact HR428_0.out) | (with_reducible refine Kd.C_drewN ?_ _) | (with_reducible refine Kd.C_drew ?_) | (with_reducible refine Kd.C_alloc ?_ _) | exact HR428_0.out)) 0 p429 q429
              cases e429
              have qi429 : (0 < (rd_L1 y425 x38_1).length) = True := eq_true (by omega)
              (try rw [show ((0 : Int)).toNat = 0 from rfl] at hx429_0)
              (try rw [Addr.add_zero'] at hx429_0)
              replace p429 := eq_true p429
              replace q429 := eq_true q429
              have p430 : 0 ≤ (1 : Int) := (by omega)
              have q430 : 1 < ((rd_L1 y425 x38_1).length : Int) := of_decide_eq_true AS
              obtain ⟨ad430, e430, hx430_0⟩ := Kd.at_int (by repeat (first | (with_reducible exact HR428_0.out) | (with_reducible refine Kd.C_drewN ?_ _) | (with_reducible refine Kd.C_drew ?_) | (with_reducible refine Kd.C_alloc ?_ _) | exact HR428_0.out)) 1 p430 q430
              obtain rfl : ad429 = ad430 := (by injection e430)
              (try simp only [show (1 : Int).toNat = 1 from rfl, Nat.reduceMul, Nat.reduceEqDiff, Go.Addr.add, ↓reduceIte] at hx430_0)
              have qi430 : (1 < (rd_L1 y425 x38_1).length) = True := eq_true (by omega)
              (try rw [show ((1 : Int)).toNat = 1 from rfl] at hx430_0)
              replace p430 := eq_true p430
              replace q430 := eq_true q430
              refine start_ (n := 8) (S := fun w' => w'.cell? ⟨gb405, 0, none⟩ = some (.int .i64 a0_0) ∧ w'.cell? ⟨gb405, 1, none⟩ = some (.slice A0_1 l0_1.length c0_1) ∧ w'.cell? ⟨gb405, 2, none⟩ = some (.slice (some ad406) l0_2.length c0_2) ∧ w'.cell? ⟨gb405, 3, none⟩ = some (.slice A0_3 l0_3.length c0_3) ∧ w'.cell? ad429 = some (.int .i64 (rd (rd_L1 y425 x38_1) 0)) ∧ w'.cell? ⟨ad429.block, ad429.off + 1, none⟩ = some (.int .i64 (rd (rd_L1 y425 x38_1) 1))) (ds := []) #[false, false, false, false, false, false, false, false] (by kernel_rfl) rfl rfl ⟨(blk_cell BK405.out 0).trans rfl, (blk_cell BK405.out 1).trans rfl, (blk_cell BK405.out 2).trans rfl, (blk_cell BK405.out 3).trans rfl, hx429_0, hx430_0⟩ (fun hHeld => ?_); refine with_tabW impl_house_doors.tab5 impl_house_doors.bits5 (fun HT_ HW_ => ?_)
              generalize wr.drew = w38 at HO_6 HO_36 HL428_0 BK405 HR428_0 HB hx429_0 hx430_0 hHeld ⊢
              refine pure_ (i := 1) (N := some 43) #[false, true, false, false, false, false, false, false] rfl rfl (any_of HT_.out (by kernel_rfl)) (fun _ _ _ h => h) (Or.inl ⟨by rfl, PW⟩) PU ?_
              refine pure_ (i := 2) (N := some 44) #[false, true, true, false, false, false, false, false] rfl rfl (any_of HT_.out (by kernel_rfl)) (fun _ _ _ h => h) (Or.inl ⟨by rfl, PW⟩) PU ?_
              refine pure_ (i := 4) (N := some 46) #[false, true, true, false, true, false, false, false] rfl rfl (any_of HT_.out (by kernel_rfl)) (fun _ _ _ h => h) (Or.inl ⟨by rfl, PW⟩) PU ?_
              refine pure_ (i := 5) (N := some 47) #[false, true, true, false, true, true, false, false] rfl rfl (any_of HT_.out (by kernel_rfl)) (fun _ _ _ h => h) (Or.inl ⟨by rfl, PW⟩) PU ?_
              refine take_ (i := 0) (N := some 42) #[true, true, true, false, true, true, false, false] rfl rfl (take_ofW HT_.out HW_.out (by kernel_rfl)) (fun _ _ _ h => h) (Or.inl ⟨by rfl, PT⟩) hHeld PU ?_
              refine take_ (i := 3) (N := some 45) #[true, true, true, true, true, true, false, false] rfl rfl (take_ofW HT_.out HW_.out (by kernel_rfl)) (fun _ _ _ h => h) (Or.inl ⟨by rfl, PT⟩) hHeld PU ?_
              refine take_ (i := 6) (N := some 48) #[true, true, true, true, true, true, true, false] rfl rfl (take_ofW HT_.out HW_.out (by kernel_rfl)) (fun _ _ _ h => h) (Or.inl ⟨by rfl, PT⟩) hHeld PU ?_
              refine one_ (i := 7) (N := some 49) #[true, true, true, true, true, true, true, true] rfl rfl (one_of HT_.out (by kernel_rfl)) (by decide) (fun K hK => ?_)
              refine goes_ Try.func68 (by kernel_rfl) rfl #[.agg #[.int .i64 a0_0, .slice A0_1 l0_1.length c0_1, .slice (some ad406) l0_2.length c0_2, .slice A0_3 l0_3.length c0_3], .int .i64 (rd (rd_L1 y425 x38_1) 0), .int .i64 (rd (rd_L1 y425 x38_1) 1)] (by rfl) rfl rfl TA ?_
              with_reducible refine (impl_house_isDoor.calls a0_0 _ _ l0_1 _ _ l0_2 _ _ l0_3 (rd (rd_L1 y425 x38_1) 0) (rd (rd_L1 y425 x38_1) 1) false _ ?side1 ?side2 ?side3 ?side4 ?side5 ?side6 A32.out).mono ?_
              (case side1 => exact CW (Kd.C_below HR0_1.out HB.out))
              (case side2 => exact HC0_1.out)
              (case side3 => exact CW (Kd.C_below HR0_2.out HB.out))
              (case side4 => exact HC0_2.out)
              (case side5 => exact CW (Kd.C_below HR0_3.out HB.out))
              (case side6 => exact HC0_3.out)
              rintro e w39 ⟨rfl, hb⟩
              have HS4_ := (hb.cell (World.block_lt_of_cell? _ _ (hHeld.2.2.2.2.1))).trans (hHeld.2.2.2.2.1)
              have HS5_ := (hb.cell (World.block_lt_of_cell? _ _ (hHeld.2.2.2.2.2))).trans (hHeld.2.2.2.2.2)
              refine ⟨_, rfl, ?_⟩
              have n0_ := Aside0.mk (Kd.N_below (KN HO_6) hb)
              have n1_ := Aside0.mk (Kd.N_below (KN HO_36) hb)
              have n2_ := Aside0.mk (Kd.V_below (by (with_reducible repeat (first | apply Kd.V_alloc | apply Kd.V_drewN | apply Kd.V_drew)); exact HL428_0.out) hb)
              have n3_ := Aside0.mk (blk_below (g := gb405) (o := .cells #[.int .i64 a0_0, .slice A0_1 l0_1.length c0_1, .slice (some ad406) l0_2.length c0_2, .slice A0_3 l0_3.length c0_3] 46 (0, 0)) (BW BK405) hb)
              have n4_ := Aside0.mk (Kd.C_below (by repeat (first | (with_reducible exact HR428_0.out) | (with_reducible refine Kd.C_drewN ?_ _) | (with_reducible refine Kd.C_drew ?_) | (with_reducible refine Kd.C_alloc ?_ _) | exact HR428_0.out)) hb)
              have n5_ := Aside0.mk (below_step (by repeat (first | (with_reducible first | exact HB.out | apply below_alloc | apply pw_below_drewN | apply below_drew1 | refine below_set ?_ GE405.out) | exact HB.out)) hb)
              clear HO_6
              clear HO_36
              clear HL428_0
              clear BK405
              clear HR428_0
              clear HB
              have HO_6 := n0_
              have HO_36 := n1_
              have HL428_0 := n2_
              have BK405 := n3_
              have HR428_0 := n4_
              have HB := n5_
              clear n0_ n1_ n2_ n3_ n4_ n5_
              (try clear hb)
              (try clear hb2)
              (try clear hk)
              (try clear hi)
              refine hK.out _ _ ⟨(blk_cell BK405.out 0).trans rfl, (blk_cell BK405.out 1).trans rfl, (blk_cell BK405.out 2).trans rfl, (blk_cell BK405.out 3).trans rfl, HS4_, HS5_⟩ (fun hHeld => ?_)
              clear hK K
              refine norm_ (a' := ?_) ?_ ?_
              rotate_left
              ·show Act.put _ (some 49) _ = _
               simp only [Act.put, List.setIfInBounds_toArray, List.set_cons_zero, List.set_cons_succ, i64_w, i32_w]
               rfl
              refine done_ (done_of HT_.out (by kernel_rfl)) ?_
              try go_wp2
              go_roundg k1
              case measure => have := HK1.out; omega
              case rel => exact ⟨(x6_1), (wrap64 (x38_1 + 1)), RF, H', ⟨by have := HK1.out; omega⟩, ⟨KN HO_6⟩, ⟨KN HO_36⟩, ⟨by (with_reducible repeat (first | refine blk_drewN ?_ _ | refine blk_drew ?_ | refine blk_alloc ?_ _)); exact BK405.out⟩, ⟨by repeat (first | (with_reducible first | exact HB.out | apply below_alloc | apply pw_below_drewN | apply below_drew1 | refine below_set ?_ GE405.out) | exact HB.out)⟩⟩
            ·rw [if_neg c31] at H
             cases H
           ·rw [if_neg c30] at H
            cases H
          ·rw [if_neg c29] at H
           cases H
         ·rw [if_neg c28] at H
          cases H
        ·rw [if_neg c27] at H
         have c27b0 : decide (x38_1 < (y425.length : Int)) = false := decide_eq_false c27
         clear c27
         obtain rfl := Option.some.inj H
         go_wp2
         go_ret
         exact ⟨_, RE, by (with_reducible repeat (first | apply Kd.N_alloc | apply Kd.N_drewN | apply Kd.N_drew)); exact Kd.N_mono HO_6.out (fun _ hk => hk.1), by repeat (first | (with_reducible first | exact HB.out | apply below_alloc | apply pw_below_drewN | apply below_drew1 | refine below_set ?_ GE405.out) | exact HB.out)⟩
     ·rw [if_neg c7] at H
      cases H
    ·rw [if_neg c6] at H
     cases H
   ·rw [if_neg c5] at H
    cases H
  ·rw [if_neg c4] at H
   cases H
 ·rw [if_neg c3] at H
  cases H

end Go.Proofs.Ytgpplbaloajgdab.PFnExactFairCell
