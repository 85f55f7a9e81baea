-- Written by a program of this session (wip/tools/pp.sh) out of the translation; Lean checks it.
import Derived.Test.YtafjjbkkcedgnabPFnDoorsOfRoomsx0
import Derived.Test.YtafjjbkkcedgnabPFnDoorsOfRoomsx7
namespace Go.Proofs.Ytafjjbkkcedgnab.PFnDoorsOfRooms
open Go.RowKit Go.Proofs.YtafjjbkkcedgnabOwn Go.Proofs.YtafjjbkkcedgnabW.PrintWords Go.Proofs.YtafjjbkkcedgnabW.PrintLast Go.Proofs.YtafjjbkkcedgnabW.PrintMore
attribute [local go_sem] max2_int min2_int max_two min_two max_three min_three max_four min_four   -- for this text's walks alone
set_option linter.unusedVariables false
set_option maxHeartbeats 8000000
set_option maxRecDepth 100000
set_option linter.unusedSimpArgs false

/-! ### impl_house_doors: function 38 -/
def impl_house_doors.l0 : Nat → List (List Int) → List (List Int) → Int → Int → Int → List Int → List (List Int) → List Int → Option ((List (List Int)))
 | 0, _, _, _, _, _, _, _, _ => none
 | k + 1, x6, x36, x37, x38, x327000, x327001, x327002, x327003 => if x38 < x37 then (if 0 ≤ x38 then (if x38 < (x36.length : Int) then (if 0 < ((rd_L2 x36 x38).length : Int) then (if 1 < ((rd_L2 x36 x38).length : Int) then ((impl_house_isDoor.f x327000 x327001 x327002 x327003 (rd (rd_L2 x36 x38) 0) (rd (rd_L2 x36 x38) 1)).bind fun t352 => (if t352 = true then (if x6.length < 5864062014805 then (impl_house_doors.l0 k (x6 ++ [rd_L2 x36 x38]) x36 x37 (wrap64 (x38 + 1)) x327000 x327001 x327002 x327003) else (none)) else (impl_house_doors.l0 k x6 x36 x37 (wrap64 (x38 + 1)) x327000 x327001 x327002 x327003))) else (none)) else (none)) else (none)) else (none)) else (some x6)
def impl_house_doors.f (k : Nat) (a0_0 : Int) (l0_1 : List Int) (l0_2 : List (List Int)) (l0_3 : List Int) (a1 : Int) : Option ((List (List Int))) := if 0 ≤ a1 then (if a1 < (l0_2.length : Int) then (if 0 < ((rd_L2 l0_2 a1).length : Int) then (if 1 < ((rd_L2 l0_2 a1).length : Int) then (if 2 < ((rd_L2 l0_2 a1).length : Int) then ((some (([(([rd (rd_L2 l0_2 a1) 0, rd (rd_L2 l0_2 a1) 1] : List Int)), (([rd (rd_L2 l0_2 a1) 0, rd (rd_L2 l0_2 a1) 2] : List Int)), (([rd (rd_L2 l0_2 a1) 1, rd (rd_L2 l0_2 a1) 2] : List Int))] : List (List Int)) : List (List Int))).bind fun y346 => (impl_house_doors.l0 k (([] : List (List Int))) y346 (y346.length : Int) 0 a0_0 l0_1 l0_2 l0_3)) else (none)) else (none)) else (none)) else (none)) else (none)
theorem impl_house_doors.mono_l : ∀ k, (∀ y0 y1 y2 y3 y4 y5 y6 y7, LeO (impl_house_doors.l0 k y0 y1 y2 y3 y4 y5 y6 y7) (impl_house_doors.l0 (k + 1) y0 y1 y2 y3 y4 y5 y6 y7))
 | 0 => fun _ _ _ _ _ _ _ _ r h => by simp [impl_house_doors.l0] at h
 | k + 1 => by
  have ih0 := impl_house_doors.mono_l k
  ·intro y0 y1 y2 y3 y4 y5 y6 y7
   unfold impl_house_doors.l0
   repeat' first
   | with_reducible first | exact ih0 _ _ _ _ _ _ _ _ | exact LeO.refl _ | exact LeO.none _ | refine LeO.ite ?_ ?_ | refine LeO.bind ?_ (fun _ => ?_)
   | exact LeO.none _ | refine LeO.ite ?_ ?_ | refine LeO.bind ?_ (fun _ => ?_)
theorem impl_house_doors.mono : ∀ a0 a1 a2 a3 a4 k, LeO (impl_house_doors.f k a0 a1 a2 a3 a4) (impl_house_doors.f (k + 1) a0 a1 a2 a3 a4) := by
 intro a0 a1 a2 a3 a4 k
 have ih0 := impl_house_doors.mono_l k
 unfold impl_house_doors.f
 repeat' first
   | with_reducible first | exact ih0 _ _ _ _ _ _ _ _ | exact LeO.refl _ | exact LeO.none _ | refine LeO.ite ?_ ?_ | refine LeO.bind ?_ (fun _ => ?_)
   | exact LeO.none _ | refine LeO.ite ?_ ?_ | refine LeO.bind ?_ (fun _ => ?_)
def impl_house_doors.T2 : Bool × List (List Nat × List Nat) := (true, [([], []), ([0], [0]), ([1], [1]), ([], []), ([3], [3]), ([4], [4]), ([2, 5], [2, 5]), ([], []), ([7], [7]), ([8], [8]), ([], []), ([10], [10]), ([11], [11]), ([9, 12], [9, 12]), ([], []), ([14], [14]), ([15], [15]), ([], []), ([17], [17]), ([18], [18]), ([16, 19], [16, 19]), ([6, 13, 20], [6, 13, 20]), ([21], [21]), ([], [])])
def impl_house_doors.B2 : List Nat := [0, 1, 3, 0, 8, 24, 63, 0, 128, 384, 0, 1024, 3072, 8064, 0, 16384, 49152, 0, 131072, 393216, 1032192, 2097151, 4194303, 0]
theorem impl_house_doors.tab2 : rtab .any (opsOf Try.f38 2) = impl_house_doors.T2 := by kernel_rfl
theorem impl_house_doors.bits2 : waitsOk impl_house_doors.T2.2 impl_house_doors.B2 = true := by kernel_rfl
def impl_house_doors.T5 : Bool × List (List Nat × List Nat) := (true, [([], []), ([], []), ([1], [1]), ([2], [2]), ([], []), ([4], [4]), ([5], [5]), ([0, 3, 6], [0, 3, 6])])
def impl_house_doors.B5 : List Nat := [0, 0, 2, 6, 0, 16, 48, 127]
theorem impl_house_doors.tab5 : rtab .any (opsOf Try.f38 5) = impl_house_doors.T5 := by kernel_rfl
theorem impl_house_doors.bits5 : waitsOk impl_house_doors.T5.2 impl_house_doors.B5 = true := by kernel_rfl
theorem impl_house_doors.calls (k : Nat) (a0_0 : Int) (A0_1 : Option Addr) (c0_1 : Nat) (l0_1 : List Int) (A0_2 : Option Addr) (c0_2 : Nat) (l0_2 : List (List Int)) (A0_3 : Option Addr) (c0_3 : Nat) (l0_3 : List Int) (a1 : Int) (r : List (List Int)) (w : World) (hr0_1 : Kd.C (Kd.int .i64) w A0_1 l0_1.length l0_1) (hc0_1 : l0_1.length ≤ c0_1) (hr0_2 : Kd.C (Kd.slice 3 (Kd.int .i64)) w A0_2 l0_2.length l0_2) (hc0_2 : l0_2.length ≤ c0_2) (hr0_3 : Kd.C (Kd.int .i64) w A0_3 l0_3.length l0_3) (hc0_3 : l0_3.length ≤ c0_3) (h : impl_house_doors.f k a0_0 l0_1 l0_2 l0_3 a1 = some r) :
  Calls Try.prog 38 #[.agg #[.int .i64 a0_0, .slice A0_1 l0_1.length c0_1, .slice A0_2 l0_2.length c0_2, .slice A0_3 l0_3.length c0_3], .int .i64 a1] w fun e w' => ∃ v0_ : Value, e = .returned (v0_) ∧ Kd.N (Kd.slice 3 (Kd.int .i64)) 24 w' w.heap.size (fun k_ => (w.heap.size ≤ k_)) v0_ r ∧ Below w.heap.size w w' := by
 have hu55 := Try.underlying55
 have HR0_1 := Aside0.mk hr0_1
 have HC0_1 := Aside0.mk hc0_1
 clear hr0_1 hc0_1
 have HR0_2 := Aside0.mk hr0_2
 have HC0_2 := Aside0.mk hc0_2
 clear hr0_2 hc0_2
 have HR0_3 := Aside0.mk hr0_3
 have HC0_3 := Aside0.mk hc0_3
 clear hr0_3 hc0_3
 have HB := Aside0.mk (Below.refl w.heap.size w)
 have H : (if 0 ≤ a1 then (if a1 < (l0_2.length : Int) then (if 0 < ((rd_L2 l0_2 a1).length : Int) then (if 1 < ((rd_L2 l0_2 a1).length : Int) then (if 2 < ((rd_L2 l0_2 a1).length : Int) then ((some (([(([rd (rd_L2 l0_2 a1) 0, rd (rd_L2 l0_2 a1) 1] : List Int)), (([rd (rd_L2 l0_2 a1) 0, rd (rd_L2 l0_2 a1) 2] : List Int)), (([rd (rd_L2 l0_2 a1) 1, rd (rd_L2 l0_2 a1) 2] : List Int))] : List (List Int)) : List (List Int))).bind fun y346 => (impl_house_doors.l0 k (([] : List (List Int))) y346 (y346.length : Int) 0 a0_0 l0_1 l0_2 l0_3)) else (none)) else (none)) else (none)) else (none)) else (none)) = some r := h
 clear h
 by_cases c3 : 0 ≤ a1
 ·rw [if_pos c3] at H
  have c3b0 : decide (0 ≤ a1) = true := decide_eq_true c3
  clear c3
  by_cases c4 : a1 < (l0_2.length : Int)
  ·rw [if_pos c4] at H
   have c4b0 : decide (a1 < (l0_2.length : Int)) = true := decide_eq_true c4
   clear c4
   obtain ⟨y328, hy328⟩ : ∃ y_ : List (List Int), y_ = (([] : List (List Int))) := ⟨_, rfl⟩
   replace H : (if 0 < ((rd_L2 l0_2 a1).length : Int) then (if 1 < ((rd_L2 l0_2 a1).length : Int) then (if 2 < ((rd_L2 l0_2 a1).length : Int) then ((some (([(([rd (rd_L2 l0_2 a1) 0, rd (rd_L2 l0_2 a1) 1] : List Int)), (([rd (rd_L2 l0_2 a1) 0, rd (rd_L2 l0_2 a1) 2] : List Int)), (([rd (rd_L2 l0_2 a1) 1, rd (rd_L2 l0_2 a1) 2] : List Int))] : List (List Int)) : List (List Int))).bind fun y346 => (impl_house_doors.l0 k y328 y346 (y346.length : Int) 0 a0_0 l0_1 l0_2 l0_3)) else (none)) else (none)) else (none)) = some r := HY H hy328
   have Ny328 := Aside0.mk hy328
   clear hy328
   by_cases c5 : 0 < ((rd_L2 l0_2 a1).length : Int)
   ·rw [if_pos c5] at H
    have c5b0 : decide (0 < ((rd_L2 l0_2 a1).length : Int)) = true := decide_eq_true c5
    have c5b1 : decide (0 < (rd_L2 l0_2 a1).length) = true := decide_eq_true (by omega)
    clear c5
    by_cases c6 : 1 < ((rd_L2 l0_2 a1).length : Int)
    ·rw [if_pos c6] at H
     have c6b0 : decide (1 < ((rd_L2 l0_2 a1).length : Int)) = true := decide_eq_true c6
     have c6b1 : decide (1 < (rd_L2 l0_2 a1).length) = true := decide_eq_true (by omega)
     clear c6
     obtain ⟨y333, hy333⟩ : ∃ y_ : List Int, y_ = (([rd (rd_L2 l0_2 a1) 0, rd (rd_L2 l0_2 a1) 1] : List Int)) := ⟨_, rfl⟩
     replace H : (if 2 < ((rd_L2 l0_2 a1).length : Int) then ((some (([y333, (([rd (rd_L2 l0_2 a1) 0, rd (rd_L2 l0_2 a1) 2] : List Int)), (([rd (rd_L2 l0_2 a1) 1, rd (rd_L2 l0_2 a1) 2] : List Int))] : List (List Int)) : List (List Int))).bind fun y346 => (impl_house_doors.l0 k y328 y346 (y346.length : Int) 0 a0_0 l0_1 l0_2 l0_3)) else (none)) = some r := HY H hy333
     have Ny333 := Aside0.mk hy333
     clear hy333
     by_cases c7 : 2 < ((rd_L2 l0_2 a1).length : Int)
     ·rw [if_pos c7] at H
      have c7b0 : decide (2 < ((rd_L2 l0_2 a1).length : Int)) = true := decide_eq_true c7
      have c7b1 : decide (2 < (rd_L2 l0_2 a1).length) = true := decide_eq_true (by omega)
      clear c7
      obtain ⟨y338, hy338⟩ : ∃ y_ : List Int, y_ = (([rd (rd_L2 l0_2 a1) 0, rd (rd_L2 l0_2 a1) 2] : List Int)) := ⟨_, rfl⟩
      replace H : ((some (([y333, y338, (([rd (rd_L2 l0_2 a1) 1, rd (rd_L2 l0_2 a1) 2] : List Int))] : List (List Int)) : List (List Int))).bind fun y346 => (impl_house_doors.l0 k y328 y346 (y346.length : Int) 0 a0_0 l0_1 l0_2 l0_3)) = some r := HY H hy338
      have Ny338 := Aside0.mk hy338
      clear hy338
      obtain ⟨y343, hy343⟩ : ∃ y_ : List Int, y_ = (([rd (rd_L2 l0_2 a1) 1, rd (rd_L2 l0_2 a1) 2] : List Int)) := ⟨_, rfl⟩
      replace H : ((some (([y333, y338, y343] : List (List Int)) : List (List Int))).bind fun y346 => (impl_house_doors.l0 k y328 y346 (y346.length : Int) 0 a0_0 l0_1 l0_2 l0_3)) = some r := HY H hy343
      have Ny343 := Aside0.mk hy343
      clear hy343
      obtain ⟨y346, hy346⟩ : ∃ y_ : List (List Int), y_ = (([y333, y338, y343] : List (List Int))) := ⟨_, rfl⟩
      replace H : (impl_house_doors.l0 k y328 y346 (y346.length : Int) 0 a0_0 l0_1 l0_2 l0_3) = some r := HY H hy346
      have Ny346 := Aside0.mk hy346
      clear hy346
      have H' := Aside0.mk H
      clear H
      go_enter Try.func38, Try.ntmps38
      try go_wp2_with (first | ((with_reducible refine gate_dst (N := 2) rfl ?_); refine box_event ?hg (N := 2) ?hd (cs := #[.int .i64 a0_0, .slice A0_1 l0_1.length c0_1, .slice A0_2 l0_2.length c0_2, .slice A0_3 l0_3.length c0_3]) (t := 55) ?hr ?_; (case hd => rfl); (case hg => rfl); (case hr => exact GS); intro gb326 hg w8 hbox hb; have n0_ := Aside0.mk (below_step BB hb); have n1_ := Aside0.mk (hbox); have n2_ := Aside0.mk ((by rw [hg]; exact (below_size BB) : w.heap.size ≤ gb326)); have n3_ := Aside0.mk ((by rw [hg]; exact (below_size BB) : w.heap.size ≤ gb326)); clear HB; have HB := n0_; have BK326 := n1_; have GW326 := n2_; have GE326 := n3_; clear n0_ n1_ n2_ n3_; clear hb hbox hg; have hcz9_0 : w8.cell? ⟨gb326, 0, none⟩ = some (.int .i64 a0_0) := (blk_cell BK326.out 0).trans rfl; have hcz9_1 : w8.cell? ⟨gb326, 1, none⟩ = some (.slice A0_1 l0_1.length c0_1) := (blk_cell BK326.out 1).trans rfl; have hcz9_2 : w8.cell? ⟨gb326, 2, none⟩ = some (.slice A0_2 l0_2.length c0_2) := (blk_cell BK326.out 2).trans rfl; have hcz9_3 : w8.cell? ⟨gb326, 3, none⟩ = some (.slice A0_3 l0_3.length c0_3) := (blk_cell BK326.out 3).trans rfl; have hfz9_0 := blk_frozen BK326.out 0; have hfz9_1 := blk_frozen BK326.out 1; have hfz9_2 := blk_frozen BK326.out 2; have hfz9_3 := blk_frozen BK326.out 3; have p327 : 0 ≤ (a1 : Int) := of_decide_eq_true AS; have q327 : a1 < (l0_2.length : Int) := of_decide_eq_true AS; obtain ⟨ad327, A327_0, c327_0, e327, hx327_0, hl327_0, hi327_0⟩ := at_L2 HR0_2.out a1 p327 q327; cases e327; replace hx327_0 := (HB.out.cell (World.block_lt_of_cell? w _ hx327_0)).trans hx327_0; have HR327_0 := Aside0.mk hi327_0; have HC327_0 := Aside0.mk hl327_0; clear hi327_0 hl327_0; replace p327 := eq_true p327; replace q327 := eq_true q327) | ((with_reducible refine gate_dst (N := 14) rfl ?_); refine Kd.N_lit (Kd.slice 3 (Kd.int .i64)) _ 24 ?hg (N' := 14) ?hd (xs := ([] : List (List Int))) (inner := []) (ok := (fun k_ => (w.heap.size ≤ k_) ∧ k_ ≠ gb326)) (okp := (fun k_ => (w.heap.size ≤ k_) ∧ k_ ≠ gb326)) ?hr ?hp (fun _ hk => hk) ((show ∀ k_, w8.heap.size ≤ k_ → (fun k_ => (w.heap.size ≤ k_) ∧ k_ ≠ gb326) k_ from fun k_ hk => ⟨(Nat.le_trans (below_size (AGE GE326)) hk), Kd.freshB (g := gb326) (o := .cells #[.int .i64 a0_0, .slice A0_1 l0_1.length c0_1, .slice (some ad327) l0_2.length c0_2, .slice A0_3 l0_3.length c0_3] 55 (0, 0)) (BW BK326) k_ hk⟩) _ (Nat.le_refl _)) (Below.refl _ _) (Nat.le_refl _) (by simp) ?_; (case hd => rfl); (case hg => rfl); (case hr => exact GS); (case hp => exact (Reps.none _ _)); intro v329 w10 ho11 hb hg_ hnew_; clear hg_ hnew_; (first | rw [← Ny328.out] at ho11 | (simp only [Int.reduceToNat] at ho11; rw [← Ny328.out] at ho11)); have n0_ := Aside0.mk (Kd.N_lower ho11 (below_size (AGE GE326))); have n1_ := Aside0.mk (blk_below (g := gb326) (o := .cells #[.int .i64 a0_0, .slice A0_1 l0_1.length c0_1, .slice (some ad327) l0_2.length c0_2, .slice A0_3 l0_3.length c0_3] 55 (0, 0)) (BW BK326) hb); have n2_ := Aside0.mk (below_step (AGE GE326) hb); clear BK326; clear HB; have HO330 := n0_; have BK326 := n1_; have HB := n2_; clear n0_ n1_ n2_; clear hb ho11))
      have n0_ := Aside0.mk (Kd.N_drew HO330.out)
      have n1_ := Aside0.mk (blk_drew BK326.out)
      have n2_ := Aside0.mk (below_drew1 HB.out)
      clear HO330
      clear BK326
      clear HB
      have HO330 := n0_
      have BK326 := n1_
      have HB := n2_
      clear n0_ n1_ n2_
      have p331 : 0 ≤ (0 : Int) := (by omega)
      have q331 : 0 < ((rd_L2 l0_2 a1).length : Int) := of_decide_eq_true AS
      obtain ⟨ad331, e331, hx331_0⟩ := Kd.at_int HR327_0.out 0 p331 q331
      have hw331_0 := hx331_0
      (try rw [show ((0 : Int)).toNat = 0 from rfl] at hw331_0)
      (try rw [show 0 * 1 = 0 from rfl] at hw331_0)
      (try rw [Addr.add_zero'] at hw331_0)
      cases e331
      have qi331 : (0 < (rd_L2 l0_2 a1).length) = True := eq_true (by omega)
      (try rw [show ((0 : Int)).toNat = 0 from rfl] at hx331_0)
      (try rw [Addr.add_zero'] at hx331_0)
      try (replace hx331_0 := (HB.out.cell (World.block_lt_of_cell? w _ hx331_0)).trans hx331_0)
      replace p331 := eq_true p331
      replace q331 := eq_true q331
      have p332 : 0 ≤ (1 : Int) := (by omega)
      have q332 : 1 < ((rd_L2 l0_2 a1).length : Int) := of_decide_eq_true AS
      obtain ⟨ad332, e332, hx332_0⟩ := Kd.at_int HR327_0.out 1 p332 q332
      have hw332_0 := hx332_0
      (try rw [show ((1 : Int)).toNat = 1 from rfl] at hw332_0)
      (try rw [show 1 * 1 = 1 from rfl] at hw332_0)
      (try simp only [Nat.reduceMul, Nat.reduceEqDiff, Go.Addr.add, ↓reduceIte] at hw332_0)
      obtain rfl : ad331 = ad332 := (by injection e332)
      (try simp only [show (1 : Int).toNat = 1 from rfl, Nat.reduceMul, Nat.reduceEqDiff, Go.Addr.add, ↓reduceIte] at hx332_0)
      have qi332 : (1 < (rd_L2 l0_2 a1).length) = True := eq_true (by omega)
      (try rw [show ((1 : Int)).toNat = 1 from rfl] at hx332_0)
      try (replace hx332_0 := (HB.out.cell (World.block_lt_of_cell? w _ hx332_0)).trans hx332_0)
      replace p332 := eq_true p332
      replace q332 := eq_true q332
      have p336 : 0 ≤ (0 : Int) := (by omega)
      have q336 : 0 < ((rd_L2 l0_2 a1).length : Int) := of_decide_eq_true AS
      obtain ⟨ad336, e336, hx336_0⟩ := Kd.at_int HR327_0.out 0 p336 q336
      have hw336_0 := hx336_0
      (try rw [show ((0 : Int)).toNat = 0 from rfl] at hw336_0)
      (try rw [show 0 * 1 = 0 from rfl] at hw336_0)
      (try rw [Addr.add_zero'] at hw336_0)
      obtain rfl : ad331 = ad336 := (by injection e336)
      have qi336 : (0 < (rd_L2 l0_2 a1).length) = True := eq_true (by omega)
      (try rw [show ((0 : Int)).toNat = 0 from rfl] at hx336_0)
      (try rw [Addr.add_zero'] at hx336_0)
      try (replace hx336_0 := (HB.out.cell (World.block_lt_of_cell? w _ hx336_0)).trans hx336_0)
      replace p336 := eq_true p336
      replace q336 := eq_true q336
      have p337 : 0 ≤ (2 : Int) := (by omega)
      have q337 : 2 < ((rd_L2 l0_2 a1).length : Int) := of_decide_eq_true AS
      obtain ⟨ad337, e337, hx337_0⟩ := Kd.at_int HR327_0.out 2 p337 q337
      have hw337_0 := hx337_0
      (try rw [show ((2 : Int)).toNat = 2 from rfl] at hw337_0)
      (try rw [show 2 * 1 = 2 from rfl] at hw337_0)
      (try simp only [Nat.reduceMul, Nat.reduceEqDiff, Go.Addr.add, ↓reduceIte] at hw337_0)
      obtain rfl : ad331 = ad337 := (by injection e337)
      (try simp only [show (2 : Int).toNat = 2 from rfl, Nat.reduceMul, Nat.reduceEqDiff, Go.Addr.add, ↓reduceIte] at hx337_0)
      have qi337 : (2 < (rd_L2 l0_2 a1).length) = True := eq_true (by omega)
      (try rw [show ((2 : Int)).toNat = 2 from rfl] at hx337_0)
      try (replace hx337_0 := (HB.out.cell (World.block_lt_of_cell? w _ hx337_0)).trans hx337_0)
      replace p337 := eq_true p337
      replace q337 := eq_true q337
      have p341 : 0 ≤ (1 : Int) := (by omega)
      have q341 : 1 < ((rd_L2 l0_2 a1).length : Int) := of_decide_eq_true AS
      obtain ⟨ad341, e341, hx341_0⟩ := Kd.at_int HR327_0.out 1 p341 q341
      have hw341_0 := hx341_0
      (try rw [show ((1 : Int)).toNat = 1 from rfl] at hw341_0)
      (try rw [show 1 * 1 = 1 from rfl] at hw341_0)
      (try simp only [Nat.reduceMul, Nat.reduceEqDiff, Go.Addr.add, ↓reduceIte] at hw341_0)
      obtain rfl : ad331 = ad341 := (by injection e341)
      (try simp only [show (1 : Int).toNat = 1 from rfl, Nat.reduceMul, Nat.reduceEqDiff, Go.Addr.add, ↓reduceIte] at hx341_0)
      have qi341 : (1 < (rd_L2 l0_2 a1).length) = True := eq_true (by omega)
      (try rw [show ((1 : Int)).toNat = 1 from rfl] at hx341_0)
      try (replace hx341_0 := (HB.out.cell (World.block_lt_of_cell? w _ hx341_0)).trans hx341_0)
      replace p341 := eq_true p341
      replace q341 := eq_true q341
      have p342 : 0 ≤ (2 : Int) := (by omega)
      have q342 : 2 < ((rd_L2 l0_2 a1).length : Int) := of_decide_eq_true AS
      obtain ⟨ad342, e342, hx342_0⟩ := Kd.at_int HR327_0.out 2 p342 q342
      have hw342_0 := hx342_0
      (try rw [show ((2 : Int)).toNat = 2 from rfl] at hw342_0)
      (try rw [show 2 * 1 = 2 from rfl] at hw342_0)
      (try simp only [Nat.reduceMul, Nat.reduceEqDiff, Go.Addr.add, ↓reduceIte] at hw342_0)
      obtain rfl : ad331 = ad342 := (by injection e342)
      (try simp only [show (2 : Int).toNat = 2 from rfl, Nat.reduceMul, Nat.reduceEqDiff, Go.Addr.add, ↓reduceIte] at hx342_0)
      have qi342 : (2 < (rd_L2 l0_2 a1).length) = True := eq_true (by omega)
      (try rw [show ((2 : Int)).toNat = 2 from rfl] at hx342_0)
      try (replace hx342_0 := (HB.out.cell (World.block_lt_of_cell? w _ hx342_0)).trans hx342_0)
      replace p342 := eq_true p342
      replace q342 := eq_true q342
      refine start_ (n := 24) (S := fun w' => True) (ds := []) #[false, false, false, false, false, false, false, false, false, false, false, false, false, false, false, false, false, false, false, false, false, false, false, false] (by kernel_rfl) rfl rfl trivial (fun hHeld => ?_); refine with_tabW impl_house_doors.tab2 impl_house_doors.bits2 (fun HT_ HW_ => ?_)
      generalize w10.drew = w12 at HO330 BK326 HB hx331_0 hx332_0 hx336_0 hx337_0 hx341_0 hx342_0 hHeld ⊢
      refine pure_ (i := 0) (N := some 15) #[true, false, false, false, false, false, false, false, false, false, false, false, false, false, false, false, false, false, false, false, false, false, false, false] rfl rfl (any_of HT_.out (by kernel_rfl)) (fun _ _ _ h => h) (Or.inl ⟨by rfl, PW⟩) PU ?_
      refine pure_ (i := 3) (N := some 18) #[true, false, false, true, false, false, false, false, false, false, false, false, false, false, false, false, false, false, false, false, false, false, false, false] rfl rfl (any_of HT_.out (by kernel_rfl)) (fun _ _ _ h => h) (Or.inl ⟨by rfl, PW⟩) PU ?_
      refine pure_ (i := 7) (N := some 22) #[true, false, false, true, false, false, false, true, false, false, false, false, false, false, false, false, false, false, false, false, false, false, false, false] rfl rfl (any_of HT_.out (by kernel_rfl)) (fun _ _ _ h => h) (Or.inl ⟨by rfl, PW⟩) PU ?_
      refine pure_ (i := 10) (N := some 25) #[true, false, false, true, false, false, false, true, false, false, true, false, false, false, false, false, false, false, false, false, false, false, false, false] rfl rfl (any_of HT_.out (by kernel_rfl)) (fun _ _ _ h => h) (Or.inl ⟨by rfl, PW⟩) PU ?_
      refine pure_ (i := 14) (N := some 29) #[true, false, false, true, false, false, false, true, false, false, true, false, false, false, true, false, false, false, false, false, false, false, false, false] rfl rfl (any_of HT_.out (by kernel_rfl)) (fun _ _ _ h => h) (Or.inl ⟨by rfl, PW⟩) PU ?_
      refine pure_ (i := 17) (N := some 32) #[true, false, false, true, false, false, false, true, false, false, true, false, false, false, true, false, false, true, false, false, false, false, false, false] rfl rfl (any_of HT_.out (by kernel_rfl)) (fun _ _ _ h => h) (Or.inl ⟨by rfl, PW⟩) PU ?_
      refine pure_ (i := 23) (N := some 38) #[true, false, false, true, false, false, false, true, false, false, true, false, false, false, true, false, false, true, false, false, false, false, false, true] rfl rfl (any_of HT_.out (by kernel_rfl)) (fun _ _ _ h => h) (Or.inl ⟨by rfl, PW⟩) PU ?_
      refine inv_at [1, 2, 4, 5, 6, 8, 9, 11, 12, 13, 15, 16, 18, 19, 20, 21, 22] (fun a0_ b a w' => ∃ (v334 : Value) (v339 : Value) (v344 : Value) (v347 : Value), a = putSel a0_ b [(1, 16, .pointer (some ad331)), (2, 17, .int .i64 (rd (rd_L2 l0_2 a1) 0)), (4, 19, .pointer (some (ad331.add 1))), (5, 20, .int .i64 (rd (rd_L2 l0_2 a1) 1)), (6, 21, v334), (8, 23, .pointer (some ad331)), (9, 24, .int .i64 (rd (rd_L2 l0_2 a1) 0)), (11, 26, .pointer (some (ad331.add 2))), (12, 27, .int .i64 (rd (rd_L2 l0_2 a1) 2)), (13, 28, v339), (15, 30, .pointer (some (ad331.add 1))), (16, 31, .int .i64 (rd (rd_L2 l0_2 a1) 1)), (18, 33, .pointer (some (ad331.add 2))), (19, 34, .int .i64 (rd (rd_L2 l0_2 a1) 2)), (20, 35, v344), (21, 36, v347), (22, 37, .int .i64 (y346.length : Int))] ∧ (Kd.N (Kd.slice 3 (Kd.int .i64)) 24 w' w.heap.size (fun k_ => (w.heap.size ≤ k_) ∧ k_ ≠ gb326) v329 y328) ∧ (w'.heap[gb326]? = some (.cells #[.int .i64 a0_0, .slice A0_1 l0_1.length c0_1, .slice (some ad327) l0_2.length c0_2, .slice A0_3 l0_3.length c0_3] 55 (0, 0))) ∧ (Below w.heap.size w w') ∧ (b 6 = true → b 21 = false → Kd.R (Kd.int .i64) 3 w' w.heap.size (fun k_ => (w.heap.size ≤ k_)) v334 y333) ∧ (b 13 = true → b 21 = false → Kd.R (Kd.int .i64) 3 w' w.heap.size (fun k_ => (w.heap.size ≤ k_)) v339 y338) ∧ (b 20 = true → b 21 = false → Kd.R (Kd.int .i64) 3 w' w.heap.size (fun k_ => (w.heap.size ≤ k_)) v344 y343) ∧ (b 21 = true → Kd.N (Kd.slice 3 (Kd.int .i64)) 24 w' w.heap.size (fun k_ => (w.heap.size ≤ k_) ∧ some k_ ≠ (v329 : Value).ownBlock ∧ k_ ≠ gb326) v347 y346)) HT_.out HW_.out (by kernel_rfl) (by kernel_rfl) ?_ ?_ ?_
      ·exact ⟨.bool false, .bool false, .bool false, .bool false, by simp only [putSel, Bool.false_eq_true, if_false], HO330.out, BK326.out, HB.out, fun h_ => absurd h_ (by decide), fun h_ => absurd h_ (by decide), fun h_ => absurd h_ (by decide), fun h_ => absurd h_ (by decide)⟩
      ·skip
       clear BK326 HB HO330
       refine steps_cons ?_ ?_
       ·rintro b a w' ⟨v334, v339, v344, v347, ha, Q_HO330, Q_BK326, Q_HB, Q_HO335, Q_HO340, Q_HO345, Q_HO348⟩ hb_ hon hoff
        refine ⟨_, rfl, fun K hK => ?_⟩
        have e15 : a.tmps[15]? = some (.slice (some ad331) (rd_L2 l0_2 a1).length c327_0) := by rw [ha]; exact (putSel_off rfl).trans rfl
        replace ha := Aside0.mk ha
        have HO330 := Aside0.mk Q_HO330
        have BK326 := Aside0.mk Q_BK326
        have HB := Aside0.mk Q_HB
        have hs0_ : w'.cell? ad331 = some (.int .i64 (rd (rd_L2 l0_2 a1) 0)) := ((HB.out.cell (World.block_lt_of_cell? w _ hw331_0)).trans hw331_0)
        refine value_ (w1 := w') (v := .pointer (some ad331)) (by rfl) rfl ?_ ?_
        ·exact PG
        refine hK.out _ _ ⟨v334, v339, v344, v347, (by rw [ha.out]; exact putSel_upk 0 hb_ rfl rfl rfl), Q_HO330, Q_BK326, Q_HB, fun h0_ _ => absurd ((hoff 6 (by kernel_rfl)).symm.trans h0_) (by decide), Q_HO340, Q_HO345, fun h0_ => absurd ((hoff 21 (by kernel_rfl)).symm.trans h0_) (by decide)⟩
       refine steps_cons ?_ ?_
       ·rintro b a w' ⟨v334, v339, v344, v347, ha, Q_HO330, Q_BK326, Q_HB, Q_HO335, Q_HO340, Q_HO345, Q_HO348⟩ hb_ hon hoff
        refine ⟨_, rfl, fun K hK => ?_⟩
        have e16 : a.tmps[16]? = some (.pointer (some ad331)) := by rw [ha]; exact putSel_on (e := (1, 16, .pointer (some ad331))) 0 rfl rfl (hon 1 (by kernel_rfl)) rfl
        replace ha := Aside0.mk ha
        have HO330 := Aside0.mk Q_HO330
        have BK326 := Aside0.mk Q_BK326
        have HB := Aside0.mk Q_HB
        have hs0_ : w'.cell? ad331 = some (.int .i64 (rd (rd_L2 l0_2 a1) 0)) := ((HB.out.cell (World.block_lt_of_cell? w _ hw331_0)).trans hw331_0)
        refine value_ (w1 := w') (v := .int .i64 (rd (rd_L2 l0_2 a1) 0)) (by rfl) rfl ?_ ?_
        ·exact PG
        refine hK.out _ _ ⟨v334, v339, v344, v347, (by rw [ha.out]; exact putSel_upk 1 hb_ rfl rfl rfl), Q_HO330, Q_BK326, Q_HB, fun h0_ _ => absurd ((hoff 6 (by kernel_rfl)).symm.trans h0_) (by decide), Q_HO340, Q_HO345, fun h0_ => absurd ((hoff 21 (by kernel_rfl)).symm.trans h0_) (by decide)⟩
       refine steps_cons ?_ ?_
       ·rintro b a w' ⟨v334, v339, v344, v347, ha, Q_HO330, Q_BK326, Q_HB, Q_HO335, Q_HO340, Q_HO345, Q_HO348⟩ hb_ hon hoff
        refine ⟨_, rfl, fun K hK => ?_⟩
        have e18 : a.tmps[18]? = some (.slice (some ad331) (rd_L2 l0_2 a1).length c327_0) := by rw [ha]; exact (putSel_off rfl).trans rfl
        replace ha := Aside0.mk ha
        have HO330 := Aside0.mk Q_HO330
        have BK326 := Aside0.mk Q_BK326
        have HB := Aside0.mk Q_HB
        have hs1_ : w'.cell? ⟨ad331.block, ad331.off + 1, none⟩ = some (.int .i64 (rd (rd_L2 l0_2 a1) 1)) := ((HB.out.cell (World.block_lt_of_cell? w _ hw332_0)).trans hw332_0)
        refine value_ (w1 := w') (v := .pointer (some (ad331.add 1))) (by rfl) rfl ?_ ?_
        ·exact PG
        refine hK.out _ _ ⟨v334, v339, v344, v347, (by rw [ha.out]; exact putSel_upk 2 hb_ rfl rfl rfl), Q_HO330, Q_BK326, Q_HB, fun h0_ _ => absurd ((hoff 6 (by kernel_rfl)).symm.trans h0_) (by decide), Q_HO340, Q_HO345, fun h0_ => absurd ((hoff 21 (by kernel_rfl)).symm.trans h0_) (by decide)⟩
       refine steps_cons ?_ ?_
       ·rintro b a w' ⟨v334, v339, v344, v347, ha, Q_HO330, Q_BK326, Q_HB, Q_HO335, Q_HO340, Q_HO345, Q_HO348⟩ hb_ hon hoff
        refine ⟨_, rfl, fun K hK => ?_⟩
        have e19 : a.tmps[19]? = some (.pointer (some (ad331.add 1))) := by rw [ha]; exact putSel_on (e := (4, 19, .pointer (some (ad331.add 1)))) 2 rfl rfl (hon 4 (by kernel_rfl)) rfl
        replace ha := Aside0.mk ha
        have HO330 := Aside0.mk Q_HO330
        have BK326 := Aside0.mk Q_BK326
        have HB := Aside0.mk Q_HB
        have hs1_ : w'.cell? ⟨ad331.block, ad331.off + 1, none⟩ = some (.int .i64 (rd (rd_L2 l0_2 a1) 1)) := ((HB.out.cell (World.block_lt_of_cell? w _ hw332_0)).trans hw332_0)
        refine value_ (w1 := w') (v := .int .i64 (rd (rd_L2 l0_2 a1) 1)) (by rfl) rfl ?_ ?_
        ·exact PG
        refine hK.out _ _ ⟨v334, v339, v344, v347, (by rw [ha.out]; exact putSel_upk 3 hb_ rfl rfl rfl), Q_HO330, Q_BK326, Q_HB, fun h0_ _ => absurd ((hoff 6 (by kernel_rfl)).symm.trans h0_) (by decide), Q_HO340, Q_HO345, fun h0_ => absurd ((hoff 21 (by kernel_rfl)).symm.trans h0_) (by decide)⟩
       refine steps_cons ?_ ?_
       ·rintro b a w' ⟨v334, v339, v344, v347, ha, Q_HO330, Q_BK326, Q_HB, Q_HO335, Q_HO340, Q_HO345, Q_HO348⟩ hb_ hon hoff
        refine ⟨_, rfl, fun K hK => ?_⟩
        have e17 : a.tmps[17]? = some (.int .i64 (rd (rd_L2 l0_2 a1) 0)) := by rw [ha]; exact putSel_on (e := (2, 17, .int .i64 (rd (rd_L2 l0_2 a1) 0))) 1 rfl rfl (hon 2 (by kernel_rfl)) rfl
        have e20 : a.tmps[20]? = some (.int .i64 (rd (rd_L2 l0_2 a1) 1)) := by rw [ha]; exact putSel_on (e := (5, 20, .int .i64 (rd (rd_L2 l0_2 a1) 1))) 3 rfl rfl (hon 5 (by kernel_rfl)) rfl
        replace ha := Aside0.mk ha
        have HO330 := Aside0.mk Q_HO330
        have BK326 := Aside0.mk Q_BK326
        have HB := Aside0.mk Q_HB
        refine Kd.R_lit_step (Kd.int .i64) _ 3 ?hg (N := 21) ?hd (xs := ([rd (rd_L2 l0_2 a1) 0, rd (rd_L2 l0_2 a1) 1] : List Int)) (inner := [.int .i64 (rd (rd_L2 l0_2 a1) 0), .int .i64 (rd (rd_L2 l0_2 a1) 1)]) (ok := fun _ => True) (okp := fun _ => True) ?hr ?hp (fun _ hk => hk) trivial (Below.refl _ _) (Nat.le_refl _) (by simp) ?_; (case hd => rfl); (case hg => rfl); (case hr => exact GS); (case hp => exact (Reps.one (show Kd.M (Kd.int .i64) _ _ _ (rd (rd_L2 l0_2 a1) 0) [.int .i64 (rd (rd_L2 l0_2 a1) 0)] from rfl) (Reps.one (show Kd.M (Kd.int .i64) _ _ _ (rd (rd_L2 l0_2 a1) 1) [.int .i64 (rd (rd_L2 l0_2 a1) 1)] from rfl) (Reps.none _ _))))
        intro v334 w13 ho14 hb hg_ hnew_
        clear hg_ hnew_
        (first | rw [← Ny333.out] at ho14 | (simp only [Int.reduceToNat] at ho14; rw [← Ny333.out] at ho14))
        have n0_ := Aside0.mk (Kd.N_elder' (KN HO330) (Kd.R_base ho14) hb)
        have n1_ := Aside0.mk (Kd.R_lower (Kd.R_newM (M := fun k_ => (w.heap.size ≤ k_)) ho14 (below_size (AGE GE326)) (fun k_ h_ => h_)) (below_size (AGE GE326)))
        have n2_ := Aside0.mk (blk_below (g := gb326) (o := .cells #[.int .i64 a0_0, .slice A0_1 l0_1.length c0_1, .slice (some ad327) l0_2.length c0_2, .slice A0_3 l0_3.length c0_3] 55 (0, 0)) (BW BK326) hb)
        have n3_ := Aside0.mk (below_step (AGE GE326) hb)
        have z_HO340 := fun (h0_ : b 13 = true) (h1_ : b 21 = false) => (show Kd.R (Kd.int .i64) 3 w13 w.heap.size (fun k_ => (w.heap.size ≤ k_)) v339 y338 from by first | exact (Kd.R_elder' (by (with_reducible repeat (first | apply Kd.R_alloc | apply Kd.R_drewN | apply Kd.R_drew)); exact (Q_HO340 h0_ h1_)) (Kd.R_base ho14) hb) | exact Kd.R_mono (Kd.R_elder' (by (with_reducible repeat (first | apply Kd.R_alloc | apply Kd.R_drewN | apply Kd.R_drew)); exact (Q_HO340 h0_ h1_)) (Kd.R_base ho14) hb) (fun _ h_ => by first | trivial | exact h_ | exact h_.1))
        have z_HO345 := fun (h0_ : b 20 = true) (h1_ : b 21 = false) => (show Kd.R (Kd.int .i64) 3 w13 w.heap.size (fun k_ => (w.heap.size ≤ k_)) v344 y343 from by first | exact (Kd.R_elder' (by (with_reducible repeat (first | apply Kd.R_alloc | apply Kd.R_drewN | apply Kd.R_drew)); exact (Q_HO345 h0_ h1_)) (Kd.R_base ho14) hb) | exact Kd.R_mono (Kd.R_elder' (by (with_reducible repeat (first | apply Kd.R_alloc | apply Kd.R_drewN | apply Kd.R_drew)); exact (Q_HO345 h0_ h1_)) (Kd.R_base ho14) hb) (fun _ h_ => by first | trivial | exact h_ | exact h_.1))
        clear HO330
        clear BK326
        clear HB
        have HO330 := n0_
        have HO335 := n1_
        have BK326 := n2_
        have HB := n3_
        clear n0_ n1_ n2_ n3_
        clear hb ho14
        refine hK.out _ _ ⟨v334, v339, v344, v347, (by rw [ha.out]; exact putSel_upk 4 hb_ rfl rfl rfl), (by (with_reducible repeat (first | apply Kd.N_alloc | apply Kd.N_drewN | apply Kd.N_drew)); exact Kd.N_mono HO330.out (fun _ hk => by first | exact ⟨hk.1.1, ⟨hk.2, hk.1.2⟩⟩ | exact hk.1 | exact hk)), (BW BK326), (AGE GE326), fun _ _ => (by (with_reducible repeat (first | apply Kd.R_alloc | apply Kd.R_drewN | apply Kd.R_drew)); exact Kd.R_mono HO335.out (fun _ hk => hk.1)), z_HO340, z_HO345, fun h0_ => absurd ((hoff 21 (by kernel_rfl)).symm.trans h0_) (by decide)⟩
       refine steps_cons ?_ ?_
       ·rintro b a w' ⟨v334, v339, v344, v347, ha, Q_HO330, Q_BK326, Q_HB, Q_HO335, Q_HO340, Q_HO345, Q_HO348⟩ hb_ hon hoff
        refine ⟨_, rfl, fun K hK => ?_⟩
        have e22 : a.tmps[22]? = some (.slice (some ad331) (rd_L2 l0_2 a1).length c327_0) := by rw [ha]; exact (putSel_off rfl).trans rfl
        replace ha := Aside0.mk ha
        have HO330 := Aside0.mk Q_HO330
        have BK326 := Aside0.mk Q_BK326
        have HB := Aside0.mk Q_HB
        have hs2_ : w'.cell? ad331 = some (.int .i64 (rd (rd_L2 l0_2 a1) 0)) := ((HB.out.cell (World.block_lt_of_cell? w _ hw336_0)).trans hw336_0)
        refine value_ (w1 := w') (v := .pointer (some ad331)) (by rfl) rfl ?_ ?_
        ·exact PG
        refine hK.out _ _ ⟨v334, v339, v344, v347, (by rw [ha.out]; exact putSel_upk 5 hb_ rfl rfl rfl), Q_HO330, Q_BK326, Q_HB, Q_HO335, fun h0_ _ => absurd ((hoff 13 (by kernel_rfl)).symm.trans h0_) (by decide), Q_HO345, fun h0_ => absurd ((hoff 21 (by kernel_rfl)).symm.trans h0_) (by decide)⟩
       refine steps_cons ?_ ?_
       ·rintro b a w' ⟨v334, v339, v344, v347, ha, Q_HO330, Q_BK326, Q_HB, Q_HO335, Q_HO340, Q_HO345, Q_HO348⟩ hb_ hon hoff
        refine ⟨_, rfl, fun K hK => ?_⟩
        have e23 : a.tmps[23]? = some (.pointer (some ad331)) := by rw [ha]; exact putSel_on (e := (8, 23, .pointer (some ad331))) 5 rfl rfl (hon 8 (by kernel_rfl)) rfl
        replace ha := Aside0.mk ha
        have HO330 := Aside0.mk Q_HO330
        have BK326 := Aside0.mk Q_BK326
        have HB := Aside0.mk Q_HB
        have hs2_ : w'.cell? ad331 = some (.int .i64 (rd (rd_L2 l0_2 a1) 0)) := ((HB.out.cell (World.block_lt_of_cell? w _ hw336_0)).trans hw336_0)
        refine value_ (w1 := w') (v := .int .i64 (rd (rd_L2 l0_2 a1) 0)) (by rfl) rfl ?_ ?_
        ·exact PG
        refine hK.out _ _ ⟨v334, v339, v344, v347, (by rw [ha.out]; exact putSel_upk 6 hb_ rfl rfl rfl), Q_HO330, Q_BK326, Q_HB, Q_HO335, fun h0_ _ => absurd ((hoff 13 (by kernel_rfl)).symm.trans h0_) (by decide), Q_HO345, fun h0_ => absurd ((hoff 21 (by kernel_rfl)).symm.trans h0_) (by decide)⟩
       refine steps_cons ?_ ?_
       ·rintro b a w' ⟨v334, v339, v344, v347, ha, Q_HO330, Q_BK326, Q_HB, Q_HO335, Q_HO340, Q_HO345, Q_HO348⟩ hb_ hon hoff
        refine ⟨_, rfl, fun K hK => ?_⟩
        have e25 : a.tmps[25]? = some (.slice (some ad331) (rd_L2 l0_2 a1).length c327_0) := by rw [ha]; exact (putSel_off rfl).trans rfl
        replace ha := Aside0.mk ha
        have HO330 := Aside0.mk Q_HO330
        have BK326 := Aside0.mk Q_BK326
        have HB := Aside0.mk Q_HB
        have hs3_ : w'.cell? ⟨ad331.block, ad331.off + 2, none⟩ = some (.int .i64 (rd (rd_L2 l0_2 a1) 2)) := ((HB.out.cell (World.block_lt_of_cell? w _ hw337_0)).trans hw337_0)
        refine value_ (w1 := w') (v := .pointer (some (ad331.add 2))) (by rfl) rfl ?_ ?_
        ·exact PG
        refine hK.out _ _ ⟨v334, v339, v344, v347, (by rw [ha.out]; exact putSel_upk 7 hb_ rfl rfl rfl), Q_HO330, Q_BK326, Q_HB, Q_HO335, fun h0_ _ => absurd ((hoff 13 (by kernel_rfl)).symm.trans h0_) (by decide), Q_HO345, fun h0_ => absurd ((hoff 21 (by kernel_rfl)).symm.trans h0_) (by decide)⟩
       refine steps_cons ?_ ?_
       ·rintro b a w' ⟨v334, v339, v344, v347, ha, Q_HO330, Q_BK326, Q_HB, Q_HO335, Q_HO340, Q_HO345, Q_HO348⟩ hb_ hon hoff
        refine ⟨_, rfl, fun K hK => ?_⟩
        have e26 : a.tmps[26]? = some (.pointer (some (ad331.add 2))) := by rw [ha]; exact putSel_on (e := (11, 26, .pointer (some (ad331.add 2)))) 7 rfl rfl (hon 11 (by kernel_rfl)) rfl
        replace ha := Aside0.mk ha
        have HO330 := Aside0.mk Q_HO330
        have BK326 := Aside0.mk Q_BK326
        have HB := Aside0.mk Q_HB
        have hs3_ : w'.cell? ⟨ad331.block, ad331.off + 2, none⟩ = some (.int .i64 (rd (rd_L2 l0_2 a1) 2)) := ((HB.out.cell (World.block_lt_of_cell? w _ hw337_0)).trans hw337_0)
        refine value_ (w1 := w') (v := .int .i64 (rd (rd_L2 l0_2 a1) 2)) (by rfl) rfl ?_ ?_
        ·exact PG
        refine hK.out _ _ ⟨v334, v339, v344, v347, (by rw [ha.out]; exact putSel_upk 8 hb_ rfl rfl rfl), Q_HO330, Q_BK326, Q_HB, Q_HO335, fun h0_ _ => absurd ((hoff 13 (by kernel_rfl)).symm.trans h0_) (by decide), Q_HO345, fun h0_ => absurd ((hoff 21 (by kernel_rfl)).symm.trans h0_) (by decide)⟩
       refine steps_cons ?_ ?_
       ·rintro b a w' ⟨v334, v339, v344, v347, ha, Q_HO330, Q_BK326, Q_HB, Q_HO335, Q_HO340, Q_HO345, Q_HO348⟩ hb_ hon hoff
        refine ⟨_, rfl, fun K hK => ?_⟩
        have e24 : a.tmps[24]? = some (.int .i64 (rd (rd_L2 l0_2 a1) 0)) := by rw [ha]; exact putSel_on (e := (9, 24, .int .i64 (rd (rd_L2 l0_2 a1) 0))) 6 rfl rfl (hon 9 (by kernel_rfl)) rfl
        have e27 : a.tmps[27]? = some (.int .i64 (rd (rd_L2 l0_2 a1) 2)) := by rw [ha]; exact putSel_on (e := (12, 27, .int .i64 (rd (rd_L2 l0_2 a1) 2))) 8 rfl rfl (hon 12 (by kernel_rfl)) rfl
        replace ha := Aside0.mk ha
        have HO330 := Aside0.mk Q_HO330
        have BK326 := Aside0.mk Q_BK326
        have HB := Aside0.mk Q_HB
        refine Kd.R_lit_step (Kd.int .i64) _ 3 ?hg (N := 28) ?hd (xs := ([rd (rd_L2 l0_2 a1) 0, rd (rd_L2 l0_2 a1) 2] : List Int)) (inner := [.int .i64 (rd (rd_L2 l0_2 a1) 0), .int .i64 (rd (rd_L2 l0_2 a1) 2)]) (ok := fun _ => True) (okp := fun _ => True) ?hr ?hp (fun _ hk => hk) trivial (Below.refl _ _) (Nat.le_refl _) (by simp) ?_; (case hd => rfl); (case hg => rfl); (case hr => exact GS); (case hp => exact (Reps.one (show Kd.M (Kd.int .i64) _ _ _ (rd (rd_L2 l0_2 a1) 0) [.int .i64 (rd (rd_L2 l0_2 a1) 0)] from rfl) (Reps.one (show Kd.M (Kd.int .i64) _ _ _ (rd (rd_L2 l0_2 a1) 2) [.int .i64 (rd (rd_L2 l0_2 a1) 2)] from rfl) (Reps.none _ _))))
        intro v339 w13 ho14 hb hg_ hnew_
        clear hg_ hnew_
        (first | rw [← Ny338.out] at ho14 | (simp only [Int.reduceToNat] at ho14; rw [← Ny338.out] at ho14))
        have n0_ := Aside0.mk (Kd.N_elder' (KN HO330) (Kd.R_base ho14) hb)
        have n1_ := Aside0.mk (Kd.R_lower (Kd.R_newM (M := fun k_ => (w.heap.size ≤ k_)) ho14 (below_size (AGE GE326)) (fun k_ h_ => h_)) (below_size (AGE GE326)))
        have n2_ := Aside0.mk (blk_below (g := gb326) (o := .cells #[.int .i64 a0_0, .slice A0_1 l0_1.length c0_1, .slice (some ad327) l0_2.length c0_2, .slice A0_3 l0_3.length c0_3] 55 (0, 0)) (BW BK326) hb)
        have n3_ := Aside0.mk (below_step (AGE GE326) hb)
        have z_HO335 := fun (h0_ : b 6 = true) (h1_ : b 21 = false) => (show Kd.R (Kd.int .i64) 3 w13 w.heap.size (fun k_ => (w.heap.size ≤ k_)) v334 y333 from by first | exact (Kd.R_elder' (by (with_reducible repeat (first | apply Kd.R_alloc | apply Kd.R_drewN | apply Kd.R_drew)); exact (Q_HO335 h0_ h1_)) (Kd.R_base ho14) hb) | exact Kd.R_mono (Kd.R_elder' (by (with_reducible repeat (first | apply Kd.R_alloc | apply Kd.R_drewN | apply Kd.R_drew)); exact (Q_HO335 h0_ h1_)) (Kd.R_base ho14) hb) (fun _ h_ => by first | trivial | exact h_ | exact h_.1))
        have z_HO345 := fun (h0_ : b 20 = true) (h1_ : b 21 = false) => (show Kd.R (Kd.int .i64) 3 w13 w.heap.size (fun k_ => (w.heap.size ≤ k_)) v344 y343 from by first | exact (Kd.R_elder' (by (with_reducible repeat (first | apply Kd.R_alloc | apply Kd.R_drewN | apply Kd.R_drew)); exact (Q_HO345 h0_ h1_)) (Kd.R_base ho14) hb) | exact Kd.R_mono (Kd.R_elder' (by (with_reducible repeat (first | apply Kd.R_alloc | apply Kd.R_drewN | apply Kd.R_drew)); exact (Q_HO345 h0_ h1_)) (Kd.R_base ho14) hb) (fun _ h_ => by first | trivial | exact h_ | exact h_.1))
        clear HO330
        clear BK326
        clear HB
        have HO330 := n0_
        have HO340 := n1_
        have BK326 := n2_
        have HB := n3_
        clear n0_ n1_ n2_ n3_
        clear hb ho14
        refine hK.out _ _ ⟨v334, v339, v344, v347, (by rw [ha.out]; exact putSel_upk 9 hb_ rfl rfl rfl), (by (with_reducible repeat (first | apply Kd.N_alloc | apply Kd.N_drewN | apply Kd.N_drew)); exact Kd.N_mono HO330.out (fun _ hk => by first | exact ⟨hk.1.1, ⟨hk.2, hk.1.2⟩⟩ | exact hk.1 | exact hk)), (BW BK326), (AGE GE326), z_HO335, fun _ _ => (by (with_reducible repeat (first | apply Kd.R_alloc | apply Kd.R_drewN | apply Kd.R_drew)); exact Kd.R_mono HO340.out (fun _ hk => hk.1)), z_HO345, fun h0_ => absurd ((hoff 21 (by kernel_rfl)).symm.trans h0_) (by decide)⟩
       refine steps_cons ?_ ?_
       ·rintro b a w' ⟨v334, v339, v344, v347, ha, Q_HO330, Q_BK326, Q_HB, Q_HO335, Q_HO340, Q_HO345, Q_HO348⟩ hb_ hon hoff
        refine ⟨_, rfl, fun K hK => ?_⟩
        have e29 : a.tmps[29]? = some (.slice (some ad331) (rd_L2 l0_2 a1).length c327_0) := by rw [ha]; exact (putSel_off rfl).trans rfl
        replace ha := Aside0.mk ha
        have HO330 := Aside0.mk Q_HO330
        have BK326 := Aside0.mk Q_BK326
        have HB := Aside0.mk Q_HB
        have hs4_ : w'.cell? ⟨ad331.block, ad331.off + 1, none⟩ = some (.int .i64 (rd (rd_L2 l0_2 a1) 1)) := ((HB.out.cell (World.block_lt_of_cell? w _ hw341_0)).trans hw341_0)
        refine value_ (w1 := w') (v := .pointer (some (ad331.add 1))) (by rfl) rfl ?_ ?_
        ·exact PG
        refine hK.out _ _ ⟨v334, v339, v344, v347, (by rw [ha.out]; exact putSel_upk 10 hb_ rfl rfl rfl), Q_HO330, Q_BK326, Q_HB, Q_HO335, Q_HO340, fun h0_ _ => absurd ((hoff 20 (by kernel_rfl)).symm.trans h0_) (by decide), fun h0_ => absurd ((hoff 21 (by kernel_rfl)).symm.trans h0_) (by decide)⟩
       refine steps_cons ?_ ?_
       ·rintro b a w' ⟨v334, v339, v344, v347, ha, Q_HO330, Q_BK326, Q_HB, Q_HO335, Q_HO340, Q_HO345, Q_HO348⟩ hb_ hon hoff
        refine ⟨_, rfl, fun K hK => ?_⟩
        have e30 : a.tmps[30]? = some (.pointer (some (ad331.add 1))) := by rw [ha]; exact putSel_on (e := (15, 30, .pointer (some (ad331.add 1)))) 10 rfl rfl (hon 15 (by kernel_rfl)) rfl
        replace ha := Aside0.mk ha
        have HO330 := Aside0.mk Q_HO330
        have BK326 := Aside0.mk Q_BK326
        have HB := Aside0.mk Q_HB
        have hs4_ : w'.cell? ⟨ad331.block, ad331.off + 1, none⟩ = some (.int .i64 (rd (rd_L2 l0_2 a1) 1)) := ((HB.out.cell (World.block_lt_of_cell? w _ hw341_0)).trans hw341_0)
        refine value_ (w1 := w') (v := .int .i64 (rd (rd_L2 l0_2 a1) 1)) (by rfl) rfl ?_ ?_
        ·exact PG
        refine hK.out _ _ ⟨v334, v339, v344, v347, (by rw [ha.out]; exact putSel_upk 11 hb_ rfl rfl rfl), Q_HO330, Q_BK326, Q_HB, Q_HO335, Q_HO340, fun h0_ _ => absurd ((hoff 20 (by kernel_rfl)).symm.trans h0_) (by decide), fun h0_ => absurd ((hoff 21 (by kernel_rfl)).symm.trans h0_) (by decide)⟩
       refine steps_cons ?_ ?_
       ·rintro b a w' ⟨v334, v339, v344, v347, ha, Q_HO330, Q_BK326, Q_HB, Q_HO335, Q_HO340, Q_HO345, Q_HO348⟩ hb_ hon hoff
        refine ⟨_, rfl, fun K hK => ?_⟩
        have e32 : a.tmps[32]? = some (.slice (some ad331) (rd_L2 l0_2 a1).length c327_0) := by rw [ha]; exact (putSel_off rfl).trans rfl
        replace ha := Aside0.mk ha
        have HO330 := Aside0.mk Q_HO330
        have BK326 := Aside0.mk Q_BK326
        have HB := Aside0.mk Q_HB
        have hs5_ : w'.cell? ⟨ad331.block, ad331.off + 2, none⟩ = some (.int .i64 (rd (rd_L2 l0_2 a1) 2)) := ((HB.out.cell (World.block_lt_of_cell? w _ hw342_0)).trans hw342_0)
        refine value_ (w1 := w') (v := .pointer (some (ad331.add 2))) (by rfl) rfl ?_ ?_
        ·exact PG
        refine hK.out _ _ ⟨v334, v339, v344, v347, (by rw [ha.out]; exact putSel_upk 12 hb_ rfl rfl rfl), Q_HO330, Q_BK326, Q_HB, Q_HO335, Q_HO340, fun h0_ _ => absurd ((hoff 20 (by kernel_rfl)).symm.trans h0_) (by decide), fun h0_ => absurd ((hoff 21 (by kernel_rfl)).symm.trans h0_) (by decide)⟩
       refine steps_cons ?_ ?_
       ·rintro b a w' ⟨v334, v339, v344, v347, ha, Q_HO330, Q_BK326, Q_HB, Q_HO335, Q_HO340, Q_HO345, Q_HO348⟩ hb_ hon hoff
        refine ⟨_, rfl, fun K hK => ?_⟩
        have e33 : a.tmps[33]? = some (.pointer (some (ad331.add 2))) := by rw [ha]; exact putSel_on (e := (18, 33, .pointer (some (ad331.add 2)))) 12 rfl rfl (hon 18 (by kernel_rfl)) rfl
        replace ha := Aside0.mk ha
        have HO330 := Aside0.mk Q_HO330
        have BK326 := Aside0.mk Q_BK326
        have HB := Aside0.mk Q_HB
        have hs5_ : w'.cell? ⟨ad331.block, ad331.off + 2, none⟩ = some (.int .i64 (rd (rd_L2 l0_2 a1) 2)) := ((HB.out.cell (World.block_lt_of_cell? w _ hw342_0)).trans hw342_0)
        refine value_ (w1 := w') (v := .int .i64 (rd (rd_L2 l0_2 a1) 2)) (by rfl) rfl ?_ ?_
        ·exact PG
        refine hK.out _ _ ⟨v334, v339, v344, v347, (by rw [ha.out]; exact putSel_upk 13 hb_ rfl rfl rfl), Q_HO330, Q_BK326, Q_HB, Q_HO335, Q_HO340, fun h0_ _ => absurd ((hoff 20 (by kernel_rfl)).symm.trans h0_) (by decide), fun h0_ => absurd ((hoff 21 (by kernel_rfl)).symm.trans h0_) (by decide)⟩
       refine steps_cons ?_ ?_
       ·rintro b a w' ⟨v334, v339, v344, v347, ha, Q_HO330, Q_BK326, Q_HB, Q_HO335, Q_HO340, Q_HO345, Q_HO348⟩ hb_ hon hoff
        refine ⟨_, rfl, fun K hK => ?_⟩
        have e31 : a.tmps[31]? = some (.int .i64 (rd (rd_L2 l0_2 a1) 1)) := by rw [ha]; exact putSel_on (e := (16, 31, .int .i64 (rd (rd_L2 l0_2 a1) 1))) 11 rfl rfl (hon 16 (by kernel_rfl)) rfl
        have e34 : a.tmps[34]? = some (.int .i64 (rd (rd_L2 l0_2 a1) 2)) := by rw [ha]; exact putSel_on (e := (19, 34, .int .i64 (rd (rd_L2 l0_2 a1) 2))) 13 rfl rfl (hon 19 (by kernel_rfl)) rfl
        replace ha := Aside0.mk ha
        have HO330 := Aside0.mk Q_HO330
        have BK326 := Aside0.mk Q_BK326
        have HB := Aside0.mk Q_HB
        refine Kd.R_lit_step (Kd.int .i64) _ 3 ?hg (N := 35) ?hd (xs := ([rd (rd_L2 l0_2 a1) 1, rd (rd_L2 l0_2 a1) 2] : List Int)) (inner := [.int .i64 (rd (rd_L2 l0_2 a1) 1), .int .i64 (rd (rd_L2 l0_2 a1) 2)]) (ok := fun _ => True) (okp := fun _ => True) ?hr ?hp (fun _ hk => hk) trivial (Below.refl _ _) (Nat.le_refl _) (by simp) ?_; (case hd => rfl); (case hg => rfl); (case hr => exact GS); (case hp => exact (Reps.one (show Kd.M (Kd.int .i64) _ _ _ (rd (rd_L2 l0_2 a1) 1) [.int .i64 (rd (rd_L2 l0_2 a1) 1)] from rfl) (Reps.one (show Kd.M (Kd.int .i64) _ _ _ (rd (rd_L2 l0_2 a1) 2) [.int .i64 (rd (rd_L2 l0_2 a1) 2)] from rfl) (Reps.none _ _))))
        intro v344 w13 ho14 hb hg_ hnew_
        clear hg_ hnew_
        (first | rw [← Ny343.out] at ho14 | (simp only [Int.reduceToNat] at ho14; rw [← Ny343.out] at ho14))
        have n0_ := Aside0.mk (Kd.N_elder' (KN HO330) (Kd.R_base ho14) hb)
        have n1_ := Aside0.mk (Kd.R_lower (Kd.R_newM (M := fun k_ => (w.heap.size ≤ k_)) ho14 (below_size (AGE GE326)) (fun k_ h_ => h_)) (below_size (AGE GE326)))
        have n2_ := Aside0.mk (blk_below (g := gb326) (o := .cells #[.int .i64 a0_0, .slice A0_1 l0_1.length c0_1, .slice (some ad327) l0_2.length c0_2, .slice A0_3 l0_3.length c0_3] 55 (0, 0)) (BW BK326) hb)
        have n3_ := Aside0.mk (below_step (AGE GE326) hb)
        have z_HO335 := fun (h0_ : b 6 = true) (h1_ : b 21 = false) => (show Kd.R (Kd.int .i64) 3 w13 w.heap.size (fun k_ => (w.heap.size ≤ k_)) v334 y333 from by first | exact (Kd.R_elder' (by (with_reducible repeat (first | apply Kd.R_alloc | apply Kd.R_drewN | apply Kd.R_drew)); exact (Q_HO335 h0_ h1_)) (Kd.R_base ho14) hb) | exact Kd.R_mono (Kd.R_elder' (by (with_reducible repeat (first | apply Kd.R_alloc | apply Kd.R_drewN | apply Kd.R_drew)); exact (Q_HO335 h0_ h1_)) (Kd.R_base ho14) hb) (fun _ h_ => by first | trivial | exact h_ | exact h_.1))
        have z_HO340 := fun (h0_ : b 13 = true) (h1_ : b 21 = false) => (show Kd.R (Kd.int .i64) 3 w13 w.heap.size (fun k_ => (w.heap.size ≤ k_)) v339 y338 from by first | exact (Kd.R_elder' (by (with_reducible repeat (first | apply Kd.R_alloc | apply Kd.R_drewN | apply Kd.R_drew)); exact (Q_HO340 h0_ h1_)) (Kd.R_base ho14) hb) | exact Kd.R_mono (Kd.R_elder' (by (with_reducible repeat (first | apply Kd.R_alloc | apply Kd.R_drewN | apply Kd.R_drew)); exact (Q_HO340 h0_ h1_)) (Kd.R_base ho14) hb) (fun _ h_ => by first | trivial | exact h_ | exact h_.1))
        clear HO330
        clear BK326
        clear HB
        have HO330 := n0_
        have HO345 := n1_
        have BK326 := n2_
        have HB := n3_
        clear n0_ n1_ n2_ n3_
        clear hb ho14
        refine hK.out _ _ ⟨v334, v339, v344, v347, (by rw [ha.out]; exact putSel_upk 14 hb_ rfl rfl rfl), (by (with_reducible repeat (first | apply Kd.N_alloc | apply Kd.N_drewN | apply Kd.N_drew)); exact Kd.N_mono HO330.out (fun _ hk => by first | exact ⟨hk.1.1, ⟨hk.2, hk.1.2⟩⟩ | exact hk.1 | exact hk)), (BW BK326), (AGE GE326), z_HO335, z_HO340, fun _ _ => (by (with_reducible repeat (first | apply Kd.R_alloc | apply Kd.R_drewN | apply Kd.R_drew)); exact Kd.R_mono HO345.out (fun _ hk => hk.1)), fun h0_ => absurd ((hoff 21 (by kernel_rfl)).symm.trans h0_) (by decide)⟩
       refine steps_cons ?_ ?_
       ·rintro b a w' ⟨v334, v339, v344, v347, ha, Q_HO330, Q_BK326, Q_HB, Q_HO335, Q_HO340, Q_HO345, Q_HO348⟩ hb_ hon hoff
        refine ⟨_, rfl, fun K hK => ?_⟩
        have e21 : a.tmps[21]? = some (v334) := by rw [ha]; exact putSel_on (e := (6, 21, v334)) 4 rfl rfl (hon 6 (by kernel_rfl)) rfl
        have e28 : a.tmps[28]? = some (v339) := by rw [ha]; exact putSel_on (e := (13, 28, v339)) 9 rfl rfl (hon 13 (by kernel_rfl)) rfl
        have e35 : a.tmps[35]? = some (v344) := by rw [ha]; exact putSel_on (e := (20, 35, v344)) 14 rfl rfl (hon 20 (by kernel_rfl)) rfl
        replace ha := Aside0.mk ha
        have HO330 := Aside0.mk Q_HO330
        have BK326 := Aside0.mk Q_BK326
        have HB := Aside0.mk Q_HB
        have HO335 := Aside0.mk (Q_HO335 (hon 6 (by kernel_rfl)) hb_)
        have HO340 := Aside0.mk (Q_HO340 (hon 13 (by kernel_rfl)) hb_)
        have HO345 := Aside0.mk (Q_HO345 (hon 20 (by kernel_rfl)) hb_)
        obtain ⟨Ao20, co20, eo20⟩ := Kd.R_slice HO335.out
        (first | subst eo20 | (injection eo20 with f1_ f2_ f3_; have f4_ := f1_.symm; have f5_ := f3_.symm; clear f1_ f2_ f3_; subst f4_; subst f5_))
        obtain ⟨Ao21, co21, eo21⟩ := Kd.R_slice HO340.out
        (first | subst eo21 | (injection eo21 with f1_ f2_ f3_; have f4_ := f1_.symm; have f5_ := f3_.symm; clear f1_ f2_ f3_; subst f4_; subst f5_))
        obtain ⟨Ao22, co22, eo22⟩ := Kd.R_slice HO345.out
        (first | subst eo22 | (injection eo22 with f1_ f2_ f3_; have f4_ := f1_.symm; have f5_ := f3_.symm; clear f1_ f2_ f3_; subst f4_; subst f5_))
        refine Kd.N_lit_step (Kd.slice 3 (Kd.int .i64)) _ 24 ?hg (N' := 36) ?hd (xs := ([y333, y338, y343] : List (List Int))) (inner := [.slice Ao20 y333.length co20, .slice Ao21 y338.length co21, .slice Ao22 y343.length co22]) (ok := (fun k_ => (w.heap.size ≤ k_) ∧ some k_ ≠ (v329 : Value).ownBlock ∧ k_ ≠ gb326)) (okp := (fun k_ => (w.heap.size ≤ k_) ∧ some k_ ≠ (v329 : Value).ownBlock ∧ k_ ≠ gb326)) ?hr ?hp (fun _ hk => hk) ((show ∀ k_, w'.heap.size ≤ k_ → (fun k_ => (w.heap.size ≤ k_) ∧ some k_ ≠ (v329 : Value).ownBlock ∧ k_ ≠ gb326) k_ from fun k_ hk => ⟨(Nat.le_trans (below_size (AGE GE326)) hk), Kd.fresh' (Kd.N_lt (KN HO330)) k_ hk, Kd.freshB (g := gb326) (o := .cells #[.int .i64 a0_0, .slice A0_1 l0_1.length c0_1, .slice (some ad327) l0_2.length c0_2, .slice A0_3 l0_3.length c0_3] 55 (0, 0)) (BW BK326) k_ hk⟩) _ (Nat.le_refl _)) (Below.refl _ _) (Nat.le_refl _) (by simp) ?_; (case hd => rfl); (case hg => rfl); (case hr => exact GS); (case hp => exact (Reps.one (show Kd.FK (Kd.slice 3 (Kd.int .i64)) _ _ y333 [.slice Ao20 y333.length co20] from (Kd.FK_slice_mk (Kd.R_reads' (Kd.R_mono (ok' := (fun k_ => (w.heap.size ≤ k_) ∧ some k_ ≠ (v329 : Value).ownBlock ∧ k_ ≠ gb326)) (Kd.R_types (Kd.R_apart' (HO335.out) (Kd.N_typed HO330.out) (by decide)) BK326.out (by decide)) (fun k_ hk => by first | exact ⟨hk.1.1.1, ⟨hk.1.2, hk.2⟩⟩ | exact ⟨hk.1.1, ⟨hk.1.2, hk.2⟩⟩))).2.1 (Kd.R_F (Kd.R_mono (ok' := (fun k_ => (w.heap.size ≤ k_) ∧ some k_ ≠ (v329 : Value).ownBlock ∧ k_ ≠ gb326)) (Kd.R_types (Kd.R_apart' (HO335.out) (Kd.N_typed HO330.out) (by decide)) BK326.out (by decide)) (fun k_ hk => by first | exact ⟨hk.1.1.1, ⟨hk.1.2, hk.2⟩⟩ | exact ⟨hk.1.1, ⟨hk.1.2, hk.2⟩⟩))))) (Reps.one (show Kd.FK (Kd.slice 3 (Kd.int .i64)) _ _ y338 [.slice Ao21 y338.length co21] from (Kd.FK_slice_mk (Kd.R_reads' (Kd.R_mono (ok' := (fun k_ => (w.heap.size ≤ k_) ∧ some k_ ≠ (v329 : Value).ownBlock ∧ k_ ≠ gb326)) (Kd.R_types (Kd.R_apart' (HO340.out) (Kd.N_typed HO330.out) (by decide)) BK326.out (by decide)) (fun k_ hk => by first | exact ⟨hk.1.1.1, ⟨hk.1.2, hk.2⟩⟩ | exact ⟨hk.1.1, ⟨hk.1.2, hk.2⟩⟩))).2.1 (Kd.R_F (Kd.R_mono (ok' := (fun k_ => (w.heap.size ≤ k_) ∧ some k_ ≠ (v329 : Value).ownBlock ∧ k_ ≠ gb326)) (Kd.R_types (Kd.R_apart' (HO340.out) (Kd.N_typed HO330.out) (by decide)) BK326.out (by decide)) (fun k_ hk => by first | exact ⟨hk.1.1.1, ⟨hk.1.2, hk.2⟩⟩ | exact ⟨hk.1.1, ⟨hk.1.2, hk.2⟩⟩))))) (Reps.one (show Kd.FK (Kd.slice 3 (Kd.int .i64)) _ _ y343 [.slice Ao22 y343.length co22] from (Kd.FK_slice_mk (Kd.R_reads' (Kd.R_mono (ok' := (fun k_ => (w.heap.size ≤ k_) ∧ some k_ ≠ (v329 : Value).ownBlock ∧ k_ ≠ gb326)) (Kd.R_types (Kd.R_apart' (HO345.out) (Kd.N_typed HO330.out) (by decide)) BK326.out (by decide)) (fun k_ hk => by first | exact ⟨hk.1.1.1, ⟨hk.1.2, hk.2⟩⟩ | exact ⟨hk.1.1, ⟨hk.1.2, hk.2⟩⟩))).2.1 (Kd.R_F (Kd.R_mono (ok' := (fun k_ => (w.heap.size ≤ k_) ∧ some k_ ≠ (v329 : Value).ownBlock ∧ k_ ≠ gb326)) (Kd.R_types (Kd.R_apart' (HO345.out) (Kd.N_typed HO330.out) (by decide)) BK326.out (by decide)) (fun k_ hk => by first | exact ⟨hk.1.1.1, ⟨hk.1.2, hk.2⟩⟩ | exact ⟨hk.1.1, ⟨hk.1.2, hk.2⟩⟩))))) (Reps.none _ _)))))
        intro v347 w23 ho24 hb hg_ hnew_
        clear hg_ hnew_
        (first | rw [← Ny346.out] at ho24 | (simp only [Int.reduceToNat] at ho24; rw [← Ny346.out] at ho24))
        have n0_ := Aside0.mk (Kd.N_elder' (KN HO330) (Kd.N_base ho24) hb)
        have n1_ := Aside0.mk (Kd.N_lower ho24 (below_size (AGE GE326)))
        have n2_ := Aside0.mk (blk_below (g := gb326) (o := .cells #[.int .i64 a0_0, .slice A0_1 l0_1.length c0_1, .slice (some ad327) l0_2.length c0_2, .slice A0_3 l0_3.length c0_3] 55 (0, 0)) (BW BK326) hb)
        have n3_ := Aside0.mk (below_step (AGE GE326) hb)
        clear HO330
        clear BK326
        clear HB
        clear HO335
        clear HO340
        clear HO345
        have HO330 := n0_
        have HO348 := n1_
        have BK326 := n2_
        have HB := n3_
        clear n0_ n1_ n2_ n3_
        clear hb ho24
        obtain ⟨Ao25, co25, eo25⟩ := Kd.N_slice HO348.out
        (first | subst eo25 | (injection eo25 with f1_ f2_ f3_; have f4_ := f1_.symm; have f5_ := f3_.symm; clear f1_ f2_ f3_; subst f4_; subst f5_))
        refine hK.out _ _ ⟨.slice Ao20 y333.length co20, .slice Ao21 y338.length co21, .slice Ao22 y343.length co22, .slice Ao25 y346.length co25, (by rw [ha.out]; exact putSel_upk 15 hb_ rfl rfl rfl), (by (with_reducible repeat (first | apply Kd.N_alloc | apply Kd.N_drewN | apply Kd.N_drew)); exact Kd.N_mono HO330.out (fun _ hk => by first | exact hk.1 | exact hk | exact ⟨hk.1.1, hk.1.2.2.2.2⟩ | exact ⟨hk.1.1, hk.1.2⟩)), (BW BK326), (AGE GE326), fun _ h1_ => absurd ((up_self b 21).symm.trans h1_) (by decide), fun _ h1_ => absurd ((up_self b 21).symm.trans h1_) (by decide), fun _ h1_ => absurd ((up_self b 21).symm.trans h1_) (by decide), fun _ => (KN HO348)⟩
       refine steps_cons ?_ ?_
       ·rintro b a w' ⟨v334, v339, v344, v347, ha, Q_HO330, Q_BK326, Q_HB, Q_HO335, Q_HO340, Q_HO345, Q_HO348⟩ hb_ hon hoff
        refine ⟨_, rfl, fun K hK => ?_⟩
        have e36 : a.tmps[36]? = some (v347) := by rw [ha]; exact putSel_on (e := (21, 36, v347)) 15 rfl rfl (hon 21 (by kernel_rfl)) rfl
        replace ha := Aside0.mk ha
        have HO330 := Aside0.mk Q_HO330
        have BK326 := Aside0.mk Q_BK326
        have HB := Aside0.mk Q_HB
        have HO348 := Aside0.mk (Q_HO348 (hon 21 (by kernel_rfl)))
        obtain ⟨Ao22_0, co22_0, eo_⟩ := Kd.N_slice HO348.out
        subst eo_
        refine value_ (w1 := w') (v := .int .i64 (y346.length : Int)) (by rfl) rfl ?_ ?_
        ·exact PG
        refine hK.out _ _ ⟨v334, v339, v344, .slice Ao22_0 y346.length co22_0, (by rw [ha.out]; exact putSel_upk 16 hb_ rfl rfl rfl), Q_HO330, Q_BK326, Q_HB, fun _ h1_ => absurd ((hon 21 (by kernel_rfl)).symm.trans h1_) (by decide), fun _ h1_ => absurd ((hon 21 (by kernel_rfl)).symm.trans h1_) (by decide), fun _ h1_ => absurd ((hon 21 (by kernel_rfl)).symm.trans h1_) (by decide), Q_HO348⟩
       exact steps_nil
      rintro b a w25 hall ⟨v334, v339, v344, v347, ha, Q_HO330, Q_BK326, Q_HB, Q_HO335, Q_HO340, Q_HO345, Q_HO348⟩
      clear BK326 HB HO330
      have hb1_ := hall 1 (by kernel_rfl)
      have hb2_ := hall 2 (by kernel_rfl)
      have hb4_ := hall 4 (by kernel_rfl)
      have hb5_ := hall 5 (by kernel_rfl)
      have hb6_ := hall 6 (by kernel_rfl)
      have hb8_ := hall 8 (by kernel_rfl)
      have hb9_ := hall 9 (by kernel_rfl)
      have hb11_ := hall 11 (by kernel_rfl)
      have hb12_ := hall 12 (by kernel_rfl)
      have hb13_ := hall 13 (by kernel_rfl)
      have hb15_ := hall 15 (by kernel_rfl)
      have hb16_ := hall 16 (by kernel_rfl)
      have hb18_ := hall 18 (by kernel_rfl)
      have hb19_ := hall 19 (by kernel_rfl)
      have hb20_ := hall 20 (by kernel_rfl)
      have hb21_ := hall 21 (by kernel_rfl)
      have hb22_ := hall 22 (by kernel_rfl)
      subst ha
      simp only [putSel, hb1_, hb2_, hb4_, hb5_, hb6_, hb8_, hb9_, hb11_, hb12_, hb13_, hb15_, hb16_, hb18_, hb19_, hb20_, hb21_, hb22_, if_true, Act.put, List.setIfInBounds_toArray, List.set_cons_zero, List.set_cons_succ]
      have HO330 := Aside0.mk Q_HO330
      clear Q_HO330
      have BK326 := Aside0.mk Q_BK326
      clear Q_BK326
      have HB := Aside0.mk Q_HB
      clear Q_HB
      clear Q_HO335
      clear Q_HO340
      clear Q_HO345
      have HO348 := Aside0.mk (Q_HO348 hb21_)
      clear Q_HO348
      clear hall hb1_ hb2_ hb4_ hb5_ hb6_ hb8_ hb9_ hb11_ hb12_ hb13_ hb15_ hb16_ hb18_ hb19_ hb20_ hb21_ hb22_
      obtain ⟨Ao26, co26, eo26⟩ := Kd.N_slice HO348.out
      (first | subst eo26 | (injection eo26 with f1_ f2_ f3_; have f4_ := f1_.symm; have f5_ := f3_.symm; clear f1_ f2_ f3_; subst f4_; subst f5_))
      try go_wp2
      go_loopg [6, 38] k (fun kq v6 v38 w' => ∃ (x6_1 : List (List Int)) (x38_1 : Int), v38 = .int .i64 x38_1 ∧ Aside0 (impl_house_doors.l0 kq x6_1 y346 (y346.length : Int) x38_1 a0_0 l0_1 l0_2 l0_3 = some r) ∧ Aside0 (kq ≤ k) ∧ Aside0 (Kd.N (Kd.slice 3 (Kd.int .i64)) 24 w' w.heap.size (fun k_ => (w.heap.size ≤ k_) ∧ some k_ ≠ ((.slice Ao26 y346.length co26) : Value).ownBlock ∧ k_ ≠ gb326) v6 x6_1) ∧ Aside0 (Kd.N (Kd.slice 3 (Kd.int .i64)) 24 w' w.heap.size (fun k_ => (w.heap.size ≤ k_) ∧ some k_ ≠ (v6 : Value).ownBlock ∧ k_ ≠ gb326) (.slice Ao26 y346.length co26) y346) ∧ Aside0 (w'.heap[gb326]? = some (.cells #[.int .i64 a0_0, (.slice A0_1 l0_1.length c0_1), (.slice (some ad327) l0_2.length c0_2), (.slice A0_3 l0_3.length c0_3)] 55 (0, 0))) ∧ Aside0 (Below w.heap.size w w'))
      case atStart => exact ⟨(y328), (0), RF, H', ⟨Nat.le_refl _⟩, ⟨N_empty HO330.out Ny328.out HO348.out (fun _ h_ => h_.2.1) (fun _ h_ z_ => ⟨h_.1, z_, h_.2⟩)⟩, ⟨KN HO348⟩, ⟨by (with_reducible repeat (first | refine blk_drewN ?_ _ | refine blk_drew ?_ | refine blk_alloc ?_ _)); exact BK326.out⟩, ⟨AGE GE326⟩⟩
      case round =>
       clear H'
       try clear p2
       try clear c3
       try clear c3b0
       try clear p3
       try clear q3
       try clear hx3
       try clear qi3
       try clear c4
       try clear c4b0
       try clear c5
       try clear c5b0
       try clear c5b1
       try clear c6
       try clear c6b0
       try clear c6b1
       try clear p6
       try clear c7
       try clear c7b0
       try clear c7b1
       try clear hcz9_0
       try clear hcz9_1
       try clear hcz9_2
       try clear hcz9_3
       try clear hfz9_0
       try clear hfz9_1
       try clear hfz9_2
       try clear hfz9_3
       try clear hx327_0
       try clear hx331_0
       try clear hx332_0
       try clear hx336_0
       try clear hx337_0
       try clear hx341_0
       try clear hx342_0
       try clear p327
       try clear p331
       try clear p332
       try clear p336
       try clear p337
       try clear p341
       try clear p342
       try clear q327
       try clear q331
       try clear q332
       try clear q336
       try clear q337
       try clear q341
       try clear q342
       obtain ⟨x6_1, x38_1, rfl, HA, HK1, HO_6, HO_36, BK326, HB⟩ := hrel
       cases gk with
       | zero => exact absurd HA.out (by simp [impl_house_doors.l0])
       | succ k1 =>
        have H := HA.out
        clear HA
        simp only [impl_house_doors.l0] at H
        by_cases c27 : x38_1 < (y346.length : Int)
        ·rw [if_pos c27] at H
         have c27b0 : decide (x38_1 < (y346.length : Int)) = true := decide_eq_true c27
         clear c27
         by_cases c28 : 0 ≤ x38_1
         ·rw [if_pos c28] at H
          have c28b0 : decide (0 ≤ x38_1) = true := decide_eq_true c28
          clear c28
          by_cases c29 : x38_1 < (y346.length : Int)
          ·rw [if_pos c29] at H
           have c29b0 : decide (x38_1 < (y346.length : Int)) = true := decide_eq_true c29
           clear c29
           by_cases c30 : 0 < ((rd_L2 y346 x38_1).length : Int)
           ·rw [if_pos c30] at H
            have c30b0 : decide (0 < ((rd_L2 y346 x38_1).length : Int)) = true := decide_eq_true c30
            have c30b1 : decide (0 < (rd_L2 y346 x38_1).length) = true := decide_eq_true (by omega)
            clear c30
            by_cases c31 : 1 < ((rd_L2 y346 x38_1).length : Int)
            ·rw [if_pos c31] at H
             have c31b0 : decide (1 < ((rd_L2 y346 x38_1).length : Int)) = true := decide_eq_true c31
             have c31b1 : decide (1 < (rd_L2 y346 x38_1).length) = true := decide_eq_true (by omega)
             clear c31
             obtain ⟨t352, A320, H⟩ := Option.bind_eq_some_iff.mp H
             have A32 := Aside0.mk A320
             clear A320
             by_cases c33 : t352 = true
             ·subst c33
              replace H := IP H
              by_cases c34 : x6_1.length < 5864062014805
              ·rw [if_pos c34] at H
               have LMc34 := Aside0.mk c34
               clear c34
               obtain ⟨y353, hy353⟩ : ∃ y_ : List (List Int), y_ = (x6_1 ++ [rd_L2 y346 x38_1]) := ⟨_, rfl⟩
               replace H : (impl_house_doors.l0 k1 y353 y346 (y346.length : Int) (wrap64 (x38_1 + 1)) a0_0 l0_1 l0_2 l0_3) = some r := HY H hy353
               have Ny353 := Aside0.mk hy353
               clear hy353
               have H' := Aside0.mk H
               clear H
               have p349 : 0 ≤ (x38_1 : Int) := of_decide_eq_true AS
               have q349 : x38_1 < (y346.length : Int) := of_decide_eq_true AS
               obtain ⟨ad349, A349_0, c349_0, e349, hx349_0, hl349_0, hi349_0⟩ := at_L2 (Kd.N_reads' HO_36.out).2.2 x38_1 p349 q349
               cases e349
               obtain ⟨ce349, hce349, hMe349, hcc349⟩ := Kd.N_get HO_36.out [] x38_1 p349 (by first | exact q349 | exact of_decide_eq_true AS | (have e_ := (Kd.N_reads' HO_36.out).1; omega))
               obtain ⟨ua349_0, uc349_0, rfl, ul349_0, ge349_0⟩ := Kd.FK_slice_open hMe349
               have hv349_0 := hcc349 0 _ rfl
               rw [Nat.add_zero, show ((Kd.slice 3 (Kd.int .i64))).sz = 1 from rfl, Nat.mul_one] at hv349_0
               replace hv349_0 := Option.some.inj (hv349_0.symm.trans hx349_0)
               injection hv349_0 with hva_ hvn_ hvc_
               rw [hva_] at ge349_0
               rw [hvc_] at ul349_0
               have HL349_0 := Aside0.mk (show Kd.V (Kd.int .i64) 3 _ w.heap.size _ _ (rd_L2 y346 x38_1) from Kd.V_mk ul349_0 ge349_0)
               clear hva_ hvn_ hvc_ ge349_0 ul349_0
               clear hcc349 hce349
               have HR349_0 := Aside0.mk hi349_0
               have HC349_0 := Aside0.mk hl349_0
               clear hi349_0 hl349_0
               replace p349 := eq_true p349
               replace q349 := eq_true q349
               try go_wp2
               have n0_ := Aside0.mk (Kd.N_drew HO_6.out)
               have n1_ := Aside0.mk (Kd.N_drew HO_36.out)
               have n2_ := Aside0.mk (Kd.V_drew HL349_0.out)
               have n3_ := Aside0.mk (blk_drew BK326.out)
               have n4_ := Aside0.mk (Kd.C_drew HR349_0.out)
               have n5_ := Aside0.mk (below_drew1 HB.out)
               clear HO_6
               clear HO_36
               clear HL349_0
               clear BK326
               clear HR349_0
               clear HB
               have HO_6 := n0_
               have HO_36 := n1_
               have HL349_0 := n2_
               have BK326 := n3_
               have HR349_0 := n4_
               have HB := n5_
               clear n0_ n1_ n2_ n3_ n4_ n5_
               have p350 : 0 ≤ (0 : Int) := (by omega)
               have q350 : 0 < ((rd_L2 y346 x38_1).length : Int) := of_decide_eq_true AS
               obtain ⟨ad350, e350, hx350_0⟩ := Kd.at_int (by repeat (first | (with_reducible exact HR349_0.out) | (with_reducible refine Kd.C_drewN ?_ _) | (with_reducible refine Kd.C_drew ?_) | (with_reducible refine Kd.C_alloc ?_ _) | exact HR349_0.out)) 0 p350 q350
               cases e350
               have qi350 : (0 < (rd_L2 y346 x38_1).length) = True := eq_true (by omega)
               (try rw [show ((0 : Int)).toNat = 0 from rfl] at hx350_0)
               (try rw [Addr.add_zero'] at hx350_0)
               replace p350 := eq_true p350
               replace q350 := eq_true q350
               have p351 : 0 ≤ (1 : Int) := (by omega)
               have q351 : 1 < ((rd_L2 y346 x38_1).length : Int) := of_decide_eq_true AS
               obtain ⟨ad351, e351, hx351_0⟩ := Kd.at_int (by repeat (first | (with_reducible exact HR349_0.out) | (with_reducible refine Kd.C_drewN ?_ _) | (with_reducible refine Kd.C_drew ?_) | (with_reducible refine Kd.C_alloc ?_ _) | exact HR349_0.out)) 1 p351 q351
               obtain rfl : ad350 = ad351 := (by injection e351)
               (try simp only [show (1 : Int).toNat = 1 from rfl, Nat.reduceMul, Nat.reduceEqDiff, Go.Addr.add, ↓reduceIte] at hx351_0)
               have qi351 : (1 < (rd_L2 y346 x38_1).length) = True := eq_true (by omega)
               (try rw [show ((1 : Int)).toNat = 1 from rfl] at hx351_0)
               replace p351 := eq_true p351
               replace q351 := eq_true q351
               refine start_ (n := 8) (S := fun w' => w'.cell? ⟨gb326, 0, none⟩ = some (.int .i64 a0_0) ∧ w'.cell? ⟨gb326, 1, none⟩ = some (.slice A0_1 l0_1.length c0_1) ∧ w'.cell? ⟨gb326, 2, none⟩ = some (.slice (some ad327) l0_2.length c0_2) ∧ w'.cell? ⟨gb326, 3, none⟩ = some (.slice A0_3 l0_3.length c0_3) ∧ w'.cell? ad350 = some (.int .i64 (rd (rd_L2 y346 x38_1) 0)) ∧ w'.cell? ⟨ad350.block, ad350.off + 1, none⟩ = some (.int .i64 (rd (rd_L2 y346 x38_1) 1))) (ds := []) #[false, false, false, false, false, false, false, false] (by kernel_rfl) rfl rfl ⟨(blk_cell BK326.out 0).trans rfl, (blk_cell BK326.out 1).trans rfl, (blk_cell BK326.out 2).trans rfl, (blk_cell BK326.out 3).trans rfl, hx350_0, hx351_0⟩ (fun hHeld => ?_); refine with_tabW impl_house_doors.tab5 impl_house_doors.bits5 (fun HT_ HW_ => ?_)
               generalize wr.drew = w35 at HO_6 HO_36 HL349_0 BK326 HR349_0 HB hx350_0 hx351_0 hHeld ⊢
               refine pure_ (i := 1) (N := some 43) #[false, true, false, false, false, false, false, false] rfl rfl (any_of HT_.out (by kernel_rfl)) (fun _ _ _ h => h) (Or.inl ⟨by rfl, PW⟩) PU ?_
               refine pure_ (i := 2) (N := some 44) #[false, true, true, false, false, false, false, false] rfl rfl (any_of HT_.out (by kernel_rfl)) (fun _ _ _ h => h) (Or.inl ⟨by rfl, PW⟩) PU ?_
               refine pure_ (i := 4) (N := some 46) #[false, true, true, false, true, false, false, false] rfl rfl (any_of HT_.out (by kernel_rfl)) (fun _ _ _ h => h) (Or.inl ⟨by rfl, PW⟩) PU ?_
               refine pure_ (i := 5) (N := some 47) #[false, true, true, false, true, true, false, false] rfl rfl (any_of HT_.out (by kernel_rfl)) (fun _ _ _ h => h) (Or.inl ⟨by rfl, PW⟩) PU ?_
               refine take_ (i := 0) (N := some 42) #[true, true, true, false, true, true, false, false] rfl rfl (take_ofW HT_.out HW_.out (by kernel_rfl)) (fun _ _ _ h => h) (Or.inl ⟨by rfl, PT⟩) hHeld PU ?_
               refine take_ (i := 3) (N := some 45) #[true, true, true, true, true, true, false, false] rfl rfl (take_ofW HT_.out HW_.out (by kernel_rfl)) (fun _ _ _ h => h) (Or.inl ⟨by rfl, PT⟩) hHeld PU ?_
               refine take_ (i := 6) (N := some 48) #[true, true, true, true, true, true, true, false] rfl rfl (take_ofW HT_.out HW_.out (by kernel_rfl)) (fun _ _ _ h => h) (Or.inl ⟨by rfl, PT⟩) hHeld PU ?_
               refine one_ (i := 7) (N := some 49) #[true, true, true, true, true, true, true, true] rfl rfl (one_of HT_.out (by kernel_rfl)) (by decide) (fun K hK => ?_)
               refine goes_ Try.func47 (by kernel_rfl) rfl #[.agg #[.int .i64 a0_0, .slice A0_1 l0_1.length c0_1, .slice (some ad327) l0_2.length c0_2, .slice A0_3 l0_3.length c0_3], .int .i64 (rd (rd_L2 y346 x38_1) 0), .int .i64 (rd (rd_L2 y346 x38_1) 1)] (by rfl) rfl rfl TA ?_
               with_reducible refine (impl_house_isDoor.calls a0_0 _ _ l0_1 _ _ l0_2 _ _ l0_3 (rd (rd_L2 y346 x38_1) 0) (rd (rd_L2 y346 x38_1) 1) true _ ?side1 ?side2 ?side3 ?side4 ?side5 ?side6 A32.out).mono ?_
               (case side1 => exact CW (Kd.C_below HR0_1.out HB.out))
               (case side2 => exact HC0_1.out)
               (case side3 => exact CW (Kd.C_below HR0_2.out HB.out))
               (case side4 => exact HC0_2.out)
               (case side5 => exact CW (Kd.C_below HR0_3.out HB.out))
               (case side6 => exact HC0_3.out)
               rintro e w36 ⟨rfl, hb⟩
               have HS4_ := (hb.cell (World.block_lt_of_cell? _ _ (hHeld.2.2.2.2.1))).trans (hHeld.2.2.2.2.1)
               have HS5_ := (hb.cell (World.block_lt_of_cell? _ _ (hHeld.2.2.2.2.2))).trans (hHeld.2.2.2.2.2)
               refine ⟨_, rfl, ?_⟩
               have n0_ := Aside0.mk (Kd.N_below (KN HO_6) hb)
               have n1_ := Aside0.mk (Kd.N_below (KN HO_36) hb)
               have n2_ := Aside0.mk (Kd.V_below (by (with_reducible repeat (first | apply Kd.V_alloc | apply Kd.V_drewN | apply Kd.V_drew)); exact HL349_0.out) hb)
               have n3_ := Aside0.mk (blk_below (g := gb326) (o := .cells #[.int .i64 a0_0, .slice A0_1 l0_1.length c0_1, .slice (some ad327) l0_2.length c0_2, .slice A0_3 l0_3.length c0_3] 55 (0, 0)) (BW BK326) hb)
               have n4_ := Aside0.mk (Kd.C_below (by repeat (first | (with_reducible exact HR349_0.out) | (with_reducible refine Kd.C_drewN ?_ _) | (with_reducible refine Kd.C_drew ?_) | (with_reducible refine Kd.C_alloc ?_ _) | exact HR349_0.out)) hb)
               have n5_ := Aside0.mk (below_step (AGE GE326) hb)
               clear HO_6
               clear HO_36
               clear HL349_0
               clear BK326
               clear HR349_0
               clear HB
               have HO_6 := n0_
               have HO_36 := n1_
               have HL349_0 := n2_
               have BK326 := n3_
               have HR349_0 := n4_
               have HB := n5_
               clear n0_ n1_ n2_ n3_ n4_ n5_
               (try clear hb)
               (try clear hb2)
               (try clear hk)
               (try clear hi)
               refine hK.out _ _ ⟨(blk_cell BK326.out 0).trans rfl, (blk_cell BK326.out 1).trans rfl, (blk_cell BK326.out 2).trans rfl, (blk_cell BK326.out 3).trans rfl, HS4_, HS5_⟩ (fun hHeld => ?_)
               clear hK K
               refine norm_ (a' := ?_) ?_ ?_
               rotate_left
               ·show Act.put _ (some 49) _ = _
                simp only [Act.put, List.setIfInBounds_toArray, List.set_cons_zero, List.set_cons_succ, i64_w, i32_w]
                rfl
               refine done_ (done_of HT_.out (by kernel_rfl)) ?_
               try go_wp2_with (first | ((with_reducible refine gate_builtin (b := .append) (xs := #[.tmp 50, .tmp 52]) rfl ?_); at_builtin; refine Kd.N_append (Kd.slice 3 (Kd.int .i64)) (w0 := w) w.heap.size rfl (.tmp 50) (.tmp 52) 27 24 (.slice none 0 0) 24 rfl Try.underlying27 info24 rfl (by decide) (by omega) u6 x6_1 (rd_L2 y346 x38_1) [.slice (some ad350) (rd_L2 y346 x38_1).length c349_0] (fun k_ => (w.heap.size ≤ k_) ∧ some k_ ≠ (.slice (some ad349) y346.length co26 : Value).ownBlock ∧ k_ ≠ gb326) (fun k_ => ((fun k_ => (w.heap.size ≤ k_) ∧ some k_ ≠ (.slice (some ad349) y346.length co26 : Value).ownBlock ∧ k_ ≠ gb326)) k_ ∧ some k_ ≠ (u6 : Value).ownBlock) rfl rfl ?aP (fun _ hk => hk) ?aF ?aO ?aB ?aS ?aL ?_; (case aP => exact (Kd.FK_slice_mk (Kd.V_reads' (Kd.V_mono (ok' := (fun k_ => ((fun k_ => (w.heap.size ≤ k_) ∧ some k_ ≠ (.slice (some ad349) y346.length co26 : Value).ownBlock ∧ k_ ≠ gb326)) k_ ∧ some k_ ≠ (u6 : Value).ownBlock)) (HL349_0.out) (fun k_ hk => ⟨⟨hk.1.1, ⟨hk.2, hk.1.2.2⟩⟩, hk.1.2.1⟩))).2.1 (Kd.V_F (Kd.V_mono (ok' := (fun k_ => ((fun k_ => (w.heap.size ≤ k_) ∧ some k_ ≠ (.slice (some ad349) y346.length co26 : Value).ownBlock ∧ k_ ≠ gb326)) k_ ∧ some k_ ≠ (u6 : Value).ownBlock)) (HL349_0.out) (fun k_ hk => ⟨⟨hk.1.1, ⟨hk.2, hk.1.2.2⟩⟩, hk.1.2.1⟩))))); (case aB => exact (AGE GE326)); (case aF => exact (fun k_ hk => ⟨(Nat.le_trans (below_size (AGE GE326)) hk), Kd.fresh' (Kd.N_lt (KN HO_36)) k_ hk, Kd.freshB (g := gb326) (o := .cells #[.int .i64 a0_0, .slice A0_1 l0_1.length c0_1, .slice (some ad327) l0_2.length c0_2, .slice A0_3 l0_3.length c0_3] 55 (0, 0)) (BW BK326) k_ hk⟩)); (case aO => exact (KN HO_6)); (case aS => exact (below_size (AGE GE326))); (case aL => have := LMc34.out; omega); intro v354 w37 ho hb hg hat; rw [← Ny353.out] at ho; have n0_ := Aside0.mk (Kd.N_afterv (ok := (fun k_ => (w.heap.size ≤ k_) ∧ k_ ≠ gb326)) (by (with_reducible repeat (first | apply Kd.N_alloc | apply Kd.N_drewN | apply Kd.N_drew)); exact Kd.N_mono HO_36.out (fun _ hk => ⟨⟨hk.1, hk.2.2⟩, hk.2.1⟩)) hg hat); have n1_ := Aside0.mk (blk_grown (g := gb326) (o := .cells #[.int .i64 a0_0, .slice A0_1 l0_1.length c0_1, .slice (some ad327) l0_2.length c0_2, .slice A0_3 l0_3.length c0_3] 55 (0, 0)) (BW BK326) hg (Kd.N_ne HO_6.out BK326.out (by decide))); have n2_ := Aside0.mk (Kd.V_afterv (ok := (fun k_ => (w.heap.size ≤ k_) ∧ some k_ ≠ (.slice (some ad349) y346.length co26 : Value).ownBlock ∧ k_ ≠ gb326)) (by (with_reducible repeat (first | apply Kd.V_alloc | apply Kd.V_drewN | apply Kd.V_drew)); exact Kd.V_mono HL349_0.out (fun _ hk => ⟨⟨hk.1.1, ⟨hk.2, hk.1.2.2⟩⟩, hk.1.2.1⟩)) hg hat); have n3_ := Aside0.mk (hb); have n4_ := Aside0.mk (ho); clear HO_36; clear BK326; clear HL349_0; clear HB; clear HO_6; have HO_36 := n0_; have BK326 := n1_; have HL349_0 := n2_; have HB := n3_; have HO355 := n4_; clear n0_ n1_ n2_ n3_ n4_; clear ho hb hg hat))
               go_roundg k1
               case measure => have := HK1.out; omega
               case rel => exact ⟨(y353), (wrap64 (x38_1 + 1)), RF, H', ⟨by have := HK1.out; omega⟩, ⟨KN HO355⟩, ⟨by (with_reducible repeat (first | apply Kd.N_alloc | apply Kd.N_drewN | apply Kd.N_drew)); exact Kd.N_mono HO_36.out (fun _ hk => by first | exact ⟨hk.1.1, ⟨hk.2, hk.1.2⟩⟩ | exact hk.1 | exact hk)⟩, ⟨by (with_reducible repeat (first | refine blk_drewN ?_ _ | refine blk_drew ?_ | refine blk_alloc ?_ _)); exact BK326.out⟩, ⟨AGE GE326⟩⟩
              ·rw [if_neg c34] at H
               cases H
             ·replace c33 := Bool.eq_false_iff.mpr c33
              subst c33
              replace H := IN H
              have H' := Aside0.mk H
              clear H
              have p349 : 0 ≤ (x38_1 : Int) := of_decide_eq_true AS
              have q349 : x38_1 < (y346.length : Int) := of_decide_eq_true AS
              obtain ⟨ad349, A349_0, c349_0, e349, hx349_0, hl349_0, hi349_0⟩ := at_L2 (Kd.N_reads' HO_36.out).2.2 x38_1 p349 q349
              cases e349
              obtain ⟨ce349, hce349, hMe349, hcc349⟩ := Kd.N_get HO_36.out [] x38_1 p349 (by first | exact q349 | exact of_decide_eq_true AS | (have e_ := (Kd.N_reads' HO_36.out).1; omega))
              obtain ⟨ua349_0, uc349_0, rfl, ul349_0, ge349_0⟩ := Kd.FK_slice_open hMe349
              have hv349_0 := hcc349 0 _ rfl
              rw [Nat.add_zero, show ((Kd.slice 3 (Kd.int .i64))).sz = 1 from rfl, Nat.mul_one] at hv349_0
              replace hv349_0 := Option.some.inj (hv349_0.symm.trans hx349_0)
              injection hv349_0 with hva_ hvn_ hvc_
              rw [hva_] at ge349_0
              rw [hvc_] at ul349_0
              have HL349_0 := Aside0.mk (show Kd.V (Kd.int .i64) 3 _ w.heap.size _ _ (rd_L2 y346 x38_1) from Kd.V_mk ul349_0 ge349_0)
              clear hva_ hvn_ hvc_ ge349_0 ul349_0
              clear hcc349 hce349
              have HR349_0 := Aside0.mk hi349_0
              have HC349_0 := Aside0.mk hl349_0
              clear hi349_0 hl349_0
              replace p349 := eq_true p349
              replace q349 := eq_true q349
              try go_wp2
              have n0_ := Aside0.mk (Kd.N_drew HO_6.out)
              have n1_ := Aside0.mk (Kd.N_drew HO_36.out)
              have n2_ := Aside0.mk (Kd.V_drew HL349_0.out)
              have n3_ := Aside0.mk (blk_drew BK326.out)
              have n4_ := Aside0.mk (Kd.C_drew HR349_0.out)
              have n5_ := Aside0.mk (below_drew1 HB.out)
              clear HO_6
              clear HO_36
              clear HL349_0
              clear BK326
              clear HR349_0
              clear HB
              have HO_6 := n0_
              have HO_36 := n1_
              have HL349_0 := n2_
              have BK326 := n3_
              have HR349_0 := n4_
              have HB := n5_
              clear n0_ n1_ n2_ n3_ n4_ n5_
              have p350 : 0 ≤ (0 : Int) := (by omega)
              have q350 : 0 < ((rd_L2 y346 x38_1).length : Int) := of_decide_eq_true AS
              obtain ⟨ad350, e350, hx350_0⟩ := Kd.at_int (by repeat (first | (with_reducible exact HR349_0.out) | (with_reducible refine Kd.C_drewN ?_ _) | (with_reducible refine Kd.C_drew ?_) | (with_reducible refine Kd.C_alloc ?_ _) | exact HR349_0.out)) 0 p350 q350
              cases e350
              have qi350 : (0 < (rd_L2 y346 x38_1).length) = True := eq_true (by omega)
              (try rw [show ((0 : Int)).toNat = 0 from rfl] at hx350_0)
              (try rw [Addr.add_zero'] at hx350_0)
              replace p350 := eq_true p350
              replace q350 := eq_true q350
              have p351 : 0 ≤ (1 : Int) := (by omega)
              have q351 : 1 < ((rd_L2 y346 x38_1).length : Int) := of_decide_eq_true AS
              obtain ⟨ad351, e351, hx351_0⟩ := Kd.at_int (by repeat (first | (with_reducible exact HR349_0.out) | (with_reducible refine Kd.C_drewN ?_ _) | (with_reducible refine Kd.C_drew ?_) | (with_reducible refine Kd.C_alloc ?_ _) | exact HR349_0.out)) 1 p351 q351
              obtain rfl : ad350 = ad351 := (by injection e351)
              (try simp only [show (1 : Int).toNat = 1 from rfl, Nat.reduceMul, Nat.reduceEqDiff, Go.Addr.add, ↓reduceIte] at hx351_0)
              have qi351 : (1 < (rd_L2 y346 x38_1).length) = True := eq_true (by omega)
              (try rw [show ((1 : Int)).toNat = 1 from rfl] at hx351_0)
              replace p351 := eq_true p351
              replace q351 := eq_true q351
              refine start_ (n := 8) (S := fun w' => w'.cell? ⟨gb326, 0, none⟩ = some (.int .i64 a0_0) ∧ w'.cell? ⟨gb326, 1, none⟩ = some (.slice A0_1 l0_1.length c0_1) ∧ w'.cell? ⟨gb326, 2, none⟩ = some (.slice (some ad327) l0_2.length c0_2) ∧ w'.cell? ⟨gb326, 3, none⟩ = some (.slice A0_3 l0_3.length c0_3) ∧ w'.cell? ad350 = some (.int .i64 (rd (rd_L2 y346 x38_1) 0)) ∧ w'.cell? ⟨ad350.block, ad350.off + 1, none⟩ = some (.int .i64 (rd (rd_L2 y346 x38_1) 1))) (ds := []) #[false, false, false, false, false, false, false, false] (by kernel_rfl) rfl rfl ⟨(blk_cell BK326.out 0).trans rfl, (blk_cell BK326.out 1).trans rfl, (blk_cell BK326.out 2).trans rfl, (blk_cell BK326.out 3).trans rfl, hx350_0, hx351_0⟩ (fun hHeld => ?_); refine with_tabW impl_house_doors.tab5 impl_house_doors.bits5 (fun HT_ HW_ => ?_)
              generalize wr.drew = w38 at HO_6 HO_36 HL349_0 BK326 HR349_0 HB hx350_0 hx351_0 hHeld ⊢
              refine pure_ (i := 1) (N := some 43) #[false, true, false, false, false, false, false, false] rfl rfl (any_of HT_.out (by kernel_rfl)) (fun _ _ _ h => h) (Or.inl ⟨by rfl, PW⟩) PU ?_
              refine pure_ (i := 2) (N := some 44) #[false, true, true, false, false, false, false, false] rfl rfl (any_of HT_.out (by kernel_rfl)) (fun _ _ _ h => h) (Or.inl ⟨by rfl, PW⟩) PU ?_
              refine pure_ (i := 4) (N := some 46) #[false, true, true, false, true, false, false, false] rfl rfl (any_of HT_.out (by kernel_rfl)) (fun _ _ _ h => h) (Or.inl ⟨by rfl, PW⟩) PU ?_
              refine pure_ (i := 5) (N := some 47) #[false, true, true, false, true, true, false, false] rfl rfl (any_of HT_.out (by kernel_rfl)) (fun _ _ _ h => h) (Or.inl ⟨by rfl, PW⟩) PU ?_
              refine take_ (i := 0) (N := some 42) #[true, true, true, false, true, true, false, false] rfl rfl (take_ofW HT_.out HW_.out (by kernel_rfl)) (fun _ _ _ h => h) (Or.inl ⟨by rfl, PT⟩) hHeld PU ?_
              refine take_ (i := 3) (N := some 45) #[true, true, true, true, true, true, false, false] rfl rfl (take_ofW HT_.out HW_.out (by kernel_rfl)) (fun _ _ _ h => h) (Or.inl ⟨by rfl, PT⟩) hHeld PU ?_
              refine take_ (i := 6) (N := some 48) #[true, true, true, true, true, true, true, false] rfl rfl (take_ofW HT_.out HW_.out (by kernel_rfl)) (fun _ _ _ h => h) (Or.inl ⟨by rfl, PT⟩) hHeld PU ?_
              refine one_ (i := 7) (N := some 49) #[true, true, true, true, true, true, true, true] rfl rfl (one_of HT_.out (by kernel_rfl)) (by decide) (fun K hK => ?_)
              refine goes_ Try.func47 (by kernel_rfl) rfl #[.agg #[.int .i64 a0_0, .slice A0_1 l0_1.length c0_1, .slice (some ad327) l0_2.length c0_2, .slice A0_3 l0_3.length c0_3], .int .i64 (rd (rd_L2 y346 x38_1) 0), .int .i64 (rd (rd_L2 y346 x38_1) 1)] (by rfl) rfl rfl TA ?_
              with_reducible refine (impl_house_isDoor.calls a0_0 _ _ l0_1 _ _ l0_2 _ _ l0_3 (rd (rd_L2 y346 x38_1) 0) (rd (rd_L2 y346 x38_1) 1) false _ ?side1 ?side2 ?side3 ?side4 ?side5 ?side6 A32.out).mono ?_
              (case side1 => exact CW (Kd.C_below HR0_1.out HB.out))
              (case side2 => exact HC0_1.out)
              (case side3 => exact CW (Kd.C_below HR0_2.out HB.out))
              (case side4 => exact HC0_2.out)
              (case side5 => exact CW (Kd.C_below HR0_3.out HB.out))
              (case side6 => exact HC0_3.out)
              rintro e w39 ⟨rfl, hb⟩
              have HS4_ := (hb.cell (World.block_lt_of_cell? _ _ (hHeld.2.2.2.2.1))).trans (hHeld.2.2.2.2.1)
              have HS5_ := (hb.cell (World.block_lt_of_cell? _ _ (hHeld.2.2.2.2.2))).trans (hHeld.2.2.2.2.2)
              refine ⟨_, rfl, ?_⟩
              have n0_ := Aside0.mk (Kd.N_below (KN HO_6) hb)
              have n1_ := Aside0.mk (Kd.N_below (KN HO_36) hb)
              have n2_ := Aside0.mk (Kd.V_below (by (with_reducible repeat (first | apply Kd.V_alloc | apply Kd.V_drewN | apply Kd.V_drew)); exact HL349_0.out) hb)
              have n3_ := Aside0.mk (blk_below (g := gb326) (o := .cells #[.int .i64 a0_0, .slice A0_1 l0_1.length c0_1, .slice (some ad327) l0_2.length c0_2, .slice A0_3 l0_3.length c0_3] 55 (0, 0)) (BW BK326) hb)
              have n4_ := Aside0.mk (Kd.C_below (by repeat (first | (with_reducible exact HR349_0.out) | (with_reducible refine Kd.C_drewN ?_ _) | (with_reducible refine Kd.C_drew ?_) | (with_reducible refine Kd.C_alloc ?_ _) | exact HR349_0.out)) hb)
              have n5_ := Aside0.mk (below_step (AGE GE326) hb)
              clear HO_6
              clear HO_36
              clear HL349_0
              clear BK326
              clear HR349_0
              clear HB
              have HO_6 := n0_
              have HO_36 := n1_
              have HL349_0 := n2_
              have BK326 := n3_
              have HR349_0 := n4_
              have HB := n5_
              clear n0_ n1_ n2_ n3_ n4_ n5_
              (try clear hb)
              (try clear hb2)
              (try clear hk)
              (try clear hi)
              refine hK.out _ _ ⟨(blk_cell BK326.out 0).trans rfl, (blk_cell BK326.out 1).trans rfl, (blk_cell BK326.out 2).trans rfl, (blk_cell BK326.out 3).trans rfl, HS4_, HS5_⟩ (fun hHeld => ?_)
              clear hK K
              refine norm_ (a' := ?_) ?_ ?_
              rotate_left
              ·show Act.put _ (some 49) _ = _
               simp only [Act.put, List.setIfInBounds_toArray, List.set_cons_zero, List.set_cons_succ, i64_w, i32_w]
               rfl
              refine done_ (done_of HT_.out (by kernel_rfl)) ?_
              try go_wp2
              go_roundg k1
              case measure => have := HK1.out; omega
              case rel => exact ⟨(x6_1), (wrap64 (x38_1 + 1)), RF, H', ⟨by have := HK1.out; omega⟩, ⟨KN HO_6⟩, ⟨KN HO_36⟩, ⟨by (with_reducible repeat (first | refine blk_drewN ?_ _ | refine blk_drew ?_ | refine blk_alloc ?_ _)); exact BK326.out⟩, ⟨AGE GE326⟩⟩
            ·rw [if_neg c31] at H
             cases H
           ·rw [if_neg c30] at H
            cases H
          ·rw [if_neg c29] at H
           cases H
         ·rw [if_neg c28] at H
          cases H
        ·rw [if_neg c27] at H
         have c27b0 : decide (x38_1 < (y346.length : Int)) = false := decide_eq_false c27
         clear c27
         obtain rfl := Option.some.inj H
         go_wp2
         go_ret
         exact ⟨_, RE, by (with_reducible repeat (first | apply Kd.N_alloc | apply Kd.N_drewN | apply Kd.N_drew)); exact Kd.N_mono HO_6.out (fun _ hk => hk.1), AGE GE326⟩
     ·rw [if_neg c7] at H
      cases H
    ·rw [if_neg c6] at H
     cases H
   ·rw [if_neg c5] at H
    cases H
  ·rw [if_neg c4] at H
   cases H
 ·rw [if_neg c3] at H
  cases H

end Go.Proofs.Ytafjjbkkcedgnab.PFnDoorsOfRooms
