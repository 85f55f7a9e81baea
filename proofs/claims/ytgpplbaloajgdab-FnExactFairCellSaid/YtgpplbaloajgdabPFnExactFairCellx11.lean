-- Written by a program of this session (wip/tools/pp.sh) out of the translation; Lean checks it.
import Derived.Test.YtgpplbaloajgdabPFnExactFairCellx0
namespace Go.Proofs.Ytgpplbaloajgdab.PFnExactFairCell
open Go.RowKit Go.Proofs.YtgpplbaloajgdabOwn Go.Proofs.YtgpplbaloajgdabW.PrintWords Go.Proofs.YtgpplbaloajgdabW.PrintLast Go.Proofs.YtgpplbaloajgdabW.PrintMore
attribute [local go_sem] max2_int min2_int max_two min_two max_three min_three max_four min_four   -- for this text's walks alone
set_option linter.unusedVariables false
set_option maxHeartbeats 8000000
set_option maxRecDepth 100000
set_option linter.unusedSimpArgs false

/-! ### impl_house_steps: function 66 -/
def impl_house_steps.l0 : Nat → List (List Int) → List Int → Int → Int → Int → List Int → List (List Int) → List Int → Option ((List (List Int)))
 | 0, _, _, _, _, _, _, _, _ => none
 | k + 1, x3, x8, x9, x10, x356000, x356001, x356002, x356003 => if x10 < x9 then (if 0 ≤ x10 then (if x10 < (x8.length : Int) then (if (x356003.length : Int) = 0 then (none) else (if 0 ≤ (Int.tmod (wrap64 (x10 + 1)) (x356003.length : Int)) then (if (Int.tmod (wrap64 (x10 + 1)) (x356003.length : Int)) < (x356003.length : Int) then (if x3.length < 5864062014805 then (impl_house_steps.l0 k (x3 ++ [(([rd x8 x10, rd x356003 (Int.tmod (wrap64 (x10 + 1)) (x356003.length : Int))] : List Int))]) x8 x9 (wrap64 (x10 + 1)) x356000 x356001 x356002 x356003) else (none)) else (none)) else (none))) else (none)) else (none)) else (some x3)
def impl_house_steps.f (k : Nat) (a0_0 : Int) (l0_1 : List Int) (l0_2 : List (List Int)) (l0_3 : List Int) : Option ((List (List Int))) := impl_house_steps.l0 k (([] : List (List Int))) l0_3 (l0_3.length : Int) 0 a0_0 l0_1 l0_2 l0_3
theorem impl_house_steps.mono_l : ∀ k, (∀ y0 y1 y2 y3 y4 y5 y6 y7, LeO (impl_house_steps.l0 k y0 y1 y2 y3 y4 y5 y6 y7) (impl_house_steps.l0 (k + 1) y0 y1 y2 y3 y4 y5 y6 y7))
 | 0 => fun _ _ _ _ _ _ _ _ r h => by simp [impl_house_steps.l0] at h
 | k + 1 => by
  have ih0 := impl_house_steps.mono_l k
  ·intro y0 y1 y2 y3 y4 y5 y6 y7
   unfold impl_house_steps.l0
   repeat' first
   | with_reducible first | exact ih0 _ _ _ _ _ _ _ _ | exact LeO.refl _ | exact LeO.none _ | refine LeO.ite ?_ ?_ | refine LeO.bind ?_ (fun _ => ?_)
   | exact LeO.none _ | refine LeO.ite ?_ ?_ | refine LeO.bind ?_ (fun _ => ?_)
theorem impl_house_steps.mono : ∀ a0 a1 a2 a3 k, LeO (impl_house_steps.f k a0 a1 a2 a3) (impl_house_steps.f (k + 1) a0 a1 a2 a3) := by
 intro a0 a1 a2 a3 k
 have ih0 := impl_house_steps.mono_l k
 unfold impl_house_steps.f
 repeat' first
   | with_reducible first | exact ih0 _ _ _ _ _ _ _ _ | exact LeO.refl _ | exact LeO.none _ | refine LeO.ite ?_ ?_ | refine LeO.bind ?_ (fun _ => ?_)
   | exact LeO.none _ | refine LeO.ite ?_ ?_ | refine LeO.bind ?_ (fun _ => ?_)
def impl_house_steps.T5 : Bool × List (List Nat × List Nat) := (true, [([], []), ([], []), ([], []), ([2], [2]), ([], []), ([4], [4]), ([], []), ([6], [6]), ([7], [7]), ([5, 8], [5, 8]), ([3, 9], [3, 9]), ([10], [10]), ([1, 11], [1, 11]), ([12], [12]), ([0, 13], [0, 13]), ([14, 14, 0, 1, 2, 3, 4, 5, 6, 7, 8, 9, 10, 11, 12, 13, 14], [0, 14])])
def impl_house_steps.B5 : List Nat := [0, 0, 0, 4, 0, 16, 0, 64, 192, 496, 1020, 2044, 4094, 8190, 16383, 32767]
theorem impl_house_steps.tab5 : rtab .any (opsOf Try.f66 5) = impl_house_steps.T5 := by kernel_rfl
theorem impl_house_steps.bits5 : waitsOk impl_house_steps.T5.2 impl_house_steps.B5 = true := by kernel_rfl
theorem impl_house_steps.calls (k : Nat) (a0_0 : Int) (A0_1 : Option Addr) (c0_1 : Nat) (l0_1 : List Int) (A0_2 : Option Addr) (c0_2 : Nat) (l0_2 : List (List Int)) (A0_3 : Option Addr) (c0_3 : Nat) (l0_3 : List Int) (r : List (List Int)) (w : World) (hr0_1 : Kd.C (Kd.int .i64) w A0_1 l0_1.length l0_1) (hc0_1 : l0_1.length ≤ c0_1) (hr0_2 : Kd.C (Kd.slice 3 (Kd.int .i64)) w A0_2 l0_2.length l0_2) (hc0_2 : l0_2.length ≤ c0_2) (hr0_3 : Kd.C (Kd.int .i64) w A0_3 l0_3.length l0_3) (hc0_3 : l0_3.length ≤ c0_3) (h : impl_house_steps.f k a0_0 l0_1 l0_2 l0_3 = some r) :
  Calls Try.prog 66 #[.agg #[.int .i64 a0_0, .slice A0_1 l0_1.length c0_1, .slice A0_2 l0_2.length c0_2, .slice A0_3 l0_3.length c0_3]] w fun e w' => ∃ v0_ : Value, e = .returned (v0_) ∧ Kd.S (Kd.slice 3 (Kd.int .i64)) 22 w' w.heap.size (fun _ => True) v0_ r ∧ Below w.heap.size w w' := by
 have hu46 := Try.underlying46
 have HR0_1 := Aside0.mk hr0_1
 have HC0_1 := Aside0.mk hc0_1
 clear hr0_1 hc0_1
 have HR0_2 := Aside0.mk hr0_2
 have HC0_2 := Aside0.mk hc0_2
 clear hr0_2 hc0_2
 have HR0_3 := Aside0.mk hr0_3
 have HC0_3 := Aside0.mk hc0_3
 clear hr0_3 hc0_3
 have HB := Aside0.mk (Below.refl w.heap.size w)
 have H : (impl_house_steps.l0 k (([] : List (List Int))) l0_3 (l0_3.length : Int) 0 a0_0 l0_1 l0_2 l0_3) = some r := h
 clear h
 obtain ⟨y356, hy356⟩ : ∃ y_ : List (List Int), y_ = (([] : List (List Int))) := ⟨_, rfl⟩
 replace H : (impl_house_steps.l0 k y356 l0_3 (l0_3.length : Int) 0 a0_0 l0_1 l0_2 l0_3) = some r := HY H hy356
 have Ny356 := Aside0.mk hy356
 clear hy356
 have H' := Aside0.mk H
 clear H
 go_enter Try.func66, Try.ntmps66
 go_wp2_with (first | ((with_reducible refine gate_dst (N := 1) rfl ?_); refine box_event ?hg (N := 1) ?hd (cs := #[.int .i64 a0_0, .slice A0_1 l0_1.length c0_1, .slice A0_2 l0_2.length c0_2, .slice A0_3 l0_3.length c0_3]) (t := 46) ?hr ?_; (case hd => rfl); (case hg => rfl); (case hr => exact GS); intro gb355 hg w2 hbox hb; have n0_ := Aside0.mk (below_step BB hb); have n1_ := Aside0.mk (hbox); have n2_ := Aside0.mk ((by rw [hg]; exact (below_size BB) : w.heap.size ≤ gb355)); have n3_ := Aside0.mk ((by rw [hg]; exact (below_size BB) : w.heap.size ≤ gb355)); clear HB; have HB := n0_; have BK355 := n1_; have GW355 := n2_; have GE355 := n3_; clear n0_ n1_ n2_ n3_; clear hb hbox hg) | ((with_reducible refine gate_dst (N := 6) rfl ?_); refine Kd.S_lit (Kd.slice 3 (Kd.int .i64)) _ 22 ?hg (N := 6) ?hd (xs := ([] : List (List Int))) (inner := []) (ok := fun _ => True) (okp := fun _ => True) ?hr ?hp (fun _ hk => hk) trivial (Below.refl _ _) (Nat.le_refl _) (by simp) ?_; (case hd => rfl); (case hg => rfl); (case hr => exact GS); (case hp => exact (Reps.none _ _)); intro v357 w3 ho4 hb hg_ hnew_; clear hg_ hnew_; (first | rw [← Ny356.out] at ho4 | (simp only [Int.reduceToNat] at ho4; rw [← Ny356.out] at ho4)); have n0_ := Aside0.mk (Kd.S_lower ho4 (below_size (by repeat (first | (with_reducible first | exact HB.out | apply below_alloc | apply pw_below_drewN | apply below_drew1 | refine below_set ?_ GE355.out) | exact HB.out)))); have n1_ := Aside0.mk (blk_below (g := gb355) (o := .cells #[.int .i64 a0_0, .slice A0_1 l0_1.length c0_1, .slice A0_2 l0_2.length c0_2, .slice A0_3 l0_3.length c0_3] 46 (0, 0)) (BW BK355) hb); have n2_ := Aside0.mk (below_step (by repeat (first | (with_reducible first | exact HB.out | apply below_alloc | apply pw_below_drewN | apply below_drew1 | refine below_set ?_ GE355.out) | exact HB.out)) hb); clear BK355; clear HB; have HO358 := n0_; have BK355 := n1_; have HB := n2_; clear n0_ n1_ n2_; clear hb ho4; have hcz5_0 : w3.cell? ⟨gb355, 0, none⟩ = some (.int .i64 a0_0) := (blk_cell BK355.out 0).trans rfl; have hcz5_1 : w3.cell? ⟨gb355, 1, none⟩ = some (.slice A0_1 l0_1.length c0_1) := (blk_cell BK355.out 1).trans rfl; have hcz5_2 : w3.cell? ⟨gb355, 2, none⟩ = some (.slice A0_2 l0_2.length c0_2) := (blk_cell BK355.out 2).trans rfl; have hcz5_3 : w3.cell? ⟨gb355, 3, none⟩ = some (.slice A0_3 l0_3.length c0_3) := (blk_cell BK355.out 3).trans rfl; have hfz5_0 := blk_frozen BK355.out 0; have hfz5_1 := blk_frozen BK355.out 1; have hfz5_2 := blk_frozen BK355.out 2; have hfz5_3 := blk_frozen BK355.out 3))
 go_loopg [3, 10] k (fun kq v3 v10 w' => ∃ (x3_1 : List (List Int)) (x10_1 : Int), v10 = .int .i64 x10_1 ∧ Aside0 (impl_house_steps.l0 kq x3_1 l0_3 (l0_3.length : Int) x10_1 a0_0 l0_1 l0_2 l0_3 = some r) ∧ Aside0 (kq ≤ k) ∧ Aside0 (Kd.S (Kd.slice 3 (Kd.int .i64)) 22 w' w.heap.size (fun _ => True) v3 x3_1) ∧ Aside0 (w'.heap[gb355]? = some (.cells #[.int .i64 a0_0, (.slice A0_1 l0_1.length c0_1), (.slice A0_2 l0_2.length c0_2), (.slice A0_3 l0_3.length c0_3)] 46 (0, 0))) ∧ Aside0 (Below w.heap.size w w'))
 case atStart => exact ⟨(y356), (0), RF, H', ⟨Nat.le_refl _⟩, ⟨KS HO358⟩, ⟨by (with_reducible repeat (first | refine blk_drewN ?_ _ | refine blk_drew ?_ | refine blk_alloc ?_ _)); exact BK355.out⟩, ⟨by repeat (first | (with_reducible first | exact HB.out | apply below_alloc | apply pw_below_drewN | apply below_drew1 | refine below_set ?_ GE355.out) | exact HB.out)⟩⟩
 case round =>
  clear H'
  try clear p2
  try clear hcz5_0
  try clear hcz5_1
  try clear hcz5_2
  try clear hcz5_3
  try clear hfz5_0
  try clear hfz5_1
  try clear hfz5_2
  try clear hfz5_3
  obtain ⟨x3_1, x10_1, rfl, HA, HK1, HO_3, BK355, HB⟩ := hrel
  cases gk with
  | zero => exact absurd HA.out (by simp [impl_house_steps.l0])
  | succ k1 =>
   have H := HA.out
   clear HA
   simp only [impl_house_steps.l0] at H
   by_cases c6 : x10_1 < (l0_3.length : Int)
   ·rw [if_pos c6] at H
    have c6b0 : decide (x10_1 < (l0_3.length : Int)) = true := decide_eq_true c6
    clear c6
    by_cases c7 : 0 ≤ x10_1
    ·rw [if_pos c7] at H
     have c7b0 : decide (0 ≤ x10_1) = true := decide_eq_true c7
     clear c7
     by_cases c8 : x10_1 < (l0_3.length : Int)
     ·rw [if_pos c8] at H
      have c8b0 : decide (x10_1 < (l0_3.length : Int)) = true := decide_eq_true c8
      clear c8
      by_cases c9 : (l0_3.length : Int) = 0
      ·rw [if_pos c9] at H
       cases H
      ·rw [if_neg c9] at H
       have c9b0 : ((l0_3.length : Int) == 0) = false := beq_eq_false_iff_ne.mpr c9
       have c9b1 : ((l0_3.length : Int) != 0) = true := bne_iff_ne.mpr c9
       have c9b2 : ¬ (l0_3 = []) := fun h_ => c9 (by rw [h_]; rfl)
       obtain ⟨ji10, hji10⟩ : ∃ j_ : Int, (Int.tmod (wrap64 (x10_1 + 1)) (l0_3.length : Int)) = j_ := ⟨_, rfl⟩
       replace H : (if 0 ≤ (ji10) then (if (ji10) < (l0_3.length : Int) then (if x3_1.length < 5864062014805 then (impl_house_steps.l0 k1 (x3_1 ++ [(([rd l0_3 x10_1, rd l0_3 (ji10)] : List Int))]) l0_3 (l0_3.length : Int) (wrap64 (x10_1 + 1)) a0_0 l0_1 l0_2 l0_3) else (none)) else (none)) else (none)) = some r := by first | (rw [hji10] at H; exact H) | (simp only [hji10] at H ⊢; exact H)
       by_cases c11 : 0 ≤ (ji10)
       ·rw [if_pos c11] at H
        have c11b0 : decide (0 ≤ (ji10)) = true := decide_eq_true c11
        clear c11
        by_cases c12 : (ji10) < (l0_3.length : Int)
        ·rw [if_pos c12] at H
         have c12b0 : decide ((ji10) < (l0_3.length : Int)) = true := decide_eq_true c12
         clear c12
         obtain ⟨y361, hy361⟩ : ∃ y_ : List Int, y_ = (([rd l0_3 x10_1, rd l0_3 (ji10)] : List Int)) := ⟨_, rfl⟩
         replace H : (if x3_1.length < 5864062014805 then (impl_house_steps.l0 k1 (x3_1 ++ [y361]) l0_3 (l0_3.length : Int) (wrap64 (x10_1 + 1)) a0_0 l0_1 l0_2 l0_3) else (none)) = some r := HY H hy361
         have Ny361 := Aside0.mk hy361
         clear hy361
         by_cases c13 : x3_1.length < 5864062014805
         ·rw [if_pos c13] at H
          have LMc13 := Aside0.mk c13
          clear c13
          obtain ⟨y364, hy364⟩ : ∃ y_ : List (List Int), y_ = (x3_1 ++ [y361]) := ⟨_, rfl⟩
          replace H : (impl_house_steps.l0 k1 y364 l0_3 (l0_3.length : Int) (wrap64 (x10_1 + 1)) a0_0 l0_1 l0_2 l0_3) = some r := HY H hy364
          have Ny364 := Aside0.mk hy364
          clear hy364
          have H' := Aside0.mk H
          clear H
          have p359 : 0 ≤ (x10_1 : Int) := of_decide_eq_true AS
          have q359 : x10_1 < (l0_3.length : Int) := of_decide_eq_true AS
          obtain ⟨ad359, e359, hx359_0⟩ := Kd.at_int HR0_3.out x10_1 p359 q359
          cases e359
          try (replace hx359_0 := (HB.out.cell (World.block_lt_of_cell? w _ hx359_0)).trans hx359_0)
          replace p359 := eq_true p359
          replace q359 := eq_true q359
          try go_wp2
          have n0_ := Aside0.mk (Kd.S_drew HO_3.out)
          have n1_ := Aside0.mk (blk_drew BK355.out)
          have n2_ := Aside0.mk (below_drew1 HB.out)
          clear HO_3
          clear BK355
          clear HB
          have HO_3 := n0_
          have BK355 := n1_
          have HB := n2_
          clear n0_ n1_ n2_
          have p360 : 0 ≤ ((ji10) : Int) := of_decide_eq_true AS
          have q360 : (ji10) < (l0_3.length : Int) := of_decide_eq_true AS
          obtain ⟨ad360, e360, hx360_0⟩ := Kd.at_int HR0_3.out (ji10) p360 q360
          have hw360_0 := hx360_0
          obtain rfl : ad359 = ad360 := (by injection e360)
          try (replace hx360_0 := (HB.out.cell (World.block_lt_of_cell? w _ hx360_0)).trans hx360_0)
          replace p360 := eq_true p360
          replace q360 := eq_true q360
          refine start_ (n := 16) (S := fun w' => w'.cell? ⟨gb355, 0, none⟩ = some (.int .i64 a0_0) ∧ w'.cell? ⟨gb355, 1, none⟩ = some (.slice A0_1 l0_1.length c0_1) ∧ w'.cell? ⟨gb355, 2, none⟩ = some (.slice A0_2 l0_2.length c0_2) ∧ w'.cell? ⟨gb355, 3, none⟩ = some (.slice (some ad359) l0_3.length c0_3) ∧ w'.cell? (ad359.add ((ji10)).toNat) = some (.int .i64 (rd l0_3 (ji10)))) (ds := []) #[false, false, false, false, false, false, false, false, false, false, false, false, false, false, false, false] (by kernel_rfl) rfl rfl ⟨(blk_cell BK355.out 0).trans rfl, (blk_cell BK355.out 1).trans rfl, (blk_cell BK355.out 2).trans rfl, (blk_cell BK355.out 3).trans rfl, ((HB.out.cell (World.block_lt_of_cell? w _ hw360_0)).trans hw360_0)⟩ (fun hHeld => ?_); refine with_tabW impl_house_steps.tab5 impl_house_steps.bits5 (fun HT_ HW_ => ?_)
          generalize wr.drew = w14 at HO_3 BK355 HB hx360_0 hHeld ⊢
          refine pure_ (i := 0) (N := some 15) #[true, false, false, false, false, false, false, false, false, false, false, false, false, false, false, false] rfl rfl (any_of HT_.out (by kernel_rfl)) (fun _ _ _ h => h) (Or.inl ⟨by rfl, PW⟩) PU ?_
          refine pure_ (i := 1) (N := some 16) #[true, true, false, false, false, false, false, false, false, false, false, false, false, false, false, false] rfl rfl (any_of HT_.out (by kernel_rfl)) (fun _ _ _ h => h) (Or.inl ⟨by rfl, PW⟩) PU ?_
          refine pure_ (i := 2) (N := some 17) #[true, true, true, false, false, false, false, false, false, false, false, false, false, false, false, false] rfl rfl (any_of HT_.out (by kernel_rfl)) (fun _ _ _ h => h) (Or.inl ⟨by rfl, PW⟩) PU ?_
          refine pure_ (i := 4) (N := some 19) #[true, true, true, false, true, false, false, false, false, false, false, false, false, false, false, false] rfl rfl (any_of HT_.out (by kernel_rfl)) (fun _ _ _ h => h) (Or.inl ⟨by rfl, PW⟩) PU ?_
          refine pure_ (i := 5) (N := some 20) #[true, true, true, false, true, true, false, false, false, false, false, false, false, false, false, false] rfl rfl (any_of HT_.out (by kernel_rfl)) (fun _ _ _ h => h) (Or.inl ⟨by rfl, PW⟩) PU ?_
          refine pure_ (i := 6) (N := some 21) #[true, true, true, false, true, true, true, false, false, false, false, false, false, false, false, false] rfl rfl (any_of HT_.out (by kernel_rfl)) (fun _ _ _ h => h) (Or.inl ⟨by rfl, PW⟩) PU ?_
          refine take_ (i := 3) (N := some 18) #[true, true, true, true, true, true, true, false, false, false, false, false, false, false, false, false] rfl rfl (take_ofW HT_.out HW_.out (by kernel_rfl)) (fun _ _ _ h => h) (Or.inl ⟨by rfl, PT⟩) hHeld PU ?_
          refine take_ (i := 7) (N := some 22) #[true, true, true, true, true, true, true, true, false, false, false, false, false, false, false, false] rfl rfl (take_ofW HT_.out HW_.out (by kernel_rfl)) (fun _ _ _ h => h) (Or.inl ⟨by rfl, PT⟩) hHeld PU ?_
          refine pure_ (i := 8) (N := some 23) #[true, true, true, true, true, true, true, true, true, false, false, false, false, false, false, false] rfl rfl (any_of HT_.out (by kernel_rfl)) (fun _ _ _ h => h) (Or.inl ⟨by rfl, PW⟩) PU ?_
          refine pure_ (i := 9) (N := some 24) #[true, true, true, true, true, true, true, true, true, true, false, false, false, false, false, false] rfl rfl (any_of HT_.out (by kernel_rfl)) (fun _ _ _ h => h) (Or.inl ⟨by rfl, PW⟩) PU ?_
          refine pure_ (i := 10) (N := some 25) #[true, true, true, true, true, true, true, true, true, true, true, false, false, false, false, false] rfl rfl (any_of HT_.out (by kernel_rfl)) (fun _ _ _ h => h) (Or.inl ⟨by rfl, PW⟩) PU ?_
          refine take_ (i := 11) (N := some 26) #[true, true, true, true, true, true, true, true, true, true, true, true, false, false, false, false] rfl rfl (take_ofW HT_.out HW_.out (by kernel_rfl)) (fun _ _ _ h => h) (Or.inl ⟨by rfl, PT⟩) hHeld PU ?_
          refine one_ (i := 12) (N := some 27) #[true, true, true, true, true, true, true, true, true, true, true, true, true, false, false, false] rfl rfl (one_of HT_.out (by kernel_rfl)) (by decide) (fun K hK => ?_)
          refine Kd.R_lit_step (Kd.int .i64) _ 3 ?hg (N := 27) ?hd (xs := ([rd l0_3 x10_1, rd l0_3 (ji10)] : List Int)) (inner := [.int .i64 (rd l0_3 x10_1), .int .i64 (rd l0_3 (ji10))]) (ok := fun _ => True) (okp := fun _ => True) ?hr ?hp (fun _ hk => hk) trivial (Below.refl _ _) (Nat.le_refl _) (by simp) ?_; (case hd => rfl); (case hg => rfl); (case hr => exact GS); (case hp => exact (Reps.one (show Kd.M (Kd.int .i64) _ _ _ (rd l0_3 x10_1) [.int .i64 (rd l0_3 x10_1)] from rfl) (Reps.one (show Kd.M (Kd.int .i64) _ _ _ (rd l0_3 (ji10)) [.int .i64 (rd l0_3 (ji10))] from rfl) (Reps.none _ _))))
          intro v362 w15 ho16 hb hg_ hnew_
          clear hg_ hnew_
          (first | rw [← Ny361.out] at ho16 | (simp only [Int.reduceToNat] at ho16; rw [← Ny361.out] at ho16))
          have n0_ := Aside0.mk (Kd.S_elder' (KS HO_3) (Kd.R_base ho16) hb)
          have n1_ := Aside0.mk (Kd.R_lower ho16 (below_size (by repeat (first | (with_reducible first | exact HB.out | apply below_alloc | apply pw_below_drewN | apply below_drew1 | refine below_set ?_ GE355.out) | exact HB.out))))
          have n2_ := Aside0.mk (blk_below (g := gb355) (o := .cells #[.int .i64 a0_0, .slice A0_1 l0_1.length c0_1, .slice A0_2 l0_2.length c0_2, .slice (some ad359) l0_3.length c0_3] 46 (0, 0)) (BW BK355) hb)
          have n3_ := Aside0.mk (below_step (by repeat (first | (with_reducible first | exact HB.out | apply below_alloc | apply pw_below_drewN | apply below_drew1 | refine below_set ?_ GE355.out) | exact HB.out)) hb)
          clear HO_3
          clear BK355
          clear HB
          have HO_3 := n0_
          have HO363 := n1_
          have BK355 := n2_
          have HB := n3_
          clear n0_ n1_ n2_ n3_
          clear hb ho16
          obtain ⟨Ao18, co18, eo18⟩ := Kd.R_slice HO363.out
          (first | subst eo18 | (injection eo18 with f1_ f2_ f3_; have f4_ := f1_.symm; have f5_ := f3_.symm; clear f1_ f2_ f3_; subst f4_; subst f5_))
          refine hK.out _ _ ⟨(blk_cell BK355.out 0).trans rfl, (blk_cell BK355.out 1).trans rfl, (blk_cell BK355.out 2).trans rfl, (blk_cell BK355.out 3).trans rfl, ((HB.out.cell (World.block_lt_of_cell? w _ hw360_0)).trans hw360_0)⟩ (fun hHeld => ?_)
          clear hK K
          refine norm_ (a' := ?_) ?_ ?_
          rotate_left
          ·show Act.put _ (some 27) _ = _
           simp only [Act.put, List.setIfInBounds_toArray, List.set_cons_zero, List.set_cons_succ, i64_w, i32_w]
           rfl
          refine one_ (i := 13) (N := some 28) #[true, true, true, true, true, true, true, true, true, true, true, true, true, true, false, false] rfl rfl (one_of HT_.out (by kernel_rfl)) (by decide) (fun K hK => ?_)
          refine value_ (w1 := ?_) (v := ?_) (by rfl) rfl ?_ ?_
          rotate_left 2
          ·go_simp
           constructor
           ·rfl
           ·rfl
          refine hK.out _ _ ⟨(blk_cell (blk_alloc BK355.out _) 0).trans rfl, (blk_cell (blk_alloc BK355.out _) 1).trans rfl, (blk_cell (blk_alloc BK355.out _) 2).trans rfl, (blk_cell (blk_alloc BK355.out _) 3).trans rfl, (World.cell?_alloc_lt _ _ _ (World.block_lt_of_cell? _ _ (((HB.out.cell (World.block_lt_of_cell? w _ hw360_0)).trans hw360_0)))).trans (((HB.out.cell (World.block_lt_of_cell? w _ hw360_0)).trans hw360_0))⟩ (fun hHeld => ?_)
          clear hK K
          refine norm_ (a' := ?_) ?_ ?_
          rotate_left
          ·show Act.put _ (some 28) _ = _
           simp only [Act.put, List.setIfInBounds_toArray, List.set_cons_zero, List.set_cons_succ, i64_w, i32_w]
           rfl
          refine one_ (i := 14) (N := some 29) #[true, true, true, true, true, true, true, true, true, true, true, true, true, true, true, false] rfl rfl (one_of HT_.out (by kernel_rfl)) (by decide) (fun K hK => ?_)
          refine Kd.S_append_step (Kd.slice 3 (Kd.int .i64)) (w0 := w) w.heap.size (by rfl) (.tmp 15) (.tmp 28) 28 22 (.slice none 0 0) 24 rfl Try.underlying28 info22 rfl (by decide) (by omega) u3 x3_1 y361 [.slice Ao18 y361.length co18] (fun _ => True) (fun k_ => some k_ = (.slice Ao18 y361.length co18 : Value).ownBlock) rfl rfl ?aP (fun k_ hk_ => ((Kd.R_mono (ok' := fun k_ => ((fun _ => True)) k_ ∧ some k_ ≠ (u3 : Value).ownBlock) (Kd.R_apart' (HO363.out) (Kd.S_typed HO_3.out) (by decide)) (fun k_ hk => ⟨trivial, hk.2⟩))).1 k_ hk_.symm) ?aF ?aO ?aB ?aS ?aL ?_
          (case aP => exact Kd.M_row (Kd.R_mono (Kd.R_tight rfl (Kd.R_mono (ok' := fun k_ => ((fun _ => True)) k_ ∧ some k_ ≠ (u3 : Value).ownBlock) (Kd.R_apart' (HO363.out) (Kd.S_typed HO_3.out) (by decide)) (fun k_ hk => ⟨trivial, hk.2⟩))) (fun _ h_ => h_)))
          (case aB => exact (by repeat (first | (with_reducible first | exact HB.out | apply below_alloc | apply pw_below_drewN | apply below_drew1 | refine below_set ?_ GE355.out) | exact HB.out)))
          (case aF => exact (fun _ _ => trivial))
          (case aO => exact (by (with_reducible repeat (first | apply Kd.S_alloc | apply Kd.S_drewN | apply Kd.S_drew)); exact Kd.S_mono HO_3.out (fun k_ hk => ⟨trivial, fun e_ => hk.2 e_⟩)))
          (case aS => exact (below_size (by repeat (first | (with_reducible first | exact HB.out | apply below_alloc | apply pw_below_drewN | apply below_drew1 | refine below_set ?_ GE355.out) | exact HB.out))))
          (case aL => have := LMc13.out; omega)
          intro v365 w17 ho hb hg hat
          rw [← Ny364.out] at ho
          have n0_ := Aside0.mk (blk_grown (g := gb355) (o := .cells #[.int .i64 a0_0, .slice A0_1 l0_1.length c0_1, .slice A0_2 l0_2.length c0_2, .slice (some ad359) l0_3.length c0_3] 46 (0, 0)) (BW BK355) hg (Kd.S_ne HO_3.out BK355.out (by decide)))
          have n1_ := Aside0.mk (hb)
          have n2_ := Aside0.mk (ho)
          clear BK355
          clear HB
          clear HO_3
          clear HO363
          have BK355 := n0_
          have HB := n1_
          have HO366 := n2_
          clear n0_ n1_ n2_
          clear ho hb hg hat
          refine hK.out _ _ ⟨(blk_cell BK355.out 0).trans rfl, (blk_cell BK355.out 1).trans rfl, (blk_cell BK355.out 2).trans rfl, (blk_cell BK355.out 3).trans rfl, ((HB.out.cell (World.block_lt_of_cell? w _ hw360_0)).trans hw360_0)⟩ (fun hHeld => ?_)
          clear hK K
          refine norm_ (a' := ?_) ?_ ?_
          rotate_left
          ·show Act.put _ (some 29) _ = _
           simp only [Act.put, List.setIfInBounds_toArray, List.set_cons_zero, List.set_cons_succ, i64_w, i32_w]
           rfl
          refine pure_ (i := 15) (N := some 3) #[true, true, true, true, true, true, true, true, true, true, true, true, true, true, true, true] rfl rfl (any_of HT_.out (by kernel_rfl)) (fun _ _ _ h => h) (Or.inl ⟨by rfl, PW⟩) PU ?_
          refine done_ (done_of HT_.out (by kernel_rfl)) ?_
          try go_wp2
          go_roundg k1
          case measure => have := HK1.out; omega
          case rel => exact ⟨(y364), (wrap64 (x10_1 + 1)), RF, H', ⟨by have := HK1.out; omega⟩, ⟨KS HO366⟩, ⟨by (with_reducible repeat (first | refine blk_drewN ?_ _ | refine blk_drew ?_ | refine blk_alloc ?_ _)); exact BK355.out⟩, ⟨by repeat (first | (with_reducible first | exact HB.out | apply below_alloc | apply pw_below_drewN | apply below_drew1 | refine below_set ?_ GE355.out) | exact HB.out)⟩⟩
         ·rw [if_neg c13] at H
          cases H
        ·rw [if_neg c12] at H
         cases H
       ·rw [if_neg c11] at H
        cases H
     ·rw [if_neg c8] at H
      cases H
    ·rw [if_neg c7] at H
     cases H
   ·rw [if_neg c6] at H
    have c6b0 : decide (x10_1 < (l0_3.length : Int)) = false := decide_eq_false c6
    clear c6
    obtain rfl := Option.some.inj H
    go_wp2
    go_ret
    exact ⟨_, RE, KS HO_3, by repeat (first | (with_reducible first | exact HB.out | apply below_alloc | apply pw_below_drewN | apply below_drew1 | refine below_set ?_ GE355.out) | exact HB.out)⟩

/-! ### impl_house_isDoor: function 68 -/
def impl_house_isDoor.f (a0_0 : Int) (l0_1 : List Int) (l0_2 : List (List Int)) (l0_3 : List Int) (a1 : Int) (a2 : Int) : Option (Bool) := if 0 ≤ a1 then (if a1 < (l0_1.length : Int) then (if 0 ≤ a2 then (if a2 < (l0_1.length : Int) then (if (rd l0_1 a1) = (rd l0_1 a2) then (some false) else (if (rd l0_1 a1) < 2 then (some (decide ((rd l0_1 a2) < 2))) else (some false))) else (none)) else (none)) else (none)) else (none)
theorem impl_house_isDoor.calls (a0_0 : Int) (A0_1 : Option Addr) (c0_1 : Nat) (l0_1 : List Int) (A0_2 : Option Addr) (c0_2 : Nat) (l0_2 : List (List Int)) (A0_3 : Option Addr) (c0_3 : Nat) (l0_3 : List Int) (a1 : Int) (a2 : Int) (r : Bool) (w : World) (hr0_1 : Kd.C (Kd.int .i64) w A0_1 l0_1.length l0_1) (hc0_1 : l0_1.length ≤ c0_1) (hr0_2 : Kd.C (Kd.slice 3 (Kd.int .i64)) w A0_2 l0_2.length l0_2) (hc0_2 : l0_2.length ≤ c0_2) (hr0_3 : Kd.C (Kd.int .i64) w A0_3 l0_3.length l0_3) (hc0_3 : l0_3.length ≤ c0_3) (h : impl_house_isDoor.f a0_0 l0_1 l0_2 l0_3 a1 a2 = some r) :
  Calls Try.prog 68 #[.agg #[.int .i64 a0_0, .slice A0_1 l0_1.length c0_1, .slice A0_2 l0_2.length c0_2, .slice A0_3 l0_3.length c0_3], .int .i64 a1, .int .i64 a2] w fun e w' => e = .returned (.bool r) ∧ Below w.heap.size w w' := by
 have hu46 := Try.underlying46
 have HR0_1 := Aside0.mk hr0_1
 have HC0_1 := Aside0.mk hc0_1
 clear hr0_1 hc0_1
 have HR0_2 := Aside0.mk hr0_2
 have HC0_2 := Aside0.mk hc0_2
 clear hr0_2 hc0_2
 have HR0_3 := Aside0.mk hr0_3
 have HC0_3 := Aside0.mk hc0_3
 clear hr0_3 hc0_3
 have HB := Aside0.mk (Below.refl w.heap.size w)
 have H : (if 0 ≤ a1 then (if a1 < (l0_1.length : Int) then (if 0 ≤ a2 then (if a2 < (l0_1.length : Int) then (if (rd l0_1 a1) = (rd l0_1 a2) then (some false) else (if (rd l0_1 a1) < 2 then (some (decide ((rd l0_1 a2) < 2))) else (some false))) else (none)) else (none)) else (none)) else (none)) = some r := h
 clear h
 by_cases c4 : 0 ≤ a1
 ·rw [if_pos c4] at H
  have c4b0 : decide (0 ≤ a1) = true := decide_eq_true c4
  clear c4
  by_cases c5 : a1 < (l0_1.length : Int)
  ·rw [if_pos c5] at H
   have c5b0 : decide (a1 < (l0_1.length : Int)) = true := decide_eq_true c5
   clear c5
   by_cases c6 : 0 ≤ a2
   ·rw [if_pos c6] at H
    have c6b0 : decide (0 ≤ a2) = true := decide_eq_true c6
    clear c6
    by_cases c7 : a2 < (l0_1.length : Int)
    ·rw [if_pos c7] at H
     have c7b0 : decide (a2 < (l0_1.length : Int)) = true := decide_eq_true c7
     clear c7
     by_cases c8 : (rd l0_1 a1) = (rd l0_1 a2)
     ·rw [if_pos c8] at H
      have c8b0 : ((rd l0_1 a1) == (rd l0_1 a2)) = true := beq_iff_eq.mpr c8
      have c8b1 : ((rd l0_1 a1) != (rd l0_1 a2)) = false := bne_eq_false_iff_eq.mpr c8
      clear c8
      obtain rfl := Option.some.inj H
      go_enter Try.func68, Try.ntmps68
      go_wp2_with (first | ((with_reducible refine gate_dst (N := 3) rfl ?_); refine box_event ?hg (N := 3) ?hd (cs := #[.int .i64 a0_0, .slice A0_1 l0_1.length c0_1, .slice A0_2 l0_2.length c0_2, .slice A0_3 l0_3.length c0_3]) (t := 46) ?hr ?_; (case hd => rfl); (case hg => rfl); (case hr => exact GS); intro gb367 hg w9 hbox hb; have n0_ := Aside0.mk (below_step BB hb); have n1_ := Aside0.mk (hbox); have n2_ := Aside0.mk ((by rw [hg]; exact (below_size BB) : w.heap.size ≤ gb367)); have n3_ := Aside0.mk ((by rw [hg]; exact (below_size BB) : w.heap.size ≤ gb367)); clear HB; have HB := n0_; have BK367 := n1_; have GW367 := n2_; have GE367 := n3_; clear n0_ n1_ n2_ n3_; clear hb hbox hg; have hcz10_0 : w9.cell? ⟨gb367, 0, none⟩ = some (.int .i64 a0_0) := (blk_cell BK367.out 0).trans rfl; have hcz10_1 : w9.cell? ⟨gb367, 1, none⟩ = some (.slice A0_1 l0_1.length c0_1) := (blk_cell BK367.out 1).trans rfl; have hcz10_2 : w9.cell? ⟨gb367, 2, none⟩ = some (.slice A0_2 l0_2.length c0_2) := (blk_cell BK367.out 2).trans rfl; have hcz10_3 : w9.cell? ⟨gb367, 3, none⟩ = some (.slice A0_3 l0_3.length c0_3) := (blk_cell BK367.out 3).trans rfl; have hfz10_0 := blk_frozen BK367.out 0; have hfz10_1 := blk_frozen BK367.out 1; have hfz10_2 := blk_frozen BK367.out 2; have hfz10_3 := blk_frozen BK367.out 3; have p368 : 0 ≤ (a1 : Int) := of_decide_eq_true AS; have q368 : a1 < (l0_1.length : Int) := of_decide_eq_true AS; obtain ⟨ad368, e368, hx368_0⟩ := Kd.at_int HR0_1.out a1 p368 q368; cases e368; replace hx368_0 := (HB.out.cell (World.block_lt_of_cell? w _ hx368_0)).trans hx368_0; replace p368 := eq_true p368; replace q368 := eq_true q368; have p369 : 0 ≤ (a2 : Int) := of_decide_eq_true AS; have q369 : a2 < (l0_1.length : Int) := of_decide_eq_true AS; obtain ⟨ad369, e369, hx369_0⟩ := Kd.at_int HR0_1.out a2 p369 q369; obtain rfl : ad368 = ad369 := (by injection e369); replace hx369_0 := (HB.out.cell (World.block_lt_of_cell? w _ hx369_0)).trans hx369_0; replace p369 := eq_true p369; replace q369 := eq_true q369))
      repeat (go_quiet (first | ((with_reducible refine gate_dst (N := 3) rfl ?_); refine box_event ?hg (N := 3) ?hd (cs := #[.int .i64 a0_0, .slice A0_1 l0_1.length c0_1, .slice A0_2 l0_2.length c0_2, .slice A0_3 l0_3.length c0_3]) (t := 46) ?hr ?_; (case hd => rfl); (case hg => rfl); (case hr => exact GS); intro gb367 hg w9 hbox hb; have n0_ := Aside0.mk (below_step BB hb); have n1_ := Aside0.mk (hbox); have n2_ := Aside0.mk ((by rw [hg]; exact (below_size BB) : w.heap.size ≤ gb367)); have n3_ := Aside0.mk ((by rw [hg]; exact (below_size BB) : w.heap.size ≤ gb367)); clear HB; have HB := n0_; have BK367 := n1_; have GW367 := n2_; have GE367 := n3_; clear n0_ n1_ n2_ n3_; clear hb hbox hg; have hcz10_0 : w9.cell? ⟨gb367, 0, none⟩ = some (.int .i64 a0_0) := (blk_cell BK367.out 0).trans rfl; have hcz10_1 : w9.cell? ⟨gb367, 1, none⟩ = some (.slice A0_1 l0_1.length c0_1) := (blk_cell BK367.out 1).trans rfl; have hcz10_2 : w9.cell? ⟨gb367, 2, none⟩ = some (.slice A0_2 l0_2.length c0_2) := (blk_cell BK367.out 2).trans rfl; have hcz10_3 : w9.cell? ⟨gb367, 3, none⟩ = some (.slice A0_3 l0_3.length c0_3) := (blk_cell BK367.out 3).trans rfl; have hfz10_0 := blk_frozen BK367.out 0; have hfz10_1 := blk_frozen BK367.out 1; have hfz10_2 := blk_frozen BK367.out 2; have hfz10_3 := blk_frozen BK367.out 3; have p368 : 0 ≤ (a1 : Int) := of_decide_eq_true AS; have q368 : a1 < (l0_1.length : Int) := of_decide_eq_true AS; obtain ⟨ad368, e368, hx368_0⟩ := Kd.at_int HR0_1.out a1 p368 q368; cases e368; replace hx368_0 := (HB.out.cell (World.block_lt_of_cell? w _ hx368_0)).trans hx368_0; replace p368 := eq_true p368; replace q368 := eq_true q368; have p369 : 0 ≤ (a2 : Int) := of_decide_eq_true AS; have q369 : a2 < (l0_1.length : Int) := of_decide_eq_true AS; obtain ⟨ad369, e369, hx369_0⟩ := Kd.at_int HR0_1.out a2 p369 q369; obtain rfl : ad368 = ad369 := (by injection e369); replace hx369_0 := (HB.out.cell (World.block_lt_of_cell? w _ hx369_0)).trans hx369_0; replace p369 := eq_true p369; replace q369 := eq_true q369)); try go_wp2_with (first | ((with_reducible refine gate_dst (N := 3) rfl ?_); refine box_event ?hg (N := 3) ?hd (cs := #[.int .i64 a0_0, .slice A0_1 l0_1.length c0_1, .slice A0_2 l0_2.length c0_2, .slice A0_3 l0_3.length c0_3]) (t := 46) ?hr ?_; (case hd => rfl); (case hg => rfl); (case hr => exact GS); intro gb367 hg w9 hbox hb; have n0_ := Aside0.mk (below_step BB hb); have n1_ := Aside0.mk (hbox); have n2_ := Aside0.mk ((by rw [hg]; exact (below_size BB) : w.heap.size ≤ gb367)); have n3_ := Aside0.mk ((by rw [hg]; exact (below_size BB) : w.heap.size ≤ gb367)); clear HB; have HB := n0_; have BK367 := n1_; have GW367 := n2_; have GE367 := n3_; clear n0_ n1_ n2_ n3_; clear hb hbox hg; have hcz10_0 : w9.cell? ⟨gb367, 0, none⟩ = some (.int .i64 a0_0) := (blk_cell BK367.out 0).trans rfl; have hcz10_1 : w9.cell? ⟨gb367, 1, none⟩ = some (.slice A0_1 l0_1.length c0_1) := (blk_cell BK367.out 1).trans rfl; have hcz10_2 : w9.cell? ⟨gb367, 2, none⟩ = some (.slice A0_2 l0_2.length c0_2) := (blk_cell BK367.out 2).trans rfl; have hcz10_3 : w9.cell? ⟨gb367, 3, none⟩ = some (.slice A0_3 l0_3.length c0_3) := (blk_cell BK367.out 3).trans rfl; have hfz10_0 := blk_frozen BK367.out 0; have hfz10_1 := blk_frozen BK367.out 1; have hfz10_2 := blk_frozen BK367.out 2; have hfz10_3 := blk_frozen BK367.out 3; have p368 : 0 ≤ (a1 : Int) := of_decide_eq_true AS; have q368 : a1 < (l0_1.length : Int) := of_decide_eq_true AS; obtain ⟨ad368, e368, hx368_0⟩ := Kd.at_int HR0_1.out a1 p368 q368; cases e368; replace hx368_0 := (HB.out.cell (World.block_lt_of_cell? w _ hx368_0)).trans hx368_0; replace p368 := eq_true p368; replace q368 := eq_true q368; have p369 : 0 ≤ (a2 : Int) := of_decide_eq_true AS; have q369 : a2 < (l0_1.length : Int) := of_decide_eq_true AS; obtain ⟨ad369, e369, hx369_0⟩ := Kd.at_int HR0_1.out a2 p369 q369; obtain rfl : ad368 = ad369 := (by injection e369); replace hx369_0 := (HB.out.cell (World.block_lt_of_cell? w _ hx369_0)).trans hx369_0; replace p369 := eq_true p369; replace q369 := eq_true q369)))
      go_ret
      exact ⟨RE, by repeat (first | (with_reducible first | exact HB.out | apply below_alloc | apply pw_below_drewN | apply below_drew1 | refine below_set ?_ GE367.out) | exact HB.out)⟩
     ·rw [if_neg c8] at H
      have c8b0 : ((rd l0_1 a1) == (rd l0_1 a2)) = false := beq_eq_false_iff_ne.mpr c8
      have c8b1 : ((rd l0_1 a1) != (rd l0_1 a2)) = true := bne_iff_ne.mpr c8
      by_cases c11 : (rd l0_1 a1) < 2
      ·rw [if_pos c11] at H
       have c11b0 : decide ((rd l0_1 a1) < 2) = true := decide_eq_true c11
       clear c11
       obtain rfl := Option.some.inj H
       go_enter Try.func68, Try.ntmps68
       go_wp2_with (first | ((with_reducible refine gate_dst (N := 3) rfl ?_); refine box_event ?hg (N := 3) ?hd (cs := #[.int .i64 a0_0, .slice A0_1 l0_1.length c0_1, .slice A0_2 l0_2.length c0_2, .slice A0_3 l0_3.length c0_3]) (t := 46) ?hr ?_; (case hd => rfl); (case hg => rfl); (case hr => exact GS); intro gb367 hg w12 hbox hb; have n0_ := Aside0.mk (below_step BB hb); have n1_ := Aside0.mk (hbox); have n2_ := Aside0.mk ((by rw [hg]; exact (below_size BB) : w.heap.size ≤ gb367)); have n3_ := Aside0.mk ((by rw [hg]; exact (below_size BB) : w.heap.size ≤ gb367)); clear HB; have HB := n0_; have BK367 := n1_; have GW367 := n2_; have GE367 := n3_; clear n0_ n1_ n2_ n3_; clear hb hbox hg; have hcz13_0 : w12.cell? ⟨gb367, 0, none⟩ = some (.int .i64 a0_0) := (blk_cell BK367.out 0).trans rfl; have hcz13_1 : w12.cell? ⟨gb367, 1, none⟩ = some (.slice A0_1 l0_1.length c0_1) := (blk_cell BK367.out 1).trans rfl; have hcz13_2 : w12.cell? ⟨gb367, 2, none⟩ = some (.slice A0_2 l0_2.length c0_2) := (blk_cell BK367.out 2).trans rfl; have hcz13_3 : w12.cell? ⟨gb367, 3, none⟩ = some (.slice A0_3 l0_3.length c0_3) := (blk_cell BK367.out 3).trans rfl; have hfz13_0 := blk_frozen BK367.out 0; have hfz13_1 := blk_frozen BK367.out 1; have hfz13_2 := blk_frozen BK367.out 2; have hfz13_3 := blk_frozen BK367.out 3; have p368 : 0 ≤ (a1 : Int) := of_decide_eq_true AS; have q368 : a1 < (l0_1.length : Int) := of_decide_eq_true AS; obtain ⟨ad368, e368, hx368_0⟩ := Kd.at_int HR0_1.out a1 p368 q368; cases e368; replace hx368_0 := (HB.out.cell (World.block_lt_of_cell? w _ hx368_0)).trans hx368_0; replace p368 := eq_true p368; replace q368 := eq_true q368; have p369 : 0 ≤ (a2 : Int) := of_decide_eq_true AS; have q369 : a2 < (l0_1.length : Int) := of_decide_eq_true AS; obtain ⟨ad369, e369, hx369_0⟩ := Kd.at_int HR0_1.out a2 p369 q369; obtain rfl : ad368 = ad369 := (by injection e369); replace hx369_0 := (HB.out.cell (World.block_lt_of_cell? w _ hx369_0)).trans hx369_0; replace p369 := eq_true p369; replace q369 := eq_true q369; have p370 : 0 ≤ (a1 : Int) := of_decide_eq_true AS; have q370 : a1 < (l0_1.length : Int) := of_decide_eq_true AS; obtain ⟨ad370, e370, hx370_0⟩ := Kd.at_int HR0_1.out a1 p370 q370; obtain rfl : ad368 = ad370 := (by injection e370); replace hx370_0 := (HB.out.cell (World.block_lt_of_cell? w _ hx370_0)).trans hx370_0; replace p370 := eq_true p370; replace q370 := eq_true q370; have p371 : 0 ≤ (a2 : Int) := of_decide_eq_true AS; have q371 : a2 < (l0_1.length : Int) := of_decide_eq_true AS; obtain ⟨ad371, e371, hx371_0⟩ := Kd.at_int HR0_1.out a2 p371 q371; obtain rfl : ad368 = ad371 := (by injection e371); replace hx371_0 := (HB.out.cell (World.block_lt_of_cell? w _ hx371_0)).trans hx371_0; replace p371 := eq_true p371; replace q371 := eq_true q371))
       repeat (go_quiet (first | ((with_reducible refine gate_dst (N := 3) rfl ?_); refine box_event ?hg (N := 3) ?hd (cs := #[.int .i64 a0_0, .slice A0_1 l0_1.length c0_1, .slice A0_2 l0_2.length c0_2, .slice A0_3 l0_3.length c0_3]) (t := 46) ?hr ?_; (case hd => rfl); (case hg => rfl); (case hr => exact GS); intro gb367 hg w12 hbox hb; have n0_ := Aside0.mk (below_step BB hb); have n1_ := Aside0.mk (hbox); have n2_ := Aside0.mk ((by rw [hg]; exact (below_size BB) : w.heap.size ≤ gb367)); have n3_ := Aside0.mk ((by rw [hg]; exact (below_size BB) : w.heap.size ≤ gb367)); clear HB; have HB := n0_; have BK367 := n1_; have GW367 := n2_; have GE367 := n3_; clear n0_ n1_ n2_ n3_; clear hb hbox hg; have hcz13_0 : w12.cell? ⟨gb367, 0, none⟩ = some (.int .i64 a0_0) := (blk_cell BK367.out 0).trans rfl; have hcz13_1 : w12.cell? ⟨gb367, 1, none⟩ = some (.slice A0_1 l0_1.length c0_1) := (blk_cell BK367.out 1).trans rfl; have hcz13_2 : w12.cell? ⟨gb367, 2, none⟩ = some (.slice A0_2 l0_2.length c0_2) := (blk_cell BK367.out 2).trans rfl; have hcz13_3 : w12.cell? ⟨gb367, 3, none⟩ = some (.slice A0_3 l0_3.length c0_3) := (blk_cell BK367.out 3).trans rfl; have hfz13_0 := blk_frozen BK367.out 0; have hfz13_1 := blk_frozen BK367.out 1; have hfz13_2 := blk_frozen BK367.out 2; have hfz13_3 := blk_frozen BK367.out 3; have p368 : 0 ≤ (a1 : Int) := of_decide_eq_true AS; have q368 : a1 < (l0_1.length : Int) := of_decide_eq_true AS; obtain ⟨ad368, e368, hx368_0⟩ := Kd.at_int HR0_1.out a1 p368 q368; cases e368; replace hx368_0 := (HB.out.cell (World.block_lt_of_cell? w _ hx368_0)).trans hx368_0; replace p368 := eq_true p368; replace q368 := eq_true q368; have p369 : 0 ≤ (a2 : Int) := of_decide_eq_true AS; have q369 : a2 < (l0_1.length : Int) := of_decide_eq_true AS; obtain ⟨ad369, e369, hx369_0⟩ := Kd.at_int HR0_1.out a2 p369 q369; obtain rfl : ad368 = ad369 := (by injection e369); replace hx369_0 := (HB.out.cell (World.block_lt_of_cell? w _ hx369_0)).trans hx369_0; replace p369 := eq_true p369; replace q369 := eq_true q369; have p370 : 0 ≤ (a1 : Int) := of_decide_eq_true AS; have q370 : a1 < (l0_1.length : Int) := of_decide_eq_true AS; obtain ⟨ad370, e370, hx370_0⟩ := Kd.at_int HR0_1.out a1 p370 q370; obtain rfl : ad368 = ad370 := (by injection e370); replace hx370_0 := (HB.out.cell (World.block_lt_of_cell? w _ hx370_0)).trans hx370_0; replace p370 := eq_true p370; replace q370 := eq_true q370; have p371 : 0 ≤ (a2 : Int) := of_decide_eq_true AS; have q371 : a2 < (l0_1.length : Int) := of_decide_eq_true AS; obtain ⟨ad371, e371, hx371_0⟩ := Kd.at_int HR0_1.out a2 p371 q371; obtain rfl : ad368 = ad371 := (by injection e371); replace hx371_0 := (HB.out.cell (World.block_lt_of_cell? w _ hx371_0)).trans hx371_0; replace p371 := eq_true p371; replace q371 := eq_true q371)); try go_wp2_with (first | ((with_reducible refine gate_dst (N := 3) rfl ?_); refine box_event ?hg (N := 3) ?hd (cs := #[.int .i64 a0_0, .slice A0_1 l0_1.length c0_1, .slice A0_2 l0_2.length c0_2, .slice A0_3 l0_3.length c0_3]) (t := 46) ?hr ?_; (case hd => rfl); (case hg => rfl); (case hr => exact GS); intro gb367 hg w12 hbox hb; have n0_ := Aside0.mk (below_step BB hb); have n1_ := Aside0.mk (hbox); have n2_ := Aside0.mk ((by rw [hg]; exact (below_size BB) : w.heap.size ≤ gb367)); have n3_ := Aside0.mk ((by rw [hg]; exact (below_size BB) : w.heap.size ≤ gb367)); clear HB; have HB := n0_; have BK367 := n1_; have GW367 := n2_; have GE367 := n3_; clear n0_ n1_ n2_ n3_; clear hb hbox hg; have hcz13_0 : w12.cell? ⟨gb367, 0, none⟩ = some (.int .i64 a0_0) := (blk_cell BK367.out 0).trans rfl; have hcz13_1 : w12.cell? ⟨gb367, 1, none⟩ = some (.slice A0_1 l0_1.length c0_1) := (blk_cell BK367.out 1).trans rfl; have hcz13_2 : w12.cell? ⟨gb367, 2, none⟩ = some (.slice A0_2 l0_2.length c0_2) := (blk_cell BK367.out 2).trans rfl; have hcz13_3 : w12.cell? ⟨gb367, 3, none⟩ = some (.slice A0_3 l0_3.length c0_3) := (blk_cell BK367.out 3).trans rfl; have hfz13_0 := blk_frozen BK367.out 0; have hfz13_1 := blk_frozen BK367.out 1; have hfz13_2 := blk_frozen BK367.out 2; have hfz13_3 := blk_frozen BK367.out 3; have p368 : 0 ≤ (a1 : Int) := of_decide_eq_true AS; have q368 : a1 < (l0_1.length : Int) := of_decide_eq_true AS; obtain ⟨ad368, e368, hx368_0⟩ := Kd.at_int HR0_1.out a1 p368 q368; cases e368; replace hx368_0 := (HB.out.cell (World.block_lt_of_cell? w _ hx368_0)).trans hx368_0; replace p368 := eq_true p368; replace q368 := eq_true q368; have p369 : 0 ≤ (a2 : Int) := of_decide_eq_true AS; have q369 : a2 < (l0_1.length : Int) := of_decide_eq_true AS; obtain ⟨ad369, e369, hx369_0⟩ := Kd.at_int HR0_1.out a2 p369 q369; obtain rfl : ad368 = ad369 := (by injection e369); replace hx369_0 := (HB.out.cell (World.block_lt_of_cell? w _ hx369_0)).trans hx369_0; replace p369 := eq_true p369; replace q369 := eq_true q369; have p370 : 0 ≤ (a1 : Int) := of_decide_eq_true AS; have q370 : a1 < (l0_1.length : Int) := of_decide_eq_true AS; obtain ⟨ad370, e370, hx370_0⟩ := Kd.at_int HR0_1.out a1 p370 q370; obtain rfl : ad368 = ad370 := (by injection e370); replace hx370_0 := (HB.out.cell (World.block_lt_of_cell? w _ hx370_0)).trans hx370_0; replace p370 := eq_true p370; replace q370 := eq_true q370; have p371 : 0 ≤ (a2 : Int) := of_decide_eq_true AS; have q371 : a2 < (l0_1.length : Int) := of_decide_eq_true AS; obtain ⟨ad371, e371, hx371_0⟩ := Kd.at_int HR0_1.out a2 p371 q371; obtain rfl : ad368 = ad371 := (by injection e371); replace hx371_0 := (HB.out.cell (World.block_lt_of_cell? w _ hx371_0)).trans hx371_0; replace p371 := eq_true p371; replace q371 := eq_true q371)))
       go_ret
       exact ⟨RE, by repeat (first | (with_reducible first | exact HB.out | apply below_alloc | apply pw_below_drewN | apply below_drew1 | refine below_set ?_ GE367.out) | exact HB.out)⟩
      ·rw [if_neg c11] at H
       have c11b0 : decide ((rd l0_1 a1) < 2) = false := decide_eq_false c11
       clear c11
       obtain rfl := Option.some.inj H
       go_enter Try.func68, Try.ntmps68
       go_wp2_with (first | ((with_reducible refine gate_dst (N := 3) rfl ?_); refine box_event ?hg (N := 3) ?hd (cs := #[.int .i64 a0_0, .slice A0_1 l0_1.length c0_1, .slice A0_2 l0_2.length c0_2, .slice A0_3 l0_3.length c0_3]) (t := 46) ?hr ?_; (case hd => rfl); (case hg => rfl); (case hr => exact GS); intro gb367 hg w14 hbox hb; have n0_ := Aside0.mk (below_step BB hb); have n1_ := Aside0.mk (hbox); have n2_ := Aside0.mk ((by rw [hg]; exact (below_size BB) : w.heap.size ≤ gb367)); have n3_ := Aside0.mk ((by rw [hg]; exact (below_size BB) : w.heap.size ≤ gb367)); clear HB; have HB := n0_; have BK367 := n1_; have GW367 := n2_; have GE367 := n3_; clear n0_ n1_ n2_ n3_; clear hb hbox hg; have hcz15_0 : w14.cell? ⟨gb367, 0, none⟩ = some (.int .i64 a0_0) := (blk_cell BK367.out 0).trans rfl; have hcz15_1 : w14.cell? ⟨gb367, 1, none⟩ = some (.slice A0_1 l0_1.length c0_1) := (blk_cell BK367.out 1).trans rfl; have hcz15_2 : w14.cell? ⟨gb367, 2, none⟩ = some (.slice A0_2 l0_2.length c0_2) := (blk_cell BK367.out 2).trans rfl; have hcz15_3 : w14.cell? ⟨gb367, 3, none⟩ = some (.slice A0_3 l0_3.length c0_3) := (blk_cell BK367.out 3).trans rfl; have hfz15_0 := blk_frozen BK367.out 0; have hfz15_1 := blk_frozen BK367.out 1; have hfz15_2 := blk_frozen BK367.out 2; have hfz15_3 := blk_frozen BK367.out 3; have p368 : 0 ≤ (a1 : Int) := of_decide_eq_true AS; have q368 : a1 < (l0_1.length : Int) := of_decide_eq_true AS; obtain ⟨ad368, e368, hx368_0⟩ := Kd.at_int HR0_1.out a1 p368 q368; cases e368; replace hx368_0 := (HB.out.cell (World.block_lt_of_cell? w _ hx368_0)).trans hx368_0; replace p368 := eq_true p368; replace q368 := eq_true q368; have p369 : 0 ≤ (a2 : Int) := of_decide_eq_true AS; have q369 : a2 < (l0_1.length : Int) := of_decide_eq_true AS; obtain ⟨ad369, e369, hx369_0⟩ := Kd.at_int HR0_1.out a2 p369 q369; obtain rfl : ad368 = ad369 := (by injection e369); replace hx369_0 := (HB.out.cell (World.block_lt_of_cell? w _ hx369_0)).trans hx369_0; replace p369 := eq_true p369; replace q369 := eq_true q369; have p370 : 0 ≤ (a1 : Int) := of_decide_eq_true AS; have q370 : a1 < (l0_1.length : Int) := of_decide_eq_true AS; obtain ⟨ad370, e370, hx370_0⟩ := Kd.at_int HR0_1.out a1 p370 q370; obtain rfl : ad368 = ad370 := (by injection e370); replace hx370_0 := (HB.out.cell (World.block_lt_of_cell? w _ hx370_0)).trans hx370_0; replace p370 := eq_true p370; replace q370 := eq_true q370))
       repeat (go_quiet (first | ((with_reducible refine gate_dst (N := 3) rfl ?_); refine box_event ?hg (N := 3) ?hd (cs := #[.int .i64 a0_0, .slice A0_1 l0_1.length c0_1, .slice A0_2 l0_2.length c0_2, .slice A0_3 l0_3.length c0_3]) (t := 46) ?hr ?_; (case hd => rfl); (case hg => rfl); (case hr => exact GS); intro gb367 hg w14 hbox hb; have n0_ := Aside0.mk (below_step BB hb); have n1_ := Aside0.mk (hbox); have n2_ := Aside0.mk ((by rw [hg]; exact (below_size BB) : w.heap.size ≤ gb367)); have n3_ := Aside0.mk ((by rw [hg]; exact (below_size BB) : w.heap.size ≤ gb367)); clear HB; have HB := n0_; have BK367 := n1_; have GW367 := n2_; have GE367 := n3_; clear n0_ n1_ n2_ n3_; clear hb hbox hg; have hcz15_0 : w14.cell? ⟨gb367, 0, none⟩ = some (.int .i64 a0_0) := (blk_cell BK367.out 0).trans rfl; have hcz15_1 : w14.cell? ⟨gb367, 1, none⟩ = some (.slice A0_1 l0_1.length c0_1) := (blk_cell BK367.out 1).trans rfl; have hcz15_2 : w14.cell? ⟨gb367, 2, none⟩ = some (.slice A0_2 l0_2.length c0_2) := (blk_cell BK367.out 2).trans rfl; have hcz15_3 : w14.cell? ⟨gb367, 3, none⟩ = some (.slice A0_3 l0_3.length c0_3) := (blk_cell BK367.out 3).trans rfl; have hfz15_0 := blk_frozen BK367.out 0; have hfz15_1 := blk_frozen BK367.out 1; have hfz15_2 := blk_frozen BK367.out 2; have hfz15_3 := blk_frozen BK367.out 3; have p368 : 0 ≤ (a1 : Int) := of_decide_eq_true AS; have q368 : a1 < (l0_1.length : Int) := of_decide_eq_true AS; obtain ⟨ad368, e368, hx368_0⟩ := Kd.at_int HR0_1.out a1 p368 q368; cases e368; replace hx368_0 := (HB.out.cell (World.block_lt_of_cell? w _ hx368_0)).trans hx368_0; replace p368 := eq_true p368; replace q368 := eq_true q368; have p369 : 0 ≤ (a2 : Int) := of_decide_eq_true AS; have q369 : a2 < (l0_1.length : Int) := of_decide_eq_true AS; obtain ⟨ad369, e369, hx369_0⟩ := Kd.at_int HR0_1.out a2 p369 q369; obtain rfl : ad368 = ad369 := (by injection e369); replace hx369_0 := (HB.out.cell (World.block_lt_of_cell? w _ hx369_0)).trans hx369_0; replace p369 := eq_true p369; replace q369 := eq_true q369; have p370 : 0 ≤ (a1 : Int) := of_decide_eq_true AS; have q370 : a1 < (l0_1.length : Int) := of_decide_eq_true AS; obtain ⟨ad370, e370, hx370_0⟩ := Kd.at_int HR0_1.out a1 p370 q370; obtain rfl : ad368 = ad370 := (by injection e370); replace hx370_0 := (HB.out.cell (World.block_lt_of_cell? w _ hx370_0)).trans hx370_0; replace p370 := eq_true p370; replace q370 := eq_true q370)); try go_wp2_with (first | ((with_reducible refine gate_dst (N := 3) rfl ?_); refine box_event ?hg (N := 3) ?hd (cs := #[.int .i64 a0_0, .slice A0_1 l0_1.length c0_1, .slice A0_2 l0_2.length c0_2, .slice A0_3 l0_3.length c0_3]) (t := 46) ?hr ?_; (case hd => rfl); (case hg => rfl); (case hr => exact GS); intro gb367 hg w14 hbox hb; have n0_ := Aside0.mk (below_step BB hb); have n1_ := Aside0.mk (hbox); have n2_ := Aside0.mk ((by rw [hg]; exact (below_size BB) : w.heap.size ≤ gb367)); have n3_ := Aside0.mk ((by rw [hg]; exact (below_size BB) : w.heap.size ≤ gb367)); clear HB; have HB := n0_; have BK367 := n1_; have GW367 := n2_; have GE367 := n3_; clear n0_ n1_ n2_ n3_; clear hb hbox hg; have hcz15_0 : w14.cell? ⟨gb367, 0, none⟩ = some (.int .i64 a0_0) := (blk_cell BK367.out 0).trans rfl; have hcz15_1 : w14.cell? ⟨gb367, 1, none⟩ = some (.slice A0_1 l0_1.length c0_1) := (blk_cell BK367.out 1).trans rfl; have hcz15_2 : w14.cell? ⟨gb367, 2, none⟩ = some (.slice A0_2 l0_2.length c0_2) := (blk_cell BK367.out 2).trans rfl; have hcz15_3 : w14.cell? ⟨gb367, 3, none⟩ = some (.slice A0_3 l0_3.length c0_3) := (blk_cell BK367.out 3).trans rfl; have hfz15_0 := blk_frozen BK367.out 0; have hfz15_1 := blk_frozen BK367.out 1; have hfz15_2 := blk_frozen BK367.out 2; have hfz15_3 := blk_frozen BK367.out 3; have p368 : 0 ≤ (a1 : Int) := of_decide_eq_true AS; have q368 : a1 < (l0_1.length : Int) := of_decide_eq_true AS; obtain ⟨ad368, e368, hx368_0⟩ := Kd.at_int HR0_1.out a1 p368 q368; cases e368; replace hx368_0 := (HB.out.cell (World.block_lt_of_cell? w _ hx368_0)).trans hx368_0; replace p368 := eq_true p368; replace q368 := eq_true q368; have p369 : 0 ≤ (a2 : Int) := of_decide_eq_true AS; have q369 : a2 < (l0_1.length : Int) := of_decide_eq_true AS; obtain ⟨ad369, e369, hx369_0⟩ := Kd.at_int HR0_1.out a2 p369 q369; obtain rfl : ad368 = ad369 := (by injection e369); replace hx369_0 := (HB.out.cell (World.block_lt_of_cell? w _ hx369_0)).trans hx369_0; replace p369 := eq_true p369; replace q369 := eq_true q369; have p370 : 0 ≤ (a1 : Int) := of_decide_eq_true AS; have q370 : a1 < (l0_1.length : Int) := of_decide_eq_true AS; obtain ⟨ad370, e370, hx370_0⟩ := Kd.at_int HR0_1.out a1 p370 q370; obtain rfl : ad368 = ad370 := (by injection e370); replace hx370_0 := (HB.out.cell (World.block_lt_of_cell? w _ hx370_0)).trans hx370_0; replace p370 := eq_true p370; replace q370 := eq_true q370)))
       go_ret
       exact ⟨RE, by repeat (first | (with_reducible first | exact HB.out | apply below_alloc | apply pw_below_drewN | apply below_drew1 | refine below_set ?_ GE367.out) | exact HB.out)⟩
    ·rw [if_neg c7] at H
     cases H
   ·rw [if_neg c6] at H
    cases H
  ·rw [if_neg c5] at H
   cases H
 ·rw [if_neg c4] at H
  cases H

/-! ### impl_house_entries_1: function 67 -/
def impl_house_entries_1.f (l0 : List Int) (l1 : List (S46)) : Option (Bool) := if 0 < (l1.length : Int) then (if 0 < (l0.length : Int) then (if 1 < (l0.length : Int) then ((impl_house_isDoor.f ((rd_T46 l1 0).f0) ((rd_T46 l1 0).f1) ((rd_T46 l1 0).f2) ((rd_T46 l1 0).f3) (rd l0 0) (rd l0 1)).bind fun t375 => (some (!t375))) else (none)) else (none)) else (none)
def impl_house_entries_1.T1 : Bool × List (List Nat × List Nat) := (true, [([], []), ([], []), ([1], [1]), ([2], [2]), ([], []), ([4], [4]), ([5], [5]), ([0, 3, 6], [0, 3, 6]), ([7], [7]), ([8, 7, 0, 1, 2, 3, 4, 5, 6, 7, 8], [8])])
def impl_house_entries_1.B1 : List Nat := [0, 0, 2, 6, 0, 16, 48, 127, 255, 511]
theorem impl_house_entries_1.tab1 : rtab .any (opsOf Try.f67 1) = impl_house_entries_1.T1 := by kernel_rfl
theorem impl_house_entries_1.bits1 : waitsOk impl_house_entries_1.T1.2 impl_house_entries_1.B1 = true := by kernel_rfl
theorem impl_house_entries_1.calls (A0 : Option Addr) (c0 : Nat) (l0 : List Int) (A1 : Option Addr) (c1 : Nat) (l1 : List (S46)) (r : Bool) (w : World) (hr0 : Kd.C (Kd.int .i64) w A0 l0.length l0) (hc0 : l0.length ≤ c0) (hr1 : Kd.C k46 w A1 l1.length l1) (hc1 : l1.length ≤ c1) (h : impl_house_entries_1.f l0 l1 = some r) :
  Calls Try.prog 67 #[.slice A0 l0.length c0, .pointer A1] w fun e w' => e = .returned (.bool r) ∧ Below w.heap.size w w' := by
 have hu46 := Try.underlying46
 have HR0 := Aside0.mk hr0
 have HC0 := Aside0.mk hc0
 clear hr0 hc0
 have HR1 := Aside0.mk hr1
 have HC1 := Aside0.mk hc1
 clear hr1 hc1
 have HB := Aside0.mk (Below.refl w.heap.size w)
 have H : (if 0 < (l1.length : Int) then (if 0 < (l0.length : Int) then (if 1 < (l0.length : Int) then ((impl_house_isDoor.f ((rd_T46 l1 0).f0) ((rd_T46 l1 0).f1) ((rd_T46 l1 0).f2) ((rd_T46 l1 0).f3) (rd l0 0) (rd l0 1)).bind fun t375 => (some (!t375))) else (none)) else (none)) else (none)) = some r := h
 clear h
 by_cases c3 : 0 < (l1.length : Int)
 ·rw [if_pos c3] at H
  have c3b0 : decide (0 < (l1.length : Int)) = true := decide_eq_true c3
  have c3b1 : decide (0 < l1.length) = true := decide_eq_true (by omega)
  clear c3
  by_cases c4 : 0 < (l0.length : Int)
  ·rw [if_pos c4] at H
   have c4b0 : decide (0 < (l0.length : Int)) = true := decide_eq_true c4
   have c4b1 : decide (0 < l0.length) = true := decide_eq_true (by omega)
   clear c4
   by_cases c5 : 1 < (l0.length : Int)
   ·rw [if_pos c5] at H
    have c5b0 : decide (1 < (l0.length : Int)) = true := decide_eq_true c5
    have c5b1 : decide (1 < l0.length) = true := decide_eq_true (by omega)
    clear c5
    obtain ⟨t375, A60, H⟩ := Option.bind_eq_some_iff.mp H
    have A6 := Aside0.mk A60
    clear A60
    obtain rfl := Option.some.inj H
    go_enter Try.func67, Try.ntmps67
    try go_wp2
    have n0_ := Aside0.mk (below_drew1 HB.out)
    clear HB
    have HB := n0_
    clear n0_
    have p372 : 0 ≤ (0 : Int) := (by omega)
    have q372 : 0 < (l1.length : Int) := of_decide_eq_true AS
    obtain ⟨ad372, A372_1, c372_1, A372_2, c372_2, A372_3, c372_3, e372, hx372_0, hx372_1, hx372_2, hx372_3, hl372_1, hi372_1, hl372_2, hi372_2, hl372_3, hi372_3⟩ := at_T46 HR1.out 0 p372 q372
    have hw372_3 := hx372_3
    (try rw [show ((0 : Int)).toNat = 0 from rfl] at hw372_3)
    (try rw [show 0 * 4 = 0 from rfl] at hw372_3)
    (try rw [Addr.add_zero'] at hw372_3)
    have hw372_2 := hx372_2
    (try rw [show ((0 : Int)).toNat = 0 from rfl] at hw372_2)
    (try rw [show 0 * 4 = 0 from rfl] at hw372_2)
    (try rw [Addr.add_zero'] at hw372_2)
    have hw372_1 := hx372_1
    (try rw [show ((0 : Int)).toNat = 0 from rfl] at hw372_1)
    (try rw [show 0 * 4 = 0 from rfl] at hw372_1)
    (try rw [Addr.add_zero'] at hw372_1)
    have hw372_0 := hx372_0
    (try rw [show ((0 : Int)).toNat = 0 from rfl] at hw372_0)
    (try rw [show 0 * 4 = 0 from rfl] at hw372_0)
    (try rw [Addr.add_zero'] at hw372_0)
    cases e372
    have qi372 : (0 < l1.length) = True := eq_true (by omega)
    (try rw [show ((0 : Int)).toNat = 0 from rfl] at hx372_0)
    (try rw [show 0 * 4 = 0 from rfl] at hx372_0)
    (try rw [Addr.add_zero'] at hx372_0)
    (try rw [show ((0 : Int)).toNat = 0 from rfl] at hx372_1)
    (try rw [show 0 * 4 = 0 from rfl] at hx372_1)
    (try rw [Addr.add_zero'] at hx372_1)
    (try rw [show ((0 : Int)).toNat = 0 from rfl] at hx372_2)
    (try rw [show 0 * 4 = 0 from rfl] at hx372_2)
    (try rw [Addr.add_zero'] at hx372_2)
    (try rw [show ((0 : Int)).toNat = 0 from rfl] at hx372_3)
    (try rw [show 0 * 4 = 0 from rfl] at hx372_3)
    (try rw [Addr.add_zero'] at hx372_3)
    try (replace hx372_0 := (HB.out.cell (World.block_lt_of_cell? w _ hx372_0)).trans hx372_0)
    try (replace hx372_1 := (HB.out.cell (World.block_lt_of_cell? w _ hx372_1)).trans hx372_1)
    try (replace hx372_2 := (HB.out.cell (World.block_lt_of_cell? w _ hx372_2)).trans hx372_2)
    try (replace hx372_3 := (HB.out.cell (World.block_lt_of_cell? w _ hx372_3)).trans hx372_3)
    have HR372_1 := Aside0.mk hi372_1
    have HC372_1 := Aside0.mk hl372_1
    clear hi372_1 hl372_1
    have HR372_2 := Aside0.mk hi372_2
    have HC372_2 := Aside0.mk hl372_2
    clear hi372_2 hl372_2
    have HR372_3 := Aside0.mk hi372_3
    have HC372_3 := Aside0.mk hl372_3
    clear hi372_3 hl372_3
    replace p372 := eq_true p372
    replace q372 := eq_true q372
    have p373 : 0 ≤ (0 : Int) := (by omega)
    have q373 : 0 < (l0.length : Int) := of_decide_eq_true AS
    obtain ⟨ad373, e373, hx373_0⟩ := Kd.at_int HR0.out 0 p373 q373
    have hw373_0 := hx373_0
    (try rw [show ((0 : Int)).toNat = 0 from rfl] at hw373_0)
    (try rw [show 0 * 1 = 0 from rfl] at hw373_0)
    (try rw [Addr.add_zero'] at hw373_0)
    cases e373
    have qi373 : (0 < l0.length) = True := eq_true (by omega)
    (try rw [show ((0 : Int)).toNat = 0 from rfl] at hx373_0)
    (try rw [Addr.add_zero'] at hx373_0)
    try (replace hx373_0 := (HB.out.cell (World.block_lt_of_cell? w _ hx373_0)).trans hx373_0)
    replace p373 := eq_true p373
    replace q373 := eq_true q373
    have p374 : 0 ≤ (1 : Int) := (by omega)
    have q374 : 1 < (l0.length : Int) := of_decide_eq_true AS
    obtain ⟨ad374, e374, hx374_0⟩ := Kd.at_int HR0.out 1 p374 q374
    have hw374_0 := hx374_0
    (try rw [show ((1 : Int)).toNat = 1 from rfl] at hw374_0)
    (try rw [show 1 * 1 = 1 from rfl] at hw374_0)
    (try simp only [Nat.reduceMul, Nat.reduceEqDiff, Go.Addr.add, ↓reduceIte] at hw374_0)
    obtain rfl : ad373 = ad374 := (by injection e374)
    (try simp only [show (1 : Int).toNat = 1 from rfl, Nat.reduceMul, Nat.reduceEqDiff, Go.Addr.add, ↓reduceIte] at hx374_0)
    have qi374 : (1 < l0.length) = True := eq_true (by omega)
    (try rw [show ((1 : Int)).toNat = 1 from rfl] at hx374_0)
    try (replace hx374_0 := (HB.out.cell (World.block_lt_of_cell? w _ hx374_0)).trans hx374_0)
    replace p374 := eq_true p374
    replace q374 := eq_true q374
    refine start_ (n := 10) (S := fun w' => w'.cell? ad372 = some (.int .i64 ((rd_T46 l1 0).f0)) ∧ w'.cell? ⟨ad372.block, ad372.off + 1, none⟩ = some (.slice A372_1 ((rd_T46 l1 0).f1).length c372_1) ∧ w'.cell? ⟨ad372.block, ad372.off + 2, none⟩ = some (.slice A372_2 ((rd_T46 l1 0).f2).length c372_2) ∧ w'.cell? ⟨ad372.block, ad372.off + 3, none⟩ = some (.slice A372_3 ((rd_T46 l1 0).f3).length c372_3) ∧ w'.cell? ad373 = some (.int .i64 (rd l0 0)) ∧ w'.cell? ⟨ad373.block, ad373.off + 1, none⟩ = some (.int .i64 (rd l0 1))) (ds := []) #[false, false, false, false, false, false, false, false, false, false] (by kernel_rfl) rfl rfl ⟨((HB.out.cell (World.block_lt_of_cell? w _ hw372_0)).trans hw372_0), ((HB.out.cell (World.block_lt_of_cell? w _ hw372_1)).trans hw372_1), ((HB.out.cell (World.block_lt_of_cell? w _ hw372_2)).trans hw372_2), ((HB.out.cell (World.block_lt_of_cell? w _ hw372_3)).trans hw372_3), ((HB.out.cell (World.block_lt_of_cell? w _ hw373_0)).trans hw373_0), ((HB.out.cell (World.block_lt_of_cell? w _ hw374_0)).trans hw374_0)⟩ (fun hHeld => ?_); refine with_tabW impl_house_entries_1.tab1 impl_house_entries_1.bits1 (fun HT_ HW_ => ?_)
    generalize w.drew = w7 at HB HR372_1 HR372_2 HR372_3 hx372_0 hx372_1 hx372_2 hx372_3 hx373_0 hx374_0 hHeld ⊢
    refine pure_ (i := 1) (N := some 5) #[false, true, false, false, false, false, false, false, false, false] rfl rfl (any_of HT_.out (by kernel_rfl)) (fun _ _ _ h => h) (Or.inl ⟨by rfl, PW⟩) PU ?_
    refine pure_ (i := 2) (N := some 6) #[false, true, true, false, false, false, false, false, false, false] rfl rfl (any_of HT_.out (by kernel_rfl)) (fun _ _ _ h => h) (Or.inl ⟨by rfl, PW⟩) PU ?_
    refine pure_ (i := 4) (N := some 8) #[false, true, true, false, true, false, false, false, false, false] rfl rfl (any_of HT_.out (by kernel_rfl)) (fun _ _ _ h => h) (Or.inl ⟨by rfl, PW⟩) PU ?_
    refine pure_ (i := 5) (N := some 9) #[false, true, true, false, true, true, false, false, false, false] rfl rfl (any_of HT_.out (by kernel_rfl)) (fun _ _ _ h => h) (Or.inl ⟨by rfl, PW⟩) PU ?_
    refine take_ (i := 0) (N := some 4) #[true, true, true, false, true, true, false, false, false, false] rfl rfl (take_ofW HT_.out HW_.out (by kernel_rfl)) (fun _ _ _ h => h) (Or.inl ⟨by rfl, PT⟩) hHeld PU ?_
    refine take_ (i := 3) (N := some 7) #[true, true, true, true, true, true, false, false, false, false] rfl rfl (take_ofW HT_.out HW_.out (by kernel_rfl)) (fun _ _ _ h => h) (Or.inl ⟨by rfl, PT⟩) hHeld PU ?_
    refine take_ (i := 6) (N := some 10) #[true, true, true, true, true, true, true, false, false, false] rfl rfl (take_ofW HT_.out HW_.out (by kernel_rfl)) (fun _ _ _ h => h) (Or.inl ⟨by rfl, PT⟩) hHeld PU ?_
    refine one_ (i := 7) (N := some 11) #[true, true, true, true, true, true, true, true, false, false] rfl rfl (one_of HT_.out (by kernel_rfl)) (by decide) (fun K hK => ?_)
    refine goes_ Try.func68 (by kernel_rfl) rfl #[.agg #[.int .i64 ((rd_T46 l1 0).f0), .slice A372_1 ((rd_T46 l1 0).f1).length c372_1, .slice A372_2 ((rd_T46 l1 0).f2).length c372_2, .slice A372_3 ((rd_T46 l1 0).f3).length c372_3], .int .i64 (rd l0 0), .int .i64 (rd l0 1)] (by rfl) rfl rfl TA ?_
    with_reducible refine (impl_house_isDoor.calls ((rd_T46 l1 0).f0) _ _ ((rd_T46 l1 0).f1) _ _ ((rd_T46 l1 0).f2) _ _ ((rd_T46 l1 0).f3) (rd l0 0) (rd l0 1) t375 _ ?side1 ?side2 ?side3 ?side4 ?side5 ?side6 A6.out).mono ?_
    (case side1 => exact CW (Kd.C_below HR372_1.out HB.out))
    (case side2 => exact HC372_1.out)
    (case side3 => exact CW (Kd.C_below HR372_2.out HB.out))
    (case side4 => exact HC372_2.out)
    (case side5 => exact CW (Kd.C_below HR372_3.out HB.out))
    (case side6 => exact HC372_3.out)
    rintro e w8 ⟨rfl, hb⟩
    refine ⟨_, rfl, ?_⟩
    have n0_ := Aside0.mk (below_step BB hb)
    clear HB
    have HB := n0_
    clear n0_
    (try clear hb)
    (try clear hb2)
    (try clear hk)
    (try clear hi)
    refine hK.out _ _ ⟨((HB.out.cell (World.block_lt_of_cell? w _ hw372_0)).trans hw372_0), ((HB.out.cell (World.block_lt_of_cell? w _ hw372_1)).trans hw372_1), ((HB.out.cell (World.block_lt_of_cell? w _ hw372_2)).trans hw372_2), ((HB.out.cell (World.block_lt_of_cell? w _ hw372_3)).trans hw372_3), ((HB.out.cell (World.block_lt_of_cell? w _ hw373_0)).trans hw373_0), ((HB.out.cell (World.block_lt_of_cell? w _ hw374_0)).trans hw374_0)⟩ (fun hHeld => ?_)
    clear hK K
    refine norm_ (a' := ?_) ?_ ?_
    rotate_left
    ·show Act.put _ (some 11) _ = _
     simp only [Act.put, List.setIfInBounds_toArray, List.set_cons_zero, List.set_cons_succ, i64_w, i32_w]
     rfl
    refine pure_ (i := 8) (N := some 12) #[true, true, true, true, true, true, true, true, true, false] rfl rfl (any_of HT_.out (by kernel_rfl)) (fun _ _ _ h => h) (Or.inl ⟨by rfl, PW⟩) PU ?_
    refine pure_ (i := 9) (N := some 3) #[true, true, true, true, true, true, true, true, true, true] rfl rfl (any_of HT_.out (by kernel_rfl)) (fun _ _ _ h => h) (Or.inl ⟨by rfl, PW⟩) PU ?_
    refine done_ (done_of HT_.out (by kernel_rfl)) ?_
    try go_wp2
    go_ret
    exact ⟨RE, BB⟩
   ·rw [if_neg c5] at H
    cases H
  ·rw [if_neg c4] at H
   cases H
 ·rw [if_neg c3] at H
  cases H

/-! ### impl_house_entries: function 32 (given) -/
def impl_house_entries.q (a0 : Int) (l1 : List Int) (l2 : List (List Int)) (l3 : List Int) (x : List Int) : Bool := (impl_house_entries_1.f x [(⟨a0, l1, l2, l3⟩ : S46)]).getD false
def impl_house_entries.f (k : Nat) (a0 : Int) (l1 : List Int) (l2 : List (List Int)) (l3 : List Int) : Option (List (List Int)) := (impl_house_steps.f k a0 l1 l2 l3).bind fun t => if ((t.all fun x => (impl_house_entries_1.f x [(⟨a0, l1, l2, l3⟩ : S46)]).isSome) && decide (t.length ≤ 9223372036854775807)) = true then some (t.filter fun x => !impl_house_entries.q a0 l1 l2 l3 x) else none
theorem impl_house_entries.mono : ∀ a0 a1 a2 a3 k, LeO (impl_house_entries.f k a0 a1 a2 a3) (impl_house_entries.f (k + 1) a0 a1 a2 a3) := by
 intro a0 a1 a2 a3 k
 unfold impl_house_entries.f
 exact LeO.bind (impl_house_steps.mono _ _ _ _ _) (fun _ => LeO.refl _)
theorem impl_house_entries.cl {a0_0 : Int} {A0_1 : Option Addr} {c0_1 : Nat} {l0_1 : List Int} {A0_2 : Option Addr} {c0_2 : Nat} {l0_2 : List (List Int)} {A0_3 : Option Addr} {c0_3 : Nat} {l0_3 : List Int} {w1 w2 : World} {gb : Nat} {ok : Nat → Prop} {v0 : Value} {t : List (List Int)}
  (hX : w1.heap[gb]? = some (.cells #[.int .i64 a0_0, .slice A0_1 l0_1.length c0_1, .slice A0_2 l0_2.length c0_2, .slice A0_3 l0_3.length c0_3] 46 (0, 0))) (hb2 : Below w1.heap.size w1 w2) (hS : Kd.S (Kd.slice 3 (Kd.int .i64)) 22 w2 w1.heap.size ok v0 t)
  (hr1 : Kd.C (Kd.int .i64) w1 A0_1 l0_1.length l0_1) (hc1 : l0_1.length ≤ c0_1) (hr2 : Kd.C (Kd.slice 3 (Kd.int .i64)) w1 A0_2 l0_2.length l0_2) (hc2 : l0_2.length ≤ c0_2) (hr3 : Kd.C (Kd.int .i64) w1 A0_3 l0_3.length l0_3) (hc3 : l0_3.length ≤ c0_3)
  (hall : (t.all fun x => (impl_house_entries_1.f x [(⟨a0_0, l0_1, l0_2, l0_3⟩ : S46)]).isSome) = true) :
  ∀ x ∈ t, ∀ (A : Option Addr) (c : Nat) (W : World), W.os = w2.os → W.tape = w2.tape → W.output = w2.output → Kept w2 W (fun k => some k = v0.ownBlock) → Kd.C (Kd.int .i64) W A x.length x → x.length ≤ c →
   Calls Try.prog 67 (#[.slice A x.length c] ++ #[.pointer (some ⟨gb, 0, none⟩)]) W fun e W' => e = .returned (.bool (impl_house_entries.q a0_0 l0_1 l0_2 l0_3 x)) ∧ Below W.heap.size W W' := by
 intro x hx A c W hos htp hout hK hC hlc
 have hgb : gb < w1.heap.size := blk_lt hX
 have hv0 : ∀ q, v0.ownBlock = some q → w1.heap.size ≤ q := fun q hq => Kd.R_base (Kd.S_R hS) q hq
 have hblk : ∀ q, q < w1.heap.size → W.heap[q]? = w1.heap[q]? := fun q hq => (hK.2 q (Nat.lt_of_lt_of_le hq hb2.size) (fun e => by have := hv0 q e.symm; omega)).trans (hb2.block q hq)
 have hBW : Below w1.heap.size w1 W := ⟨hos.trans hb2.os, htp.trans hb2.tape, hout.trans hb2.output, Nat.le_trans hb2.size hK.1, hblk⟩
 have hsome : (impl_house_entries_1.f x [(⟨a0_0, l0_1, l0_2, l0_3⟩ : S46)]) = some (impl_house_entries.q a0_0 l0_1 l0_2 l0_3 x) := by
  have h1 := List.all_eq_true.1 hall x hx
  unfold impl_house_entries.q
  obtain ⟨b, hb⟩ := Option.isSome_iff_exists.1 h1
  rw [hb]; rfl
 show Calls Try.prog 67 #[.slice A x.length c, .pointer (some ⟨gb, 0, none⟩)] W _
 exact impl_house_entries_1.calls A c x (some ⟨gb, 0, none⟩) 1 [(⟨a0_0, l0_1, l0_2, l0_3⟩ : S46)] (impl_house_entries.q a0_0 l0_1 l0_2 l0_3 x) W hC hlc
  (Kd.C_box k46 (g := gb) (t := 46) (cs := #[.int .i64 a0_0, .slice A0_1 l0_1.length c0_1, .slice A0_2 l0_2.length c0_2, .slice A0_3 l0_3.length c0_3]) ((hblk gb hgb).trans hX)
   (k46_mk W (⟨a0_0, l0_1, l0_2, l0_3⟩ : S46) hc1 (Kd.C_below hr1 hBW) hc2 (Kd.C_below hr2 hBW) hc3 (Kd.C_below hr3 hBW)))
  (Nat.le_refl _) hsome
theorem impl_house_entries.calls (k : Nat) (a0_0 : Int) (A0_1 : Option Addr) (c0_1 : Nat) (l0_1 : List Int) (A0_2 : Option Addr) (c0_2 : Nat) (l0_2 : List (List Int)) (A0_3 : Option Addr) (c0_3 : Nat) (l0_3 : List Int) (r : List (List Int)) (w : World) (hr0_1 : Kd.C (Kd.int .i64) w A0_1 l0_1.length l0_1) (hc0_1 : l0_1.length ≤ c0_1) (hr0_2 : Kd.C (Kd.slice 3 (Kd.int .i64)) w A0_2 l0_2.length l0_2) (hc0_2 : l0_2.length ≤ c0_2) (hr0_3 : Kd.C (Kd.int .i64) w A0_3 l0_3.length l0_3) (hc0_3 : l0_3.length ≤ c0_3) (h : impl_house_entries.f k a0_0 l0_1 l0_2 l0_3 = some r) :
  Calls Try.prog 32 #[.agg #[.int .i64 a0_0, .slice A0_1 l0_1.length c0_1, .slice A0_2 l0_2.length c0_2, .slice A0_3 l0_3.length c0_3]] w fun e w' => ∃ v0_ : Value, e = .returned (v0_) ∧ Kd.S (Kd.slice 3 (Kd.int .i64)) 22 w' w.heap.size (fun _ => True) v0_ r ∧ Below w.heap.size w w' := by
 have hu := Try.underlying46
 have HR1 := Aside0.mk hr0_1
 have HR2 := Aside0.mk hr0_2
 have HR3 := Aside0.mk hr0_3
 have HC1 := Aside0.mk hc0_1
 have HC2 := Aside0.mk hc0_2
 have HC3 := Aside0.mk hc0_3
 clear hr0_1 hr0_2 hr0_3 hc0_1 hc0_2 hc0_3
 unfold impl_house_entries.f at h
 obtain ⟨t, ht, h2⟩ := Option.bind_eq_some_iff.mp h
 clear h
 have HT := Aside0.mk ht
 clear ht
 by_cases hc : ((t.all fun x => (impl_house_entries_1.f x [(⟨a0_0, l0_1, l0_2, l0_3⟩ : S46)]).isSome) && decide (t.length ≤ 9223372036854775807)) = true
 ·rw [if_pos hc] at h2
  have HRR := Aside0.mk (Option.some.inj h2)
  have HC := Aside0.mk hc
  clear h2 hc
  have eg : ∀ args w, (callFunc 67 args).run Try.prog w = .ok (.enter 67 args) w := Go.Proofs.enters_of Try.func67 (by kernel_rfl) rfl
  have HEG := Aside0.mk eg
  clear eg
  go_enter Try.func32, Try.ntmps32
  go_wp2_with (first
   | ((with_reducible refine gate_dst (N := 1) rfl ?_); refine box_event ?hg (N := 1) ?hd (cs := #[.int .i64 a0_0, .slice A0_1 l0_1.length c0_1, .slice A0_2 l0_2.length c0_2, .slice A0_3 l0_3.length c0_3]) (t := 46) ?hr ?_; (case hd => rfl); (case hg => rfl); (case hr => exact GS); intro gb hg w1 hbox hb; have HB1 := Aside0.mk hb; have HX := Aside0.mk hbox; have HG := Aside0.mk hg; clear hb hbox hg; have z0 : w1.cell? ⟨gb, 0, none⟩ = some (.int .i64 a0_0) := (blk_cell HX.out 0).trans rfl; have z1 : w1.cell? ⟨gb, 1, none⟩ = some (.slice A0_1 l0_1.length c0_1) := (blk_cell HX.out 1).trans rfl; have z2 : w1.cell? ⟨gb, 2, none⟩ = some (.slice A0_2 l0_2.length c0_2) := (blk_cell HX.out 2).trans rfl; have z3 : w1.cell? ⟨gb, 3, none⟩ = some (.slice A0_3 l0_3.length c0_3) := (blk_cell HX.out 3).trans rfl)
   | (go_at_call 66; refine (impl_house_steps.calls k a0_0 A0_1 c0_1 l0_1 A0_2 c0_2 l0_2 A0_3 c0_3 l0_3 t w1 (Kd.C_below HR1.out HB1.out) HC1.out (Kd.C_below HR2.out HB1.out) HC2.out (Kd.C_below HR3.out HB1.out) HC3.out HT.out).mono ?_; rintro e w2 ⟨v0, rfl, hS, hb2⟩; have HS := Aside0.mk hS; have HB2 := Aside0.mk hb2; clear hS hb2 z0 z1 z2 z3)
   | (go_at_call 65; refine (deleteS 67 #[.pointer (some ⟨gb, 0, none⟩)] HEG.out (impl_house_entries.q a0_0 l0_1 l0_2 l0_3) HS.out (of_decide_eq_true (Bool.and_eq_true_iff.1 HC.out).2) (impl_house_entries.cl HX.out HB2.out HS.out (Kd.C_below HR1.out HB1.out) HC1.out (Kd.C_below HR2.out HB1.out) HC2.out (Kd.C_below HR3.out HB1.out) HC3.out (Bool.and_eq_true_iff.1 HC.out).1)).mono ?_; rintro e w3 ⟨v1, rfl, hS3, hob, hos, htp, hout, hK⟩; have HS3 := Aside0.mk hS3; have HE := Aside0.mk (And.intro hob (And.intro hos (And.intro htp (And.intro hout hK)))); clear hS3 hob hos htp hout hK))
  go_ret
  have hE := HE.out
  have hv0 : ∀ q, v0.ownBlock = some q → w1.heap.size ≤ q := fun q hq => Kd.R_base (Kd.S_R HS.out) q hq
  have h1 := HB1.out.size
  have hS3 := Kd.S_lower HS3.out HB1.out.size
  rw [HRR.out] at hS3
  refine ⟨v1, rfl, hS3, ?_⟩
  have hK := hE.2.2.2.2
  exact ⟨(hE.2.1.trans HB2.out.os).trans HB1.out.os, (hE.2.2.1.trans HB2.out.tape).trans HB1.out.tape, (hE.2.2.2.1.trans HB2.out.output).trans HB1.out.output, Nat.le_trans h1 (Nat.le_trans HB2.out.size hK.1),
   fun q hq => ((hK.2 q (Nat.lt_of_lt_of_le hq (Nat.le_trans h1 HB2.out.size)) (fun e => by have := hv0 q e.symm; omega)).trans (HB2.out.block q (Nat.lt_of_lt_of_le hq h1))).trans (HB1.out.block q hq)⟩
 ·rw [if_neg hc] at h2
  cases h2

/-! ### impl_sorted: function 69 -/
def impl_sorted.f (a0 : Int) (a1 : Int) : Option (List Int) := some (([mn a0 a1, mx a0 a1] : List Int))
theorem impl_sorted.calls (a0 : Int) (a1 : Int) (r : List Int) (w : World) (h : impl_sorted.f a0 a1 = some r) :
  Calls Try.prog 69 #[.int .i64 a0, .int .i64 a1] w fun e w' => ∃ v0_ : Value, e = .returned (v0_) ∧ Kd.R (Kd.int .i64) 3 w' w.heap.size (fun _ => True) v0_ r ∧ Below w.heap.size w w' := by
 have HB := Aside0.mk (Below.refl w.heap.size w)
 have H : (some (([mn a0 a1, mx a0 a1] : List Int))) = some r := h
 clear h
 obtain ⟨ji3, hji3⟩ : ∃ j_ : Int, (mn a0 a1) = j_ := ⟨_, rfl⟩
 replace H : (some (([ji3, mx a0 a1] : List Int))) = some r := by first | (rw [hji3] at H; exact H) | (simp only [hji3] at H ⊢; exact H)
 have hji3_ : (if a1 < a0 then a1 else a0) = ji3 := hji3
 obtain ⟨ji4, hji4⟩ : ∃ j_ : Int, (mx a0 a1) = j_ := ⟨_, rfl⟩
 replace H : (some (([ji3, ji4] : List Int))) = some r := by first | (rw [hji4] at H; exact H) | (simp only [hji4] at H ⊢; exact H)
 have hji4_ : (if a0 < a1 then a1 else a0) = ji4 := hji4
 obtain ⟨y376, hy376⟩ : ∃ y_ : List Int, y_ = (([ji3, ji4] : List Int)) := ⟨_, rfl⟩
 replace H : (some y376) = some r := HY H hy376
 have Ny376 := Aside0.mk hy376
 clear hy376
 obtain rfl := Option.some.inj H
 go_enter Try.func69, Try.ntmps69
 go_wp2_with (first | ((with_reducible refine gate_dst (N := 11) rfl ?_); refine Kd.R_lit (Kd.int .i64) _ 3 ?hg (N := 11) ?hd (xs := ([ji3, ji4] : List Int)) (inner := [.int .i64 ji3, .int .i64 ji4]) (ok := fun _ => True) (okp := fun _ => True) ?hr ?hp (fun _ hk => hk) trivial (Below.refl _ _) (Nat.le_refl _) (by simp) ?_; (case hd => rfl); (case hg => rfl); (case hr => exact GS); (case hp => exact (Reps.one (show Kd.M (Kd.int .i64) _ _ _ ji3 [.int .i64 ji3] from rfl) (Reps.one (show Kd.M (Kd.int .i64) _ _ _ ji4 [.int .i64 ji4] from rfl) (Reps.none _ _)))); intro v377 w5 ho6 hb hg_ hnew_; clear hg_ hnew_; (first | rw [← Ny376.out] at ho6 | (simp only [Int.reduceToNat] at ho6; rw [← Ny376.out] at ho6)); have n0_ := Aside0.mk (Kd.R_lower ho6 (below_size BB)); have n1_ := Aside0.mk (below_step BB hb); clear HB; have HO378 := n0_; have HB := n1_; clear n0_ n1_; clear hb ho6))
 go_ret
 exact ⟨_, by first | rfl | (simp [errW_none, errW_some] <;> rfl) | (simp only [← hji3, ← hji4]; first | rfl | (simp [errW_none, errW_some] <;> rfl)) | (simp [*, errW_none, errW_some] <;> rfl), KR HO378, BB⟩

/-! ### slices_Index_int_int: function 110 -/
def slices_Index_int_int.l0 : Nat → List Int → Int → Int → Int → Option (Int)
 | 0, _, _, _, _ => none
 | k + 1, x0, x1, x7, x8 => if x8 < x7 then (if 0 ≤ x8 then (if x8 < (x0.length : Int) then (if x1 = (rd x0 x8) then (some x8) else (slices_Index_int_int.l0 k x0 x1 x7 (wrap64 (x8 + 1)))) else (none)) else (none)) else (some (-1))
def slices_Index_int_int.f (k : Nat) (l0 : List Int) (a1 : Int) : Option (Int) := slices_Index_int_int.l0 k l0 a1 (l0.length : Int) 0
theorem slices_Index_int_int.mono_l : ∀ k, (∀ y0 y1 y2 y3, LeO (slices_Index_int_int.l0 k y0 y1 y2 y3) (slices_Index_int_int.l0 (k + 1) y0 y1 y2 y3))
 | 0 => fun _ _ _ _ r h => by simp [slices_Index_int_int.l0] at h
 | k + 1 => by
  have ih0 := slices_Index_int_int.mono_l k
  ·intro y0 y1 y2 y3
   unfold slices_Index_int_int.l0
   repeat' first
   | with_reducible first | exact ih0 _ _ _ _ | exact LeO.refl _ | exact LeO.none _ | refine LeO.ite ?_ ?_ | refine LeO.bind ?_ (fun _ => ?_)
   | exact LeO.none _ | refine LeO.ite ?_ ?_ | refine LeO.bind ?_ (fun _ => ?_)
theorem slices_Index_int_int.mono : ∀ a0 a1 k, LeO (slices_Index_int_int.f k a0 a1) (slices_Index_int_int.f (k + 1) a0 a1) := by
 intro a0 a1 k
 have ih0 := slices_Index_int_int.mono_l k
 unfold slices_Index_int_int.f
 repeat' first
   | with_reducible first | exact ih0 _ _ _ _ | exact LeO.refl _ | exact LeO.none _ | refine LeO.ite ?_ ?_ | refine LeO.bind ?_ (fun _ => ?_)
   | exact LeO.none _ | refine LeO.ite ?_ ?_ | refine LeO.bind ?_ (fun _ => ?_)
theorem slices_Index_int_int.calls (k : Nat) (A0 : Option Addr) (c0 : Nat) (l0 : List Int) (a1 : Int) (r : Int) (w : World) (hr0 : Kd.C (Kd.int .i64) w A0 l0.length l0) (hc0 : l0.length ≤ c0) (h : slices_Index_int_int.f k l0 a1 = some r) :
  Calls Try.prog 110 #[.slice A0 l0.length c0, .int .i64 a1] w fun e w' => e = .returned (.int .i64 r) ∧ Drawn0 w w' := by
 have HR0 := Aside0.mk hr0
 have HC0 := Aside0.mk hc0
 clear hr0 hc0
 have H : (slices_Index_int_int.l0 k l0 a1 (l0.length : Int) 0) = some r := h
 clear h
 have H' := Aside0.mk H
 clear H
 go_enter Try.func110, Try.ntmps110
 go_wp2
 go_loopg [8] k (fun kq v8 w' => ∃ (x8_1 : Int), v8 = .int .i64 x8_1 ∧ Aside0 (slices_Index_int_int.l0 kq l0 a1 (l0.length : Int) x8_1 = some r) ∧ Aside0 (kq ≤ k) ∧ Drawn0 w w')
 case atStart => exact ⟨(0), RF, H', ⟨Nat.le_refl _⟩, by repeat (first | exact Drawn0.refl _ | apply Drawn0.step)⟩
 case round =>
  clear H'
  try clear c1
  try clear p2
  obtain ⟨x8_1, rfl, HA, HK1, ⟨m1, rfl⟩⟩ := hrel
  cases gk with
  | zero => exact absurd HA.out (by simp [slices_Index_int_int.l0])
  | succ k1 =>
   have H := HA.out
   clear HA
   simp only [slices_Index_int_int.l0] at H
   by_cases c3 : x8_1 < (l0.length : Int)
   ·rw [if_pos c3] at H
    have c3b0 : decide (x8_1 < (l0.length : Int)) = true := decide_eq_true c3
    clear c3
    by_cases c4 : 0 ≤ x8_1
    ·rw [if_pos c4] at H
     have c4b0 : decide (0 ≤ x8_1) = true := decide_eq_true c4
     clear c4
     by_cases c5 : x8_1 < (l0.length : Int)
     ·rw [if_pos c5] at H
      have c5b0 : decide (x8_1 < (l0.length : Int)) = true := decide_eq_true c5
      clear c5
      by_cases c6 : a1 = (rd l0 x8_1)
      ·rw [if_pos c6] at H
       have c6b0 : (a1 == (rd l0 x8_1)) = true := beq_iff_eq.mpr c6
       have c6b1 : (a1 != (rd l0 x8_1)) = false := bne_eq_false_iff_eq.mpr c6
       clear c6
       obtain rfl := Option.some.inj H
       have p379 : 0 ≤ (x8_1 : Int) := of_decide_eq_true AS
       have q379 : x8_1 < (l0.length : Int) := of_decide_eq_true AS
       obtain ⟨ad379, e379, hx379_0⟩ := Kd.at_int HR0.out x8_1 p379 q379
       cases e379
       replace p379 := eq_true p379
       replace q379 := eq_true q379
       go_wp2
       go_ret
       exact ⟨RF, DR⟩
      ·rw [if_neg c6] at H
       have c6b0 : (a1 == (rd l0 x8_1)) = false := beq_eq_false_iff_ne.mpr c6
       have c6b1 : (a1 != (rd l0 x8_1)) = true := bne_iff_ne.mpr c6
       have H' := Aside0.mk H
       clear H
       have p379 : 0 ≤ (x8_1 : Int) := of_decide_eq_true AS
       have q379 : x8_1 < (l0.length : Int) := of_decide_eq_true AS
       obtain ⟨ad379, e379, hx379_0⟩ := Kd.at_int HR0.out x8_1 p379 q379
       cases e379
       replace p379 := eq_true p379
       replace q379 := eq_true q379
       go_wp2
       go_roundg k1
       case measure => have := HK1.out; omega
       case rel => exact ⟨(wrap64 (x8_1 + 1)), RF, H', ⟨by have := HK1.out; omega⟩, by repeat (first | exact Drawn0.refl _ | apply Drawn0.step)⟩
     ·rw [if_neg c5] at H
      cases H
    ·rw [if_neg c4] at H
     cases H
   ·rw [if_neg c3] at H
    have c3b0 : decide (x8_1 < (l0.length : Int)) = false := decide_eq_false c3
    clear c3
    obtain rfl := Option.some.inj H
    go_wp2
    go_ret
    exact ⟨RF, DR⟩

end Go.Proofs.Ytgpplbaloajgdab.PFnExactFairCell
