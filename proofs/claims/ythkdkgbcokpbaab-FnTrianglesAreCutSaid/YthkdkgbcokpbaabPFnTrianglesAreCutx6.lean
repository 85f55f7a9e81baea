-- Written by a program of this session (wip/tools/pp.sh) out of the translation; Lean checks it.
import Derived.Test.YthkdkgbcokpbaabPFnTrianglesAreCutx0
import Derived.Test.YthkdkgbcokpbaabPFnTrianglesAreCutx1
import Derived.Test.YthkdkgbcokpbaabPFnTrianglesAreCutx2
namespace Go.Proofs.Ythkdkgbcokpbaab.PFnTrianglesAreCut
open Go.RowKit Go.Proofs.YthkdkgbcokpbaabOwn Go.Proofs.YthkdkgbcokpbaabW.PrintWords Go.Proofs.YthkdkgbcokpbaabW.PrintLast Go.Proofs.YthkdkgbcokpbaabW.PrintMore
attribute [local go_sem] max2_int min2_int max_two min_two max_three min_three max_four min_four   -- for this text's walks alone
set_option linter.unusedVariables false
set_option maxHeartbeats 8000000
set_option maxRecDepth 100000
set_option linter.unusedSimpArgs false

/-! ### impl_cells: function 45 -/
mutual
def impl_cells.l0 : Nat → List (List Int) → List (S54) → List (S54) → Int → Int → Option ((List (List Int)))
 | 0, _, _, _, _, _ => none
 | k + 1, x3, x4, x12, x13, x14 => if x14 < x13 then (if 0 ≤ x14 then (if x14 < (x12.length : Int) then (impl_cells.l1 k x3 x4 x14 (wrap64 (x14 + 1)) x12 x13 x14 ((rd_T54 x12 x14).f0) ((rd_T54 x12 x14).f1) ((rd_T54 x12 x14).f2)) else (none)) else (none)) else (some x3)
def impl_cells.l1 : Nat → List (List Int) → List (S54) → Int → Int → List (S54) → Int → Int → Int → Int → Int → Option ((List (List Int)))
 | 0, _, _, _, _, _, _, _, _, _, _ => none
 | k + 1, x3, x4, x5, x7, x12, x13, x14, x253000, x253001, x253002 => if x7 < (x4.length : Int) then (impl_cells.l2 k x3 x4 x5 x7 (wrap64 (x7 + 1)) x12 x13 x14 x253000 x253001 x253002) else (impl_cells.l0 k x3 x4 x12 x13 (wrap64 (x14 + 1)))
def impl_cells.l2 : Nat → List (List Int) → List (S54) → Int → Int → Int → List (S54) → Int → Int → Int → Int → Int → Option ((List (List Int)))
 | 0, _, _, _, _, _, _, _, _, _, _, _ => none
 | k + 1, x3, x4, x5, x7, x8, x12, x13, x14, x253000, x253001, x253002 => if x8 < (x4.length : Int) then (if 0 ≤ x7 then (if x7 < (x4.length : Int) then ((impl_near.f k x253000 x253001 x253002 ((rd_T54 x4 x7).f0) ((rd_T54 x4 x7).f1) ((rd_T54 x4 x7).f2)).bind fun t254 => (impl_cells.j3 k x3 x4 x5 x7 x8 x12 x13 x14 t254 x253000 x253001 x253002)) else (none)) else (none)) else (impl_cells.j3 k x3 x4 x5 x7 x8 x12 x13 x14 false x253000 x253001 x253002)
def impl_cells.j3 : Nat → List (List Int) → List (S54) → Int → Int → Int → List (S54) → Int → Int → Bool → Int → Int → Int → Option ((List (List Int)))
 | 0, _, _, _, _, _, _, _, _, _, _, _, _ => none
 | k + 1, x3, x4, x5, x7, x8, x12, x13, x14, x40, x253000, x253001, x253002 => if x40 = true then (if 0 ≤ x8 then (if x8 < (x4.length : Int) then ((impl_near.f k x253000 x253001 x253002 ((rd_T54 x4 x8).f0) ((rd_T54 x4 x8).f1) ((rd_T54 x4 x8).f2)).bind fun t256 => (if t256 = true then (if 0 ≤ x7 then (if x7 < (x4.length : Int) then ((impl_near.f k ((rd_T54 x4 x7).f0) ((rd_T54 x4 x7).f1) ((rd_T54 x4 x7).f2) ((rd_T54 x4 x8).f0) ((rd_T54 x4 x8).f1) ((rd_T54 x4 x8).f2)).bind fun t259 => (if t259 = true then (if x3.length < 5864062014805 then (impl_cells.l2 k (x3 ++ [(([x5, x7, x8] : List Int))]) x4 x5 x7 (wrap64 (x8 + 1)) x12 x13 x14 x253000 x253001 x253002) else (none)) else (impl_cells.l2 k x3 x4 x5 x7 (wrap64 (x8 + 1)) x12 x13 x14 x253000 x253001 x253002))) else (none)) else (none)) else (impl_cells.l2 k x3 x4 x5 x7 (wrap64 (x8 + 1)) x12 x13 x14 x253000 x253001 x253002))) else (none)) else (none)) else (impl_cells.l1 k x3 x4 x5 (wrap64 (x7 + 1)) x12 x13 x14 x253000 x253001 x253002)
end
def impl_cells.f (k : Nat) (a0 : Int) : Option ((List (List Int))) := (impl_points.f k a0).bind fun t248 => (impl_cells.l0 k (([] : List (List Int))) t248 t248 (t248.length : Int) 0)
theorem impl_cells.mono_l : ∀ k, (∀ y0 y1 y2 y3 y4, LeO (impl_cells.l0 k y0 y1 y2 y3 y4) (impl_cells.l0 (k + 1) y0 y1 y2 y3 y4)) ∧ (∀ y0 y1 y2 y3 y4 y5 y6 y7 y8 y9, LeO (impl_cells.l1 k y0 y1 y2 y3 y4 y5 y6 y7 y8 y9) (impl_cells.l1 (k + 1) y0 y1 y2 y3 y4 y5 y6 y7 y8 y9)) ∧ (∀ y0 y1 y2 y3 y4 y5 y6 y7 y8 y9 y10, LeO (impl_cells.l2 k y0 y1 y2 y3 y4 y5 y6 y7 y8 y9 y10) (impl_cells.l2 (k + 1) y0 y1 y2 y3 y4 y5 y6 y7 y8 y9 y10)) ∧ (∀ y0 y1 y2 y3 y4 y5 y6 y7 y8 y9 y10 y11, LeO (impl_cells.j3 k y0 y1 y2 y3 y4 y5 y6 y7 y8 y9 y10 y11) (impl_cells.j3 (k + 1) y0 y1 y2 y3 y4 y5 y6 y7 y8 y9 y10 y11))
 | 0 => ⟨fun _ _ _ _ _ r h => by simp [impl_cells.l0] at h, fun _ _ _ _ _ _ _ _ _ _ r h => by simp [impl_cells.l1] at h, fun _ _ _ _ _ _ _ _ _ _ _ r h => by simp [impl_cells.l2] at h, fun _ _ _ _ _ _ _ _ _ _ _ _ r h => by simp [impl_cells.j3] at h⟩
 | k + 1 => by
  obtain ⟨ih0, ih1, ih2, ih3⟩ := impl_cells.mono_l k
  refine ⟨?_, ?_, ?_, ?_⟩
  ·intro y0 y1 y2 y3 y4
   unfold impl_cells.l0
   repeat' first
   | with_reducible first | exact ih0 _ _ _ _ _ | exact ih1 _ _ _ _ _ _ _ _ _ _ | exact ih2 _ _ _ _ _ _ _ _ _ _ _ | exact ih3 _ _ _ _ _ _ _ _ _ _ _ _ | exact impl_near.mono _ _ _ _ _ _ _ | exact impl_points.mono _ _ | exact LeO.refl _ | exact LeO.none _ | refine LeO.ite ?_ ?_ | refine LeO.bind ?_ (fun _ => ?_)
   | exact LeO.none _ | refine LeO.ite ?_ ?_ | refine LeO.bind ?_ (fun _ => ?_)
  ·intro y0 y1 y2 y3 y4 y5 y6 y7 y8 y9
   unfold impl_cells.l1
   repeat' first
   | with_reducible first | exact ih0 _ _ _ _ _ | exact ih1 _ _ _ _ _ _ _ _ _ _ | exact ih2 _ _ _ _ _ _ _ _ _ _ _ | exact ih3 _ _ _ _ _ _ _ _ _ _ _ _ | exact impl_near.mono _ _ _ _ _ _ _ | exact impl_points.mono _ _ | exact LeO.refl _ | exact LeO.none _ | refine LeO.ite ?_ ?_ | refine LeO.bind ?_ (fun _ => ?_)
   | exact LeO.none _ | refine LeO.ite ?_ ?_ | refine LeO.bind ?_ (fun _ => ?_)
  ·intro y0 y1 y2 y3 y4 y5 y6 y7 y8 y9 y10
   unfold impl_cells.l2
   repeat' first
   | with_reducible first | exact ih0 _ _ _ _ _ | exact ih1 _ _ _ _ _ _ _ _ _ _ | exact ih2 _ _ _ _ _ _ _ _ _ _ _ | exact ih3 _ _ _ _ _ _ _ _ _ _ _ _ | exact impl_near.mono _ _ _ _ _ _ _ | exact impl_points.mono _ _ | exact LeO.refl _ | exact LeO.none _ | refine LeO.ite ?_ ?_ | refine LeO.bind ?_ (fun _ => ?_)
   | exact LeO.none _ | refine LeO.ite ?_ ?_ | refine LeO.bind ?_ (fun _ => ?_)
  ·intro y0 y1 y2 y3 y4 y5 y6 y7 y8 y9 y10 y11
   unfold impl_cells.j3
   repeat' first
   | with_reducible first | exact ih0 _ _ _ _ _ | exact ih1 _ _ _ _ _ _ _ _ _ _ | exact ih2 _ _ _ _ _ _ _ _ _ _ _ | exact ih3 _ _ _ _ _ _ _ _ _ _ _ _ | exact impl_near.mono _ _ _ _ _ _ _ | exact impl_points.mono _ _ | exact LeO.refl _ | exact LeO.none _ | refine LeO.ite ?_ ?_ | refine LeO.bind ?_ (fun _ => ?_)
   | exact LeO.none _ | refine LeO.ite ?_ ?_ | refine LeO.bind ?_ (fun _ => ?_)
theorem impl_cells.mono : ∀ a0 k, LeO (impl_cells.f k a0) (impl_cells.f (k + 1) a0) := by
 intro a0 k
 obtain ⟨ih0, ih1, ih2, ih3⟩ := impl_cells.mono_l k
 unfold impl_cells.f
 repeat' first
   | with_reducible first | exact ih0 _ _ _ _ _ | exact ih1 _ _ _ _ _ _ _ _ _ _ | exact ih2 _ _ _ _ _ _ _ _ _ _ _ | exact ih3 _ _ _ _ _ _ _ _ _ _ _ _ | exact impl_near.mono _ _ _ _ _ _ _ | exact impl_points.mono _ _ | exact LeO.refl _ | exact LeO.none _ | refine LeO.ite ?_ ?_ | refine LeO.bind ?_ (fun _ => ?_)
   | exact LeO.none _ | refine LeO.ite ?_ ?_ | refine LeO.bind ?_ (fun _ => ?_)
def impl_cells.T9 : Bool × List (List Nat × List Nat) := (true, [([], []), ([], []), ([1], [1]), ([0, 2], [0, 2]), ([3], [3]), ([4], [4]), ([4], [4]), ([4], [4]), ([6, 7, 4], [4, 6, 7]), ([8, 4], [4, 8]), ([5, 9, 4, 4], [4, 5, 9]), ([4, 10], [4, 10])])
def impl_cells.B9 : List Nat := [0, 0, 2, 7, 15, 31, 31, 31, 223, 479, 1023, 2047]
theorem impl_cells.tab9 : rtab .any (opsOf Try.f45 9) = impl_cells.T9 := by kernel_rfl
theorem impl_cells.bits9 : waitsOk impl_cells.T9.2 impl_cells.B9 = true := by kernel_rfl
def impl_cells.T11 : Bool × List (List Nat × List Nat) := (true, [([], []), ([], []), ([], []), ([1, 2], [1, 2]), ([3], [3]), ([0, 4], [0, 4]), ([5, 5], [5]), ([6], [6]), ([6], [6]), ([7, 8, 6], [6, 7, 8]), ([9, 6], [6, 9]), ([6], [6]), ([6], [6]), ([11, 12, 6], [6, 11, 12]), ([13, 6], [6, 13]), ([10, 14, 6, 6], [6, 10, 14]), ([6, 15], [6, 15])])
def impl_cells.B11 : List Nat := [0, 0, 0, 6, 14, 31, 63, 127, 127, 511, 1023, 127, 127, 6271, 14463, 32767, 65535]
theorem impl_cells.tab11 : rtab .any (opsOf Try.f45 11) = impl_cells.T11 := by kernel_rfl
theorem impl_cells.bits11 : waitsOk impl_cells.T11.2 impl_cells.B11 = true := by kernel_rfl
theorem impl_cells.calls (k : Nat) (a0 : Int) (r : List (List Int)) (w : World) (h : impl_cells.f k a0 = some r) :
  Calls Try.prog 45 #[.int .i64 a0] w fun e w' => ∃ v0_ : Value, e = .returned (v0_) ∧ Kd.S (Kd.slice 3 (Kd.int .i64)) 26 w' w.heap.size (fun _ => True) v0_ r ∧ Below w.heap.size w w' := by
 have hu54 := Try.underlying54
 have HB := Aside0.mk (Below.refl w.heap.size w)
 have H : ((impl_points.f k a0).bind fun t248 => (impl_cells.l0 k (([] : List (List Int))) t248 t248 (t248.length : Int) 0)) = some r := h
 clear h
 obtain ⟨y245, hy245⟩ : ∃ y_ : List (List Int), y_ = (([] : List (List Int))) := ⟨_, rfl⟩
 replace H : ((impl_points.f k a0).bind fun t248 => (impl_cells.l0 k y245 t248 t248 (t248.length : Int) 0)) = some r := HY H hy245
 have Ny245 := Aside0.mk hy245
 clear hy245
 replace H := EA H
 obtain ⟨t248, A2, H⟩ := H
 have H' := Aside0.mk H
 clear H
 go_enter Try.func45, Try.ntmps45
 go_wp2_with (first | ((with_reducible refine gate_dst (N := 9) rfl ?_); refine Kd.S_lit (Kd.slice 3 (Kd.int .i64)) _ 26 ?hg (N := 9) ?hd (xs := ([] : List (List Int))) (inner := []) (ok := fun _ => True) (okp := fun _ => True) ?hr ?hp (fun _ hk => hk) trivial (Below.refl _ _) (Nat.le_refl _) (by simp) ?_; (case hd => rfl); (case hg => rfl); (case hr => exact GS); (case hp => exact (Reps.none _ _)); intro v246 w3 ho4 hb hg_ hnew_; clear hg_ hnew_; (first | rw [← Ny245.out] at ho4 | (simp only [Int.reduceToNat] at ho4; rw [← Ny245.out] at ho4)); have n0_ := Aside0.mk (Kd.S_lower ho4 (below_size BB)); have n1_ := Aside0.mk (below_step BB hb); clear HB; have HO247 := n0_; have HB := n1_; clear n0_ n1_; clear hb ho4) | ((with_reducible refine gate_callee (f := 34) rfl ?_); refine goesL_ (some 11) rfl rfl Try.func34 (by kernel_rfl) rfl #[.int .i64 a0] rfl TA ?_; (with_reducible refine (impl_points.calls k a0 t248 _ A2.out).mono ?_); rintro e w5 ⟨v249, rfl, ho0, hb⟩; refine ⟨_, rfl, ?_⟩; have n0_ := Aside0.mk (Kd.S_below (KS HO247) hb); have n1_ := Aside0.mk (Kd.R_lower ho0 (below_size BB)); have n2_ := Aside0.mk (below_step BB hb); clear HO247; clear HB; have HO247 := n0_; have HO250 := n1_; have HB := n2_; clear n0_ n1_ n2_; (try clear hb); (try clear hb2); (try clear hk); (try clear hi); (try clear ho0); obtain ⟨Ao6, co6, eo6⟩ := Kd.R_slice HO250.out; subst eo6))
 go_loopg [3, 14] k (fun kq v3 v14 w' => ∃ (x3_1 : List (List Int)) (x14_1 : Int), v14 = .int .i64 x14_1 ∧ Aside0 (impl_cells.l0 kq x3_1 t248 t248 (t248.length : Int) x14_1 = some r) ∧ Aside0 (kq ≤ k) ∧ Aside0 (Kd.S (Kd.slice 3 (Kd.int .i64)) 26 w' w.heap.size (fun _ => True) v3 x3_1) ∧ Aside0 (Kd.R k54 54 w' w.heap.size (fun _ => True) (.slice Ao6 t248.length co6) t248) ∧ Aside0 (Kd.R k54 54 w' w.heap.size (fun _ => True) (.slice Ao6 t248.length co6) t248) ∧ Aside0 (Below w.heap.size w w'))
 case atStart => exact ⟨(y245), (0), RF, H', ⟨Nat.le_refl _⟩, ⟨KS HO247⟩, ⟨KR HO250⟩, ⟨KR HO250⟩, ⟨BB⟩⟩
 case round =>
  clear H'
  try clear p2
  try clear c3
  try clear c4
  try clear p6
  obtain ⟨x3_1, x14_1, rfl, HA, HK1, HO_3, HO_4, HO_12, HB⟩ := hrel
  cases gk with
  | zero => exact absurd HA.out (by simp [impl_cells.l0])
  | succ k1 =>
   have H := HA.out
   clear HA
   simp only [impl_cells.l0] at H
   by_cases c7 : x14_1 < (t248.length : Int)
   ·rw [if_pos c7] at H
    have c7b0 : decide (x14_1 < (t248.length : Int)) = true := decide_eq_true c7
    clear c7
    by_cases c8 : 0 ≤ x14_1
    ·rw [if_pos c8] at H
     have c8b0 : decide (0 ≤ x14_1) = true := decide_eq_true c8
     clear c8
     by_cases c9 : x14_1 < (t248.length : Int)
     ·rw [if_pos c9] at H
      have c9b0 : decide (x14_1 < (t248.length : Int)) = true := decide_eq_true c9
      clear c9
      have H' := Aside0.mk H
      clear H
      have p251 : 0 ≤ (x14_1 : Int) := of_decide_eq_true AS
      have q251 : x14_1 < (t248.length : Int) := of_decide_eq_true AS
      obtain ⟨ad251, e251, hx251_0, hx251_1, hx251_2⟩ := at_T54 (Kd.R_reads' HO_12.out).2.2 x14_1 p251 q251
      cases e251
      replace p251 := eq_true p251
      replace q251 := eq_true q251
      go_wp2_with (first | ((with_reducible refine gate_dst (N := 6) rfl ?_); refine box_event ?hg (N := 6) ?hd (cs := #[.int .i64 0, .int .i64 0, .int .i64 0]) (t := 54) ?hr ?_; (case hd => rfl); (case hg => rfl); (case hr => exact GS); intro gb252 hg w10 hbox hb; have n0_ := Aside0.mk (Kd.S_below (KS HO_3) hb); have n1_ := Aside0.mk (Kd.R_below (Kd.R_elderB (KR HO_4) gb252 (Nat.le_of_eq hg.symm)) hb); have n2_ := Aside0.mk (Kd.R_below (Kd.R_elderB (KR HO_12) gb252 (Nat.le_of_eq hg.symm)) hb); have n3_ := Aside0.mk (below_step BB hb); have n4_ := Aside0.mk (hbox); have n5_ := Aside0.mk ((by rw [hg]; exact (below_size BB) : w.heap.size ≤ gb252)); have n6_ := Aside0.mk ((by rw [hg]; exact (below_size BB) : w.heap.size ≤ gb252)); clear HO_3; clear HO_4; clear HO_12; clear HB; have HO_3 := n0_; have HO_4 := n1_; have HO_12 := n2_; have HB := n3_; have BK252 := n4_; have GW252 := n5_; have GE252 := n6_; clear n0_ n1_ n2_ n3_ n4_ n5_ n6_; clear hb hbox hg; have hcz11_0 : w10.cell? ⟨gb252, 0, none⟩ = some (.int .i64 0) := (blk_cell BK252.out 0).trans rfl; have hcz11_1 : w10.cell? ⟨gb252, 1, none⟩ = some (.int .i64 0) := (blk_cell BK252.out 1).trans rfl; have hcz11_2 : w10.cell? ⟨gb252, 2, none⟩ = some (.int .i64 0) := (blk_cell BK252.out 2).trans rfl; have hfz11_0 := blk_frozen BK252.out 0; have hfz11_1 := blk_frozen BK252.out 1; have hfz11_2 := blk_frozen BK252.out 2))
      go_loopg [3, 7] k1 (fun kq v3 v7 w' => ∃ (x3_2 : List (List Int)) (x7_2 : Int), v7 = .int .i64 x7_2 ∧ Aside0 (impl_cells.l1 kq x3_2 t248 x14_1 x7_2 t248 (t248.length : Int) x14_1 ((rd_T54 t248 x14_1).f0) ((rd_T54 t248 x14_1).f1) ((rd_T54 t248 x14_1).f2) = some r) ∧ Aside0 (kq ≤ k1) ∧ Aside0 (Kd.S (Kd.slice 3 (Kd.int .i64)) 26 w' w.heap.size (fun _ => True) v3 x3_2) ∧ Aside0 (Kd.R k54 54 w' w.heap.size (fun k_ => k_ ≠ gb252) (.slice (some ad251) t248.length co6) t248) ∧ Aside0 (Kd.R k54 54 w' w.heap.size (fun k_ => k_ ≠ gb252) (.slice (some ad251) t248.length co6) t248) ∧ Aside0 (w'.heap[gb252]? = some (.cells #[.int .i64 ((rd_T54 t248 x14_1).f0), .int .i64 ((rd_T54 t248 x14_1).f1), .int .i64 ((rd_T54 t248 x14_1).f2)] 54 (0, 0))) ∧ Aside0 (Below w.heap.size w w'))
      case atStart => exact ⟨(x3_1), (wrap64 (x14_1 + 1)), RF, H', ⟨Nat.le_refl _⟩, ⟨by (with_reducible repeat (first | apply Kd.S_alloc | apply Kd.S_drewN | apply Kd.S_drew)); exact Kd.S_mono (Kd.S_far (p := ⟨gb252, 2, none⟩) (Kd.S_far (p := ⟨gb252, 1, none⟩) (Kd.S_far (p := ⟨gb252, 0, none⟩) (Kd.S_types HO_3.out BK252.out (by decide)) (fun _ hk => hk.2) (.int .i64 ((rd_T54 t248 x14_1).f0))) (fun _ hk => hk.2) (.int .i64 ((rd_T54 t248 x14_1).f1))) (fun _ hk => hk.2) (.int .i64 ((rd_T54 t248 x14_1).f2))) (fun _ hk => trivial)⟩, ⟨by (with_reducible repeat (first | apply Kd.R_alloc | apply Kd.R_drewN | apply Kd.R_drew)); exact Kd.R_mono (Kd.R_far (p := ⟨gb252, 2, none⟩) (Kd.R_far (p := ⟨gb252, 1, none⟩) (Kd.R_far (p := ⟨gb252, 0, none⟩) (Kd.R_mono HO_4.out (fun k_ hk => (⟨hk, hk.2⟩ : _ ∧ k_ ≠ gb252))) (fun _ hk => hk.2) (.int .i64 ((rd_T54 t248 x14_1).f0))) (fun _ hk => hk.2) (.int .i64 ((rd_T54 t248 x14_1).f1))) (fun _ hk => hk.2) (.int .i64 ((rd_T54 t248 x14_1).f2))) (fun _ hk => hk.1.2)⟩, ⟨by (with_reducible repeat (first | apply Kd.R_alloc | apply Kd.R_drewN | apply Kd.R_drew)); exact Kd.R_mono (Kd.R_far (p := ⟨gb252, 2, none⟩) (Kd.R_far (p := ⟨gb252, 1, none⟩) (Kd.R_far (p := ⟨gb252, 0, none⟩) (Kd.R_mono HO_12.out (fun k_ hk => (⟨hk, hk.2⟩ : _ ∧ k_ ≠ gb252))) (fun _ hk => hk.2) (.int .i64 ((rd_T54 t248 x14_1).f0))) (fun _ hk => hk.2) (.int .i64 ((rd_T54 t248 x14_1).f1))) (fun _ hk => hk.2) (.int .i64 ((rd_T54 t248 x14_1).f2))) (fun _ hk => hk.1.2)⟩, ⟨by (with_reducible repeat (first | refine blk_drewN ?_ _ | refine blk_drew ?_ | refine blk_alloc ?_ _)); refine blk_put (cs := #[.int .i64 ((rd_T54 t248 x14_1).f0), .int .i64 ((rd_T54 t248 x14_1).f1), .int .i64 0]) ?_ 2 _ rfl; (with_reducible repeat (first | refine blk_drewN ?_ _ | refine blk_drew ?_ | refine blk_alloc ?_ _)); refine blk_put (cs := #[.int .i64 ((rd_T54 t248 x14_1).f0), .int .i64 0, .int .i64 0]) ?_ 1 _ rfl; (with_reducible repeat (first | refine blk_drewN ?_ _ | refine blk_drew ?_ | refine blk_alloc ?_ _)); refine blk_put (cs := #[.int .i64 0, .int .i64 0, .int .i64 0]) ?_ 0 _ rfl; (with_reducible repeat (first | refine blk_drewN ?_ _ | refine blk_drew ?_ | refine blk_alloc ?_ _)); exact BK252.out⟩, ⟨by repeat (first | (with_reducible first | exact HB.out | apply below_alloc | apply pw_below_drewN | apply below_drew1 | refine below_set ?_ GE252.out) | exact HB.out)⟩⟩
      case round =>
       clear H'
       try clear p2
       try clear q2
       try clear hx2
       try clear c3
       try clear c4
       try clear p6
       try clear c7
       try clear c7b0
       try clear c8
       try clear c8b0
       try clear c9
       try clear c9b0
       try clear hcz11_0
       try clear hcz11_1
       try clear hcz11_2
       try clear hfz11_0
       try clear hfz11_1
       try clear hfz11_2
       try clear hx251_0
       try clear hx251_1
       try clear hx251_2
       try clear p2
       try clear p251
       try clear p6
       try clear q251
       obtain ⟨x3_2, x7_2, rfl, HA, HK2, HO_3, HO_4, HO_12, BK252, HB⟩ := hrel
       cases gk with
       | zero => exact absurd HA.out (by simp [impl_cells.l1])
       | succ k2 =>
        have H := HA.out
        clear HA
        simp only [impl_cells.l1] at H
        by_cases c12 : x7_2 < (t248.length : Int)
        ·rw [if_pos c12] at H
         have c12b0 : decide (x7_2 < (t248.length : Int)) = true := decide_eq_true c12
         clear c12
         have H' := Aside0.mk H
         clear H
         go_wp2
         go_loopg [3, 8] k2 (fun kq v3 v8 w' => ∃ (x3_3 : List (List Int)) (x8_3 : Int), v8 = .int .i64 x8_3 ∧ Aside0 (impl_cells.l2 kq x3_3 t248 x14_1 x7_2 x8_3 t248 (t248.length : Int) x14_1 ((rd_T54 t248 x14_1).f0) ((rd_T54 t248 x14_1).f1) ((rd_T54 t248 x14_1).f2) = some r) ∧ Aside0 (kq ≤ k2) ∧ Aside0 (Kd.S (Kd.slice 3 (Kd.int .i64)) 26 w' w.heap.size (fun _ => True) v3 x3_3) ∧ Aside0 (Kd.R k54 54 w' w.heap.size (fun k_ => k_ ≠ gb252) (.slice (some ad251) t248.length co6) t248) ∧ Aside0 (Kd.R k54 54 w' w.heap.size (fun k_ => k_ ≠ gb252) (.slice (some ad251) t248.length co6) t248) ∧ Aside0 (w'.heap[gb252]? = some (.cells #[.int .i64 ((rd_T54 t248 x14_1).f0), .int .i64 ((rd_T54 t248 x14_1).f1), .int .i64 ((rd_T54 t248 x14_1).f2)] 54 (0, 0))) ∧ Aside0 (Below w.heap.size w w'))
         case atStart => exact ⟨(x3_2), (wrap64 (x7_2 + 1)), RF, H', ⟨Nat.le_refl _⟩, ⟨KS HO_3⟩, ⟨KR HO_4⟩, ⟨KR HO_12⟩, ⟨by (with_reducible repeat (first | refine blk_drewN ?_ _ | refine blk_drew ?_ | refine blk_alloc ?_ _)); exact BK252.out⟩, ⟨by repeat (first | (with_reducible first | exact HB.out | apply below_alloc | apply pw_below_drewN | apply below_drew1 | refine below_set ?_ GE252.out) | exact HB.out)⟩⟩
         case round =>
          clear H'
          try clear c1
          try clear p2
          try clear q2
          try clear hx2
          try clear c3
          try clear c4
          try clear p6
          try clear c7
          try clear c7b0
          try clear c8
          try clear c8b0
          try clear c9
          try clear c9b0
          try clear c12
          try clear c12b0
          try clear hcz11_0
          try clear hcz11_1
          try clear hcz11_2
          try clear hfz11_0
          try clear hfz11_1
          try clear hfz11_2
          try clear hx251_0
          try clear hx251_1
          try clear hx251_2
          try clear p2
          try clear p251
          try clear p6
          try clear q2
          try clear q251
          obtain ⟨x3_3, x8_3, rfl, HA, HK3, HO_3, HO_4, HO_12, BK252, HB⟩ := hrel
          cases gk with
          | zero => exact absurd HA.out (by simp [impl_cells.l2])
          | succ k3 =>
           have H := HA.out
           clear HA
           simp only [impl_cells.l2] at H
           have HC13 := Aside0.mk H
           clear H
           go_upto_region 9 with (fail)
           go_cut [40] (fun v40 wc => ∃ (kq : Nat) (x40_12 : Bool), v40 = .bool x40_12 ∧ Aside0 (impl_cells.j3 kq x3_3 t248 x14_1 x7_2 x8_3 t248 (t248.length : Int) x14_1 x40_12 ((rd_T54 t248 x14_1).f0) ((rd_T54 t248 x14_1).f1) ((rd_T54 t248 x14_1).f2) = some r) ∧ Aside0 (kq ≤ k3) ∧ Aside0 (Kd.S (Kd.slice 3 (Kd.int .i64)) 26 wc w.heap.size (fun _ => True) u3 x3_3) ∧ Aside0 (Kd.R k54 54 wc w.heap.size (fun k_ => k_ ≠ gb252) (.slice (some ad251) t248.length co6) t248) ∧ Aside0 (Kd.R k54 54 wc w.heap.size (fun k_ => k_ ≠ gb252) (.slice (some ad251) t248.length co6) t248) ∧ Aside0 (wc.heap[gb252]? = some (.cells #[.int .i64 ((rd_T54 t248 x14_1).f0), .int .i64 ((rd_T54 t248 x14_1).f1), .int .i64 ((rd_T54 t248 x14_1).f2)] 54 (0, 0))) ∧ Aside0 (Below w.heap.size w wc))
           case first =>
            have H := HC13.out
            clear HC13
            by_cases c14 : x8_3 < (t248.length : Int)
            ·rw [if_pos c14] at H
             have c14b0 : decide (x8_3 < (t248.length : Int)) = true := decide_eq_true c14
             clear c14
             (first | rw [c14b0] | (simp only [i64_w, i32_w]; rw [c14b0]) | skip)
             by_cases c15 : 0 ≤ x7_2
             ·rw [if_pos c15] at H
              have c15b0 : decide (0 ≤ x7_2) = true := decide_eq_true c15
              clear c15
              by_cases c16 : x7_2 < (t248.length : Int)
              ·rw [if_pos c16] at H
               have c16b0 : decide (x7_2 < (t248.length : Int)) = true := decide_eq_true c16
               clear c16
               replace H := EA H
               obtain ⟨t254, A17, H⟩ := H
               have H' := Aside0.mk H
               clear H
               try go_wp2
               have n0_ := Aside0.mk (Kd.S_drew HO_3.out)
               have n1_ := Aside0.mk (Kd.R_drew HO_4.out)
               have n2_ := Aside0.mk (Kd.R_drew HO_12.out)
               have n3_ := Aside0.mk (blk_drew BK252.out)
               have n4_ := Aside0.mk (below_drew1 HB.out)
               clear HO_3
               clear HO_4
               clear HO_12
               clear BK252
               clear HB
               have HO_3 := n0_
               have HO_4 := n1_
               have HO_12 := n2_
               have BK252 := n3_
               have HB := n4_
               clear n0_ n1_ n2_ n3_ n4_
               have p253 : 0 ≤ (x7_2 : Int) := of_decide_eq_true AS
               have q253 : x7_2 < (t248.length : Int) := of_decide_eq_true AS
               obtain ⟨ad253, e253, hx253_0, hx253_1, hx253_2⟩ := at_T54 (Kd.R_reads' HO_4.out).2.2 x7_2 p253 q253
               obtain rfl : ad251 = ad253 := (by injection e253)
               replace p253 := eq_true p253
               replace q253 := eq_true q253
               refine start_ (n := 12) (S := fun w' => w'.cell? ⟨gb252, 0, none⟩ = some (.int .i64 ((rd_T54 t248 x14_1).f0)) ∧ w'.cell? ⟨gb252, 1, none⟩ = some (.int .i64 ((rd_T54 t248 x14_1).f1)) ∧ w'.cell? ⟨gb252, 2, none⟩ = some (.int .i64 ((rd_T54 t248 x14_1).f2)) ∧ w'.cell? (ad251.add ((x7_2).toNat * 3)) = some (.int .i64 ((rd_T54 t248 x7_2).f0)) ∧ w'.cell? ⟨(ad251.add ((x7_2).toNat * 3)).block, (ad251.add ((x7_2).toNat * 3)).off + 1, none⟩ = some (.int .i64 ((rd_T54 t248 x7_2).f1)) ∧ w'.cell? ⟨(ad251.add ((x7_2).toNat * 3)).block, (ad251.add ((x7_2).toNat * 3)).off + 2, none⟩ = some (.int .i64 ((rd_T54 t248 x7_2).f2))) (ds := []) #[false, false, false, false, false, false, false, false, false, false, false, false] (by kernel_rfl) rfl rfl ⟨(blk_cell BK252.out 0).trans rfl, (blk_cell BK252.out 1).trans rfl, (blk_cell BK252.out 2).trans rfl, hx253_0, hx253_1, hx253_2⟩ (fun hHeld => ?_); refine with_tabW impl_cells.tab9 impl_cells.bits9 (fun HT_ HW_ => ?_)
               generalize wr.drew = w18 at HO_3 HO_4 HO_12 BK252 HB hx253_0 hx253_1 hx253_2 hHeld ⊢
               refine pure_ (i := 0) (N := some 29) #[true, false, false, false, false, false, false, false, false, false, false, false] rfl rfl (any_of HT_.out (by kernel_rfl)) (fun _ _ _ h => h) (Or.inl ⟨by rfl, PW⟩) PU ?_
               refine pure_ (i := 1) (N := some 30) #[true, true, false, false, false, false, false, false, false, false, false, false] rfl rfl (any_of HT_.out (by kernel_rfl)) (fun _ _ _ h => h) (Or.inl ⟨by rfl, PW⟩) PU ?_
               refine pure_ (i := 2) (N := some 31) #[true, true, true, false, false, false, false, false, false, false, false, false] rfl rfl (any_of HT_.out (by kernel_rfl)) (fun _ _ _ h => h) (Or.inl ⟨by rfl, PW⟩) PU ?_
               refine pure_ (i := 3) (N := some 32) #[true, true, true, true, false, false, false, false, false, false, false, false] rfl rfl (any_of HT_.out (by kernel_rfl)) (fun _ _ _ h => h) (Or.inl ⟨by rfl, PW⟩) PU ?_
               refine pure_ (i := 4) (N := some 33) #[true, true, true, true, true, false, false, false, false, false, false, false] rfl rfl (any_of HT_.out (by kernel_rfl)) (fun _ _ _ h => h) (Or.inl ⟨by rfl, PW⟩) PU ?_
               refine pure_ (i := 6) (N := some 35) #[true, true, true, true, true, false, true, false, false, false, false, false] rfl rfl (any_of HT_.out (by kernel_rfl)) (fun _ _ _ h => h) (Or.inl ⟨by rfl, PW⟩) PU ?_
               refine pure_ (i := 7) (N := some 36) #[true, true, true, true, true, false, true, true, false, false, false, false] rfl rfl (any_of HT_.out (by kernel_rfl)) (fun _ _ _ h => h) (Or.inl ⟨by rfl, PW⟩) PU ?_
               refine pure_ (i := 8) (N := some 37) #[true, true, true, true, true, false, true, true, true, false, false, false] rfl rfl (any_of HT_.out (by kernel_rfl)) (fun _ _ _ h => h) (Or.inl ⟨by rfl, PW⟩) PU ?_
               refine take_ (i := 5) (N := some 34) #[true, true, true, true, true, true, true, true, true, false, false, false] rfl rfl (take_ofW HT_.out HW_.out (by kernel_rfl)) (fun _ _ _ h => h) (Or.inl ⟨by rfl, PT⟩) hHeld PU ?_
               refine take_ (i := 9) (N := some 38) #[true, true, true, true, true, true, true, true, true, true, false, false] rfl rfl (take_ofW HT_.out HW_.out (by kernel_rfl)) (fun _ _ _ h => h) (Or.inl ⟨by rfl, PT⟩) hHeld PU ?_
               refine one_ (i := 10) (N := some 39) #[true, true, true, true, true, true, true, true, true, true, true, false] rfl rfl (one_of HT_.out (by kernel_rfl)) (by decide) (fun K hK => ?_)
               refine goes_ Try.func37 (by kernel_rfl) rfl #[.agg #[.int .i64 ((rd_T54 t248 x14_1).f0), .int .i64 ((rd_T54 t248 x14_1).f1), .int .i64 ((rd_T54 t248 x14_1).f2)], .agg #[.int .i64 ((rd_T54 t248 x7_2).f0), .int .i64 ((rd_T54 t248 x7_2).f1), .int .i64 ((rd_T54 t248 x7_2).f2)]] (by rfl) rfl rfl TA ?_
               with_reducible refine (impl_near.calls k3 ((rd_T54 t248 x14_1).f0) ((rd_T54 t248 x14_1).f1) ((rd_T54 t248 x14_1).f2) ((rd_T54 t248 x7_2).f0) ((rd_T54 t248 x7_2).f1) ((rd_T54 t248 x7_2).f2) t254 _ A17.out).mono ?_
               rintro e w19 ⟨rfl, hb⟩
               have HS3_ := (hb.cell (World.block_lt_of_cell? _ _ (hHeld.2.2.2.1))).trans (hHeld.2.2.2.1)
               have HS4_ := (hb.cell (World.block_lt_of_cell? _ _ (hHeld.2.2.2.2.1))).trans (hHeld.2.2.2.2.1)
               have HS5_ := (hb.cell (World.block_lt_of_cell? _ _ (hHeld.2.2.2.2.2))).trans (hHeld.2.2.2.2.2)
               refine ⟨_, rfl, ?_⟩
               have n0_ := Aside0.mk (Kd.S_below (KS HO_3) hb)
               have n1_ := Aside0.mk (Kd.R_below (KR HO_4) hb)
               have n2_ := Aside0.mk (Kd.R_below (KR HO_12) hb)
               have n3_ := Aside0.mk (blk_below (g := gb252) (o := .cells #[.int .i64 ((rd_T54 t248 x14_1).f0), .int .i64 ((rd_T54 t248 x14_1).f1), .int .i64 ((rd_T54 t248 x14_1).f2)] 54 (0, 0)) (BW BK252) hb)
               have n4_ := Aside0.mk (below_step (by repeat (first | (with_reducible first | exact HB.out | apply below_alloc | apply pw_below_drewN | apply below_drew1 | refine below_set ?_ GE252.out) | exact HB.out)) hb)
               clear HO_3
               clear HO_4
               clear HO_12
               clear BK252
               clear HB
               have HO_3 := n0_
               have HO_4 := n1_
               have HO_12 := n2_
               have BK252 := n3_
               have HB := n4_
               clear n0_ n1_ n2_ n3_ n4_
               (try clear hb)
               (try clear hb2)
               (try clear hk)
               (try clear hi)
               refine hK.out _ _ ⟨(blk_cell BK252.out 0).trans rfl, (blk_cell BK252.out 1).trans rfl, (blk_cell BK252.out 2).trans rfl, HS3_, HS4_, HS5_⟩ (fun hHeld => ?_)
               clear hK K
               refine norm_ (a' := ?_) ?_ ?_
               rotate_left
               ·show Act.put _ (some 39) _ = _
                simp only [Act.put, List.setIfInBounds_toArray, List.set_cons_zero, List.set_cons_succ, i64_w, i32_w]
                rfl
               refine pure_ (i := 11) (N := some 40) #[true, true, true, true, true, true, true, true, true, true, true, true] rfl rfl (any_of HT_.out (by kernel_rfl)) (fun _ _ _ h => h) (Or.inl ⟨by rfl, PW⟩) PU ?_
               refine done_ (done_of HT_.out (by kernel_rfl)) ?_
               try go_wp2
               go_meet
               case rel => exact ⟨_, (t254), RF, H', ⟨by have := HK1.out; have := HK2.out; have := HK3.out; first | omega | exact Nat.le_refl _⟩, ⟨KS HO_3⟩, ⟨KR HO_4⟩, ⟨KR HO_12⟩, ⟨by (with_reducible repeat (first | refine blk_drewN ?_ _ | refine blk_drew ?_ | refine blk_alloc ?_ _)); exact BK252.out⟩, ⟨by repeat (first | (with_reducible first | exact HB.out | apply below_alloc | apply pw_below_drewN | apply below_drew1 | refine below_set ?_ GE252.out) | exact HB.out)⟩⟩
              ·rw [if_neg c16] at H
               cases H
             ·rw [if_neg c15] at H
              cases H
            ·rw [if_neg c14] at H
             have c14b0 : decide (x8_3 < (t248.length : Int)) = false := decide_eq_false c14
             clear c14
             (first | rw [c14b0] | (simp only [i64_w, i32_w]; rw [c14b0]) | skip)
             have H' := Aside0.mk H
             clear H
             try go_wp2
             have n0_ := Aside0.mk (Kd.S_drew HO_3.out)
             have n1_ := Aside0.mk (Kd.R_drew HO_4.out)
             have n2_ := Aside0.mk (Kd.R_drew HO_12.out)
             have n3_ := Aside0.mk (blk_drew BK252.out)
             have n4_ := Aside0.mk (below_drew1 HB.out)
             clear HO_3
             clear HO_4
             clear HO_12
             clear BK252
             clear HB
             have HO_3 := n0_
             have HO_4 := n1_
             have HO_12 := n2_
             have BK252 := n3_
             have HB := n4_
             clear n0_ n1_ n2_ n3_ n4_
             refine start_ (n := 12) (S := fun w' => True) (ds := []) #[false, false, false, false, false, false, false, false, false, false, false, false] (by kernel_rfl) rfl rfl trivial (fun hHeld => ?_); refine with_tabW impl_cells.tab9 impl_cells.bits9 (fun HT_ HW_ => ?_)
             generalize wr.drew = w20 at HO_3 HO_4 HO_12 BK252 HB hHeld ⊢
             refine pure_ (i := 0) (N := some 29) #[true, false, false, false, false, false, false, false, false, false, false, false] rfl rfl (any_of HT_.out (by kernel_rfl)) (fun _ _ _ h => h) (Or.inl ⟨by rfl, PW⟩) PU ?_
             refine pure_ (i := 1) (N := some 30) #[true, true, false, false, false, false, false, false, false, false, false, false] rfl rfl (any_of HT_.out (by kernel_rfl)) (fun _ _ _ h => h) (Or.inl ⟨by rfl, PW⟩) PU ?_
             refine pure_ (i := 2) (N := some 31) #[true, true, true, false, false, false, false, false, false, false, false, false] rfl rfl (any_of HT_.out (by kernel_rfl)) (fun _ _ _ h => h) (Or.inl ⟨by rfl, PW⟩) PU ?_
             refine pure_ (i := 3) (N := some 32) #[true, true, true, true, false, false, false, false, false, false, false, false] rfl rfl (any_of HT_.out (by kernel_rfl)) (fun _ _ _ h => h) (Or.inl ⟨by rfl, PW⟩) PU ?_
             refine pure_ (i := 4) (N := some 33) #[true, true, true, true, true, false, false, false, false, false, false, false] rfl rfl (any_of HT_.out (by kernel_rfl)) (fun _ _ _ h => h) (Or.inl ⟨by rfl, PW⟩) PU ?_
             refine pure_ (i := 5) (N := some 34) (v := undef) (a' := ?_) #[true, true, true, true, true, true, false, false, false, false, false, false] rfl rfl (any_of HT_.out (by kernel_rfl)) (fun _ _ _ h => h) (Or.inr ⟨by rfl, rfl⟩) ?_ ?_
             rotate_left
             ·exact PU
             refine pure_ (i := 6) (N := some 35) (v := undef) (a' := ?_) #[true, true, true, true, true, true, true, false, false, false, false, false] rfl rfl (any_of HT_.out (by kernel_rfl)) (fun _ _ _ h => h) (Or.inr ⟨by rfl, rfl⟩) ?_ ?_
             rotate_left
             ·exact PU
             refine pure_ (i := 7) (N := some 36) (v := undef) (a' := ?_) #[true, true, true, true, true, true, true, true, false, false, false, false] rfl rfl (any_of HT_.out (by kernel_rfl)) (fun _ _ _ h => h) (Or.inr ⟨by rfl, rfl⟩) ?_ ?_
             rotate_left
             ·exact PU
             refine pure_ (i := 8) (N := some 37) (v := undef) (a' := ?_) #[true, true, true, true, true, true, true, true, true, false, false, false] rfl rfl (any_of HT_.out (by kernel_rfl)) (fun _ _ _ h => h) (Or.inr ⟨by rfl, rfl⟩) ?_ ?_
             rotate_left
             ·exact PU
             refine pure_ (i := 9) (N := some 38) (v := undef) (a' := ?_) #[true, true, true, true, true, true, true, true, true, true, false, false] rfl rfl (any_of HT_.out (by kernel_rfl)) (fun _ _ _ h => h) (Or.inr ⟨by rfl, rfl⟩) ?_ ?_
             rotate_left
             ·exact PU
             refine pure_ (i := 10) (N := some 39) (v := undef) (a' := ?_) #[true, true, true, true, true, true, true, true, true, true, true, false] rfl rfl (any_of HT_.out (by kernel_rfl)) (fun _ _ _ h => h) (Or.inr ⟨by rfl, rfl⟩) ?_ ?_
             rotate_left
             ·exact PU
             refine pure_ (i := 11) (N := some 40) #[true, true, true, true, true, true, true, true, true, true, true, true] rfl rfl (any_of HT_.out (by kernel_rfl)) (fun _ _ _ h => h) (Or.inl ⟨by rfl, PW⟩) PU ?_
             refine done_ (done_of HT_.out (by kernel_rfl)) ?_
             try go_wp2
             go_meet
             case rel => exact ⟨_, (false), RF, H', ⟨by have := HK1.out; have := HK2.out; have := HK3.out; first | omega | exact Nat.le_refl _⟩, ⟨KS HO_3⟩, ⟨KR HO_4⟩, ⟨KR HO_12⟩, ⟨by (with_reducible repeat (first | refine blk_drewN ?_ _ | refine blk_drew ?_ | refine blk_alloc ?_ _)); exact BK252.out⟩, ⟨by repeat (first | (with_reducible first | exact HB.out | apply below_alloc | apply pw_below_drewN | apply below_drew1 | refine below_set ?_ GE252.out) | exact HB.out)⟩⟩
           case rest =>
            clear HC13
            try clear c1
            try clear p2
            try clear q2
            try clear hx2
            try clear c3
            try clear c4
            try clear p6
            try clear c7
            try clear c7b0
            try clear c8
            try clear c8b0
            try clear c9
            try clear c9b0
            try clear c12
            try clear c12b0
            try clear c14
            try clear c14b0
            try clear c15
            try clear c15b0
            try clear c16
            try clear c16b0
            try clear hcz11_0
            try clear hcz11_1
            try clear hcz11_2
            try clear hfz11_0
            try clear hfz11_1
            try clear hfz11_2
            try clear hx251_0
            try clear hx251_1
            try clear hx251_2
            try clear hx253_0
            try clear hx253_1
            try clear hx253_2
            try clear p2
            try clear p251
            try clear p253
            try clear p6
            try clear q2
            try clear q251
            try clear q253
            obtain ⟨kq, x40_12, rfl, HA, HJ12, HO_3, HO_4, HO_12, BK252, HB⟩ := hcut
            cases kq with
            | zero => exact absurd HA.out (by simp [impl_cells.j3])
            | succ kj12 =>
             have H := HA.out
             clear HA
             simp only [impl_cells.j3] at H
             by_cases c21 : x40_12 = true
             ·subst c21
              replace H := IP H
              by_cases c22 : 0 ≤ x8_3
              ·rw [if_pos c22] at H
               have c22b0 : decide (0 ≤ x8_3) = true := decide_eq_true c22
               clear c22
               by_cases c23 : x8_3 < (t248.length : Int)
               ·rw [if_pos c23] at H
                have c23b0 : decide (x8_3 < (t248.length : Int)) = true := decide_eq_true c23
                clear c23
                replace H := EA H
                obtain ⟨t256, A24, H⟩ := H
                by_cases c25 : t256 = true
                ·subst c25
                 replace H := IP H
                 by_cases c26 : 0 ≤ x7_2
                 ·rw [if_pos c26] at H
                  have c26b0 : decide (0 ≤ x7_2) = true := decide_eq_true c26
                  clear c26
                  by_cases c27 : x7_2 < (t248.length : Int)
                  ·rw [if_pos c27] at H
                   have c27b0 : decide (x7_2 < (t248.length : Int)) = true := decide_eq_true c27
                   clear c27
                   replace H := EA H
                   obtain ⟨t259, A28, H⟩ := H
                   by_cases c29 : t259 = true
                   ·subst c29
                    replace H := IP H
                    obtain ⟨y260, hy260⟩ : ∃ y_ : List Int, y_ = (([x14_1, x7_2, x8_3] : List Int)) := ⟨_, rfl⟩
                    replace H : (if x3_3.length < 5864062014805 then (impl_cells.l2 kj12 (x3_3 ++ [y260]) t248 x14_1 x7_2 (wrap64 (x8_3 + 1)) t248 (t248.length : Int) x14_1 ((rd_T54 t248 x14_1).f0) ((rd_T54 t248 x14_1).f1) ((rd_T54 t248 x14_1).f2)) else (none)) = some r := HY H hy260
                    have Ny260 := Aside0.mk hy260
                    clear hy260
                    by_cases c30 : x3_3.length < 5864062014805
                    ·rw [if_pos c30] at H
                     have LMc30 := Aside0.mk c30
                     clear c30
                     obtain ⟨y263, hy263⟩ : ∃ y_ : List (List Int), y_ = (x3_3 ++ [y260]) := ⟨_, rfl⟩
                     replace H : (impl_cells.l2 kj12 y263 t248 x14_1 x7_2 (wrap64 (x8_3 + 1)) t248 (t248.length : Int) x14_1 ((rd_T54 t248 x14_1).f0) ((rd_T54 t248 x14_1).f1) ((rd_T54 t248 x14_1).f2)) = some r := HY H hy263
                     have Ny263 := Aside0.mk hy263
                     clear hy263
                     have H' := Aside0.mk H
                     clear H
                     try go_wp2
                     have n0_ := Aside0.mk (Kd.S_drew HO_3.out)
                     have n1_ := Aside0.mk (Kd.R_drew HO_4.out)
                     have n2_ := Aside0.mk (Kd.R_drew HO_12.out)
                     have n3_ := Aside0.mk (blk_drew BK252.out)
                     have n4_ := Aside0.mk (below_drew1 HB.out)
                     clear HO_3
                     clear HO_4
                     clear HO_12
                     clear BK252
                     clear HB
                     have HO_3 := n0_
                     have HO_4 := n1_
                     have HO_12 := n2_
                     have BK252 := n3_
                     have HB := n4_
                     clear n0_ n1_ n2_ n3_ n4_
                     have p255 : 0 ≤ (x8_3 : Int) := of_decide_eq_true AS
                     have q255 : x8_3 < (t248.length : Int) := of_decide_eq_true AS
                     obtain ⟨ad255, e255, hx255_0, hx255_1, hx255_2⟩ := at_T54 (Kd.R_reads' HO_4.out).2.2 x8_3 p255 q255
                     obtain rfl : ad251 = ad255 := (by injection e255)
                     replace p255 := eq_true p255
                     replace q255 := eq_true q255
                     have p257 : 0 ≤ (x7_2 : Int) := of_decide_eq_true AS
                     have q257 : x7_2 < (t248.length : Int) := of_decide_eq_true AS
                     obtain ⟨ad257, e257, hx257_0, hx257_1, hx257_2⟩ := at_T54 (Kd.R_reads' HO_4.out).2.2 x7_2 p257 q257
                     obtain rfl : ad251 = ad257 := (by injection e257)
                     replace p257 := eq_true p257
                     replace q257 := eq_true q257
                     have p258 : 0 ≤ (x8_3 : Int) := of_decide_eq_true AS
                     have q258 : x8_3 < (t248.length : Int) := of_decide_eq_true AS
                     obtain ⟨ad258, e258, hx258_0, hx258_1, hx258_2⟩ := at_T54 (Kd.R_reads' HO_4.out).2.2 x8_3 p258 q258
                     obtain rfl : ad251 = ad258 := (by injection e258)
                     replace p258 := eq_true p258
                     replace q258 := eq_true q258
                     refine start_ (n := 17) (S := fun w' => w'.cell? ⟨gb252, 0, none⟩ = some (.int .i64 ((rd_T54 t248 x14_1).f0)) ∧ w'.cell? ⟨gb252, 1, none⟩ = some (.int .i64 ((rd_T54 t248 x14_1).f1)) ∧ w'.cell? ⟨gb252, 2, none⟩ = some (.int .i64 ((rd_T54 t248 x14_1).f2)) ∧ w'.cell? (ad251.add ((x8_3).toNat * 3)) = some (.int .i64 ((rd_T54 t248 x8_3).f0)) ∧ w'.cell? ⟨(ad251.add ((x8_3).toNat * 3)).block, (ad251.add ((x8_3).toNat * 3)).off + 1, none⟩ = some (.int .i64 ((rd_T54 t248 x8_3).f1)) ∧ w'.cell? ⟨(ad251.add ((x8_3).toNat * 3)).block, (ad251.add ((x8_3).toNat * 3)).off + 2, none⟩ = some (.int .i64 ((rd_T54 t248 x8_3).f2)) ∧ w'.cell? (ad251.add ((x7_2).toNat * 3)) = some (.int .i64 ((rd_T54 t248 x7_2).f0)) ∧ w'.cell? ⟨(ad251.add ((x7_2).toNat * 3)).block, (ad251.add ((x7_2).toNat * 3)).off + 1, none⟩ = some (.int .i64 ((rd_T54 t248 x7_2).f1)) ∧ w'.cell? ⟨(ad251.add ((x7_2).toNat * 3)).block, (ad251.add ((x7_2).toNat * 3)).off + 2, none⟩ = some (.int .i64 ((rd_T54 t248 x7_2).f2)) ∧ w'.cell? (ad251.add ((x8_3).toNat * 3)) = some (.int .i64 ((rd_T54 t248 x8_3).f0)) ∧ w'.cell? ⟨(ad251.add ((x8_3).toNat * 3)).block, (ad251.add ((x8_3).toNat * 3)).off + 1, none⟩ = some (.int .i64 ((rd_T54 t248 x8_3).f1)) ∧ w'.cell? ⟨(ad251.add ((x8_3).toNat * 3)).block, (ad251.add ((x8_3).toNat * 3)).off + 2, none⟩ = some (.int .i64 ((rd_T54 t248 x8_3).f2))) (ds := []) #[false, false, false, false, false, false, false, false, false, false, false, false, false, false, false, false, false] (by kernel_rfl) rfl rfl ⟨(blk_cell BK252.out 0).trans rfl, (blk_cell BK252.out 1).trans rfl, (blk_cell BK252.out 2).trans rfl, hx255_0, hx255_1, hx255_2, hx257_0, hx257_1, hx257_2, hx258_0, hx258_1, hx258_2⟩ (fun hHeld => ?_); refine with_tabW impl_cells.tab11 impl_cells.bits11 (fun HT_ HW_ => ?_)
                     generalize wc.drew = w31 at HO_3 HO_4 HO_12 BK252 HB hx255_0 hx255_1 hx255_2 hx257_0 hx257_1 hx257_2 hx258_0 hx258_1 hx258_2 hHeld ⊢
                     refine pure_ (i := 1) (N := some 44) #[false, true, false, false, false, false, false, false, false, false, false, false, false, false, false, false, false] rfl rfl (any_of HT_.out (by kernel_rfl)) (fun _ _ _ h => h) (Or.inl ⟨by rfl, PW⟩) PU ?_
                     refine pure_ (i := 2) (N := some 45) #[false, true, true, false, false, false, false, false, false, false, false, false, false, false, false, false, false] rfl rfl (any_of HT_.out (by kernel_rfl)) (fun _ _ _ h => h) (Or.inl ⟨by rfl, PW⟩) PU ?_
                     refine pure_ (i := 3) (N := some 46) #[false, true, true, true, false, false, false, false, false, false, false, false, false, false, false, false, false] rfl rfl (any_of HT_.out (by kernel_rfl)) (fun _ _ _ h => h) (Or.inl ⟨by rfl, PW⟩) PU ?_
                     refine take_ (i := 0) (N := some 43) #[true, true, true, true, false, false, false, false, false, false, false, false, false, false, false, false, false] rfl rfl (take_ofW HT_.out HW_.out (by kernel_rfl)) (fun _ _ _ h => h) (Or.inl ⟨by rfl, PT⟩) hHeld PU ?_
                     refine take_ (i := 4) (N := some 47) #[true, true, true, true, true, false, false, false, false, false, false, false, false, false, false, false, false] rfl rfl (take_ofW HT_.out HW_.out (by kernel_rfl)) (fun _ _ _ h => h) (Or.inl ⟨by rfl, PT⟩) hHeld PU ?_
                     refine one_ (i := 5) (N := some 48) #[true, true, true, true, true, true, false, false, false, false, false, false, false, false, false, false, false] rfl rfl (one_of HT_.out (by kernel_rfl)) (by decide) (fun K hK => ?_)
                     refine goes_ Try.func37 (by kernel_rfl) rfl #[.agg #[.int .i64 ((rd_T54 t248 x14_1).f0), .int .i64 ((rd_T54 t248 x14_1).f1), .int .i64 ((rd_T54 t248 x14_1).f2)], .agg #[.int .i64 ((rd_T54 t248 x8_3).f0), .int .i64 ((rd_T54 t248 x8_3).f1), .int .i64 ((rd_T54 t248 x8_3).f2)]] (by rfl) rfl rfl TA ?_
                     with_reducible refine (impl_near.calls kj12 ((rd_T54 t248 x14_1).f0) ((rd_T54 t248 x14_1).f1) ((rd_T54 t248 x14_1).f2) ((rd_T54 t248 x8_3).f0) ((rd_T54 t248 x8_3).f1) ((rd_T54 t248 x8_3).f2) true _ A24.out).mono ?_
                     rintro e w32 ⟨rfl, hb⟩
                     have HS3_ := (hb.cell (World.block_lt_of_cell? _ _ (hHeld.2.2.2.1))).trans (hHeld.2.2.2.1)
                     have HS4_ := (hb.cell (World.block_lt_of_cell? _ _ (hHeld.2.2.2.2.1))).trans (hHeld.2.2.2.2.1)
                     have HS5_ := (hb.cell (World.block_lt_of_cell? _ _ (hHeld.2.2.2.2.2.1))).trans (hHeld.2.2.2.2.2.1)
                     have HS6_ := (hb.cell (World.block_lt_of_cell? _ _ (hHeld.2.2.2.2.2.2.1))).trans (hHeld.2.2.2.2.2.2.1)
                     have HS7_ := (hb.cell (World.block_lt_of_cell? _ _ (hHeld.2.2.2.2.2.2.2.1))).trans (hHeld.2.2.2.2.2.2.2.1)
                     have HS8_ := (hb.cell (World.block_lt_of_cell? _ _ (hHeld.2.2.2.2.2.2.2.2.1))).trans (hHeld.2.2.2.2.2.2.2.2.1)
                     have HS9_ := (hb.cell (World.block_lt_of_cell? _ _ (hHeld.2.2.2.2.2.2.2.2.2.1))).trans (hHeld.2.2.2.2.2.2.2.2.2.1)
                     have HS10_ := (hb.cell (World.block_lt_of_cell? _ _ (hHeld.2.2.2.2.2.2.2.2.2.2.1))).trans (hHeld.2.2.2.2.2.2.2.2.2.2.1)
                     have HS11_ := (hb.cell (World.block_lt_of_cell? _ _ (hHeld.2.2.2.2.2.2.2.2.2.2.2))).trans (hHeld.2.2.2.2.2.2.2.2.2.2.2)
                     refine ⟨_, rfl, ?_⟩
                     have n0_ := Aside0.mk (Kd.S_below (KS HO_3) hb)
                     have n1_ := Aside0.mk (Kd.R_below (KR HO_4) hb)
                     have n2_ := Aside0.mk (Kd.R_below (KR HO_12) hb)
                     have n3_ := Aside0.mk (blk_below (g := gb252) (o := .cells #[.int .i64 ((rd_T54 t248 x14_1).f0), .int .i64 ((rd_T54 t248 x14_1).f1), .int .i64 ((rd_T54 t248 x14_1).f2)] 54 (0, 0)) (BW BK252) hb)
                     have n4_ := Aside0.mk (below_step (by repeat (first | (with_reducible first | exact HB.out | apply below_alloc | apply pw_below_drewN | apply below_drew1 | refine below_set ?_ GE252.out) | exact HB.out)) hb)
                     clear HO_3
                     clear HO_4
                     clear HO_12
                     clear BK252
                     clear HB
                     have HO_3 := n0_
                     have HO_4 := n1_
                     have HO_12 := n2_
                     have BK252 := n3_
                     have HB := n4_
                     clear n0_ n1_ n2_ n3_ n4_
                     (try clear hb)
                     (try clear hb2)
                     (try clear hk)
                     (try clear hi)
                     refine hK.out _ _ ⟨(blk_cell BK252.out 0).trans rfl, (blk_cell BK252.out 1).trans rfl, (blk_cell BK252.out 2).trans rfl, HS3_, HS4_, HS5_, HS6_, HS7_, HS8_, HS9_, HS10_, HS11_⟩ (fun hHeld => ?_)
                     clear hK K
                     refine norm_ (a' := ?_) ?_ ?_
                     rotate_left
                     ·show Act.put _ (some 48) _ = _
                      simp only [Act.put, List.setIfInBounds_toArray, List.set_cons_zero, List.set_cons_succ, i64_w, i32_w]
                      rfl
                     refine pure_ (i := 6) (N := some 49) #[true, true, true, true, true, true, true, false, false, false, false, false, false, false, false, false, false] rfl rfl (any_of HT_.out (by kernel_rfl)) (fun _ _ _ h => h) (Or.inl ⟨by rfl, PW⟩) PU ?_
                     refine pure_ (i := 7) (N := some 50) #[true, true, true, true, true, true, true, true, false, false, false, false, false, false, false, false, false] rfl rfl (any_of HT_.out (by kernel_rfl)) (fun _ _ _ h => h) (Or.inl ⟨by rfl, PW⟩) PU ?_
                     refine pure_ (i := 8) (N := some 51) #[true, true, true, true, true, true, true, true, true, false, false, false, false, false, false, false, false] rfl rfl (any_of HT_.out (by kernel_rfl)) (fun _ _ _ h => h) (Or.inl ⟨by rfl, PW⟩) PU ?_
                     refine pure_ (i := 9) (N := some 52) #[true, true, true, true, true, true, true, true, true, true, false, false, false, false, false, false, false] rfl rfl (any_of HT_.out (by kernel_rfl)) (fun _ _ _ h => h) (Or.inl ⟨by rfl, PW⟩) PU ?_
                     refine pure_ (i := 11) (N := some 54) #[true, true, true, true, true, true, true, true, true, true, false, true, false, false, false, false, false] rfl rfl (any_of HT_.out (by kernel_rfl)) (fun _ _ _ h => h) (Or.inl ⟨by rfl, PW⟩) PU ?_
                     refine pure_ (i := 12) (N := some 55) #[true, true, true, true, true, true, true, true, true, true, false, true, true, false, false, false, false] rfl rfl (any_of HT_.out (by kernel_rfl)) (fun _ _ _ h => h) (Or.inl ⟨by rfl, PW⟩) PU ?_
                     refine pure_ (i := 13) (N := some 56) #[true, true, true, true, true, true, true, true, true, true, false, true, true, true, false, false, false] rfl rfl (any_of HT_.out (by kernel_rfl)) (fun _ _ _ h => h) (Or.inl ⟨by rfl, PW⟩) PU ?_
                     refine take_ (i := 10) (N := some 53) #[true, true, true, true, true, true, true, true, true, true, true, true, true, true, false, false, false] rfl rfl (take_ofW HT_.out HW_.out (by kernel_rfl)) (fun _ _ _ h => h) (Or.inl ⟨by rfl, PT⟩) hHeld PU ?_
                     refine take_ (i := 14) (N := some 57) #[true, true, true, true, true, true, true, true, true, true, true, true, true, true, true, false, false] rfl rfl (take_ofW HT_.out HW_.out (by kernel_rfl)) (fun _ _ _ h => h) (Or.inl ⟨by rfl, PT⟩) hHeld PU ?_
                     refine one_ (i := 15) (N := some 58) #[true, true, true, true, true, true, true, true, true, true, true, true, true, true, true, true, false] rfl rfl (one_of HT_.out (by kernel_rfl)) (by decide) (fun K hK => ?_)
                     refine goes_ Try.func37 (by kernel_rfl) rfl #[.agg #[.int .i64 ((rd_T54 t248 x7_2).f0), .int .i64 ((rd_T54 t248 x7_2).f1), .int .i64 ((rd_T54 t248 x7_2).f2)], .agg #[.int .i64 ((rd_T54 t248 x8_3).f0), .int .i64 ((rd_T54 t248 x8_3).f1), .int .i64 ((rd_T54 t248 x8_3).f2)]] (by rfl) rfl rfl TA ?_
                     with_reducible refine (impl_near.calls kj12 ((rd_T54 t248 x7_2).f0) ((rd_T54 t248 x7_2).f1) ((rd_T54 t248 x7_2).f2) ((rd_T54 t248 x8_3).f0) ((rd_T54 t248 x8_3).f1) ((rd_T54 t248 x8_3).f2) true _ A28.out).mono ?_
                     rintro e w33 ⟨rfl, hb⟩
                     have HS3_ := (hb.cell (World.block_lt_of_cell? _ _ (hHeld.2.2.2.1))).trans (hHeld.2.2.2.1)
                     have HS4_ := (hb.cell (World.block_lt_of_cell? _ _ (hHeld.2.2.2.2.1))).trans (hHeld.2.2.2.2.1)
                     have HS5_ := (hb.cell (World.block_lt_of_cell? _ _ (hHeld.2.2.2.2.2.1))).trans (hHeld.2.2.2.2.2.1)
                     have HS6_ := (hb.cell (World.block_lt_of_cell? _ _ (hHeld.2.2.2.2.2.2.1))).trans (hHeld.2.2.2.2.2.2.1)
                     have HS7_ := (hb.cell (World.block_lt_of_cell? _ _ (hHeld.2.2.2.2.2.2.2.1))).trans (hHeld.2.2.2.2.2.2.2.1)
                     have HS8_ := (hb.cell (World.block_lt_of_cell? _ _ (hHeld.2.2.2.2.2.2.2.2.1))).trans (hHeld.2.2.2.2.2.2.2.2.1)
                     have HS9_ := (hb.cell (World.block_lt_of_cell? _ _ (hHeld.2.2.2.2.2.2.2.2.2.1))).trans (hHeld.2.2.2.2.2.2.2.2.2.1)
                     have HS10_ := (hb.cell (World.block_lt_of_cell? _ _ (hHeld.2.2.2.2.2.2.2.2.2.2.1))).trans (hHeld.2.2.2.2.2.2.2.2.2.2.1)
                     have HS11_ := (hb.cell (World.block_lt_of_cell? _ _ (hHeld.2.2.2.2.2.2.2.2.2.2.2))).trans (hHeld.2.2.2.2.2.2.2.2.2.2.2)
                     refine ⟨_, rfl, ?_⟩
                     have n0_ := Aside0.mk (Kd.S_below (KS HO_3) hb)
                     have n1_ := Aside0.mk (Kd.R_below (KR HO_4) hb)
                     have n2_ := Aside0.mk (Kd.R_below (KR HO_12) hb)
                     have n3_ := Aside0.mk (blk_below (g := gb252) (o := .cells #[.int .i64 ((rd_T54 t248 x14_1).f0), .int .i64 ((rd_T54 t248 x14_1).f1), .int .i64 ((rd_T54 t248 x14_1).f2)] 54 (0, 0)) (BW BK252) hb)
                     have n4_ := Aside0.mk (below_step (by repeat (first | (with_reducible first | exact HB.out | apply below_alloc | apply pw_below_drewN | apply below_drew1 | refine below_set ?_ GE252.out) | exact HB.out)) hb)
                     clear HO_3
                     clear HO_4
                     clear HO_12
                     clear BK252
                     clear HB
                     have HO_3 := n0_
                     have HO_4 := n1_
                     have HO_12 := n2_
                     have BK252 := n3_
                     have HB := n4_
                     clear n0_ n1_ n2_ n3_ n4_
                     (try clear hb)
                     (try clear hb2)
                     (try clear hk)
                     (try clear hi)
                     refine hK.out _ _ ⟨(blk_cell BK252.out 0).trans rfl, (blk_cell BK252.out 1).trans rfl, (blk_cell BK252.out 2).trans rfl, HS3_, HS4_, HS5_, HS6_, HS7_, HS8_, HS9_, HS10_, HS11_⟩ (fun hHeld => ?_)
                     clear hK K
                     refine norm_ (a' := ?_) ?_ ?_
                     rotate_left
                     ·show Act.put _ (some 58) _ = _
                      simp only [Act.put, List.setIfInBounds_toArray, List.set_cons_zero, List.set_cons_succ, i64_w, i32_w]
                      rfl
                     refine pure_ (i := 16) (N := some 59) #[true, true, true, true, true, true, true, true, true, true, true, true, true, true, true, true, true] rfl rfl (any_of HT_.out (by kernel_rfl)) (fun _ _ _ h => h) (Or.inl ⟨by rfl, PW⟩) PU ?_
                     refine done_ (done_of HT_.out (by kernel_rfl)) ?_
                     try go_wp2_with (first | ((with_reducible refine gate_dst (N := 64) rfl ?_); refine Kd.R_lit (Kd.int .i64) _ 3 ?hg (N := 64) ?hd (xs := ([x14_1, x7_2, x8_3] : List Int)) (inner := [.int .i64 x14_1, .int .i64 x7_2, .int .i64 x8_3]) (ok := fun _ => True) (okp := fun _ => True) ?hr ?hp (fun _ hk => hk) trivial (Below.refl _ _) (Nat.le_refl _) (by simp) ?_; (case hd => rfl); (case hg => rfl); (case hr => exact GS); (case hp => exact (Reps.one (show Kd.M (Kd.int .i64) _ _ _ x14_1 [.int .i64 x14_1] from rfl) (Reps.one (show Kd.M (Kd.int .i64) _ _ _ x7_2 [.int .i64 x7_2] from rfl) (Reps.one (show Kd.M (Kd.int .i64) _ _ _ x8_3 [.int .i64 x8_3] from rfl) (Reps.none _ _))))); intro v261 w34 ho35 hb hg_ hnew_; clear hg_ hnew_; (first | rw [← Ny260.out] at ho35 | (simp only [Int.reduceToNat] at ho35; rw [← Ny260.out] at ho35)); have n0_ := Aside0.mk (Kd.S_elder' (KS HO_3) (Kd.R_base ho35) hb); have n1_ := Aside0.mk (Kd.R_below (KR HO_4) hb); have n2_ := Aside0.mk (Kd.R_below (KR HO_12) hb); have n3_ := Aside0.mk (Kd.R_lower ho35 (below_size (by repeat (first | (with_reducible first | exact HB.out | apply below_alloc | apply pw_below_drewN | apply below_drew1 | refine below_set ?_ GE252.out) | exact HB.out)))); have n4_ := Aside0.mk (blk_below (g := gb252) (o := .cells #[.int .i64 ((rd_T54 t248 x14_1).f0), .int .i64 ((rd_T54 t248 x14_1).f1), .int .i64 ((rd_T54 t248 x14_1).f2)] 54 (0, 0)) (BW BK252) hb); have n5_ := Aside0.mk (below_step (by repeat (first | (with_reducible first | exact HB.out | apply below_alloc | apply pw_below_drewN | apply below_drew1 | refine below_set ?_ GE252.out) | exact HB.out)) hb); clear HO_3; clear HO_4; clear HO_12; clear BK252; clear HB; have HO_3 := n0_; have HO_4 := n1_; have HO_12 := n2_; have HO262 := n3_; have BK252 := n4_; have HB := n5_; clear n0_ n1_ n2_ n3_ n4_ n5_; clear hb ho35; obtain ⟨Ao37, co37, eo37⟩ := Kd.R_slice HO262.out; subst eo37) | ((with_reducible refine gate_builtin (b := .append) (xs := #[.tmp 60, .tmp 65]) rfl ?_); at_builtin; refine Kd.S_append (Kd.slice 3 (Kd.int .i64)) (w0 := w) w.heap.size rfl (.tmp 60) (.tmp 65) 39 26 (.slice none 0 0) 24 rfl Try.underlying39 info26 rfl (by decide) (by omega) u3 x3_3 y260 [.slice Ao37 y260.length co37] (fun _ => True) (fun k_ => some k_ = (.slice Ao37 y260.length co37 : Value).ownBlock) rfl rfl ?aP (fun k_ hk_ => ((Kd.R_mono (ok' := fun k_ => ((fun _ => True)) k_ ∧ some k_ ≠ (u3 : Value).ownBlock) (Kd.R_apart' (HO262.out) (Kd.S_typed HO_3.out) (by decide)) (fun k_ hk => ⟨trivial, hk.2⟩))).1 k_ hk_.symm) ?aF ?aO ?aB ?aS ?aL ?_; (case aP => exact Kd.M_row (Kd.R_mono (Kd.R_tight rfl (Kd.R_mono (ok' := fun k_ => ((fun _ => True)) k_ ∧ some k_ ≠ (u3 : Value).ownBlock) (Kd.R_apart' (HO262.out) (Kd.S_typed HO_3.out) (by decide)) (fun k_ hk => ⟨trivial, hk.2⟩))) (fun _ h_ => h_))); (case aB => exact (by repeat (first | (with_reducible first | exact HB.out | apply below_alloc | apply pw_below_drewN | apply below_drew1 | refine below_set ?_ GE252.out) | exact HB.out))); (case aF => exact (fun _ _ => trivial)); (case aO => exact (by (with_reducible repeat (first | apply Kd.S_alloc | apply Kd.S_drewN | apply Kd.S_drew)); exact Kd.S_mono HO_3.out (fun k_ hk => ⟨trivial, fun e_ => hk.2 e_⟩))); (case aS => exact (below_size (by repeat (first | (with_reducible first | exact HB.out | apply below_alloc | apply pw_below_drewN | apply below_drew1 | refine below_set ?_ GE252.out) | exact HB.out)))); (case aL => have := LMc30.out; omega); intro v264 w36 ho hb hg hat; rw [← Ny263.out] at ho; have n0_ := Aside0.mk (Kd.R_over' (KR HO_4) (Kd.S_typed (KS HO_3)) (by decide) hg); have n1_ := Aside0.mk (Kd.R_over' (KR HO_12) (Kd.S_typed (KS HO_3)) (by decide) hg); have n2_ := Aside0.mk (blk_grown (g := gb252) (o := .cells #[.int .i64 ((rd_T54 t248 x14_1).f0), .int .i64 ((rd_T54 t248 x14_1).f1), .int .i64 ((rd_T54 t248 x14_1).f2)] 54 (0, 0)) (BW BK252) hg (Kd.S_ne HO_3.out BK252.out (by decide))); have n3_ := Aside0.mk (hb); have n4_ := Aside0.mk (ho); clear HO_4; clear HO_12; clear BK252; clear HB; clear HO_3; clear HO262; have HO_4 := n0_; have HO_12 := n1_; have BK252 := n2_; have HB := n3_; have HO265 := n4_; clear n0_ n1_ n2_ n3_ n4_; clear ho hb hg hat))
                     go_roundg kj12
                     case measure => have := HK1.out; have := HK2.out; have := HK3.out; have := HJ12.out; omega
                     case rel => exact ⟨(y263), (wrap64 (x8_3 + 1)), RF, H', ⟨by have := HK1.out; have := HK2.out; have := HK3.out; have := HJ12.out; omega⟩, ⟨KS HO265⟩, ⟨KR HO_4⟩, ⟨KR HO_12⟩, ⟨by (with_reducible repeat (first | refine blk_drewN ?_ _ | refine blk_drew ?_ | refine blk_alloc ?_ _)); exact BK252.out⟩, ⟨by repeat (first | (with_reducible first | exact HB.out | apply below_alloc | apply pw_below_drewN | apply below_drew1 | refine below_set ?_ GE252.out) | exact HB.out)⟩⟩
                    ·rw [if_neg c30] at H
                     cases H
                   ·replace c29 := Bool.eq_false_iff.mpr c29
                    subst c29
                    replace H := IN H
                    have H' := Aside0.mk H
                    clear H
                    try go_wp2
                    have n0_ := Aside0.mk (Kd.S_drew HO_3.out)
                    have n1_ := Aside0.mk (Kd.R_drew HO_4.out)
                    have n2_ := Aside0.mk (Kd.R_drew HO_12.out)
                    have n3_ := Aside0.mk (blk_drew BK252.out)
                    have n4_ := Aside0.mk (below_drew1 HB.out)
                    clear HO_3
                    clear HO_4
                    clear HO_12
                    clear BK252
                    clear HB
                    have HO_3 := n0_
                    have HO_4 := n1_
                    have HO_12 := n2_
                    have BK252 := n3_
                    have HB := n4_
                    clear n0_ n1_ n2_ n3_ n4_
                    have p255 : 0 ≤ (x8_3 : Int) := of_decide_eq_true AS
                    have q255 : x8_3 < (t248.length : Int) := of_decide_eq_true AS
                    obtain ⟨ad255, e255, hx255_0, hx255_1, hx255_2⟩ := at_T54 (Kd.R_reads' HO_4.out).2.2 x8_3 p255 q255
                    obtain rfl : ad251 = ad255 := (by injection e255)
                    replace p255 := eq_true p255
                    replace q255 := eq_true q255
                    have p257 : 0 ≤ (x7_2 : Int) := of_decide_eq_true AS
                    have q257 : x7_2 < (t248.length : Int) := of_decide_eq_true AS
                    obtain ⟨ad257, e257, hx257_0, hx257_1, hx257_2⟩ := at_T54 (Kd.R_reads' HO_4.out).2.2 x7_2 p257 q257
                    obtain rfl : ad251 = ad257 := (by injection e257)
                    replace p257 := eq_true p257
                    replace q257 := eq_true q257
                    have p258 : 0 ≤ (x8_3 : Int) := of_decide_eq_true AS
                    have q258 : x8_3 < (t248.length : Int) := of_decide_eq_true AS
                    obtain ⟨ad258, e258, hx258_0, hx258_1, hx258_2⟩ := at_T54 (Kd.R_reads' HO_4.out).2.2 x8_3 p258 q258
                    obtain rfl : ad251 = ad258 := (by injection e258)
                    replace p258 := eq_true p258
                    replace q258 := eq_true q258
                    refine start_ (n := 17) (S := fun w' => w'.cell? ⟨gb252, 0, none⟩ = some (.int .i64 ((rd_T54 t248 x14_1).f0)) ∧ w'.cell? ⟨gb252, 1, none⟩ = some (.int .i64 ((rd_T54 t248 x14_1).f1)) ∧ w'.cell? ⟨gb252, 2, none⟩ = some (.int .i64 ((rd_T54 t248 x14_1).f2)) ∧ w'.cell? (ad251.add ((x8_3).toNat * 3)) = some (.int .i64 ((rd_T54 t248 x8_3).f0)) ∧ w'.cell? ⟨(ad251.add ((x8_3).toNat * 3)).block, (ad251.add ((x8_3).toNat * 3)).off + 1, none⟩ = some (.int .i64 ((rd_T54 t248 x8_3).f1)) ∧ w'.cell? ⟨(ad251.add ((x8_3).toNat * 3)).block, (ad251.add ((x8_3).toNat * 3)).off + 2, none⟩ = some (.int .i64 ((rd_T54 t248 x8_3).f2)) ∧ w'.cell? (ad251.add ((x7_2).toNat * 3)) = some (.int .i64 ((rd_T54 t248 x7_2).f0)) ∧ w'.cell? ⟨(ad251.add ((x7_2).toNat * 3)).block, (ad251.add ((x7_2).toNat * 3)).off + 1, none⟩ = some (.int .i64 ((rd_T54 t248 x7_2).f1)) ∧ w'.cell? ⟨(ad251.add ((x7_2).toNat * 3)).block, (ad251.add ((x7_2).toNat * 3)).off + 2, none⟩ = some (.int .i64 ((rd_T54 t248 x7_2).f2)) ∧ w'.cell? (ad251.add ((x8_3).toNat * 3)) = some (.int .i64 ((rd_T54 t248 x8_3).f0)) ∧ w'.cell? ⟨(ad251.add ((x8_3).toNat * 3)).block, (ad251.add ((x8_3).toNat * 3)).off + 1, none⟩ = some (.int .i64 ((rd_T54 t248 x8_3).f1)) ∧ w'.cell? ⟨(ad251.add ((x8_3).toNat * 3)).block, (ad251.add ((x8_3).toNat * 3)).off + 2, none⟩ = some (.int .i64 ((rd_T54 t248 x8_3).f2))) (ds := []) #[false, false, false, false, false, false, false, false, false, false, false, false, false, false, false, false, false] (by kernel_rfl) rfl rfl ⟨(blk_cell BK252.out 0).trans rfl, (blk_cell BK252.out 1).trans rfl, (blk_cell BK252.out 2).trans rfl, hx255_0, hx255_1, hx255_2, hx257_0, hx257_1, hx257_2, hx258_0, hx258_1, hx258_2⟩ (fun hHeld => ?_); refine with_tabW impl_cells.tab11 impl_cells.bits11 (fun HT_ HW_ => ?_)
                    generalize wc.drew = w38 at HO_3 HO_4 HO_12 BK252 HB hx255_0 hx255_1 hx255_2 hx257_0 hx257_1 hx257_2 hx258_0 hx258_1 hx258_2 hHeld ⊢
                    refine pure_ (i := 1) (N := some 44) #[false, true, false, false, false, false, false, false, false, false, false, false, false, false, false, false, false] rfl rfl (any_of HT_.out (by kernel_rfl)) (fun _ _ _ h => h) (Or.inl ⟨by rfl, PW⟩) PU ?_
                    refine pure_ (i := 2) (N := some 45) #[false, true, true, false, false, false, false, false, false, false, false, false, false, false, false, false, false] rfl rfl (any_of HT_.out (by kernel_rfl)) (fun _ _ _ h => h) (Or.inl ⟨by rfl, PW⟩) PU ?_
                    refine pure_ (i := 3) (N := some 46) #[false, true, true, true, false, false, false, false, false, false, false, false, false, false, false, false, false] rfl rfl (any_of HT_.out (by kernel_rfl)) (fun _ _ _ h => h) (Or.inl ⟨by rfl, PW⟩) PU ?_
                    refine take_ (i := 0) (N := some 43) #[true, true, true, true, false, false, false, false, false, false, false, false, false, false, false, false, false] rfl rfl (take_ofW HT_.out HW_.out (by kernel_rfl)) (fun _ _ _ h => h) (Or.inl ⟨by rfl, PT⟩) hHeld PU ?_
                    refine take_ (i := 4) (N := some 47) #[true, true, true, true, true, false, false, false, false, false, false, false, false, false, false, false, false] rfl rfl (take_ofW HT_.out HW_.out (by kernel_rfl)) (fun _ _ _ h => h) (Or.inl ⟨by rfl, PT⟩) hHeld PU ?_
                    refine one_ (i := 5) (N := some 48) #[true, true, true, true, true, true, false, false, false, false, false, false, false, false, false, false, false] rfl rfl (one_of HT_.out (by kernel_rfl)) (by decide) (fun K hK => ?_)
                    refine goes_ Try.func37 (by kernel_rfl) rfl #[.agg #[.int .i64 ((rd_T54 t248 x14_1).f0), .int .i64 ((rd_T54 t248 x14_1).f1), .int .i64 ((rd_T54 t248 x14_1).f2)], .agg #[.int .i64 ((rd_T54 t248 x8_3).f0), .int .i64 ((rd_T54 t248 x8_3).f1), .int .i64 ((rd_T54 t248 x8_3).f2)]] (by rfl) rfl rfl TA ?_
                    with_reducible refine (impl_near.calls kj12 ((rd_T54 t248 x14_1).f0) ((rd_T54 t248 x14_1).f1) ((rd_T54 t248 x14_1).f2) ((rd_T54 t248 x8_3).f0) ((rd_T54 t248 x8_3).f1) ((rd_T54 t248 x8_3).f2) true _ A24.out).mono ?_
                    rintro e w39 ⟨rfl, hb⟩
                    have HS3_ := (hb.cell (World.block_lt_of_cell? _ _ (hHeld.2.2.2.1))).trans (hHeld.2.2.2.1)
                    have HS4_ := (hb.cell (World.block_lt_of_cell? _ _ (hHeld.2.2.2.2.1))).trans (hHeld.2.2.2.2.1)
                    have HS5_ := (hb.cell (World.block_lt_of_cell? _ _ (hHeld.2.2.2.2.2.1))).trans (hHeld.2.2.2.2.2.1)
                    have HS6_ := (hb.cell (World.block_lt_of_cell? _ _ (hHeld.2.2.2.2.2.2.1))).trans (hHeld.2.2.2.2.2.2.1)
                    have HS7_ := (hb.cell (World.block_lt_of_cell? _ _ (hHeld.2.2.2.2.2.2.2.1))).trans (hHeld.2.2.2.2.2.2.2.1)
                    have HS8_ := (hb.cell (World.block_lt_of_cell? _ _ (hHeld.2.2.2.2.2.2.2.2.1))).trans (hHeld.2.2.2.2.2.2.2.2.1)
                    have HS9_ := (hb.cell (World.block_lt_of_cell? _ _ (hHeld.2.2.2.2.2.2.2.2.2.1))).trans (hHeld.2.2.2.2.2.2.2.2.2.1)
                    have HS10_ := (hb.cell (World.block_lt_of_cell? _ _ (hHeld.2.2.2.2.2.2.2.2.2.2.1))).trans (hHeld.2.2.2.2.2.2.2.2.2.2.1)
                    have HS11_ := (hb.cell (World.block_lt_of_cell? _ _ (hHeld.2.2.2.2.2.2.2.2.2.2.2))).trans (hHeld.2.2.2.2.2.2.2.2.2.2.2)
                    refine ⟨_, rfl, ?_⟩
                    have n0_ := Aside0.mk (Kd.S_below (KS HO_3) hb)
                    have n1_ := Aside0.mk (Kd.R_below (KR HO_4) hb)
                    have n2_ := Aside0.mk (Kd.R_below (KR HO_12) hb)
                    have n3_ := Aside0.mk (blk_below (g := gb252) (o := .cells #[.int .i64 ((rd_T54 t248 x14_1).f0), .int .i64 ((rd_T54 t248 x14_1).f1), .int .i64 ((rd_T54 t248 x14_1).f2)] 54 (0, 0)) (BW BK252) hb)
                    have n4_ := Aside0.mk (below_step (by repeat (first | (with_reducible first | exact HB.out | apply below_alloc | apply pw_below_drewN | apply below_drew1 | refine below_set ?_ GE252.out) | exact HB.out)) hb)
                    clear HO_3
                    clear HO_4
                    clear HO_12
                    clear BK252
                    clear HB
                    have HO_3 := n0_
                    have HO_4 := n1_
                    have HO_12 := n2_
                    have BK252 := n3_
                    have HB := n4_
                    clear n0_ n1_ n2_ n3_ n4_
                    (try clear hb)
                    (try clear hb2)
                    (try clear hk)
                    (try clear hi)
                    refine hK.out _ _ ⟨(blk_cell BK252.out 0).trans rfl, (blk_cell BK252.out 1).trans rfl, (blk_cell BK252.out 2).trans rfl, HS3_, HS4_, HS5_, HS6_, HS7_, HS8_, HS9_, HS10_, HS11_⟩ (fun hHeld => ?_)
                    clear hK K
                    refine norm_ (a' := ?_) ?_ ?_
                    rotate_left
                    ·show Act.put _ (some 48) _ = _
                     simp only [Act.put, List.setIfInBounds_toArray, List.set_cons_zero, List.set_cons_succ, i64_w, i32_w]
                     rfl
                    refine pure_ (i := 6) (N := some 49) #[true, true, true, true, true, true, true, false, false, false, false, false, false, false, false, false, false] rfl rfl (any_of HT_.out (by kernel_rfl)) (fun _ _ _ h => h) (Or.inl ⟨by rfl, PW⟩) PU ?_
                    refine pure_ (i := 7) (N := some 50) #[true, true, true, true, true, true, true, true, false, false, false, false, false, false, false, false, false] rfl rfl (any_of HT_.out (by kernel_rfl)) (fun _ _ _ h => h) (Or.inl ⟨by rfl, PW⟩) PU ?_
                    refine pure_ (i := 8) (N := some 51) #[true, true, true, true, true, true, true, true, true, false, false, false, false, false, false, false, false] rfl rfl (any_of HT_.out (by kernel_rfl)) (fun _ _ _ h => h) (Or.inl ⟨by rfl, PW⟩) PU ?_
                    refine pure_ (i := 9) (N := some 52) #[true, true, true, true, true, true, true, true, true, true, false, false, false, false, false, false, false] rfl rfl (any_of HT_.out (by kernel_rfl)) (fun _ _ _ h => h) (Or.inl ⟨by rfl, PW⟩) PU ?_
                    refine pure_ (i := 11) (N := some 54) #[true, true, true, true, true, true, true, true, true, true, false, true, false, false, false, false, false] rfl rfl (any_of HT_.out (by kernel_rfl)) (fun _ _ _ h => h) (Or.inl ⟨by rfl, PW⟩) PU ?_
                    refine pure_ (i := 12) (N := some 55) #[true, true, true, true, true, true, true, true, true, true, false, true, true, false, false, false, false] rfl rfl (any_of HT_.out (by kernel_rfl)) (fun _ _ _ h => h) (Or.inl ⟨by rfl, PW⟩) PU ?_
                    refine pure_ (i := 13) (N := some 56) #[true, true, true, true, true, true, true, true, true, true, false, true, true, true, false, false, false] rfl rfl (any_of HT_.out (by kernel_rfl)) (fun _ _ _ h => h) (Or.inl ⟨by rfl, PW⟩) PU ?_
                    refine take_ (i := 10) (N := some 53) #[true, true, true, true, true, true, true, true, true, true, true, true, true, true, false, false, false] rfl rfl (take_ofW HT_.out HW_.out (by kernel_rfl)) (fun _ _ _ h => h) (Or.inl ⟨by rfl, PT⟩) hHeld PU ?_
                    refine take_ (i := 14) (N := some 57) #[true, true, true, true, true, true, true, true, true, true, true, true, true, true, true, false, false] rfl rfl (take_ofW HT_.out HW_.out (by kernel_rfl)) (fun _ _ _ h => h) (Or.inl ⟨by rfl, PT⟩) hHeld PU ?_
                    refine one_ (i := 15) (N := some 58) #[true, true, true, true, true, true, true, true, true, true, true, true, true, true, true, true, false] rfl rfl (one_of HT_.out (by kernel_rfl)) (by decide) (fun K hK => ?_)
                    refine goes_ Try.func37 (by kernel_rfl) rfl #[.agg #[.int .i64 ((rd_T54 t248 x7_2).f0), .int .i64 ((rd_T54 t248 x7_2).f1), .int .i64 ((rd_T54 t248 x7_2).f2)], .agg #[.int .i64 ((rd_T54 t248 x8_3).f0), .int .i64 ((rd_T54 t248 x8_3).f1), .int .i64 ((rd_T54 t248 x8_3).f2)]] (by rfl) rfl rfl TA ?_
                    with_reducible refine (impl_near.calls kj12 ((rd_T54 t248 x7_2).f0) ((rd_T54 t248 x7_2).f1) ((rd_T54 t248 x7_2).f2) ((rd_T54 t248 x8_3).f0) ((rd_T54 t248 x8_3).f1) ((rd_T54 t248 x8_3).f2) false _ A28.out).mono ?_
                    rintro e w40 ⟨rfl, hb⟩
                    have HS3_ := (hb.cell (World.block_lt_of_cell? _ _ (hHeld.2.2.2.1))).trans (hHeld.2.2.2.1)
                    have HS4_ := (hb.cell (World.block_lt_of_cell? _ _ (hHeld.2.2.2.2.1))).trans (hHeld.2.2.2.2.1)
                    have HS5_ := (hb.cell (World.block_lt_of_cell? _ _ (hHeld.2.2.2.2.2.1))).trans (hHeld.2.2.2.2.2.1)
                    have HS6_ := (hb.cell (World.block_lt_of_cell? _ _ (hHeld.2.2.2.2.2.2.1))).trans (hHeld.2.2.2.2.2.2.1)
                    have HS7_ := (hb.cell (World.block_lt_of_cell? _ _ (hHeld.2.2.2.2.2.2.2.1))).trans (hHeld.2.2.2.2.2.2.2.1)
                    have HS8_ := (hb.cell (World.block_lt_of_cell? _ _ (hHeld.2.2.2.2.2.2.2.2.1))).trans (hHeld.2.2.2.2.2.2.2.2.1)
                    have HS9_ := (hb.cell (World.block_lt_of_cell? _ _ (hHeld.2.2.2.2.2.2.2.2.2.1))).trans (hHeld.2.2.2.2.2.2.2.2.2.1)
                    have HS10_ := (hb.cell (World.block_lt_of_cell? _ _ (hHeld.2.2.2.2.2.2.2.2.2.2.1))).trans (hHeld.2.2.2.2.2.2.2.2.2.2.1)
                    have HS11_ := (hb.cell (World.block_lt_of_cell? _ _ (hHeld.2.2.2.2.2.2.2.2.2.2.2))).trans (hHeld.2.2.2.2.2.2.2.2.2.2.2)
                    refine ⟨_, rfl, ?_⟩
                    have n0_ := Aside0.mk (Kd.S_below (KS HO_3) hb)
                    have n1_ := Aside0.mk (Kd.R_below (KR HO_4) hb)
                    have n2_ := Aside0.mk (Kd.R_below (KR HO_12) hb)
                    have n3_ := Aside0.mk (blk_below (g := gb252) (o := .cells #[.int .i64 ((rd_T54 t248 x14_1).f0), .int .i64 ((rd_T54 t248 x14_1).f1), .int .i64 ((rd_T54 t248 x14_1).f2)] 54 (0, 0)) (BW BK252) hb)
                    have n4_ := Aside0.mk (below_step (by repeat (first | (with_reducible first | exact HB.out | apply below_alloc | apply pw_below_drewN | apply below_drew1 | refine below_set ?_ GE252.out) | exact HB.out)) hb)
                    clear HO_3
                    clear HO_4
                    clear HO_12
                    clear BK252
                    clear HB
                    have HO_3 := n0_
                    have HO_4 := n1_
                    have HO_12 := n2_
                    have BK252 := n3_
                    have HB := n4_
                    clear n0_ n1_ n2_ n3_ n4_
                    (try clear hb)
                    (try clear hb2)
                    (try clear hk)
                    (try clear hi)
                    refine hK.out _ _ ⟨(blk_cell BK252.out 0).trans rfl, (blk_cell BK252.out 1).trans rfl, (blk_cell BK252.out 2).trans rfl, HS3_, HS4_, HS5_, HS6_, HS7_, HS8_, HS9_, HS10_, HS11_⟩ (fun hHeld => ?_)
                    clear hK K
                    refine norm_ (a' := ?_) ?_ ?_
                    rotate_left
                    ·show Act.put _ (some 58) _ = _
                     simp only [Act.put, List.setIfInBounds_toArray, List.set_cons_zero, List.set_cons_succ, i64_w, i32_w]
                     rfl
                    refine pure_ (i := 16) (N := some 59) #[true, true, true, true, true, true, true, true, true, true, true, true, true, true, true, true, true] rfl rfl (any_of HT_.out (by kernel_rfl)) (fun _ _ _ h => h) (Or.inl ⟨by rfl, PW⟩) PU ?_
                    refine done_ (done_of HT_.out (by kernel_rfl)) ?_
                    try go_wp2
                    go_roundg kj12
                    case measure => have := HK1.out; have := HK2.out; have := HK3.out; have := HJ12.out; omega
                    case rel => exact ⟨(x3_3), (wrap64 (x8_3 + 1)), RF, H', ⟨by have := HK1.out; have := HK2.out; have := HK3.out; have := HJ12.out; omega⟩, ⟨KS HO_3⟩, ⟨KR HO_4⟩, ⟨KR HO_12⟩, ⟨by (with_reducible repeat (first | refine blk_drewN ?_ _ | refine blk_drew ?_ | refine blk_alloc ?_ _)); exact BK252.out⟩, ⟨by repeat (first | (with_reducible first | exact HB.out | apply below_alloc | apply pw_below_drewN | apply below_drew1 | refine below_set ?_ GE252.out) | exact HB.out)⟩⟩
                  ·rw [if_neg c27] at H
                   cases H
                 ·rw [if_neg c26] at H
                  cases H
                ·replace c25 := Bool.eq_false_iff.mpr c25
                 subst c25
                 replace H := IN H
                 have H' := Aside0.mk H
                 clear H
                 try go_wp2
                 have n0_ := Aside0.mk (Kd.S_drew HO_3.out)
                 have n1_ := Aside0.mk (Kd.R_drew HO_4.out)
                 have n2_ := Aside0.mk (Kd.R_drew HO_12.out)
                 have n3_ := Aside0.mk (blk_drew BK252.out)
                 have n4_ := Aside0.mk (below_drew1 HB.out)
                 clear HO_3
                 clear HO_4
                 clear HO_12
                 clear BK252
                 clear HB
                 have HO_3 := n0_
                 have HO_4 := n1_
                 have HO_12 := n2_
                 have BK252 := n3_
                 have HB := n4_
                 clear n0_ n1_ n2_ n3_ n4_
                 have p255 : 0 ≤ (x8_3 : Int) := of_decide_eq_true AS
                 have q255 : x8_3 < (t248.length : Int) := of_decide_eq_true AS
                 obtain ⟨ad255, e255, hx255_0, hx255_1, hx255_2⟩ := at_T54 (Kd.R_reads' HO_4.out).2.2 x8_3 p255 q255
                 obtain rfl : ad251 = ad255 := (by injection e255)
                 replace p255 := eq_true p255
                 replace q255 := eq_true q255
                 refine start_ (n := 17) (S := fun w' => w'.cell? ⟨gb252, 0, none⟩ = some (.int .i64 ((rd_T54 t248 x14_1).f0)) ∧ w'.cell? ⟨gb252, 1, none⟩ = some (.int .i64 ((rd_T54 t248 x14_1).f1)) ∧ w'.cell? ⟨gb252, 2, none⟩ = some (.int .i64 ((rd_T54 t248 x14_1).f2)) ∧ w'.cell? (ad251.add ((x8_3).toNat * 3)) = some (.int .i64 ((rd_T54 t248 x8_3).f0)) ∧ w'.cell? ⟨(ad251.add ((x8_3).toNat * 3)).block, (ad251.add ((x8_3).toNat * 3)).off + 1, none⟩ = some (.int .i64 ((rd_T54 t248 x8_3).f1)) ∧ w'.cell? ⟨(ad251.add ((x8_3).toNat * 3)).block, (ad251.add ((x8_3).toNat * 3)).off + 2, none⟩ = some (.int .i64 ((rd_T54 t248 x8_3).f2))) (ds := []) #[false, false, false, false, false, false, false, false, false, false, false, false, false, false, false, false, false] (by kernel_rfl) rfl rfl ⟨(blk_cell BK252.out 0).trans rfl, (blk_cell BK252.out 1).trans rfl, (blk_cell BK252.out 2).trans rfl, hx255_0, hx255_1, hx255_2⟩ (fun hHeld => ?_); refine with_tabW impl_cells.tab11 impl_cells.bits11 (fun HT_ HW_ => ?_)
                 generalize wc.drew = w41 at HO_3 HO_4 HO_12 BK252 HB hx255_0 hx255_1 hx255_2 hHeld ⊢
                 refine pure_ (i := 1) (N := some 44) #[false, true, false, false, false, false, false, false, false, false, false, false, false, false, false, false, false] rfl rfl (any_of HT_.out (by kernel_rfl)) (fun _ _ _ h => h) (Or.inl ⟨by rfl, PW⟩) PU ?_
                 refine pure_ (i := 2) (N := some 45) #[false, true, true, false, false, false, false, false, false, false, false, false, false, false, false, false, false] rfl rfl (any_of HT_.out (by kernel_rfl)) (fun _ _ _ h => h) (Or.inl ⟨by rfl, PW⟩) PU ?_
                 refine pure_ (i := 3) (N := some 46) #[false, true, true, true, false, false, false, false, false, false, false, false, false, false, false, false, false] rfl rfl (any_of HT_.out (by kernel_rfl)) (fun _ _ _ h => h) (Or.inl ⟨by rfl, PW⟩) PU ?_
                 refine take_ (i := 0) (N := some 43) #[true, true, true, true, false, false, false, false, false, false, false, false, false, false, false, false, false] rfl rfl (take_ofW HT_.out HW_.out (by kernel_rfl)) (fun _ _ _ h => h) (Or.inl ⟨by rfl, PT⟩) hHeld PU ?_
                 refine take_ (i := 4) (N := some 47) #[true, true, true, true, true, false, false, false, false, false, false, false, false, false, false, false, false] rfl rfl (take_ofW HT_.out HW_.out (by kernel_rfl)) (fun _ _ _ h => h) (Or.inl ⟨by rfl, PT⟩) hHeld PU ?_
                 refine one_ (i := 5) (N := some 48) #[true, true, true, true, true, true, false, false, false, false, false, false, false, false, false, false, false] rfl rfl (one_of HT_.out (by kernel_rfl)) (by decide) (fun K hK => ?_)
                 refine goes_ Try.func37 (by kernel_rfl) rfl #[.agg #[.int .i64 ((rd_T54 t248 x14_1).f0), .int .i64 ((rd_T54 t248 x14_1).f1), .int .i64 ((rd_T54 t248 x14_1).f2)], .agg #[.int .i64 ((rd_T54 t248 x8_3).f0), .int .i64 ((rd_T54 t248 x8_3).f1), .int .i64 ((rd_T54 t248 x8_3).f2)]] (by rfl) rfl rfl TA ?_
                 with_reducible refine (impl_near.calls kj12 ((rd_T54 t248 x14_1).f0) ((rd_T54 t248 x14_1).f1) ((rd_T54 t248 x14_1).f2) ((rd_T54 t248 x8_3).f0) ((rd_T54 t248 x8_3).f1) ((rd_T54 t248 x8_3).f2) false _ A24.out).mono ?_
                 rintro e w42 ⟨rfl, hb⟩
                 have HS3_ := (hb.cell (World.block_lt_of_cell? _ _ (hHeld.2.2.2.1))).trans (hHeld.2.2.2.1)
                 have HS4_ := (hb.cell (World.block_lt_of_cell? _ _ (hHeld.2.2.2.2.1))).trans (hHeld.2.2.2.2.1)
                 have HS5_ := (hb.cell (World.block_lt_of_cell? _ _ (hHeld.2.2.2.2.2))).trans (hHeld.2.2.2.2.2)
                 refine ⟨_, rfl, ?_⟩
                 have n0_ := Aside0.mk (Kd.S_below (KS HO_3) hb)
                 have n1_ := Aside0.mk (Kd.R_below (KR HO_4) hb)
                 have n2_ := Aside0.mk (Kd.R_below (KR HO_12) hb)
                 have n3_ := Aside0.mk (blk_below (g := gb252) (o := .cells #[.int .i64 ((rd_T54 t248 x14_1).f0), .int .i64 ((rd_T54 t248 x14_1).f1), .int .i64 ((rd_T54 t248 x14_1).f2)] 54 (0, 0)) (BW BK252) hb)
                 have n4_ := Aside0.mk (below_step (by repeat (first | (with_reducible first | exact HB.out | apply below_alloc | apply pw_below_drewN | apply below_drew1 | refine below_set ?_ GE252.out) | exact HB.out)) hb)
                 clear HO_3
                 clear HO_4
                 clear HO_12
                 clear BK252
                 clear HB
                 have HO_3 := n0_
                 have HO_4 := n1_
                 have HO_12 := n2_
                 have BK252 := n3_
                 have HB := n4_
                 clear n0_ n1_ n2_ n3_ n4_
                 (try clear hb)
                 (try clear hb2)
                 (try clear hk)
                 (try clear hi)
                 refine hK.out _ _ ⟨(blk_cell BK252.out 0).trans rfl, (blk_cell BK252.out 1).trans rfl, (blk_cell BK252.out 2).trans rfl, HS3_, HS4_, HS5_⟩ (fun hHeld => ?_)
                 clear hK K
                 refine norm_ (a' := ?_) ?_ ?_
                 rotate_left
                 ·show Act.put _ (some 48) _ = _
                  simp only [Act.put, List.setIfInBounds_toArray, List.set_cons_zero, List.set_cons_succ, i64_w, i32_w]
                  rfl
                 refine pure_ (i := 6) (N := some 49) #[true, true, true, true, true, true, true, false, false, false, false, false, false, false, false, false, false] rfl rfl (any_of HT_.out (by kernel_rfl)) (fun _ _ _ h => h) (Or.inl ⟨by rfl, PW⟩) PU ?_
                 refine pure_ (i := 7) (N := some 50) (v := undef) (a' := ?_) #[true, true, true, true, true, true, true, true, false, false, false, false, false, false, false, false, false] rfl rfl (any_of HT_.out (by kernel_rfl)) (fun _ _ _ h => h) (Or.inr ⟨by rfl, rfl⟩) ?_ ?_
                 rotate_left
                 ·exact PU
                 refine pure_ (i := 8) (N := some 51) (v := undef) (a' := ?_) #[true, true, true, true, true, true, true, true, true, false, false, false, false, false, false, false, false] rfl rfl (any_of HT_.out (by kernel_rfl)) (fun _ _ _ h => h) (Or.inr ⟨by rfl, rfl⟩) ?_ ?_
                 rotate_left
                 ·exact PU
                 refine pure_ (i := 9) (N := some 52) (v := undef) (a' := ?_) #[true, true, true, true, true, true, true, true, true, true, false, false, false, false, false, false, false] rfl rfl (any_of HT_.out (by kernel_rfl)) (fun _ _ _ h => h) (Or.inr ⟨by rfl, rfl⟩) ?_ ?_
                 rotate_left
                 ·exact PU
                 refine pure_ (i := 10) (N := some 53) (v := undef) (a' := ?_) #[true, true, true, true, true, true, true, true, true, true, true, false, false, false, false, false, false] rfl rfl (any_of HT_.out (by kernel_rfl)) (fun _ _ _ h => h) (Or.inr ⟨by rfl, rfl⟩) ?_ ?_
                 rotate_left
                 ·exact PU
                 refine pure_ (i := 11) (N := some 54) (v := undef) (a' := ?_) #[true, true, true, true, true, true, true, true, true, true, true, true, false, false, false, false, false] rfl rfl (any_of HT_.out (by kernel_rfl)) (fun _ _ _ h => h) (Or.inr ⟨by rfl, rfl⟩) ?_ ?_
                 rotate_left
                 ·exact PU
                 refine pure_ (i := 12) (N := some 55) (v := undef) (a' := ?_) #[true, true, true, true, true, true, true, true, true, true, true, true, true, false, false, false, false] rfl rfl (any_of HT_.out (by kernel_rfl)) (fun _ _ _ h => h) (Or.inr ⟨by rfl, rfl⟩) ?_ ?_
                 rotate_left
                 ·exact PU
                 refine pure_ (i := 13) (N := some 56) (v := undef) (a' := ?_) #[true, true, true, true, true, true, true, true, true, true, true, true, true, true, false, false, false] rfl rfl (any_of HT_.out (by kernel_rfl)) (fun _ _ _ h => h) (Or.inr ⟨by rfl, rfl⟩) ?_ ?_
                 rotate_left
                 ·exact PU
                 refine pure_ (i := 14) (N := some 57) (v := undef) (a' := ?_) #[true, true, true, true, true, true, true, true, true, true, true, true, true, true, true, false, false] rfl rfl (any_of HT_.out (by kernel_rfl)) (fun _ _ _ h => h) (Or.inr ⟨by rfl, rfl⟩) ?_ ?_
                 rotate_left
                 ·exact PU
                 refine pure_ (i := 15) (N := some 58) (v := undef) (a' := ?_) #[true, true, true, true, true, true, true, true, true, true, true, true, true, true, true, true, false] rfl rfl (any_of HT_.out (by kernel_rfl)) (fun _ _ _ h => h) (Or.inr ⟨by rfl, rfl⟩) ?_ ?_
                 rotate_left
                 ·exact PU
                 refine pure_ (i := 16) (N := some 59) #[true, true, true, true, true, true, true, true, true, true, true, true, true, true, true, true, true] rfl rfl (any_of HT_.out (by kernel_rfl)) (fun _ _ _ h => h) (Or.inl ⟨by rfl, PW⟩) PU ?_
                 refine done_ (done_of HT_.out (by kernel_rfl)) ?_
                 try go_wp2
                 go_roundg kj12
                 case measure => have := HK1.out; have := HK2.out; have := HK3.out; have := HJ12.out; omega
                 case rel => exact ⟨(x3_3), (wrap64 (x8_3 + 1)), RF, H', ⟨by have := HK1.out; have := HK2.out; have := HK3.out; have := HJ12.out; omega⟩, ⟨KS HO_3⟩, ⟨KR HO_4⟩, ⟨KR HO_12⟩, ⟨by (with_reducible repeat (first | refine blk_drewN ?_ _ | refine blk_drew ?_ | refine blk_alloc ?_ _)); exact BK252.out⟩, ⟨by repeat (first | (with_reducible first | exact HB.out | apply below_alloc | apply pw_below_drewN | apply below_drew1 | refine below_set ?_ GE252.out) | exact HB.out)⟩⟩
               ·rw [if_neg c23] at H
                cases H
              ·rw [if_neg c22] at H
               cases H
             ·replace c21 := Bool.eq_false_iff.mpr c21
              subst c21
              replace H := IN H
              have H' := Aside0.mk H
              clear H
              go_wp2
              go_roundg kj12
              case measure => have := HK1.out; have := HK2.out; have := HK3.out; have := HJ12.out; omega
              case rel => exact ⟨(x3_3), (wrap64 (x7_2 + 1)), RF, H', ⟨by have := HK1.out; have := HK2.out; have := HK3.out; have := HJ12.out; omega⟩, ⟨KS HO_3⟩, ⟨KR HO_4⟩, ⟨KR HO_12⟩, ⟨by (with_reducible repeat (first | refine blk_drewN ?_ _ | refine blk_drew ?_ | refine blk_alloc ?_ _)); exact BK252.out⟩, ⟨by repeat (first | (with_reducible first | exact HB.out | apply below_alloc | apply pw_below_drewN | apply below_drew1 | refine below_set ?_ GE252.out) | exact HB.out)⟩⟩
        ·rw [if_neg c12] at H
         have c12b0 : decide (x7_2 < (t248.length : Int)) = false := decide_eq_false c12
         clear c12
         have H' := Aside0.mk H
         clear H
         go_wp2
         go_roundg k2
         case measure => have := HK1.out; have := HK2.out; omega
         case rel => exact ⟨(x3_2), (wrap64 (x14_1 + 1)), RF, H', ⟨by have := HK1.out; have := HK2.out; omega⟩, ⟨KS HO_3⟩, ⟨by (with_reducible repeat (first | apply Kd.R_alloc | apply Kd.R_drewN | apply Kd.R_drew)); exact Kd.R_mono HO_4.out (fun _ hk => trivial)⟩, ⟨by (with_reducible repeat (first | apply Kd.R_alloc | apply Kd.R_drewN | apply Kd.R_drew)); exact Kd.R_mono HO_12.out (fun _ hk => trivial)⟩, ⟨by repeat (first | (with_reducible first | exact HB.out | apply below_alloc | apply pw_below_drewN | apply below_drew1 | refine below_set ?_ GE252.out) | exact HB.out)⟩⟩
     ·rw [if_neg c9] at H
      cases H
    ·rw [if_neg c8] at H
     cases H
   ·rw [if_neg c7] at H
    have c7b0 : decide (x14_1 < (t248.length : Int)) = false := decide_eq_false c7
    clear c7
    obtain rfl := Option.some.inj H
    go_wp2
    go_ret
    exact ⟨_, RE, KS HO_3, BB⟩

end Go.Proofs.Ythkdkgbcokpbaab.PFnTrianglesAreCut
