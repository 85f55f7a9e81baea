-- Written by a program of this session (wip/tools/pp.sh) out of the translation; Lean checks it.
import Derived.Test.YtgpplbaloajgdacPFnExactSquareWalkx0
import Derived.Test.YtgpplbaloajgdacPFnExactSquareWalkx1
import Derived.Test.YtgpplbaloajgdacPFnExactSquareWalkx2
import Derived.Test.YtgpplbaloajgdacPFnExactSquareWalkx3
namespace Go.Proofs.Ytgpplbaloajgdac.PFnExactSquareWalk
open Go.RowKit Go.Proofs.YtgpplbaloajgdacOwn Go.Proofs.YtgpplbaloajgdacW.PrintWords Go.Proofs.YtgpplbaloajgdacW.PrintLast Go.Proofs.YtgpplbaloajgdacW.PrintMore
attribute [local go_sem] max2_int min2_int max_two min_two max_three min_three max_four min_four   -- for this text's walks alone
set_option linter.unusedVariables false
set_option linter.unusedSimpArgs false

/-! ### spec_opWalk: function 23 -/
mutual
def spec_opWalk.l0 : Nat → List Int → List Int → List (List Int) → Int → List Int → Option (List Int × List Int)
  | 0, _, _, _, _, _ => none
  | k + 1, x1, x2, x8, x9, x10 => if x9 ≥ 0 then (if x10.length < 17592186044416 then (if 0 ≤ x9 then (if x9 < (x8.length : Int) then (spec_opWalk.l1 k x1 x2 x8 x9 (x10 ++ [x9]) ([] : List Int) (rd_L1 x8 x9) ((rd_L1 x8 x9).length : Int) 0) else (none)) else (none)) else (none)) else (some (x10, ([] : List Int)))
def spec_opWalk.l1 : Nat → List Int → List Int → List (List Int) → Int → List Int → List Int → List Int → Int → Int → Option (List Int × List Int)
  | 0, _, _, _, _, _, _, _, _, _ => none
  | k + 1, x1, x2, x8, x9, x10, x11, x30, x31, x32 => if x32 < x31 then (if 0 ≤ x32 then (if x32 < (x30.length : Int) then (if 0 ≤ x9 then (if x9 < (x8.length : Int) then (if 0 ≤ (wrap64 (x32 + 1)) then (if (wrap64 (x32 + 1)) ≤ ((rd_L1 x8 x9).length : Int) then ((some ((rd_L1 x8 x9).drop ((wrap64 (x32 + 1)) : Int).toNat : List Int)).bind fun y182 => (spec_opWalk.l2 k x1 x2 x8 x9 x10 x11 (rd x30 x32) x30 x31 x32 y182 (y182.length : Int) 0)) else (none)) else (none)) else (none)) else (none)) else (none)) else (none)) else ((spec_doNext.f k x8 x11 x9).bind fun t179 => (spec_opWalk.l0 k x1 x11 x8 t179 x10))
def spec_opWalk.l2 : Nat → List Int → List Int → List (List Int) → Int → List Int → List Int → Int → List Int → Int → Int → List Int → Int → Int → Option (List Int × List Int)
  | 0, _, _, _, _, _, _, _, _, _, _, _, _, _ => none
  | k + 1, x1, x2, x8, x9, x10, x11, x13, x30, x31, x32, x43, x44, x45 => if x45 < x44 then (if 0 ≤ x45 then (if x45 < (x43.length : Int) then (if 0 ≤ x13 then (if x13 < (x1.length : Int) then (if 0 ≤ (rd x43 x45) then (if (rd x43 x45) < (x1.length : Int) then (if (wrap64 ((rd x1 x13) + (rd x1 (rd x43 x45)))) = 0 then (some (x10, (([x13, rd x43 x45] : List Int)))) else ((spec_opDoor.f x1 x13 (rd x43 x45)).bind fun t193 => (if t193 = true then ((spec_l1Same.f k (([x13, rd x43 x45] : List Int)) x2).bind fun t197 => (if t197 = true then (spec_opWalk.l2 k x1 x2 x8 x9 x10 x11 x13 x30 x31 x32 x43 x44 (wrap64 (x45 + 1))) else (spec_opWalk.l2 k x1 x2 x8 x9 x10 (([x13, rd x43 x45] : List Int)) x13 x30 x31 x32 x43 x44 (wrap64 (x45 + 1))))) else (spec_opWalk.l2 k x1 x2 x8 x9 x10 x11 x13 x30 x31 x32 x43 x44 (wrap64 (x45 + 1)))))) else (none)) else (none)) else (none)) else (none)) else (none)) else (none)) else (spec_opWalk.l1 k x1 x2 x8 x9 x10 x11 x30 x31 (wrap64 (x32 + 1)))
end
def spec_opWalk.f (k : Nat) (a0 : Int) (l1 : List Int) (l2 : List Int) : Option (List Int × List Int) := (spec_opCells.f k a0).bind fun t171 => ((spec_doNext.f k t171 l2 (-1)).bind fun t174 => (spec_opWalk.l0 k l1 l2 t171 t174 ([] : List Int)))
theorem spec_opWalk.mono_l : ∀ k, (∀ y0 y1 y2 y3 y4, LeO (spec_opWalk.l0 k y0 y1 y2 y3 y4) (spec_opWalk.l0 (k + 1) y0 y1 y2 y3 y4)) ∧ (∀ y0 y1 y2 y3 y4 y5 y6 y7 y8, LeO (spec_opWalk.l1 k y0 y1 y2 y3 y4 y5 y6 y7 y8) (spec_opWalk.l1 (k + 1) y0 y1 y2 y3 y4 y5 y6 y7 y8)) ∧ (∀ y0 y1 y2 y3 y4 y5 y6 y7 y8 y9 y10 y11 y12, LeO (spec_opWalk.l2 k y0 y1 y2 y3 y4 y5 y6 y7 y8 y9 y10 y11 y12) (spec_opWalk.l2 (k + 1) y0 y1 y2 y3 y4 y5 y6 y7 y8 y9 y10 y11 y12))
  | 0 => ⟨fun _ _ _ _ _ r h => by simp [spec_opWalk.l0] at h, fun _ _ _ _ _ _ _ _ _ r h => by simp [spec_opWalk.l1] at h, fun _ _ _ _ _ _ _ _ _ _ _ _ _ r h => by simp [spec_opWalk.l2] at h⟩
  | k + 1 => by
    obtain ⟨ih0, ih1, ih2⟩ := spec_opWalk.mono_l k
    refine ⟨?_, ?_, ?_⟩
    · intro y0 y1 y2 y3 y4
      unfold spec_opWalk.l0
      repeat' first
      | (with_reducible exact ih0 _ _ _ _ _)
      | (with_reducible exact ih1 _ _ _ _ _ _ _ _ _)
      | (with_reducible exact ih2 _ _ _ _ _ _ _ _ _ _ _ _ _)
      | (with_reducible exact spec_doNext.mono _ _ _ _)
      | (with_reducible exact spec_l1Same.mono _ _ _)
      | (with_reducible exact spec_opCells.mono _ _)
      | (with_reducible exact LeO.refl _)
      | (with_reducible exact LeO.none _)
      | (with_reducible refine LeO.ite ?_ ?_)
      | (with_reducible refine LeO.bind ?_ (fun _ => ?_))
      | exact ih0 _ _ _ _ _
      | exact ih1 _ _ _ _ _ _ _ _ _
      | exact ih2 _ _ _ _ _ _ _ _ _ _ _ _ _
      | exact spec_doNext.mono _ _ _ _
      | exact spec_l1Same.mono _ _ _
      | exact spec_opCells.mono _ _
      | exact LeO.none _
      | refine LeO.ite ?_ ?_
      | refine LeO.bind ?_ (fun _ => ?_)
    · intro y0 y1 y2 y3 y4 y5 y6 y7 y8
      unfold spec_opWalk.l1
      repeat' first
      | (with_reducible exact ih0 _ _ _ _ _)
      | (with_reducible exact ih1 _ _ _ _ _ _ _ _ _)
      | (with_reducible exact ih2 _ _ _ _ _ _ _ _ _ _ _ _ _)
      | (with_reducible exact spec_doNext.mono _ _ _ _)
      | (with_reducible exact spec_l1Same.mono _ _ _)
      | (with_reducible exact spec_opCells.mono _ _)
      | (with_reducible exact LeO.refl _)
      | (with_reducible exact LeO.none _)
      | (with_reducible refine LeO.ite ?_ ?_)
      | (with_reducible refine LeO.bind ?_ (fun _ => ?_))
      | exact ih0 _ _ _ _ _
      | exact ih1 _ _ _ _ _ _ _ _ _
      | exact ih2 _ _ _ _ _ _ _ _ _ _ _ _ _
      | exact spec_doNext.mono _ _ _ _
      | exact spec_l1Same.mono _ _ _
      | exact spec_opCells.mono _ _
      | exact LeO.none _
      | refine LeO.ite ?_ ?_
      | refine LeO.bind ?_ (fun _ => ?_)
    · intro y0 y1 y2 y3 y4 y5 y6 y7 y8 y9 y10 y11 y12
      unfold spec_opWalk.l2
      repeat' first
      | (with_reducible exact ih0 _ _ _ _ _)
      | (with_reducible exact ih1 _ _ _ _ _ _ _ _ _)
      | (with_reducible exact ih2 _ _ _ _ _ _ _ _ _ _ _ _ _)
      | (with_reducible exact spec_doNext.mono _ _ _ _)
      | (with_reducible exact spec_l1Same.mono _ _ _)
      | (with_reducible exact spec_opCells.mono _ _)
      | (with_reducible exact LeO.refl _)
      | (with_reducible exact LeO.none _)
      | (with_reducible refine LeO.ite ?_ ?_)
      | (with_reducible refine LeO.bind ?_ (fun _ => ?_))
      | exact ih0 _ _ _ _ _
      | exact ih1 _ _ _ _ _ _ _ _ _
      | exact ih2 _ _ _ _ _ _ _ _ _ _ _ _ _
      | exact spec_doNext.mono _ _ _ _
      | exact spec_l1Same.mono _ _ _
      | exact spec_opCells.mono _ _
      | exact LeO.none _
      | refine LeO.ite ?_ ?_
      | refine LeO.bind ?_ (fun _ => ?_)
theorem spec_opWalk.mono : ∀ a0 a1 a2 k, LeO (spec_opWalk.f k a0 a1 a2) (spec_opWalk.f (k + 1) a0 a1 a2) := by
  intro a0 a1 a2 k
  obtain ⟨ih0, ih1, ih2⟩ := spec_opWalk.mono_l k
  unfold spec_opWalk.f
  repeat' first
      | (with_reducible exact ih0 _ _ _ _ _)
      | (with_reducible exact ih1 _ _ _ _ _ _ _ _ _)
      | (with_reducible exact ih2 _ _ _ _ _ _ _ _ _ _ _ _ _)
      | (with_reducible exact spec_doNext.mono _ _ _ _)
      | (with_reducible exact spec_l1Same.mono _ _ _)
      | (with_reducible exact spec_opCells.mono _ _)
      | (with_reducible exact LeO.refl _)
      | (with_reducible exact LeO.none _)
      | (with_reducible refine LeO.ite ?_ ?_)
      | (with_reducible refine LeO.bind ?_ (fun _ => ?_))
      | exact ih0 _ _ _ _ _
      | exact ih1 _ _ _ _ _ _ _ _ _
      | exact ih2 _ _ _ _ _ _ _ _ _ _ _ _ _
      | exact spec_doNext.mono _ _ _ _
      | exact spec_l1Same.mono _ _ _
      | exact spec_opCells.mono _ _
      | exact LeO.none _
      | refine LeO.ite ?_ ?_
      | refine LeO.bind ?_ (fun _ => ?_)
set_option maxHeartbeats 8000000 in
set_option maxRecDepth 100000 in
theorem spec_opWalk.calls (k : Nat) (a0 : Int) (A1 : Option Addr) (c1 : Nat) (l1 : List Int) (P2_ : Nat → Prop) (A2 : Option Addr) (c2 : Nat) (l2 : List Int) (r1 : List Int) (r2 : List Int) (w : World) (hr1 : Kd.C (Kd.int .i64) w A1 l1.length l1) (hc1 : l1.length ≤ c1) (hs2 : Kd.V (Kd.int .i64) 3 w w.heap.size (fun k_ => P2_ k_) (.slice A2 l2.length c2) l2) (h : spec_opWalk.f k a0 l1 l2 = some (r1, r2)) :
    Calls Try.prog 23 #[.int .i64 a0, .slice A1 l1.length c1, .slice A2 l2.length c2] w fun e w' => ∃ v0_ v1_ : Value, e = .returned (.tuple #[v0_, v1_]) ∧ Kd.R (Kd.int .i64) 3 w' w.heap.size (fun k_ => (w.heap.size ≤ k_) ∧ some k_ ≠ (v1_ : Value).ownBlock) v0_ r1 ∧ Kd.R (Kd.int .i64) 3 w' w.heap.size (fun k_ => (w.heap.size ≤ k_) ∧ some k_ ≠ (v0_ : Value).ownBlock) v1_ r2 ∧ Below w.heap.size w w' := by
  have HR1 := Aside0.mk hr1
  have HC1 := Aside0.mk hc1
  clear hr1 hc1
  have HO2 := Aside0.mk (show Kd.V (Kd.int .i64) 3 w w.heap.size (fun k_ => (P2_ k_ ∨ w.heap.size ≤ k_)) (.slice A2 l2.length c2) l2 from Kd.V_mono hs2 (fun k_ hk => .inl hk))
  have HB := Aside0.mk (Below.refl w.heap.size w)
  have H : ((spec_opCells.f k a0).bind fun t171 => ((spec_doNext.f k t171 l2 (-1)).bind fun t174 => (spec_opWalk.l0 k l1 l2 t171 t174 ([] : List Int)))) = some (r1, r2) := h
  clear h
  replace H := Option.bind_eq_some_iff.mp H
  obtain ⟨t171, A40, H⟩ := H
  replace H : ((spec_doNext.f k t171 l2 (-1)).bind fun t174 => (spec_opWalk.l0 k l1 l2 t171 t174 ([] : List Int))) = some (r1, r2) := H
  have A4 := Aside0.mk A40
  clear A40
  replace H := Option.bind_eq_some_iff.mp H
  obtain ⟨t174, A50, H⟩ := H
  replace H : (spec_opWalk.l0 k l1 l2 t171 t174 ([] : List Int)) = some (r1, r2) := H
  have A5 := Aside0.mk A50
  clear A50
  have H' := Aside0.mk H
  clear H
  go_enter Try.func23, Try.ntmps23
  go_wp2_with (first | (go_at_call 48; (with_reducible refine (spec_opCells.calls k a0 t171 _ A4.out).mono ?_); rintro e w6 ⟨v172, rfl, ho0, hb⟩; have n0_ := Aside0.mk (Kd.V_elder' (by (with_reducible repeat (first | apply Kd.V_alloc | apply Kd.V_drewN | apply Kd.V_drew)); exact HO2.out) (Kd.N_base ho0) hb); have n1_ := Aside0.mk (Kd.N_lower (Kd.N_mono (ok' := fun k_ => (P2_ k_ ∨ w.heap.size ≤ k_)) ho0 (fun k_ hk_ => (.inr (Nat.le_trans (below_size BB) hk_)))) (below_size BB)); have n2_ := Aside0.mk (below_step BB hb); clear HO2; clear HB; have HO2 := n0_; have HO173 := n1_; have HB := n2_; clear n0_ n1_ n2_; (try clear hb); (try clear hb2); (try clear hk); (try clear hi); (try clear ho0); obtain ⟨Ao7, co7, eo7⟩ := Kd.N_slice HO173.out; subst eo7) | (go_at_call 49; (with_reducible refine (spec_doNext.calls k _ _ t171 _ _ l2 (-1) t174 _ ?side1 ?side2 ?side3 ?side4 A5.out).mono ?_); (case side1 => repeat (first | exact (Kd.N_reads' HO173.out).2.2 | (with_reducible refine Kd.C_drewN ?_ _) | (with_reducible refine Kd.C_drew ?_) | (with_reducible refine Kd.C_alloc ?_ _))); (case side2 => exact (Kd.N_reads' HO173.out).2.1); (case side3 => repeat (first | exact (Kd.V_reads' HO2.out).2.2 | (with_reducible refine Kd.C_drewN ?_ _) | (with_reducible refine Kd.C_drew ?_) | (with_reducible refine Kd.C_alloc ?_ _))); (case side4 => exact (Kd.V_reads' HO2.out).2.1); rintro e w8 ⟨rfl, hb⟩; have n0_ := Aside0.mk (Kd.V_below (by (with_reducible repeat (first | apply Kd.V_alloc | apply Kd.V_drewN | apply Kd.V_drew)); exact HO2.out) hb); have n1_ := Aside0.mk (Kd.N_below (KN HO173) hb); have n2_ := Aside0.mk (below_step BB hb); clear HO2; clear HO173; clear HB; have HO2 := n0_; have HO173 := n1_; have HB := n2_; clear n0_ n1_ n2_; (try clear hb); (try clear hb2); (try clear hk); (try clear hi)))
  repeat (go_quiet (first | (go_at_call 48; (with_reducible refine (spec_opCells.calls k a0 t171 _ A4.out).mono ?_); rintro e w6 ⟨v172, rfl, ho0, hb⟩; have n0_ := Aside0.mk (Kd.V_elder' (by (with_reducible repeat (first | apply Kd.V_alloc | apply Kd.V_drewN | apply Kd.V_drew)); exact HO2.out) (Kd.N_base ho0) hb); have n1_ := Aside0.mk (Kd.N_lower (Kd.N_mono (ok' := fun k_ => (P2_ k_ ∨ w.heap.size ≤ k_)) ho0 (fun k_ hk_ => (.inr (Nat.le_trans (below_size BB) hk_)))) (below_size BB)); have n2_ := Aside0.mk (below_step BB hb); clear HO2; clear HB; have HO2 := n0_; have HO173 := n1_; have HB := n2_; clear n0_ n1_ n2_; (try clear hb); (try clear hb2); (try clear hk); (try clear hi); (try clear ho0); obtain ⟨Ao7, co7, eo7⟩ := Kd.N_slice HO173.out; subst eo7) | (go_at_call 49; (with_reducible refine (spec_doNext.calls k _ _ t171 _ _ l2 (-1) t174 _ ?side1 ?side2 ?side3 ?side4 A5.out).mono ?_); (case side1 => repeat (first | exact (Kd.N_reads' HO173.out).2.2 | (with_reducible refine Kd.C_drewN ?_ _) | (with_reducible refine Kd.C_drew ?_) | (with_reducible refine Kd.C_alloc ?_ _))); (case side2 => exact (Kd.N_reads' HO173.out).2.1); (case side3 => repeat (first | exact (Kd.V_reads' HO2.out).2.2 | (with_reducible refine Kd.C_drewN ?_ _) | (with_reducible refine Kd.C_drew ?_) | (with_reducible refine Kd.C_alloc ?_ _))); (case side4 => exact (Kd.V_reads' HO2.out).2.1); rintro e w8 ⟨rfl, hb⟩; have n0_ := Aside0.mk (Kd.V_below (by (with_reducible repeat (first | apply Kd.V_alloc | apply Kd.V_drewN | apply Kd.V_drew)); exact HO2.out) hb); have n1_ := Aside0.mk (Kd.N_below (KN HO173) hb); have n2_ := Aside0.mk (below_step BB hb); clear HO2; clear HO173; clear HB; have HO2 := n0_; have HO173 := n1_; have HB := n2_; clear n0_ n1_ n2_; (try clear hb); (try clear hb2); (try clear hk); (try clear hi))); try go_wp2_with (first | (go_at_call 48; (with_reducible refine (spec_opCells.calls k a0 t171 _ A4.out).mono ?_); rintro e w6 ⟨v172, rfl, ho0, hb⟩; have n0_ := Aside0.mk (Kd.V_elder' (by (with_reducible repeat (first | apply Kd.V_alloc | apply Kd.V_drewN | apply Kd.V_drew)); exact HO2.out) (Kd.N_base ho0) hb); have n1_ := Aside0.mk (Kd.N_lower (Kd.N_mono (ok' := fun k_ => (P2_ k_ ∨ w.heap.size ≤ k_)) ho0 (fun k_ hk_ => (.inr (Nat.le_trans (below_size BB) hk_)))) (below_size BB)); have n2_ := Aside0.mk (below_step BB hb); clear HO2; clear HB; have HO2 := n0_; have HO173 := n1_; have HB := n2_; clear n0_ n1_ n2_; (try clear hb); (try clear hb2); (try clear hk); (try clear hi); (try clear ho0); obtain ⟨Ao7, co7, eo7⟩ := Kd.N_slice HO173.out; subst eo7) | (go_at_call 49; (with_reducible refine (spec_doNext.calls k _ _ t171 _ _ l2 (-1) t174 _ ?side1 ?side2 ?side3 ?side4 A5.out).mono ?_); (case side1 => repeat (first | exact (Kd.N_reads' HO173.out).2.2 | (with_reducible refine Kd.C_drewN ?_ _) | (with_reducible refine Kd.C_drew ?_) | (with_reducible refine Kd.C_alloc ?_ _))); (case side2 => exact (Kd.N_reads' HO173.out).2.1); (case side3 => repeat (first | exact (Kd.V_reads' HO2.out).2.2 | (with_reducible refine Kd.C_drewN ?_ _) | (with_reducible refine Kd.C_drew ?_) | (with_reducible refine Kd.C_alloc ?_ _))); (case side4 => exact (Kd.V_reads' HO2.out).2.1); rintro e w8 ⟨rfl, hb⟩; have n0_ := Aside0.mk (Kd.V_below (by (with_reducible repeat (first | apply Kd.V_alloc | apply Kd.V_drewN | apply Kd.V_drew)); exact HO2.out) hb); have n1_ := Aside0.mk (Kd.N_below (KN HO173) hb); have n2_ := Aside0.mk (below_step BB hb); clear HO2; clear HO173; clear HB; have HO2 := n0_; have HO173 := n1_; have HB := n2_; clear n0_ n1_ n2_; (try clear hb); (try clear hb2); (try clear hk); (try clear hi))))
  go_loopg [2, 9, 10] k (fun kq v2 v9 v10 w' => ∃ (x2_1 : List Int) (x9_1 : Int) (x10_1 : List Int), v9 = .int .i64 x9_1 ∧ Aside0 (spec_opWalk.l0 kq l1 x2_1 t171 x9_1 x10_1 = some (r1, r2)) ∧ Aside0 (kq ≤ k) ∧ Aside0 (Kd.V (Kd.int .i64) 3 w' w.heap.size (fun k_ => (P2_ k_ ∨ w.heap.size ≤ k_) ∧ some k_ ≠ ((.slice Ao7 t171.length co7) : Value).ownBlock ∧ some k_ ≠ (v10 : Value).ownBlock) v2 x2_1) ∧ Aside0 (Kd.N (Kd.slice 3 (Kd.int .i64)) 22 w' w.heap.size (fun k_ => (P2_ k_ ∨ w.heap.size ≤ k_) ∧ some k_ ≠ (v10 : Value).ownBlock) (.slice Ao7 t171.length co7) t171) ∧ Aside0 (Kd.R (Kd.int .i64) 3 w' w.heap.size (fun k_ => (w.heap.size ≤ k_)) v10 x10_1) ∧ Aside0 (Below w.heap.size w w'))
  case atStart => exact ⟨(l2), (t174), (([] : List Int)), RF, H', ⟨Nat.le_refl _⟩, ⟨by (with_reducible repeat (first | apply Kd.V_alloc | apply Kd.V_drewN | apply Kd.V_drew)); exact Kd.V_mono HO2.out (fun _ hk => ⟨hk.1, ⟨hk.2, (by simp [Value.ownBlock])⟩⟩)⟩, ⟨by (with_reducible repeat (first | apply Kd.N_alloc | apply Kd.N_drewN | apply Kd.N_drew)); exact Kd.N_mono HO173.out (fun _ hk => ⟨hk, (by simp [Value.ownBlock])⟩)⟩, ⟨by first | exact Kd.R_nil _ _ _ _ _ | exact Kd.N_nil _ _ _ _ _ | exact Kd.V_nil _ _ _ _ _ | exact Kd.Q_nil _ _ _ _ _ | exact Kd.S_nil _ _ _ _ _⟩, ⟨BB⟩⟩
  case round =>
    clear H'
    try clear c1
    try clear c2
    try clear p2
    try clear p6
    obtain ⟨x2_1, x9_1, x10_1, rfl, HA, HK1, HO_2, HO_8, HO_10, HB⟩ := hrel
    cases gk with
    | zero => exact absurd HA.out (by simp [spec_opWalk.l0])
    | succ k1 =>
      have H := HA.out
      clear HA
      simp only [spec_opWalk.l0] at H
      by_cases c9 : x9_1 ≥ 0
      · rw [if_pos c9] at H
        have c9b0 : decide (0 ≤ x9_1) = true := decide_eq_true c9
        clear c9
        by_cases c10 : x10_1.length < 17592186044416
        · rw [if_pos c10] at H
          have LMc10 := Aside0.mk c10
          clear c10
          obtain ⟨y175, hy175⟩ : ∃ y_ : List Int, y_ = (x10_1 ++ [x9_1]) := ⟨_, rfl⟩
          replace H : (if 0 ≤ x9_1 then (if x9_1 < (t171.length : Int) then (spec_opWalk.l1 k1 l1 x2_1 t171 x9_1 y175 ([] : List Int) (rd_L1 t171 x9_1) ((rd_L1 t171 x9_1).length : Int) 0) else (none)) else (none)) = some (r1, r2) := by first | (rw [hy175]; with_reducible exact H) | (have H2_ := (Option.bind_some _ _).symm.trans H; rw [hy175]; with_reducible exact H2_) | (have H2_ := (Option.bind_some _ _).symm.trans H; with_reducible exact H2_) | with_reducible exact H | (rw [hy175]; exact H) | exact H
          have Ny175 := Aside0.mk hy175
          clear hy175
          by_cases c11 : 0 ≤ x9_1
          · rw [if_pos c11] at H
            have c11b0 : decide (0 ≤ x9_1) = true := decide_eq_true c11
            clear c11
            by_cases c12 : x9_1 < (t171.length : Int)
            · rw [if_pos c12] at H
              have c12b0 : decide (x9_1 < (t171.length : Int)) = true := decide_eq_true c12
              clear c12
              have H' := Aside0.mk H
              clear H
              go_wp2_with (first | ((with_reducible refine gate_builtin (b := .append) (xs := #[.tmp 23, .tmp 25]) rfl ?_); (try (refine gate_guard (by rfl) ?_; dsimp only)); at_builtin; refine Kd.R_append (Kd.int .i64) (w0 := w) w.heap.size rfl (.tmp 23) (.tmp 25) 22 3 (.int .i64 0) 8 rfl Try.underlying22 info3 rfl (by decide) (by omega) u10 x10_1 x9_1 [.int .i64 x9_1] (fun k_ => (w.heap.size ≤ k_)) (fun _ => False) rfl rfl ?aP (fun _ hk => hk.elim) ?aF ?aO ?aB ?aS ?aL ?_; (case aP => exact rfl); (case aB => exact BB); (case aF => exact (fun k_ hk => (Nat.le_trans (below_size BB) hk))); (case aO => exact (KR HO_10)); (case aS => exact (below_size BB)); (case aL => have := LMc10.out; omega); intro v176 w13 ho hb hg hat; rw [← Ny175.out] at ho; have n0_ := Aside0.mk (Kd.V_afterv (ok := (fun k_ => (P2_ k_ ∨ w.heap.size ≤ k_) ∧ some k_ ≠ (.slice Ao7 t171.length co7 : Value).ownBlock)) (by (with_reducible repeat (first | apply Kd.V_alloc | apply Kd.V_drewN | apply Kd.V_drew)); exact Kd.V_mono HO_2.out (fun _ hk => ⟨⟨hk.1, hk.2.1⟩, hk.2.2⟩)) hg hat); have n1_ := Aside0.mk (Kd.N_afterv (ok := (fun k_ => (P2_ k_ ∨ w.heap.size ≤ k_))) (KN HO_8) hg hat); have n2_ := Aside0.mk (hb); have n3_ := Aside0.mk (ho); clear HO_2; clear HO_8; clear HB; clear HO_10; have HO_2 := n0_; have HO_8 := n1_; have HB := n2_; have HO177 := n3_; clear n0_ n1_ n2_ n3_; clear ho hb hg hat; have p178 : 0 ≤ (x9_1 : Int) := of_decide_eq_true AS; have q178 : x9_1 < (t171.length : Int) := of_decide_eq_true AS; obtain ⟨ad178, A178_0, c178_0, e178, hx178_0, hl178_0, hi178_0⟩ := at_L1 (Kd.N_reads' HO_8.out).2.2 x9_1 p178 q178; cases e178; obtain ⟨ce178, hce178, hMe178, hcc178⟩ := Kd.N_get HO_8.out [] x9_1 p178 (by first | exact q178 | exact of_decide_eq_true AS | (have e_ := (Kd.N_reads' HO_8.out).1; omega)); obtain ⟨ua178_0, uc178_0, rfl, ul178_0, ge178_0⟩ := Kd.FK_slice_open hMe178; have hv178_0 := hcc178 0 _ rfl; rw [Nat.add_zero, show ((Kd.slice 3 (Kd.int .i64))).sz = 1 from rfl, Nat.mul_one] at hv178_0; replace hv178_0 := Option.some.inj (hv178_0.symm.trans hx178_0); injection hv178_0 with hva_ hvn_ hvc_; rw [hva_] at ge178_0; rw [hvc_] at ul178_0; have HL178_0 := Aside0.mk (show Kd.V (Kd.int .i64) 3 _ w.heap.size _ _ (rd_L1 t171 x9_1) from Kd.V_mk ul178_0 ge178_0); clear hva_ hvn_ hvc_ ge178_0 ul178_0; clear hcc178 hce178; have HR178_0 := Aside0.mk hi178_0; have HC178_0 := Aside0.mk hl178_0; clear hi178_0 hl178_0; replace p178 := eq_true p178; replace q178 := eq_true q178))
              repeat (go_quiet (first | ((with_reducible refine gate_builtin (b := .append) (xs := #[.tmp 23, .tmp 25]) rfl ?_); (try (refine gate_guard (by rfl) ?_; dsimp only)); at_builtin; refine Kd.R_append (Kd.int .i64) (w0 := w) w.heap.size rfl (.tmp 23) (.tmp 25) 22 3 (.int .i64 0) 8 rfl Try.underlying22 info3 rfl (by decide) (by omega) u10 x10_1 x9_1 [.int .i64 x9_1] (fun k_ => (w.heap.size ≤ k_)) (fun _ => False) rfl rfl ?aP (fun _ hk => hk.elim) ?aF ?aO ?aB ?aS ?aL ?_; (case aP => exact rfl); (case aB => exact BB); (case aF => exact (fun k_ hk => (Nat.le_trans (below_size BB) hk))); (case aO => exact (KR HO_10)); (case aS => exact (below_size BB)); (case aL => have := LMc10.out; omega); intro v176 w13 ho hb hg hat; rw [← Ny175.out] at ho; have n0_ := Aside0.mk (Kd.V_afterv (ok := (fun k_ => (P2_ k_ ∨ w.heap.size ≤ k_) ∧ some k_ ≠ (.slice Ao7 t171.length co7 : Value).ownBlock)) (by (with_reducible repeat (first | apply Kd.V_alloc | apply Kd.V_drewN | apply Kd.V_drew)); exact Kd.V_mono HO_2.out (fun _ hk => ⟨⟨hk.1, hk.2.1⟩, hk.2.2⟩)) hg hat); have n1_ := Aside0.mk (Kd.N_afterv (ok := (fun k_ => (P2_ k_ ∨ w.heap.size ≤ k_))) (KN HO_8) hg hat); have n2_ := Aside0.mk (hb); have n3_ := Aside0.mk (ho); clear HO_2; clear HO_8; clear HB; clear HO_10; have HO_2 := n0_; have HO_8 := n1_; have HB := n2_; have HO177 := n3_; clear n0_ n1_ n2_ n3_; clear ho hb hg hat; have p178 : 0 ≤ (x9_1 : Int) := of_decide_eq_true AS; have q178 : x9_1 < (t171.length : Int) := of_decide_eq_true AS; obtain ⟨ad178, A178_0, c178_0, e178, hx178_0, hl178_0, hi178_0⟩ := at_L1 (Kd.N_reads' HO_8.out).2.2 x9_1 p178 q178; cases e178; obtain ⟨ce178, hce178, hMe178, hcc178⟩ := Kd.N_get HO_8.out [] x9_1 p178 (by first | exact q178 | exact of_decide_eq_true AS | (have e_ := (Kd.N_reads' HO_8.out).1; omega)); obtain ⟨ua178_0, uc178_0, rfl, ul178_0, ge178_0⟩ := Kd.FK_slice_open hMe178; have hv178_0 := hcc178 0 _ rfl; rw [Nat.add_zero, show ((Kd.slice 3 (Kd.int .i64))).sz = 1 from rfl, Nat.mul_one] at hv178_0; replace hv178_0 := Option.some.inj (hv178_0.symm.trans hx178_0); injection hv178_0 with hva_ hvn_ hvc_; rw [hva_] at ge178_0; rw [hvc_] at ul178_0; have HL178_0 := Aside0.mk (show Kd.V (Kd.int .i64) 3 _ w.heap.size _ _ (rd_L1 t171 x9_1) from Kd.V_mk ul178_0 ge178_0); clear hva_ hvn_ hvc_ ge178_0 ul178_0; clear hcc178 hce178; have HR178_0 := Aside0.mk hi178_0; have HC178_0 := Aside0.mk hl178_0; clear hi178_0 hl178_0; replace p178 := eq_true p178; replace q178 := eq_true q178)); try go_wp2_with (first | ((with_reducible refine gate_builtin (b := .append) (xs := #[.tmp 23, .tmp 25]) rfl ?_); (try (refine gate_guard (by rfl) ?_; dsimp only)); at_builtin; refine Kd.R_append (Kd.int .i64) (w0 := w) w.heap.size rfl (.tmp 23) (.tmp 25) 22 3 (.int .i64 0) 8 rfl Try.underlying22 info3 rfl (by decide) (by omega) u10 x10_1 x9_1 [.int .i64 x9_1] (fun k_ => (w.heap.size ≤ k_)) (fun _ => False) rfl rfl ?aP (fun _ hk => hk.elim) ?aF ?aO ?aB ?aS ?aL ?_; (case aP => exact rfl); (case aB => exact BB); (case aF => exact (fun k_ hk => (Nat.le_trans (below_size BB) hk))); (case aO => exact (KR HO_10)); (case aS => exact (below_size BB)); (case aL => have := LMc10.out; omega); intro v176 w13 ho hb hg hat; rw [← Ny175.out] at ho; have n0_ := Aside0.mk (Kd.V_afterv (ok := (fun k_ => (P2_ k_ ∨ w.heap.size ≤ k_) ∧ some k_ ≠ (.slice Ao7 t171.length co7 : Value).ownBlock)) (by (with_reducible repeat (first | apply Kd.V_alloc | apply Kd.V_drewN | apply Kd.V_drew)); exact Kd.V_mono HO_2.out (fun _ hk => ⟨⟨hk.1, hk.2.1⟩, hk.2.2⟩)) hg hat); have n1_ := Aside0.mk (Kd.N_afterv (ok := (fun k_ => (P2_ k_ ∨ w.heap.size ≤ k_))) (KN HO_8) hg hat); have n2_ := Aside0.mk (hb); have n3_ := Aside0.mk (ho); clear HO_2; clear HO_8; clear HB; clear HO_10; have HO_2 := n0_; have HO_8 := n1_; have HB := n2_; have HO177 := n3_; clear n0_ n1_ n2_ n3_; clear ho hb hg hat; have p178 : 0 ≤ (x9_1 : Int) := of_decide_eq_true AS; have q178 : x9_1 < (t171.length : Int) := of_decide_eq_true AS; obtain ⟨ad178, A178_0, c178_0, e178, hx178_0, hl178_0, hi178_0⟩ := at_L1 (Kd.N_reads' HO_8.out).2.2 x9_1 p178 q178; cases e178; obtain ⟨ce178, hce178, hMe178, hcc178⟩ := Kd.N_get HO_8.out [] x9_1 p178 (by first | exact q178 | exact of_decide_eq_true AS | (have e_ := (Kd.N_reads' HO_8.out).1; omega)); obtain ⟨ua178_0, uc178_0, rfl, ul178_0, ge178_0⟩ := Kd.FK_slice_open hMe178; have hv178_0 := hcc178 0 _ rfl; rw [Nat.add_zero, show ((Kd.slice 3 (Kd.int .i64))).sz = 1 from rfl, Nat.mul_one] at hv178_0; replace hv178_0 := Option.some.inj (hv178_0.symm.trans hx178_0); injection hv178_0 with hva_ hvn_ hvc_; rw [hva_] at ge178_0; rw [hvc_] at ul178_0; have HL178_0 := Aside0.mk (show Kd.V (Kd.int .i64) 3 _ w.heap.size _ _ (rd_L1 t171 x9_1) from Kd.V_mk ul178_0 ge178_0); clear hva_ hvn_ hvc_ ge178_0 ul178_0; clear hcc178 hce178; have HR178_0 := Aside0.mk hi178_0; have HC178_0 := Aside0.mk hl178_0; clear hi178_0 hl178_0; replace p178 := eq_true p178; replace q178 := eq_true q178)))
              go_loopg [11, 32] k1 (fun kq v11 v32 w' => ∃ (x11_2 : List Int) (x32_2 : Int), v32 = .int .i64 x32_2 ∧ Aside0 (spec_opWalk.l1 kq l1 x2_1 t171 x9_1 y175 x11_2 (rd_L1 t171 x9_1) ((rd_L1 t171 x9_1).length : Int) x32_2 = some (r1, r2)) ∧ Aside0 (kq ≤ k1) ∧ Aside0 (Kd.V (Kd.int .i64) 3 w' w.heap.size (fun k_ => (P2_ k_ ∨ w.heap.size ≤ k_) ∧ some k_ ≠ ((.slice (some ad178) t171.length co7) : Value).ownBlock ∧ some k_ ≠ (v176 : Value).ownBlock ∧ some k_ ≠ (v11 : Value).ownBlock) u2 x2_1) ∧ Aside0 (Kd.N (Kd.slice 3 (Kd.int .i64)) 22 w' w.heap.size (fun k_ => (P2_ k_ ∨ w.heap.size ≤ k_) ∧ some k_ ≠ (v176 : Value).ownBlock ∧ some k_ ≠ (v11 : Value).ownBlock) (.slice (some ad178) t171.length co7) t171) ∧ Aside0 (Kd.R (Kd.int .i64) 3 w' w.heap.size (fun k_ => (w.heap.size ≤ k_) ∧ some k_ ≠ (v11 : Value).ownBlock) v176 y175) ∧ Aside0 (Kd.R (Kd.int .i64) 3 w' w.heap.size (fun k_ => (w.heap.size ≤ k_) ∧ some k_ ≠ (v176 : Value).ownBlock) v11 x11_2) ∧ Aside0 (Kd.C (Kd.int .i64) w' A178_0 (rd_L1 t171 x9_1).length (rd_L1 t171 x9_1)) ∧ Aside0 (Below w.heap.size w w'))
              case atStart => exact ⟨(([] : List Int)), (0), RF, H', ⟨Nat.le_refl _⟩, ⟨by (with_reducible repeat (first | apply Kd.V_alloc | apply Kd.V_drewN | apply Kd.V_drew)); exact Kd.V_mono HO_2.out (fun _ hk => ⟨hk.1.1, ⟨hk.1.2, ⟨hk.2, (by simp [Value.ownBlock])⟩⟩⟩)⟩, ⟨by (with_reducible repeat (first | apply Kd.N_alloc | apply Kd.N_drewN | apply Kd.N_drew)); exact Kd.N_mono HO_8.out (fun _ hk => ⟨hk.1, ⟨hk.2, (by simp [Value.ownBlock])⟩⟩)⟩, ⟨by (with_reducible repeat (first | apply Kd.R_alloc | apply Kd.R_drewN | apply Kd.R_drew)); exact Kd.R_mono HO177.out (fun _ hk => ⟨hk, (by simp [Value.ownBlock])⟩)⟩, ⟨by first | exact Kd.R_nil _ _ _ _ _ | exact Kd.N_nil _ _ _ _ _ | exact Kd.V_nil _ _ _ _ _ | exact Kd.Q_nil _ _ _ _ _ | exact Kd.S_nil _ _ _ _ _⟩, ⟨by repeat (first | (with_reducible exact HR178_0.out) | (with_reducible refine Kd.C_drewN ?_ _) | (with_reducible refine Kd.C_drew ?_) | (with_reducible refine Kd.C_alloc ?_ _) | exact HR178_0.out)⟩, ⟨BB⟩⟩
              case round =>
                clear H'
                try clear c1
                try clear p1
                try clear q1
                try clear hx1
                try clear c2
                try clear p2
                try clear p6
                try clear c9
                try clear c9b0
                try clear c10
                try clear c11
                try clear c11b0
                try clear c12
                try clear c12b0
                try clear hx178_0
                try clear p178
                try clear p2
                try clear p6
                try clear q178
                obtain ⟨x11_2, x32_2, rfl, HA, HK2, HO_2, HO_8, HO_10, HO_11, HR178_0, HB⟩ := hrel
                cases gk with
                | zero => exact absurd HA.out (by simp [spec_opWalk.l1])
                | succ k2 =>
                  have H := HA.out
                  clear HA
                  simp only [spec_opWalk.l1] at H
                  by_cases c14 : x32_2 < ((rd_L1 t171 x9_1).length : Int)
                  · rw [if_pos c14] at H
                    have c14b0 : decide (x32_2 < ((rd_L1 t171 x9_1).length : Int)) = true := decide_eq_true c14
                    clear c14
                    by_cases c15 : 0 ≤ x32_2
                    · rw [if_pos c15] at H
                      have c15b0 : decide (0 ≤ x32_2) = true := decide_eq_true c15
                      clear c15
                      by_cases c16 : x32_2 < ((rd_L1 t171 x9_1).length : Int)
                      · rw [if_pos c16] at H
                        have c16b0 : decide (x32_2 < ((rd_L1 t171 x9_1).length : Int)) = true := decide_eq_true c16
                        clear c16
                        by_cases c17 : 0 ≤ x9_1
                        · rw [if_pos c17] at H
                          have c17b0 : decide (0 ≤ x9_1) = true := decide_eq_true c17
                          clear c17
                          by_cases c18 : x9_1 < (t171.length : Int)
                          · rw [if_pos c18] at H
                            have c18b0 : decide (x9_1 < (t171.length : Int)) = true := decide_eq_true c18
                            clear c18
                            obtain ⟨ji19, hji19⟩ : ∃ j_ : Int, (wrap64 (x32_2 + 1)) = j_ := ⟨_, rfl⟩
                            replace H : (if 0 ≤ (ji19) then (if (ji19) ≤ ((rd_L1 t171 x9_1).length : Int) then ((some ((rd_L1 t171 x9_1).drop ((ji19) : Int).toNat : List Int)).bind fun y182 => (spec_opWalk.l2 k2 l1 x2_1 t171 x9_1 y175 x11_2 (rd (rd_L1 t171 x9_1) x32_2) (rd_L1 t171 x9_1) ((rd_L1 t171 x9_1).length : Int) x32_2 y182 (y182.length : Int) 0)) else (none)) else (none)) = some (r1, r2) := by first | (rw [hji19] at H; exact H) | (simp only [hji19] at H ⊢; exact H)
                            have hji19w : (IntKind.i64.wrap (x32_2 + 1)) = ji19 := (i64_w _).trans hji19
                            by_cases c20 : 0 ≤ (ji19)
                            · rw [if_pos c20] at H
                              have c20b0 := eq_true c20
                              have c20b1 : decide (0 ≤ (ji19)) = true := decide_eq_true c20
                              clear c20
                              by_cases c21 : (ji19) ≤ ((rd_L1 t171 x9_1).length : Int)
                              · rw [if_pos c21] at H
                                have c21b0 := eq_true c21
                                have c21b1 : decide ((ji19) ≤ ((rd_L1 t171 x9_1).length : Int)) = true := decide_eq_true c21
                                clear c21
                                obtain ⟨y182, hy182⟩ : ∃ y_ : List Int, y_ = ((rd_L1 t171 x9_1).drop ((ji19) : Int).toNat) := ⟨_, rfl⟩
                                replace H : (spec_opWalk.l2 k2 l1 x2_1 t171 x9_1 y175 x11_2 (rd (rd_L1 t171 x9_1) x32_2) (rd_L1 t171 x9_1) ((rd_L1 t171 x9_1).length : Int) x32_2 y182 (y182.length : Int) 0) = some (r1, r2) := by first | (rw [hy182]; with_reducible exact H) | (have H2_ := (Option.bind_some _ _).symm.trans H; rw [hy182]; with_reducible exact H2_) | (have H2_ := (Option.bind_some _ _).symm.trans H; with_reducible exact H2_) | with_reducible exact H | (rw [hy182]; exact H) | exact H
                                have Ny182 := Aside0.mk hy182
                                clear hy182
                                have H' := Aside0.mk H
                                clear H
                                have p180 : 0 ≤ (x32_2 : Int) := of_decide_eq_true AS
                                have q180 : x32_2 < ((rd_L1 t171 x9_1).length : Int) := of_decide_eq_true AS
                                obtain ⟨ad180, e180, hx180_0⟩ := Kd.at_int HR178_0.out x32_2 p180 q180
                                cases e180
                                try (replace hx180_0 := (HB.out.cell (World.block_lt_of_cell? w _ hx180_0)).trans hx180_0)
                                replace p180 := eq_true p180
                                replace q180 := eq_true q180
                                have p181 : 0 ≤ (x9_1 : Int) := of_decide_eq_true AS
                                have q181 : x9_1 < (t171.length : Int) := of_decide_eq_true AS
                                obtain ⟨ad181, A181_0, c181_0, e181, hx181_0, hl181_0, hi181_0⟩ := at_L1 (Kd.N_reads' HO_8.out).2.2 x9_1 p181 q181
                                obtain rfl : ad178 = ad181 := (by injection e181)
                                obtain ⟨ce181, hce181, hMe181, hcc181⟩ := Kd.N_get HO_8.out [] x9_1 p181 (by first | exact q181 | exact of_decide_eq_true AS | (have e_ := (Kd.N_reads' HO_8.out).1; omega))
                                obtain ⟨ua181_0, uc181_0, rfl, ul181_0, ge181_0⟩ := Kd.FK_slice_open hMe181
                                have hv181_0 := hcc181 0 _ rfl
                                rw [Nat.add_zero, show ((Kd.slice 3 (Kd.int .i64))).sz = 1 from rfl, Nat.mul_one] at hv181_0
                                replace hv181_0 := Option.some.inj (hv181_0.symm.trans hx181_0)
                                injection hv181_0 with hva_ hvn_ hvc_
                                rw [hva_] at ge181_0
                                rw [hvc_] at ul181_0
                                have HL181_0 := Aside0.mk (show Kd.V (Kd.int .i64) 3 _ w.heap.size _ _ (rd_L1 t171 x9_1) from Kd.V_mk ul181_0 ge181_0)
                                clear hva_ hvn_ hvc_ ge181_0 ul181_0
                                clear hcc181 hce181
                                have HR181_0 := Aside0.mk hi181_0
                                have HC181_0 := Aside0.mk hl181_0
                                clear hi181_0 hl181_0
                                replace p181 := eq_true p181
                                replace q181 := eq_true q181
                                have q22 : ((ji19) : Int) ≤ (((rd_L1 t171 x9_1).length : Int) : Int) := of_decide_eq_true AS
                                obtain ⟨i022, hi022, _, hsz22, _⟩ := info_parts info3
                                have hroom22 : (rd_L1 t171 x9_1).length ≤ c181_0 := HC181_0.out
                                have hC22 : Kd.F (Kd.int .i64) _ _ A181_0 (rd_L1 t171 x9_1).length (rd_L1 t171 x9_1) := (Kd.V_at (base := w.heap.size) HL181_0.out).2.2
                                have q022 : (0 : Int) ≤ ((ji19) : Int) := of_decide_eq_true AS
                                have hcut22 := cut_from (P := Try.prog) 22 3 .i64 Try.underlying22 hi022 1 hsz22 A181_0 (rd_L1 t171 x9_1).length c181_0 (ji19) q022 q22
                                have hr22 := Kd.F_cut (m := ((ji19) : Int).toNat) (c := c181_0) hC22 (by omega) hroom22
                                obtain ⟨A22, hA22⟩ : ∃ A1, A1 = (if c181_0 = ((ji19) : Int).toNat then A181_0 else (A181_0 : Option Addr).map (·.add (((ji19) : Int).toNat * 1))) := ⟨_, rfl⟩
                                obtain ⟨c22, hc22⟩ : ∃ c1, c1 = c181_0 - ((ji19) : Int).toNat := ⟨_, rfl⟩
                                have hy22 : y182.length = (rd_L1 t171 x9_1).length - ((ji19) : Int).toNat := (by rw [Ny182.out, List.length_drop] <;> omega)
                                rw [show (rd_L1 t171 x9_1).drop ((ji19) : Int).toNat = y182 from Ny182.out.symm] at hr22
                                replace hr22 : Kd.F (Kd.int .i64) _ _ A22 y182.length y182 := (by rw [hA22]; exact hr22)
                                rw [← hy22, ← hA22, ← hc22] at hcut22
                                have HO186 := Aside0.mk (show Kd.V (Kd.int .i64) 3 _ w.heap.size _ (.slice A22 y182.length c22) y182 from Kd.V_mk (by rw [hy22, hc22]; exact Nat.sub_le_sub_right hroom22 _) hr22)
                                have HC186 := Aside0.mk (show y182.length ≤ c22 from by rw [hy22, hc22]; exact Nat.sub_le_sub_right hroom22 _)
                                clear hr22 hC22 hroom22 hi022 hsz22 hc22
                                have KY22 := Aside0.mk hy22
                                have KA22 := Aside0.mk hA22
                                clear hy22 hA22
                                replace q22 := eq_true q22
                                go_wp2
                                repeat (go_quiet (fail); try go_wp2)
                                go_loopg [11, 45] k2 (fun kq v11 v45 w' => ∃ (x11_3 : List Int) (x45_3 : Int), v45 = .int .i64 x45_3 ∧ Aside0 (spec_opWalk.l2 kq l1 x2_1 t171 x9_1 y175 x11_3 (rd (rd_L1 t171 x9_1) x32_2) (rd_L1 t171 x9_1) ((rd_L1 t171 x9_1).length : Int) x32_2 y182 (y182.length : Int) x45_3 = some (r1, r2)) ∧ Aside0 (kq ≤ k2) ∧ Aside0 (Kd.V (Kd.int .i64) 3 w' w.heap.size (fun k_ => (P2_ k_ ∨ w.heap.size ≤ k_) ∧ some k_ ≠ ((.slice (some ad178) t171.length co7) : Value).ownBlock ∧ some k_ ≠ (v176 : Value).ownBlock ∧ some k_ ≠ (v11 : Value).ownBlock) u2 x2_1) ∧ Aside0 (Kd.N (Kd.slice 3 (Kd.int .i64)) 22 w' w.heap.size (fun k_ => (P2_ k_ ∨ w.heap.size ≤ k_) ∧ some k_ ≠ (v176 : Value).ownBlock ∧ some k_ ≠ (v11 : Value).ownBlock) (.slice (some ad178) t171.length co7) t171) ∧ Aside0 (Kd.R (Kd.int .i64) 3 w' w.heap.size (fun k_ => (w.heap.size ≤ k_) ∧ some k_ ≠ (v11 : Value).ownBlock) v176 y175) ∧ Aside0 (Kd.R (Kd.int .i64) 3 w' w.heap.size (fun k_ => (w.heap.size ≤ k_) ∧ some k_ ≠ (v176 : Value).ownBlock) v11 x11_3) ∧ Aside0 (Kd.V (Kd.int .i64) 3 w' w.heap.size (fun k_ => (P2_ k_ ∨ w.heap.size ≤ k_) ∧ some k_ ≠ ((.slice (some ad178) t171.length co7) : Value).ownBlock ∧ some k_ ≠ (v176 : Value).ownBlock ∧ some k_ ≠ (v11 : Value).ownBlock) (.slice A22 y182.length c22) y182) ∧ Aside0 (Kd.C (Kd.int .i64) w' (some ad180) (rd_L1 t171 x9_1).length (rd_L1 t171 x9_1)) ∧ Aside0 (Kd.C (Kd.int .i64) w' A181_0 (rd_L1 t171 x9_1).length (rd_L1 t171 x9_1)) ∧ Aside0 (Below w.heap.size w w'))
                                case atStart => exact ⟨(x11_2), (0), RF, H', ⟨Nat.le_refl _⟩, ⟨by (with_reducible repeat (first | apply Kd.V_alloc | apply Kd.V_drewN | apply Kd.V_drew)); exact HO_2.out⟩, ⟨KN HO_8⟩, ⟨KR HO_10⟩, ⟨KR HO_11⟩, ⟨by (with_reducible repeat (first | apply Kd.V_alloc | apply Kd.V_drewN | apply Kd.V_drew)); exact Kd.V_mono HO186.out (fun _ hk => ⟨hk.1.1, ⟨hk.2, ⟨hk.1.2.1, hk.1.2.2⟩⟩⟩)⟩, ⟨by repeat (first | (with_reducible exact HR178_0.out) | (with_reducible refine Kd.C_drewN ?_ _) | (with_reducible refine Kd.C_drew ?_) | (with_reducible refine Kd.C_alloc ?_ _) | exact HR178_0.out)⟩, ⟨by repeat (first | (with_reducible exact HR181_0.out) | (with_reducible refine Kd.C_drewN ?_ _) | (with_reducible refine Kd.C_drew ?_) | (with_reducible refine Kd.C_alloc ?_ _) | exact HR181_0.out)⟩, ⟨BB⟩⟩
                                case round =>
                                  clear H'
                                  try clear c1
                                  try clear p1
                                  try clear q1
                                  try clear hx1
                                  try clear c2
                                  try clear p2
                                  try clear q2
                                  try clear p6
                                  try clear c9
                                  try clear c9b0
                                  try clear c10
                                  try clear c11
                                  try clear c11b0
                                  try clear c12
                                  try clear c12b0
                                  try clear c14
                                  try clear c14b0
                                  try clear c15
                                  try clear c15b0
                                  try clear c16
                                  try clear c16b0
                                  try clear c17
                                  try clear c17b0
                                  try clear p17
                                  try clear q17
                                  try clear hx17
                                  try clear c18
                                  try clear c18b0
                                  try clear p18
                                  try clear q18
                                  try clear hx18
                                  try clear c20
                                  try clear c20b0
                                  try clear c20b1
                                  try clear c21
                                  try clear c21b0
                                  try clear c21b1
                                  try clear c22
                                  try clear q22
                                  try clear hx178_0
                                  try clear hx180_0
                                  try clear hx181_0
                                  try clear p1
                                  try clear p178
                                  try clear p180
                                  try clear p181
                                  try clear p2
                                  try clear p6
                                  try clear q022
                                  try clear q1
                                  try clear q178
                                  try clear q180
                                  try clear q181
                                  try clear q22
                                  obtain ⟨x11_3, x45_3, rfl, HA, HK3, HO_2, HO_8, HO_10, HO_11, HO_43, HR178_0, HR181_0, HB⟩ := hrel
                                  cases gk with
                                  | zero => exact absurd HA.out (by simp [spec_opWalk.l2])
                                  | succ k3 =>
                                    have H := HA.out
                                    clear HA
                                    simp only [spec_opWalk.l2] at H
                                    by_cases c23 : x45_3 < (y182.length : Int)
                                    · rw [if_pos c23] at H
                                      have c23b0 : decide (x45_3 < (y182.length : Int)) = true := decide_eq_true c23
                                      clear c23
                                      by_cases c24 : 0 ≤ x45_3
                                      · rw [if_pos c24] at H
                                        have c24b0 : decide (0 ≤ x45_3) = true := decide_eq_true c24
                                        clear c24
                                        by_cases c25 : x45_3 < (y182.length : Int)
                                        · rw [if_pos c25] at H
                                          have c25b0 : decide (x45_3 < (y182.length : Int)) = true := decide_eq_true c25
                                          clear c25
                                          by_cases c26 : 0 ≤ (rd (rd_L1 t171 x9_1) x32_2)
                                          · rw [if_pos c26] at H
                                            have c26b0 : decide (0 ≤ (rd (rd_L1 t171 x9_1) x32_2)) = true := decide_eq_true c26
                                            clear c26
                                            by_cases c27 : (rd (rd_L1 t171 x9_1) x32_2) < (l1.length : Int)
                                            · rw [if_pos c27] at H
                                              have c27b0 : decide ((rd (rd_L1 t171 x9_1) x32_2) < (l1.length : Int)) = true := decide_eq_true c27
                                              clear c27
                                              by_cases c28 : 0 ≤ (rd y182 x45_3)
                                              · rw [if_pos c28] at H
                                                have c28b0 : decide (0 ≤ (rd y182 x45_3)) = true := decide_eq_true c28
                                                clear c28
                                                by_cases c29 : (rd y182 x45_3) < (l1.length : Int)
                                                · rw [if_pos c29] at H
                                                  have c29b0 : decide ((rd y182 x45_3) < (l1.length : Int)) = true := decide_eq_true c29
                                                  clear c29
                                                  by_cases c30 : (wrap64 ((rd l1 (rd (rd_L1 t171 x9_1) x32_2)) + (rd l1 (rd y182 x45_3)))) = 0
                                                  · rw [if_pos c30] at H
                                                    have c30b0 : ((wrap64 ((rd l1 (rd (rd_L1 t171 x9_1) x32_2)) + (rd l1 (rd y182 x45_3)))) == 0) = true := beq_iff_eq.mpr c30
                                                    have c30b1 : ((wrap64 ((rd l1 (rd (rd_L1 t171 x9_1) x32_2)) + (rd l1 (rd y182 x45_3)))) != 0) = false := bne_eq_false_iff_eq.mpr c30
                                                    clear c30
                                                    obtain ⟨y190, hy190⟩ : ∃ y_ : List Int, y_ = (([(rd (rd_L1 t171 x9_1) x32_2), rd y182 x45_3] : List Int)) := ⟨_, rfl⟩
                                                    replace H : (some (y175, y190)) = some (r1, r2) := by first | (rw [hy190]; with_reducible exact H) | (have H2_ := (Option.bind_some _ _).symm.trans H; rw [hy190]; with_reducible exact H2_) | (have H2_ := (Option.bind_some _ _).symm.trans H; with_reducible exact H2_) | with_reducible exact H | (rw [hy190]; exact H) | exact H
                                                    have Ny190 := Aside0.mk hy190
                                                    clear hy190
                                                    simp only [Option.some.injEq, Prod.mk.injEq] at H
                                                    obtain ⟨rfl, rfl⟩ := H
                                                    have p187 : 0 ≤ (x45_3 : Int) := of_decide_eq_true AS
                                                    have q187 : x45_3 < (y182.length : Int) := of_decide_eq_true AS
                                                    obtain ⟨ad187, e187, hx187_0⟩ := Kd.at_int (Kd.V_reads' HO_43.out).2.2 x45_3 p187 q187
                                                    cases e187
                                                    replace p187 := eq_true p187
                                                    replace q187 := eq_true q187
                                                    have p188 : 0 ≤ ((rd (rd_L1 t171 x9_1) x32_2) : Int) := of_decide_eq_true AS
                                                    have q188 : (rd (rd_L1 t171 x9_1) x32_2) < (l1.length : Int) := of_decide_eq_true AS
                                                    obtain ⟨ad188, e188, hx188_0⟩ := Kd.at_int HR1.out (rd (rd_L1 t171 x9_1) x32_2) p188 q188
                                                    cases e188
                                                    try (replace hx188_0 := (HB.out.cell (World.block_lt_of_cell? w _ hx188_0)).trans hx188_0)
                                                    replace p188 := eq_true p188
                                                    replace q188 := eq_true q188
                                                    have p189 : 0 ≤ ((rd y182 x45_3) : Int) := of_decide_eq_true AS
                                                    have q189 : (rd y182 x45_3) < (l1.length : Int) := of_decide_eq_true AS
                                                    obtain ⟨ad189, e189, hx189_0⟩ := Kd.at_int HR1.out (rd y182 x45_3) p189 q189
                                                    obtain rfl : ad188 = ad189 := (by injection e189)
                                                    try (replace hx189_0 := (HB.out.cell (World.block_lt_of_cell? w _ hx189_0)).trans hx189_0)
                                                    replace p189 := eq_true p189
                                                    replace q189 := eq_true q189
                                                    go_wp2_with (first | ((with_reducible refine gate_dst (N := 62) rfl ?_); (try (refine gate_guard (by rfl) ?_; dsimp only)); refine Kd.R_lit (Kd.int .i64) _ 3 ?hg (N := 62) ?hd (xs := ([(rd (rd_L1 t171 x9_1) x32_2), rd y182 x45_3] : List Int)) (inner := [.int .i64 (rd (rd_L1 t171 x9_1) x32_2), .int .i64 (rd y182 x45_3)]) (ok := fun _ => True) (okp := fun _ => True) ?hr ?hp (fun _ hk => hk) trivial (Below.refl _ _) (Nat.le_refl _) (by simp) ?_; (case hd => rfl); (case hg => rfl); (case hr => first | (go_simp; done) | (go_simp; rfl)); (case hp => exact (Reps.one (show Kd.M (Kd.int .i64) _ _ _ (rd (rd_L1 t171 x9_1) x32_2) [.int .i64 (rd (rd_L1 t171 x9_1) x32_2)] from rfl) (Reps.one (show Kd.M (Kd.int .i64) _ _ _ (rd y182 x45_3) [.int .i64 (rd y182 x45_3)] from rfl) (Reps.none _ _)))); intro v191 w31 ho32 hb hg_ hnew_; clear hg_ hnew_; (first | rw [← Ny190.out] at ho32 | (simp only [Int.reduceToNat] at ho32; rw [← Ny190.out] at ho32)); have n0_ := Aside0.mk (Kd.V_elder' (by (with_reducible repeat (first | apply Kd.V_alloc | apply Kd.V_drewN | apply Kd.V_drew)); exact HO_2.out) (Kd.R_base ho32) hb); have n1_ := Aside0.mk (Kd.N_elder' (KN HO_8) (Kd.R_base ho32) hb); have n2_ := Aside0.mk (Kd.R_elder' (KR HO_10) (Kd.R_base ho32) hb); have n3_ := Aside0.mk (Kd.R_elder' (KR HO_11) (Kd.R_base ho32) hb); have n4_ := Aside0.mk (Kd.V_elder' (by (with_reducible repeat (first | apply Kd.V_alloc | apply Kd.V_drewN | apply Kd.V_drew)); exact HO_43.out) (Kd.R_base ho32) hb); have n5_ := Aside0.mk (Kd.R_lower (Kd.R_new' (Kd.R_new' (Kd.R_newM (M := fun k_ => (w.heap.size ≤ k_)) ho32 (below_size BB) (fun k_ h_ => h_)) (Kd.R_lt (KR HO_10))) (Kd.R_lt (KR HO_11))) (below_size BB)); have n6_ := Aside0.mk (Kd.C_below (by repeat (first | (with_reducible exact HR178_0.out) | (with_reducible refine Kd.C_drewN ?_ _) | (with_reducible refine Kd.C_drew ?_) | (with_reducible refine Kd.C_alloc ?_ _) | exact HR178_0.out)) hb); have n7_ := Aside0.mk (Kd.C_below (by repeat (first | (with_reducible exact HR181_0.out) | (with_reducible refine Kd.C_drewN ?_ _) | (with_reducible refine Kd.C_drew ?_) | (with_reducible refine Kd.C_alloc ?_ _) | exact HR181_0.out)) hb); have n8_ := Aside0.mk (below_step BB hb); clear HO_2; clear HO_8; clear HO_10; clear HO_11; clear HO_43; clear HR178_0; clear HR181_0; clear HB; have HO_2 := n0_; have HO_8 := n1_; have HO_10 := n2_; have HO_11 := n3_; have HO_43 := n4_; have HO192 := n5_; have HR178_0 := n6_; have HR181_0 := n7_; have HB := n8_; clear n0_ n1_ n2_ n3_ n4_ n5_ n6_ n7_ n8_; clear hb ho32))
                                                    repeat (go_quiet (first | ((with_reducible refine gate_dst (N := 62) rfl ?_); (try (refine gate_guard (by rfl) ?_; dsimp only)); refine Kd.R_lit (Kd.int .i64) _ 3 ?hg (N := 62) ?hd (xs := ([(rd (rd_L1 t171 x9_1) x32_2), rd y182 x45_3] : List Int)) (inner := [.int .i64 (rd (rd_L1 t171 x9_1) x32_2), .int .i64 (rd y182 x45_3)]) (ok := fun _ => True) (okp := fun _ => True) ?hr ?hp (fun _ hk => hk) trivial (Below.refl _ _) (Nat.le_refl _) (by simp) ?_; (case hd => rfl); (case hg => rfl); (case hr => first | (go_simp; done) | (go_simp; rfl)); (case hp => exact (Reps.one (show Kd.M (Kd.int .i64) _ _ _ (rd (rd_L1 t171 x9_1) x32_2) [.int .i64 (rd (rd_L1 t171 x9_1) x32_2)] from rfl) (Reps.one (show Kd.M (Kd.int .i64) _ _ _ (rd y182 x45_3) [.int .i64 (rd y182 x45_3)] from rfl) (Reps.none _ _)))); intro v191 w31 ho32 hb hg_ hnew_; clear hg_ hnew_; (first | rw [← Ny190.out] at ho32 | (simp only [Int.reduceToNat] at ho32; rw [← Ny190.out] at ho32)); have n0_ := Aside0.mk (Kd.V_elder' (by (with_reducible repeat (first | apply Kd.V_alloc | apply Kd.V_drewN | apply Kd.V_drew)); exact HO_2.out) (Kd.R_base ho32) hb); have n1_ := Aside0.mk (Kd.N_elder' (KN HO_8) (Kd.R_base ho32) hb); have n2_ := Aside0.mk (Kd.R_elder' (KR HO_10) (Kd.R_base ho32) hb); have n3_ := Aside0.mk (Kd.R_elder' (KR HO_11) (Kd.R_base ho32) hb); have n4_ := Aside0.mk (Kd.V_elder' (by (with_reducible repeat (first | apply Kd.V_alloc | apply Kd.V_drewN | apply Kd.V_drew)); exact HO_43.out) (Kd.R_base ho32) hb); have n5_ := Aside0.mk (Kd.R_lower (Kd.R_new' (Kd.R_new' (Kd.R_newM (M := fun k_ => (w.heap.size ≤ k_)) ho32 (below_size BB) (fun k_ h_ => h_)) (Kd.R_lt (KR HO_10))) (Kd.R_lt (KR HO_11))) (below_size BB)); have n6_ := Aside0.mk (Kd.C_below (by repeat (first | (with_reducible exact HR178_0.out) | (with_reducible refine Kd.C_drewN ?_ _) | (with_reducible refine Kd.C_drew ?_) | (with_reducible refine Kd.C_alloc ?_ _) | exact HR178_0.out)) hb); have n7_ := Aside0.mk (Kd.C_below (by repeat (first | (with_reducible exact HR181_0.out) | (with_reducible refine Kd.C_drewN ?_ _) | (with_reducible refine Kd.C_drew ?_) | (with_reducible refine Kd.C_alloc ?_ _) | exact HR181_0.out)) hb); have n8_ := Aside0.mk (below_step BB hb); clear HO_2; clear HO_8; clear HO_10; clear HO_11; clear HO_43; clear HR178_0; clear HR181_0; clear HB; have HO_2 := n0_; have HO_8 := n1_; have HO_10 := n2_; have HO_11 := n3_; have HO_43 := n4_; have HO192 := n5_; have HR178_0 := n6_; have HR181_0 := n7_; have HB := n8_; clear n0_ n1_ n2_ n3_ n4_ n5_ n6_ n7_ n8_; clear hb ho32)); try go_wp2_with (first | ((with_reducible refine gate_dst (N := 62) rfl ?_); (try (refine gate_guard (by rfl) ?_; dsimp only)); refine Kd.R_lit (Kd.int .i64) _ 3 ?hg (N := 62) ?hd (xs := ([(rd (rd_L1 t171 x9_1) x32_2), rd y182 x45_3] : List Int)) (inner := [.int .i64 (rd (rd_L1 t171 x9_1) x32_2), .int .i64 (rd y182 x45_3)]) (ok := fun _ => True) (okp := fun _ => True) ?hr ?hp (fun _ hk => hk) trivial (Below.refl _ _) (Nat.le_refl _) (by simp) ?_; (case hd => rfl); (case hg => rfl); (case hr => first | (go_simp; done) | (go_simp; rfl)); (case hp => exact (Reps.one (show Kd.M (Kd.int .i64) _ _ _ (rd (rd_L1 t171 x9_1) x32_2) [.int .i64 (rd (rd_L1 t171 x9_1) x32_2)] from rfl) (Reps.one (show Kd.M (Kd.int .i64) _ _ _ (rd y182 x45_3) [.int .i64 (rd y182 x45_3)] from rfl) (Reps.none _ _)))); intro v191 w31 ho32 hb hg_ hnew_; clear hg_ hnew_; (first | rw [← Ny190.out] at ho32 | (simp only [Int.reduceToNat] at ho32; rw [← Ny190.out] at ho32)); have n0_ := Aside0.mk (Kd.V_elder' (by (with_reducible repeat (first | apply Kd.V_alloc | apply Kd.V_drewN | apply Kd.V_drew)); exact HO_2.out) (Kd.R_base ho32) hb); have n1_ := Aside0.mk (Kd.N_elder' (KN HO_8) (Kd.R_base ho32) hb); have n2_ := Aside0.mk (Kd.R_elder' (KR HO_10) (Kd.R_base ho32) hb); have n3_ := Aside0.mk (Kd.R_elder' (KR HO_11) (Kd.R_base ho32) hb); have n4_ := Aside0.mk (Kd.V_elder' (by (with_reducible repeat (first | apply Kd.V_alloc | apply Kd.V_drewN | apply Kd.V_drew)); exact HO_43.out) (Kd.R_base ho32) hb); have n5_ := Aside0.mk (Kd.R_lower (Kd.R_new' (Kd.R_new' (Kd.R_newM (M := fun k_ => (w.heap.size ≤ k_)) ho32 (below_size BB) (fun k_ h_ => h_)) (Kd.R_lt (KR HO_10))) (Kd.R_lt (KR HO_11))) (below_size BB)); have n6_ := Aside0.mk (Kd.C_below (by repeat (first | (with_reducible exact HR178_0.out) | (with_reducible refine Kd.C_drewN ?_ _) | (with_reducible refine Kd.C_drew ?_) | (with_reducible refine Kd.C_alloc ?_ _) | exact HR178_0.out)) hb); have n7_ := Aside0.mk (Kd.C_below (by repeat (first | (with_reducible exact HR181_0.out) | (with_reducible refine Kd.C_drewN ?_ _) | (with_reducible refine Kd.C_drew ?_) | (with_reducible refine Kd.C_alloc ?_ _) | exact HR181_0.out)) hb); have n8_ := Aside0.mk (below_step BB hb); clear HO_2; clear HO_8; clear HO_10; clear HO_11; clear HO_43; clear HR178_0; clear HR181_0; clear HB; have HO_2 := n0_; have HO_8 := n1_; have HO_10 := n2_; have HO_11 := n3_; have HO_43 := n4_; have HO192 := n5_; have HR178_0 := n6_; have HR181_0 := n7_; have HB := n8_; clear n0_ n1_ n2_ n3_ n4_ n5_ n6_ n7_ n8_; clear hb ho32)))
                                                    go_ret2
                                                    exact ⟨_, _, by first | rfl | (simp [errW_none, errW_some] <;> rfl) | (simp only [← hji19]; first | rfl | (simp [errW_none, errW_some] <;> rfl)) | (simp [*, errW_none, errW_some] <;> rfl), by (with_reducible repeat (first | apply Kd.R_alloc | apply Kd.R_drewN | apply Kd.R_drew)); exact Kd.R_mono HO_10.out (fun _ hk => ⟨hk.1.1, hk.2⟩), by (with_reducible repeat (first | apply Kd.R_alloc | apply Kd.R_drewN | apply Kd.R_drew)); exact Kd.R_mono HO192.out (fun _ hk => ⟨hk.1.1.1, hk.1.2⟩), BB⟩
                                                  · rw [if_neg c30] at H
                                                    have c30b0 : ((wrap64 ((rd l1 (rd (rd_L1 t171 x9_1) x32_2)) + (rd l1 (rd y182 x45_3)))) == 0) = false := beq_eq_false_iff_ne.mpr c30
                                                    have c30b1 : ((wrap64 ((rd l1 (rd (rd_L1 t171 x9_1) x32_2)) + (rd l1 (rd y182 x45_3)))) != 0) = true := bne_iff_ne.mpr c30
                                                    replace H := Option.bind_eq_some_iff.mp H
                                                    obtain ⟨t193, A330, H⟩ := H
                                                    replace H : (if t193 = true then ((spec_l1Same.f k3 (([(rd (rd_L1 t171 x9_1) x32_2), rd y182 x45_3] : List Int)) x2_1).bind fun t197 => (if t197 = true then (spec_opWalk.l2 k3 l1 x2_1 t171 x9_1 y175 x11_3 (rd (rd_L1 t171 x9_1) x32_2) (rd_L1 t171 x9_1) ((rd_L1 t171 x9_1).length : Int) x32_2 y182 (y182.length : Int) (wrap64 (x45_3 + 1))) else (spec_opWalk.l2 k3 l1 x2_1 t171 x9_1 y175 (([(rd (rd_L1 t171 x9_1) x32_2), rd y182 x45_3] : List Int)) (rd (rd_L1 t171 x9_1) x32_2) (rd_L1 t171 x9_1) ((rd_L1 t171 x9_1).length : Int) x32_2 y182 (y182.length : Int) (wrap64 (x45_3 + 1))))) else (spec_opWalk.l2 k3 l1 x2_1 t171 x9_1 y175 x11_3 (rd (rd_L1 t171 x9_1) x32_2) (rd_L1 t171 x9_1) ((rd_L1 t171 x9_1).length : Int) x32_2 y182 (y182.length : Int) (wrap64 (x45_3 + 1)))) = some (r1, r2) := H
                                                    have A33 := Aside0.mk A330
                                                    clear A330
                                                    by_cases c34 : t193 = true
                                                    · subst c34
                                                      have H1 : ((spec_l1Same.f k3 (([(rd (rd_L1 t171 x9_1) x32_2), rd y182 x45_3] : List Int)) x2_1).bind fun t197 => (if t197 = true then (spec_opWalk.l2 k3 l1 x2_1 t171 x9_1 y175 x11_3 (rd (rd_L1 t171 x9_1) x32_2) (rd_L1 t171 x9_1) ((rd_L1 t171 x9_1).length : Int) x32_2 y182 (y182.length : Int) (wrap64 (x45_3 + 1))) else (spec_opWalk.l2 k3 l1 x2_1 t171 x9_1 y175 (([(rd (rd_L1 t171 x9_1) x32_2), rd y182 x45_3] : List Int)) (rd (rd_L1 t171 x9_1) x32_2) (rd_L1 t171 x9_1) ((rd_L1 t171 x9_1).length : Int) x32_2 y182 (y182.length : Int) (wrap64 (x45_3 + 1))))) = some (r1, r2) := by rw [if_pos rfl] at H; exact H
                                                      clear H
                                                      have H := H1
                                                      clear H1
                                                      obtain ⟨y194, hy194⟩ : ∃ y_ : List Int, y_ = (([(rd (rd_L1 t171 x9_1) x32_2), rd y182 x45_3] : List Int)) := ⟨_, rfl⟩
                                                      replace H : ((spec_l1Same.f k3 y194 x2_1).bind fun t197 => (if t197 = true then (spec_opWalk.l2 k3 l1 x2_1 t171 x9_1 y175 x11_3 (rd (rd_L1 t171 x9_1) x32_2) (rd_L1 t171 x9_1) ((rd_L1 t171 x9_1).length : Int) x32_2 y182 (y182.length : Int) (wrap64 (x45_3 + 1))) else (spec_opWalk.l2 k3 l1 x2_1 t171 x9_1 y175 (([(rd (rd_L1 t171 x9_1) x32_2), rd y182 x45_3] : List Int)) (rd (rd_L1 t171 x9_1) x32_2) (rd_L1 t171 x9_1) ((rd_L1 t171 x9_1).length : Int) x32_2 y182 (y182.length : Int) (wrap64 (x45_3 + 1))))) = some (r1, r2) := by first | (rw [hy194]; with_reducible exact H) | (have H2_ := (Option.bind_some _ _).symm.trans H; rw [hy194]; with_reducible exact H2_) | (have H2_ := (Option.bind_some _ _).symm.trans H; with_reducible exact H2_) | with_reducible exact H | (rw [hy194]; exact H) | exact H
                                                      have Ny194 := Aside0.mk hy194
                                                      clear hy194
                                                      replace H := Option.bind_eq_some_iff.mp H
                                                      obtain ⟨t197, A350, H⟩ := H
                                                      replace H : (if t197 = true then (spec_opWalk.l2 k3 l1 x2_1 t171 x9_1 y175 x11_3 (rd (rd_L1 t171 x9_1) x32_2) (rd_L1 t171 x9_1) ((rd_L1 t171 x9_1).length : Int) x32_2 y182 (y182.length : Int) (wrap64 (x45_3 + 1))) else (spec_opWalk.l2 k3 l1 x2_1 t171 x9_1 y175 (([(rd (rd_L1 t171 x9_1) x32_2), rd y182 x45_3] : List Int)) (rd (rd_L1 t171 x9_1) x32_2) (rd_L1 t171 x9_1) ((rd_L1 t171 x9_1).length : Int) x32_2 y182 (y182.length : Int) (wrap64 (x45_3 + 1)))) = some (r1, r2) := H
                                                      have A35 := Aside0.mk A350
                                                      clear A350
                                                      by_cases c36 : t197 = true
                                                      · subst c36
                                                        have H1 : (spec_opWalk.l2 k3 l1 x2_1 t171 x9_1 y175 x11_3 (rd (rd_L1 t171 x9_1) x32_2) (rd_L1 t171 x9_1) ((rd_L1 t171 x9_1).length : Int) x32_2 y182 (y182.length : Int) (wrap64 (x45_3 + 1))) = some (r1, r2) := by rw [if_pos rfl] at H; exact H
                                                        clear H
                                                        have H := H1
                                                        clear H1
                                                        have H' := Aside0.mk H
                                                        clear H
                                                        have p187 : 0 ≤ (x45_3 : Int) := of_decide_eq_true AS
                                                        have q187 : x45_3 < (y182.length : Int) := of_decide_eq_true AS
                                                        obtain ⟨ad187, e187, hx187_0⟩ := Kd.at_int (Kd.V_reads' HO_43.out).2.2 x45_3 p187 q187
                                                        cases e187
                                                        replace p187 := eq_true p187
                                                        replace q187 := eq_true q187
                                                        have p188 : 0 ≤ ((rd (rd_L1 t171 x9_1) x32_2) : Int) := of_decide_eq_true AS
                                                        have q188 : (rd (rd_L1 t171 x9_1) x32_2) < (l1.length : Int) := of_decide_eq_true AS
                                                        obtain ⟨ad188, e188, hx188_0⟩ := Kd.at_int HR1.out (rd (rd_L1 t171 x9_1) x32_2) p188 q188
                                                        cases e188
                                                        try (replace hx188_0 := (HB.out.cell (World.block_lt_of_cell? w _ hx188_0)).trans hx188_0)
                                                        replace p188 := eq_true p188
                                                        replace q188 := eq_true q188
                                                        have p189 : 0 ≤ ((rd y182 x45_3) : Int) := of_decide_eq_true AS
                                                        have q189 : (rd y182 x45_3) < (l1.length : Int) := of_decide_eq_true AS
                                                        obtain ⟨ad189, e189, hx189_0⟩ := Kd.at_int HR1.out (rd y182 x45_3) p189 q189
                                                        obtain rfl : ad188 = ad189 := (by injection e189)
                                                        try (replace hx189_0 := (HB.out.cell (World.block_lt_of_cell? w _ hx189_0)).trans hx189_0)
                                                        replace p189 := eq_true p189
                                                        replace q189 := eq_true q189
                                                        go_wp2_with (first | (go_at_call 45; (with_reducible refine (spec_opDoor.calls _ _ l1 (rd (rd_L1 t171 x9_1) x32_2) (rd y182 x45_3) true _ ?side1 ?side2 A33.out).mono ?_); (case side1 => repeat (first | exact (Kd.C_below HR1.out HB.out) | (with_reducible refine Kd.C_drewN ?_ _) | (with_reducible refine Kd.C_drew ?_) | (with_reducible refine Kd.C_alloc ?_ _))); (case side2 => exact HC1.out); rintro e w' ⟨rfl, ⟨nd, rfl⟩⟩; (try first | exact ⟨rfl, _, World.drewN_drewN _ _ _⟩ | exact ⟨rfl, _, Eq.trans (World.drewN_drewN _ _ _) (congrArg (World.drewN _) (Nat.add_assoc _ _ _))⟩)) | ((with_reducible refine gate_dst (N := 70) rfl ?_); (try (refine gate_guard (by rfl) ?_; dsimp only)); refine Kd.R_lit (Kd.int .i64) _ 3 ?hg (N := 70) ?hd (xs := ([(rd (rd_L1 t171 x9_1) x32_2), rd y182 x45_3] : List Int)) (inner := [.int .i64 (rd (rd_L1 t171 x9_1) x32_2), .int .i64 (rd y182 x45_3)]) (ok := fun _ => True) (okp := fun _ => True) ?hr ?hp (fun _ hk => hk) trivial (Below.refl _ _) (Nat.le_refl _) (by simp) ?_; (case hd => rfl); (case hg => rfl); (case hr => first | (go_simp; done) | (go_simp; rfl)); (case hp => exact (Reps.one (show Kd.M (Kd.int .i64) _ _ _ (rd (rd_L1 t171 x9_1) x32_2) [.int .i64 (rd (rd_L1 t171 x9_1) x32_2)] from rfl) (Reps.one (show Kd.M (Kd.int .i64) _ _ _ (rd y182 x45_3) [.int .i64 (rd y182 x45_3)] from rfl) (Reps.none _ _)))); intro v195 w37 ho38 hb hg_ hnew_; clear hg_ hnew_; (first | rw [← Ny194.out] at ho38 | (simp only [Int.reduceToNat] at ho38; rw [← Ny194.out] at ho38)); have n0_ := Aside0.mk (Kd.V_elder' (by (with_reducible repeat (first | apply Kd.V_alloc | apply Kd.V_drewN | apply Kd.V_drew)); exact HO_2.out) (Kd.R_base ho38) hb); have n1_ := Aside0.mk (Kd.N_elder' (KN HO_8) (Kd.R_base ho38) hb); have n2_ := Aside0.mk (Kd.R_elder' (KR HO_10) (Kd.R_base ho38) hb); have n3_ := Aside0.mk (Kd.R_elder' (KR HO_11) (Kd.R_base ho38) hb); have n4_ := Aside0.mk (Kd.V_elder' (by (with_reducible repeat (first | apply Kd.V_alloc | apply Kd.V_drewN | apply Kd.V_drew)); exact HO_43.out) (Kd.R_base ho38) hb); have n5_ := Aside0.mk (Kd.R_lower (Kd.R_new' (Kd.R_new' (Kd.R_newM (M := fun k_ => (w.heap.size ≤ k_)) ho38 (below_size BB) (fun k_ h_ => h_)) (Kd.R_lt (KR HO_10))) (Kd.R_lt (KR HO_11))) (below_size BB)); have n6_ := Aside0.mk (Kd.C_below (by repeat (first | (with_reducible exact HR178_0.out) | (with_reducible refine Kd.C_drewN ?_ _) | (with_reducible refine Kd.C_drew ?_) | (with_reducible refine Kd.C_alloc ?_ _) | exact HR178_0.out)) hb); have n7_ := Aside0.mk (Kd.C_below (by repeat (first | (with_reducible exact HR181_0.out) | (with_reducible refine Kd.C_drewN ?_ _) | (with_reducible refine Kd.C_drew ?_) | (with_reducible refine Kd.C_alloc ?_ _) | exact HR181_0.out)) hb); have n8_ := Aside0.mk (below_step BB hb); clear HO_2; clear HO_8; clear HO_10; clear HO_11; clear HO_43; clear HR178_0; clear HR181_0; clear HB; have HO_2 := n0_; have HO_8 := n1_; have HO_10 := n2_; have HO_11 := n3_; have HO_43 := n4_; have HO196 := n5_; have HR178_0 := n6_; have HR181_0 := n7_; have HB := n8_; clear n0_ n1_ n2_ n3_ n4_ n5_ n6_ n7_ n8_; clear hb ho38; obtain ⟨Ao39, co39, eo39⟩ := Kd.R_slice HO196.out; subst eo39; obtain ⟨Ao40, co40, eo40⟩ := Kd.V_slice HO_2.out; subst eo40) | (go_at_call 21; (with_reducible refine (spec_l1Same.calls k3 _ _ y194 _ _ x2_1 true _ ?side1 ?side2 ?side3 ?side4 A35.out).mono ?_); (case side1 => repeat (first | exact (Kd.R_reads' HO196.out).2.2 | (with_reducible refine Kd.C_drewN ?_ _) | (with_reducible refine Kd.C_drew ?_) | (with_reducible refine Kd.C_alloc ?_ _))); (case side2 => exact (Kd.R_reads' HO196.out).2.1); (case side3 => repeat (first | exact (Kd.V_reads' HO_2.out).2.2 | (with_reducible refine Kd.C_drewN ?_ _) | (with_reducible refine Kd.C_drew ?_) | (with_reducible refine Kd.C_alloc ?_ _))); (case side4 => exact (Kd.V_reads' HO_2.out).2.1); rintro e w' ⟨rfl, ⟨nd, rfl⟩⟩; (try first | exact ⟨rfl, _, World.drewN_drewN _ _ _⟩ | exact ⟨rfl, _, Eq.trans (World.drewN_drewN _ _ _) (congrArg (World.drewN _) (Nat.add_assoc _ _ _))⟩)))
                                                        repeat (go_quiet (first | (go_at_call 45; (with_reducible refine (spec_opDoor.calls _ _ l1 (rd (rd_L1 t171 x9_1) x32_2) (rd y182 x45_3) true _ ?side1 ?side2 A33.out).mono ?_); (case side1 => repeat (first | exact (Kd.C_below HR1.out HB.out) | (with_reducible refine Kd.C_drewN ?_ _) | (with_reducible refine Kd.C_drew ?_) | (with_reducible refine Kd.C_alloc ?_ _))); (case side2 => exact HC1.out); rintro e w' ⟨rfl, ⟨nd, rfl⟩⟩; (try first | exact ⟨rfl, _, World.drewN_drewN _ _ _⟩ | exact ⟨rfl, _, Eq.trans (World.drewN_drewN _ _ _) (congrArg (World.drewN _) (Nat.add_assoc _ _ _))⟩)) | ((with_reducible refine gate_dst (N := 70) rfl ?_); (try (refine gate_guard (by rfl) ?_; dsimp only)); refine Kd.R_lit (Kd.int .i64) _ 3 ?hg (N := 70) ?hd (xs := ([(rd (rd_L1 t171 x9_1) x32_2), rd y182 x45_3] : List Int)) (inner := [.int .i64 (rd (rd_L1 t171 x9_1) x32_2), .int .i64 (rd y182 x45_3)]) (ok := fun _ => True) (okp := fun _ => True) ?hr ?hp (fun _ hk => hk) trivial (Below.refl _ _) (Nat.le_refl _) (by simp) ?_; (case hd => rfl); (case hg => rfl); (case hr => first | (go_simp; done) | (go_simp; rfl)); (case hp => exact (Reps.one (show Kd.M (Kd.int .i64) _ _ _ (rd (rd_L1 t171 x9_1) x32_2) [.int .i64 (rd (rd_L1 t171 x9_1) x32_2)] from rfl) (Reps.one (show Kd.M (Kd.int .i64) _ _ _ (rd y182 x45_3) [.int .i64 (rd y182 x45_3)] from rfl) (Reps.none _ _)))); intro v195 w37 ho38 hb hg_ hnew_; clear hg_ hnew_; (first | rw [← Ny194.out] at ho38 | (simp only [Int.reduceToNat] at ho38; rw [← Ny194.out] at ho38)); have n0_ := Aside0.mk (Kd.V_elder' (by (with_reducible repeat (first | apply Kd.V_alloc | apply Kd.V_drewN | apply Kd.V_drew)); exact HO_2.out) (Kd.R_base ho38) hb); have n1_ := Aside0.mk (Kd.N_elder' (KN HO_8) (Kd.R_base ho38) hb); have n2_ := Aside0.mk (Kd.R_elder' (KR HO_10) (Kd.R_base ho38) hb); have n3_ := Aside0.mk (Kd.R_elder' (KR HO_11) (Kd.R_base ho38) hb); have n4_ := Aside0.mk (Kd.V_elder' (by (with_reducible repeat (first | apply Kd.V_alloc | apply Kd.V_drewN | apply Kd.V_drew)); exact HO_43.out) (Kd.R_base ho38) hb); have n5_ := Aside0.mk (Kd.R_lower (Kd.R_new' (Kd.R_new' (Kd.R_newM (M := fun k_ => (w.heap.size ≤ k_)) ho38 (below_size BB) (fun k_ h_ => h_)) (Kd.R_lt (KR HO_10))) (Kd.R_lt (KR HO_11))) (below_size BB)); have n6_ := Aside0.mk (Kd.C_below (by repeat (first | (with_reducible exact HR178_0.out) | (with_reducible refine Kd.C_drewN ?_ _) | (with_reducible refine Kd.C_drew ?_) | (with_reducible refine Kd.C_alloc ?_ _) | exact HR178_0.out)) hb); have n7_ := Aside0.mk (Kd.C_below (by repeat (first | (with_reducible exact HR181_0.out) | (with_reducible refine Kd.C_drewN ?_ _) | (with_reducible refine Kd.C_drew ?_) | (with_reducible refine Kd.C_alloc ?_ _) | exact HR181_0.out)) hb); have n8_ := Aside0.mk (below_step BB hb); clear HO_2; clear HO_8; clear HO_10; clear HO_11; clear HO_43; clear HR178_0; clear HR181_0; clear HB; have HO_2 := n0_; have HO_8 := n1_; have HO_10 := n2_; have HO_11 := n3_; have HO_43 := n4_; have HO196 := n5_; have HR178_0 := n6_; have HR181_0 := n7_; have HB := n8_; clear n0_ n1_ n2_ n3_ n4_ n5_ n6_ n7_ n8_; clear hb ho38; obtain ⟨Ao39, co39, eo39⟩ := Kd.R_slice HO196.out; subst eo39; obtain ⟨Ao40, co40, eo40⟩ := Kd.V_slice HO_2.out; subst eo40) | (go_at_call 21; (with_reducible refine (spec_l1Same.calls k3 _ _ y194 _ _ x2_1 true _ ?side1 ?side2 ?side3 ?side4 A35.out).mono ?_); (case side1 => repeat (first | exact (Kd.R_reads' HO196.out).2.2 | (with_reducible refine Kd.C_drewN ?_ _) | (with_reducible refine Kd.C_drew ?_) | (with_reducible refine Kd.C_alloc ?_ _))); (case side2 => exact (Kd.R_reads' HO196.out).2.1); (case side3 => repeat (first | exact (Kd.V_reads' HO_2.out).2.2 | (with_reducible refine Kd.C_drewN ?_ _) | (with_reducible refine Kd.C_drew ?_) | (with_reducible refine Kd.C_alloc ?_ _))); (case side4 => exact (Kd.V_reads' HO_2.out).2.1); rintro e w' ⟨rfl, ⟨nd, rfl⟩⟩; (try first | exact ⟨rfl, _, World.drewN_drewN _ _ _⟩ | exact ⟨rfl, _, Eq.trans (World.drewN_drewN _ _ _) (congrArg (World.drewN _) (Nat.add_assoc _ _ _))⟩))); try go_wp2_with (first | (go_at_call 45; (with_reducible refine (spec_opDoor.calls _ _ l1 (rd (rd_L1 t171 x9_1) x32_2) (rd y182 x45_3) true _ ?side1 ?side2 A33.out).mono ?_); (case side1 => repeat (first | exact (Kd.C_below HR1.out HB.out) | (with_reducible refine Kd.C_drewN ?_ _) | (with_reducible refine Kd.C_drew ?_) | (with_reducible refine Kd.C_alloc ?_ _))); (case side2 => exact HC1.out); rintro e w' ⟨rfl, ⟨nd, rfl⟩⟩; (try first | exact ⟨rfl, _, World.drewN_drewN _ _ _⟩ | exact ⟨rfl, _, Eq.trans (World.drewN_drewN _ _ _) (congrArg (World.drewN _) (Nat.add_assoc _ _ _))⟩)) | ((with_reducible refine gate_dst (N := 70) rfl ?_); (try (refine gate_guard (by rfl) ?_; dsimp only)); refine Kd.R_lit (Kd.int .i64) _ 3 ?hg (N := 70) ?hd (xs := ([(rd (rd_L1 t171 x9_1) x32_2), rd y182 x45_3] : List Int)) (inner := [.int .i64 (rd (rd_L1 t171 x9_1) x32_2), .int .i64 (rd y182 x45_3)]) (ok := fun _ => True) (okp := fun _ => True) ?hr ?hp (fun _ hk => hk) trivial (Below.refl _ _) (Nat.le_refl _) (by simp) ?_; (case hd => rfl); (case hg => rfl); (case hr => first | (go_simp; done) | (go_simp; rfl)); (case hp => exact (Reps.one (show Kd.M (Kd.int .i64) _ _ _ (rd (rd_L1 t171 x9_1) x32_2) [.int .i64 (rd (rd_L1 t171 x9_1) x32_2)] from rfl) (Reps.one (show Kd.M (Kd.int .i64) _ _ _ (rd y182 x45_3) [.int .i64 (rd y182 x45_3)] from rfl) (Reps.none _ _)))); intro v195 w37 ho38 hb hg_ hnew_; clear hg_ hnew_; (first | rw [← Ny194.out] at ho38 | (simp only [Int.reduceToNat] at ho38; rw [← Ny194.out] at ho38)); have n0_ := Aside0.mk (Kd.V_elder' (by (with_reducible repeat (first | apply Kd.V_alloc | apply Kd.V_drewN | apply Kd.V_drew)); exact HO_2.out) (Kd.R_base ho38) hb); have n1_ := Aside0.mk (Kd.N_elder' (KN HO_8) (Kd.R_base ho38) hb); have n2_ := Aside0.mk (Kd.R_elder' (KR HO_10) (Kd.R_base ho38) hb); have n3_ := Aside0.mk (Kd.R_elder' (KR HO_11) (Kd.R_base ho38) hb); have n4_ := Aside0.mk (Kd.V_elder' (by (with_reducible repeat (first | apply Kd.V_alloc | apply Kd.V_drewN | apply Kd.V_drew)); exact HO_43.out) (Kd.R_base ho38) hb); have n5_ := Aside0.mk (Kd.R_lower (Kd.R_new' (Kd.R_new' (Kd.R_newM (M := fun k_ => (w.heap.size ≤ k_)) ho38 (below_size BB) (fun k_ h_ => h_)) (Kd.R_lt (KR HO_10))) (Kd.R_lt (KR HO_11))) (below_size BB)); have n6_ := Aside0.mk (Kd.C_below (by repeat (first | (with_reducible exact HR178_0.out) | (with_reducible refine Kd.C_drewN ?_ _) | (with_reducible refine Kd.C_drew ?_) | (with_reducible refine Kd.C_alloc ?_ _) | exact HR178_0.out)) hb); have n7_ := Aside0.mk (Kd.C_below (by repeat (first | (with_reducible exact HR181_0.out) | (with_reducible refine Kd.C_drewN ?_ _) | (with_reducible refine Kd.C_drew ?_) | (with_reducible refine Kd.C_alloc ?_ _) | exact HR181_0.out)) hb); have n8_ := Aside0.mk (below_step BB hb); clear HO_2; clear HO_8; clear HO_10; clear HO_11; clear HO_43; clear HR178_0; clear HR181_0; clear HB; have HO_2 := n0_; have HO_8 := n1_; have HO_10 := n2_; have HO_11 := n3_; have HO_43 := n4_; have HO196 := n5_; have HR178_0 := n6_; have HR181_0 := n7_; have HB := n8_; clear n0_ n1_ n2_ n3_ n4_ n5_ n6_ n7_ n8_; clear hb ho38; obtain ⟨Ao39, co39, eo39⟩ := Kd.R_slice HO196.out; subst eo39; obtain ⟨Ao40, co40, eo40⟩ := Kd.V_slice HO_2.out; subst eo40) | (go_at_call 21; (with_reducible refine (spec_l1Same.calls k3 _ _ y194 _ _ x2_1 true _ ?side1 ?side2 ?side3 ?side4 A35.out).mono ?_); (case side1 => repeat (first | exact (Kd.R_reads' HO196.out).2.2 | (with_reducible refine Kd.C_drewN ?_ _) | (with_reducible refine Kd.C_drew ?_) | (with_reducible refine Kd.C_alloc ?_ _))); (case side2 => exact (Kd.R_reads' HO196.out).2.1); (case side3 => repeat (first | exact (Kd.V_reads' HO_2.out).2.2 | (with_reducible refine Kd.C_drewN ?_ _) | (with_reducible refine Kd.C_drew ?_) | (with_reducible refine Kd.C_alloc ?_ _))); (case side4 => exact (Kd.V_reads' HO_2.out).2.1); rintro e w' ⟨rfl, ⟨nd, rfl⟩⟩; (try first | exact ⟨rfl, _, World.drewN_drewN _ _ _⟩ | exact ⟨rfl, _, Eq.trans (World.drewN_drewN _ _ _) (congrArg (World.drewN _) (Nat.add_assoc _ _ _))⟩))))
                                                        go_roundg k3
                                                        case measure => have := HK1.out; have := HK2.out; have := HK3.out; omega
                                                        case rel => exact ⟨(x11_3), (wrap64 (x45_3 + 1)), RF, H', ⟨by have := HK1.out; have := HK2.out; have := HK3.out; omega⟩, ⟨by (with_reducible repeat (first | apply Kd.V_alloc | apply Kd.V_drewN | apply Kd.V_drew)); exact Kd.V_mono HO_2.out (fun _ hk => ⟨hk.1.1, ⟨hk.1.2.1, ⟨hk.1.2.2.1, hk.1.2.2.2⟩⟩⟩)⟩, ⟨by (with_reducible repeat (first | apply Kd.N_alloc | apply Kd.N_drewN | apply Kd.N_drew)); exact Kd.N_mono HO_8.out (fun _ hk => ⟨hk.1.1, ⟨hk.1.2.1, hk.1.2.2⟩⟩)⟩, ⟨by (with_reducible repeat (first | apply Kd.R_alloc | apply Kd.R_drewN | apply Kd.R_drew)); exact Kd.R_mono HO_10.out (fun _ hk => ⟨hk.1.1, hk.1.2⟩)⟩, ⟨by (with_reducible repeat (first | apply Kd.R_alloc | apply Kd.R_drewN | apply Kd.R_drew)); exact Kd.R_mono HO_11.out (fun _ hk => ⟨hk.1.1, hk.1.2⟩)⟩, ⟨by (with_reducible repeat (first | apply Kd.V_alloc | apply Kd.V_drewN | apply Kd.V_drew)); exact Kd.V_mono HO_43.out (fun _ hk => ⟨hk.1.1, ⟨hk.1.2.1, ⟨hk.1.2.2.1, hk.1.2.2.2⟩⟩⟩)⟩, ⟨by repeat (first | (with_reducible exact HR178_0.out) | (with_reducible refine Kd.C_drewN ?_ _) | (with_reducible refine Kd.C_drew ?_) | (with_reducible refine Kd.C_alloc ?_ _) | exact HR178_0.out)⟩, ⟨by repeat (first | (with_reducible exact HR181_0.out) | (with_reducible refine Kd.C_drewN ?_ _) | (with_reducible refine Kd.C_drew ?_) | (with_reducible refine Kd.C_alloc ?_ _) | exact HR181_0.out)⟩, ⟨BB⟩⟩
                                                      · replace c36 := Bool.eq_false_iff.mpr c36
                                                        subst c36
                                                        have H1 : (spec_opWalk.l2 k3 l1 x2_1 t171 x9_1 y175 (([(rd (rd_L1 t171 x9_1) x32_2), rd y182 x45_3] : List Int)) (rd (rd_L1 t171 x9_1) x32_2) (rd_L1 t171 x9_1) ((rd_L1 t171 x9_1).length : Int) x32_2 y182 (y182.length : Int) (wrap64 (x45_3 + 1))) = some (r1, r2) := by rw [if_neg (show ¬ (false = true) by decide)] at H; exact H
                                                        clear H
                                                        have H := H1
                                                        clear H1
                                                        obtain ⟨y198, hy198⟩ : ∃ y_ : List Int, y_ = (([(rd (rd_L1 t171 x9_1) x32_2), rd y182 x45_3] : List Int)) := ⟨_, rfl⟩
                                                        replace H : (spec_opWalk.l2 k3 l1 x2_1 t171 x9_1 y175 y198 (rd (rd_L1 t171 x9_1) x32_2) (rd_L1 t171 x9_1) ((rd_L1 t171 x9_1).length : Int) x32_2 y182 (y182.length : Int) (wrap64 (x45_3 + 1))) = some (r1, r2) := by first | (rw [hy198]; with_reducible exact H) | (have H2_ := (Option.bind_some _ _).symm.trans H; rw [hy198]; with_reducible exact H2_) | (have H2_ := (Option.bind_some _ _).symm.trans H; with_reducible exact H2_) | with_reducible exact H | (rw [hy198]; exact H) | exact H
                                                        have Ny198 := Aside0.mk hy198
                                                        clear hy198
                                                        have H' := Aside0.mk H
                                                        clear H
                                                        have p187 : 0 ≤ (x45_3 : Int) := of_decide_eq_true AS
                                                        have q187 : x45_3 < (y182.length : Int) := of_decide_eq_true AS
                                                        obtain ⟨ad187, e187, hx187_0⟩ := Kd.at_int (Kd.V_reads' HO_43.out).2.2 x45_3 p187 q187
                                                        cases e187
                                                        replace p187 := eq_true p187
                                                        replace q187 := eq_true q187
                                                        have p188 : 0 ≤ ((rd (rd_L1 t171 x9_1) x32_2) : Int) := of_decide_eq_true AS
                                                        have q188 : (rd (rd_L1 t171 x9_1) x32_2) < (l1.length : Int) := of_decide_eq_true AS
                                                        obtain ⟨ad188, e188, hx188_0⟩ := Kd.at_int HR1.out (rd (rd_L1 t171 x9_1) x32_2) p188 q188
                                                        cases e188
                                                        try (replace hx188_0 := (HB.out.cell (World.block_lt_of_cell? w _ hx188_0)).trans hx188_0)
                                                        replace p188 := eq_true p188
                                                        replace q188 := eq_true q188
                                                        have p189 : 0 ≤ ((rd y182 x45_3) : Int) := of_decide_eq_true AS
                                                        have q189 : (rd y182 x45_3) < (l1.length : Int) := of_decide_eq_true AS
                                                        obtain ⟨ad189, e189, hx189_0⟩ := Kd.at_int HR1.out (rd y182 x45_3) p189 q189
                                                        obtain rfl : ad188 = ad189 := (by injection e189)
                                                        try (replace hx189_0 := (HB.out.cell (World.block_lt_of_cell? w _ hx189_0)).trans hx189_0)
                                                        replace p189 := eq_true p189
                                                        replace q189 := eq_true q189
                                                        go_wp2_with (first | (go_at_call 45; (with_reducible refine (spec_opDoor.calls _ _ l1 (rd (rd_L1 t171 x9_1) x32_2) (rd y182 x45_3) true _ ?side1 ?side2 A33.out).mono ?_); (case side1 => repeat (first | exact (Kd.C_below HR1.out HB.out) | (with_reducible refine Kd.C_drewN ?_ _) | (with_reducible refine Kd.C_drew ?_) | (with_reducible refine Kd.C_alloc ?_ _))); (case side2 => exact HC1.out); rintro e w' ⟨rfl, ⟨nd, rfl⟩⟩; (try first | exact ⟨rfl, _, World.drewN_drewN _ _ _⟩ | exact ⟨rfl, _, Eq.trans (World.drewN_drewN _ _ _) (congrArg (World.drewN _) (Nat.add_assoc _ _ _))⟩)) | ((with_reducible refine gate_dst (N := 70) rfl ?_); (try (refine gate_guard (by rfl) ?_; dsimp only)); refine Kd.R_lit (Kd.int .i64) _ 3 ?hg (N := 70) ?hd (xs := ([(rd (rd_L1 t171 x9_1) x32_2), rd y182 x45_3] : List Int)) (inner := [.int .i64 (rd (rd_L1 t171 x9_1) x32_2), .int .i64 (rd y182 x45_3)]) (ok := fun _ => True) (okp := fun _ => True) ?hr ?hp (fun _ hk => hk) trivial (Below.refl _ _) (Nat.le_refl _) (by simp) ?_; (case hd => rfl); (case hg => rfl); (case hr => first | (go_simp; done) | (go_simp; rfl)); (case hp => exact (Reps.one (show Kd.M (Kd.int .i64) _ _ _ (rd (rd_L1 t171 x9_1) x32_2) [.int .i64 (rd (rd_L1 t171 x9_1) x32_2)] from rfl) (Reps.one (show Kd.M (Kd.int .i64) _ _ _ (rd y182 x45_3) [.int .i64 (rd y182 x45_3)] from rfl) (Reps.none _ _)))); intro v195 w41 ho42 hb hg_ hnew_; clear hg_ hnew_; (first | rw [← Ny194.out] at ho42 | (simp only [Int.reduceToNat] at ho42; rw [← Ny194.out] at ho42)); have n0_ := Aside0.mk (Kd.V_elder' (by (with_reducible repeat (first | apply Kd.V_alloc | apply Kd.V_drewN | apply Kd.V_drew)); exact HO_2.out) (Kd.R_base ho42) hb); have n1_ := Aside0.mk (Kd.N_elder' (KN HO_8) (Kd.R_base ho42) hb); have n2_ := Aside0.mk (Kd.R_elder' (KR HO_10) (Kd.R_base ho42) hb); have n3_ := Aside0.mk (Kd.R_elder' (KR HO_11) (Kd.R_base ho42) hb); have n4_ := Aside0.mk (Kd.V_elder' (by (with_reducible repeat (first | apply Kd.V_alloc | apply Kd.V_drewN | apply Kd.V_drew)); exact HO_43.out) (Kd.R_base ho42) hb); have n5_ := Aside0.mk (Kd.R_lower (Kd.R_new' (Kd.R_new' (Kd.R_newM (M := fun k_ => (w.heap.size ≤ k_)) ho42 (below_size BB) (fun k_ h_ => h_)) (Kd.R_lt (KR HO_10))) (Kd.R_lt (KR HO_11))) (below_size BB)); have n6_ := Aside0.mk (Kd.C_below (by repeat (first | (with_reducible exact HR178_0.out) | (with_reducible refine Kd.C_drewN ?_ _) | (with_reducible refine Kd.C_drew ?_) | (with_reducible refine Kd.C_alloc ?_ _) | exact HR178_0.out)) hb); have n7_ := Aside0.mk (Kd.C_below (by repeat (first | (with_reducible exact HR181_0.out) | (with_reducible refine Kd.C_drewN ?_ _) | (with_reducible refine Kd.C_drew ?_) | (with_reducible refine Kd.C_alloc ?_ _) | exact HR181_0.out)) hb); have n8_ := Aside0.mk (below_step BB hb); clear HO_2; clear HO_8; clear HO_10; clear HO_11; clear HO_43; clear HR178_0; clear HR181_0; clear HB; have HO_2 := n0_; have HO_8 := n1_; have HO_10 := n2_; have HO_11 := n3_; have HO_43 := n4_; have HO196 := n5_; have HR178_0 := n6_; have HR181_0 := n7_; have HB := n8_; clear n0_ n1_ n2_ n3_ n4_ n5_ n6_ n7_ n8_; clear hb ho42; obtain ⟨Ao43, co43, eo43⟩ := Kd.R_slice HO196.out; subst eo43; obtain ⟨Ao44, co44, eo44⟩ := Kd.V_slice HO_2.out; subst eo44) | (go_at_call 21; (with_reducible refine (spec_l1Same.calls k3 _ _ y194 _ _ x2_1 false _ ?side1 ?side2 ?side3 ?side4 A35.out).mono ?_); (case side1 => repeat (first | exact (Kd.R_reads' HO196.out).2.2 | (with_reducible refine Kd.C_drewN ?_ _) | (with_reducible refine Kd.C_drew ?_) | (with_reducible refine Kd.C_alloc ?_ _))); (case side2 => exact (Kd.R_reads' HO196.out).2.1); (case side3 => repeat (first | exact (Kd.V_reads' HO_2.out).2.2 | (with_reducible refine Kd.C_drewN ?_ _) | (with_reducible refine Kd.C_drew ?_) | (with_reducible refine Kd.C_alloc ?_ _))); (case side4 => exact (Kd.V_reads' HO_2.out).2.1); rintro e w' ⟨rfl, ⟨nd, rfl⟩⟩; (try first | exact ⟨rfl, _, World.drewN_drewN _ _ _⟩ | exact ⟨rfl, _, Eq.trans (World.drewN_drewN _ _ _) (congrArg (World.drewN _) (Nat.add_assoc _ _ _))⟩)) | ((with_reducible refine gate_dst (N := 77) rfl ?_); (try (refine gate_guard (by rfl) ?_; dsimp only)); refine Kd.R_lit (Kd.int .i64) _ 3 ?hg (N := 77) ?hd (xs := ([(rd (rd_L1 t171 x9_1) x32_2), rd y182 x45_3] : List Int)) (inner := [.int .i64 (rd (rd_L1 t171 x9_1) x32_2), .int .i64 (rd y182 x45_3)]) (ok := fun _ => True) (okp := fun _ => True) ?hr ?hp (fun _ hk => hk) trivial (Below.refl _ _) (Nat.le_refl _) (by simp) ?_; (case hd => rfl); (case hg => rfl); (case hr => first | (go_simp; done) | (go_simp; rfl)); (case hp => exact (Reps.one (show Kd.M (Kd.int .i64) _ _ _ (rd (rd_L1 t171 x9_1) x32_2) [.int .i64 (rd (rd_L1 t171 x9_1) x32_2)] from rfl) (Reps.one (show Kd.M (Kd.int .i64) _ _ _ (rd y182 x45_3) [.int .i64 (rd y182 x45_3)] from rfl) (Reps.none _ _)))); intro v199 w45 ho46 hb hg_ hnew_; clear hg_ hnew_; (first | rw [← Ny198.out] at ho46 | (simp only [Int.reduceToNat] at ho46; rw [← Ny198.out] at ho46)); have n0_ := Aside0.mk (Kd.V_elder' (by (with_reducible repeat (first | apply Kd.V_alloc | apply Kd.V_drewN | apply Kd.V_drew)); exact HO_2.out) (Kd.R_base ho46) hb); have n1_ := Aside0.mk (Kd.N_elder' (KN HO_8) (Kd.R_base ho46) hb); have n2_ := Aside0.mk (Kd.R_elder' (KR HO_10) (Kd.R_base ho46) hb); have n3_ := Aside0.mk (Kd.R_elder' (KR HO_11) (Kd.R_base ho46) hb); have n4_ := Aside0.mk (Kd.V_elder' (by (with_reducible repeat (first | apply Kd.V_alloc | apply Kd.V_drewN | apply Kd.V_drew)); exact HO_43.out) (Kd.R_base ho46) hb); have n5_ := Aside0.mk (Kd.R_elder' (KR HO196) (Kd.R_base ho46) hb); have n6_ := Aside0.mk (Kd.R_lower (Kd.R_new' (Kd.R_new' (Kd.R_new' (Kd.R_newM (M := fun k_ => (w.heap.size ≤ k_)) ho46 (below_size BB) (fun k_ h_ => h_)) (Kd.R_lt (KR HO_10))) (Kd.R_lt (KR HO_11))) (Kd.R_lt (KR HO196))) (below_size BB)); have n7_ := Aside0.mk (Kd.C_below (by repeat (first | (with_reducible exact HR178_0.out) | (with_reducible refine Kd.C_drewN ?_ _) | (with_reducible refine Kd.C_drew ?_) | (with_reducible refine Kd.C_alloc ?_ _) | exact HR178_0.out)) hb); have n8_ := Aside0.mk (Kd.C_below (by repeat (first | (with_reducible exact HR181_0.out) | (with_reducible refine Kd.C_drewN ?_ _) | (with_reducible refine Kd.C_drew ?_) | (with_reducible refine Kd.C_alloc ?_ _) | exact HR181_0.out)) hb); have n9_ := Aside0.mk (below_step BB hb); clear HO_2; clear HO_8; clear HO_10; clear HO_11; clear HO_43; clear HO196; clear HR178_0; clear HR181_0; clear HB; have HO_2 := n0_; have HO_8 := n1_; have HO_10 := n2_; have HO_11 := n3_; have HO_43 := n4_; have HO196 := n5_; have HO200 := n6_; have HR178_0 := n7_; have HR181_0 := n8_; have HB := n9_; clear n0_ n1_ n2_ n3_ n4_ n5_ n6_ n7_ n8_ n9_; clear hb ho46))
                                                        repeat (go_quiet (first | (go_at_call 45; (with_reducible refine (spec_opDoor.calls _ _ l1 (rd (rd_L1 t171 x9_1) x32_2) (rd y182 x45_3) true _ ?side1 ?side2 A33.out).mono ?_); (case side1 => repeat (first | exact (Kd.C_below HR1.out HB.out) | (with_reducible refine Kd.C_drewN ?_ _) | (with_reducible refine Kd.C_drew ?_) | (with_reducible refine Kd.C_alloc ?_ _))); (case side2 => exact HC1.out); rintro e w' ⟨rfl, ⟨nd, rfl⟩⟩; (try first | exact ⟨rfl, _, World.drewN_drewN _ _ _⟩ | exact ⟨rfl, _, Eq.trans (World.drewN_drewN _ _ _) (congrArg (World.drewN _) (Nat.add_assoc _ _ _))⟩)) | ((with_reducible refine gate_dst (N := 70) rfl ?_); (try (refine gate_guard (by rfl) ?_; dsimp only)); refine Kd.R_lit (Kd.int .i64) _ 3 ?hg (N := 70) ?hd (xs := ([(rd (rd_L1 t171 x9_1) x32_2), rd y182 x45_3] : List Int)) (inner := [.int .i64 (rd (rd_L1 t171 x9_1) x32_2), .int .i64 (rd y182 x45_3)]) (ok := fun _ => True) (okp := fun _ => True) ?hr ?hp (fun _ hk => hk) trivial (Below.refl _ _) (Nat.le_refl _) (by simp) ?_; (case hd => rfl); (case hg => rfl); (case hr => first | (go_simp; done) | (go_simp; rfl)); (case hp => exact (Reps.one (show Kd.M (Kd.int .i64) _ _ _ (rd (rd_L1 t171 x9_1) x32_2) [.int .i64 (rd (rd_L1 t171 x9_1) x32_2)] from rfl) (Reps.one (show Kd.M (Kd.int .i64) _ _ _ (rd y182 x45_3) [.int .i64 (rd y182 x45_3)] from rfl) (Reps.none _ _)))); intro v195 w41 ho42 hb hg_ hnew_; clear hg_ hnew_; (first | rw [← Ny194.out] at ho42 | (simp only [Int.reduceToNat] at ho42; rw [← Ny194.out] at ho42)); have n0_ := Aside0.mk (Kd.V_elder' (by (with_reducible repeat (first | apply Kd.V_alloc | apply Kd.V_drewN | apply Kd.V_drew)); exact HO_2.out) (Kd.R_base ho42) hb); have n1_ := Aside0.mk (Kd.N_elder' (KN HO_8) (Kd.R_base ho42) hb); have n2_ := Aside0.mk (Kd.R_elder' (KR HO_10) (Kd.R_base ho42) hb); have n3_ := Aside0.mk (Kd.R_elder' (KR HO_11) (Kd.R_base ho42) hb); have n4_ := Aside0.mk (Kd.V_elder' (by (with_reducible repeat (first | apply Kd.V_alloc | apply Kd.V_drewN | apply Kd.V_drew)); exact HO_43.out) (Kd.R_base ho42) hb); have n5_ := Aside0.mk (Kd.R_lower (Kd.R_new' (Kd.R_new' (Kd.R_newM (M := fun k_ => (w.heap.size ≤ k_)) ho42 (below_size BB) (fun k_ h_ => h_)) (Kd.R_lt (KR HO_10))) (Kd.R_lt (KR HO_11))) (below_size BB)); have n6_ := Aside0.mk (Kd.C_below (by repeat (first | (with_reducible exact HR178_0.out) | (with_reducible refine Kd.C_drewN ?_ _) | (with_reducible refine Kd.C_drew ?_) | (with_reducible refine Kd.C_alloc ?_ _) | exact HR178_0.out)) hb); have n7_ := Aside0.mk (Kd.C_below (by repeat (first | (with_reducible exact HR181_0.out) | (with_reducible refine Kd.C_drewN ?_ _) | (with_reducible refine Kd.C_drew ?_) | (with_reducible refine Kd.C_alloc ?_ _) | exact HR181_0.out)) hb); have n8_ := Aside0.mk (below_step BB hb); clear HO_2; clear HO_8; clear HO_10; clear HO_11; clear HO_43; clear HR178_0; clear HR181_0; clear HB; have HO_2 := n0_; have HO_8 := n1_; have HO_10 := n2_; have HO_11 := n3_; have HO_43 := n4_; have HO196 := n5_; have HR178_0 := n6_; have HR181_0 := n7_; have HB := n8_; clear n0_ n1_ n2_ n3_ n4_ n5_ n6_ n7_ n8_; clear hb ho42; obtain ⟨Ao43, co43, eo43⟩ := Kd.R_slice HO196.out; subst eo43; obtain ⟨Ao44, co44, eo44⟩ := Kd.V_slice HO_2.out; subst eo44) | (go_at_call 21; (with_reducible refine (spec_l1Same.calls k3 _ _ y194 _ _ x2_1 false _ ?side1 ?side2 ?side3 ?side4 A35.out).mono ?_); (case side1 => repeat (first | exact (Kd.R_reads' HO196.out).2.2 | (with_reducible refine Kd.C_drewN ?_ _) | (with_reducible refine Kd.C_drew ?_) | (with_reducible refine Kd.C_alloc ?_ _))); (case side2 => exact (Kd.R_reads' HO196.out).2.1); (case side3 => repeat (first | exact (Kd.V_reads' HO_2.out).2.2 | (with_reducible refine Kd.C_drewN ?_ _) | (with_reducible refine Kd.C_drew ?_) | (with_reducible refine Kd.C_alloc ?_ _))); (case side4 => exact (Kd.V_reads' HO_2.out).2.1); rintro e w' ⟨rfl, ⟨nd, rfl⟩⟩; (try first | exact ⟨rfl, _, World.drewN_drewN _ _ _⟩ | exact ⟨rfl, _, Eq.trans (World.drewN_drewN _ _ _) (congrArg (World.drewN _) (Nat.add_assoc _ _ _))⟩)) | ((with_reducible refine gate_dst (N := 77) rfl ?_); (try (refine gate_guard (by rfl) ?_; dsimp only)); refine Kd.R_lit (Kd.int .i64) _ 3 ?hg (N := 77) ?hd (xs := ([(rd (rd_L1 t171 x9_1) x32_2), rd y182 x45_3] : List Int)) (inner := [.int .i64 (rd (rd_L1 t171 x9_1) x32_2), .int .i64 (rd y182 x45_3)]) (ok := fun _ => True) (okp := fun _ => True) ?hr ?hp (fun _ hk => hk) trivial (Below.refl _ _) (Nat.le_refl _) (by simp) ?_; (case hd => rfl); (case hg => rfl); (case hr => first | (go_simp; done) | (go_simp; rfl)); (case hp => exact (Reps.one (show Kd.M (Kd.int .i64) _ _ _ (rd (rd_L1 t171 x9_1) x32_2) [.int .i64 (rd (rd_L1 t171 x9_1) x32_2)] from rfl) (Reps.one (show Kd.M (Kd.int .i64) _ _ _ (rd y182 x45_3) [.int .i64 (rd y182 x45_3)] from rfl) (Reps.none _ _)))); intro v199 w45 ho46 hb hg_ hnew_; clear hg_ hnew_; (first | rw [← Ny198.out] at ho46 | (simp only [Int.reduceToNat] at ho46; rw [← Ny198.out] at ho46)); have n0_ := Aside0.mk (Kd.V_elder' (by (with_reducible repeat (first | apply Kd.V_alloc | apply Kd.V_drewN | apply Kd.V_drew)); exact HO_2.out) (Kd.R_base ho46) hb); have n1_ := Aside0.mk (Kd.N_elder' (KN HO_8) (Kd.R_base ho46) hb); have n2_ := Aside0.mk (Kd.R_elder' (KR HO_10) (Kd.R_base ho46) hb); have n3_ := Aside0.mk (Kd.R_elder' (KR HO_11) (Kd.R_base ho46) hb); have n4_ := Aside0.mk (Kd.V_elder' (by (with_reducible repeat (first | apply Kd.V_alloc | apply Kd.V_drewN | apply Kd.V_drew)); exact HO_43.out) (Kd.R_base ho46) hb); have n5_ := Aside0.mk (Kd.R_elder' (KR HO196) (Kd.R_base ho46) hb); have n6_ := Aside0.mk (Kd.R_lower (Kd.R_new' (Kd.R_new' (Kd.R_new' (Kd.R_newM (M := fun k_ => (w.heap.size ≤ k_)) ho46 (below_size BB) (fun k_ h_ => h_)) (Kd.R_lt (KR HO_10))) (Kd.R_lt (KR HO_11))) (Kd.R_lt (KR HO196))) (below_size BB)); have n7_ := Aside0.mk (Kd.C_below (by repeat (first | (with_reducible exact HR178_0.out) | (with_reducible refine Kd.C_drewN ?_ _) | (with_reducible refine Kd.C_drew ?_) | (with_reducible refine Kd.C_alloc ?_ _) | exact HR178_0.out)) hb); have n8_ := Aside0.mk (Kd.C_below (by repeat (first | (with_reducible exact HR181_0.out) | (with_reducible refine Kd.C_drewN ?_ _) | (with_reducible refine Kd.C_drew ?_) | (with_reducible refine Kd.C_alloc ?_ _) | exact HR181_0.out)) hb); have n9_ := Aside0.mk (below_step BB hb); clear HO_2; clear HO_8; clear HO_10; clear HO_11; clear HO_43; clear HO196; clear HR178_0; clear HR181_0; clear HB; have HO_2 := n0_; have HO_8 := n1_; have HO_10 := n2_; have HO_11 := n3_; have HO_43 := n4_; have HO196 := n5_; have HO200 := n6_; have HR178_0 := n7_; have HR181_0 := n8_; have HB := n9_; clear n0_ n1_ n2_ n3_ n4_ n5_ n6_ n7_ n8_ n9_; clear hb ho46)); try go_wp2_with (first | (go_at_call 45; (with_reducible refine (spec_opDoor.calls _ _ l1 (rd (rd_L1 t171 x9_1) x32_2) (rd y182 x45_3) true _ ?side1 ?side2 A33.out).mono ?_); (case side1 => repeat (first | exact (Kd.C_below HR1.out HB.out) | (with_reducible refine Kd.C_drewN ?_ _) | (with_reducible refine Kd.C_drew ?_) | (with_reducible refine Kd.C_alloc ?_ _))); (case side2 => exact HC1.out); rintro e w' ⟨rfl, ⟨nd, rfl⟩⟩; (try first | exact ⟨rfl, _, World.drewN_drewN _ _ _⟩ | exact ⟨rfl, _, Eq.trans (World.drewN_drewN _ _ _) (congrArg (World.drewN _) (Nat.add_assoc _ _ _))⟩)) | ((with_reducible refine gate_dst (N := 70) rfl ?_); (try (refine gate_guard (by rfl) ?_; dsimp only)); refine Kd.R_lit (Kd.int .i64) _ 3 ?hg (N := 70) ?hd (xs := ([(rd (rd_L1 t171 x9_1) x32_2), rd y182 x45_3] : List Int)) (inner := [.int .i64 (rd (rd_L1 t171 x9_1) x32_2), .int .i64 (rd y182 x45_3)]) (ok := fun _ => True) (okp := fun _ => True) ?hr ?hp (fun _ hk => hk) trivial (Below.refl _ _) (Nat.le_refl _) (by simp) ?_; (case hd => rfl); (case hg => rfl); (case hr => first | (go_simp; done) | (go_simp; rfl)); (case hp => exact (Reps.one (show Kd.M (Kd.int .i64) _ _ _ (rd (rd_L1 t171 x9_1) x32_2) [.int .i64 (rd (rd_L1 t171 x9_1) x32_2)] from rfl) (Reps.one (show Kd.M (Kd.int .i64) _ _ _ (rd y182 x45_3) [.int .i64 (rd y182 x45_3)] from rfl) (Reps.none _ _)))); intro v195 w41 ho42 hb hg_ hnew_; clear hg_ hnew_; (first | rw [← Ny194.out] at ho42 | (simp only [Int.reduceToNat] at ho42; rw [← Ny194.out] at ho42)); have n0_ := Aside0.mk (Kd.V_elder' (by (with_reducible repeat (first | apply Kd.V_alloc | apply Kd.V_drewN | apply Kd.V_drew)); exact HO_2.out) (Kd.R_base ho42) hb); have n1_ := Aside0.mk (Kd.N_elder' (KN HO_8) (Kd.R_base ho42) hb); have n2_ := Aside0.mk (Kd.R_elder' (KR HO_10) (Kd.R_base ho42) hb); have n3_ := Aside0.mk (Kd.R_elder' (KR HO_11) (Kd.R_base ho42) hb); have n4_ := Aside0.mk (Kd.V_elder' (by (with_reducible repeat (first | apply Kd.V_alloc | apply Kd.V_drewN | apply Kd.V_drew)); exact HO_43.out) (Kd.R_base ho42) hb); have n5_ := Aside0.mk (Kd.R_lower (Kd.R_new' (Kd.R_new' (Kd.R_newM (M := fun k_ => (w.heap.size ≤ k_)) ho42 (below_size BB) (fun k_ h_ => h_)) (Kd.R_lt (KR HO_10))) (Kd.R_lt (KR HO_11))) (below_size BB)); have n6_ := Aside0.mk (Kd.C_below (by repeat (first | (with_reducible exact HR178_0.out) | (with_reducible refine Kd.C_drewN ?_ _) | (with_reducible refine Kd.C_drew ?_) | (with_reducible refine Kd.C_alloc ?_ _) | exact HR178_0.out)) hb); have n7_ := Aside0.mk (Kd.C_below (by repeat (first | (with_reducible exact HR181_0.out) | (with_reducible refine Kd.C_drewN ?_ _) | (with_reducible refine Kd.C_drew ?_) | (with_reducible refine Kd.C_alloc ?_ _) | exact HR181_0.out)) hb); have n8_ := Aside0.mk (below_step BB hb); clear HO_2; clear HO_8; clear HO_10; clear HO_11; clear HO_43; clear HR178_0; clear HR181_0; clear HB; have HO_2 := n0_; have HO_8 := n1_; have HO_10 := n2_; have HO_11 := n3_; have HO_43 := n4_; have HO196 := n5_; have HR178_0 := n6_; have HR181_0 := n7_; have HB := n8_; clear n0_ n1_ n2_ n3_ n4_ n5_ n6_ n7_ n8_; clear hb ho42; obtain ⟨Ao43, co43, eo43⟩ := Kd.R_slice HO196.out; subst eo43; obtain ⟨Ao44, co44, eo44⟩ := Kd.V_slice HO_2.out; subst eo44) | (go_at_call 21; (with_reducible refine (spec_l1Same.calls k3 _ _ y194 _ _ x2_1 false _ ?side1 ?side2 ?side3 ?side4 A35.out).mono ?_); (case side1 => repeat (first | exact (Kd.R_reads' HO196.out).2.2 | (with_reducible refine Kd.C_drewN ?_ _) | (with_reducible refine Kd.C_drew ?_) | (with_reducible refine Kd.C_alloc ?_ _))); (case side2 => exact (Kd.R_reads' HO196.out).2.1); (case side3 => repeat (first | exact (Kd.V_reads' HO_2.out).2.2 | (with_reducible refine Kd.C_drewN ?_ _) | (with_reducible refine Kd.C_drew ?_) | (with_reducible refine Kd.C_alloc ?_ _))); (case side4 => exact (Kd.V_reads' HO_2.out).2.1); rintro e w' ⟨rfl, ⟨nd, rfl⟩⟩; (try first | exact ⟨rfl, _, World.drewN_drewN _ _ _⟩ | exact ⟨rfl, _, Eq.trans (World.drewN_drewN _ _ _) (congrArg (World.drewN _) (Nat.add_assoc _ _ _))⟩)) | ((with_reducible refine gate_dst (N := 77) rfl ?_); (try (refine gate_guard (by rfl) ?_; dsimp only)); refine Kd.R_lit (Kd.int .i64) _ 3 ?hg (N := 77) ?hd (xs := ([(rd (rd_L1 t171 x9_1) x32_2), rd y182 x45_3] : List Int)) (inner := [.int .i64 (rd (rd_L1 t171 x9_1) x32_2), .int .i64 (rd y182 x45_3)]) (ok := fun _ => True) (okp := fun _ => True) ?hr ?hp (fun _ hk => hk) trivial (Below.refl _ _) (Nat.le_refl _) (by simp) ?_; (case hd => rfl); (case hg => rfl); (case hr => first | (go_simp; done) | (go_simp; rfl)); (case hp => exact (Reps.one (show Kd.M (Kd.int .i64) _ _ _ (rd (rd_L1 t171 x9_1) x32_2) [.int .i64 (rd (rd_L1 t171 x9_1) x32_2)] from rfl) (Reps.one (show Kd.M (Kd.int .i64) _ _ _ (rd y182 x45_3) [.int .i64 (rd y182 x45_3)] from rfl) (Reps.none _ _)))); intro v199 w45 ho46 hb hg_ hnew_; clear hg_ hnew_; (first | rw [← Ny198.out] at ho46 | (simp only [Int.reduceToNat] at ho46; rw [← Ny198.out] at ho46)); have n0_ := Aside0.mk (Kd.V_elder' (by (with_reducible repeat (first | apply Kd.V_alloc | apply Kd.V_drewN | apply Kd.V_drew)); exact HO_2.out) (Kd.R_base ho46) hb); have n1_ := Aside0.mk (Kd.N_elder' (KN HO_8) (Kd.R_base ho46) hb); have n2_ := Aside0.mk (Kd.R_elder' (KR HO_10) (Kd.R_base ho46) hb); have n3_ := Aside0.mk (Kd.R_elder' (KR HO_11) (Kd.R_base ho46) hb); have n4_ := Aside0.mk (Kd.V_elder' (by (with_reducible repeat (first | apply Kd.V_alloc | apply Kd.V_drewN | apply Kd.V_drew)); exact HO_43.out) (Kd.R_base ho46) hb); have n5_ := Aside0.mk (Kd.R_elder' (KR HO196) (Kd.R_base ho46) hb); have n6_ := Aside0.mk (Kd.R_lower (Kd.R_new' (Kd.R_new' (Kd.R_new' (Kd.R_newM (M := fun k_ => (w.heap.size ≤ k_)) ho46 (below_size BB) (fun k_ h_ => h_)) (Kd.R_lt (KR HO_10))) (Kd.R_lt (KR HO_11))) (Kd.R_lt (KR HO196))) (below_size BB)); have n7_ := Aside0.mk (Kd.C_below (by repeat (first | (with_reducible exact HR178_0.out) | (with_reducible refine Kd.C_drewN ?_ _) | (with_reducible refine Kd.C_drew ?_) | (with_reducible refine Kd.C_alloc ?_ _) | exact HR178_0.out)) hb); have n8_ := Aside0.mk (Kd.C_below (by repeat (first | (with_reducible exact HR181_0.out) | (with_reducible refine Kd.C_drewN ?_ _) | (with_reducible refine Kd.C_drew ?_) | (with_reducible refine Kd.C_alloc ?_ _) | exact HR181_0.out)) hb); have n9_ := Aside0.mk (below_step BB hb); clear HO_2; clear HO_8; clear HO_10; clear HO_11; clear HO_43; clear HO196; clear HR178_0; clear HR181_0; clear HB; have HO_2 := n0_; have HO_8 := n1_; have HO_10 := n2_; have HO_11 := n3_; have HO_43 := n4_; have HO196 := n5_; have HO200 := n6_; have HR178_0 := n7_; have HR181_0 := n8_; have HB := n9_; clear n0_ n1_ n2_ n3_ n4_ n5_ n6_ n7_ n8_ n9_; clear hb ho46)))
                                                        go_roundg k3
                                                        case measure => have := HK1.out; have := HK2.out; have := HK3.out; omega
                                                        case rel => exact ⟨(y198), (wrap64 (x45_3 + 1)), RF, H', ⟨by have := HK1.out; have := HK2.out; have := HK3.out; omega⟩, ⟨by (with_reducible repeat (first | apply Kd.V_alloc | apply Kd.V_drewN | apply Kd.V_drew)); exact Kd.V_mono HO_2.out (fun _ hk => ⟨hk.1.1.1, ⟨hk.1.1.2.1, ⟨hk.1.1.2.2.1, hk.2⟩⟩⟩)⟩, ⟨by (with_reducible repeat (first | apply Kd.N_alloc | apply Kd.N_drewN | apply Kd.N_drew)); exact Kd.N_mono HO_8.out (fun _ hk => ⟨hk.1.1.1, ⟨hk.1.1.2.1, hk.2⟩⟩)⟩, ⟨by (with_reducible repeat (first | apply Kd.R_alloc | apply Kd.R_drewN | apply Kd.R_drew)); exact Kd.R_mono HO_10.out (fun _ hk => ⟨hk.1.1.1, hk.2⟩)⟩, ⟨by (with_reducible repeat (first | apply Kd.R_alloc | apply Kd.R_drewN | apply Kd.R_drew)); exact Kd.R_mono HO200.out (fun _ hk => ⟨hk.1.1.1.1, hk.1.1.2⟩)⟩, ⟨by (with_reducible repeat (first | apply Kd.V_alloc | apply Kd.V_drewN | apply Kd.V_drew)); exact Kd.V_mono HO_43.out (fun _ hk => ⟨hk.1.1.1, ⟨hk.1.1.2.1, ⟨hk.1.1.2.2.1, hk.2⟩⟩⟩)⟩, ⟨by repeat (first | (with_reducible exact HR178_0.out) | (with_reducible refine Kd.C_drewN ?_ _) | (with_reducible refine Kd.C_drew ?_) | (with_reducible refine Kd.C_alloc ?_ _) | exact HR178_0.out)⟩, ⟨by repeat (first | (with_reducible exact HR181_0.out) | (with_reducible refine Kd.C_drewN ?_ _) | (with_reducible refine Kd.C_drew ?_) | (with_reducible refine Kd.C_alloc ?_ _) | exact HR181_0.out)⟩, ⟨BB⟩⟩
                                                    · replace c34 := Bool.eq_false_iff.mpr c34
                                                      subst c34
                                                      have H1 : (spec_opWalk.l2 k3 l1 x2_1 t171 x9_1 y175 x11_3 (rd (rd_L1 t171 x9_1) x32_2) (rd_L1 t171 x9_1) ((rd_L1 t171 x9_1).length : Int) x32_2 y182 (y182.length : Int) (wrap64 (x45_3 + 1))) = some (r1, r2) := by rw [if_neg (show ¬ (false = true) by decide)] at H; exact H
                                                      clear H
                                                      have H := H1
                                                      clear H1
                                                      have H' := Aside0.mk H
                                                      clear H
                                                      have p187 : 0 ≤ (x45_3 : Int) := of_decide_eq_true AS
                                                      have q187 : x45_3 < (y182.length : Int) := of_decide_eq_true AS
                                                      obtain ⟨ad187, e187, hx187_0⟩ := Kd.at_int (Kd.V_reads' HO_43.out).2.2 x45_3 p187 q187
                                                      cases e187
                                                      replace p187 := eq_true p187
                                                      replace q187 := eq_true q187
                                                      have p188 : 0 ≤ ((rd (rd_L1 t171 x9_1) x32_2) : Int) := of_decide_eq_true AS
                                                      have q188 : (rd (rd_L1 t171 x9_1) x32_2) < (l1.length : Int) := of_decide_eq_true AS
                                                      obtain ⟨ad188, e188, hx188_0⟩ := Kd.at_int HR1.out (rd (rd_L1 t171 x9_1) x32_2) p188 q188
                                                      cases e188
                                                      try (replace hx188_0 := (HB.out.cell (World.block_lt_of_cell? w _ hx188_0)).trans hx188_0)
                                                      replace p188 := eq_true p188
                                                      replace q188 := eq_true q188
                                                      have p189 : 0 ≤ ((rd y182 x45_3) : Int) := of_decide_eq_true AS
                                                      have q189 : (rd y182 x45_3) < (l1.length : Int) := of_decide_eq_true AS
                                                      obtain ⟨ad189, e189, hx189_0⟩ := Kd.at_int HR1.out (rd y182 x45_3) p189 q189
                                                      obtain rfl : ad188 = ad189 := (by injection e189)
                                                      try (replace hx189_0 := (HB.out.cell (World.block_lt_of_cell? w _ hx189_0)).trans hx189_0)
                                                      replace p189 := eq_true p189
                                                      replace q189 := eq_true q189
                                                      go_wp2_with (first | (go_at_call 45; (with_reducible refine (spec_opDoor.calls _ _ l1 (rd (rd_L1 t171 x9_1) x32_2) (rd y182 x45_3) false _ ?side1 ?side2 A33.out).mono ?_); (case side1 => repeat (first | exact (Kd.C_below HR1.out HB.out) | (with_reducible refine Kd.C_drewN ?_ _) | (with_reducible refine Kd.C_drew ?_) | (with_reducible refine Kd.C_alloc ?_ _))); (case side2 => exact HC1.out); rintro e w' ⟨rfl, ⟨nd, rfl⟩⟩; (try first | exact ⟨rfl, _, World.drewN_drewN _ _ _⟩ | exact ⟨rfl, _, Eq.trans (World.drewN_drewN _ _ _) (congrArg (World.drewN _) (Nat.add_assoc _ _ _))⟩)))
                                                      repeat (go_quiet (first | (go_at_call 45; (with_reducible refine (spec_opDoor.calls _ _ l1 (rd (rd_L1 t171 x9_1) x32_2) (rd y182 x45_3) false _ ?side1 ?side2 A33.out).mono ?_); (case side1 => repeat (first | exact (Kd.C_below HR1.out HB.out) | (with_reducible refine Kd.C_drewN ?_ _) | (with_reducible refine Kd.C_drew ?_) | (with_reducible refine Kd.C_alloc ?_ _))); (case side2 => exact HC1.out); rintro e w' ⟨rfl, ⟨nd, rfl⟩⟩; (try first | exact ⟨rfl, _, World.drewN_drewN _ _ _⟩ | exact ⟨rfl, _, Eq.trans (World.drewN_drewN _ _ _) (congrArg (World.drewN _) (Nat.add_assoc _ _ _))⟩))); try go_wp2_with (first | (go_at_call 45; (with_reducible refine (spec_opDoor.calls _ _ l1 (rd (rd_L1 t171 x9_1) x32_2) (rd y182 x45_3) false _ ?side1 ?side2 A33.out).mono ?_); (case side1 => repeat (first | exact (Kd.C_below HR1.out HB.out) | (with_reducible refine Kd.C_drewN ?_ _) | (with_reducible refine Kd.C_drew ?_) | (with_reducible refine Kd.C_alloc ?_ _))); (case side2 => exact HC1.out); rintro e w' ⟨rfl, ⟨nd, rfl⟩⟩; (try first | exact ⟨rfl, _, World.drewN_drewN _ _ _⟩ | exact ⟨rfl, _, Eq.trans (World.drewN_drewN _ _ _) (congrArg (World.drewN _) (Nat.add_assoc _ _ _))⟩))))
                                                      go_roundg k3
                                                      case measure => have := HK1.out; have := HK2.out; have := HK3.out; omega
                                                      case rel => exact ⟨(x11_3), (wrap64 (x45_3 + 1)), RF, H', ⟨by have := HK1.out; have := HK2.out; have := HK3.out; omega⟩, ⟨by (with_reducible repeat (first | apply Kd.V_alloc | apply Kd.V_drewN | apply Kd.V_drew)); exact HO_2.out⟩, ⟨KN HO_8⟩, ⟨KR HO_10⟩, ⟨KR HO_11⟩, ⟨by (with_reducible repeat (first | apply Kd.V_alloc | apply Kd.V_drewN | apply Kd.V_drew)); exact HO_43.out⟩, ⟨by repeat (first | (with_reducible exact HR178_0.out) | (with_reducible refine Kd.C_drewN ?_ _) | (with_reducible refine Kd.C_drew ?_) | (with_reducible refine Kd.C_alloc ?_ _) | exact HR178_0.out)⟩, ⟨by repeat (first | (with_reducible exact HR181_0.out) | (with_reducible refine Kd.C_drewN ?_ _) | (with_reducible refine Kd.C_drew ?_) | (with_reducible refine Kd.C_alloc ?_ _) | exact HR181_0.out)⟩, ⟨BB⟩⟩
                                                · rw [if_neg c29] at H
                                                  exact absurd H (by simp)
                                              · rw [if_neg c28] at H
                                                exact absurd H (by simp)
                                            · rw [if_neg c27] at H
                                              exact absurd H (by simp)
                                          · rw [if_neg c26] at H
                                            exact absurd H (by simp)
                                        · rw [if_neg c25] at H
                                          exact absurd H (by simp)
                                      · rw [if_neg c24] at H
                                        exact absurd H (by simp)
                                    · rw [if_neg c23] at H
                                      have c23b0 : decide (x45_3 < (y182.length : Int)) = false := decide_eq_false c23
                                      clear c23
                                      have H' := Aside0.mk H
                                      clear H
                                      go_wp2
                                      repeat (go_quiet (fail); try go_wp2)
                                      go_roundg k3
                                      case measure => have := HK1.out; have := HK2.out; have := HK3.out; omega
                                      case rel => exact ⟨(x11_3), (wrap64 (x32_2 + 1)), RF, H', ⟨by have := HK1.out; have := HK2.out; have := HK3.out; omega⟩, ⟨by (with_reducible repeat (first | apply Kd.V_alloc | apply Kd.V_drewN | apply Kd.V_drew)); exact HO_2.out⟩, ⟨KN HO_8⟩, ⟨KR HO_10⟩, ⟨KR HO_11⟩, ⟨by repeat (first | (with_reducible exact HR178_0.out) | (with_reducible refine Kd.C_drewN ?_ _) | (with_reducible refine Kd.C_drew ?_) | (with_reducible refine Kd.C_alloc ?_ _) | exact HR178_0.out)⟩, ⟨BB⟩⟩
                              · rw [if_neg c21] at H
                                exact absurd H (by simp)
                            · rw [if_neg c20] at H
                              exact absurd H (by simp)
                          · rw [if_neg c18] at H
                            exact absurd H (by simp)
                        · rw [if_neg c17] at H
                          exact absurd H (by simp)
                      · rw [if_neg c16] at H
                        exact absurd H (by simp)
                    · rw [if_neg c15] at H
                      exact absurd H (by simp)
                  · rw [if_neg c14] at H
                    have c14b0 : decide (x32_2 < ((rd_L1 t171 x9_1).length : Int)) = false := decide_eq_false c14
                    clear c14
                    replace H := Option.bind_eq_some_iff.mp H
                    obtain ⟨t179, A470, H⟩ := H
                    replace H : (spec_opWalk.l0 k2 l1 x11_2 t171 t179 y175) = some (r1, r2) := H
                    have A47 := Aside0.mk A470
                    clear A470
                    have H' := Aside0.mk H
                    clear H
                    obtain ⟨Ao48, co48, eo48⟩ := Kd.R_slice HO_11.out
                    subst eo48
                    go_wp2_with (first | (go_at_call 49; (with_reducible refine (spec_doNext.calls k2 _ _ t171 _ _ x11_2 x9_1 t179 _ ?side1 ?side2 ?side3 ?side4 A47.out).mono ?_); (case side1 => repeat (first | exact (Kd.N_reads' HO_8.out).2.2 | (with_reducible refine Kd.C_drewN ?_ _) | (with_reducible refine Kd.C_drew ?_) | (with_reducible refine Kd.C_alloc ?_ _))); (case side2 => exact (Kd.N_reads' HO_8.out).2.1); (case side3 => repeat (first | exact (Kd.R_reads' HO_11.out).2.2 | (with_reducible refine Kd.C_drewN ?_ _) | (with_reducible refine Kd.C_drew ?_) | (with_reducible refine Kd.C_alloc ?_ _))); (case side4 => exact (Kd.R_reads' HO_11.out).2.1); rintro e w49 ⟨rfl, hb⟩; have n0_ := Aside0.mk (Kd.V_below (by (with_reducible repeat (first | apply Kd.V_alloc | apply Kd.V_drewN | apply Kd.V_drew)); exact HO_2.out) hb); have n1_ := Aside0.mk (Kd.N_below (KN HO_8) hb); have n2_ := Aside0.mk (Kd.R_below (KR HO_10) hb); have n3_ := Aside0.mk (Kd.R_below (KR HO_11) hb); have n4_ := Aside0.mk (Kd.C_below (by repeat (first | (with_reducible exact HR178_0.out) | (with_reducible refine Kd.C_drewN ?_ _) | (with_reducible refine Kd.C_drew ?_) | (with_reducible refine Kd.C_alloc ?_ _) | exact HR178_0.out)) hb); have n5_ := Aside0.mk (below_step BB hb); clear HO_2; clear HO_8; clear HO_10; clear HO_11; clear HR178_0; clear HB; have HO_2 := n0_; have HO_8 := n1_; have HO_10 := n2_; have HO_11 := n3_; have HR178_0 := n4_; have HB := n5_; clear n0_ n1_ n2_ n3_ n4_ n5_; (try clear hb); (try clear hb2); (try clear hk); (try clear hi)))
                    repeat (go_quiet (first | (go_at_call 49; (with_reducible refine (spec_doNext.calls k2 _ _ t171 _ _ x11_2 x9_1 t179 _ ?side1 ?side2 ?side3 ?side4 A47.out).mono ?_); (case side1 => repeat (first | exact (Kd.N_reads' HO_8.out).2.2 | (with_reducible refine Kd.C_drewN ?_ _) | (with_reducible refine Kd.C_drew ?_) | (with_reducible refine Kd.C_alloc ?_ _))); (case side2 => exact (Kd.N_reads' HO_8.out).2.1); (case side3 => repeat (first | exact (Kd.R_reads' HO_11.out).2.2 | (with_reducible refine Kd.C_drewN ?_ _) | (with_reducible refine Kd.C_drew ?_) | (with_reducible refine Kd.C_alloc ?_ _))); (case side4 => exact (Kd.R_reads' HO_11.out).2.1); rintro e w49 ⟨rfl, hb⟩; have n0_ := Aside0.mk (Kd.V_below (by (with_reducible repeat (first | apply Kd.V_alloc | apply Kd.V_drewN | apply Kd.V_drew)); exact HO_2.out) hb); have n1_ := Aside0.mk (Kd.N_below (KN HO_8) hb); have n2_ := Aside0.mk (Kd.R_below (KR HO_10) hb); have n3_ := Aside0.mk (Kd.R_below (KR HO_11) hb); have n4_ := Aside0.mk (Kd.C_below (by repeat (first | (with_reducible exact HR178_0.out) | (with_reducible refine Kd.C_drewN ?_ _) | (with_reducible refine Kd.C_drew ?_) | (with_reducible refine Kd.C_alloc ?_ _) | exact HR178_0.out)) hb); have n5_ := Aside0.mk (below_step BB hb); clear HO_2; clear HO_8; clear HO_10; clear HO_11; clear HR178_0; clear HB; have HO_2 := n0_; have HO_8 := n1_; have HO_10 := n2_; have HO_11 := n3_; have HR178_0 := n4_; have HB := n5_; clear n0_ n1_ n2_ n3_ n4_ n5_; (try clear hb); (try clear hb2); (try clear hk); (try clear hi))); try go_wp2_with (first | (go_at_call 49; (with_reducible refine (spec_doNext.calls k2 _ _ t171 _ _ x11_2 x9_1 t179 _ ?side1 ?side2 ?side3 ?side4 A47.out).mono ?_); (case side1 => repeat (first | exact (Kd.N_reads' HO_8.out).2.2 | (with_reducible refine Kd.C_drewN ?_ _) | (with_reducible refine Kd.C_drew ?_) | (with_reducible refine Kd.C_alloc ?_ _))); (case side2 => exact (Kd.N_reads' HO_8.out).2.1); (case side3 => repeat (first | exact (Kd.R_reads' HO_11.out).2.2 | (with_reducible refine Kd.C_drewN ?_ _) | (with_reducible refine Kd.C_drew ?_) | (with_reducible refine Kd.C_alloc ?_ _))); (case side4 => exact (Kd.R_reads' HO_11.out).2.1); rintro e w49 ⟨rfl, hb⟩; have n0_ := Aside0.mk (Kd.V_below (by (with_reducible repeat (first | apply Kd.V_alloc | apply Kd.V_drewN | apply Kd.V_drew)); exact HO_2.out) hb); have n1_ := Aside0.mk (Kd.N_below (KN HO_8) hb); have n2_ := Aside0.mk (Kd.R_below (KR HO_10) hb); have n3_ := Aside0.mk (Kd.R_below (KR HO_11) hb); have n4_ := Aside0.mk (Kd.C_below (by repeat (first | (with_reducible exact HR178_0.out) | (with_reducible refine Kd.C_drewN ?_ _) | (with_reducible refine Kd.C_drew ?_) | (with_reducible refine Kd.C_alloc ?_ _) | exact HR178_0.out)) hb); have n5_ := Aside0.mk (below_step BB hb); clear HO_2; clear HO_8; clear HO_10; clear HO_11; clear HR178_0; clear HB; have HO_2 := n0_; have HO_8 := n1_; have HO_10 := n2_; have HO_11 := n3_; have HR178_0 := n4_; have HB := n5_; clear n0_ n1_ n2_ n3_ n4_ n5_; (try clear hb); (try clear hb2); (try clear hk); (try clear hi))))
                    go_roundg k2
                    case measure => have := HK1.out; have := HK2.out; omega
                    case rel => exact ⟨(x11_2), (t179), (y175), RF, H', ⟨by have := HK1.out; have := HK2.out; omega⟩, ⟨Kd.V_mono (Kd.R_V (Kd.R_apart' HO_11.out (Kd.N_typed HO_8.out) (by decide))) (fun k_ hk => ⟨.inr hk.1.1, hk.2, hk.1.2⟩)⟩, ⟨by (with_reducible repeat (first | apply Kd.N_alloc | apply Kd.N_drewN | apply Kd.N_drew)); exact Kd.N_mono HO_8.out (fun _ hk => ⟨hk.1, hk.2.1⟩)⟩, ⟨by (with_reducible repeat (first | apply Kd.R_alloc | apply Kd.R_drewN | apply Kd.R_drew)); exact Kd.R_mono HO_10.out (fun _ hk => hk.1)⟩, ⟨BB⟩⟩
            · rw [if_neg c12] at H
              exact absurd H (by simp)
          · rw [if_neg c11] at H
            exact absurd H (by simp)
        · rw [if_neg c10] at H
          exact absurd H (by simp)
      · rw [if_neg c9] at H
        have c9b0 : decide (0 ≤ x9_1) = false := decide_eq_false c9
        clear c9
        simp only [Option.some.injEq, Prod.mk.injEq] at H
        obtain ⟨rfl, rfl⟩ := H
        go_wp2
        repeat (go_quiet (fail); try go_wp2)
        go_ret2
        exact ⟨_, _, by first | rfl | (simp [errW_none, errW_some] <;> rfl) | (simp [*, errW_none, errW_some] <;> rfl), by (with_reducible repeat (first | apply Kd.R_alloc | apply Kd.R_drewN | apply Kd.R_drew)); exact Kd.R_mono HO_10.out (fun _ hk => ⟨hk, (by simp [Value.ownBlock])⟩), by first | exact Kd.R_nil _ _ _ _ _ | exact Kd.N_nil _ _ _ _ _ | exact Kd.V_nil _ _ _ _ _ | exact Kd.Q_nil _ _ _ _ _ | exact Kd.S_nil _ _ _ _ _, BB⟩

end Go.Proofs.Ytgpplbaloajgdac.PFnExactSquareWalk
