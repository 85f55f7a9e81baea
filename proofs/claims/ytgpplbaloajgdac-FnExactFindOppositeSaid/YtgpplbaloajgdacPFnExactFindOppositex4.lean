-- Written by a program of this session (wip/tools/pp.sh) out of the translation; Lean checks it.
import Derived.Test.YtgpplbaloajgdacPFnExactFindOppositex0
import Derived.Test.YtgpplbaloajgdacPFnExactFindOppositex1
import Derived.Test.YtgpplbaloajgdacPFnExactFindOppositex2
import Derived.Test.YtgpplbaloajgdacPFnExactFindOppositex3
namespace Go.Proofs.Ytgpplbaloajgdac.PFnExactFindOpposite
open Go.RowKit Go.Proofs.YtgpplbaloajgdacOwn Go.Proofs.YtgpplbaloajgdacW.PrintWords Go.Proofs.YtgpplbaloajgdacW.PrintLast Go.Proofs.YtgpplbaloajgdacW.PrintMore
attribute [local go_sem] max2_int min2_int max_two min_two max_three min_three max_four min_four   -- for this text's walks alone
set_option linter.unusedVariables false
set_option linter.unusedSimpArgs false

/-! ### spec_opWalk: function 23 -/
mutual
def spec_opWalk.l0 : Nat → List Int → List Int → List (List Int) → Int → List Int → Option (List Int × List Int)
  | 0, _, _, _, _, _ => none
  | k + 1, x1, x2, x8, x9, x10 => if x9 ≥ 0 then (if x10.length < 17592186044416 then (if 0 ≤ x9 then (if x9 < (x8.length : Int) then (spec_opWalk.l1 k x1 x2 x8 x9 (x10 ++ [x9]) ([] : List Int) (rd_L1 x8 x9) ((rd_L1 x8 x9).length : Int) 0) else (none)) else (none)) else (none)) else (some (x10, ([] : List Int)))
def spec_opWalk.l1 : Nat → List Int → List Int → List (List Int) → Int → List Int → List Int → List Int → Int → Int → Option (List Int × List Int)
  | 0, _, _, _, _, _, _, _, _, _ => none
  | k + 1, x1, x2, x8, x9, x10, x11, x30, x31, x32 => if x32 < x31 then (if 0 ≤ x32 then (if x32 < (x30.length : Int) then (if 0 ≤ x9 then (if x9 < (x8.length : Int) then (if 0 ≤ (wrap64 (x32 + 1)) then (if (wrap64 (x32 + 1)) ≤ ((rd_L1 x8 x9).length : Int) then ((some ((rd_L1 x8 x9).drop ((wrap64 (x32 + 1)) : Int).toNat : List Int)).bind fun y186 => (spec_opWalk.l2 k x1 x2 x8 x9 x10 x11 (rd x30 x32) x30 x31 x32 y186 (y186.length : Int) 0)) else (none)) else (none)) else (none)) else (none)) else (none)) else (none)) else ((spec_doNext.f k x8 x11 x9).bind fun t183 => (spec_opWalk.l0 k x1 x11 x8 t183 x10))
def spec_opWalk.l2 : Nat → List Int → List Int → List (List Int) → Int → List Int → List Int → Int → List Int → Int → Int → List Int → Int → Int → Option (List Int × List Int)
  | 0, _, _, _, _, _, _, _, _, _, _, _, _, _ => none
  | k + 1, x1, x2, x8, x9, x10, x11, x13, x30, x31, x32, x43, x44, x45 => if x45 < x44 then (if 0 ≤ x45 then (if x45 < (x43.length : Int) then (if 0 ≤ x13 then (if x13 < (x1.length : Int) then (if 0 ≤ (rd x43 x45) then (if (rd x43 x45) < (x1.length : Int) then (if (wrap64 ((rd x1 x13) + (rd x1 (rd x43 x45)))) = 0 then (some (x10, (([x13, rd x43 x45] : List Int)))) else ((spec_opDoor.f x1 x13 (rd x43 x45)).bind fun t197 => (if t197 = true then ((spec_l1Same.f k (([x13, rd x43 x45] : List Int)) x2).bind fun t201 => (if t201 = true then (spec_opWalk.l2 k x1 x2 x8 x9 x10 x11 x13 x30 x31 x32 x43 x44 (wrap64 (x45 + 1))) else (spec_opWalk.l2 k x1 x2 x8 x9 x10 (([x13, rd x43 x45] : List Int)) x13 x30 x31 x32 x43 x44 (wrap64 (x45 + 1))))) else (spec_opWalk.l2 k x1 x2 x8 x9 x10 x11 x13 x30 x31 x32 x43 x44 (wrap64 (x45 + 1)))))) else (none)) else (none)) else (none)) else (none)) else (none)) else (none)) else (spec_opWalk.l1 k x1 x2 x8 x9 x10 x11 x30 x31 (wrap64 (x32 + 1)))
end
def spec_opWalk.f (k : Nat) (a0 : Int) (l1 : List Int) (l2 : List Int) : Option (List Int × List Int) := (spec_opCells.f k a0).bind fun t175 => ((spec_doNext.f k t175 l2 (-1)).bind fun t178 => (spec_opWalk.l0 k l1 l2 t175 t178 ([] : List Int)))
theorem spec_opWalk.mono_l : ∀ k, (∀ y0 y1 y2 y3 y4, LeO (spec_opWalk.l0 k y0 y1 y2 y3 y4) (spec_opWalk.l0 (k + 1) y0 y1 y2 y3 y4)) ∧ (∀ y0 y1 y2 y3 y4 y5 y6 y7 y8, LeO (spec_opWalk.l1 k y0 y1 y2 y3 y4 y5 y6 y7 y8) (spec_opWalk.l1 (k + 1) y0 y1 y2 y3 y4 y5 y6 y7 y8)) ∧ (∀ y0 y1 y2 y3 y4 y5 y6 y7 y8 y9 y10 y11 y12, LeO (spec_opWalk.l2 k y0 y1 y2 y3 y4 y5 y6 y7 y8 y9 y10 y11 y12) (spec_opWalk.l2 (k + 1) y0 y1 y2 y3 y4 y5 y6 y7 y8 y9 y10 y11 y12))
  | 0 => ⟨fun _ _ _ _ _ r h => by simp [spec_opWalk.l0] at h, fun _ _ _ _ _ _ _ _ _ r h => by simp [spec_opWalk.l1] at h, fun _ _ _ _ _ _ _ _ _ _ _ _ _ r h => by simp [spec_opWalk.l2] at h⟩
  | k + 1 => by
    obtain ⟨ih0, ih1, ih2⟩ := spec_opWalk.mono_l k
    refine ⟨?_, ?_, ?_⟩
    · intro y0 y1 y2 y3 y4
      unfold spec_opWalk.l0
      repeat' first
      | (with_reducible exact ih0 _ _ _ _ _)
      | (with_reducible exact ih1 _ _ _ _ _ _ _ _ _)
      | (with_reducible exact ih2 _ _ _ _ _ _ _ _ _ _ _ _ _)
      | (with_reducible exact spec_doNext.mono _ _ _ _)
      | (with_reducible exact spec_l1Same.mono _ _ _)
      | (with_reducible exact spec_opCells.mono _ _)
      | (with_reducible exact LeO.refl _)
      | (with_reducible exact LeO.none _)
      | (with_reducible refine LeO.ite ?_ ?_)
      | (with_reducible refine LeO.bind ?_ (fun _ => ?_))
      | exact ih0 _ _ _ _ _
      | exact ih1 _ _ _ _ _ _ _ _ _
      | exact ih2 _ _ _ _ _ _ _ _ _ _ _ _ _
      | exact spec_doNext.mono _ _ _ _
      | exact spec_l1Same.mono _ _ _
      | exact spec_opCells.mono _ _
      | exact LeO.none _
      | refine LeO.ite ?_ ?_
      | refine LeO.bind ?_ (fun _ => ?_)
    · intro y0 y1 y2 y3 y4 y5 y6 y7 y8
      unfold spec_opWalk.l1
      repeat' first
      | (with_reducible exact ih0 _ _ _ _ _)
      | (with_reducible exact ih1 _ _ _ _ _ _ _ _ _)
      | (with_reducible exact ih2 _ _ _ _ _ _ _ _ _ _ _ _ _)
      | (with_reducible exact spec_doNext.mono _ _ _ _)
      | (with_reducible exact spec_l1Same.mono _ _ _)
      | (with_reducible exact spec_opCells.mono _ _)
      | (with_reducible exact LeO.refl _)
      | (with_reducible exact LeO.none _)
      | (with_reducible refine LeO.ite ?_ ?_)
      | (with_reducible refine LeO.bind ?_ (fun _ => ?_))
      | exact ih0 _ _ _ _ _
      | exact ih1 _ _ _ _ _ _ _ _ _
      | exact ih2 _ _ _ _ _ _ _ _ _ _ _ _ _
      | exact spec_doNext.mono _ _ _ _
      | exact spec_l1Same.mono _ _ _
      | exact spec_opCells.mono _ _
      | exact LeO.none _
      | refine LeO.ite ?_ ?_
      | refine LeO.bind ?_ (fun _ => ?_)
    · intro y0 y1 y2 y3 y4 y5 y6 y7 y8 y9 y10 y11 y12
      unfold spec_opWalk.l2
      repeat' first
      | (with_reducible exact ih0 _ _ _ _ _)
      | (with_reducible exact ih1 _ _ _ _ _ _ _ _ _)
      | (with_reducible exact ih2 _ _ _ _ _ _ _ _ _ _ _ _ _)
      | (with_reducible exact spec_doNext.mono _ _ _ _)
      | (with_reducible exact spec_l1Same.mono _ _ _)
      | (with_reducible exact spec_opCells.mono _ _)
      | (with_reducible exact LeO.refl _)
      | (with_reducible exact LeO.none _)
      | (with_reducible refine LeO.ite ?_ ?_)
      | (with_reducible refine LeO.bind ?_ (fun _ => ?_))
      | exact ih0 _ _ _ _ _
      | exact ih1 _ _ _ _ _ _ _ _ _
      | exact ih2 _ _ _ _ _ _ _ _ _ _ _ _ _
      | exact spec_doNext.mono _ _ _ _
      | exact spec_l1Same.mono _ _ _
      | exact spec_opCells.mono _ _
      | exact LeO.none _
      | refine LeO.ite ?_ ?_
      | refine LeO.bind ?_ (fun _ => ?_)
theorem spec_opWalk.mono : ∀ a0 a1 a2 k, LeO (spec_opWalk.f k a0 a1 a2) (spec_opWalk.f (k + 1) a0 a1 a2) := by
  intro a0 a1 a2 k
  obtain ⟨ih0, ih1, ih2⟩ := spec_opWalk.mono_l k
  unfold spec_opWalk.f
  repeat' first
      | (with_reducible exact ih0 _ _ _ _ _)
      | (with_reducible exact ih1 _ _ _ _ _ _ _ _ _)
      | (with_reducible exact ih2 _ _ _ _ _ _ _ _ _ _ _ _ _)
      | (with_reducible exact spec_doNext.mono _ _ _ _)
      | (with_reducible exact spec_l1Same.mono _ _ _)
      | (with_reducible exact spec_opCells.mono _ _)
      | (with_reducible exact LeO.refl _)
      | (with_reducible exact LeO.none _)
      | (with_reducible refine LeO.ite ?_ ?_)
      | (with_reducible refine LeO.bind ?_ (fun _ => ?_))
      | exact ih0 _ _ _ _ _
      | exact ih1 _ _ _ _ _ _ _ _ _
      | exact ih2 _ _ _ _ _ _ _ _ _ _ _ _ _
      | exact spec_doNext.mono _ _ _ _
      | exact spec_l1Same.mono _ _ _
      | exact spec_opCells.mono _ _
      | exact LeO.none _
      | refine LeO.ite ?_ ?_
      | refine LeO.bind ?_ (fun _ => ?_)
set_option maxHeartbeats 8000000 in
set_option maxRecDepth 100000 in
theorem spec_opWalk.calls (k : Nat) (a0 : Int) (A1 : Option Addr) (c1 : Nat) (l1 : List Int) (P2_ : Nat → Prop) (A2 : Option Addr) (c2 : Nat) (l2 : List Int) (r1 : List Int) (r2 : List Int) (w : World) (hr1 : Kd.C (Kd.int .i64) w A1 l1.length l1) (hc1 : l1.length ≤ c1) (hs2 : Kd.V (Kd.int .i64) 3 w w.heap.size (fun k_ => P2_ k_) (.slice A2 l2.length c2) l2) (h : spec_opWalk.f k a0 l1 l2 = some (r1, r2)) :
    Calls Try.prog 23 #[.int .i64 a0, .slice A1 l1.length c1, .slice A2 l2.length c2] w fun e w' => ∃ v0_ v1_ : Value, e = .returned (.tuple #[v0_, v1_]) ∧ Kd.R (Kd.int .i64) 3 w' w.heap.size (fun k_ => (w.heap.size ≤ k_) ∧ some k_ ≠ (v1_ : Value).ownBlock) v0_ r1 ∧ Kd.R (Kd.int .i64) 3 w' w.heap.size (fun k_ => (w.heap.size ≤ k_) ∧ some k_ ≠ (v0_ : Value).ownBlock) v1_ r2 ∧ Below w.heap.size w w' := by
  have HR1 := Aside0.mk hr1
  have HC1 := Aside0.mk hc1
  clear hr1 hc1
  have HO2 := Aside0.mk (show Kd.V (Kd.int .i64) 3 w w.heap.size (fun k_ => (P2_ k_ ∨ w.heap.size ≤ k_)) (.slice A2 l2.length c2) l2 from Kd.V_mono hs2 (fun k_ hk => .inl hk))
  have HB := Aside0.mk (Below.refl w.heap.size w)
  have H : ((spec_opCells.f k a0).bind fun t175 => ((spec_doNext.f k t175 l2 (-1)).bind fun t178 => (spec_opWalk.l0 k l1 l2 t175 t178 ([] : List Int)))) = some (r1, r2) := h
  clear h
  replace H := Option.bind_eq_some_iff.mp H
  obtain ⟨t175, A40, H⟩ := H
  replace H : ((spec_doNext.f k t175 l2 (-1)).bind fun t178 => (spec_opWalk.l0 k l1 l2 t175 t178 ([] : List Int))) = some (r1, r2) := H
  have A4 := Aside0.mk A40
  clear A40
  replace H := Option.bind_eq_some_iff.mp H
  obtain ⟨t178, A50, H⟩ := H
  replace H : (spec_opWalk.l0 k l1 l2 t175 t178 ([] : List Int)) = some (r1, r2) := H
  have A5 := Aside0.mk A50
  clear A50
  have H' := Aside0.mk H
  clear H
  go_enter Try.func23, Try.ntmps23
  go_wp2_with (first | (go_at_call 48; (with_reducible refine (spec_opCells.calls k a0 t175 _ A4.out).mono ?_); rintro e w6 ⟨v176, rfl, ho0, hb⟩; have n0_ := Aside0.mk (Kd.V_elder' (by (with_reducible repeat (first | apply Kd.V_alloc | apply Kd.V_drewN | apply Kd.V_drew)); exact HO2.out) (Kd.N_base ho0) hb); have n1_ := Aside0.mk (Kd.N_lower (Kd.N_mono (ok' := fun k_ => (P2_ k_ ∨ w.heap.size ≤ k_)) ho0 (fun k_ hk_ => (.inr (Nat.le_trans (below_size BB) hk_)))) (below_size BB)); have n2_ := Aside0.mk (below_step BB hb); clear HO2; clear HB; have HO2 := n0_; have HO177 := n1_; have HB := n2_; clear n0_ n1_ n2_; (try clear hb); (try clear hb2); (try clear hk); (try clear hi); (try clear ho0); obtain ⟨Ao7, co7, eo7⟩ := Kd.N_slice HO177.out; subst eo7) | (go_at_call 49; (with_reducible refine (spec_doNext.calls k _ _ t175 _ _ l2 (-1) t178 _ ?side1 ?side2 ?side3 ?side4 A5.out).mono ?_); (case side1 => repeat (first | exact (Kd.N_reads' HO177.out).2.2 | (with_reducible refine Kd.C_drewN ?_ _) | (with_reducible refine Kd.C_drew ?_) | (with_reducible refine Kd.C_alloc ?_ _))); (case side2 => exact (Kd.N_reads' HO177.out).2.1); (case side3 => repeat (first | exact (Kd.V_reads' HO2.out).2.2 | (with_reducible refine Kd.C_drewN ?_ _) | (with_reducible refine Kd.C_drew ?_) | (with_reducible refine Kd.C_alloc ?_ _))); (case side4 => exact (Kd.V_reads' HO2.out).2.1); rintro e w8 ⟨rfl, hb⟩; have n0_ := Aside0.mk (Kd.V_below (by (with_reducible repeat (first | apply Kd.V_alloc | apply Kd.V_drewN | apply Kd.V_drew)); exact HO2.out) hb); have n1_ := Aside0.mk (Kd.N_below (KN HO177) hb); have n2_ := Aside0.mk (below_step BB hb); clear HO2; clear HO177; clear HB; have HO2 := n0_; have HO177 := n1_; have HB := n2_; clear n0_ n1_ n2_; (try clear hb); (try clear hb2); (try clear hk); (try clear hi)))
  repeat (go_quiet (first | (go_at_call 48; (with_reducible refine (spec_opCells.calls k a0 t175 _ A4.out).mono ?_); rintro e w6 ⟨v176, rfl, ho0, hb⟩; have n0_ := Aside0.mk (Kd.V_elder' (by (with_reducible repeat (first | apply Kd.V_alloc | apply Kd.V_drewN | apply Kd.V_drew)); exact HO2.out) (Kd.N_base ho0) hb); have n1_ := Aside0.mk (Kd.N_lower (Kd.N_mono (ok' := fun k_ => (P2_ k_ ∨ w.heap.size ≤ k_)) ho0 (fun k_ hk_ => (.inr (Nat.le_trans (below_size BB) hk_)))) (below_size BB)); have n2_ := Aside0.mk (below_step BB hb); clear HO2; clear HB; have HO2 := n0_; have HO177 := n1_; have HB := n2_; clear n0_ n1_ n2_; (try clear hb); (try clear hb2); (try clear hk); (try clear hi); (try clear ho0); obtain ⟨Ao7, co7, eo7⟩ := Kd.N_slice HO177.out; subst eo7) | (go_at_call 49; (with_reducible refine (spec_doNext.calls k _ _ t175 _ _ l2 (-1) t178 _ ?side1 ?side2 ?side3 ?side4 A5.out).mono ?_); (case side1 => repeat (first | exact (Kd.N_reads' HO177.out).2.2 | (with_reducible refine Kd.C_drewN ?_ _) | (with_reducible refine Kd.C_drew ?_) | (with_reducible refine Kd.C_alloc ?_ _))); (case side2 => exact (Kd.N_reads' HO177.out).2.1); (case side3 => repeat (first | exact (Kd.V_reads' HO2.out).2.2 | (with_reducible refine Kd.C_drewN ?_ _) | (with_reducible refine Kd.C_drew ?_) | (with_reducible refine Kd.C_alloc ?_ _))); (case side4 => exact (Kd.V_reads' HO2.out).2.1); rintro e w8 ⟨rfl, hb⟩; have n0_ := Aside0.mk (Kd.V_below (by (with_reducible repeat (first | apply Kd.V_alloc | apply Kd.V_drewN | apply Kd.V_drew)); exact HO2.out) hb); have n1_ := Aside0.mk (Kd.N_below (KN HO177) hb); have n2_ := Aside0.mk (below_step BB hb); clear HO2; clear HO177; clear HB; have HO2 := n0_; have HO177 := n1_; have HB := n2_; clear n0_ n1_ n2_; (try clear hb); (try clear hb2); (try clear hk); (try clear hi))); try go_wp2_with (first | (go_at_call 48; (with_reducible refine (spec_opCells.calls k a0 t175 _ A4.out).mono ?_); rintro e w6 ⟨v176, rfl, ho0, hb⟩; have n0_ := Aside0.mk (Kd.V_elder' (by (with_reducible repeat (first | apply Kd.V_alloc | apply Kd.V_drewN | apply Kd.V_drew)); exact HO2.out) (Kd.N_base ho0) hb); have n1_ := Aside0.mk (Kd.N_lower (Kd.N_mono (ok' := fun k_ => (P2_ k_ ∨ w.heap.size ≤ k_)) ho0 (fun k_ hk_ => (.inr (Nat.le_trans (below_size BB) hk_)))) (below_size BB)); have n2_ := Aside0.mk (below_step BB hb); clear HO2; clear HB; have HO2 := n0_; have HO177 := n1_; have HB := n2_; clear n0_ n1_ n2_; (try clear hb); (try clear hb2); (try clear hk); (try clear hi); (try clear ho0); obtain ⟨Ao7, co7, eo7⟩ := Kd.N_slice HO177.out; subst eo7) | (go_at_call 49; (with_reducible refine (spec_doNext.calls k _ _ t175 _ _ l2 (-1) t178 _ ?side1 ?side2 ?side3 ?side4 A5.out).mono ?_); (case side1 => repeat (first | exact (Kd.N_reads' HO177.out).2.2 | (with_reducible refine Kd.C_drewN ?_ _) | (with_reducible refine Kd.C_drew ?_) | (with_reducible refine Kd.C_alloc ?_ _))); (case side2 => exact (Kd.N_reads' HO177.out).2.1); (case side3 => repeat (first | exact (Kd.V_reads' HO2.out).2.2 | (with_reducible refine Kd.C_drewN ?_ _) | (with_reducible refine Kd.C_drew ?_) | (with_reducible refine Kd.C_alloc ?_ _))); (case side4 => exact (Kd.V_reads' HO2.out).2.1); rintro e w8 ⟨rfl, hb⟩; have n0_ := Aside0.mk (Kd.V_below (by (with_reducible repeat (first | apply Kd.V_alloc | apply Kd.V_drewN | apply Kd.V_drew)); exact HO2.out) hb); have n1_ := Aside0.mk (Kd.N_below (KN HO177) hb); have n2_ := Aside0.mk (below_step BB hb); clear HO2; clear HO177; clear HB; have HO2 := n0_; have HO177 := n1_; have HB := n2_; clear n0_ n1_ n2_; (try clear hb); (try clear hb2); (try clear hk); (try clear hi))))
  go_loopg [2, 9, 10] k (fun kq v2 v9 v10 w' => ∃ (x2_1 : List Int) (x9_1 : Int) (x10_1 : List Int), v9 = .int .i64 x9_1 ∧ Aside0 (spec_opWalk.l0 kq l1 x2_1 t175 x9_1 x10_1 = some (r1, r2)) ∧ Aside0 (kq ≤ k) ∧ Aside0 (Kd.V (Kd.int .i64) 3 w' w.heap.size (fun k_ => (P2_ k_ ∨ w.heap.size ≤ k_) ∧ some k_ ≠ ((.slice Ao7 t175.length co7) : Value).ownBlock ∧ some k_ ≠ (v10 : Value).ownBlock) v2 x2_1) ∧ Aside0 (Kd.N (Kd.slice 3 (Kd.int .i64)) 22 w' w.heap.size (fun k_ => (P2_ k_ ∨ w.heap.size ≤ k_) ∧ some k_ ≠ (v10 : Value).ownBlock) (.slice Ao7 t175.length co7) t175) ∧ Aside0 (Kd.R (Kd.int .i64) 3 w' w.heap.size (fun k_ => (w.heap.size ≤ k_)) v10 x10_1) ∧ Aside0 (Below w.heap.size w w'))
  case atStart => exact ⟨(l2), (t178), (([] : List Int)), RF, H', ⟨Nat.le_refl _⟩, ⟨by (with_reducible repeat (first | apply Kd.V_alloc | apply Kd.V_drewN | apply Kd.V_drew)); exact Kd.V_mono HO2.out (fun _ hk => ⟨hk.1, ⟨hk.2, (by simp [Value.ownBlock])⟩⟩)⟩, ⟨by (with_reducible repeat (first | apply Kd.N_alloc | apply Kd.N_drewN | apply Kd.N_drew)); exact Kd.N_mono HO177.out (fun _ hk => ⟨hk, (by simp [Value.ownBlock])⟩)⟩, ⟨by first | exact Kd.R_nil _ _ _ _ _ | exact Kd.N_nil _ _ _ _ _ | exact Kd.V_nil _ _ _ _ _ | exact Kd.Q_nil _ _ _ _ _ | exact Kd.S_nil _ _ _ _ _⟩, ⟨BB⟩⟩
  case round =>
    clear H'
    try clear c1
    try clear c2
    try clear p2
    try clear p6
    obtain ⟨x2_1, x9_1, x10_1, rfl, HA, HK1, HO_2, HO_8, HO_10, HB⟩ := hrel
    cases gk with
    | zero => exact absurd HA.out (by simp [spec_opWalk.l0])
    | succ k1 =>
      have H := HA.out
      clear HA
      simp only [spec_opWalk.l0] at H
      by_cases c9 : x9_1 ≥ 0
      · rw [if_pos c9] at H
        have c9b0 : decide (0 ≤ x9_1) = true := decide_eq_true c9
        clear c9
        by_cases c10 : x10_1.length < 17592186044416
        · rw [if_pos c10] at H
          have LMc10 := Aside0.mk c10
          clear c10
          obtain ⟨y179, hy179⟩ : ∃ y_ : List Int, y_ = (x10_1 ++ [x9_1]) := ⟨_, rfl⟩
          replace H : (if 0 ≤ x9_1 then (if x9_1 < (t175.length : Int) then (spec_opWalk.l1 k1 l1 x2_1 t175 x9_1 y179 ([] : List Int) (rd_L1 t175 x9_1) ((rd_L1 t175 x9_1).length : Int) 0) else (none)) else (none)) = some (r1, r2) := by first | (rw [hy179]; with_reducible exact H) | (have H2_ := (Option.bind_some _ _).symm.trans H; rw [hy179]; with_reducible exact H2_) | (have H2_ := (Option.bind_some _ _).symm.trans H; with_reducible exact H2_) | with_reducible exact H | (rw [hy179]; exact H) | exact H
          have Ny179 := Aside0.mk hy179
          clear hy179
          by_cases c11 : 0 ≤ x9_1
          · rw [if_pos c11] at H
            have c11b0 : decide (0 ≤ x9_1) = true := decide_eq_true c11
            clear c11
            by_cases c12 : x9_1 < (t175.length : Int)
            · rw [if_pos c12] at H
              have c12b0 : decide (x9_1 < (t175.length : Int)) = true := decide_eq_true c12
              clear c12
              have H' := Aside0.mk H
              clear H
              go_wp2_with (first | ((with_reducible refine gate_builtin (b := .append) (xs := #[.tmp 23, .tmp 25]) rfl ?_); (try (refine gate_guard (by rfl) ?_; dsimp only)); at_builtin; refine Kd.R_append (Kd.int .i64) (w0 := w) w.heap.size rfl (.tmp 23) (.tmp 25) 22 3 (.int .i64 0) 8 rfl Try.underlying22 info3 rfl (by decide) (by omega) u10 x10_1 x9_1 [.int .i64 x9_1] (fun k_ => (w.heap.size ≤ k_)) (fun _ => False) rfl rfl ?aP (fun _ hk => hk.elim) ?aF ?aO ?aB ?aS ?aL ?_; (case aP => exact rfl); (case aB => exact BB); (case aF => exact (fun k_ hk => (Nat.le_trans (below_size BB) hk))); (case aO => exact (KR HO_10)); (case aS => exact (below_size BB)); (case aL => have := LMc10.out; omega); intro v180 w13 ho hb hg hat; rw [← Ny179.out] at ho; have n0_ := Aside0.mk (Kd.V_afterv (ok := (fun k_ => (P2_ k_ ∨ w.heap.size ≤ k_) ∧ some k_ ≠ (.slice Ao7 t175.length co7 : Value).ownBlock)) (by (with_reducible repeat (first | apply Kd.V_alloc | apply Kd.V_drewN | apply Kd.V_drew)); exact Kd.V_mono HO_2.out (fun _ hk => ⟨⟨hk.1, hk.2.1⟩, hk.2.2⟩)) hg hat); have n1_ := Aside0.mk (Kd.N_afterv (ok := (fun k_ => (P2_ k_ ∨ w.heap.size ≤ k_))) (KN HO_8) hg hat); have n2_ := Aside0.mk (hb); have n3_ := Aside0.mk (ho); clear HO_2; clear HO_8; clear HB; clear HO_10; have HO_2 := n0_; have HO_8 := n1_; have HB := n2_; have HO181 := n3_; clear n0_ n1_ n2_ n3_; clear ho hb hg hat; have p182 : 0 ≤ (x9_1 : Int) := of_decide_eq_true AS; have q182 : x9_1 < (t175.length : Int) := of_decide_eq_true AS; obtain ⟨ad182, A182_0, c182_0, e182, hx182_0, hl182_0, hi182_0⟩ := at_L1 (Kd.N_reads' HO_8.out).2.2 x9_1 p182 q182; cases e182; obtain ⟨ce182, hce182, hMe182, hcc182⟩ := Kd.N_get HO_8.out [] x9_1 p182 (by first | exact q182 | exact of_decide_eq_true AS | (have e_ := (Kd.N_reads' HO_8.out).1; omega)); obtain ⟨ua182_0, uc182_0, rfl, ul182_0, ge182_0⟩ := Kd.FK_slice_open hMe182; have hv182_0 := hcc182 0 _ rfl; rw [Nat.add_zero, show ((Kd.slice 3 (Kd.int .i64))).sz = 1 from rfl, Nat.mul_one] at hv182_0; replace hv182_0 := Option.some.inj (hv182_0.symm.trans hx182_0); injection hv182_0 with hva_ hvn_ hvc_; rw [hva_] at ge182_0; rw [hvc_] at ul182_0; have HL182_0 := Aside0.mk (show Kd.V (Kd.int .i64) 3 _ w.heap.size _ _ (rd_L1 t175 x9_1) from Kd.V_mk ul182_0 ge182_0); clear hva_ hvn_ hvc_ ge182_0 ul182_0; clear hcc182 hce182; have HR182_0 := Aside0.mk hi182_0; have HC182_0 := Aside0.mk hl182_0; clear hi182_0 hl182_0; replace p182 := eq_true p182; replace q182 := eq_true q182))
              repeat (go_quiet (first | ((with_reducible refine gate_builtin (b := .append) (xs := #[.tmp 23, .tmp 25]) rfl ?_); (try (refine gate_guard (by rfl) ?_; dsimp only)); at_builtin; refine Kd.R_append (Kd.int .i64) (w0 := w) w.heap.size rfl (.tmp 23) (.tmp 25) 22 3 (.int .i64 0) 8 rfl Try.underlying22 info3 rfl (by decide) (by omega) u10 x10_1 x9_1 [.int .i64 x9_1] (fun k_ => (w.heap.size ≤ k_)) (fun _ => False) rfl rfl ?aP (fun _ hk => hk.elim) ?aF ?aO ?aB ?aS ?aL ?_; (case aP => exact rfl); (case aB => exact BB); (case aF => exact (fun k_ hk => (Nat.le_trans (below_size BB) hk))); (case aO => exact (KR HO_10)); (case aS => exact (below_size BB)); (case aL => have := LMc10.out; omega); intro v180 w13 ho hb hg hat; rw [← Ny179.out] at ho; have n0_ := Aside0.mk (Kd.V_afterv (ok := (fun k_ => (P2_ k_ ∨ w.heap.size ≤ k_) ∧ some k_ ≠ (.slice Ao7 t175.length co7 : Value).ownBlock)) (by (with_reducible repeat (first | apply Kd.V_alloc | apply Kd.V_drewN | apply Kd.V_drew)); exact Kd.V_mono HO_2.out (fun _ hk => ⟨⟨hk.1, hk.2.1⟩, hk.2.2⟩)) hg hat); have n1_ := Aside0.mk (Kd.N_afterv (ok := (fun k_ => (P2_ k_ ∨ w.heap.size ≤ k_))) (KN HO_8) hg hat); have n2_ := Aside0.mk (hb); have n3_ := Aside0.mk (ho); clear HO_2; clear HO_8; clear HB; clear HO_10; have HO_2 := n0_; have HO_8 := n1_; have HB := n2_; have HO181 := n3_; clear n0_ n1_ n2_ n3_; clear ho hb hg hat; have p182 : 0 ≤ (x9_1 : Int) := of_decide_eq_true AS; have q182 : x9_1 < (t175.length : Int) := of_decide_eq_true AS; obtain ⟨ad182, A182_0, c182_0, e182, hx182_0, hl182_0, hi182_0⟩ := at_L1 (Kd.N_reads' HO_8.out).2.2 x9_1 p182 q182; cases e182; obtain ⟨ce182, hce182, hMe182, hcc182⟩ := Kd.N_get HO_8.out [] x9_1 p182 (by first | exact q182 | exact of_decide_eq_true AS | (have e_ := (Kd.N_reads' HO_8.out).1; omega)); obtain ⟨ua182_0, uc182_0, rfl, ul182_0, ge182_0⟩ := Kd.FK_slice_open hMe182; have hv182_0 := hcc182 0 _ rfl; rw [Nat.add_zero, show ((Kd.slice 3 (Kd.int .i64))).sz = 1 from rfl, Nat.mul_one] at hv182_0; replace hv182_0 := Option.some.inj (hv182_0.symm.trans hx182_0); injection hv182_0 with hva_ hvn_ hvc_; rw [hva_] at ge182_0; rw [hvc_] at ul182_0; have HL182_0 := Aside0.mk (show Kd.V (Kd.int .i64) 3 _ w.heap.size _ _ (rd_L1 t175 x9_1) from Kd.V_mk ul182_0 ge182_0); clear hva_ hvn_ hvc_ ge182_0 ul182_0; clear hcc182 hce182; have HR182_0 := Aside0.mk hi182_0; have HC182_0 := Aside0.mk hl182_0; clear hi182_0 hl182_0; replace p182 := eq_true p182; replace q182 := eq_true q182)); try go_wp2_with (first | ((with_reducible refine gate_builtin (b := .append) (xs := #[.tmp 23, .tmp 25]) rfl ?_); (try (refine gate_guard (by rfl) ?_; dsimp only)); at_builtin; refine Kd.R_append (Kd.int .i64) (w0 := w) w.heap.size rfl (.tmp 23) (.tmp 25) 22 3 (.int .i64 0) 8 rfl Try.underlying22 info3 rfl (by decide) (by omega) u10 x10_1 x9_1 [.int .i64 x9_1] (fun k_ => (w.heap.size ≤ k_)) (fun _ => False) rfl rfl ?aP (fun _ hk => hk.elim) ?aF ?aO ?aB ?aS ?aL ?_; (case aP => exact rfl); (case aB => exact BB); (case aF => exact (fun k_ hk => (Nat.le_trans (below_size BB) hk))); (case aO => exact (KR HO_10)); (case aS => exact (below_size BB)); (case aL => have := LMc10.out; omega); intro v180 w13 ho hb hg hat; rw [← Ny179.out] at ho; have n0_ := Aside0.mk (Kd.V_afterv (ok := (fun k_ => (P2_ k_ ∨ w.heap.size ≤ k_) ∧ some k_ ≠ (.slice Ao7 t175.length co7 : Value).ownBlock)) (by (with_reducible repeat (first | apply Kd.V_alloc | apply Kd.V_drewN | apply Kd.V_drew)); exact Kd.V_mono HO_2.out (fun _ hk => ⟨⟨hk.1, hk.2.1⟩, hk.2.2⟩)) hg hat); have n1_ := Aside0.mk (Kd.N_afterv (ok := (fun k_ => (P2_ k_ ∨ w.heap.size ≤ k_))) (KN HO_8) hg hat); have n2_ := Aside0.mk (hb); have n3_ := Aside0.mk (ho); clear HO_2; clear HO_8; clear HB; clear HO_10; have HO_2 := n0_; have HO_8 := n1_; have HB := n2_; have HO181 := n3_; clear n0_ n1_ n2_ n3_; clear ho hb hg hat; have p182 : 0 ≤ (x9_1 : Int) := of_decide_eq_true AS; have q182 : x9_1 < (t175.length : Int) := of_decide_eq_true AS; obtain ⟨ad182, A182_0, c182_0, e182, hx182_0, hl182_0, hi182_0⟩ := at_L1 (Kd.N_reads' HO_8.out).2.2 x9_1 p182 q182; cases e182; obtain ⟨ce182, hce182, hMe182, hcc182⟩ := Kd.N_get HO_8.out [] x9_1 p182 (by first | exact q182 | exact of_decide_eq_true AS | (have e_ := (Kd.N_reads' HO_8.out).1; omega)); obtain ⟨ua182_0, uc182_0, rfl, ul182_0, ge182_0⟩ := Kd.FK_slice_open hMe182; have hv182_0 := hcc182 0 _ rfl; rw [Nat.add_zero, show ((Kd.slice 3 (Kd.int .i64))).sz = 1 from rfl, Nat.mul_one] at hv182_0; replace hv182_0 := Option.some.inj (hv182_0.symm.trans hx182_0); injection hv182_0 with hva_ hvn_ hvc_; rw [hva_] at ge182_0; rw [hvc_] at ul182_0; have HL182_0 := Aside0.mk (show Kd.V (Kd.int .i64) 3 _ w.heap.size _ _ (rd_L1 t175 x9_1) from Kd.V_mk ul182_0 ge182_0); clear hva_ hvn_ hvc_ ge182_0 ul182_0; clear hcc182 hce182; have HR182_0 := Aside0.mk hi182_0; have HC182_0 := Aside0.mk hl182_0; clear hi182_0 hl182_0; replace p182 := eq_true p182; replace q182 := eq_true q182)))
              go_loopg [11, 32] k1 (fun kq v11 v32 w' => ∃ (x11_2 : List Int) (x32_2 : Int), v32 = .int .i64 x32_2 ∧ Aside0 (spec_opWalk.l1 kq l1 x2_1 t175 x9_1 y179 x11_2 (rd_L1 t175 x9_1) ((rd_L1 t175 x9_1).length : Int) x32_2 = some (r1, r2)) ∧ Aside0 (kq ≤ k1) ∧ Aside0 (Kd.V (Kd.int .i64) 3 w' w.heap.size (fun k_ => (P2_ k_ ∨ w.heap.size ≤ k_) ∧ some k_ ≠ ((.slice (some ad182) t175.length co7) : Value).ownBlock ∧ some k_ ≠ (v180 : Value).ownBlock ∧ some k_ ≠ (v11 : Value).ownBlock) u2 x2_1) ∧ Aside0 (Kd.N (Kd.slice 3 (Kd.int .i64)) 22 w' w.heap.size (fun k_ => (P2_ k_ ∨ w.heap.size ≤ k_) ∧ some k_ ≠ (v180 : Value).ownBlock ∧ some k_ ≠ (v11 : Value).ownBlock) (.slice (some ad182) t175.length co7) t175) ∧ Aside0 (Kd.R (Kd.int .i64) 3 w' w.heap.size (fun k_ => (w.heap.size ≤ k_) ∧ some k_ ≠ (v11 : Value).ownBlock) v180 y179) ∧ Aside0 (Kd.R (Kd.int .i64) 3 w' w.heap.size (fun k_ => (w.heap.size ≤ k_) ∧ some k_ ≠ (v180 : Value).ownBlock) v11 x11_2) ∧ Aside0 (Kd.C (Kd.int .i64) w' A182_0 (rd_L1 t175 x9_1).length (rd_L1 t175 x9_1)) ∧ Aside0 (Below w.heap.size w w'))
              case atStart => exact ⟨(([] : List Int)), (0), RF, H', ⟨Nat.le_refl _⟩, ⟨by (with_reducible repeat (first | apply Kd.V_alloc | apply Kd.V_drewN | apply Kd.V_drew)); exact Kd.V_mono HO_2.out (fun _ hk => ⟨hk.1.1, ⟨hk.1.2, ⟨hk.2, (by simp [Value.ownBlock])⟩⟩⟩)⟩, ⟨by (with_reducible repeat (first | apply Kd.N_alloc | apply Kd.N_drewN | apply Kd.N_drew)); exact Kd.N_mono HO_8.out (fun _ hk => ⟨hk.1, ⟨hk.2, (by simp [Value.ownBlock])⟩⟩)⟩, ⟨by (with_reducible repeat (first | apply Kd.R_alloc | apply Kd.R_drewN | apply Kd.R_drew)); exact Kd.R_mono HO181.out (fun _ hk => ⟨hk, (by simp [Value.ownBlock])⟩)⟩, ⟨by first | exact Kd.R_nil _ _ _ _ _ | exact Kd.N_nil _ _ _ _ _ | exact Kd.V_nil _ _ _ _ _ | exact Kd.Q_nil _ _ _ _ _ | exact Kd.S_nil _ _ _ _ _⟩, ⟨by repeat (first | (with_reducible exact HR182_0.out) | (with_reducible refine Kd.C_drewN ?_ _) | (with_reducible refine Kd.C_drew ?_) | (with_reducible refine Kd.C_alloc ?_ _) | exact HR182_0.out)⟩, ⟨BB⟩⟩
              case round =>
                clear H'
                try clear c1
                try clear p1
                try clear q1
                try clear hx1
                try clear c2
                try clear p2
                try clear p6
                try clear c9
                try clear c9b0
                try clear c10
                try clear c11
                try clear c11b0
                try clear c12
                try clear c12b0
                try clear hx182_0
                try clear p182
                try clear p2
                try clear p6
                try clear q182
                obtain ⟨x11_2, x32_2, rfl, HA, HK2, HO_2, HO_8, HO_10, HO_11, HR182_0, HB⟩ := hrel
                cases gk with
                | zero => exact absurd HA.out (by simp [spec_opWalk.l1])
                | succ k2 =>
                  have H := HA.out
                  clear HA
                  simp only [spec_opWalk.l1] at H
                  by_cases c14 : x32_2 < ((rd_L1 t175 x9_1).length : Int)
                  · rw [if_pos c14] at H
                    have c14b0 : decide (x32_2 < ((rd_L1 t175 x9_1).length : Int)) = true := decide_eq_true c14
                    clear c14
                    by_cases c15 : 0 ≤ x32_2
                    · rw [if_pos c15] at H
                      have c15b0 : decide (0 ≤ x32_2) = true := decide_eq_true c15
                      clear c15
                      by_cases c16 : x32_2 < ((rd_L1 t175 x9_1).length : Int)
                      · rw [if_pos c16] at H
                        have c16b0 : decide (x32_2 < ((rd_L1 t175 x9_1).length : Int)) = true := decide_eq_true c16
                        clear c16
                        by_cases c17 : 0 ≤ x9_1
                        · rw [if_pos c17] at H
                          have c17b0 : decide (0 ≤ x9_1) = true := decide_eq_true c17
                          clear c17
                          by_cases c18 : x9_1 < (t175.length : Int)
                          · rw [if_pos c18] at H
                            have c18b0 : decide (x9_1 < (t175.length : Int)) = true := decide_eq_true c18
                            clear c18
                            obtain ⟨ji19, hji19⟩ : ∃ j_ : Int, (wrap64 (x32_2 + 1)) = j_ := ⟨_, rfl⟩
                            replace H : (if 0 ≤ (ji19) then (if (ji19) ≤ ((rd_L1 t175 x9_1).length : Int) then ((some ((rd_L1 t175 x9_1).drop ((ji19) : Int).toNat : List Int)).bind fun y186 => (spec_opWalk.l2 k2 l1 x2_1 t175 x9_1 y179 x11_2 (rd (rd_L1 t175 x9_1) x32_2) (rd_L1 t175 x9_1) ((rd_L1 t175 x9_1).length : Int) x32_2 y186 (y186.length : Int) 0)) else (none)) else (none)) = some (r1, r2) := by first | (rw [hji19] at H; exact H) | (simp only [hji19] at H ⊢; exact H)
                            have hji19w : (IntKind.i64.wrap (x32_2 + 1)) = ji19 := (i64_w _).trans hji19
                            by_cases c20 : 0 ≤ (ji19)
                            · rw [if_pos c20] at H
                              have c20b0 := eq_true c20
                              have c20b1 : decide (0 ≤ (ji19)) = true := decide_eq_true c20
                              clear c20
                              by_cases c21 : (ji19) ≤ ((rd_L1 t175 x9_1).length : Int)
                              · rw [if_pos c21] at H
                                have c21b0 := eq_true c21
                                have c21b1 : decide ((ji19) ≤ ((rd_L1 t175 x9_1).length : Int)) = true := decide_eq_true c21
                                clear c21
                                obtain ⟨y186, hy186⟩ : ∃ y_ : List Int, y_ = ((rd_L1 t175 x9_1).drop ((ji19) : Int).toNat) := ⟨_, rfl⟩
                                replace H : (spec_opWalk.l2 k2 l1 x2_1 t175 x9_1 y179 x11_2 (rd (rd_L1 t175 x9_1) x32_2) (rd_L1 t175 x9_1) ((rd_L1 t175 x9_1).length : Int) x32_2 y186 (y186.length : Int) 0) = some (r1, r2) := by first | (rw [hy186]; with_reducible exact H) | (have H2_ := (Option.bind_some _ _).symm.trans H; rw [hy186]; with_reducible exact H2_) | (have H2_ := (Option.bind_some _ _).symm.trans H; with_reducible exact H2_) | with_reducible exact H | (rw [hy186]; exact H) | exact H
                                have Ny186 := Aside0.mk hy186
                                clear hy186
                                have H' := Aside0.mk H
                                clear H
                                have p184 : 0 ≤ (x32_2 : Int) := of_decide_eq_true AS
                                have q184 : x32_2 < ((rd_L1 t175 x9_1).length : Int) := of_decide_eq_true AS
                                obtain ⟨ad184, e184, hx184_0⟩ := Kd.at_int HR182_0.out x32_2 p184 q184
                                cases e184
                                try (replace hx184_0 := (HB.out.cell (World.block_lt_of_cell? w _ hx184_0)).trans hx184_0)
                                replace p184 := eq_true p184
                                replace q184 := eq_true q184
                                have p185 : 0 ≤ (x9_1 : Int) := of_decide_eq_true AS
                                have q185 : x9_1 < (t175.length : Int) := of_decide_eq_true AS
                                obtain ⟨ad185, A185_0, c185_0, e185, hx185_0, hl185_0, hi185_0⟩ := at_L1 (Kd.N_reads' HO_8.out).2.2 x9_1 p185 q185
                                obtain rfl : ad182 = ad185 := (by injection e185)
                                obtain ⟨ce185, hce185, hMe185, hcc185⟩ := Kd.N_get HO_8.out [] x9_1 p185 (by first | exact q185 | exact of_decide_eq_true AS | (have e_ := (Kd.N_reads' HO_8.out).1; omega))
                                obtain ⟨ua185_0, uc185_0, rfl, ul185_0, ge185_0⟩ := Kd.FK_slice_open hMe185
                                have hv185_0 := hcc185 0 _ rfl
                                rw [Nat.add_zero, show ((Kd.slice 3 (Kd.int .i64))).sz = 1 from rfl, Nat.mul_one] at hv185_0
                                replace hv185_0 := Option.some.inj (hv185_0.symm.trans hx185_0)
                                injection hv185_0 with hva_ hvn_ hvc_
                                rw [hva_] at ge185_0
                                rw [hvc_] at ul185_0
                                have HL185_0 := Aside0.mk (show Kd.V (Kd.int .i64) 3 _ w.heap.size _ _ (rd_L1 t175 x9_1) from Kd.V_mk ul185_0 ge185_0)
                                clear hva_ hvn_ hvc_ ge185_0 ul185_0
                                clear hcc185 hce185
                                have HR185_0 := Aside0.mk hi185_0
                                have HC185_0 := Aside0.mk hl185_0
                                clear hi185_0 hl185_0
                                replace p185 := eq_true p185
                                replace q185 := eq_true q185
                                have q22 : ((ji19) : Int) ≤ (((rd_L1 t175 x9_1).length : Int) : Int) := of_decide_eq_true AS
                                obtain ⟨i022, hi022, _, hsz22, _⟩ := info_parts info3
                                have hroom22 : (rd_L1 t175 x9_1).length ≤ c185_0 := HC185_0.out
                                have hC22 : Kd.F (Kd.int .i64) _ _ A185_0 (rd_L1 t175 x9_1).length (rd_L1 t175 x9_1) := (Kd.V_at (base := w.heap.size) HL185_0.out).2.2
                                have q022 : (0 : Int) ≤ ((ji19) : Int) := of_decide_eq_true AS
                                have hcut22 := cut_from (P := Try.prog) 22 3 .i64 Try.underlying22 hi022 1 hsz22 A185_0 (rd_L1 t175 x9_1).length c185_0 (ji19) q022 q22
                                have hr22 := Kd.F_cut (m := ((ji19) : Int).toNat) (c := c185_0) hC22 (by omega) hroom22
                                obtain ⟨A22, hA22⟩ : ∃ A1, A1 = (if c185_0 = ((ji19) : Int).toNat then A185_0 else (A185_0 : Option Addr).map (·.add (((ji19) : Int).toNat * 1))) := ⟨_, rfl⟩
                                obtain ⟨c22, hc22⟩ : ∃ c1, c1 = c185_0 - ((ji19) : Int).toNat := ⟨_, rfl⟩
                                have hy22 : y186.length = (rd_L1 t175 x9_1).length - ((ji19) : Int).toNat := (by rw [Ny186.out, List.length_drop] <;> omega)
                                rw [show (rd_L1 t175 x9_1).drop ((ji19) : Int).toNat = y186 from Ny186.out.symm] at hr22
                                replace hr22 : Kd.F (Kd.int .i64) _ _ A22 y186.length y186 := (by rw [hA22]; exact hr22)
                                rw [← hy22, ← hA22, ← hc22] at hcut22
                                have HO190 := Aside0.mk (show Kd.V (Kd.int .i64) 3 _ w.heap.size _ (.slice A22 y186.length c22) y186 from Kd.V_mk (by rw [hy22, hc22]; exact Nat.sub_le_sub_right hroom22 _) hr22)
                                have HC190 := Aside0.mk (show y186.length ≤ c22 from by rw [hy22, hc22]; exact Nat.sub_le_sub_right hroom22 _)
                                clear hr22 hC22 hroom22 hi022 hsz22 hc22
                                have KY22 := Aside0.mk hy22
                                have KA22 := Aside0.mk hA22
                                clear hy22 hA22
                                replace q22 := eq_true q22
                                go_wp2
                                repeat (go_quiet (fail); try go_wp2)
                                go_loopg [11, 45] k2 (fun kq v11 v45 w' => ∃ (x11_3 : List Int) (x45_3 : Int), v45 = .int .i64 x45_3 ∧ Aside0 (spec_opWalk.l2 kq l1 x2_1 t175 x9_1 y179 x11_3 (rd (rd_L1 t175 x9_1) x32_2) (rd_L1 t175 x9_1) ((rd_L1 t175 x9_1).length : Int) x32_2 y186 (y186.length : Int) x45_3 = some (r1, r2)) ∧ Aside0 (kq ≤ k2) ∧ Aside0 (Kd.V (Kd.int .i64) 3 w' w.heap.size (fun k_ => (P2_ k_ ∨ w.heap.size ≤ k_) ∧ some k_ ≠ ((.slice (some ad182) t175.length co7) : Value).ownBlock ∧ some k_ ≠ (v180 : Value).ownBlock ∧ some k_ ≠ (v11 : Value).ownBlock) u2 x2_1) ∧ Aside0 (Kd.N (Kd.slice 3 (Kd.int .i64)) 22 w' w.heap.size (fun k_ => (P2_ k_ ∨ w.heap.size ≤ k_) ∧ some k_ ≠ (v180 : Value).ownBlock ∧ some k_ ≠ (v11 : Value).ownBlock) (.slice (some ad182) t175.length co7) t175) ∧ Aside0 (Kd.R (Kd.int .i64) 3 w' w.heap.size (fun k_ => (w.heap.size ≤ k_) ∧ some k_ ≠ (v11 : Value).ownBlock) v180 y179) ∧ Aside0 (Kd.R (Kd.int .i64) 3 w' w.heap.size (fun k_ => (w.heap.size ≤ k_) ∧ some k_ ≠ (v180 : Value).ownBlock) v11 x11_3) ∧ Aside0 (Kd.V (Kd.int .i64) 3 w' w.heap.size (fun k_ => (P2_ k_ ∨ w.heap.size ≤ k_) ∧ some k_ ≠ ((.slice (some ad182) t175.length co7) : Value).ownBlock ∧ some k_ ≠ (v180 : Value).ownBlock ∧ some k_ ≠ (v11 : Value).ownBlock) (.slice A22 y186.length c22) y186) ∧ Aside0 (Kd.C (Kd.int .i64) w' (some ad184) (rd_L1 t175 x9_1).length (rd_L1 t175 x9_1)) ∧ Aside0 (Kd.C (Kd.int .i64) w' A185_0 (rd_L1 t175 x9_1).length (rd_L1 t175 x9_1)) ∧ Aside0 (Below w.heap.size w w'))
                                case atStart => exact ⟨(x11_2), (0), RF, H', ⟨Nat.le_refl _⟩, ⟨by (with_reducible repeat (first | apply Kd.V_alloc | apply Kd.V_drewN | apply Kd.V_drew)); exact HO_2.out⟩, ⟨KN HO_8⟩, ⟨KR HO_10⟩, ⟨KR HO_11⟩, ⟨by (with_reducible repeat (first | apply Kd.V_alloc | apply Kd.V_drewN | apply Kd.V_drew)); exact Kd.V_mono HO190.out (fun _ hk => ⟨hk.1.1, ⟨hk.2, ⟨hk.1.2.1, hk.1.2.2⟩⟩⟩)⟩, ⟨by repeat (first | (with_reducible exact HR182_0.out) | (with_reducible refine Kd.C_drewN ?_ _) | (with_reducible refine Kd.C_drew ?_) | (with_reducible refine Kd.C_alloc ?_ _) | exact HR182_0.out)⟩, ⟨by repeat (first | (with_reducible exact HR185_0.out) | (with_reducible refine Kd.C_drewN ?_ _) | (with_reducible refine Kd.C_drew ?_) | (with_reducible refine Kd.C_alloc ?_ _) | exact HR185_0.out)⟩, ⟨BB⟩⟩
                                case round =>
                                  clear H'
                                  try clear c1
                                  try clear p1
                                  try clear q1
                                  try clear hx1
                                  try clear c2
                                  try clear p2
                                  try clear q2
                                  try clear p6
                                  try clear c9
                                  try clear c9b0
                                  try clear c10
                                  try clear c11
                                  try clear c11b0
                                  try clear c12
                                  try clear c12b0
                                  try clear c14
                                  try clear c14b0
                                  try clear c15
                                  try clear c15b0
                                  try clear c16
                                  try clear c16b0
                                  try clear c17
                                  try clear c17b0
                                  try clear c18
                                  try clear c18b0
                                  try clear p18
                                  try clear q18
                                  try clear hx18
                                  try clear c20
                                  try clear c20b0
                                  try clear c20b1
                                  try clear c21
                                  try clear c21b0
                                  try clear c21b1
                                  try clear c22
                                  try clear q22
                                  try clear hx182_0
                                  try clear hx184_0
                                  try clear hx185_0
                                  try clear p1
                                  try clear p182
                                  try clear p184
                                  try clear p185
                                  try clear p2
                                  try clear p6
                                  try clear q022
                                  try clear q1
                                  try clear q182
                                  try clear q184
                                  try clear q185
                                  try clear q22
                                  obtain ⟨x11_3, x45_3, rfl, HA, HK3, HO_2, HO_8, HO_10, HO_11, HO_43, HR182_0, HR185_0, HB⟩ := hrel
                                  cases gk with
                                  | zero => exact absurd HA.out (by simp [spec_opWalk.l2])
                                  | succ k3 =>
                                    have H := HA.out
                                    clear HA
                                    simp only [spec_opWalk.l2] at H
                                    by_cases c23 : x45_3 < (y186.length : Int)
                                    · rw [if_pos c23] at H
                                      have c23b0 : decide (x45_3 < (y186.length : Int)) = true := decide_eq_true c23
                                      clear c23
                                      by_cases c24 : 0 ≤ x45_3
                                      · rw [if_pos c24] at H
                                        have c24b0 : decide (0 ≤ x45_3) = true := decide_eq_true c24
                                        clear c24
                                        by_cases c25 : x45_3 < (y186.length : Int)
                                        · rw [if_pos c25] at H
                                          have c25b0 : decide (x45_3 < (y186.length : Int)) = true := decide_eq_true c25
                                          clear c25
                                          by_cases c26 : 0 ≤ (rd (rd_L1 t175 x9_1) x32_2)
                                          · rw [if_pos c26] at H
                                            have c26b0 : decide (0 ≤ (rd (rd_L1 t175 x9_1) x32_2)) = true := decide_eq_true c26
                                            clear c26
                                            by_cases c27 : (rd (rd_L1 t175 x9_1) x32_2) < (l1.length : Int)
                                            · rw [if_pos c27] at H
                                              have c27b0 : decide ((rd (rd_L1 t175 x9_1) x32_2) < (l1.length : Int)) = true := decide_eq_true c27
                                              clear c27
                                              by_cases c28 : 0 ≤ (rd y186 x45_3)
                                              · rw [if_pos c28] at H
                                                have c28b0 : decide (0 ≤ (rd y186 x45_3)) = true := decide_eq_true c28
                                                clear c28
                                                by_cases c29 : (rd y186 x45_3) < (l1.length : Int)
                                                · rw [if_pos c29] at H
                                                  have c29b0 : decide ((rd y186 x45_3) < (l1.length : Int)) = true := decide_eq_true c29
                                                  clear c29
                                                  by_cases c30 : (wrap64 ((rd l1 (rd (rd_L1 t175 x9_1) x32_2)) + (rd l1 (rd y186 x45_3)))) = 0
                                                  · rw [if_pos c30] at H
                                                    have c30b0 : ((wrap64 ((rd l1 (rd (rd_L1 t175 x9_1) x32_2)) + (rd l1 (rd y186 x45_3)))) == 0) = true := beq_iff_eq.mpr c30
                                                    have c30b1 : ((wrap64 ((rd l1 (rd (rd_L1 t175 x9_1) x32_2)) + (rd l1 (rd y186 x45_3)))) != 0) = false := bne_eq_false_iff_eq.mpr c30
                                                    clear c30
                                                    obtain ⟨y194, hy194⟩ : ∃ y_ : List Int, y_ = (([(rd (rd_L1 t175 x9_1) x32_2), rd y186 x45_3] : List Int)) := ⟨_, rfl⟩
                                                    replace H : (some (y179, y194)) = some (r1, r2) := by first | (rw [hy194]; with_reducible exact H) | (have H2_ := (Option.bind_some _ _).symm.trans H; rw [hy194]; with_reducible exact H2_) | (have H2_ := (Option.bind_some _ _).symm.trans H; with_reducible exact H2_) | with_reducible exact H | (rw [hy194]; exact H) | exact H
                                                    have Ny194 := Aside0.mk hy194
                                                    clear hy194
                                                    simp only [Option.some.injEq, Prod.mk.injEq] at H
                                                    obtain ⟨rfl, rfl⟩ := H
                                                    have p191 : 0 ≤ (x45_3 : Int) := of_decide_eq_true AS
                                                    have q191 : x45_3 < (y186.length : Int) := of_decide_eq_true AS
                                                    obtain ⟨ad191, e191, hx191_0⟩ := Kd.at_int (Kd.V_reads' HO_43.out).2.2 x45_3 p191 q191
                                                    cases e191
                                                    replace p191 := eq_true p191
                                                    replace q191 := eq_true q191
                                                    have p192 : 0 ≤ ((rd (rd_L1 t175 x9_1) x32_2) : Int) := of_decide_eq_true AS
                                                    have q192 : (rd (rd_L1 t175 x9_1) x32_2) < (l1.length : Int) := of_decide_eq_true AS
                                                    obtain ⟨ad192, e192, hx192_0⟩ := Kd.at_int HR1.out (rd (rd_L1 t175 x9_1) x32_2) p192 q192
                                                    cases e192
                                                    try (replace hx192_0 := (HB.out.cell (World.block_lt_of_cell? w _ hx192_0)).trans hx192_0)
                                                    replace p192 := eq_true p192
                                                    replace q192 := eq_true q192
                                                    have p193 : 0 ≤ ((rd y186 x45_3) : Int) := of_decide_eq_true AS
                                                    have q193 : (rd y186 x45_3) < (l1.length : Int) := of_decide_eq_true AS
                                                    obtain ⟨ad193, e193, hx193_0⟩ := Kd.at_int HR1.out (rd y186 x45_3) p193 q193
                                                    obtain rfl : ad192 = ad193 := (by injection e193)
                                                    try (replace hx193_0 := (HB.out.cell (World.block_lt_of_cell? w _ hx193_0)).trans hx193_0)
                                                    replace p193 := eq_true p193
                                                    replace q193 := eq_true q193
                                                    go_wp2_with (first | ((with_reducible refine gate_dst (N := 62) rfl ?_); (try (refine gate_guard (by rfl) ?_; dsimp only)); refine Kd.R_lit (Kd.int .i64) _ 3 ?hg (N := 62) ?hd (xs := ([(rd (rd_L1 t175 x9_1) x32_2), rd y186 x45_3] : List Int)) (inner := [.int .i64 (rd (rd_L1 t175 x9_1) x32_2), .int .i64 (rd y186 x45_3)]) (ok := fun _ => True) (okp := fun _ => True) ?hr ?hp (fun _ hk => hk) trivial (Below.refl _ _) (Nat.le_refl _) (by simp) ?_; (case hd => rfl); (case hg => rfl); (case hr => first | (go_simp; done) | (go_simp; rfl)); (case hp => exact (Reps.one (show Kd.M (Kd.int .i64) _ _ _ (rd (rd_L1 t175 x9_1) x32_2) [.int .i64 (rd (rd_L1 t175 x9_1) x32_2)] from rfl) (Reps.one (show Kd.M (Kd.int .i64) _ _ _ (rd y186 x45_3) [.int .i64 (rd y186 x45_3)] from rfl) (Reps.none _ _)))); intro v195 w31 ho32 hb hg_ hnew_; clear hg_ hnew_; (first | rw [← Ny194.out] at ho32 | (simp only [Int.reduceToNat] at ho32; rw [← Ny194.out] at ho32)); have n0_ := Aside0.mk (Kd.V_elder' (by (with_reducible repeat (first | apply Kd.V_alloc | apply Kd.V_drewN | apply Kd.V_drew)); exact HO_2.out) (Kd.R_base ho32) hb); have n1_ := Aside0.mk (Kd.N_elder' (KN HO_8) (Kd.R_base ho32) hb); have n2_ := Aside0.mk (Kd.R_elder' (KR HO_10) (Kd.R_base ho32) hb); have n3_ := Aside0.mk (Kd.R_elder' (KR HO_11) (Kd.R_base ho32) hb); have n4_ := Aside0.mk (Kd.V_elder' (by (with_reducible repeat (first | apply Kd.V_alloc | apply Kd.V_drewN | apply Kd.V_drew)); exact HO_43.out) (Kd.R_base ho32) hb); have n5_ := Aside0.mk (Kd.R_lower (Kd.R_new' (Kd.R_new' (Kd.R_newM (M := fun k_ => (w.heap.size ≤ k_)) ho32 (below_size BB) (fun k_ h_ => h_)) (Kd.R_lt (KR HO_10))) (Kd.R_lt (KR HO_11))) (below_size BB)); have n6_ := Aside0.mk (Kd.C_below (by repeat (first | (with_reducible exact HR182_0.out) | (with_reducible refine Kd.C_drewN ?_ _) | (with_reducible refine Kd.C_drew ?_) | (with_reducible refine Kd.C_alloc ?_ _) | exact HR182_0.out)) hb); have n7_ := Aside0.mk (Kd.C_below (by repeat (first | (with_reducible exact HR185_0.out) | (with_reducible refine Kd.C_drewN ?_ _) | (with_reducible refine Kd.C_drew ?_) | (with_reducible refine Kd.C_alloc ?_ _) | exact HR185_0.out)) hb); have n8_ := Aside0.mk (below_step BB hb); clear HO_2; clear HO_8; clear HO_10; clear HO_11; clear HO_43; clear HR182_0; clear HR185_0; clear HB; have HO_2 := n0_; have HO_8 := n1_; have HO_10 := n2_; have HO_11 := n3_; have HO_43 := n4_; have HO196 := n5_; have HR182_0 := n6_; have HR185_0 := n7_; have HB := n8_; clear n0_ n1_ n2_ n3_ n4_ n5_ n6_ n7_ n8_; clear hb ho32))
                                                    repeat (go_quiet (first | ((with_reducible refine gate_dst (N := 62) rfl ?_); (try (refine gate_guard (by rfl) ?_; dsimp only)); refine Kd.R_lit (Kd.int .i64) _ 3 ?hg (N := 62) ?hd (xs := ([(rd (rd_L1 t175 x9_1) x32_2), rd y186 x45_3] : List Int)) (inner := [.int .i64 (rd (rd_L1 t175 x9_1) x32_2), .int .i64 (rd y186 x45_3)]) (ok := fun _ => True) (okp := fun _ => True) ?hr ?hp (fun _ hk => hk) trivial (Below.refl _ _) (Nat.le_refl _) (by simp) ?_; (case hd => rfl); (case hg => rfl); (case hr => first | (go_simp; done) | (go_simp; rfl)); (case hp => exact (Reps.one (show Kd.M (Kd.int .i64) _ _ _ (rd (rd_L1 t175 x9_1) x32_2) [.int .i64 (rd (rd_L1 t175 x9_1) x32_2)] from rfl) (Reps.one (show Kd.M (Kd.int .i64) _ _ _ (rd y186 x45_3) [.int .i64 (rd y186 x45_3)] from rfl) (Reps.none _ _)))); intro v195 w31 ho32 hb hg_ hnew_; clear hg_ hnew_; (first | rw [← Ny194.out] at ho32 | (simp only [Int.reduceToNat] at ho32; rw [← Ny194.out] at ho32)); have n0_ := Aside0.mk (Kd.V_elder' (by (with_reducible repeat (first | apply Kd.V_alloc | apply Kd.V_drewN | apply Kd.V_drew)); exact HO_2.out) (Kd.R_base ho32) hb); have n1_ := Aside0.mk (Kd.N_elder' (KN HO_8) (Kd.R_base ho32) hb); have n2_ := Aside0.mk (Kd.R_elder' (KR HO_10) (Kd.R_base ho32) hb); have n3_ := Aside0.mk (Kd.R_elder' (KR HO_11) (Kd.R_base ho32) hb); have n4_ := Aside0.mk (Kd.V_elder' (by (with_reducible repeat (first | apply Kd.V_alloc | apply Kd.V_drewN | apply Kd.V_drew)); exact HO_43.out) (Kd.R_base ho32) hb); have n5_ := Aside0.mk (Kd.R_lower (Kd.R_new' (Kd.R_new' (Kd.R_newM (M := fun k_ => (w.heap.size ≤ k_)) ho32 (below_size BB) (fun k_ h_ => h_)) (Kd.R_lt (KR HO_10))) (Kd.R_lt (KR HO_11))) (below_size BB)); have n6_ := Aside0.mk (Kd.C_below (by repeat (first | (with_reducible exact HR182_0.out) | (with_reducible refine Kd.C_drewN ?_ _) | (with_reducible refine Kd.C_drew ?_) | (with_reducible refine Kd.C_alloc ?_ _) | exact HR182_0.out)) hb); have n7_ := Aside0.mk (Kd.C_below (by repeat (first | (with_reducible exact HR185_0.out) | (with_reducible refine Kd.C_drewN ?_ _) | (with_reducible refine Kd.C_drew ?_) | (with_reducible refine Kd.C_alloc ?_ _) | exact HR185_0.out)) hb); have n8_ := Aside0.mk (below_step BB hb); clear HO_2; clear HO_8; clear HO_10; clear HO_11; clear HO_43; clear HR182_0; clear HR185_0; clear HB; have HO_2 := n0_; have HO_8 := n1_; have HO_10 := n2_; have HO_11 := n3_; have HO_43 := n4_; have HO196 := n5_; have HR182_0 := n6_; have HR185_0 := n7_; have HB := n8_; clear n0_ n1_ n2_ n3_ n4_ n5_ n6_ n7_ n8_; clear hb ho32)); try go_wp2_with (first | ((with_reducible refine gate_dst (N := 62) rfl ?_); (try (refine gate_guard (by rfl) ?_; dsimp only)); refine Kd.R_lit (Kd.int .i64) _ 3 ?hg (N := 62) ?hd (xs := ([(rd (rd_L1 t175 x9_1) x32_2), rd y186 x45_3] : List Int)) (inner := [.int .i64 (rd (rd_L1 t175 x9_1) x32_2), .int .i64 (rd y186 x45_3)]) (ok := fun _ => True) (okp := fun _ => True) ?hr ?hp (fun _ hk => hk) trivial (Below.refl _ _) (Nat.le_refl _) (by simp) ?_; (case hd => rfl); (case hg => rfl); (case hr => first | (go_simp; done) | (go_simp; rfl)); (case hp => exact (Reps.one (show Kd.M (Kd.int .i64) _ _ _ (rd (rd_L1 t175 x9_1) x32_2) [.int .i64 (rd (rd_L1 t175 x9_1) x32_2)] from rfl) (Reps.one (show Kd.M (Kd.int .i64) _ _ _ (rd y186 x45_3) [.int .i64 (rd y186 x45_3)] from rfl) (Reps.none _ _)))); intro v195 w31 ho32 hb hg_ hnew_; clear hg_ hnew_; (first | rw [← Ny194.out] at ho32 | (simp only [Int.reduceToNat] at ho32; rw [← Ny194.out] at ho32)); have n0_ := Aside0.mk (Kd.V_elder' (by (with_reducible repeat (first | apply Kd.V_alloc | apply Kd.V_drewN | apply Kd.V_drew)); exact HO_2.out) (Kd.R_base ho32) hb); have n1_ := Aside0.mk (Kd.N_elder' (KN HO_8) (Kd.R_base ho32) hb); have n2_ := Aside0.mk (Kd.R_elder' (KR HO_10) (Kd.R_base ho32) hb); have n3_ := Aside0.mk (Kd.R_elder' (KR HO_11) (Kd.R_base ho32) hb); have n4_ := Aside0.mk (Kd.V_elder' (by (with_reducible repeat (first | apply Kd.V_alloc | apply Kd.V_drewN | apply Kd.V_drew)); exact HO_43.out) (Kd.R_base ho32) hb); have n5_ := Aside0.mk (Kd.R_lower (Kd.R_new' (Kd.R_new' (Kd.R_newM (M := fun k_ => (w.heap.size ≤ k_)) ho32 (below_size BB) (fun k_ h_ => h_)) (Kd.R_lt (KR HO_10))) (Kd.R_lt (KR HO_11))) (below_size BB)); have n6_ := Aside0.mk (Kd.C_below (by repeat (first | (with_reducible exact HR182_0.out) | (with_reducible refine Kd.C_drewN ?_ _) | (with_reducible refine Kd.C_drew ?_) | (with_reducible refine Kd.C_alloc ?_ _) | exact HR182_0.out)) hb); have n7_ := Aside0.mk (Kd.C_below (by repeat (first | (with_reducible exact HR185_0.out) | (with_reducible refine Kd.C_drewN ?_ _) | (with_reducible refine Kd.C_drew ?_) | (with_reducible refine Kd.C_alloc ?_ _) | exact HR185_0.out)) hb); have n8_ := Aside0.mk (below_step BB hb); clear HO_2; clear HO_8; clear HO_10; clear HO_11; clear HO_43; clear HR182_0; clear HR185_0; clear HB; have HO_2 := n0_; have HO_8 := n1_; have HO_10 := n2_; have HO_11 := n3_; have HO_43 := n4_; have HO196 := n5_; have HR182_0 := n6_; have HR185_0 := n7_; have HB := n8_; clear n0_ n1_ n2_ n3_ n4_ n5_ n6_ n7_ n8_; clear hb ho32)))
                                                    go_ret2
                                                    exact ⟨_, _, by first | rfl | (simp [errW_none, errW_some] <;> rfl) | (simp only [← hji19]; first | rfl | (simp [errW_none, errW_some] <;> rfl)) | (simp [*, errW_none, errW_some] <;> rfl), by (with_reducible repeat (first | apply Kd.R_alloc | apply Kd.R_drewN | apply Kd.R_drew)); exact Kd.R_mono HO_10.out (fun _ hk => ⟨hk.1.1, hk.2⟩), by (with_reducible repeat (first | apply Kd.R_alloc | apply Kd.R_drewN | apply Kd.R_drew)); exact Kd.R_mono HO196.out (fun _ hk => ⟨hk.1.1.1, hk.1.2⟩), BB⟩
                                                  · rw [if_neg c30] at H
                                                    have c30b0 : ((wrap64 ((rd l1 (rd (rd_L1 t175 x9_1) x32_2)) + (rd l1 (rd y186 x45_3)))) == 0) = false := beq_eq_false_iff_ne.mpr c30
                                                    have c30b1 : ((wrap64 ((rd l1 (rd (rd_L1 t175 x9_1) x32_2)) + (rd l1 (rd y186 x45_3)))) != 0) = true := bne_iff_ne.mpr c30
                                                    replace H := Option.bind_eq_some_iff.mp H
                                                    obtain ⟨t197, A330, H⟩ := H
                                                    replace H : (if t197 = true then ((spec_l1Same.f k3 (([(rd (rd_L1 t175 x9_1) x32_2), rd y186 x45_3] : List Int)) x2_1).bind fun t201 => (if t201 = true then (spec_opWalk.l2 k3 l1 x2_1 t175 x9_1 y179 x11_3 (rd (rd_L1 t175 x9_1) x32_2) (rd_L1 t175 x9_1) ((rd_L1 t175 x9_1).length : Int) x32_2 y186 (y186.length : Int) (wrap64 (x45_3 + 1))) else (spec_opWalk.l2 k3 l1 x2_1 t175 x9_1 y179 (([(rd (rd_L1 t175 x9_1) x32_2), rd y186 x45_3] : List Int)) (rd (rd_L1 t175 x9_1) x32_2) (rd_L1 t175 x9_1) ((rd_L1 t175 x9_1).length : Int) x32_2 y186 (y186.length : Int) (wrap64 (x45_3 + 1))))) else (spec_opWalk.l2 k3 l1 x2_1 t175 x9_1 y179 x11_3 (rd (rd_L1 t175 x9_1) x32_2) (rd_L1 t175 x9_1) ((rd_L1 t175 x9_1).length : Int) x32_2 y186 (y186.length : Int) (wrap64 (x45_3 + 1)))) = some (r1, r2) := H
                                                    have A33 := Aside0.mk A330
                                                    clear A330
                                                    by_cases c34 : t197 = true
                                                    · subst c34
                                                      have H1 : ((spec_l1Same.f k3 (([(rd (rd_L1 t175 x9_1) x32_2), rd y186 x45_3] : List Int)) x2_1).bind fun t201 => (if t201 = true then (spec_opWalk.l2 k3 l1 x2_1 t175 x9_1 y179 x11_3 (rd (rd_L1 t175 x9_1) x32_2) (rd_L1 t175 x9_1) ((rd_L1 t175 x9_1).length : Int) x32_2 y186 (y186.length : Int) (wrap64 (x45_3 + 1))) else (spec_opWalk.l2 k3 l1 x2_1 t175 x9_1 y179 (([(rd (rd_L1 t175 x9_1) x32_2), rd y186 x45_3] : List Int)) (rd (rd_L1 t175 x9_1) x32_2) (rd_L1 t175 x9_1) ((rd_L1 t175 x9_1).length : Int) x32_2 y186 (y186.length : Int) (wrap64 (x45_3 + 1))))) = some (r1, r2) := by rw [if_pos rfl] at H; exact H
                                                      clear H
                                                      have H := H1
                                                      clear H1
                                                      obtain ⟨y198, hy198⟩ : ∃ y_ : List Int, y_ = (([(rd (rd_L1 t175 x9_1) x32_2), rd y186 x45_3] : List Int)) := ⟨_, rfl⟩
                                                      replace H : ((spec_l1Same.f k3 y198 x2_1).bind fun t201 => (if t201 = true then (spec_opWalk.l2 k3 l1 x2_1 t175 x9_1 y179 x11_3 (rd (rd_L1 t175 x9_1) x32_2) (rd_L1 t175 x9_1) ((rd_L1 t175 x9_1).length : Int) x32_2 y186 (y186.length : Int) (wrap64 (x45_3 + 1))) else (spec_opWalk.l2 k3 l1 x2_1 t175 x9_1 y179 (([(rd (rd_L1 t175 x9_1) x32_2), rd y186 x45_3] : List Int)) (rd (rd_L1 t175 x9_1) x32_2) (rd_L1 t175 x9_1) ((rd_L1 t175 x9_1).length : Int) x32_2 y186 (y186.length : Int) (wrap64 (x45_3 + 1))))) = some (r1, r2) := by first | (rw [hy198]; with_reducible exact H) | (have H2_ := (Option.bind_some _ _).symm.trans H; rw [hy198]; with_reducible exact H2_) | (have H2_ := (Option.bind_some _ _).symm.trans H; with_reducible exact H2_) | with_reducible exact H | (rw [hy198]; exact H) | exact H
                                                      have Ny198 := Aside0.mk hy198
                                                      clear hy198
                                                      replace H := Option.bind_eq_some_iff.mp H
                                                      obtain ⟨t201, A350, H⟩ := H
                                                      replace H : (if t201 = true then (spec_opWalk.l2 k3 l1 x2_1 t175 x9_1 y179 x11_3 (rd (rd_L1 t175 x9_1) x32_2) (rd_L1 t175 x9_1) ((rd_L1 t175 x9_1).length : Int) x32_2 y186 (y186.length : Int) (wrap64 (x45_3 + 1))) else (spec_opWalk.l2 k3 l1 x2_1 t175 x9_1 y179 (([(rd (rd_L1 t175 x9_1) x32_2), rd y186 x45_3] : List Int)) (rd (rd_L1 t175 x9_1) x32_2) (rd_L1 t175 x9_1) ((rd_L1 t175 x9_1).length : Int) x32_2 y186 (y186.length : Int) (wrap64 (x45_3 + 1)))) = some (r1, r2) := H
                                                      have A35 := Aside0.mk A350
                                                      clear A350
                                                      by_cases c36 : t201 = true
                                                      · subst c36
                                                        have H1 : (spec_opWalk.l2 k3 l1 x2_1 t175 x9_1 y179 x11_3 (rd (rd_L1 t175 x9_1) x32_2) (rd_L1 t175 x9_1) ((rd_L1 t175 x9_1).length : Int) x32_2 y186 (y186.length : Int) (wrap64 (x45_3 + 1))) = some (r1, r2) := by rw [if_pos rfl] at H; exact H
                                                        clear H
                                                        have H := H1
                                                        clear H1
                                                        have H' := Aside0.mk H
                                                        clear H
                                                        have p191 : 0 ≤ (x45_3 : Int) := of_decide_eq_true AS
                                                        have q191 : x45_3 < (y186.length : Int) := of_decide_eq_true AS
                                                        obtain ⟨ad191, e191, hx191_0⟩ := Kd.at_int (Kd.V_reads' HO_43.out).2.2 x45_3 p191 q191
                                                        cases e191
                                                        replace p191 := eq_true p191
                                                        replace q191 := eq_true q191
                                                        have p192 : 0 ≤ ((rd (rd_L1 t175 x9_1) x32_2) : Int) := of_decide_eq_true AS
                                                        have q192 : (rd (rd_L1 t175 x9_1) x32_2) < (l1.length : Int) := of_decide_eq_true AS
                                                        obtain ⟨ad192, e192, hx192_0⟩ := Kd.at_int HR1.out (rd (rd_L1 t175 x9_1) x32_2) p192 q192
                                                        cases e192
                                                        try (replace hx192_0 := (HB.out.cell (World.block_lt_of_cell? w _ hx192_0)).trans hx192_0)
                                                        replace p192 := eq_true p192
                                                        replace q192 := eq_true q192
                                                        have p193 : 0 ≤ ((rd y186 x45_3) : Int) := of_decide_eq_true AS
                                                        have q193 : (rd y186 x45_3) < (l1.length : Int) := of_decide_eq_true AS
                                                        obtain ⟨ad193, e193, hx193_0⟩ := Kd.at_int HR1.out (rd y186 x45_3) p193 q193
                                                        obtain rfl : ad192 = ad193 := (by injection e193)
                                                        try (replace hx193_0 := (HB.out.cell (World.block_lt_of_cell? w _ hx193_0)).trans hx193_0)
                                                        replace p193 := eq_true p193
                                                        replace q193 := eq_true q193
                                                        go_wp2_with (first | (go_at_call 45; (with_reducible refine (spec_opDoor.calls _ _ l1 (rd (rd_L1 t175 x9_1) x32_2) (rd y186 x45_3) true _ ?side1 ?side2 A33.out).mono ?_); (case side1 => repeat (first | exact (Kd.C_below HR1.out HB.out) | (with_reducible refine Kd.C_drewN ?_ _) | (with_reducible refine Kd.C_drew ?_) | (with_reducible refine Kd.C_alloc ?_ _))); (case side2 => exact HC1.out); rintro e w' ⟨rfl, ⟨nd, rfl⟩⟩; (try first | exact ⟨rfl, _, World.drewN_drewN _ _ _⟩ | exact ⟨rfl, _, Eq.trans (World.drewN_drewN _ _ _) (congrArg (World.drewN _) (Nat.add_assoc _ _ _))⟩)) | ((with_reducible refine gate_dst (N := 70) rfl ?_); (try (refine gate_guard (by rfl) ?_; dsimp only)); refine Kd.R_lit (Kd.int .i64) _ 3 ?hg (N := 70) ?hd (xs := ([(rd (rd_L1 t175 x9_1) x32_2), rd y186 x45_3] : List Int)) (inner := [.int .i64 (rd (rd_L1 t175 x9_1) x32_2), .int .i64 (rd y186 x45_3)]) (ok := fun _ => True) (okp := fun _ => True) ?hr ?hp (fun _ hk => hk) trivial (Below.refl _ _) (Nat.le_refl _) (by simp) ?_; (case hd => rfl); (case hg => rfl); (case hr => first | (go_simp; done) | (go_simp; rfl)); (case hp => exact (Reps.one (show Kd.M (Kd.int .i64) _ _ _ (rd (rd_L1 t175 x9_1) x32_2) [.int .i64 (rd (rd_L1 t175 x9_1) x32_2)] from rfl) (Reps.one (show Kd.M (Kd.int .i64) _ _ _ (rd y186 x45_3) [.int .i64 (rd y186 x45_3)] from rfl) (Reps.none _ _)))); intro v199 w37 ho38 hb hg_ hnew_; clear hg_ hnew_; (first | rw [← Ny198.out] at ho38 | (simp only [Int.reduceToNat] at ho38; rw [← Ny198.out] at ho38)); have n0_ := Aside0.mk (Kd.V_elder' (by (with_reducible repeat (first | apply Kd.V_alloc | apply Kd.V_drewN | apply Kd.V_drew)); exact HO_2.out) (Kd.R_base ho38) hb); have n1_ := Aside0.mk (Kd.N_elder' (KN HO_8) (Kd.R_base ho38) hb); have n2_ := Aside0.mk (Kd.R_elder' (KR HO_10) (Kd.R_base ho38) hb); have n3_ := Aside0.mk (Kd.R_elder' (KR HO_11) (Kd.R_base ho38) hb); have n4_ := Aside0.mk (Kd.V_elder' (by (with_reducible repeat (first | apply Kd.V_alloc | apply Kd.V_drewN | apply Kd.V_drew)); exact HO_43.out) (Kd.R_base ho38) hb); have n5_ := Aside0.mk (Kd.R_lower (Kd.R_new' (Kd.R_new' (Kd.R_newM (M := fun k_ => (w.heap.size ≤ k_)) ho38 (below_size BB) (fun k_ h_ => h_)) (Kd.R_lt (KR HO_10))) (Kd.R_lt (KR HO_11))) (below_size BB)); have n6_ := Aside0.mk (Kd.C_below (by repeat (first | (with_reducible exact HR182_0.out) | (with_reducible refine Kd.C_drewN ?_ _) | (with_reducible refine Kd.C_drew ?_) | (with_reducible refine Kd.C_alloc ?_ _) | exact HR182_0.out)) hb); have n7_ := Aside0.mk (Kd.C_below (by repeat (first | (with_reducible exact HR185_0.out) | (with_reducible refine Kd.C_drewN ?_ _) | (with_reducible refine Kd.C_drew ?_) | (with_reducible refine Kd.C_alloc ?_ _) | exact HR185_0.out)) hb); have n8_ := Aside0.mk (below_step BB hb); clear HO_2; clear HO_8; clear HO_10; clear HO_11; clear HO_43; clear HR182_0; clear HR185_0; clear HB; have HO_2 := n0_; have HO_8 := n1_; have HO_10 := n2_; have HO_11 := n3_; have HO_43 := n4_; have HO200 := n5_; have HR182_0 := n6_; have HR185_0 := n7_; have HB := n8_; clear n0_ n1_ n2_ n3_ n4_ n5_ n6_ n7_ n8_; clear hb ho38; obtain ⟨Ao39, co39, eo39⟩ := Kd.R_slice HO200.out; subst eo39; obtain ⟨Ao40, co40, eo40⟩ := Kd.V_slice HO_2.out; subst eo40) | (go_at_call 21; (with_reducible refine (spec_l1Same.calls k3 _ _ y198 _ _ x2_1 true _ ?side1 ?side2 ?side3 ?side4 A35.out).mono ?_); (case side1 => repeat (first | exact (Kd.R_reads' HO200.out).2.2 | (with_reducible refine Kd.C_drewN ?_ _) | (with_reducible refine Kd.C_drew ?_) | (with_reducible refine Kd.C_alloc ?_ _))); (case side2 => exact (Kd.R_reads' HO200.out).2.1); (case side3 => repeat (first | exact (Kd.V_reads' HO_2.out).2.2 | (with_reducible refine Kd.C_drewN ?_ _) | (with_reducible refine Kd.C_drew ?_) | (with_reducible refine Kd.C_alloc ?_ _))); (case side4 => exact (Kd.V_reads' HO_2.out).2.1); rintro e w' ⟨rfl, ⟨nd, rfl⟩⟩; (try first | exact ⟨rfl, _, World.drewN_drewN _ _ _⟩ | exact ⟨rfl, _, Eq.trans (World.drewN_drewN _ _ _) (congrArg (World.drewN _) (Nat.add_assoc _ _ _))⟩)))
                                                        repeat (go_quiet (first | (go_at_call 45; (with_reducible refine (spec_opDoor.calls _ _ l1 (rd (rd_L1 t175 x9_1) x32_2) (rd y186 x45_3) true _ ?side1 ?side2 A33.out).mono ?_); (case side1 => repeat (first | exact (Kd.C_below HR1.out HB.out) | (with_reducible refine Kd.C_drewN ?_ _) | (with_reducible refine Kd.C_drew ?_) | (with_reducible refine Kd.C_alloc ?_ _))); (case side2 => exact HC1.out); rintro e w' ⟨rfl, ⟨nd, rfl⟩⟩; (try first | exact ⟨rfl, _, World.drewN_drewN _ _ _⟩ | exact ⟨rfl, _, Eq.trans (World.drewN_drewN _ _ _) (congrArg (World.drewN _) (Nat.add_assoc _ _ _))⟩)) | ((with_reducible refine gate_dst (N := 70) rfl ?_); (try (refine gate_guard (by rfl) ?_; dsimp only)); refine Kd.R_lit (Kd.int .i64) _ 3 ?hg (N := 70) ?hd (xs := ([(rd (rd_L1 t175 x9_1) x32_2), rd y186 x45_3] : List Int)) (inner := [.int .i64 (rd (rd_L1 t175 x9_1) x32_2), .int .i64 (rd y186 x45_3)]) (ok := fun _ => True) (okp := fun _ => True) ?hr ?hp (fun _ hk => hk) trivial (Below.refl _ _) (Nat.le_refl _) (by simp) ?_; (case hd => rfl); (case hg => rfl); (case hr => first | (go_simp; done) | (go_simp; rfl)); (case hp => exact (Reps.one (show Kd.M (Kd.int .i64) _ _ _ (rd (rd_L1 t175 x9_1) x32_2) [.int .i64 (rd (rd_L1 t175 x9_1) x32_2)] from rfl) (Reps.one (show Kd.M (Kd.int .i64) _ _ _ (rd y186 x45_3) [.int .i64 (rd y186 x45_3)] from rfl) (Reps.none _ _)))); intro v199 w37 ho38 hb hg_ hnew_; clear hg_ hnew_; (first | rw [← Ny198.out] at ho38 | (simp only [Int.reduceToNat] at ho38; rw [← Ny198.out] at ho38)); have n0_ := Aside0.mk (Kd.V_elder' (by (with_reducible repeat (first | apply Kd.V_alloc | apply Kd.V_drewN | apply Kd.V_drew)); exact HO_2.out) (Kd.R_base ho38) hb); have n1_ := Aside0.mk (Kd.N_elder' (KN HO_8) (Kd.R_base ho38) hb); have n2_ := Aside0.mk (Kd.R_elder' (KR HO_10) (Kd.R_base ho38) hb); have n3_ := Aside0.mk (Kd.R_elder' (KR HO_11) (Kd.R_base ho38) hb); have n4_ := Aside0.mk (Kd.V_elder' (by (with_reducible repeat (first | apply Kd.V_alloc | apply Kd.V_drewN | apply Kd.V_drew)); exact HO_43.out) (Kd.R_base ho38) hb); have n5_ := Aside0.mk (Kd.R_lower (Kd.R_new' (Kd.R_new' (Kd.R_newM (M := fun k_ => (w.heap.size ≤ k_)) ho38 (below_size BB) (fun k_ h_ => h_)) (Kd.R_lt (KR HO_10))) (Kd.R_lt (KR HO_11))) (below_size BB)); have n6_ := Aside0.mk (Kd.C_below (by repeat (first | (with_reducible exact HR182_0.out) | (with_reducible refine Kd.C_drewN ?_ _) | (with_reducible refine Kd.C_drew ?_) | (with_reducible refine Kd.C_alloc ?_ _) | exact HR182_0.out)) hb); have n7_ := Aside0.mk (Kd.C_below (by repeat (first | (with_reducible exact HR185_0.out) | (with_reducible refine Kd.C_drewN ?_ _) | (with_reducible refine Kd.C_drew ?_) | (with_reducible refine Kd.C_alloc ?_ _) | exact HR185_0.out)) hb); have n8_ := Aside0.mk (below_step BB hb); clear HO_2; clear HO_8; clear HO_10; clear HO_11; clear HO_43; clear HR182_0; clear HR185_0; clear HB; have HO_2 := n0_; have HO_8 := n1_; have HO_10 := n2_; have HO_11 := n3_; have HO_43 := n4_; have HO200 := n5_; have HR182_0 := n6_; have HR185_0 := n7_; have HB := n8_; clear n0_ n1_ n2_ n3_ n4_ n5_ n6_ n7_ n8_; clear hb ho38; obtain ⟨Ao39, co39, eo39⟩ := Kd.R_slice HO200.out; subst eo39; obtain ⟨Ao40, co40, eo40⟩ := Kd.V_slice HO_2.out; subst eo40) | (go_at_call 21; (with_reducible refine (spec_l1Same.calls k3 _ _ y198 _ _ x2_1 true _ ?side1 ?side2 ?side3 ?side4 A35.out).mono ?_); (case side1 => repeat (first | exact (Kd.R_reads' HO200.out).2.2 | (with_reducible refine Kd.C_drewN ?_ _) | (with_reducible refine Kd.C_drew ?_) | (with_reducible refine Kd.C_alloc ?_ _))); (case side2 => exact (Kd.R_reads' HO200.out).2.1); (case side3 => repeat (first | exact (Kd.V_reads' HO_2.out).2.2 | (with_reducible refine Kd.C_drewN ?_ _) | (with_reducible refine Kd.C_drew ?_) | (with_reducible refine Kd.C_alloc ?_ _))); (case side4 => exact (Kd.V_reads' HO_2.out).2.1); rintro e w' ⟨rfl, ⟨nd, rfl⟩⟩; (try first | exact ⟨rfl, _, World.drewN_drewN _ _ _⟩ | exact ⟨rfl, _, Eq.trans (World.drewN_drewN _ _ _) (congrArg (World.drewN _) (Nat.add_assoc _ _ _))⟩))); try go_wp2_with (first | (go_at_call 45; (with_reducible refine (spec_opDoor.calls _ _ l1 (rd (rd_L1 t175 x9_1) x32_2) (rd y186 x45_3) true _ ?side1 ?side2 A33.out).mono ?_); (case side1 => repeat (first | exact (Kd.C_below HR1.out HB.out) | (with_reducible refine Kd.C_drewN ?_ _) | (with_reducible refine Kd.C_drew ?_) | (with_reducible refine Kd.C_alloc ?_ _))); (case side2 => exact HC1.out); rintro e w' ⟨rfl, ⟨nd, rfl⟩⟩; (try first | exact ⟨rfl, _, World.drewN_drewN _ _ _⟩ | exact ⟨rfl, _, Eq.trans (World.drewN_drewN _ _ _) (congrArg (World.drewN _) (Nat.add_assoc _ _ _))⟩)) | ((with_reducible refine gate_dst (N := 70) rfl ?_); (try (refine gate_guard (by rfl) ?_; dsimp only)); refine Kd.R_lit (Kd.int .i64) _ 3 ?hg (N := 70) ?hd (xs := ([(rd (rd_L1 t175 x9_1) x32_2), rd y186 x45_3] : List Int)) (inner := [.int .i64 (rd (rd_L1 t175 x9_1) x32_2), .int .i64 (rd y186 x45_3)]) (ok := fun _ => True) (okp := fun _ => True) ?hr ?hp (fun _ hk => hk) trivial (Below.refl _ _) (Nat.le_refl _) (by simp) ?_; (case hd => rfl); (case hg => rfl); (case hr => first | (go_simp; done) | (go_simp; rfl)); (case hp => exact (Reps.one (show Kd.M (Kd.int .i64) _ _ _ (rd (rd_L1 t175 x9_1) x32_2) [.int .i64 (rd (rd_L1 t175 x9_1) x32_2)] from rfl) (Reps.one (show Kd.M (Kd.int .i64) _ _ _ (rd y186 x45_3) [.int .i64 (rd y186 x45_3)] from rfl) (Reps.none _ _)))); intro v199 w37 ho38 hb hg_ hnew_; clear hg_ hnew_; (first | rw [← Ny198.out] at ho38 | (simp only [Int.reduceToNat] at ho38; rw [← Ny198.out] at ho38)); have n0_ := Aside0.mk (Kd.V_elder' (by (with_reducible repeat (first | apply Kd.V_alloc | apply Kd.V_drewN | apply Kd.V_drew)); exact HO_2.out) (Kd.R_base ho38) hb); have n1_ := Aside0.mk (Kd.N_elder' (KN HO_8) (Kd.R_base ho38) hb); have n2_ := Aside0.mk (Kd.R_elder' (KR HO_10) (Kd.R_base ho38) hb); have n3_ := Aside0.mk (Kd.R_elder' (KR HO_11) (Kd.R_base ho38) hb); have n4_ := Aside0.mk (Kd.V_elder' (by (with_reducible repeat (first | apply Kd.V_alloc | apply Kd.V_drewN | apply Kd.V_drew)); exact HO_43.out) (Kd.R_base ho38) hb); have n5_ := Aside0.mk (Kd.R_lower (Kd.R_new' (Kd.R_new' (Kd.R_newM (M := fun k_ => (w.heap.size ≤ k_)) ho38 (below_size BB) (fun k_ h_ => h_)) (Kd.R_lt (KR HO_10))) (Kd.R_lt (KR HO_11))) (below_size BB)); have n6_ := Aside0.mk (Kd.C_below (by repeat (first | (with_reducible exact HR182_0.out) | (with_reducible refine Kd.C_drewN ?_ _) | (with_reducible refine Kd.C_drew ?_) | (with_reducible refine Kd.C_alloc ?_ _) | exact HR182_0.out)) hb); have n7_ := Aside0.mk (Kd.C_below (by repeat (first | (with_reducible exact HR185_0.out) | (with_reducible refine Kd.C_drewN ?_ _) | (with_reducible refine Kd.C_drew ?_) | (with_reducible refine Kd.C_alloc ?_ _) | exact HR185_0.out)) hb); have n8_ := Aside0.mk (below_step BB hb); clear HO_2; clear HO_8; clear HO_10; clear HO_11; clear HO_43; clear HR182_0; clear HR185_0; clear HB; have HO_2 := n0_; have HO_8 := n1_; have HO_10 := n2_; have HO_11 := n3_; have HO_43 := n4_; have HO200 := n5_; have HR182_0 := n6_; have HR185_0 := n7_; have HB := n8_; clear n0_ n1_ n2_ n3_ n4_ n5_ n6_ n7_ n8_; clear hb ho38; obtain ⟨Ao39, co39, eo39⟩ := Kd.R_slice HO200.out; subst eo39; obtain ⟨Ao40, co40, eo40⟩ := Kd.V_slice HO_2.out; subst eo40) | (go_at_call 21; (with_reducible refine (spec_l1Same.calls k3 _ _ y198 _ _ x2_1 true _ ?side1 ?side2 ?side3 ?side4 A35.out).mono ?_); (case side1 => repeat (first | exact (Kd.R_reads' HO200.out).2.2 | (with_reducible refine Kd.C_drewN ?_ _) | (with_reducible refine Kd.C_drew ?_) | (with_reducible refine Kd.C_alloc ?_ _))); (case side2 => exact (Kd.R_reads' HO200.out).2.1); (case side3 => repeat (first | exact (Kd.V_reads' HO_2.out).2.2 | (with_reducible refine Kd.C_drewN ?_ _) | (with_reducible refine Kd.C_drew ?_) | (with_reducible refine Kd.C_alloc ?_ _))); (case side4 => exact (Kd.V_reads' HO_2.out).2.1); rintro e w' ⟨rfl, ⟨nd, rfl⟩⟩; (try first | exact ⟨rfl, _, World.drewN_drewN _ _ _⟩ | exact ⟨rfl, _, Eq.trans (World.drewN_drewN _ _ _) (congrArg (World.drewN _) (Nat.add_assoc _ _ _))⟩))))
                                                        go_roundg k3
                                                        case measure => have := HK1.out; have := HK2.out; have := HK3.out; omega
                                                        case rel => exact ⟨(x11_3), (wrap64 (x45_3 + 1)), RF, H', ⟨by have := HK1.out; have := HK2.out; have := HK3.out; omega⟩, ⟨by (with_reducible repeat (first | apply Kd.V_alloc | apply Kd.V_drewN | apply Kd.V_drew)); exact Kd.V_mono HO_2.out (fun _ hk => ⟨hk.1.1, ⟨hk.1.2.1, ⟨hk.1.2.2.1, hk.1.2.2.2⟩⟩⟩)⟩, ⟨by (with_reducible repeat (first | apply Kd.N_alloc | apply Kd.N_drewN | apply Kd.N_drew)); exact Kd.N_mono HO_8.out (fun _ hk => ⟨hk.1.1, ⟨hk.1.2.1, hk.1.2.2⟩⟩)⟩, ⟨by (with_reducible repeat (first | apply Kd.R_alloc | apply Kd.R_drewN | apply Kd.R_drew)); exact Kd.R_mono HO_10.out (fun _ hk => ⟨hk.1.1, hk.1.2⟩)⟩, ⟨by (with_reducible repeat (first | apply Kd.R_alloc | apply Kd.R_drewN | apply Kd.R_drew)); exact Kd.R_mono HO_11.out (fun _ hk => ⟨hk.1.1, hk.1.2⟩)⟩, ⟨by (with_reducible repeat (first | apply Kd.V_alloc | apply Kd.V_drewN | apply Kd.V_drew)); exact Kd.V_mono HO_43.out (fun _ hk => ⟨hk.1.1, ⟨hk.1.2.1, ⟨hk.1.2.2.1, hk.1.2.2.2⟩⟩⟩)⟩, ⟨by repeat (first | (with_reducible exact HR182_0.out) | (with_reducible refine Kd.C_drewN ?_ _) | (with_reducible refine Kd.C_drew ?_) | (with_reducible refine Kd.C_alloc ?_ _) | exact HR182_0.out)⟩, ⟨by repeat (first | (with_reducible exact HR185_0.out) | (with_reducible refine Kd.C_drewN ?_ _) | (with_reducible refine Kd.C_drew ?_) | (with_reducible refine Kd.C_alloc ?_ _) | exact HR185_0.out)⟩, ⟨BB⟩⟩
                                                      · replace c36 := Bool.eq_false_iff.mpr c36
                                                        subst c36
                                                        have H1 : (spec_opWalk.l2 k3 l1 x2_1 t175 x9_1 y179 (([(rd (rd_L1 t175 x9_1) x32_2), rd y186 x45_3] : List Int)) (rd (rd_L1 t175 x9_1) x32_2) (rd_L1 t175 x9_1) ((rd_L1 t175 x9_1).length : Int) x32_2 y186 (y186.length : Int) (wrap64 (x45_3 + 1))) = some (r1, r2) := by rw [if_neg (show ¬ (false = true) by decide)] at H; exact H
                                                        clear H
                                                        have H := H1
                                                        clear H1
                                                        obtain ⟨y202, hy202⟩ : ∃ y_ : List Int, y_ = (([(rd (rd_L1 t175 x9_1) x32_2), rd y186 x45_3] : List Int)) := ⟨_, rfl⟩
                                                        replace H : (spec_opWalk.l2 k3 l1 x2_1 t175 x9_1 y179 y202 (rd (rd_L1 t175 x9_1) x32_2) (rd_L1 t175 x9_1) ((rd_L1 t175 x9_1).length : Int) x32_2 y186 (y186.length : Int) (wrap64 (x45_3 + 1))) = some (r1, r2) := by first | (rw [hy202]; with_reducible exact H) | (have H2_ := (Option.bind_some _ _).symm.trans H; rw [hy202]; with_reducible exact H2_) | (have H2_ := (Option.bind_some _ _).symm.trans H; with_reducible exact H2_) | with_reducible exact H | (rw [hy202]; exact H) | exact H
                                                        have Ny202 := Aside0.mk hy202
                                                        clear hy202
                                                        have H' := Aside0.mk H
                                                        clear H
                                                        have p191 : 0 ≤ (x45_3 : Int) := of_decide_eq_true AS
                                                        have q191 : x45_3 < (y186.length : Int) := of_decide_eq_true AS
                                                        obtain ⟨ad191, e191, hx191_0⟩ := Kd.at_int (Kd.V_reads' HO_43.out).2.2 x45_3 p191 q191
                                                        cases e191
                                                        replace p191 := eq_true p191
                                                        replace q191 := eq_true q191
                                                        have p192 : 0 ≤ ((rd (rd_L1 t175 x9_1) x32_2) : Int) := of_decide_eq_true AS
                                                        have q192 : (rd (rd_L1 t175 x9_1) x32_2) < (l1.length : Int) := of_decide_eq_true AS
                                                        obtain ⟨ad192, e192, hx192_0⟩ := Kd.at_int HR1.out (rd (rd_L1 t175 x9_1) x32_2) p192 q192
                                                        cases e192
                                                        try (replace hx192_0 := (HB.out.cell (World.block_lt_of_cell? w _ hx192_0)).trans hx192_0)
                                                        replace p192 := eq_true p192
                                                        replace q192 := eq_true q192
                                                        have p193 : 0 ≤ ((rd y186 x45_3) : Int) := of_decide_eq_true AS
                                                        have q193 : (rd y186 x45_3) < (l1.length : Int) := of_decide_eq_true AS
                                                        obtain ⟨ad193, e193, hx193_0⟩ := Kd.at_int HR1.out (rd y186 x45_3) p193 q193
                                                        obtain rfl : ad192 = ad193 := (by injection e193)
                                                        try (replace hx193_0 := (HB.out.cell (World.block_lt_of_cell? w _ hx193_0)).trans hx193_0)
                                                        replace p193 := eq_true p193
                                                        replace q193 := eq_true q193
                                                        go_wp2_with (first | (go_at_call 45; (with_reducible refine (spec_opDoor.calls _ _ l1 (rd (rd_L1 t175 x9_1) x32_2) (rd y186 x45_3) true _ ?side1 ?side2 A33.out).mono ?_); (case side1 => repeat (first | exact (Kd.C_below HR1.out HB.out) | (with_reducible refine Kd.C_drewN ?_ _) | (with_reducible refine Kd.C_drew ?_) | (with_reducible refine Kd.C_alloc ?_ _))); (case side2 => exact HC1.out); rintro e w' ⟨rfl, ⟨nd, rfl⟩⟩; (try first | exact ⟨rfl, _, World.drewN_drewN _ _ _⟩ | exact ⟨rfl, _, Eq.trans (World.drewN_drewN _ _ _) (congrArg (World.drewN _) (Nat.add_assoc _ _ _))⟩)) | ((with_reducible refine gate_dst (N := 70) rfl ?_); (try (refine gate_guard (by rfl) ?_; dsimp only)); refine Kd.R_lit (Kd.int .i64) _ 3 ?hg (N := 70) ?hd (xs := ([(rd (rd_L1 t175 x9_1) x32_2), rd y186 x45_3] : List Int)) (inner := [.int .i64 (rd (rd_L1 t175 x9_1) x32_2), .int .i64 (rd y186 x45_3)]) (ok := fun _ => True) (okp := fun _ => True) ?hr ?hp (fun _ hk => hk) trivial (Below.refl _ _) (Nat.le_refl _) (by simp) ?_; (case hd => rfl); (case hg => rfl); (case hr => first | (go_simp; done) | (go_simp; rfl)); (case hp => exact (Reps.one (show Kd.M (Kd.int .i64) _ _ _ (rd (rd_L1 t175 x9_1) x32_2) [.int .i64 (rd (rd_L1 t175 x9_1) x32_2)] from rfl) (Reps.one (show Kd.M (Kd.int .i64) _ _ _ (rd y186 x45_3) [.int .i64 (rd y186 x45_3)] from rfl) (Reps.none _ _)))); intro v199 w41 ho42 hb hg_ hnew_; clear hg_ hnew_; (first | rw [← Ny198.out] at ho42 | (simp only [Int.reduceToNat] at ho42; rw [← Ny198.out] at ho42)); have n0_ := Aside0.mk (Kd.V_elder' (by (with_reducible repeat (first | apply Kd.V_alloc | apply Kd.V_drewN | apply Kd.V_drew)); exact HO_2.out) (Kd.R_base ho42) hb); have n1_ := Aside0.mk (Kd.N_elder' (KN HO_8) (Kd.R_base ho42) hb); have n2_ := Aside0.mk (Kd.R_elder' (KR HO_10) (Kd.R_base ho42) hb); have n3_ := Aside0.mk (Kd.R_elder' (KR HO_11) (Kd.R_base ho42) hb); have n4_ := Aside0.mk (Kd.V_elder' (by (with_reducible repeat (first | apply Kd.V_alloc | apply Kd.V_drewN | apply Kd.V_drew)); exact HO_43.out) (Kd.R_base ho42) hb); have n5_ := Aside0.mk (Kd.R_lower (Kd.R_new' (Kd.R_new' (Kd.R_newM (M := fun k_ => (w.heap.size ≤ k_)) ho42 (below_size BB) (fun k_ h_ => h_)) (Kd.R_lt (KR HO_10))) (Kd.R_lt (KR HO_11))) (below_size BB)); have n6_ := Aside0.mk (Kd.C_below (by repeat (first | (with_reducible exact HR182_0.out) | (with_reducible refine Kd.C_drewN ?_ _) | (with_reducible refine Kd.C_drew ?_) | (with_reducible refine Kd.C_alloc ?_ _) | exact HR182_0.out)) hb); have n7_ := Aside0.mk (Kd.C_below (by repeat (first | (with_reducible exact HR185_0.out) | (with_reducible refine Kd.C_drewN ?_ _) | (with_reducible refine Kd.C_drew ?_) | (with_reducible refine Kd.C_alloc ?_ _) | exact HR185_0.out)) hb); have n8_ := Aside0.mk (below_step BB hb); clear HO_2; clear HO_8; clear HO_10; clear HO_11; clear HO_43; clear HR182_0; clear HR185_0; clear HB; have HO_2 := n0_; have HO_8 := n1_; have HO_10 := n2_; have HO_11 := n3_; have HO_43 := n4_; have HO200 := n5_; have HR182_0 := n6_; have HR185_0 := n7_; have HB := n8_; clear n0_ n1_ n2_ n3_ n4_ n5_ n6_ n7_ n8_; clear hb ho42; obtain ⟨Ao43, co43, eo43⟩ := Kd.R_slice HO200.out; subst eo43; obtain ⟨Ao44, co44, eo44⟩ := Kd.V_slice HO_2.out; subst eo44) | (go_at_call 21; (with_reducible refine (spec_l1Same.calls k3 _ _ y198 _ _ x2_1 false _ ?side1 ?side2 ?side3 ?side4 A35.out).mono ?_); (case side1 => repeat (first | exact (Kd.R_reads' HO200.out).2.2 | (with_reducible refine Kd.C_drewN ?_ _) | (with_reducible refine Kd.C_drew ?_) | (with_reducible refine Kd.C_alloc ?_ _))); (case side2 => exact (Kd.R_reads' HO200.out).2.1); (case side3 => repeat (first | exact (Kd.V_reads' HO_2.out).2.2 | (with_reducible refine Kd.C_drewN ?_ _) | (with_reducible refine Kd.C_drew ?_) | (with_reducible refine Kd.C_alloc ?_ _))); (case side4 => exact (Kd.V_reads' HO_2.out).2.1); rintro e w' ⟨rfl, ⟨nd, rfl⟩⟩; (try first | exact ⟨rfl, _, World.drewN_drewN _ _ _⟩ | exact ⟨rfl, _, Eq.trans (World.drewN_drewN _ _ _) (congrArg (World.drewN _) (Nat.add_assoc _ _ _))⟩)) | ((with_reducible refine gate_dst (N := 77) rfl ?_); (try (refine gate_guard (by rfl) ?_; dsimp only)); refine Kd.R_lit (Kd.int .i64) _ 3 ?hg (N := 77) ?hd (xs := ([(rd (rd_L1 t175 x9_1) x32_2), rd y186 x45_3] : List Int)) (inner := [.int .i64 (rd (rd_L1 t175 x9_1) x32_2), .int .i64 (rd y186 x45_3)]) (ok := fun _ => True) (okp := fun _ => True) ?hr ?hp (fun _ hk => hk) trivial (Below.refl _ _) (Nat.le_refl _) (by simp) ?_; (case hd => rfl); (case hg => rfl); (case hr => first | (go_simp; done) | (go_simp; rfl)); (case hp => exact (Reps.one (show Kd.M (Kd.int .i64) _ _ _ (rd (rd_L1 t175 x9_1) x32_2) [.int .i64 (rd (rd_L1 t175 x9_1) x32_2)] from rfl) (Reps.one (show Kd.M (Kd.int .i64) _ _ _ (rd y186 x45_3) [.int .i64 (rd y186 x45_3)] from rfl) (Reps.none _ _)))); intro v203 w45 ho46 hb hg_ hnew_; clear hg_ hnew_; (first | rw [← Ny202.out] at ho46 | (simp only [Int.reduceToNat] at ho46; rw [← Ny202.out] at ho46)); have n0_ := Aside0.mk (Kd.V_elder' (by (with_reducible repeat (first | apply Kd.V_alloc | apply Kd.V_drewN | apply Kd.V_drew)); exact HO_2.out) (Kd.R_base ho46) hb); have n1_ := Aside0.mk (Kd.N_elder' (KN HO_8) (Kd.R_base ho46) hb); have n2_ := Aside0.mk (Kd.R_elder' (KR HO_10) (Kd.R_base ho46) hb); have n3_ := Aside0.mk (Kd.R_elder' (KR HO_11) (Kd.R_base ho46) hb); have n4_ := Aside0.mk (Kd.V_elder' (by (with_reducible repeat (first | apply Kd.V_alloc | apply Kd.V_drewN | apply Kd.V_drew)); exact HO_43.out) (Kd.R_base ho46) hb); have n5_ := Aside0.mk (Kd.R_elder' (KR HO200) (Kd.R_base ho46) hb); have n6_ := Aside0.mk (Kd.R_lower (Kd.R_new' (Kd.R_new' (Kd.R_new' (Kd.R_newM (M := fun k_ => (w.heap.size ≤ k_)) ho46 (below_size BB) (fun k_ h_ => h_)) (Kd.R_lt (KR HO_10))) (Kd.R_lt (KR HO_11))) (Kd.R_lt (KR HO200))) (below_size BB)); have n7_ := Aside0.mk (Kd.C_below (by repeat (first | (with_reducible exact HR182_0.out) | (with_reducible refine Kd.C_drewN ?_ _) | (with_reducible refine Kd.C_drew ?_) | (with_reducible refine Kd.C_alloc ?_ _) | exact HR182_0.out)) hb); have n8_ := Aside0.mk (Kd.C_below (by repeat (first | (with_reducible exact HR185_0.out) | (with_reducible refine Kd.C_drewN ?_ _) | (with_reducible refine Kd.C_drew ?_) | (with_reducible refine Kd.C_alloc ?_ _) | exact HR185_0.out)) hb); have n9_ := Aside0.mk (below_step BB hb); clear HO_2; clear HO_8; clear HO_10; clear HO_11; clear HO_43; clear HO200; clear HR182_0; clear HR185_0; clear HB; have HO_2 := n0_; have HO_8 := n1_; have HO_10 := n2_; have HO_11 := n3_; have HO_43 := n4_; have HO200 := n5_; have HO204 := n6_; have HR182_0 := n7_; have HR185_0 := n8_; have HB := n9_; clear n0_ n1_ n2_ n3_ n4_ n5_ n6_ n7_ n8_ n9_; clear hb ho46))
                                                        repeat (go_quiet (first | (go_at_call 45; (with_reducible refine (spec_opDoor.calls _ _ l1 (rd (rd_L1 t175 x9_1) x32_2) (rd y186 x45_3) true _ ?side1 ?side2 A33.out).mono ?_); (case side1 => repeat (first | exact (Kd.C_below HR1.out HB.out) | (with_reducible refine Kd.C_drewN ?_ _) | (with_reducible refine Kd.C_drew ?_) | (with_reducible refine Kd.C_alloc ?_ _))); (case side2 => exact HC1.out); rintro e w' ⟨rfl, ⟨nd, rfl⟩⟩; (try first | exact ⟨rfl, _, World.drewN_drewN _ _ _⟩ | exact ⟨rfl, _, Eq.trans (World.drewN_drewN _ _ _) (congrArg (World.drewN _) (Nat.add_assoc _ _ _))⟩)) | ((with_reducible refine gate_dst (N := 70) rfl ?_); (try (refine gate_guard (by rfl) ?_; dsimp only)); refine Kd.R_lit (Kd.int .i64) _ 3 ?hg (N := 70) ?hd (xs := ([(rd (rd_L1 t175 x9_1) x32_2), rd y186 x45_3] : List Int)) (inner := [.int .i64 (rd (rd_L1 t175 x9_1) x32_2), .int .i64 (rd y186 x45_3)]) (ok := fun _ => True) (okp := fun _ => True) ?hr ?hp (fun _ hk => hk) trivial (Below.refl _ _) (Nat.le_refl _) (by simp) ?_; (case hd => rfl); (case hg => rfl); (case hr => first | (go_simp; done) | (go_simp; rfl)); (case hp => exact (Reps.one (show Kd.M (Kd.int .i64) _ _ _ (rd (rd_L1 t175 x9_1) x32_2) [.int .i64 (rd (rd_L1 t175 x9_1) x32_2)] from rfl) (Reps.one (show Kd.M (Kd.int .i64) _ _ _ (rd y186 x45_3) [.int .i64 (rd y186 x45_3)] from rfl) (Reps.none _ _)))); intro v199 w41 ho42 hb hg_ hnew_; clear hg_ hnew_; (first | rw [← Ny198.out] at ho42 | (simp only [Int.reduceToNat] at ho42; rw [← Ny198.out] at ho42)); have n0_ := Aside0.mk (Kd.V_elder' (by (with_reducible repeat (first | apply Kd.V_alloc | apply Kd.V_drewN | apply Kd.V_drew)); exact HO_2.out) (Kd.R_base ho42) hb); have n1_ := Aside0.mk (Kd.N_elder' (KN HO_8) (Kd.R_base ho42) hb); have n2_ := Aside0.mk (Kd.R_elder' (KR HO_10) (Kd.R_base ho42) hb); have n3_ := Aside0.mk (Kd.R_elder' (KR HO_11) (Kd.R_base ho42) hb); have n4_ := Aside0.mk (Kd.V_elder' (by (with_reducible repeat (first | apply Kd.V_alloc | apply Kd.V_drewN | apply Kd.V_drew)); exact HO_43.out) (Kd.R_base ho42) hb); have n5_ := Aside0.mk (Kd.R_lower (Kd.R_new' (Kd.R_new' (Kd.R_newM (M := fun k_ => (w.heap.size ≤ k_)) ho42 (below_size BB) (fun k_ h_ => h_)) (Kd.R_lt (KR HO_10))) (Kd.R_lt (KR HO_11))) (below_size BB)); have n6_ := Aside0.mk (Kd.C_below (by repeat (first | (with_reducible exact HR182_0.out) | (with_reducible refine Kd.C_drewN ?_ _) | (with_reducible refine Kd.C_drew ?_) | (with_reducible refine Kd.C_alloc ?_ _) | exact HR182_0.out)) hb); have n7_ := Aside0.mk (Kd.C_below (by repeat (first | (with_reducible exact HR185_0.out) | (with_reducible refine Kd.C_drewN ?_ _) | (with_reducible refine Kd.C_drew ?_) | (with_reducible refine Kd.C_alloc ?_ _) | exact HR185_0.out)) hb); have n8_ := Aside0.mk (below_step BB hb); clear HO_2; clear HO_8; clear HO_10; clear HO_11; clear HO_43; clear HR182_0; clear HR185_0; clear HB; have HO_2 := n0_; have HO_8 := n1_; have HO_10 := n2_; have HO_11 := n3_; have HO_43 := n4_; have HO200 := n5_; have HR182_0 := n6_; have HR185_0 := n7_; have HB := n8_; clear n0_ n1_ n2_ n3_ n4_ n5_ n6_ n7_ n8_; clear hb ho42; obtain ⟨Ao43, co43, eo43⟩ := Kd.R_slice HO200.out; subst eo43; obtain ⟨Ao44, co44, eo44⟩ := Kd.V_slice HO_2.out; subst eo44) | (go_at_call 21; (with_reducible refine (spec_l1Same.calls k3 _ _ y198 _ _ x2_1 false _ ?side1 ?side2 ?side3 ?side4 A35.out).mono ?_); (case side1 => repeat (first | exact (Kd.R_reads' HO200.out).2.2 | (with_reducible refine Kd.C_drewN ?_ _) | (with_reducible refine Kd.C_drew ?_) | (with_reducible refine Kd.C_alloc ?_ _))); (case side2 => exact (Kd.R_reads' HO200.out).2.1); (case side3 => repeat (first | exact (Kd.V_reads' HO_2.out).2.2 | (with_reducible refine Kd.C_drewN ?_ _) | (with_reducible refine Kd.C_drew ?_) | (with_reducible refine Kd.C_alloc ?_ _))); (case side4 => exact (Kd.V_reads' HO_2.out).2.1); rintro e w' ⟨rfl, ⟨nd, rfl⟩⟩; (try first | exact ⟨rfl, _, World.drewN_drewN _ _ _⟩ | exact ⟨rfl, _, Eq.trans (World.drewN_drewN _ _ _) (congrArg (World.drewN _) (Nat.add_assoc _ _ _))⟩)) | ((with_reducible refine gate_dst (N := 77) rfl ?_); (try (refine gate_guard (by rfl) ?_; dsimp only)); refine Kd.R_lit (Kd.int .i64) _ 3 ?hg (N := 77) ?hd (xs := ([(rd (rd_L1 t175 x9_1) x32_2), rd y186 x45_3] : List Int)) (inner := [.int .i64 (rd (rd_L1 t175 x9_1) x32_2), .int .i64 (rd y186 x45_3)]) (ok := fun _ => True) (okp := fun _ => True) ?hr ?hp (fun _ hk => hk) trivial (Below.refl _ _) (Nat.le_refl _) (by simp) ?_; (case hd => rfl); (case hg => rfl); (case hr => first | (go_simp; done) | (go_simp; rfl)); (case hp => exact (Reps.one (show Kd.M (Kd.int .i64) _ _ _ (rd (rd_L1 t175 x9_1) x32_2) [.int .i64 (rd (rd_L1 t175 x9_1) x32_2)] from rfl) (Reps.one (show Kd.M (Kd.int .i64) _ _ _ (rd y186 x45_3) [.int .i64 (rd y186 x45_3)] from rfl) (Reps.none _ _)))); intro v203 w45 ho46 hb hg_ hnew_; clear hg_ hnew_; (first | rw [← Ny202.out] at ho46 | (simp only [Int.reduceToNat] at ho46; rw [← Ny202.out] at ho46)); have n0_ := Aside0.mk (Kd.V_elder' (by (with_reducible repeat (first | apply Kd.V_alloc | apply Kd.V_drewN | apply Kd.V_drew)); exact HO_2.out) (Kd.R_base ho46) hb); have n1_ := Aside0.mk (Kd.N_elder' (KN HO_8) (Kd.R_base ho46) hb); have n2_ := Aside0.mk (Kd.R_elder' (KR HO_10) (Kd.R_base ho46) hb); have n3_ := Aside0.mk (Kd.R_elder' (KR HO_11) (Kd.R_base ho46) hb); have n4_ := Aside0.mk (Kd.V_elder' (by (with_reducible repeat (first | apply Kd.V_alloc | apply Kd.V_drewN | apply Kd.V_drew)); exact HO_43.out) (Kd.R_base ho46) hb); have n5_ := Aside0.mk (Kd.R_elder' (KR HO200) (Kd.R_base ho46) hb); have n6_ := Aside0.mk (Kd.R_lower (Kd.R_new' (Kd.R_new' (Kd.R_new' (Kd.R_newM (M := fun k_ => (w.heap.size ≤ k_)) ho46 (below_size BB) (fun k_ h_ => h_)) (Kd.R_lt (KR HO_10))) (Kd.R_lt (KR HO_11))) (Kd.R_lt (KR HO200))) (below_size BB)); have n7_ := Aside0.mk (Kd.C_below (by repeat (first | (with_reducible exact HR182_0.out) | (with_reducible refine Kd.C_drewN ?_ _) | (with_reducible refine Kd.C_drew ?_) | (with_reducible refine Kd.C_alloc ?_ _) | exact HR182_0.out)) hb); have n8_ := Aside0.mk (Kd.C_below (by repeat (first | (with_reducible exact HR185_0.out) | (with_reducible refine Kd.C_drewN ?_ _) | (with_reducible refine Kd.C_drew ?_) | (with_reducible refine Kd.C_alloc ?_ _) | exact HR185_0.out)) hb); have n9_ := Aside0.mk (below_step BB hb); clear HO_2; clear HO_8; clear HO_10; clear HO_11; clear HO_43; clear HO200; clear HR182_0; clear HR185_0; clear HB; have HO_2 := n0_; have HO_8 := n1_; have HO_10 := n2_; have HO_11 := n3_; have HO_43 := n4_; have HO200 := n5_; have HO204 := n6_; have HR182_0 := n7_; have HR185_0 := n8_; have HB := n9_; clear n0_ n1_ n2_ n3_ n4_ n5_ n6_ n7_ n8_ n9_; clear hb ho46)); try go_wp2_with (first | (go_at_call 45; (with_reducible refine (spec_opDoor.calls _ _ l1 (rd (rd_L1 t175 x9_1) x32_2) (rd y186 x45_3) true _ ?side1 ?side2 A33.out).mono ?_); (case side1 => repeat (first | exact (Kd.C_below HR1.out HB.out) | (with_reducible refine Kd.C_drewN ?_ _) | (with_reducible refine Kd.C_drew ?_) | (with_reducible refine Kd.C_alloc ?_ _))); (case side2 => exact HC1.out); rintro e w' ⟨rfl, ⟨nd, rfl⟩⟩; (try first | exact ⟨rfl, _, World.drewN_drewN _ _ _⟩ | exact ⟨rfl, _, Eq.trans (World.drewN_drewN _ _ _) (congrArg (World.drewN _) (Nat.add_assoc _ _ _))⟩)) | ((with_reducible refine gate_dst (N := 70) rfl ?_); (try (refine gate_guard (by rfl) ?_; dsimp only)); refine Kd.R_lit (Kd.int .i64) _ 3 ?hg (N := 70) ?hd (xs := ([(rd (rd_L1 t175 x9_1) x32_2), rd y186 x45_3] : List Int)) (inner := [.int .i64 (rd (rd_L1 t175 x9_1) x32_2), .int .i64 (rd y186 x45_3)]) (ok := fun _ => True) (okp := fun _ => True) ?hr ?hp (fun _ hk => hk) trivial (Below.refl _ _) (Nat.le_refl _) (by simp) ?_; (case hd => rfl); (case hg => rfl); (case hr => first | (go_simp; done) | (go_simp; rfl)); (case hp => exact (Reps.one (show Kd.M (Kd.int .i64) _ _ _ (rd (rd_L1 t175 x9_1) x32_2) [.int .i64 (rd (rd_L1 t175 x9_1) x32_2)] from rfl) (Reps.one (show Kd.M (Kd.int .i64) _ _ _ (rd y186 x45_3) [.int .i64 (rd y186 x45_3)] from rfl) (Reps.none _ _)))); intro v199 w41 ho42 hb hg_ hnew_; clear hg_ hnew_; (first | rw [← Ny198.out] at ho42 | (simp only [Int.reduceToNat] at ho42; rw [← Ny198.out] at ho42)); have n0_ := Aside0.mk (Kd.V_elder' (by (with_reducible repeat (first | apply Kd.V_alloc | apply Kd.V_drewN | apply Kd.V_drew)); exact HO_2.out) (Kd.R_base ho42) hb); have n1_ := Aside0.mk (Kd.N_elder' (KN HO_8) (Kd.R_base ho42) hb); have n2_ := Aside0.mk (Kd.R_elder' (KR HO_10) (Kd.R_base ho42) hb); have n3_ := Aside0.mk (Kd.R_elder' (KR HO_11) (Kd.R_base ho42) hb); have n4_ := Aside0.mk (Kd.V_elder' (by (with_reducible repeat (first | apply Kd.V_alloc | apply Kd.V_drewN | apply Kd.V_drew)); exact HO_43.out) (Kd.R_base ho42) hb); have n5_ := Aside0.mk (Kd.R_lower (Kd.R_new' (Kd.R_new' (Kd.R_newM (M := fun k_ => (w.heap.size ≤ k_)) ho42 (below_size BB) (fun k_ h_ => h_)) (Kd.R_lt (KR HO_10))) (Kd.R_lt (KR HO_11))) (below_size BB)); have n6_ := Aside0.mk (Kd.C_below (by repeat (first | (with_reducible exact HR182_0.out) | (with_reducible refine Kd.C_drewN ?_ _) | (with_reducible refine Kd.C_drew ?_) | (with_reducible refine Kd.C_alloc ?_ _) | exact HR182_0.out)) hb); have n7_ := Aside0.mk (Kd.C_below (by repeat (first | (with_reducible exact HR185_0.out) | (with_reducible refine Kd.C_drewN ?_ _) | (with_reducible refine Kd.C_drew ?_) | (with_reducible refine Kd.C_alloc ?_ _) | exact HR185_0.out)) hb); have n8_ := Aside0.mk (below_step BB hb); clear HO_2; clear HO_8; clear HO_10; clear HO_11; clear HO_43; clear HR182_0; clear HR185_0; clear HB; have HO_2 := n0_; have HO_8 := n1_; have HO_10 := n2_; have HO_11 := n3_; have HO_43 := n4_; have HO200 := n5_; have HR182_0 := n6_; have HR185_0 := n7_; have HB := n8_; clear n0_ n1_ n2_ n3_ n4_ n5_ n6_ n7_ n8_; clear hb ho42; obtain ⟨Ao43, co43, eo43⟩ := Kd.R_slice HO200.out; subst eo43; obtain ⟨Ao44, co44, eo44⟩ := Kd.V_slice HO_2.out; subst eo44) | (go_at_call 21; (with_reducible refine (spec_l1Same.calls k3 _ _ y198 _ _ x2_1 false _ ?side1 ?side2 ?side3 ?side4 A35.out).mono ?_); (case side1 => repeat (first | exact (Kd.R_reads' HO200.out).2.2 | (with_reducible refine Kd.C_drewN ?_ _) | (with_reducible refine Kd.C_drew ?_) | (with_reducible refine Kd.C_alloc ?_ _))); (case side2 => exact (Kd.R_reads' HO200.out).2.1); (case side3 => repeat (first | exact (Kd.V_reads' HO_2.out).2.2 | (with_reducible refine Kd.C_drewN ?_ _) | (with_reducible refine Kd.C_drew ?_) | (with_reducible refine Kd.C_alloc ?_ _))); (case side4 => exact (Kd.V_reads' HO_2.out).2.1); rintro e w' ⟨rfl, ⟨nd, rfl⟩⟩; (try first | exact ⟨rfl, _, World.drewN_drewN _ _ _⟩ | exact ⟨rfl, _, Eq.trans (World.drewN_drewN _ _ _) (congrArg (World.drewN _) (Nat.add_assoc _ _ _))⟩)) | ((with_reducible refine gate_dst (N := 77) rfl ?_); (try (refine gate_guard (by rfl) ?_; dsimp only)); refine Kd.R_lit (Kd.int .i64) _ 3 ?hg (N := 77) ?hd (xs := ([(rd (rd_L1 t175 x9_1) x32_2), rd y186 x45_3] : List Int)) (inner := [.int .i64 (rd (rd_L1 t175 x9_1) x32_2), .int .i64 (rd y186 x45_3)]) (ok := fun _ => True) (okp := fun _ => True) ?hr ?hp (fun _ hk => hk) trivial (Below.refl _ _) (Nat.le_refl _) (by simp) ?_; (case hd => rfl); (case hg => rfl); (case hr => first | (go_simp; done) | (go_simp; rfl)); (case hp => exact (Reps.one (show Kd.M (Kd.int .i64) _ _ _ (rd (rd_L1 t175 x9_1) x32_2) [.int .i64 (rd (rd_L1 t175 x9_1) x32_2)] from rfl) (Reps.one (show Kd.M (Kd.int .i64) _ _ _ (rd y186 x45_3) [.int .i64 (rd y186 x45_3)] from rfl) (Reps.none _ _)))); intro v203 w45 ho46 hb hg_ hnew_; clear hg_ hnew_; (first | rw [← Ny202.out] at ho46 | (simp only [Int.reduceToNat] at ho46; rw [← Ny202.out] at ho46)); have n0_ := Aside0.mk (Kd.V_elder' (by (with_reducible repeat (first | apply Kd.V_alloc | apply Kd.V_drewN | apply Kd.V_drew)); exact HO_2.out) (Kd.R_base ho46) hb); have n1_ := Aside0.mk (Kd.N_elder' (KN HO_8) (Kd.R_base ho46) hb); have n2_ := Aside0.mk (Kd.R_elder' (KR HO_10) (Kd.R_base ho46) hb); have n3_ := Aside0.mk (Kd.R_elder' (KR HO_11) (Kd.R_base ho46) hb); have n4_ := Aside0.mk (Kd.V_elder' (by (with_reducible repeat (first | apply Kd.V_alloc | apply Kd.V_drewN | apply Kd.V_drew)); exact HO_43.out) (Kd.R_base ho46) hb); have n5_ := Aside0.mk (Kd.R_elder' (KR HO200) (Kd.R_base ho46) hb); have n6_ := Aside0.mk (Kd.R_lower (Kd.R_new' (Kd.R_new' (Kd.R_new' (Kd.R_newM (M := fun k_ => (w.heap.size ≤ k_)) ho46 (below_size BB) (fun k_ h_ => h_)) (Kd.R_lt (KR HO_10))) (Kd.R_lt (KR HO_11))) (Kd.R_lt (KR HO200))) (below_size BB)); have n7_ := Aside0.mk (Kd.C_below (by repeat (first | (with_reducible exact HR182_0.out) | (with_reducible refine Kd.C_drewN ?_ _) | (with_reducible refine Kd.C_drew ?_) | (with_reducible refine Kd.C_alloc ?_ _) | exact HR182_0.out)) hb); have n8_ := Aside0.mk (Kd.C_below (by repeat (first | (with_reducible exact HR185_0.out) | (with_reducible refine Kd.C_drewN ?_ _) | (with_reducible refine Kd.C_drew ?_) | (with_reducible refine Kd.C_alloc ?_ _) | exact HR185_0.out)) hb); have n9_ := Aside0.mk (below_step BB hb); clear HO_2; clear HO_8; clear HO_10; clear HO_11; clear HO_43; clear HO200; clear HR182_0; clear HR185_0; clear HB; have HO_2 := n0_; have HO_8 := n1_; have HO_10 := n2_; have HO_11 := n3_; have HO_43 := n4_; have HO200 := n5_; have HO204 := n6_; have HR182_0 := n7_; have HR185_0 := n8_; have HB := n9_; clear n0_ n1_ n2_ n3_ n4_ n5_ n6_ n7_ n8_ n9_; clear hb ho46)))
                                                        go_roundg k3
                                                        case measure => have := HK1.out; have := HK2.out; have := HK3.out; omega
                                                        case rel => exact ⟨(y202), (wrap64 (x45_3 + 1)), RF, H', ⟨by have := HK1.out; have := HK2.out; have := HK3.out; omega⟩, ⟨by (with_reducible repeat (first | apply Kd.V_alloc | apply Kd.V_drewN | apply Kd.V_drew)); exact Kd.V_mono HO_2.out (fun _ hk => ⟨hk.1.1.1, ⟨hk.1.1.2.1, ⟨hk.1.1.2.2.1, hk.2⟩⟩⟩)⟩, ⟨by (with_reducible repeat (first | apply Kd.N_alloc | apply Kd.N_drewN | apply Kd.N_drew)); exact Kd.N_mono HO_8.out (fun _ hk => ⟨hk.1.1.1, ⟨hk.1.1.2.1, hk.2⟩⟩)⟩, ⟨by (with_reducible repeat (first | apply Kd.R_alloc | apply Kd.R_drewN | apply Kd.R_drew)); exact Kd.R_mono HO_10.out (fun _ hk => ⟨hk.1.1.1, hk.2⟩)⟩, ⟨by (with_reducible repeat (first | apply Kd.R_alloc | apply Kd.R_drewN | apply Kd.R_drew)); exact Kd.R_mono HO204.out (fun _ hk => ⟨hk.1.1.1.1, hk.1.1.2⟩)⟩, ⟨by (with_reducible repeat (first | apply Kd.V_alloc | apply Kd.V_drewN | apply Kd.V_drew)); exact Kd.V_mono HO_43.out (fun _ hk => ⟨hk.1.1.1, ⟨hk.1.1.2.1, ⟨hk.1.1.2.2.1, hk.2⟩⟩⟩)⟩, ⟨by repeat (first | (with_reducible exact HR182_0.out) | (with_reducible refine Kd.C_drewN ?_ _) | (with_reducible refine Kd.C_drew ?_) | (with_reducible refine Kd.C_alloc ?_ _) | exact HR182_0.out)⟩, ⟨by repeat (first | (with_reducible exact HR185_0.out) | (with_reducible refine Kd.C_drewN ?_ _) | (with_reducible refine Kd.C_drew ?_) | (with_reducible refine Kd.C_alloc ?_ _) | exact HR185_0.out)⟩, ⟨BB⟩⟩
                                                    · replace c34 := Bool.eq_false_iff.mpr c34
                                                      subst c34
                                                      have H1 : (spec_opWalk.l2 k3 l1 x2_1 t175 x9_1 y179 x11_3 (rd (rd_L1 t175 x9_1) x32_2) (rd_L1 t175 x9_1) ((rd_L1 t175 x9_1).length : Int) x32_2 y186 (y186.length : Int) (wrap64 (x45_3 + 1))) = some (r1, r2) := by rw [if_neg (show ¬ (false = true) by decide)] at H; exact H
                                                      clear H
                                                      have H := H1
                                                      clear H1
                                                      have H' := Aside0.mk H
                                                      clear H
                                                      have p191 : 0 ≤ (x45_3 : Int) := of_decide_eq_true AS
                                                      have q191 : x45_3 < (y186.length : Int) := of_decide_eq_true AS
                                                      obtain ⟨ad191, e191, hx191_0⟩ := Kd.at_int (Kd.V_reads' HO_43.out).2.2 x45_3 p191 q191
                                                      cases e191
                                                      replace p191 := eq_true p191
                                                      replace q191 := eq_true q191
                                                      have p192 : 0 ≤ ((rd (rd_L1 t175 x9_1) x32_2) : Int) := of_decide_eq_true AS
                                                      have q192 : (rd (rd_L1 t175 x9_1) x32_2) < (l1.length : Int) := of_decide_eq_true AS
                                                      obtain ⟨ad192, e192, hx192_0⟩ := Kd.at_int HR1.out (rd (rd_L1 t175 x9_1) x32_2) p192 q192
                                                      cases e192
                                                      try (replace hx192_0 := (HB.out.cell (World.block_lt_of_cell? w _ hx192_0)).trans hx192_0)
                                                      replace p192 := eq_true p192
                                                      replace q192 := eq_true q192
                                                      have p193 : 0 ≤ ((rd y186 x45_3) : Int) := of_decide_eq_true AS
                                                      have q193 : (rd y186 x45_3) < (l1.length : Int) := of_decide_eq_true AS
                                                      obtain ⟨ad193, e193, hx193_0⟩ := Kd.at_int HR1.out (rd y186 x45_3) p193 q193
                                                      obtain rfl : ad192 = ad193 := (by injection e193)
                                                      try (replace hx193_0 := (HB.out.cell (World.block_lt_of_cell? w _ hx193_0)).trans hx193_0)
                                                      replace p193 := eq_true p193
                                                      replace q193 := eq_true q193
                                                      go_wp2_with (first | (go_at_call 45; (with_reducible refine (spec_opDoor.calls _ _ l1 (rd (rd_L1 t175 x9_1) x32_2) (rd y186 x45_3) false _ ?side1 ?side2 A33.out).mono ?_); (case side1 => repeat (first | exact (Kd.C_below HR1.out HB.out) | (with_reducible refine Kd.C_drewN ?_ _) | (with_reducible refine Kd.C_drew ?_) | (with_reducible refine Kd.C_alloc ?_ _))); (case side2 => exact HC1.out); rintro e w' ⟨rfl, ⟨nd, rfl⟩⟩; (try first | exact ⟨rfl, _, World.drewN_drewN _ _ _⟩ | exact ⟨rfl, _, Eq.trans (World.drewN_drewN _ _ _) (congrArg (World.drewN _) (Nat.add_assoc _ _ _))⟩)))
                                                      repeat (go_quiet (first | (go_at_call 45; (with_reducible refine (spec_opDoor.calls _ _ l1 (rd (rd_L1 t175 x9_1) x32_2) (rd y186 x45_3) false _ ?side1 ?side2 A33.out).mono ?_); (case side1 => repeat (first | exact (Kd.C_below HR1.out HB.out) | (with_reducible refine Kd.C_drewN ?_ _) | (with_reducible refine Kd.C_drew ?_) | (with_reducible refine Kd.C_alloc ?_ _))); (case side2 => exact HC1.out); rintro e w' ⟨rfl, ⟨nd, rfl⟩⟩; (try first | exact ⟨rfl, _, World.drewN_drewN _ _ _⟩ | exact ⟨rfl, _, Eq.trans (World.drewN_drewN _ _ _) (congrArg (World.drewN _) (Nat.add_assoc _ _ _))⟩))); try go_wp2_with (first | (go_at_call 45; (with_reducible refine (spec_opDoor.calls _ _ l1 (rd (rd_L1 t175 x9_1) x32_2) (rd y186 x45_3) false _ ?side1 ?side2 A33.out).mono ?_); (case side1 => repeat (first | exact (Kd.C_below HR1.out HB.out) | (with_reducible refine Kd.C_drewN ?_ _) | (with_reducible refine Kd.C_drew ?_) | (with_reducible refine Kd.C_alloc ?_ _))); (case side2 => exact HC1.out); rintro e w' ⟨rfl, ⟨nd, rfl⟩⟩; (try first | exact ⟨rfl, _, World.drewN_drewN _ _ _⟩ | exact ⟨rfl, _, Eq.trans (World.drewN_drewN _ _ _) (congrArg (World.drewN _) (Nat.add_assoc _ _ _))⟩))))
                                                      go_roundg k3
                                                      case measure => have := HK1.out; have := HK2.out; have := HK3.out; omega
                                                      case rel => exact ⟨(x11_3), (wrap64 (x45_3 + 1)), RF, H', ⟨by have := HK1.out; have := HK2.out; have := HK3.out; omega⟩, ⟨by (with_reducible repeat (first | apply Kd.V_alloc | apply Kd.V_drewN | apply Kd.V_drew)); exact HO_2.out⟩, ⟨KN HO_8⟩, ⟨KR HO_10⟩, ⟨KR HO_11⟩, ⟨by (with_reducible repeat (first | apply Kd.V_alloc | apply Kd.V_drewN | apply Kd.V_drew)); exact HO_43.out⟩, ⟨by repeat (first | (with_reducible exact HR182_0.out) | (with_reducible refine Kd.C_drewN ?_ _) | (with_reducible refine Kd.C_drew ?_) | (with_reducible refine Kd.C_alloc ?_ _) | exact HR182_0.out)⟩, ⟨by repeat (first | (with_reducible exact HR185_0.out) | (with_reducible refine Kd.C_drewN ?_ _) | (with_reducible refine Kd.C_drew ?_) | (with_reducible refine Kd.C_alloc ?_ _) | exact HR185_0.out)⟩, ⟨BB⟩⟩
                                                · rw [if_neg c29] at H
                                                  exact absurd H (by simp)
                                              · rw [if_neg c28] at H
                                                exact absurd H (by simp)
                                            · rw [if_neg c27] at H
                                              exact absurd H (by simp)
                                          · rw [if_neg c26] at H
                                            exact absurd H (by simp)
                                        · rw [if_neg c25] at H
                                          exact absurd H (by simp)
                                      · rw [if_neg c24] at H
                                        exact absurd H (by simp)
                                    · rw [if_neg c23] at H
                                      have c23b0 : decide (x45_3 < (y186.length : Int)) = false := decide_eq_false c23
                                      clear c23
                                      have H' := Aside0.mk H
                                      clear H
                                      go_wp2
                                      repeat (go_quiet (fail); try go_wp2)
                                      go_roundg k3
                                      case measure => have := HK1.out; have := HK2.out; have := HK3.out; omega
                                      case rel => exact ⟨(x11_3), (wrap64 (x32_2 + 1)), RF, H', ⟨by have := HK1.out; have := HK2.out; have := HK3.out; omega⟩, ⟨by (with_reducible repeat (first | apply Kd.V_alloc | apply Kd.V_drewN | apply Kd.V_drew)); exact HO_2.out⟩, ⟨KN HO_8⟩, ⟨KR HO_10⟩, ⟨KR HO_11⟩, ⟨by repeat (first | (with_reducible exact HR182_0.out) | (with_reducible refine Kd.C_drewN ?_ _) | (with_reducible refine Kd.C_drew ?_) | (with_reducible refine Kd.C_alloc ?_ _) | exact HR182_0.out)⟩, ⟨BB⟩⟩
                              · rw [if_neg c21] at H
                                exact absurd H (by simp)
                            · rw [if_neg c20] at H
                              exact absurd H (by simp)
                          · rw [if_neg c18] at H
                            exact absurd H (by simp)
                        · rw [if_neg c17] at H
                          exact absurd H (by simp)
                      · rw [if_neg c16] at H
                        exact absurd H (by simp)
                    · rw [if_neg c15] at H
                      exact absurd H (by simp)
                  · rw [if_neg c14] at H
                    have c14b0 : decide (x32_2 < ((rd_L1 t175 x9_1).length : Int)) = false := decide_eq_false c14
                    clear c14
                    replace H := Option.bind_eq_some_iff.mp H
                    obtain ⟨t183, A470, H⟩ := H
                    replace H : (spec_opWalk.l0 k2 l1 x11_2 t175 t183 y179) = some (r1, r2) := H
                    have A47 := Aside0.mk A470
                    clear A470
                    have H' := Aside0.mk H
                    clear H
                    obtain ⟨Ao48, co48, eo48⟩ := Kd.R_slice HO_11.out
                    subst eo48
                    go_wp2_with (first | (go_at_call 49; (with_reducible refine (spec_doNext.calls k2 _ _ t175 _ _ x11_2 x9_1 t183 _ ?side1 ?side2 ?side3 ?side4 A47.out).mono ?_); (case side1 => repeat (first | exact (Kd.N_reads' HO_8.out).2.2 | (with_reducible refine Kd.C_drewN ?_ _) | (with_reducible refine Kd.C_drew ?_) | (with_reducible refine Kd.C_alloc ?_ _))); (case side2 => exact (Kd.N_reads' HO_8.out).2.1); (case side3 => repeat (first | exact (Kd.R_reads' HO_11.out).2.2 | (with_reducible refine Kd.C_drewN ?_ _) | (with_reducible refine Kd.C_drew ?_) | (with_reducible refine Kd.C_alloc ?_ _))); (case side4 => exact (Kd.R_reads' HO_11.out).2.1); rintro e w49 ⟨rfl, hb⟩; have n0_ := Aside0.mk (Kd.V_below (by (with_reducible repeat (first | apply Kd.V_alloc | apply Kd.V_drewN | apply Kd.V_drew)); exact HO_2.out) hb); have n1_ := Aside0.mk (Kd.N_below (KN HO_8) hb); have n2_ := Aside0.mk (Kd.R_below (KR HO_10) hb); have n3_ := Aside0.mk (Kd.R_below (KR HO_11) hb); have n4_ := Aside0.mk (Kd.C_below (by repeat (first | (with_reducible exact HR182_0.out) | (with_reducible refine Kd.C_drewN ?_ _) | (with_reducible refine Kd.C_drew ?_) | (with_reducible refine Kd.C_alloc ?_ _) | exact HR182_0.out)) hb); have n5_ := Aside0.mk (below_step BB hb); clear HO_2; clear HO_8; clear HO_10; clear HO_11; clear HR182_0; clear HB; have HO_2 := n0_; have HO_8 := n1_; have HO_10 := n2_; have HO_11 := n3_; have HR182_0 := n4_; have HB := n5_; clear n0_ n1_ n2_ n3_ n4_ n5_; (try clear hb); (try clear hb2); (try clear hk); (try clear hi)))
                    repeat (go_quiet (first | (go_at_call 49; (with_reducible refine (spec_doNext.calls k2 _ _ t175 _ _ x11_2 x9_1 t183 _ ?side1 ?side2 ?side3 ?side4 A47.out).mono ?_); (case side1 => repeat (first | exact (Kd.N_reads' HO_8.out).2.2 | (with_reducible refine Kd.C_drewN ?_ _) | (with_reducible refine Kd.C_drew ?_) | (with_reducible refine Kd.C_alloc ?_ _))); (case side2 => exact (Kd.N_reads' HO_8.out).2.1); (case side3 => repeat (first | exact (Kd.R_reads' HO_11.out).2.2 | (with_reducible refine Kd.C_drewN ?_ _) | (with_reducible refine Kd.C_drew ?_) | (with_reducible refine Kd.C_alloc ?_ _))); (case side4 => exact (Kd.R_reads' HO_11.out).2.1); rintro e w49 ⟨rfl, hb⟩; have n0_ := Aside0.mk (Kd.V_below (by (with_reducible repeat (first | apply Kd.V_alloc | apply Kd.V_drewN | apply Kd.V_drew)); exact HO_2.out) hb); have n1_ := Aside0.mk (Kd.N_below (KN HO_8) hb); have n2_ := Aside0.mk (Kd.R_below (KR HO_10) hb); have n3_ := Aside0.mk (Kd.R_below (KR HO_11) hb); have n4_ := Aside0.mk (Kd.C_below (by repeat (first | (with_reducible exact HR182_0.out) | (with_reducible refine Kd.C_drewN ?_ _) | (with_reducible refine Kd.C_drew ?_) | (with_reducible refine Kd.C_alloc ?_ _) | exact HR182_0.out)) hb); have n5_ := Aside0.mk (below_step BB hb); clear HO_2; clear HO_8; clear HO_10; clear HO_11; clear HR182_0; clear HB; have HO_2 := n0_; have HO_8 := n1_; have HO_10 := n2_; have HO_11 := n3_; have HR182_0 := n4_; have HB := n5_; clear n0_ n1_ n2_ n3_ n4_ n5_; (try clear hb); (try clear hb2); (try clear hk); (try clear hi))); try go_wp2_with (first | (go_at_call 49; (with_reducible refine (spec_doNext.calls k2 _ _ t175 _ _ x11_2 x9_1 t183 _ ?side1 ?side2 ?side3 ?side4 A47.out).mono ?_); (case side1 => repeat (first | exact (Kd.N_reads' HO_8.out).2.2 | (with_reducible refine Kd.C_drewN ?_ _) | (with_reducible refine Kd.C_drew ?_) | (with_reducible refine Kd.C_alloc ?_ _))); (case side2 => exact (Kd.N_reads' HO_8.out).2.1); (case side3 => repeat (first | exact (Kd.R_reads' HO_11.out).2.2 | (with_reducible refine Kd.C_drewN ?_ _) | (with_reducible refine Kd.C_drew ?_) | (with_reducible refine Kd.C_alloc ?_ _))); (case side4 => exact (Kd.R_reads' HO_11.out).2.1); rintro e w49 ⟨rfl, hb⟩; have n0_ := Aside0.mk (Kd.V_below (by (with_reducible repeat (first | apply Kd.V_alloc | apply Kd.V_drewN | apply Kd.V_drew)); exact HO_2.out) hb); have n1_ := Aside0.mk (Kd.N_below (KN HO_8) hb); have n2_ := Aside0.mk (Kd.R_below (KR HO_10) hb); have n3_ := Aside0.mk (Kd.R_below (KR HO_11) hb); have n4_ := Aside0.mk (Kd.C_below (by repeat (first | (with_reducible exact HR182_0.out) | (with_reducible refine Kd.C_drewN ?_ _) | (with_reducible refine Kd.C_drew ?_) | (with_reducible refine Kd.C_alloc ?_ _) | exact HR182_0.out)) hb); have n5_ := Aside0.mk (below_step BB hb); clear HO_2; clear HO_8; clear HO_10; clear HO_11; clear HR182_0; clear HB; have HO_2 := n0_; have HO_8 := n1_; have HO_10 := n2_; have HO_11 := n3_; have HR182_0 := n4_; have HB := n5_; clear n0_ n1_ n2_ n3_ n4_ n5_; (try clear hb); (try clear hb2); (try clear hk); (try clear hi))))
                    go_roundg k2
                    case measure => have := HK1.out; have := HK2.out; omega
                    case rel => exact ⟨(x11_2), (t183), (y179), RF, H', ⟨by have := HK1.out; have := HK2.out; omega⟩, ⟨Kd.V_mono (Kd.R_V (Kd.R_apart' HO_11.out (Kd.N_typed HO_8.out) (by decide))) (fun k_ hk => ⟨.inr hk.1.1, hk.2, hk.1.2⟩)⟩, ⟨by (with_reducible repeat (first | apply Kd.N_alloc | apply Kd.N_drewN | apply Kd.N_drew)); exact Kd.N_mono HO_8.out (fun _ hk => ⟨hk.1, hk.2.1⟩)⟩, ⟨by (with_reducible repeat (first | apply Kd.R_alloc | apply Kd.R_drewN | apply Kd.R_drew)); exact Kd.R_mono HO_10.out (fun _ hk => hk.1)⟩, ⟨BB⟩⟩
            · rw [if_neg c12] at H
              exact absurd H (by simp)
          · rw [if_neg c11] at H
            exact absurd H (by simp)
        · rw [if_neg c10] at H
          exact absurd H (by simp)
      · rw [if_neg c9] at H
        have c9b0 : decide (0 ≤ x9_1) = false := decide_eq_false c9
        clear c9
        simp only [Option.some.injEq, Prod.mk.injEq] at H
        obtain ⟨rfl, rfl⟩ := H
        go_wp2
        repeat (go_quiet (fail); try go_wp2)
        go_ret2
        exact ⟨_, _, by first | rfl | (simp [errW_none, errW_some] <;> rfl) | (simp [*, errW_none, errW_some] <;> rfl), by (with_reducible repeat (first | apply Kd.R_alloc | apply Kd.R_drewN | apply Kd.R_drew)); exact Kd.R_mono HO_10.out (fun _ hk => ⟨hk, (by simp [Value.ownBlock])⟩), by first | exact Kd.R_nil _ _ _ _ _ | exact Kd.N_nil _ _ _ _ _ | exact Kd.V_nil _ _ _ _ _ | exact Kd.Q_nil _ _ _ _ _ | exact Kd.S_nil _ _ _ _ _, BB⟩

/-! ### spec_l1In: function 44 -/
def spec_l1In.f (a0 : Int) (a1 : Int) (a2 : Int) : Option (Bool) := if a0 ≥ a1 then (some (decide (a0 ≤ a2))) else (some false)
set_option maxHeartbeats 8000000 in
set_option maxRecDepth 100000 in
theorem spec_l1In.calls (a0 : Int) (a1 : Int) (a2 : Int) (r : Bool) (w : World) (h : spec_l1In.f a0 a1 a2 = some r) :
    Calls Try.prog 44 #[.int .i64 a0, .int .i64 a1, .int .i64 a2] w fun e w' => e = .returned (.bool r) ∧ Drawn0 w w' := by
  have H : (if a0 ≥ a1 then (some (decide (a0 ≤ a2))) else (some false)) = some r := h
  clear h
  by_cases c4 : a0 ≥ a1
  · rw [if_pos c4] at H
    have c4b0 : decide (a1 ≤ a0) = true := decide_eq_true c4
    clear c4
    obtain rfl := Option.some.inj H
    go_enter Try.func44, Try.ntmps44
    go_wp2
    go_ret
    exact ⟨by first | rfl | (simp; done) | (simp [*]; done) | (simp [*, wrap64]; done), by repeat (first | exact Drawn0.refl _ | apply Drawn0.step)⟩
  · rw [if_neg c4] at H
    have c4b0 : decide (a1 ≤ a0) = false := decide_eq_false c4
    clear c4
    obtain rfl := Option.some.inj H
    go_enter Try.func44, Try.ntmps44
    go_wp2
    go_ret
    exact ⟨by first | rfl | (simp; done) | (simp [*]; done) | (simp [*, wrap64]; done), by repeat (first | exact Drawn0.refl _ | apply Drawn0.step)⟩

/-! ### spec_opReach: function 33 -/
def spec_opReach.f (a0 : Int) : Option (Bool) := (spec_l1In.f a0 1 4).bind fun t205 => (some t205)
set_option maxHeartbeats 8000000 in
set_option maxRecDepth 100000 in
theorem spec_opReach.calls (a0 : Int) (r : Bool) (w : World) (h : spec_opReach.f a0 = some r) :
    Calls Try.prog 33 #[.int .i64 a0] w fun e w' => e = .returned (.bool r) ∧ Drawn0 w w' := by
  have H : ((spec_l1In.f a0 1 4).bind fun t205 => (some t205)) = some r := h
  clear h
  replace H := Option.bind_eq_some_iff.mp H
  obtain ⟨t205, A20, H⟩ := H
  replace H : (some t205) = some r := H
  have A2 := Aside0.mk A20
  clear A20
  obtain rfl := Option.some.inj H
  go_enter Try.func33, Try.ntmps33
  go_wp2_with (first | ((with_reducible refine gate_callee (f := 44) rfl ?_); refine goesL_ (some 4) rfl rfl Try.func44 (by kernel_rfl) rfl #[.int .i64 a0, .int .i64 1, .int .i64 4] rfl TA ?_; (with_reducible refine (spec_l1In.calls a0 1 4 t205 _ A2.out).mono ?_); rintro e w' ⟨rfl, ⟨nd, rfl⟩⟩; refine ⟨_, rfl, ?_⟩))
  go_ret
  exact ⟨by first | rfl | (simp; done) | (simp [*]; done) | (simp [*, wrap64]; done), by repeat (first | exact Drawn0.refl _ | apply Drawn0.step)⟩

/-! ### spec_opLabels: function 19 -/
mutual
def spec_opLabels.j0 : Nat → List Int → Bool → Option (Bool)
  | 0, _, _ => none
  | k + 1, x1, x16 => if x16 = true then (some false) else (spec_opLabels.l0 k x1 (x1.length : Int) 0)
def spec_opLabels.l0 : Nat → List Int → Int → Int → Option (Bool)
  | 0, _, _, _ => none
  | k + 1, x17, x18, x19 => if x19 < x18 then (if 0 ≤ x19 then (if x19 < (x17.length : Int) then ((spec_l1In.f (rd x17 x19) (-2) 2).bind fun t209 => (if t209 = true then (if (rd x17 x19) = 0 then (some false) else (spec_opLabels.l0 k x17 x18 (wrap64 (x19 + 1)))) else (some false))) else (none)) else (none)) else (some true)
end
def spec_opLabels.f (k : Nat) (a0 : Int) (l1 : List Int) : Option (Bool) := (spec_opReach.f a0).bind fun t206 => (if t206 = true then ((spec_opCount.f a0).bind fun t207 => (spec_opLabels.j0 k l1 ((l1.length : Int) != t207))) else (spec_opLabels.j0 k l1 true))
theorem spec_opLabels.mono_l : ∀ k, (∀ y0 y1, LeO (spec_opLabels.j0 k y0 y1) (spec_opLabels.j0 (k + 1) y0 y1)) ∧ (∀ y0 y1 y2, LeO (spec_opLabels.l0 k y0 y1 y2) (spec_opLabels.l0 (k + 1) y0 y1 y2))
  | 0 => ⟨fun _ _ r h => by simp [spec_opLabels.j0] at h, fun _ _ _ r h => by simp [spec_opLabels.l0] at h⟩
  | k + 1 => by
    obtain ⟨ih0, ih1⟩ := spec_opLabels.mono_l k
    refine ⟨?_, ?_⟩
    · intro y0 y1
      unfold spec_opLabels.j0
      repeat' first
      | (with_reducible exact ih0 _ _)
      | (with_reducible exact ih1 _ _ _)
      | (with_reducible exact LeO.refl _)
      | (with_reducible exact LeO.none _)
      | (with_reducible refine LeO.ite ?_ ?_)
      | (with_reducible refine LeO.bind ?_ (fun _ => ?_))
      | exact ih0 _ _
      | exact ih1 _ _ _
      | exact LeO.none _
      | refine LeO.ite ?_ ?_
      | refine LeO.bind ?_ (fun _ => ?_)
    · intro y0 y1 y2
      unfold spec_opLabels.l0
      repeat' first
      | (with_reducible exact ih0 _ _)
      | (with_reducible exact ih1 _ _ _)
      | (with_reducible exact LeO.refl _)
      | (with_reducible exact LeO.none _)
      | (with_reducible refine LeO.ite ?_ ?_)
      | (with_reducible refine LeO.bind ?_ (fun _ => ?_))
      | exact ih0 _ _
      | exact ih1 _ _ _
      | exact LeO.none _
      | refine LeO.ite ?_ ?_
      | refine LeO.bind ?_ (fun _ => ?_)
theorem spec_opLabels.mono : ∀ a0 a1 k, LeO (spec_opLabels.f k a0 a1) (spec_opLabels.f (k + 1) a0 a1) := by
  intro a0 a1 k
  obtain ⟨ih0, ih1⟩ := spec_opLabels.mono_l k
  unfold spec_opLabels.f
  repeat' first
      | (with_reducible exact ih0 _ _)
      | (with_reducible exact ih1 _ _ _)
      | (with_reducible exact LeO.refl _)
      | (with_reducible exact LeO.none _)
      | (with_reducible refine LeO.ite ?_ ?_)
      | (with_reducible refine LeO.bind ?_ (fun _ => ?_))
      | exact ih0 _ _
      | exact ih1 _ _ _
      | exact LeO.none _
      | refine LeO.ite ?_ ?_
      | refine LeO.bind ?_ (fun _ => ?_)
set_option maxHeartbeats 8000000 in
set_option maxRecDepth 100000 in
theorem spec_opLabels.calls (k : Nat) (a0 : Int) (A1 : Option Addr) (c1 : Nat) (l1 : List Int) (r : Bool) (w : World) (hr1 : Kd.C (Kd.int .i64) w A1 l1.length l1) (hc1 : l1.length ≤ c1) (h : spec_opLabels.f k a0 l1 = some r) :
    Calls Try.prog 19 #[.int .i64 a0, .slice A1 l1.length c1] w fun e w' => e = .returned (.bool r) ∧ Drawn0 w w' := by
  have HR1 := Aside0.mk hr1
  have HC1 := Aside0.mk hc1
  clear hr1 hc1
  have H : ((spec_opReach.f a0).bind fun t206 => (if t206 = true then ((spec_opCount.f a0).bind fun t207 => (spec_opLabels.j0 k l1 ((l1.length : Int) != t207))) else (spec_opLabels.j0 k l1 true))) = some r := h
  clear h
  have HC3 := Aside0.mk H
  clear H
  go_enter Try.func19, Try.ntmps19
  go_upto_region 1 with (fail)
  go_cut [16] (fun v16 wc => ∃ (kq : Nat) (x16_2 : Bool), v16 = .bool x16_2 ∧ Aside0 (spec_opLabels.j0 kq l1 x16_2 = some r) ∧ Aside0 (kq ≤ k) ∧ Drawn0 w wc)
  case first =>
    have H := HC3.out
    clear HC3
    replace H := Option.bind_eq_some_iff.mp H
    obtain ⟨t206, A40, H⟩ := H
    replace H : (if t206 = true then ((spec_opCount.f a0).bind fun t207 => (spec_opLabels.j0 k l1 ((l1.length : Int) != t207))) else (spec_opLabels.j0 k l1 true)) = some r := H
    have A4 := Aside0.mk A40
    clear A40
    by_cases c5 : t206 = true
    · subst c5
      have H1 : ((spec_opCount.f a0).bind fun t207 => (spec_opLabels.j0 k l1 ((l1.length : Int) != t207))) = some r := by rw [if_pos rfl] at H; exact H
      clear H
      have H := H1
      clear H1
      replace H := Option.bind_eq_some_iff.mp H
      obtain ⟨t207, A60, H⟩ := H
      replace H : (spec_opLabels.j0 k l1 ((l1.length : Int) != t207)) = some r := H
      have A6 := Aside0.mk A60
      clear A60
      have H' := Aside0.mk H
      clear H
      go_wp2_with (first | ((with_reducible refine gate_callee (f := 33) rfl ?_); refine goesL_ (some 8) rfl rfl Try.func33 (by kernel_rfl) rfl #[.int .i64 a0] rfl TA ?_; (with_reducible refine (spec_opReach.calls a0 true _ A4.out).mono ?_); rintro e w' ⟨rfl, ⟨nd, rfl⟩⟩; refine ⟨_, rfl, ?_⟩) | (go_at_call 43; (with_reducible refine (spec_opCount.calls a0 t207 _ A6.out).mono ?_); rintro e w' ⟨rfl, ⟨nd, rfl⟩⟩))
      go_meet
      case rel => exact ⟨_, (((l1.length : Int) != t207)), RF, H', ⟨by first | omega | exact Nat.le_refl _⟩, by repeat (first | exact Drawn0.refl _ | apply Drawn0.step)⟩
    · replace c5 := Bool.eq_false_iff.mpr c5
      subst c5
      have H1 : (spec_opLabels.j0 k l1 true) = some r := by rw [if_neg (show ¬ (false = true) by decide)] at H; exact H
      clear H
      have H := H1
      clear H1
      have H' := Aside0.mk H
      clear H
      go_wp2_with (first | ((with_reducible refine gate_callee (f := 33) rfl ?_); refine goesL_ (some 8) rfl rfl Try.func33 (by kernel_rfl) rfl #[.int .i64 a0] rfl TA ?_; (with_reducible refine (spec_opReach.calls a0 false _ A4.out).mono ?_); rintro e w' ⟨rfl, ⟨nd, rfl⟩⟩; refine ⟨_, rfl, ?_⟩))
      go_meet
      case rel => exact ⟨_, (true), RF, H', ⟨by first | omega | exact Nat.le_refl _⟩, by repeat (first | exact Drawn0.refl _ | apply Drawn0.step)⟩
  case rest =>
    clear HC3
    try clear c1
    try clear p2
    try clear c3
    try clear c5
    try clear p6
    obtain ⟨kq, x16_2, rfl, HA, HJ2, ⟨mc2, rfl⟩⟩ := hcut
    cases kq with
    | zero => exact absurd HA.out (by simp [spec_opLabels.j0])
    | succ kj2 =>
      have H := HA.out
      clear HA
      simp only [spec_opLabels.j0] at H
      by_cases c7 : x16_2 = true
      · subst c7
        have H1 : (some false) = some r := by rw [if_pos rfl] at H; exact H
        clear H
        have H := H1
        clear H1
        obtain rfl := Option.some.inj H
        go_wp2
        go_ret
        exact ⟨by first | rfl | (simp; done) | (simp [*]; done) | (simp [*, wrap64]; done), by repeat (first | exact Drawn0.refl _ | apply Drawn0.step)⟩
      · replace c7 := Bool.eq_false_iff.mpr c7
        subst c7
        have H1 : (spec_opLabels.l0 kj2 l1 (l1.length : Int) 0) = some r := by rw [if_neg (show ¬ (false = true) by decide)] at H; exact H
        clear H
        have H := H1
        clear H1
        have H' := Aside0.mk H
        clear H
        go_wp2
        go_loopg [19] kj2 (fun kq v19 w' => ∃ (x19_2 : Int), v19 = .int .i64 x19_2 ∧ Aside0 (spec_opLabels.l0 kq l1 (l1.length : Int) x19_2 = some r) ∧ Aside0 (kq ≤ kj2) ∧ Drawn0 w w')
        case atStart => exact ⟨(0), RF, H', ⟨Nat.le_refl _⟩, by repeat (first | exact Drawn0.refl _ | apply Drawn0.step)⟩
        case round =>
          clear H'
          try clear c1
          try clear c2
          try clear p2
          try clear c3
          try clear c5
          try clear p6
          try clear c7
          try clear p2
          try clear p6
          obtain ⟨x19_2, rfl, HA, HK2, ⟨m2, rfl⟩⟩ := hrel
          cases gk with
          | zero => exact absurd HA.out (by simp [spec_opLabels.l0])
          | succ k2 =>
            have H := HA.out
            clear HA
            simp only [spec_opLabels.l0] at H
            by_cases c8 : x19_2 < (l1.length : Int)
            · rw [if_pos c8] at H
              have c8b0 : decide (x19_2 < (l1.length : Int)) = true := decide_eq_true c8
              clear c8
              by_cases c9 : 0 ≤ x19_2
              · rw [if_pos c9] at H
                have c9b0 : decide (0 ≤ x19_2) = true := decide_eq_true c9
                clear c9
                by_cases c10 : x19_2 < (l1.length : Int)
                · rw [if_pos c10] at H
                  have c10b0 : decide (x19_2 < (l1.length : Int)) = true := decide_eq_true c10
                  clear c10
                  replace H := Option.bind_eq_some_iff.mp H
                  obtain ⟨t209, A110, H⟩ := H
                  replace H : (if t209 = true then (if (rd l1 x19_2) = 0 then (some false) else (spec_opLabels.l0 k2 l1 (l1.length : Int) (wrap64 (x19_2 + 1)))) else (some false)) = some r := H
                  have A11 := Aside0.mk A110
                  clear A110
                  by_cases c12 : t209 = true
                  · subst c12
                    have H1 : (if (rd l1 x19_2) = 0 then (some false) else (spec_opLabels.l0 k2 l1 (l1.length : Int) (wrap64 (x19_2 + 1)))) = some r := by rw [if_pos rfl] at H; exact H
                    clear H
                    have H := H1
                    clear H1
                    by_cases c13 : (rd l1 x19_2) = 0
                    · rw [if_pos c13] at H
                      have c13b0 : ((rd l1 x19_2) == 0) = true := beq_iff_eq.mpr c13
                      have c13b1 : ((rd l1 x19_2) != 0) = false := bne_eq_false_iff_eq.mpr c13
                      clear c13
                      obtain rfl := Option.some.inj H
                      have p208 : 0 ≤ (x19_2 : Int) := of_decide_eq_true AS
                      have q208 : x19_2 < (l1.length : Int) := of_decide_eq_true AS
                      obtain ⟨ad208, e208, hx208_0⟩ := Kd.at_int HR1.out x19_2 p208 q208
                      cases e208
                      replace p208 := eq_true p208
                      replace q208 := eq_true q208
                      go_wp2_with (first | ((with_reducible refine gate_callee (f := 44) rfl ?_); refine goesL_ (some 24) rfl rfl Try.func44 (by kernel_rfl) rfl #[.int .i64 (rd l1 x19_2), .int .i64 (-2), .int .i64 2] rfl TA ?_; (with_reducible refine (spec_l1In.calls (rd l1 x19_2) (-2) 2 true _ A11.out).mono ?_); rintro e w' ⟨rfl, ⟨nd, rfl⟩⟩; refine ⟨_, rfl, ?_⟩))
                      go_ret
                      exact ⟨by first | rfl | (simp; done) | (simp [*]; done) | (simp [*, wrap64]; done), by repeat (first | exact Drawn0.refl _ | apply Drawn0.step)⟩
                    · rw [if_neg c13] at H
                      have c13b0 : ((rd l1 x19_2) == 0) = false := beq_eq_false_iff_ne.mpr c13
                      have c13b1 : ((rd l1 x19_2) != 0) = true := bne_iff_ne.mpr c13
                      have H' := Aside0.mk H
                      clear H
                      have p208 : 0 ≤ (x19_2 : Int) := of_decide_eq_true AS
                      have q208 : x19_2 < (l1.length : Int) := of_decide_eq_true AS
                      obtain ⟨ad208, e208, hx208_0⟩ := Kd.at_int HR1.out x19_2 p208 q208
                      cases e208
                      replace p208 := eq_true p208
                      replace q208 := eq_true q208
                      go_wp2_with (first | ((with_reducible refine gate_callee (f := 44) rfl ?_); refine goesL_ (some 24) rfl rfl Try.func44 (by kernel_rfl) rfl #[.int .i64 (rd l1 x19_2), .int .i64 (-2), .int .i64 2] rfl TA ?_; (with_reducible refine (spec_l1In.calls (rd l1 x19_2) (-2) 2 true _ A11.out).mono ?_); rintro e w' ⟨rfl, ⟨nd, rfl⟩⟩; refine ⟨_, rfl, ?_⟩))
                      go_roundg k2
                      case measure => have := HJ2.out; have := HK2.out; omega
                      case rel => exact ⟨(wrap64 (x19_2 + 1)), RF, H', ⟨by have := HJ2.out; have := HK2.out; omega⟩, by repeat (first | exact Drawn0.refl _ | apply Drawn0.step)⟩
                  · replace c12 := Bool.eq_false_iff.mpr c12
                    subst c12
                    have H1 : (some false) = some r := by rw [if_neg (show ¬ (false = true) by decide)] at H; exact H
                    clear H
                    have H := H1
                    clear H1
                    obtain rfl := Option.some.inj H
                    have p208 : 0 ≤ (x19_2 : Int) := of_decide_eq_true AS
                    have q208 : x19_2 < (l1.length : Int) := of_decide_eq_true AS
                    obtain ⟨ad208, e208, hx208_0⟩ := Kd.at_int HR1.out x19_2 p208 q208
                    cases e208
                    replace p208 := eq_true p208
                    replace q208 := eq_true q208
                    go_wp2_with (first | ((with_reducible refine gate_callee (f := 44) rfl ?_); refine goesL_ (some 24) rfl rfl Try.func44 (by kernel_rfl) rfl #[.int .i64 (rd l1 x19_2), .int .i64 (-2), .int .i64 2] rfl TA ?_; (with_reducible refine (spec_l1In.calls (rd l1 x19_2) (-2) 2 false _ A11.out).mono ?_); rintro e w' ⟨rfl, ⟨nd, rfl⟩⟩; refine ⟨_, rfl, ?_⟩))
                    go_ret
                    exact ⟨by first | rfl | (simp; done) | (simp [*]; done) | (simp [*, wrap64]; done), by repeat (first | exact Drawn0.refl _ | apply Drawn0.step)⟩
                · rw [if_neg c10] at H
                  exact absurd H (by simp)
              · rw [if_neg c9] at H
                exact absurd H (by simp)
            · rw [if_neg c8] at H
              have c8b0 : decide (x19_2 < (l1.length : Int)) = false := decide_eq_false c8
              clear c8
              obtain rfl := Option.some.inj H
              go_wp2
              go_ret
              exact ⟨by first | rfl | (simp; done) | (simp [*]; done) | (simp [*, wrap64]; done), by repeat (first | exact Drawn0.refl _ | apply Drawn0.step)⟩

end Go.Proofs.Ytgpplbaloajgdac.PFnExactFindOpposite
