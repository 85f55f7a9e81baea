-- Written by a program of this session (wip/tools/pp.sh) out of the translation; Lean checks it.
import Derived.Test.YtgpplbaloajgdabPFnExactFairCellx0
import Derived.Test.YtgpplbaloajgdabPFnExactFairCellx2
import Derived.Test.YtgpplbaloajgdabPFnExactFairCellx3
import Derived.Test.YtgpplbaloajgdabPFnExactFairCellx4
namespace Go.Proofs.Ytgpplbaloajgdab.PFnExactFairCell
open Go.RowKit Go.Proofs.YtgpplbaloajgdabOwn Go.Proofs.YtgpplbaloajgdabW.PrintWords Go.Proofs.YtgpplbaloajgdabW.PrintLast Go.Proofs.YtgpplbaloajgdabW.PrintMore
attribute [local go_sem] max2_int min2_int max_two min_two max_three min_three max_four min_four   -- for this text's walks alone
set_option linter.unusedVariables false
set_option maxHeartbeats 8000000
set_option maxRecDepth 100000
set_option linter.unusedSimpArgs false

/-! ### spec_doWalk: function 59 -/
mutual
def spec_doWalk.l0 : Nat → List (List Int) → List Int → List Int → Int → List Int → Option (List Int × List Int)
 | 0, _, _, _, _, _ => none
 | k + 1, x0, x1, x2, x3, x10 => if x3 ≥ 0 then (spec_doWalk.j1 k x0 x1 x2 x3 x10 (decide ((x10.length : Int) ≤ (x0.length : Int)))) else (spec_doWalk.j1 k x0 x1 x2 x3 x10 false)
def spec_doWalk.j1 : Nat → List (List Int) → List Int → List Int → Int → List Int → Bool → Option (List Int × List Int)
 | 0, _, _, _, _, _, _ => none
 | k + 1, x0, x1, x2, x3, x10, x21 => if x21 = true then (if x10.length < 17592186044416 then ((some (x10 ++ [x3] : List Int)).bind fun y218 => (if 0 ≤ x3 then (if x3 < (x0.length : Int) then ((spec_doFull.f k x1 (rd_L1 x0 x3)).bind fun t222 => (if t222 = true then (some (y218, x2)) else ((spec_doOfCell.f k x1 (rd_L1 x0 x3)).bind fun t224 => (spec_doWalk.l1 k x0 x1 x2 x3 y218 t224 (t224.length : Int) 0)))) else (none)) else (none))) else (none)) else (some (x10, x2))
def spec_doWalk.l1 : Nat → List (List Int) → List Int → List Int → Int → List Int → List (List Int) → Int → Int → Option (List Int × List Int)
 | 0, _, _, _, _, _, _, _, _ => none
 | k + 1, x0, x1, x2, x3, x10, x37, x38, x39 => if x39 < x38 then (if 0 ≤ x39 then (if x39 < (x37.length : Int) then ((spec_l1Same.f k (rd_L1 x37 x39) x2).bind fun t228 => (if t228 = true then (spec_doWalk.l1 k x0 x1 x2 x3 x10 x37 x38 (wrap64 (x39 + 1))) else ((spec_doNext.f k x0 (rd_L1 x37 x39) x3).bind fun t229 => (spec_doWalk.l0 k x0 x1 (rd_L1 x37 x39) t229 x10)))) else (none)) else (none)) else ((spec_doNext.f k x0 x2 x3).bind fun t230 => (spec_doWalk.l0 k x0 x1 x2 t230 x10))
end
def spec_doWalk.f (k : Nat) (l0 : List (List Int)) (l1 : List Int) (l2 : List Int) (a3 : Int) : Option (List Int × List Int) := spec_doWalk.l0 k l0 l1 l2 a3 ([] : List Int)
theorem spec_doWalk.mono_l : ∀ k, (∀ y0 y1 y2 y3 y4, LeO (spec_doWalk.l0 k y0 y1 y2 y3 y4) (spec_doWalk.l0 (k + 1) y0 y1 y2 y3 y4)) ∧ (∀ y0 y1 y2 y3 y4 y5, LeO (spec_doWalk.j1 k y0 y1 y2 y3 y4 y5) (spec_doWalk.j1 (k + 1) y0 y1 y2 y3 y4 y5)) ∧ (∀ y0 y1 y2 y3 y4 y5 y6 y7, LeO (spec_doWalk.l1 k y0 y1 y2 y3 y4 y5 y6 y7) (spec_doWalk.l1 (k + 1) y0 y1 y2 y3 y4 y5 y6 y7))
 | 0 => ⟨fun _ _ _ _ _ r h => by simp [spec_doWalk.l0] at h, fun _ _ _ _ _ _ r h => by simp [spec_doWalk.j1] at h, fun _ _ _ _ _ _ _ _ r h => by simp [spec_doWalk.l1] at h⟩
 | k + 1 => by
  obtain ⟨ih0, ih1, ih2⟩ := spec_doWalk.mono_l k
  refine ⟨?_, ?_, ?_⟩
  ·intro y0 y1 y2 y3 y4
   unfold spec_doWalk.l0
   repeat' first
   | with_reducible first | exact ih0 _ _ _ _ _ | exact ih1 _ _ _ _ _ _ | exact ih2 _ _ _ _ _ _ _ _ | exact spec_doFull.mono _ _ _ | exact spec_doNext.mono _ _ _ _ | exact spec_doOfCell.mono _ _ _ | exact spec_l1Same.mono _ _ _ | exact LeO.refl _ | exact LeO.none _ | refine LeO.ite ?_ ?_ | refine LeO.bind ?_ (fun _ => ?_)
   | exact LeO.none _ | refine LeO.ite ?_ ?_ | refine LeO.bind ?_ (fun _ => ?_)
  ·intro y0 y1 y2 y3 y4 y5
   unfold spec_doWalk.j1
   repeat' first
   | with_reducible first | exact ih0 _ _ _ _ _ | exact ih1 _ _ _ _ _ _ | exact ih2 _ _ _ _ _ _ _ _ | exact spec_doFull.mono _ _ _ | exact spec_doNext.mono _ _ _ _ | exact spec_doOfCell.mono _ _ _ | exact spec_l1Same.mono _ _ _ | exact LeO.refl _ | exact LeO.none _ | refine LeO.ite ?_ ?_ | refine LeO.bind ?_ (fun _ => ?_)
   | exact LeO.none _ | refine LeO.ite ?_ ?_ | refine LeO.bind ?_ (fun _ => ?_)
  ·intro y0 y1 y2 y3 y4 y5 y6 y7
   unfold spec_doWalk.l1
   repeat' first
   | with_reducible first | exact ih0 _ _ _ _ _ | exact ih1 _ _ _ _ _ _ | exact ih2 _ _ _ _ _ _ _ _ | exact spec_doFull.mono _ _ _ | exact spec_doNext.mono _ _ _ _ | exact spec_doOfCell.mono _ _ _ | exact spec_l1Same.mono _ _ _ | exact LeO.refl _ | exact LeO.none _ | refine LeO.ite ?_ ?_ | refine LeO.bind ?_ (fun _ => ?_)
   | exact LeO.none _ | refine LeO.ite ?_ ?_ | refine LeO.bind ?_ (fun _ => ?_)
theorem spec_doWalk.mono : ∀ a0 a1 a2 a3 k, LeO (spec_doWalk.f k a0 a1 a2 a3) (spec_doWalk.f (k + 1) a0 a1 a2 a3) := by
 intro a0 a1 a2 a3 k
 obtain ⟨ih0, ih1, ih2⟩ := spec_doWalk.mono_l k
 unfold spec_doWalk.f
 repeat' first
   | with_reducible first | exact ih0 _ _ _ _ _ | exact ih1 _ _ _ _ _ _ | exact ih2 _ _ _ _ _ _ _ _ | exact spec_doFull.mono _ _ _ | exact spec_doNext.mono _ _ _ _ | exact spec_doOfCell.mono _ _ _ | exact spec_l1Same.mono _ _ _ | exact LeO.refl _ | exact LeO.none _ | refine LeO.ite ?_ ?_ | refine LeO.bind ?_ (fun _ => ?_)
   | exact LeO.none _ | refine LeO.ite ?_ ?_ | refine LeO.bind ?_ (fun _ => ?_)
theorem spec_doWalk.calls (k : Nat) (A0 : Option Addr) (c0 : Nat) (l0 : List (List Int)) (A1 : Option Addr) (c1 : Nat) (l1 : List Int) (P2_ : Nat → Prop) (A2 : Option Addr) (c2 : Nat) (l2 : List Int) (a3 : Int) (r1 : List Int) (r2 : List Int) (w : World) (hr0 : Kd.C (Kd.slice 3 (Kd.int .i64)) w A0 l0.length l0) (hc0 : l0.length ≤ c0) (hr1 : Kd.C (Kd.int .i64) w A1 l1.length l1) (hc1 : l1.length ≤ c1) (hs2 : Kd.V (Kd.int .i64) 3 w w.heap.size (fun k_ => P2_ k_) (.slice A2 l2.length c2) l2) (h : spec_doWalk.f k l0 l1 l2 a3 = some (r1, r2)) :
  Calls Try.prog 59 #[.slice A0 l0.length c0, .slice A1 l1.length c1, .slice A2 l2.length c2, .int .i64 a3] w fun e w' => ∃ v0_ v1_ : Value, e = .returned (.tuple #[v0_, v1_]) ∧ Kd.R (Kd.int .i64) 3 w' w.heap.size (fun k_ => (w.heap.size ≤ k_)) v0_ r1 ∧ Kd.V (Kd.int .i64) 3 w' w.heap.size (fun k_ => (P2_ k_ ∨ w.heap.size ≤ k_) ∧ some k_ ≠ (v0_ : Value).ownBlock) v1_ r2 ∧ Below w.heap.size w w' := by
 have HR0 := Aside0.mk hr0
 have HC0 := Aside0.mk hc0
 clear hr0 hc0
 have HR1 := Aside0.mk hr1
 have HC1 := Aside0.mk hc1
 clear hr1 hc1
 have HO2 := Aside0.mk (show Kd.V (Kd.int .i64) 3 w w.heap.size (fun k_ => (P2_ k_ ∨ w.heap.size ≤ k_)) (.slice A2 l2.length c2) l2 from Kd.V_mono hs2 (fun k_ hk => .inl hk))
 have HB := Aside0.mk (Below.refl w.heap.size w)
 have H : (spec_doWalk.l0 k l0 l1 l2 a3 ([] : List Int)) = some (r1, r2) := h
 clear h
 have H' := Aside0.mk H
 clear H
 go_enter Try.func59, Try.ntmps59
 go_wp2
 go_loopg [2, 3, 10] k (fun kq v2 v3 v10 w' => ∃ (x2_1 : List Int) (x3_1 : Int) (x10_1 : List Int), v3 = .int .i64 x3_1 ∧ Aside0 (spec_doWalk.l0 kq l0 l1 x2_1 x3_1 x10_1 = some (r1, r2)) ∧ Aside0 (kq ≤ k) ∧ Aside0 (Kd.V (Kd.int .i64) 3 w' w.heap.size (fun k_ => (P2_ k_ ∨ w.heap.size ≤ k_) ∧ some k_ ≠ (v10 : Value).ownBlock) v2 x2_1) ∧ Aside0 (Kd.R (Kd.int .i64) 3 w' w.heap.size (fun k_ => (w.heap.size ≤ k_)) v10 x10_1) ∧ Aside0 (Below w.heap.size w w'))
 case atStart => exact ⟨(l2), (a3), (([] : List Int)), RF, H', ⟨Nat.le_refl _⟩, ⟨by (with_reducible repeat (first | apply Kd.V_alloc | apply Kd.V_drewN | apply Kd.V_drew)); exact Kd.V_mono HO2.out (fun _ hk => ⟨hk, (by simp [Value.ownBlock])⟩)⟩, ⟨by first | exact Kd.R_nil _ _ _ _ _ | exact Kd.N_nil _ _ _ _ _ | exact Kd.V_nil _ _ _ _ _ | exact Kd.Q_nil _ _ _ _ _ | exact Kd.S_nil _ _ _ _ _⟩, ⟨BB⟩⟩
 case round =>
  clear H'
  try clear c1
  try clear c2
  try clear p2
  obtain ⟨x2_1, x3_1, x10_1, rfl, HA, HK1, HO_2, HO_10, HB⟩ := hrel
  cases gk with
  | zero => exact absurd HA.out (by simp [spec_doWalk.l0])
  | succ k1 =>
   have H := HA.out
   clear HA
   simp only [spec_doWalk.l0] at H
   have HC5 := Aside0.mk H
   clear H
   go_upto_region 2 with (fail)
   go_cut [21] (fun v21 wc => ∃ (kq : Nat) (x21_4 : Bool), v21 = .bool x21_4 ∧ Aside0 (spec_doWalk.j1 kq l0 l1 x2_1 x3_1 x10_1 x21_4 = some (r1, r2)) ∧ Aside0 (kq ≤ k1) ∧ Aside0 (Kd.V (Kd.int .i64) 3 wc w.heap.size (fun k_ => (P2_ k_ ∨ w.heap.size ≤ k_) ∧ some k_ ≠ (u10 : Value).ownBlock) u2 x2_1) ∧ Aside0 (Kd.R (Kd.int .i64) 3 wc w.heap.size (fun k_ => (w.heap.size ≤ k_)) u10 x10_1) ∧ Aside0 (Below w.heap.size w wc))
   case first =>
    have H := HC5.out
    clear HC5
    by_cases c6 : x3_1 ≥ 0
    ·rw [if_pos c6] at H
     have c6b0 : decide (0 ≤ x3_1) = true := decide_eq_true c6
     clear c6
     (first | rw [c6b0] | (simp only [i64_w, i32_w]; rw [c6b0]) | skip)
     have H' := Aside0.mk H
     clear H
     obtain ⟨Ao7, co7, eo7⟩ := Kd.R_slice HO_10.out
     subst eo7
     go_wp2
     go_meet
     case rel => exact ⟨_, (decide ((x10_1.length : Int) ≤ (l0.length : Int))), RF, H', ⟨by have := HK1.out; first | omega | exact Nat.le_refl _⟩, ⟨by (with_reducible repeat (first | apply Kd.V_alloc | apply Kd.V_drewN | apply Kd.V_drew)); exact HO_2.out⟩, ⟨KR HO_10⟩, ⟨BB⟩⟩
    ·rw [if_neg c6] at H
     have c6b0 : decide (0 ≤ x3_1) = false := decide_eq_false c6
     clear c6
     (first | rw [c6b0] | (simp only [i64_w, i32_w]; rw [c6b0]) | skip)
     have H' := Aside0.mk H
     clear H
     go_wp2
     go_meet
     case rel => exact ⟨_, (false), RF, H', ⟨by have := HK1.out; first | omega | exact Nat.le_refl _⟩, ⟨by (with_reducible repeat (first | apply Kd.V_alloc | apply Kd.V_drewN | apply Kd.V_drew)); exact HO_2.out⟩, ⟨KR HO_10⟩, ⟨BB⟩⟩
   case rest =>
    clear HC5
    try clear c1
    try clear c2
    try clear p2
    try clear c5
    try clear c6
    try clear c6b0
    try clear p6
    try clear p2
    obtain ⟨kq, x21_4, rfl, HA, HJ4, HO_2, HO_10, HB⟩ := hcut
    cases kq with
    | zero => exact absurd HA.out (by simp [spec_doWalk.j1])
    | succ kj4 =>
     have H := HA.out
     clear HA
     simp only [spec_doWalk.j1] at H
     by_cases c8 : x21_4 = true
     ·subst c8
      replace H := IP H
      by_cases c9 : x10_1.length < 17592186044416
      ·rw [if_pos c9] at H
       have LMc9 := Aside0.mk c9
       clear c9
       obtain ⟨y218, hy218⟩ : ∃ y_ : List Int, y_ = (x10_1 ++ [x3_1]) := ⟨_, rfl⟩
       replace H : (if 0 ≤ x3_1 then (if x3_1 < (l0.length : Int) then ((spec_doFull.f kj4 l1 (rd_L1 l0 x3_1)).bind fun t222 => (if t222 = true then (some (y218, x2_1)) else ((spec_doOfCell.f kj4 l1 (rd_L1 l0 x3_1)).bind fun t224 => (spec_doWalk.l1 kj4 l0 l1 x2_1 x3_1 y218 t224 (t224.length : Int) 0)))) else (none)) else (none)) = some (r1, r2) := HY H hy218
       have Ny218 := Aside0.mk hy218
       clear hy218
       by_cases c10 : 0 ≤ x3_1
       ·rw [if_pos c10] at H
        have c10b0 : decide (0 ≤ x3_1) = true := decide_eq_true c10
        clear c10
        by_cases c11 : x3_1 < (l0.length : Int)
        ·rw [if_pos c11] at H
         have c11b0 : decide (x3_1 < (l0.length : Int)) = true := decide_eq_true c11
         clear c11
         obtain ⟨t222, A120, H⟩ := Option.bind_eq_some_iff.mp H
         have A12 := Aside0.mk A120
         clear A120
         by_cases c13 : t222 = true
         ·subst c13
          replace H := IP H
          simp only [Option.some.injEq, Prod.mk.injEq] at H
          obtain ⟨rfl, rfl⟩ := H
          go_wp2_with (first | ((with_reducible refine gate_builtin (b := .append) (xs := #[.tmp 22, .tmp 24]) rfl ?_); (try (refine gate_guard (by rfl) ?_; dsimp only)); at_builtin; refine Kd.R_append (Kd.int .i64) (w0 := w) w.heap.size rfl (.tmp 22) (.tmp 24) 22 3 (.int .i64 0) 8 rfl Try.underlying22 info3 rfl (by decide) (by omega) u10 x10_1 x3_1 [.int .i64 x3_1] (fun k_ => (w.heap.size ≤ k_)) (fun _ => False) rfl rfl ?aP (fun _ hk => hk.elim) ?aF ?aO ?aB ?aS ?aL ?_; (case aP => exact rfl); (case aB => exact BB); (case aF => exact (fun k_ hk => (Nat.le_trans (below_size BB) hk))); (case aO => exact (KR HO_10)); (case aS => exact (below_size BB)); (case aL => have := LMc9.out; omega); intro v219 w14 ho hb hg hat; rw [← Ny218.out] at ho; have n0_ := Aside0.mk (Kd.V_afterv (ok := (fun k_ => (P2_ k_ ∨ w.heap.size ≤ k_))) (by (with_reducible repeat (first | apply Kd.V_alloc | apply Kd.V_drewN | apply Kd.V_drew)); exact HO_2.out) hg hat); have n1_ := Aside0.mk (hb); have n2_ := Aside0.mk (ho); clear HO_2; clear HB; clear HO_10; have HO_2 := n0_; have HB := n1_; have HO220 := n2_; clear n0_ n1_ n2_; clear ho hb hg hat; have p221 : 0 ≤ (x3_1 : Int) := of_decide_eq_true AS; have q221 : x3_1 < (l0.length : Int) := of_decide_eq_true AS; obtain ⟨ad221, A221_0, c221_0, e221, hx221_0, hl221_0, hi221_0⟩ := at_L1 HR0.out x3_1 p221 q221; cases e221; replace hx221_0 := (HB.out.cell (World.block_lt_of_cell? w _ hx221_0)).trans hx221_0; have HR221_0 := Aside0.mk hi221_0; have HC221_0 := Aside0.mk hl221_0; clear hi221_0 hl221_0; replace p221 := eq_true p221; replace q221 := eq_true q221) | ((with_reducible refine gate_callee (f := 62) rfl ?_); refine goesL_ (some 31) rfl rfl Try.func62 (by kernel_rfl) rfl #[.slice A1 l1.length c1, .slice A221_0 (rd_L1 l0 x3_1).length c221_0] rfl TA ?_; (with_reducible refine (spec_doFull.calls kj4 _ _ l1 _ _ (rd_L1 l0 x3_1) true _ ?side1 ?side2 ?side3 ?side4 A12.out).mono ?_); (case side1 => exact CW (Kd.C_below HR1.out HB.out)); (case side2 => exact HC1.out); (case side3 => exact CW (Kd.C_below HR221_0.out HB.out)); (case side4 => exact HC221_0.out); rintro e w' ⟨rfl, ⟨nd, rfl⟩⟩; refine ⟨_, rfl, ?_⟩))
          go_ret2
          exact ⟨_, _, RE, KR HO220, by (with_reducible repeat (first | apply Kd.V_alloc | apply Kd.V_drewN | apply Kd.V_drew)); exact HO_2.out, BB⟩
         ·replace c13 := Bool.eq_false_iff.mpr c13
          subst c13
          replace H := IN H
          obtain ⟨t224, A150, H⟩ := Option.bind_eq_some_iff.mp H
          have A15 := Aside0.mk A150
          clear A150
          have H' := Aside0.mk H
          clear H
          go_wp2_with (first | ((with_reducible refine gate_builtin (b := .append) (xs := #[.tmp 22, .tmp 24]) rfl ?_); (try (refine gate_guard (by rfl) ?_; dsimp only)); at_builtin; refine Kd.R_append (Kd.int .i64) (w0 := w) w.heap.size rfl (.tmp 22) (.tmp 24) 22 3 (.int .i64 0) 8 rfl Try.underlying22 info3 rfl (by decide) (by omega) u10 x10_1 x3_1 [.int .i64 x3_1] (fun k_ => (w.heap.size ≤ k_)) (fun _ => False) rfl rfl ?aP (fun _ hk => hk.elim) ?aF ?aO ?aB ?aS ?aL ?_; (case aP => exact rfl); (case aB => exact BB); (case aF => exact (fun k_ hk => (Nat.le_trans (below_size BB) hk))); (case aO => exact (KR HO_10)); (case aS => exact (below_size BB)); (case aL => have := LMc9.out; omega); intro v219 w16 ho hb hg hat; rw [← Ny218.out] at ho; have n0_ := Aside0.mk (Kd.V_afterv (ok := (fun k_ => (P2_ k_ ∨ w.heap.size ≤ k_))) (by (with_reducible repeat (first | apply Kd.V_alloc | apply Kd.V_drewN | apply Kd.V_drew)); exact HO_2.out) hg hat); have n1_ := Aside0.mk (hb); have n2_ := Aside0.mk (ho); clear HO_2; clear HB; clear HO_10; have HO_2 := n0_; have HB := n1_; have HO220 := n2_; clear n0_ n1_ n2_; clear ho hb hg hat; have p221 : 0 ≤ (x3_1 : Int) := of_decide_eq_true AS; have q221 : x3_1 < (l0.length : Int) := of_decide_eq_true AS; obtain ⟨ad221, A221_0, c221_0, e221, hx221_0, hl221_0, hi221_0⟩ := at_L1 HR0.out x3_1 p221 q221; cases e221; replace hx221_0 := (HB.out.cell (World.block_lt_of_cell? w _ hx221_0)).trans hx221_0; have HR221_0 := Aside0.mk hi221_0; have HC221_0 := Aside0.mk hl221_0; clear hi221_0 hl221_0; replace p221 := eq_true p221; replace q221 := eq_true q221) | ((with_reducible refine gate_callee (f := 62) rfl ?_); refine goesL_ (some 31) rfl rfl Try.func62 (by kernel_rfl) rfl #[.slice A1 l1.length c1, .slice A221_0 (rd_L1 l0 x3_1).length c221_0] rfl TA ?_; (with_reducible refine (spec_doFull.calls kj4 _ _ l1 _ _ (rd_L1 l0 x3_1) false _ ?side1 ?side2 ?side3 ?side4 A12.out).mono ?_); (case side1 => exact CW (Kd.C_below HR1.out HB.out)); (case side2 => exact HC1.out); (case side3 => exact CW (Kd.C_below HR221_0.out HB.out)); (case side4 => exact HC221_0.out); rintro e w' ⟨rfl, ⟨nd, rfl⟩⟩; refine ⟨_, rfl, ?_⟩; have p223 : 0 ≤ (x3_1 : Int) := of_decide_eq_true AS; have q223 : x3_1 < (l0.length : Int) := of_decide_eq_true AS; obtain ⟨ad223, A223_0, c223_0, e223, hx223_0, hl223_0, hi223_0⟩ := at_L1 HR0.out x3_1 p223 q223; obtain rfl : ad221 = ad223 := (by injection e223); replace hx223_0 := (HB.out.cell (World.block_lt_of_cell? w _ hx223_0)).trans hx223_0; have HR223_0 := Aside0.mk hi223_0; have HC223_0 := Aside0.mk hl223_0; clear hi223_0 hl223_0; replace p223 := eq_true p223; replace q223 := eq_true q223; have ea_ := Option.some.inj (hx221_0.symm.trans hx223_0); injection ea_ with ea_ en_ ec_; subst ea_; subst ec_; clear en_) | ((with_reducible refine gate_callee (f := 29) rfl ?_); refine goesL_ (some 37) rfl rfl Try.func29 (by kernel_rfl) rfl #[.slice A1 l1.length c1, .slice A221_0 (rd_L1 l0 x3_1).length c221_0] rfl TA ?_; (with_reducible refine (spec_doOfCell.calls kj4 _ _ l1 _ _ (rd_L1 l0 x3_1) t224 _ ?side1 ?side2 ?side3 ?side4 A15.out).mono ?_); (case side1 => exact CW (Kd.C_below HR1.out BB)); (case side2 => exact HC1.out); (case side3 => exact CW (Kd.C_below HR223_0.out BB)); (case side4 => exact HC223_0.out); rintro e w17 ⟨v225, rfl, ho0, hb⟩; refine ⟨_, rfl, ?_⟩; have n0_ := Aside0.mk (Kd.V_elder' (by (with_reducible repeat (first | apply Kd.V_alloc | apply Kd.V_drewN | apply Kd.V_drew)); exact HO_2.out) (Kd.S_base ho0) hb); have n1_ := Aside0.mk (Kd.R_below (KR HO220) hb); have n2_ := Aside0.mk (Kd.S_lower (Kd.S_new' (Kd.S_newM (M := fun k_ => (w.heap.size ≤ k_)) ho0 (below_size BB) (fun k_ h_ => h_)) (Kd.R_lt (KR HO220))) (below_size BB)); have n3_ := Aside0.mk (below_step BB hb); clear HO_2; clear HO220; clear HB; have HO_2 := n0_; have HO220 := n1_; have HO226 := n2_; have HB := n3_; clear n0_ n1_ n2_ n3_; (try clear hb); (try clear hb2); (try clear hk); (try clear hi); (try clear ho0); obtain ⟨Ao18, co18, eo18⟩ := Kd.S_slice HO226.out; subst eo18))
          go_loopg [2, 39] kj4 (fun kq v2 v39 w' => ∃ (x2_3 : List Int) (x39_3 : Int), v39 = .int .i64 x39_3 ∧ Aside0 (spec_doWalk.l1 kq l0 l1 x2_3 x3_1 y218 t224 (t224.length : Int) x39_3 = some (r1, r2)) ∧ Aside0 (kq ≤ kj4) ∧ Aside0 (Kd.V (Kd.int .i64) 3 w' w.heap.size (fun k_ => (P2_ k_ ∨ w.heap.size ≤ k_) ∧ some k_ ≠ (v219 : Value).ownBlock ∧ some k_ ≠ ((.slice Ao18 t224.length co18) : Value).ownBlock) v2 x2_3) ∧ Aside0 (Kd.R (Kd.int .i64) 3 w' w.heap.size (fun k_ => (w.heap.size ≤ k_)) v219 y218) ∧ Aside0 (Kd.S (Kd.slice 3 (Kd.int .i64)) 22 w' w.heap.size (fun k_ => (w.heap.size ≤ k_) ∧ some k_ ≠ (v219 : Value).ownBlock) (.slice Ao18 t224.length co18) t224) ∧ Aside0 (Below w.heap.size w w'))
          case atStart => exact ⟨(x2_1), (0), RF, H', ⟨Nat.le_refl _⟩, ⟨by (with_reducible repeat (first | apply Kd.V_alloc | apply Kd.V_drewN | apply Kd.V_drew)); exact Kd.V_mono HO_2.out (fun _ hk => ⟨hk.1.1, ⟨hk.1.2, hk.2⟩⟩)⟩, ⟨KR HO220⟩, ⟨by (with_reducible repeat (first | apply Kd.S_alloc | apply Kd.S_drewN | apply Kd.S_drew)); exact Kd.S_mono HO226.out (fun _ hk => ⟨hk.1.1, hk.2⟩)⟩, ⟨BB⟩⟩
          case round =>
           clear H'
           try clear c1
           try clear c2
           try clear p2
           try clear q2
           try clear hx2
           try clear c5
           try clear c6
           try clear c6b0
           try clear p6
           try clear c8
           try clear c9
           try clear c10
           try clear c10b0
           try clear c11
           try clear c11b0
           try clear c13
           try clear hx221_0
           try clear hx223_0
           try clear p2
           try clear p221
           try clear p223
           try clear p6
           try clear q221
           try clear q223
           obtain ⟨x2_3, x39_3, rfl, HA, HK3, HO_2, HO_10, HO_37, HB⟩ := hrel
           cases gk with
           | zero => exact absurd HA.out (by simp [spec_doWalk.l1])
           | succ k3 =>
            have H := HA.out
            clear HA
            simp only [spec_doWalk.l1] at H
            by_cases c19 : x39_3 < (t224.length : Int)
            ·rw [if_pos c19] at H
             have c19b0 : decide (x39_3 < (t224.length : Int)) = true := decide_eq_true c19
             clear c19
             by_cases c20 : 0 ≤ x39_3
             ·rw [if_pos c20] at H
              have c20b0 : decide (0 ≤ x39_3) = true := decide_eq_true c20
              clear c20
              by_cases c21 : x39_3 < (t224.length : Int)
              ·rw [if_pos c21] at H
               have c21b0 : decide (x39_3 < (t224.length : Int)) = true := decide_eq_true c21
               clear c21
               obtain ⟨t228, A220, H⟩ := Option.bind_eq_some_iff.mp H
               have A22 := Aside0.mk A220
               clear A220
               by_cases c23 : t228 = true
               ·subst c23
                replace H := IP H
                have H' := Aside0.mk H
                clear H
                have p227 : 0 ≤ (x39_3 : Int) := of_decide_eq_true AS
                have q227 : x39_3 < (t224.length : Int) := of_decide_eq_true AS
                obtain ⟨ad227, A227_0, c227_0, e227, hx227_0, hl227_0, hi227_0⟩ := at_L1 (Kd.S_reads' HO_37.out).2.2 x39_3 p227 q227
                cases e227
                obtain ⟨ce227, hce227, hMe227, hcc227⟩ := Kd.S_get HO_37.out [] x39_3 p227 (by first | exact q227 | exact of_decide_eq_true AS | (have e_ := (Kd.S_reads' HO_37.out).1; omega))
                obtain ⟨ve227_0, rfl, ge227_0⟩ := hMe227
                have hv227_0 := hcc227 0 _ rfl
                rw [Nat.add_zero, show ((Kd.slice 3 (Kd.int .i64))).sz = 1 from rfl, Nat.mul_one] at hv227_0
                replace hv227_0 := Option.some.inj (hv227_0.symm.trans hx227_0)
                rw [hv227_0] at ge227_0
                have HL227_0 := Aside0.mk (show Kd.R (Kd.int .i64) 3 _ _ _ _ (rd_L1 t224 x39_3) from ge227_0)
                clear hv227_0 ge227_0
                clear hcc227 hce227
                have HR227_0 := Aside0.mk hi227_0
                have HC227_0 := Aside0.mk hl227_0
                clear hi227_0 hl227_0
                replace p227 := eq_true p227
                replace q227 := eq_true q227
                obtain ⟨Ao24, co24, eo24⟩ := Kd.V_slice HO_2.out
                subst eo24
                go_wp2_with (first | ((with_reducible refine gate_callee (f := 92) rfl ?_); refine goesL_ (some 45) rfl rfl Try.func92 (by kernel_rfl) rfl #[.slice A227_0 (rd_L1 t224 x39_3).length c227_0, .slice Ao24 x2_3.length co24] rfl TA ?_; (with_reducible refine (spec_l1Same.calls k3 _ _ (rd_L1 t224 x39_3) _ _ x2_3 true _ ?side1 ?side2 ?side3 ?side4 A22.out).mono ?_); (case side1 => exact CW (by repeat (first | (with_reducible exact HR227_0.out) | (with_reducible refine Kd.C_drewN ?_ _) | (with_reducible refine Kd.C_drew ?_) | (with_reducible refine Kd.C_alloc ?_ _) | exact HR227_0.out))); (case side2 => exact HC227_0.out); (case side3 => exact CW (Kd.V_reads' HO_2.out).2.2); (case side4 => exact (Kd.V_reads' HO_2.out).2.1); rintro e w' ⟨rfl, ⟨nd, rfl⟩⟩; refine ⟨_, rfl, ?_⟩))
                go_roundg k3
                case measure => have := HK1.out; have := HJ4.out; have := HK3.out; omega
                case rel => exact ⟨(x2_3), (wrap64 (x39_3 + 1)), RF, H', ⟨by have := HK1.out; have := HJ4.out; have := HK3.out; omega⟩, ⟨by (with_reducible repeat (first | apply Kd.V_alloc | apply Kd.V_drewN | apply Kd.V_drew)); exact HO_2.out⟩, ⟨KR HO_10⟩, ⟨KS HO_37⟩, ⟨BB⟩⟩
               ·replace c23 := Bool.eq_false_iff.mpr c23
                subst c23
                replace H := IN H
                obtain ⟨t229, A250, H⟩ := Option.bind_eq_some_iff.mp H
                have A25 := Aside0.mk A250
                clear A250
                have H' := Aside0.mk H
                clear H
                have p227 : 0 ≤ (x39_3 : Int) := of_decide_eq_true AS
                have q227 : x39_3 < (t224.length : Int) := of_decide_eq_true AS
                obtain ⟨ad227, A227_0, c227_0, e227, hx227_0, hl227_0, hi227_0⟩ := at_L1 (Kd.S_reads' HO_37.out).2.2 x39_3 p227 q227
                cases e227
                obtain ⟨ce227, hce227, hMe227, hcc227⟩ := Kd.S_get HO_37.out [] x39_3 p227 (by first | exact q227 | exact of_decide_eq_true AS | (have e_ := (Kd.S_reads' HO_37.out).1; omega))
                obtain ⟨ve227_0, rfl, ge227_0⟩ := hMe227
                have hv227_0 := hcc227 0 _ rfl
                rw [Nat.add_zero, show ((Kd.slice 3 (Kd.int .i64))).sz = 1 from rfl, Nat.mul_one] at hv227_0
                replace hv227_0 := Option.some.inj (hv227_0.symm.trans hx227_0)
                rw [hv227_0] at ge227_0
                have HL227_0 := Aside0.mk (show Kd.R (Kd.int .i64) 3 _ _ _ _ (rd_L1 t224 x39_3) from ge227_0)
                clear hv227_0 ge227_0
                clear hcc227 hce227
                have HR227_0 := Aside0.mk hi227_0
                have HC227_0 := Aside0.mk hl227_0
                clear hi227_0 hl227_0
                replace p227 := eq_true p227
                replace q227 := eq_true q227
                obtain ⟨Ao26, co26, eo26⟩ := Kd.V_slice HO_2.out
                subst eo26
                go_wp2_with (first | ((with_reducible refine gate_callee (f := 92) rfl ?_); refine goesL_ (some 45) rfl rfl Try.func92 (by kernel_rfl) rfl #[.slice A227_0 (rd_L1 t224 x39_3).length c227_0, .slice Ao26 x2_3.length co26] rfl TA ?_; (with_reducible refine (spec_l1Same.calls k3 _ _ (rd_L1 t224 x39_3) _ _ x2_3 false _ ?side1 ?side2 ?side3 ?side4 A22.out).mono ?_); (case side1 => exact CW (by repeat (first | (with_reducible exact HR227_0.out) | (with_reducible refine Kd.C_drewN ?_ _) | (with_reducible refine Kd.C_drew ?_) | (with_reducible refine Kd.C_alloc ?_ _) | exact HR227_0.out))); (case side2 => exact HC227_0.out); (case side3 => exact CW (Kd.V_reads' HO_2.out).2.2); (case side4 => exact (Kd.V_reads' HO_2.out).2.1); rintro e w' ⟨rfl, ⟨nd, rfl⟩⟩; refine ⟨_, rfl, ?_⟩) | ((with_reducible refine gate_callee (f := 61) rfl ?_); refine goesL_ (some 52) rfl rfl Try.func61 (by kernel_rfl) rfl #[.slice (some ad221) l0.length c0, .slice A227_0 (rd_L1 t224 x39_3).length c227_0, .int .i64 x3_1] rfl TA ?_; (with_reducible refine (spec_doNext.calls k3 _ _ l0 _ _ (rd_L1 t224 x39_3) x3_1 t229 _ ?side1 ?side2 ?side3 ?side4 A25.out).mono ?_); (case side1 => exact CW (Kd.C_below HR0.out BB)); (case side2 => exact HC0.out); (case side3 => exact CW (by repeat (first | (with_reducible exact HR227_0.out) | (with_reducible refine Kd.C_drewN ?_ _) | (with_reducible refine Kd.C_drew ?_) | (with_reducible refine Kd.C_alloc ?_ _) | exact HR227_0.out))); (case side4 => exact HC227_0.out); rintro e w27 ⟨rfl, hb⟩; refine ⟨_, rfl, ?_⟩; have n0_ := Aside0.mk (Kd.V_below (by (with_reducible repeat (first | apply Kd.V_alloc | apply Kd.V_drewN | apply Kd.V_drew)); exact HO_2.out) hb); have n1_ := Aside0.mk (Kd.R_below (KR HO_10) hb); have n2_ := Aside0.mk (Kd.S_below (KS HO_37) hb); have n3_ := Aside0.mk (Kd.R_below (KR HL227_0) hb); have n4_ := Aside0.mk (Kd.C_below (by repeat (first | (with_reducible exact HR227_0.out) | (with_reducible refine Kd.C_drewN ?_ _) | (with_reducible refine Kd.C_drew ?_) | (with_reducible refine Kd.C_alloc ?_ _) | exact HR227_0.out)) hb); have n5_ := Aside0.mk (below_step BB hb); clear HO_2; clear HO_10; clear HO_37; clear HL227_0; clear HR227_0; clear HB; have HO_2 := n0_; have HO_10 := n1_; have HO_37 := n2_; have HL227_0 := n3_; have HR227_0 := n4_; have HB := n5_; clear n0_ n1_ n2_ n3_ n4_ n5_; (try clear hb); (try clear hb2); (try clear hk); (try clear hi)))
                go_roundg k3
                case measure => have := HK1.out; have := HJ4.out; have := HK3.out; omega
                case rel => exact ⟨(rd_L1 t224 x39_3), (t229), (y218), RF, H', ⟨by have := HK1.out; have := HJ4.out; have := HK3.out; omega⟩, ⟨Kd.V_mono (Kd.R_V (KR HL227_0)) (fun k_ hk => by first | exact ⟨.inr hk.1.1, hk.1.2⟩ | exact .inr hk.1.1)⟩, ⟨KR HO_10⟩, ⟨BB⟩⟩
              ·rw [if_neg c21] at H
               cases H
             ·rw [if_neg c20] at H
              cases H
            ·rw [if_neg c19] at H
             have c19b0 : decide (x39_3 < (t224.length : Int)) = false := decide_eq_false c19
             clear c19
             obtain ⟨t230, A280, H⟩ := Option.bind_eq_some_iff.mp H
             have A28 := Aside0.mk A280
             clear A280
             have H' := Aside0.mk H
             clear H
             obtain ⟨Ao29, co29, eo29⟩ := Kd.V_slice HO_2.out
             subst eo29
             go_wp2_with (first | ((with_reducible refine gate_callee (f := 61) rfl ?_); refine goesL_ (some 52) rfl rfl Try.func61 (by kernel_rfl) rfl #[.slice (some ad221) l0.length c0, .slice Ao29 x2_3.length co29, .int .i64 x3_1] rfl TA ?_; (with_reducible refine (spec_doNext.calls k3 _ _ l0 _ _ x2_3 x3_1 t230 _ ?side1 ?side2 ?side3 ?side4 A28.out).mono ?_); (case side1 => exact CW (Kd.C_below HR0.out HB.out)); (case side2 => exact HC0.out); (case side3 => exact CW (Kd.V_reads' HO_2.out).2.2); (case side4 => exact (Kd.V_reads' HO_2.out).2.1); rintro e w30 ⟨rfl, hb⟩; refine ⟨_, rfl, ?_⟩; have n0_ := Aside0.mk (Kd.V_below (by (with_reducible repeat (first | apply Kd.V_alloc | apply Kd.V_drewN | apply Kd.V_drew)); exact HO_2.out) hb); have n1_ := Aside0.mk (Kd.R_below (KR HO_10) hb); have n2_ := Aside0.mk (Kd.S_below (KS HO_37) hb); have n3_ := Aside0.mk (below_step BB hb); clear HO_2; clear HO_10; clear HO_37; clear HB; have HO_2 := n0_; have HO_10 := n1_; have HO_37 := n2_; have HB := n3_; clear n0_ n1_ n2_ n3_; (try clear hb); (try clear hb2); (try clear hk); (try clear hi)))
             go_roundg k3
             case measure => have := HK1.out; have := HJ4.out; have := HK3.out; omega
             case rel => exact ⟨(x2_3), (t230), (y218), RF, H', ⟨by have := HK1.out; have := HJ4.out; have := HK3.out; omega⟩, ⟨by (with_reducible repeat (first | apply Kd.V_alloc | apply Kd.V_drewN | apply Kd.V_drew)); exact Kd.V_mono HO_2.out (fun _ hk => ⟨hk.1, hk.2.1⟩)⟩, ⟨KR HO_10⟩, ⟨BB⟩⟩
        ·rw [if_neg c11] at H
         cases H
       ·rw [if_neg c10] at H
        cases H
      ·rw [if_neg c9] at H
       cases H
     ·replace c8 := Bool.eq_false_iff.mpr c8
      subst c8
      replace H := IN H
      simp only [Option.some.injEq, Prod.mk.injEq] at H
      obtain ⟨rfl, rfl⟩ := H
      go_wp2
      go_ret2
      exact ⟨_, _, RE, KR HO_10, by (with_reducible repeat (first | apply Kd.V_alloc | apply Kd.V_drewN | apply Kd.V_drew)); exact HO_2.out, BB⟩

/-! ### spec_l1Least: function 93 -/
def spec_l1Least.f (a0 : Int) (a1 : Int) : Option (Int) := if a0 < a1 then (some a0) else (some a1)
theorem spec_l1Least.calls (a0 : Int) (a1 : Int) (r : Int) (w : World) (h : spec_l1Least.f a0 a1 = some r) :
  Calls Try.prog 93 #[.int .i64 a0, .int .i64 a1] w fun e w' => e = .returned (.int .i64 r) ∧ Drawn0 w w' := by
 have H : (if a0 < a1 then (some a0) else (some a1)) = some r := h
 clear h
 by_cases c3 : a0 < a1
 ·rw [if_pos c3] at H
  have c3b0 : decide (a0 < a1) = true := decide_eq_true c3
  clear c3
  obtain rfl := Option.some.inj H
  go_enter Try.func93, Try.ntmps93
  go_wp2
  go_ret
  exact ⟨RF, DR⟩
 ·rw [if_neg c3] at H
  have c3b0 : decide (a0 < a1) = false := decide_eq_false c3
  clear c3
  obtain rfl := Option.some.inj H
  go_enter Try.func93, Try.ntmps93
  go_wp2
  go_ret
  exact ⟨RF, DR⟩

/-! ### spec_doInner: function 60 -/
def spec_doInner.f (a0 : Int) (a1 : Int) : Option (List Int) := (spec_l1Least.f a0 a1).bind fun t231 => ((spec_l1Most.f a0 a1).bind fun t232 => (some (([t231, t232] : List Int))))
theorem spec_doInner.calls (a0 : Int) (a1 : Int) (r : List Int) (w : World) (h : spec_doInner.f a0 a1 = some r) :
  Calls Try.prog 60 #[.int .i64 a0, .int .i64 a1] w fun e w' => ∃ v0_ : Value, e = .returned (v0_) ∧ Kd.R (Kd.int .i64) 3 w' w.heap.size (fun _ => True) v0_ r ∧ Below w.heap.size w w' := by
 have HB := Aside0.mk (Below.refl w.heap.size w)
 have H : ((spec_l1Least.f a0 a1).bind fun t231 => ((spec_l1Most.f a0 a1).bind fun t232 => (some (([t231, t232] : List Int))))) = some r := h
 clear h
 obtain ⟨t231, A30, H⟩ := Option.bind_eq_some_iff.mp H
 have A3 := Aside0.mk A30
 clear A30
 obtain ⟨t232, A40, H⟩ := Option.bind_eq_some_iff.mp H
 have A4 := Aside0.mk A40
 clear A40
 obtain ⟨y233, hy233⟩ : ∃ y_ : List Int, y_ = (([t231, t232] : List Int)) := ⟨_, rfl⟩
 replace H : (some y233) = some r := HY H hy233
 have Ny233 := Aside0.mk hy233
 clear hy233
 obtain rfl := Option.some.inj H
 go_enter Try.func60, Try.ntmps60
 go_wp2_with (first | ((with_reducible refine gate_callee (f := 93) rfl ?_); refine goesL_ (some 7) rfl rfl Try.func93 (by kernel_rfl) rfl #[.int .i64 a0, .int .i64 a1] rfl TA ?_; (with_reducible refine (spec_l1Least.calls a0 a1 t231 _ A3.out).mono ?_); rintro e w' ⟨rfl, ⟨nd, rfl⟩⟩; refine ⟨_, rfl, ?_⟩) | ((with_reducible refine gate_callee (f := 94) rfl ?_); refine goesL_ (some 10) rfl rfl Try.func94 (by kernel_rfl) rfl #[.int .i64 a0, .int .i64 a1] rfl TA ?_; (with_reducible refine (spec_l1Most.calls a0 a1 t232 _ A4.out).mono ?_); rintro e w' ⟨rfl, ⟨nd, rfl⟩⟩; refine ⟨_, rfl, ?_⟩) | ((with_reducible refine gate_dst (N := 11) rfl ?_); refine Kd.R_lit (Kd.int .i64) _ 3 ?hg (N := 11) ?hd (xs := ([t231, t232] : List Int)) (inner := [.int .i64 t231, .int .i64 t232]) (ok := fun _ => True) (okp := fun _ => True) ?hr ?hp (fun _ hk => hk) trivial (Below.refl _ _) (Nat.le_refl _) (by simp) ?_; (case hd => rfl); (case hg => rfl); (case hr => exact GS); (case hp => exact (Reps.one (show Kd.M (Kd.int .i64) _ _ _ t231 [.int .i64 t231] from rfl) (Reps.one (show Kd.M (Kd.int .i64) _ _ _ t232 [.int .i64 t232] from rfl) (Reps.none _ _)))); intro v234 w5 ho6 hb hg_ hnew_; clear hg_ hnew_; (first | rw [← Ny233.out] at ho6 | (simp only [Int.reduceToNat] at ho6; rw [← Ny233.out] at ho6)); have n0_ := Aside0.mk (Kd.R_lower ho6 (below_size BB)); have n1_ := Aside0.mk (below_step BB hb); clear HB; have HO235 := n0_; have HB := n1_; clear n0_ n1_; clear hb ho6))
 go_ret
 exact ⟨_, RE, KR HO235, BB⟩

/-! ### spec_doFrom: function 26 -/
def spec_doFrom.f (k : Nat) (a0 : Int) (l1 : List Int) (a2 : Int) (a3 : Int) : Option (List Int × List Int) := (spec_meCells.f k a0).bind fun t236 => ((spec_doInner.f a2 a3).bind fun t239 => ((spec_doInner.f a2 a3).bind fun t242 => ((spec_doNext.f k t236 t242 (-1)).bind fun t245 => ((spec_doWalk.f k t236 l1 t239 t245).bind fun bt246 => (some (bt246.1, bt246.2))))))
theorem spec_doFrom.mono : ∀ a0 a1 a2 a3 k, LeO (spec_doFrom.f k a0 a1 a2 a3) (spec_doFrom.f (k + 1) a0 a1 a2 a3) := by
 intro a0 a1 a2 a3 k
 unfold spec_doFrom.f
 repeat' first
   | with_reducible first | exact spec_doNext.mono _ _ _ _ | exact spec_doWalk.mono _ _ _ _ _ | exact spec_meCells.mono _ _ | exact LeO.refl _ | exact LeO.none _ | refine LeO.ite ?_ ?_ | refine LeO.bind ?_ (fun _ => ?_)
   | exact LeO.none _ | refine LeO.ite ?_ ?_ | refine LeO.bind ?_ (fun _ => ?_)
theorem spec_doFrom.calls (k : Nat) (a0 : Int) (A1 : Option Addr) (c1 : Nat) (l1 : List Int) (a2 : Int) (a3 : Int) (r1 : List Int) (r2 : List Int) (w : World) (hr1 : Kd.C (Kd.int .i64) w A1 l1.length l1) (hc1 : l1.length ≤ c1) (h : spec_doFrom.f k a0 l1 a2 a3 = some (r1, r2)) :
  Calls Try.prog 26 #[.int .i64 a0, .slice A1 l1.length c1, .int .i64 a2, .int .i64 a3] w fun e w' => ∃ v0_ v1_ : Value, e = .returned (.tuple #[v0_, v1_]) ∧ Kd.R (Kd.int .i64) 3 w' w.heap.size (fun k_ => (w.heap.size ≤ k_)) v0_ r1 ∧ Kd.V (Kd.int .i64) 3 w' w.heap.size (fun k_ => (w.heap.size ≤ k_) ∧ some k_ ≠ (v0_ : Value).ownBlock) v1_ r2 ∧ Below w.heap.size w w' := by
 have HR1 := Aside0.mk hr1
 have HC1 := Aside0.mk hc1
 clear hr1 hc1
 have HB := Aside0.mk (Below.refl w.heap.size w)
 have H : ((spec_meCells.f k a0).bind fun t236 => ((spec_doInner.f a2 a3).bind fun t239 => ((spec_doInner.f a2 a3).bind fun t242 => ((spec_doNext.f k t236 t242 (-1)).bind fun t245 => ((spec_doWalk.f k t236 l1 t239 t245).bind fun bt246 => (some (bt246.1, bt246.2))))))) = some (r1, r2) := h
 clear h
 obtain ⟨t236, A50, H⟩ := Option.bind_eq_some_iff.mp H
 have A5 := Aside0.mk A50
 clear A50
 obtain ⟨t239, A60, H⟩ := Option.bind_eq_some_iff.mp H
 have A6 := Aside0.mk A60
 clear A60
 obtain ⟨t242, A70, H⟩ := Option.bind_eq_some_iff.mp H
 have A7 := Aside0.mk A70
 clear A70
 obtain ⟨t245, A80, H⟩ := Option.bind_eq_some_iff.mp H
 have A8 := Aside0.mk A80
 clear A80
 obtain ⟨⟨t246, t249⟩, A90, H⟩ := Option.bind_eq_some_iff.mp H
 replace H : (some (t246, t249)) = some (r1, r2) := H
 have A9 := Aside0.mk A90
 clear A90
 simp only [Option.some.injEq, Prod.mk.injEq] at H
 obtain ⟨rfl, rfl⟩ := H
 go_enter Try.func26, Try.ntmps26
 go_wp2_with (first | ((with_reducible refine gate_callee (f := 24) rfl ?_); refine goesL_ (some 12) rfl rfl Try.func24 (by kernel_rfl) rfl #[.int .i64 a0] rfl TA ?_; (with_reducible refine (spec_meCells.calls k a0 t236 _ A5.out).mono ?_); rintro e w10 ⟨v237, rfl, ho0, hb⟩; refine ⟨_, rfl, ?_⟩; have n0_ := Aside0.mk (Kd.S_lower (Kd.S_newM (M := fun k_ => (w.heap.size ≤ k_)) ho0 (below_size BB) (fun k_ h_ => h_)) (below_size BB)); have n1_ := Aside0.mk (below_step BB hb); clear HB; have HO238 := n0_; have HB := n1_; clear n0_ n1_; (try clear hb); (try clear hb2); (try clear hk); (try clear hi); (try clear ho0)) | ((with_reducible refine gate_callee (f := 60) rfl ?_); refine goesL_ (some 17) rfl rfl Try.func60 (by kernel_rfl) rfl #[.int .i64 a2, .int .i64 a3] rfl TA ?_; (with_reducible refine (spec_doInner.calls a2 a3 t239 _ A6.out).mono ?_); rintro e w11 ⟨v240, rfl, ho0, hb⟩; refine ⟨_, rfl, ?_⟩; have n0_ := Aside0.mk (Kd.S_elder' (KS HO238) (Kd.R_base ho0) hb); have n1_ := Aside0.mk (Kd.R_lower (Kd.R_newM (M := fun k_ => (w.heap.size ≤ k_)) ho0 (below_size BB) (fun k_ h_ => h_)) (below_size BB)); have n2_ := Aside0.mk (below_step BB hb); clear HO238; clear HB; have HO238 := n0_; have HO241 := n1_; have HB := n2_; clear n0_ n1_ n2_; (try clear hb); (try clear hb2); (try clear hk); (try clear hi); (try clear ho0)) | ((with_reducible refine gate_callee (f := 60) rfl ?_); refine goesL_ (some 21) rfl rfl Try.func60 (by kernel_rfl) rfl #[.int .i64 a2, .int .i64 a3] rfl TA ?_; (with_reducible refine (spec_doInner.calls a2 a3 t242 _ A7.out).mono ?_); rintro e w12 ⟨v243, rfl, ho0, hb⟩; refine ⟨_, rfl, ?_⟩; have n0_ := Aside0.mk (Kd.S_elder' (KS HO238) (Kd.R_base ho0) hb); have n1_ := Aside0.mk (Kd.R_elder' (KR HO241) (Kd.R_base ho0) hb); have n2_ := Aside0.mk (Kd.R_lower (Kd.R_new' (Kd.R_newM (M := fun k_ => (w.heap.size ≤ k_)) ho0 (below_size BB) (fun k_ h_ => h_)) (Kd.R_lt (KR HO241))) (below_size BB)); have n3_ := Aside0.mk (below_step BB hb); clear HO238; clear HO241; clear HB; have HO238 := n0_; have HO241 := n1_; have HO244 := n2_; have HB := n3_; clear n0_ n1_ n2_ n3_; (try clear hb); (try clear hb2); (try clear hk); (try clear hi); (try clear ho0); obtain ⟨Ao13, co13, eo13⟩ := Kd.S_slice HO238.out; subst eo13; obtain ⟨Ao14, co14, eo14⟩ := Kd.R_slice HO244.out; subst eo14) | ((with_reducible refine gate_callee (f := 61) rfl ?_); refine goesL_ (some 22) rfl rfl Try.func61 (by kernel_rfl) rfl #[.slice Ao13 t236.length co13, .slice Ao14 t242.length co14, .int .i64 (-1)] rfl TA ?_; (with_reducible refine (spec_doNext.calls k _ _ t236 _ _ t242 (-1) t245 _ ?side1 ?side2 ?side3 ?side4 A8.out).mono ?_); (case side1 => exact CW (Kd.S_reads' HO238.out).2.2); (case side2 => exact (Kd.S_reads' HO238.out).2.1); (case side3 => exact CW (Kd.R_reads' HO244.out).2.2); (case side4 => exact (Kd.R_reads' HO244.out).2.1); rintro e w15 ⟨rfl, hb⟩; refine ⟨_, rfl, ?_⟩; have n0_ := Aside0.mk (Kd.S_below (KS HO238) hb); have n1_ := Aside0.mk (Kd.R_below (KR HO241) hb); have n2_ := Aside0.mk (Kd.R_below (KR HO244) hb); have n3_ := Aside0.mk (below_step BB hb); clear HO238; clear HO241; clear HO244; clear HB; have HO238 := n0_; have HO241 := n1_; have HO244 := n2_; have HB := n3_; clear n0_ n1_ n2_ n3_; (try clear hb); (try clear hb2); (try clear hk); (try clear hi); obtain ⟨Ao16, co16, eo16⟩ := Kd.R_slice HO241.out; subst eo16) | ((with_reducible refine gate_callee (f := 59) rfl ?_); refine goesL_ (some 23) rfl rfl Try.func59 (by kernel_rfl) rfl #[.slice Ao13 t236.length co13, .slice A1 l1.length c1, .slice Ao16 t239.length co16, .int .i64 t245] rfl TA ?_; (with_reducible refine (spec_doWalk.calls k _ _ t236 _ _ l1 (fun k_ => some k_ = (.slice Ao16 t239.length co16 : Value).ownBlock) _ _ t239 t245 t246 t249 _ ?side1 ?side2 ?side3 ?side4 ?side5 A9.out).mono ?_); (case side1 => exact CW (Kd.S_reads' HO238.out).2.2); (case side2 => exact (Kd.S_reads' HO238.out).2.1); (case side3 => exact CW (Kd.C_below HR1.out HB.out)); (case side4 => exact HC1.out); (case side5 => exact Kd.R_V (Kd.R_tight rfl (Kd.R_apart' (HO241.out) (Kd.S_typed HO238.out) (by decide)))); rintro e w17 ⟨v247, v250, rfl, ho0, ho1, hb⟩; refine ⟨_, rfl, ?_⟩; have n0_ := Aside0.mk (Kd.S_elder' (KS HO238) (Kd.R_base ho0) hb); have n1_ := Aside0.mk (Kd.R_elder' (KR HO241) (Kd.R_base ho0) hb); have n2_ := Aside0.mk (Kd.R_elder' (KR HO244) (Kd.R_base ho0) hb); have n3_ := Aside0.mk (Kd.R_lower (Kd.R_new' (Kd.R_new' (Kd.R_newM (M := fun k_ => (w.heap.size ≤ k_)) (Kd.R_mono (ok' := fun k_ => True) ho0 (fun _ hk_ => trivial)) (below_size BB) (fun k_ h_ => h_)) (Kd.R_lt (KR HO241))) (Kd.R_lt (KR HO244))) (below_size BB)); have n4_ := Aside0.mk (Kd.V_lower (Kd.V_mono (ok' := fun k_ => (w.heap.size ≤ k_) ∧ some k_ ≠ (v247 : Value).ownBlock ∧ some k_ ≠ (.slice Ao13 t236.length co13 : Value).ownBlock ∧ some k_ ≠ (.slice Ao14 t242.length co14 : Value).ownBlock) ho1 (fun k_ hk_ => ⟨Or.elim hk_.1 (fun hs_ => ((Kd.R_apart' (HO241.out) (Kd.S_typed HO238.out) (by decide)).1 k_ hs_.symm).1.1.1) (fun hn_ => (Nat.le_trans (below_size BB) hn_)), hk_.2, Or.elim hk_.1 (fun hs_ => ((Kd.R_apart' (HO241.out) (Kd.S_typed HO238.out) (by decide)).1 k_ hs_.symm).2) (fun hn_ => (Kd.fresh' (Kd.S_lt (KS HO238)) k_ hn_)), Or.elim hk_.1 (fun hs_ => ((Kd.R_apart' (HO241.out) (Kd.S_typed HO238.out) (by decide)).1 k_ hs_.symm).1.2) (fun hn_ => (Kd.fresh' (Kd.R_lt (KR HO244)) k_ hn_))⟩)) (below_size BB)); have n5_ := Aside0.mk (below_step BB hb); clear HO238; clear HO241; clear HO244; clear HB; have HO238 := n0_; have HO241 := n1_; have HO244 := n2_; have HO248 := n3_; have HO251 := n4_; have HB := n5_; clear n0_ n1_ n2_ n3_ n4_ n5_; (try clear hb); (try clear hb2); (try clear hk); (try clear hi); (try clear ho0); (try clear ho1)))
 go_ret2
 exact ⟨_, _, RE, by (with_reducible repeat (first | apply Kd.R_alloc | apply Kd.R_drewN | apply Kd.R_drew)); exact Kd.R_mono HO248.out (fun _ hk => hk.1.1.1), by (with_reducible repeat (first | apply Kd.V_alloc | apply Kd.V_drewN | apply Kd.V_drew)); exact Kd.V_mono HO251.out (fun _ hk => ⟨hk.1, hk.2.1⟩), BB⟩

end Go.Proofs.Ytgpplbaloajgdab.PFnExactFairCell
