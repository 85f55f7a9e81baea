-- Written by a program of this session (wip/tools/pp.sh) out of the translation; Lean checks it.
import Derived.Test.YtgpplbaloajgdabPFnExactClosedRoomsx0
import Derived.Test.YtgpplbaloajgdabPFnExactClosedRoomsx1
import Derived.Test.YtgpplbaloajgdabPFnExactClosedRoomsx2
import Derived.Test.YtgpplbaloajgdabPFnExactClosedRoomsx3
namespace Go.Proofs.Ytgpplbaloajgdab.PFnExactClosedRooms
open Go.RowKit Go.Proofs.YtgpplbaloajgdabOwn Go.Proofs.YtgpplbaloajgdabW.PrintWords Go.Proofs.YtgpplbaloajgdabW.PrintLast Go.Proofs.YtgpplbaloajgdabW.PrintMore
attribute [local go_sem] max2_int min2_int max_two min_two max_three min_three max_four min_four   -- for this text's walks alone
set_option linter.unusedVariables false
set_option linter.unusedSimpArgs false

mutual
def spec_doWalk.l0 : Nat → List (List Int) → List Int → List Int → Int → List Int → Option (List Int × List Int)
  | 0, _, _, _, _, _ => none
  | k + 1, x0, x1, x2, x3, x10 => if x3 ≥ 0 then (spec_doWalk.j1 k x0 x1 x2 x3 x10 (decide ((x10.length : Int) ≤ (x0.length : Int)))) else (spec_doWalk.j1 k x0 x1 x2 x3 x10 false)
def spec_doWalk.j1 : Nat → List (List Int) → List Int → List Int → Int → List Int → Bool → Option (List Int × List Int)
  | 0, _, _, _, _, _, _ => none
  | k + 1, x0, x1, x2, x3, x10, x21 => if x21 = true then (if x10.length < 17592186044416 then ((some (x10 ++ [x3] : List Int)).bind fun y198 => (if 0 ≤ x3 then (if x3 < (x0.length : Int) then ((spec_doFull.f k x1 (rd_L1 x0 x3)).bind fun t202 => (if t202 = true then (some (y198, x2)) else ((spec_doOfCell.f k x1 (rd_L1 x0 x3)).bind fun t204 => (spec_doWalk.l1 k x0 x1 x2 x3 y198 t204 (t204.length : Int) 0)))) else (none)) else (none))) else (none)) else (some (x10, x2))
def spec_doWalk.l1 : Nat → List (List Int) → List Int → List Int → Int → List Int → List (List Int) → Int → Int → Option (List Int × List Int)
  | 0, _, _, _, _, _, _, _, _ => none
  | k + 1, x0, x1, x2, x3, x10, x37, x38, x39 => if x39 < x38 then (if 0 ≤ x39 then (if x39 < (x37.length : Int) then ((spec_l1Same.f k (rd_L1 x37 x39) x2).bind fun t208 => (if t208 = true then (spec_doWalk.l1 k x0 x1 x2 x3 x10 x37 x38 (wrap64 (x39 + 1))) else ((spec_doNext.f k x0 (rd_L1 x37 x39) x3).bind fun t209 => (spec_doWalk.l0 k x0 x1 (rd_L1 x37 x39) t209 x10)))) else (none)) else (none)) else ((spec_doNext.f k x0 x2 x3).bind fun t210 => (spec_doWalk.l0 k x0 x1 x2 t210 x10))
end
def spec_doWalk.f (k : Nat) (l0 : List (List Int)) (l1 : List Int) (l2 : List Int) (a3 : Int) : Option (List Int × List Int) := spec_doWalk.l0 k l0 l1 l2 a3 ([] : List Int)
theorem spec_doWalk.mono_l : ∀ k, (∀ y0 y1 y2 y3 y4, LeO (spec_doWalk.l0 k y0 y1 y2 y3 y4) (spec_doWalk.l0 (k + 1) y0 y1 y2 y3 y4)) ∧ (∀ y0 y1 y2 y3 y4 y5, LeO (spec_doWalk.j1 k y0 y1 y2 y3 y4 y5) (spec_doWalk.j1 (k + 1) y0 y1 y2 y3 y4 y5)) ∧ (∀ y0 y1 y2 y3 y4 y5 y6 y7, LeO (spec_doWalk.l1 k y0 y1 y2 y3 y4 y5 y6 y7) (spec_doWalk.l1 (k + 1) y0 y1 y2 y3 y4 y5 y6 y7))
  | 0 => ⟨fun _ _ _ _ _ r h => by simp [spec_doWalk.l0] at h, fun _ _ _ _ _ _ r h => by simp [spec_doWalk.j1] at h, fun _ _ _ _ _ _ _ _ r h => by simp [spec_doWalk.l1] at h⟩
  | k + 1 => by
    obtain ⟨ih0, ih1, ih2⟩ := spec_doWalk.mono_l k
    refine ⟨?_, ?_, ?_⟩
    · intro y0 y1 y2 y3 y4
      unfold spec_doWalk.l0
      repeat' first
      | (with_reducible exact ih0 _ _ _ _ _)
      | (with_reducible exact ih1 _ _ _ _ _ _)
      | (with_reducible exact ih2 _ _ _ _ _ _ _ _)
      | (with_reducible exact spec_doFull.mono _ _ _)
      | (with_reducible exact spec_doNext.mono _ _ _ _)
      | (with_reducible exact spec_doOfCell.mono _ _ _)
      | (with_reducible exact spec_l1Same.mono _ _ _)
      | (with_reducible exact LeO.refl _)
      | (with_reducible exact LeO.none _)
      | (with_reducible refine LeO.ite ?_ ?_)
      | (with_reducible refine LeO.bind ?_ (fun _ => ?_))
      | exact ih0 _ _ _ _ _
      | exact ih1 _ _ _ _ _ _
      | exact ih2 _ _ _ _ _ _ _ _
      | exact spec_doFull.mono _ _ _
      | exact spec_doNext.mono _ _ _ _
      | exact spec_doOfCell.mono _ _ _
      | exact spec_l1Same.mono _ _ _
      | exact LeO.none _
      | refine LeO.ite ?_ ?_
      | refine LeO.bind ?_ (fun _ => ?_)
    · intro y0 y1 y2 y3 y4 y5
      unfold spec_doWalk.j1
      repeat' first
      | (with_reducible exact ih0 _ _ _ _ _)
      | (with_reducible exact ih1 _ _ _ _ _ _)
      | (with_reducible exact ih2 _ _ _ _ _ _ _ _)
      | (with_reducible exact spec_doFull.mono _ _ _)
      | (with_reducible exact spec_doNext.mono _ _ _ _)
      | (with_reducible exact spec_doOfCell.mono _ _ _)
      | (with_reducible exact spec_l1Same.mono _ _ _)
      | (with_reducible exact LeO.refl _)
      | (with_reducible exact LeO.none _)
      | (with_reducible refine LeO.ite ?_ ?_)
      | (with_reducible refine LeO.bind ?_ (fun _ => ?_))
      | exact ih0 _ _ _ _ _
      | exact ih1 _ _ _ _ _ _
      | exact ih2 _ _ _ _ _ _ _ _
      | exact spec_doFull.mono _ _ _
      | exact spec_doNext.mono _ _ _ _
      | exact spec_doOfCell.mono _ _ _
      | exact spec_l1Same.mono _ _ _
      | exact LeO.none _
      | refine LeO.ite ?_ ?_
      | refine LeO.bind ?_ (fun _ => ?_)
    · intro y0 y1 y2 y3 y4 y5 y6 y7
      unfold spec_doWalk.l1
      repeat' first
      | (with_reducible exact ih0 _ _ _ _ _)
      | (with_reducible exact ih1 _ _ _ _ _ _)
      | (with_reducible exact ih2 _ _ _ _ _ _ _ _)
      | (with_reducible exact spec_doFull.mono _ _ _)
      | (with_reducible exact spec_doNext.mono _ _ _ _)
      | (with_reducible exact spec_doOfCell.mono _ _ _)
      | (with_reducible exact spec_l1Same.mono _ _ _)
      | (with_reducible exact LeO.refl _)
      | (with_reducible exact LeO.none _)
      | (with_reducible refine LeO.ite ?_ ?_)
      | (with_reducible refine LeO.bind ?_ (fun _ => ?_))
      | exact ih0 _ _ _ _ _
      | exact ih1 _ _ _ _ _ _
      | exact ih2 _ _ _ _ _ _ _ _
      | exact spec_doFull.mono _ _ _
      | exact spec_doNext.mono _ _ _ _
      | exact spec_doOfCell.mono _ _ _
      | exact spec_l1Same.mono _ _ _
      | exact LeO.none _
      | refine LeO.ite ?_ ?_
      | refine LeO.bind ?_ (fun _ => ?_)
theorem spec_doWalk.mono : ∀ a0 a1 a2 a3 k, LeO (spec_doWalk.f k a0 a1 a2 a3) (spec_doWalk.f (k + 1) a0 a1 a2 a3) := by
  intro a0 a1 a2 a3 k
  obtain ⟨ih0, ih1, ih2⟩ := spec_doWalk.mono_l k
  unfold spec_doWalk.f
  repeat' first
      | (with_reducible exact ih0 _ _ _ _ _)
      | (with_reducible exact ih1 _ _ _ _ _ _)
      | (with_reducible exact ih2 _ _ _ _ _ _ _ _)
      | (with_reducible exact spec_doFull.mono _ _ _)
      | (with_reducible exact spec_doNext.mono _ _ _ _)
      | (with_reducible exact spec_doOfCell.mono _ _ _)
      | (with_reducible exact spec_l1Same.mono _ _ _)
      | (with_reducible exact LeO.refl _)
      | (with_reducible exact LeO.none _)
      | (with_reducible refine LeO.ite ?_ ?_)
      | (with_reducible refine LeO.bind ?_ (fun _ => ?_))
      | exact ih0 _ _ _ _ _
      | exact ih1 _ _ _ _ _ _
      | exact ih2 _ _ _ _ _ _ _ _
      | exact spec_doFull.mono _ _ _
      | exact spec_doNext.mono _ _ _ _
      | exact spec_doOfCell.mono _ _ _
      | exact spec_l1Same.mono _ _ _
      | exact LeO.none _
      | refine LeO.ite ?_ ?_
      | refine LeO.bind ?_ (fun _ => ?_)
set_option maxHeartbeats 8000000 in
set_option maxRecDepth 100000 in
theorem spec_doWalk.calls (k : Nat) (A0 : Option Addr) (c0 : Nat) (l0 : List (List Int)) (A1 : Option Addr) (c1 : Nat) (l1 : List Int) (P2_ : Nat → Prop) (A2 : Option Addr) (c2 : Nat) (l2 : List Int) (a3 : Int) (r1 : List Int) (r2 : List Int) (w : World) (hr0 : Kd.C (Kd.slice 3 (Kd.int .i64)) w A0 l0.length l0) (hc0 : l0.length ≤ c0) (hr1 : Kd.C (Kd.int .i64) w A1 l1.length l1) (hc1 : l1.length ≤ c1) (hs2 : Kd.V (Kd.int .i64) 3 w w.heap.size (fun k_ => P2_ k_) (.slice A2 l2.length c2) l2) (h : spec_doWalk.f k l0 l1 l2 a3 = some (r1, r2)) :
    Calls Try.prog 59 #[.slice A0 l0.length c0, .slice A1 l1.length c1, .slice A2 l2.length c2, .int .i64 a3] w fun e w' => ∃ v0_ v1_ : Value, e = .returned (.tuple #[v0_, v1_]) ∧ Kd.R (Kd.int .i64) 3 w' w.heap.size (fun k_ => (w.heap.size ≤ k_)) v0_ r1 ∧ Kd.V (Kd.int .i64) 3 w' w.heap.size (fun k_ => (P2_ k_ ∨ w.heap.size ≤ k_) ∧ some k_ ≠ (v0_ : Value).ownBlock) v1_ r2 ∧ Below w.heap.size w w' := by
  have HR0 := Aside0.mk hr0; have HC0 := Aside0.mk hc0; clear hr0 hc0; have HR1 := Aside0.mk hr1; have HC1 := Aside0.mk hc1; clear hr1 hc1; have HO2 := Aside0.mk (show Kd.V (Kd.int .i64) 3 w w.heap.size (fun k_ => (P2_ k_ ∨ w.heap.size ≤ k_)) (.slice A2 l2.length c2) l2 from Kd.V_mono hs2 (fun k_ hk => .inl hk)); have HB := Aside0.mk (Below.refl w.heap.size w); have H : (spec_doWalk.l0 k l0 l1 l2 a3 ([] : List Int)) = some (r1, r2) := h; clear h; have H' := Aside0.mk H; clear H
  go_enter Try.func59, Try.ntmps59
  go_wp2
  go_loopg [2, 3, 10] k (fun kq v2 v3 v10 w' => ∃ (x2_1 : List Int) (x3_1 : Int) (x10_1 : List Int), v3 = .int .i64 x3_1 ∧ Aside0 (spec_doWalk.l0 kq l0 l1 x2_1 x3_1 x10_1 = some (r1, r2)) ∧ Aside0 (kq ≤ k) ∧ Aside0 (Kd.V (Kd.int .i64) 3 w' w.heap.size (fun k_ => (P2_ k_ ∨ w.heap.size ≤ k_) ∧ some k_ ≠ (v10 : Value).ownBlock) v2 x2_1) ∧ Aside0 (Kd.R (Kd.int .i64) 3 w' w.heap.size (fun k_ => (w.heap.size ≤ k_)) v10 x10_1) ∧ Aside0 (Below w.heap.size w w'))
  case atStart => exact ⟨(l2), (a3), (([] : List Int)), RF, H', ⟨Nat.le_refl _⟩, ⟨by (with_reducible repeat (first | apply Kd.V_alloc | apply Kd.V_drewN | apply Kd.V_drew)); exact Kd.V_mono HO2.out (fun _ hk => ⟨hk, (by simp [Value.ownBlock])⟩)⟩, ⟨by first | exact Kd.R_nil _ _ _ _ _ | exact Kd.N_nil _ _ _ _ _ | exact Kd.V_nil _ _ _ _ _ | exact Kd.Q_nil _ _ _ _ _ | exact Kd.S_nil _ _ _ _ _⟩, ⟨BB⟩⟩
  case round =>
    clear H'
    try clear c1
    try clear c2
    try clear p2
    obtain ⟨x2_1, x3_1, x10_1, rfl, HA, HK1, HO_2, HO_10, HB⟩ := hrel; cases gk with
    | zero => exact absurd HA.out (by simp [spec_doWalk.l0])
    | succ k1 =>
      have H := HA.out; clear HA
      simp only [spec_doWalk.l0] at H
      have HC5 := Aside0.mk H; clear H
      go_upto_region 2 with (fail)
      go_cut [21] (fun v21 wc => ∃ (kq : Nat) (x21_4 : Bool), v21 = .bool x21_4 ∧ Aside0 (spec_doWalk.j1 kq l0 l1 x2_1 x3_1 x10_1 x21_4 = some (r1, r2)) ∧ Aside0 (kq ≤ k1) ∧ Aside0 (Kd.V (Kd.int .i64) 3 wc w.heap.size (fun k_ => (P2_ k_ ∨ w.heap.size ≤ k_) ∧ some k_ ≠ (u10 : Value).ownBlock) u2 x2_1) ∧ Aside0 (Kd.R (Kd.int .i64) 3 wc w.heap.size (fun k_ => (w.heap.size ≤ k_)) u10 x10_1) ∧ Aside0 (Below w.heap.size w wc))
      case first =>
        have H := HC5.out; clear HC5
        by_cases c6 : x3_1 ≥ 0
        · rw [if_pos c6] at H
          have c6b0 : decide (0 ≤ x3_1) = true := decide_eq_true c6; clear c6
          (first | rw [c6b0] | (simp only [i64_w, i32_w]; rw [c6b0]) | skip)
          have H' := Aside0.mk H; clear H; obtain ⟨Ao7, co7, eo7⟩ := Kd.R_slice HO_10.out; subst eo7
          go_wp2
          go_meet
          case rel => exact ⟨_, (decide ((x10_1.length : Int) ≤ (l0.length : Int))), RF, H', ⟨by have := HK1.out; first | omega | exact Nat.le_refl _⟩, ⟨by (with_reducible repeat (first | apply Kd.V_alloc | apply Kd.V_drewN | apply Kd.V_drew)); exact HO_2.out⟩, ⟨KR HO_10⟩, ⟨BB⟩⟩
        · rw [if_neg c6] at H
          have c6b0 : decide (0 ≤ x3_1) = false := decide_eq_false c6; clear c6
          (first | rw [c6b0] | (simp only [i64_w, i32_w]; rw [c6b0]) | skip)
          have H' := Aside0.mk H; clear H
          go_wp2
          go_meet
          case rel => exact ⟨_, (false), RF, H', ⟨by have := HK1.out; first | omega | exact Nat.le_refl _⟩, ⟨by (with_reducible repeat (first | apply Kd.V_alloc | apply Kd.V_drewN | apply Kd.V_drew)); exact HO_2.out⟩, ⟨KR HO_10⟩, ⟨BB⟩⟩
      case rest =>
        clear HC5
        try clear c1
        try clear c2
        try clear p2
        try clear c5
        try clear c6
        try clear c6b0
        try clear p6
        try clear p2
        obtain ⟨kq, x21_4, rfl, HA, HJ4, HO_2, HO_10, HB⟩ := hcut; cases kq with
        | zero => exact absurd HA.out (by simp [spec_doWalk.j1])
        | succ kj4 =>
          have H := HA.out; clear HA
          simp only [spec_doWalk.j1] at H
          by_cases c8 : x21_4 = true
          · subst c8
            have H1 : (if x10_1.length < 17592186044416 then ((some (x10_1 ++ [x3_1] : List Int)).bind fun y198 => (if 0 ≤ x3_1 then (if x3_1 < (l0.length : Int) then ((spec_doFull.f kj4 l1 (rd_L1 l0 x3_1)).bind fun t202 => (if t202 = true then (some (y198, x2_1)) else ((spec_doOfCell.f kj4 l1 (rd_L1 l0 x3_1)).bind fun t204 => (spec_doWalk.l1 kj4 l0 l1 x2_1 x3_1 y198 t204 (t204.length : Int) 0)))) else (none)) else (none))) else (none)) = some (r1, r2) := by rw [if_pos rfl] at H; exact H
            clear H; have H := H1; clear H1
            by_cases c9 : x10_1.length < 17592186044416
            · rw [if_pos c9] at H
              have LMc9 := Aside0.mk c9; clear c9; obtain ⟨y198, hy198⟩ : ∃ y_ : List Int, y_ = (x10_1 ++ [x3_1]) := ⟨_, rfl⟩; replace H : (if 0 ≤ x3_1 then (if x3_1 < (l0.length : Int) then ((spec_doFull.f kj4 l1 (rd_L1 l0 x3_1)).bind fun t202 => (if t202 = true then (some (y198, x2_1)) else ((spec_doOfCell.f kj4 l1 (rd_L1 l0 x3_1)).bind fun t204 => (spec_doWalk.l1 kj4 l0 l1 x2_1 x3_1 y198 t204 (t204.length : Int) 0)))) else (none)) else (none)) = some (r1, r2) := by first | (rw [hy198]; with_reducible exact H) | (have H2_ := (Option.bind_some _ _).symm.trans H; rw [hy198]; with_reducible exact H2_) | (have H2_ := (Option.bind_some _ _).symm.trans H; with_reducible exact H2_) | with_reducible exact H | (rw [hy198]; exact H) | exact H
              have Ny198 := Aside0.mk hy198; clear hy198
              by_cases c10 : 0 ≤ x3_1
              · rw [if_pos c10] at H
                have c10b0 : decide (0 ≤ x3_1) = true := decide_eq_true c10; clear c10
                by_cases c11 : x3_1 < (l0.length : Int)
                · rw [if_pos c11] at H
                  have c11b0 : decide (x3_1 < (l0.length : Int)) = true := decide_eq_true c11; clear c11; replace H := Option.bind_eq_some_iff.mp H; obtain ⟨t202, A120, H⟩ := H; replace H : (if t202 = true then (some (y198, x2_1)) else ((spec_doOfCell.f kj4 l1 (rd_L1 l0 x3_1)).bind fun t204 => (spec_doWalk.l1 kj4 l0 l1 x2_1 x3_1 y198 t204 (t204.length : Int) 0))) = some (r1, r2) := H; have A12 := Aside0.mk A120; clear A120
                  by_cases c13 : t202 = true
                  · subst c13
                    have H1 : (some (y198, x2_1)) = some (r1, r2) := by rw [if_pos rfl] at H; exact H
                    clear H; have H := H1; clear H1
                    simp only [Option.some.injEq, Prod.mk.injEq] at H
                    obtain ⟨rfl, rfl⟩ := H
                    go_wp2_with (first | ((with_reducible refine gate_builtin (b := .append) (xs := #[.tmp 22, .tmp 24]) rfl ?_); (try (refine gate_guard (by rfl) ?_; dsimp only)); at_builtin; refine Kd.R_append (Kd.int .i64) (w0 := w) w.heap.size rfl (.tmp 22) (.tmp 24) 22 3 (.int .i64 0) 8 rfl Try.underlying22 info3 rfl (by decide) (by omega) u10 x10_1 x3_1 [.int .i64 x3_1] (fun k_ => (w.heap.size ≤ k_)) (fun _ => False) rfl rfl ?aP (fun _ hk => hk.elim) ?aF ?aO ?aB ?aS ?aL ?_; (case aP => exact rfl); (case aB => exact BB); (case aF => exact (fun k_ hk => (Nat.le_trans (below_size BB) hk))); (case aO => exact (KR HO_10)); (case aS => exact (below_size BB)); (case aL => have := LMc9.out; omega); intro v199 w14 ho hb hg hat; rw [← Ny198.out] at ho; have n0_ := Aside0.mk (Kd.V_afterv (ok := (fun k_ => (P2_ k_ ∨ w.heap.size ≤ k_))) (by (with_reducible repeat (first | apply Kd.V_alloc | apply Kd.V_drewN | apply Kd.V_drew)); exact HO_2.out) hg hat); have n1_ := Aside0.mk (hb); have n2_ := Aside0.mk (ho); clear HO_2; clear HB; clear HO_10; have HO_2 := n0_; have HB := n1_; have HO200 := n2_; clear n0_ n1_ n2_; clear ho hb hg hat; have p201 : 0 ≤ (x3_1 : Int) := of_decide_eq_true AS; have q201 : x3_1 < (l0.length : Int) := of_decide_eq_true AS; obtain ⟨ad201, A201_0, c201_0, e201, hx201_0, hl201_0, hi201_0⟩ := at_L1 HR0.out x3_1 p201 q201; cases e201; replace hx201_0 := (HB.out.cell (World.block_lt_of_cell? w _ hx201_0)).trans hx201_0; have HR201_0 := Aside0.mk hi201_0; have HC201_0 := Aside0.mk hl201_0; clear hi201_0 hl201_0; replace p201 := eq_true p201; replace q201 := eq_true q201) | ((with_reducible refine gate_callee (f := 62) rfl ?_); refine goesL_ (some 31) rfl rfl Try.func62 (by kernel_rfl) rfl #[.slice A1 l1.length c1, .slice A201_0 (rd_L1 l0 x3_1).length c201_0] rfl TA ?_; (with_reducible refine (spec_doFull.calls kj4 _ _ l1 _ _ (rd_L1 l0 x3_1) true _ ?side1 ?side2 ?side3 ?side4 A12.out).mono ?_); (case side1 => repeat (first | exact (Kd.C_below HR1.out HB.out) | (with_reducible refine Kd.C_drewN ?_ _) | (with_reducible refine Kd.C_drew ?_) | (with_reducible refine Kd.C_alloc ?_ _))); (case side2 => exact HC1.out); (case side3 => repeat (first | exact (Kd.C_below HR201_0.out HB.out) | (with_reducible refine Kd.C_drewN ?_ _) | (with_reducible refine Kd.C_drew ?_) | (with_reducible refine Kd.C_alloc ?_ _))); (case side4 => exact HC201_0.out); rintro e w' ⟨rfl, ⟨nd, rfl⟩⟩; refine ⟨_, rfl, ?_⟩))
                    go_ret2
                    exact ⟨_, _, by first | rfl | (simp [errW_none, errW_some] <;> rfl) | (simp [*, errW_none, errW_some] <;> rfl), KR HO200, by (with_reducible repeat (first | apply Kd.V_alloc | apply Kd.V_drewN | apply Kd.V_drew)); exact HO_2.out, BB⟩
                  · replace c13 := Bool.eq_false_iff.mpr c13
                    subst c13; have H1 : ((spec_doOfCell.f kj4 l1 (rd_L1 l0 x3_1)).bind fun t204 => (spec_doWalk.l1 kj4 l0 l1 x2_1 x3_1 y198 t204 (t204.length : Int) 0)) = some (r1, r2) := by rw [if_neg (show ¬ (false = true) by decide)] at H; exact H
                    clear H; have H := H1; clear H1; replace H := Option.bind_eq_some_iff.mp H; obtain ⟨t204, A150, H⟩ := H; replace H : (spec_doWalk.l1 kj4 l0 l1 x2_1 x3_1 y198 t204 (t204.length : Int) 0) = some (r1, r2) := H; have A15 := Aside0.mk A150; clear A150; have H' := Aside0.mk H; clear H
                    go_wp2_with (first | ((with_reducible refine gate_builtin (b := .append) (xs := #[.tmp 22, .tmp 24]) rfl ?_); (try (refine gate_guard (by rfl) ?_; dsimp only)); at_builtin; refine Kd.R_append (Kd.int .i64) (w0 := w) w.heap.size rfl (.tmp 22) (.tmp 24) 22 3 (.int .i64 0) 8 rfl Try.underlying22 info3 rfl (by decide) (by omega) u10 x10_1 x3_1 [.int .i64 x3_1] (fun k_ => (w.heap.size ≤ k_)) (fun _ => False) rfl rfl ?aP (fun _ hk => hk.elim) ?aF ?aO ?aB ?aS ?aL ?_; (case aP => exact rfl); (case aB => exact BB); (case aF => exact (fun k_ hk => (Nat.le_trans (below_size BB) hk))); (case aO => exact (KR HO_10)); (case aS => exact (below_size BB)); (case aL => have := LMc9.out; omega); intro v199 w16 ho hb hg hat; rw [← Ny198.out] at ho; have n0_ := Aside0.mk (Kd.V_afterv (ok := (fun k_ => (P2_ k_ ∨ w.heap.size ≤ k_))) (by (with_reducible repeat (first | apply Kd.V_alloc | apply Kd.V_drewN | apply Kd.V_drew)); exact HO_2.out) hg hat); have n1_ := Aside0.mk (hb); have n2_ := Aside0.mk (ho); clear HO_2; clear HB; clear HO_10; have HO_2 := n0_; have HB := n1_; have HO200 := n2_; clear n0_ n1_ n2_; clear ho hb hg hat; have p201 : 0 ≤ (x3_1 : Int) := of_decide_eq_true AS; have q201 : x3_1 < (l0.length : Int) := of_decide_eq_true AS; obtain ⟨ad201, A201_0, c201_0, e201, hx201_0, hl201_0, hi201_0⟩ := at_L1 HR0.out x3_1 p201 q201; cases e201; replace hx201_0 := (HB.out.cell (World.block_lt_of_cell? w _ hx201_0)).trans hx201_0; have HR201_0 := Aside0.mk hi201_0; have HC201_0 := Aside0.mk hl201_0; clear hi201_0 hl201_0; replace p201 := eq_true p201; replace q201 := eq_true q201) | ((with_reducible refine gate_callee (f := 62) rfl ?_); refine goesL_ (some 31) rfl rfl Try.func62 (by kernel_rfl) rfl #[.slice A1 l1.length c1, .slice A201_0 (rd_L1 l0 x3_1).length c201_0] rfl TA ?_; (with_reducible refine (spec_doFull.calls kj4 _ _ l1 _ _ (rd_L1 l0 x3_1) false _ ?side1 ?side2 ?side3 ?side4 A12.out).mono ?_); (case side1 => repeat (first | exact (Kd.C_below HR1.out HB.out) | (with_reducible refine Kd.C_drewN ?_ _) | (with_reducible refine Kd.C_drew ?_) | (with_reducible refine Kd.C_alloc ?_ _))); (case side2 => exact HC1.out); (case side3 => repeat (first | exact (Kd.C_below HR201_0.out HB.out) | (with_reducible refine Kd.C_drewN ?_ _) | (with_reducible refine Kd.C_drew ?_) | (with_reducible refine Kd.C_alloc ?_ _))); (case side4 => exact HC201_0.out); rintro e w' ⟨rfl, ⟨nd, rfl⟩⟩; refine ⟨_, rfl, ?_⟩; have p203 : 0 ≤ (x3_1 : Int) := of_decide_eq_true AS; have q203 : x3_1 < (l0.length : Int) := of_decide_eq_true AS; obtain ⟨ad203, A203_0, c203_0, e203, hx203_0, hl203_0, hi203_0⟩ := at_L1 HR0.out x3_1 p203 q203; obtain rfl : ad201 = ad203 := (by injection e203); replace hx203_0 := (HB.out.cell (World.block_lt_of_cell? w _ hx203_0)).trans hx203_0; have HR203_0 := Aside0.mk hi203_0; have HC203_0 := Aside0.mk hl203_0; clear hi203_0 hl203_0; replace p203 := eq_true p203; replace q203 := eq_true q203; have ea_ := Option.some.inj (hx201_0.symm.trans hx203_0); injection ea_ with ea_ en_ ec_; subst ea_; subst ec_; clear en_) | ((with_reducible refine gate_callee (f := 29) rfl ?_); refine goesL_ (some 37) rfl rfl Try.func29 (by kernel_rfl) rfl #[.slice A1 l1.length c1, .slice A201_0 (rd_L1 l0 x3_1).length c201_0] rfl TA ?_; (with_reducible refine (spec_doOfCell.calls kj4 _ _ l1 _ _ (rd_L1 l0 x3_1) t204 _ ?side1 ?side2 ?side3 ?side4 A15.out).mono ?_); (case side1 => repeat (first | exact (Kd.C_below HR1.out BB) | (with_reducible refine Kd.C_drewN ?_ _) | (with_reducible refine Kd.C_drew ?_) | (with_reducible refine Kd.C_alloc ?_ _))); (case side2 => exact HC1.out); (case side3 => repeat (first | exact (Kd.C_below HR203_0.out BB) | (with_reducible refine Kd.C_drewN ?_ _) | (with_reducible refine Kd.C_drew ?_) | (with_reducible refine Kd.C_alloc ?_ _))); (case side4 => exact HC203_0.out); rintro e w17 ⟨v205, rfl, ho0, hb⟩; refine ⟨_, rfl, ?_⟩; have n0_ := Aside0.mk (Kd.V_elder' (by (with_reducible repeat (first | apply Kd.V_alloc | apply Kd.V_drewN | apply Kd.V_drew)); exact HO_2.out) (Kd.S_base ho0) hb); have n1_ := Aside0.mk (Kd.R_below (KR HO200) hb); have n2_ := Aside0.mk (Kd.S_lower (Kd.S_new' (Kd.S_newM (M := fun k_ => (w.heap.size ≤ k_)) ho0 (below_size BB) (fun k_ h_ => h_)) (Kd.R_lt (KR HO200))) (below_size BB)); have n3_ := Aside0.mk (below_step BB hb); clear HO_2; clear HO200; clear HB; have HO_2 := n0_; have HO200 := n1_; have HO206 := n2_; have HB := n3_; clear n0_ n1_ n2_ n3_; (try clear hb); (try clear hb2); (try clear hk); (try clear hi); (try clear ho0); obtain ⟨Ao18, co18, eo18⟩ := Kd.S_slice HO206.out; subst eo18))
                    go_loopg [2, 39] kj4 (fun kq v2 v39 w' => ∃ (x2_3 : List Int) (x39_3 : Int), v39 = .int .i64 x39_3 ∧ Aside0 (spec_doWalk.l1 kq l0 l1 x2_3 x3_1 y198 t204 (t204.length : Int) x39_3 = some (r1, r2)) ∧ Aside0 (kq ≤ kj4) ∧ Aside0 (Kd.V (Kd.int .i64) 3 w' w.heap.size (fun k_ => (P2_ k_ ∨ w.heap.size ≤ k_) ∧ some k_ ≠ (v199 : Value).ownBlock ∧ some k_ ≠ ((.slice Ao18 t204.length co18) : Value).ownBlock) v2 x2_3) ∧ Aside0 (Kd.R (Kd.int .i64) 3 w' w.heap.size (fun k_ => (w.heap.size ≤ k_)) v199 y198) ∧ Aside0 (Kd.S (Kd.slice 3 (Kd.int .i64)) 22 w' w.heap.size (fun k_ => (w.heap.size ≤ k_) ∧ some k_ ≠ (v199 : Value).ownBlock) (.slice Ao18 t204.length co18) t204) ∧ Aside0 (Below w.heap.size w w'))
                    case atStart => exact ⟨(x2_1), (0), RF, H', ⟨Nat.le_refl _⟩, ⟨by (with_reducible repeat (first | apply Kd.V_alloc | apply Kd.V_drewN | apply Kd.V_drew)); exact Kd.V_mono HO_2.out (fun _ hk => ⟨hk.1.1, ⟨hk.1.2, hk.2⟩⟩)⟩, ⟨KR HO200⟩, ⟨by (with_reducible repeat (first | apply Kd.S_alloc | apply Kd.S_drewN | apply Kd.S_drew)); exact Kd.S_mono HO206.out (fun _ hk => ⟨hk.1.1, hk.2⟩)⟩, ⟨BB⟩⟩
                    case round =>
                      clear H'
                      try clear c1
                      try clear c2
                      try clear p2
                      try clear q2
                      try clear hx2
                      try clear c5
                      try clear c6
                      try clear c6b0
                      try clear p6
                      try clear c8
                      try clear c9
                      try clear c10
                      try clear c10b0
                      try clear c11
                      try clear c11b0
                      try clear c13
                      try clear hx201_0
                      try clear hx203_0
                      try clear p2
                      try clear p201
                      try clear p203
                      try clear p6
                      try clear q201
                      try clear q203
                      obtain ⟨x2_3, x39_3, rfl, HA, HK3, HO_2, HO_10, HO_37, HB⟩ := hrel; cases gk with
                      | zero => exact absurd HA.out (by simp [spec_doWalk.l1])
                      | succ k3 =>
                        have H := HA.out; clear HA
                        simp only [spec_doWalk.l1] at H
                        by_cases c19 : x39_3 < (t204.length : Int)
                        · rw [if_pos c19] at H
                          have c19b0 : decide (x39_3 < (t204.length : Int)) = true := decide_eq_true c19; clear c19
                          by_cases c20 : 0 ≤ x39_3
                          · rw [if_pos c20] at H
                            have c20b0 : decide (0 ≤ x39_3) = true := decide_eq_true c20; clear c20
                            by_cases c21 : x39_3 < (t204.length : Int)
                            · rw [if_pos c21] at H
                              have c21b0 : decide (x39_3 < (t204.length : Int)) = true := decide_eq_true c21; clear c21; replace H := Option.bind_eq_some_iff.mp H; obtain ⟨t208, A220, H⟩ := H; replace H : (if t208 = true then (spec_doWalk.l1 k3 l0 l1 x2_3 x3_1 y198 t204 (t204.length : Int) (wrap64 (x39_3 + 1))) else ((spec_doNext.f k3 l0 (rd_L1 t204 x39_3) x3_1).bind fun t209 => (spec_doWalk.l0 k3 l0 l1 (rd_L1 t204 x39_3) t209 y198))) = some (r1, r2) := H; have A22 := Aside0.mk A220; clear A220
                              by_cases c23 : t208 = true
                              · subst c23
                                have H1 : (spec_doWalk.l1 k3 l0 l1 x2_3 x3_1 y198 t204 (t204.length : Int) (wrap64 (x39_3 + 1))) = some (r1, r2) := by rw [if_pos rfl] at H; exact H
                                clear H; have H := H1; clear H1; have H' := Aside0.mk H; clear H; have p207 : 0 ≤ (x39_3 : Int) := of_decide_eq_true AS; have q207 : x39_3 < (t204.length : Int) := of_decide_eq_true AS; obtain ⟨ad207, A207_0, c207_0, e207, hx207_0, hl207_0, hi207_0⟩ := at_L1 (Kd.S_reads' HO_37.out).2.2 x39_3 p207 q207; cases e207; obtain ⟨ce207, hce207, hMe207, hcc207⟩ := Kd.S_get HO_37.out [] x39_3 p207 (by first | exact q207 | exact of_decide_eq_true AS | (have e_ := (Kd.S_reads' HO_37.out).1; omega)); obtain ⟨ve207_0, rfl, ge207_0⟩ := hMe207; have hv207_0 := hcc207 0 _ rfl; rw [Nat.add_zero, show ((Kd.slice 3 (Kd.int .i64))).sz = 1 from rfl, Nat.mul_one] at hv207_0; replace hv207_0 := Option.some.inj (hv207_0.symm.trans hx207_0); rw [hv207_0] at ge207_0; have HL207_0 := Aside0.mk (show Kd.R (Kd.int .i64) 3 _ _ _ _ (rd_L1 t204 x39_3) from ge207_0); clear hv207_0 ge207_0; clear hcc207 hce207; have HR207_0 := Aside0.mk hi207_0; have HC207_0 := Aside0.mk hl207_0; clear hi207_0 hl207_0; replace p207 := eq_true p207; replace q207 := eq_true q207; obtain ⟨Ao24, co24, eo24⟩ := Kd.V_slice HO_2.out; subst eo24
                                go_wp2_with (first | ((with_reducible refine gate_callee (f := 92) rfl ?_); refine goesL_ (some 45) rfl rfl Try.func92 (by kernel_rfl) rfl #[.slice A207_0 (rd_L1 t204 x39_3).length c207_0, .slice Ao24 x2_3.length co24] rfl TA ?_; (with_reducible refine (spec_l1Same.calls k3 _ _ (rd_L1 t204 x39_3) _ _ x2_3 true _ ?side1 ?side2 ?side3 ?side4 A22.out).mono ?_); (case side1 => repeat (first | exact (by repeat (first | (with_reducible exact HR207_0.out) | (with_reducible refine Kd.C_drewN ?_ _) | (with_reducible refine Kd.C_drew ?_) | (with_reducible refine Kd.C_alloc ?_ _) | exact HR207_0.out)) | (with_reducible refine Kd.C_drewN ?_ _) | (with_reducible refine Kd.C_drew ?_) | (with_reducible refine Kd.C_alloc ?_ _))); (case side2 => exact HC207_0.out); (case side3 => repeat (first | exact (Kd.V_reads' HO_2.out).2.2 | (with_reducible refine Kd.C_drewN ?_ _) | (with_reducible refine Kd.C_drew ?_) | (with_reducible refine Kd.C_alloc ?_ _))); (case side4 => exact (Kd.V_reads' HO_2.out).2.1); rintro e w' ⟨rfl, ⟨nd, rfl⟩⟩; refine ⟨_, rfl, ?_⟩))
                                go_roundg k3
                                case measure => have := HK1.out; have := HJ4.out; have := HK3.out; omega
                                case rel => exact ⟨(x2_3), (wrap64 (x39_3 + 1)), RF, H', ⟨by have := HK1.out; have := HJ4.out; have := HK3.out; omega⟩, ⟨by (with_reducible repeat (first | apply Kd.V_alloc | apply Kd.V_drewN | apply Kd.V_drew)); exact HO_2.out⟩, ⟨KR HO_10⟩, ⟨KS HO_37⟩, ⟨BB⟩⟩
                              · replace c23 := Bool.eq_false_iff.mpr c23
                                subst c23; have H1 : ((spec_doNext.f k3 l0 (rd_L1 t204 x39_3) x3_1).bind fun t209 => (spec_doWalk.l0 k3 l0 l1 (rd_L1 t204 x39_3) t209 y198)) = some (r1, r2) := by rw [if_neg (show ¬ (false = true) by decide)] at H; exact H
                                clear H; have H := H1; clear H1; replace H := Option.bind_eq_some_iff.mp H; obtain ⟨t209, A250, H⟩ := H; replace H : (spec_doWalk.l0 k3 l0 l1 (rd_L1 t204 x39_3) t209 y198) = some (r1, r2) := H; have A25 := Aside0.mk A250; clear A250; have H' := Aside0.mk H; clear H; have p207 : 0 ≤ (x39_3 : Int) := of_decide_eq_true AS; have q207 : x39_3 < (t204.length : Int) := of_decide_eq_true AS; obtain ⟨ad207, A207_0, c207_0, e207, hx207_0, hl207_0, hi207_0⟩ := at_L1 (Kd.S_reads' HO_37.out).2.2 x39_3 p207 q207; cases e207; obtain ⟨ce207, hce207, hMe207, hcc207⟩ := Kd.S_get HO_37.out [] x39_3 p207 (by first | exact q207 | exact of_decide_eq_true AS | (have e_ := (Kd.S_reads' HO_37.out).1; omega)); obtain ⟨ve207_0, rfl, ge207_0⟩ := hMe207; have hv207_0 := hcc207 0 _ rfl; rw [Nat.add_zero, show ((Kd.slice 3 (Kd.int .i64))).sz = 1 from rfl, Nat.mul_one] at hv207_0; replace hv207_0 := Option.some.inj (hv207_0.symm.trans hx207_0); rw [hv207_0] at ge207_0; have HL207_0 := Aside0.mk (show Kd.R (Kd.int .i64) 3 _ _ _ _ (rd_L1 t204 x39_3) from ge207_0); clear hv207_0 ge207_0; clear hcc207 hce207; have HR207_0 := Aside0.mk hi207_0; have HC207_0 := Aside0.mk hl207_0
                                clear hi207_0 hl207_0; replace p207 := eq_true p207; replace q207 := eq_true q207; obtain ⟨Ao26, co26, eo26⟩ := Kd.V_slice HO_2.out; subst eo26
                                go_wp2_with (first | ((with_reducible refine gate_callee (f := 92) rfl ?_); refine goesL_ (some 45) rfl rfl Try.func92 (by kernel_rfl) rfl #[.slice A207_0 (rd_L1 t204 x39_3).length c207_0, .slice Ao26 x2_3.length co26] rfl TA ?_; (with_reducible refine (spec_l1Same.calls k3 _ _ (rd_L1 t204 x39_3) _ _ x2_3 false _ ?side1 ?side2 ?side3 ?side4 A22.out).mono ?_); (case side1 => repeat (first | exact (by repeat (first | (with_reducible exact HR207_0.out) | (with_reducible refine Kd.C_drewN ?_ _) | (with_reducible refine Kd.C_drew ?_) | (with_reducible refine Kd.C_alloc ?_ _) | exact HR207_0.out)) | (with_reducible refine Kd.C_drewN ?_ _) | (with_reducible refine Kd.C_drew ?_) | (with_reducible refine Kd.C_alloc ?_ _))); (case side2 => exact HC207_0.out); (case side3 => repeat (first | exact (Kd.V_reads' HO_2.out).2.2 | (with_reducible refine Kd.C_drewN ?_ _) | (with_reducible refine Kd.C_drew ?_) | (with_reducible refine Kd.C_alloc ?_ _))); (case side4 => exact (Kd.V_reads' HO_2.out).2.1); rintro e w' ⟨rfl, ⟨nd, rfl⟩⟩; refine ⟨_, rfl, ?_⟩) | ((with_reducible refine gate_callee (f := 61) rfl ?_); refine goesL_ (some 52) rfl rfl Try.func61 (by kernel_rfl) rfl #[.slice (some ad201) l0.length c0, .slice A207_0 (rd_L1 t204 x39_3).length c207_0, .int .i64 x3_1] rfl TA ?_; (with_reducible refine (spec_doNext.calls k3 _ _ l0 _ _ (rd_L1 t204 x39_3) x3_1 t209 _ ?side1 ?side2 ?side3 ?side4 A25.out).mono ?_); (case side1 => repeat (first | exact (Kd.C_below HR0.out BB) | (with_reducible refine Kd.C_drewN ?_ _) | (with_reducible refine Kd.C_drew ?_) | (with_reducible refine Kd.C_alloc ?_ _))); (case side2 => exact HC0.out); (case side3 => repeat (first | exact (by repeat (first | (with_reducible exact HR207_0.out) | (with_reducible refine Kd.C_drewN ?_ _) | (with_reducible refine Kd.C_drew ?_) | (with_reducible refine Kd.C_alloc ?_ _) | exact HR207_0.out)) | (with_reducible refine Kd.C_drewN ?_ _) | (with_reducible refine Kd.C_drew ?_) | (with_reducible refine Kd.C_alloc ?_ _))); (case side4 => exact HC207_0.out); rintro e w27 ⟨rfl, hb⟩; refine ⟨_, rfl, ?_⟩; have n0_ := Aside0.mk (Kd.V_below (by (with_reducible repeat (first | apply Kd.V_alloc | apply Kd.V_drewN | apply Kd.V_drew)); exact HO_2.out) hb); have n1_ := Aside0.mk (Kd.R_below (KR HO_10) hb); have n2_ := Aside0.mk (Kd.S_below (KS HO_37) hb); have n3_ := Aside0.mk (Kd.R_below (KR HL207_0) hb); have n4_ := Aside0.mk (Kd.C_below (by repeat (first | (with_reducible exact HR207_0.out) | (with_reducible refine Kd.C_drewN ?_ _) | (with_reducible refine Kd.C_drew ?_) | (with_reducible refine Kd.C_alloc ?_ _) | exact HR207_0.out)) hb); have n5_ := Aside0.mk (below_step BB hb); clear HO_2; clear HO_10; clear HO_37; clear HL207_0; clear HR207_0; clear HB; have HO_2 := n0_; have HO_10 := n1_; have HO_37 := n2_; have HL207_0 := n3_; have HR207_0 := n4_; have HB := n5_; clear n0_ n1_ n2_ n3_ n4_ n5_; (try clear hb); (try clear hb2); (try clear hk); (try clear hi)))
                                go_roundg k3
                                case measure => have := HK1.out; have := HJ4.out; have := HK3.out; omega
                                case rel => exact ⟨(rd_L1 t204 x39_3), (t209), (y198), RF, H', ⟨by have := HK1.out; have := HJ4.out; have := HK3.out; omega⟩, ⟨Kd.V_mono (Kd.R_V (KR HL207_0)) (fun k_ hk => by first | exact ⟨.inr hk.1.1, hk.1.2⟩ | exact .inr hk.1.1)⟩, ⟨KR HO_10⟩, ⟨BB⟩⟩
                            · rw [if_neg c21] at H
                              exact absurd H (by simp)
                          · rw [if_neg c20] at H
                            exact absurd H (by simp)
                        · rw [if_neg c19] at H
                          have c19b0 : decide (x39_3 < (t204.length : Int)) = false := decide_eq_false c19; clear c19; replace H := Option.bind_eq_some_iff.mp H; obtain ⟨t210, A280, H⟩ := H; replace H : (spec_doWalk.l0 k3 l0 l1 x2_3 t210 y198) = some (r1, r2) := H; have A28 := Aside0.mk A280; clear A280; have H' := Aside0.mk H; clear H; obtain ⟨Ao29, co29, eo29⟩ := Kd.V_slice HO_2.out; subst eo29
                          go_wp2_with (first | ((with_reducible refine gate_callee (f := 61) rfl ?_); refine goesL_ (some 52) rfl rfl Try.func61 (by kernel_rfl) rfl #[.slice (some ad201) l0.length c0, .slice Ao29 x2_3.length co29, .int .i64 x3_1] rfl TA ?_; (with_reducible refine (spec_doNext.calls k3 _ _ l0 _ _ x2_3 x3_1 t210 _ ?side1 ?side2 ?side3 ?side4 A28.out).mono ?_); (case side1 => repeat (first | exact (Kd.C_below HR0.out HB.out) | (with_reducible refine Kd.C_drewN ?_ _) | (with_reducible refine Kd.C_drew ?_) | (with_reducible refine Kd.C_alloc ?_ _))); (case side2 => exact HC0.out); (case side3 => repeat (first | exact (Kd.V_reads' HO_2.out).2.2 | (with_reducible refine Kd.C_drewN ?_ _) | (with_reducible refine Kd.C_drew ?_) | (with_reducible refine Kd.C_alloc ?_ _))); (case side4 => exact (Kd.V_reads' HO_2.out).2.1); rintro e w30 ⟨rfl, hb⟩; refine ⟨_, rfl, ?_⟩; have n0_ := Aside0.mk (Kd.V_below (by (with_reducible repeat (first | apply Kd.V_alloc | apply Kd.V_drewN | apply Kd.V_drew)); exact HO_2.out) hb); have n1_ := Aside0.mk (Kd.R_below (KR HO_10) hb); have n2_ := Aside0.mk (Kd.S_below (KS HO_37) hb); have n3_ := Aside0.mk (below_step BB hb); clear HO_2; clear HO_10; clear HO_37; clear HB; have HO_2 := n0_; have HO_10 := n1_; have HO_37 := n2_; have HB := n3_; clear n0_ n1_ n2_ n3_; (try clear hb); (try clear hb2); (try clear hk); (try clear hi)))
                          go_roundg k3
                          case measure => have := HK1.out; have := HJ4.out; have := HK3.out; omega
                          case rel => exact ⟨(x2_3), (t210), (y198), RF, H', ⟨by have := HK1.out; have := HJ4.out; have := HK3.out; omega⟩, ⟨by (with_reducible repeat (first | apply Kd.V_alloc | apply Kd.V_drewN | apply Kd.V_drew)); exact Kd.V_mono HO_2.out (fun _ hk => ⟨hk.1, hk.2.1⟩)⟩, ⟨KR HO_10⟩, ⟨BB⟩⟩
                · rw [if_neg c11] at H
                  exact absurd H (by simp)
              · rw [if_neg c10] at H
                exact absurd H (by simp)
            · rw [if_neg c9] at H
              exact absurd H (by simp)
          · replace c8 := Bool.eq_false_iff.mpr c8
            subst c8; have H1 : (some (x10_1, x2_1)) = some (r1, r2) := by rw [if_neg (show ¬ (false = true) by decide)] at H; exact H
            clear H; have H := H1; clear H1
            simp only [Option.some.injEq, Prod.mk.injEq] at H
            obtain ⟨rfl, rfl⟩ := H
            go_wp2
            go_ret2
            exact ⟨_, _, by first | rfl | (simp [errW_none, errW_some] <;> rfl) | (simp [*, errW_none, errW_some] <;> rfl), KR HO_10, by (with_reducible repeat (first | apply Kd.V_alloc | apply Kd.V_drewN | apply Kd.V_drew)); exact HO_2.out, BB⟩

def spec_l1Least.f (a0 : Int) (a1 : Int) : Option (Int) := if a0 < a1 then (some a0) else (some a1)
set_option maxHeartbeats 8000000 in
set_option maxRecDepth 100000 in
theorem spec_l1Least.calls (a0 : Int) (a1 : Int) (r : Int) (w : World) (h : spec_l1Least.f a0 a1 = some r) :
    Calls Try.prog 93 #[.int .i64 a0, .int .i64 a1] w fun e w' => e = .returned (.int .i64 r) ∧ Drawn0 w w' := by
  have H : (if a0 < a1 then (some a0) else (some a1)) = some r := h; clear h
  by_cases c3 : a0 < a1
  · rw [if_pos c3] at H
    have c3b0 : decide (a0 < a1) = true := decide_eq_true c3; clear c3; obtain rfl := Option.some.inj H
    go_enter Try.func93, Try.ntmps93
    go_wp2
    go_ret
    exact ⟨by first | rfl | (simp; done) | (simp [*]; done) | (simp [*, wrap64]; done), by repeat (first | exact Drawn0.refl _ | apply Drawn0.step)⟩
  · rw [if_neg c3] at H
    have c3b0 : decide (a0 < a1) = false := decide_eq_false c3; clear c3; obtain rfl := Option.some.inj H
    go_enter Try.func93, Try.ntmps93
    go_wp2
    go_ret
    exact ⟨by first | rfl | (simp; done) | (simp [*]; done) | (simp [*, wrap64]; done), by repeat (first | exact Drawn0.refl _ | apply Drawn0.step)⟩

def spec_doInner.f (a0 : Int) (a1 : Int) : Option (List Int) := (spec_l1Least.f a0 a1).bind fun t211 => ((spec_l1Most.f a0 a1).bind fun t212 => (some (([t211, t212] : List Int))))
set_option maxHeartbeats 8000000 in
set_option maxRecDepth 100000 in
theorem spec_doInner.calls (a0 : Int) (a1 : Int) (r : List Int) (w : World) (h : spec_doInner.f a0 a1 = some r) :
    Calls Try.prog 60 #[.int .i64 a0, .int .i64 a1] w fun e w' => ∃ v0_ : Value, e = .returned (v0_) ∧ Kd.R (Kd.int .i64) 3 w' w.heap.size (fun _ => True) v0_ r ∧ Below w.heap.size w w' := by
  have HB := Aside0.mk (Below.refl w.heap.size w); have H : ((spec_l1Least.f a0 a1).bind fun t211 => ((spec_l1Most.f a0 a1).bind fun t212 => (some (([t211, t212] : List Int))))) = some r := h; clear h; replace H := Option.bind_eq_some_iff.mp H; obtain ⟨t211, A30, H⟩ := H; replace H : ((spec_l1Most.f a0 a1).bind fun t212 => (some (([t211, t212] : List Int)))) = some r := H; have A3 := Aside0.mk A30; clear A30; replace H := Option.bind_eq_some_iff.mp H; obtain ⟨t212, A40, H⟩ := H; replace H : (some (([t211, t212] : List Int))) = some r := H; have A4 := Aside0.mk A40; clear A40; obtain ⟨y213, hy213⟩ : ∃ y_ : List Int, y_ = (([t211, t212] : List Int)) := ⟨_, rfl⟩; replace H : (some y213) = some r := by first | (rw [hy213]; with_reducible exact H) | (have H2_ := (Option.bind_some _ _).symm.trans H; rw [hy213]; with_reducible exact H2_) | (have H2_ := (Option.bind_some _ _).symm.trans H; with_reducible exact H2_) | with_reducible exact H | (rw [hy213]; exact H) | exact H
  have Ny213 := Aside0.mk hy213; clear hy213; obtain rfl := Option.some.inj H
  go_enter Try.func60, Try.ntmps60
  go_wp2_with (first | ((with_reducible refine gate_callee (f := 93) rfl ?_); refine goesL_ (some 7) rfl rfl Try.func93 (by kernel_rfl) rfl #[.int .i64 a0, .int .i64 a1] rfl TA ?_; (with_reducible refine (spec_l1Least.calls a0 a1 t211 _ A3.out).mono ?_); rintro e w' ⟨rfl, ⟨nd, rfl⟩⟩; refine ⟨_, rfl, ?_⟩) | ((with_reducible refine gate_callee (f := 94) rfl ?_); refine goesL_ (some 10) rfl rfl Try.func94 (by kernel_rfl) rfl #[.int .i64 a0, .int .i64 a1] rfl TA ?_; (with_reducible refine (spec_l1Most.calls a0 a1 t212 _ A4.out).mono ?_); rintro e w' ⟨rfl, ⟨nd, rfl⟩⟩; refine ⟨_, rfl, ?_⟩) | ((with_reducible refine gate_dst (N := 11) rfl ?_); refine Kd.R_lit (Kd.int .i64) _ 3 ?hg (N := 11) ?hd (xs := ([t211, t212] : List Int)) (inner := [.int .i64 t211, .int .i64 t212]) (ok := fun _ => True) (okp := fun _ => True) ?hr ?hp (fun _ hk => hk) trivial (Below.refl _ _) (Nat.le_refl _) (by simp) ?_; (case hd => rfl); (case hg => rfl); (case hr => first | (go_simp; done) | (go_simp; rfl)); (case hp => exact (Reps.one (show Kd.M (Kd.int .i64) _ _ _ t211 [.int .i64 t211] from rfl) (Reps.one (show Kd.M (Kd.int .i64) _ _ _ t212 [.int .i64 t212] from rfl) (Reps.none _ _)))); intro v214 w5 ho6 hb hg_ hnew_; clear hg_ hnew_; (first | rw [← Ny213.out] at ho6 | (simp only [Int.reduceToNat] at ho6; rw [← Ny213.out] at ho6)); have n0_ := Aside0.mk (Kd.R_lower ho6 (below_size BB)); have n1_ := Aside0.mk (below_step BB hb); clear HB; have HO215 := n0_; have HB := n1_; clear n0_ n1_; clear hb ho6))
  go_ret
  exact ⟨_, by first | rfl | (simp [errW_none, errW_some] <;> rfl) | (simp [*, errW_none, errW_some] <;> rfl), KR HO215, BB⟩

def spec_doFrom.f (k : Nat) (a0 : Int) (l1 : List Int) (a2 : Int) (a3 : Int) : Option (List Int × List Int) := (spec_meCells.f k a0).bind fun t216 => ((spec_doInner.f a2 a3).bind fun t219 => ((spec_doInner.f a2 a3).bind fun t222 => ((spec_doNext.f k t216 t222 (-1)).bind fun t225 => ((spec_doWalk.f k t216 l1 t219 t225).bind fun bt226 => (some (bt226.1, bt226.2))))))
theorem spec_doFrom.mono : ∀ a0 a1 a2 a3 k, LeO (spec_doFrom.f k a0 a1 a2 a3) (spec_doFrom.f (k + 1) a0 a1 a2 a3) := by
  intro a0 a1 a2 a3 k
  unfold spec_doFrom.f
  repeat' first
      | (with_reducible exact spec_doNext.mono _ _ _ _)
      | (with_reducible exact spec_doWalk.mono _ _ _ _ _)
      | (with_reducible exact spec_meCells.mono _ _)
      | (with_reducible exact LeO.refl _)
      | (with_reducible exact LeO.none _)
      | (with_reducible refine LeO.ite ?_ ?_)
      | (with_reducible refine LeO.bind ?_ (fun _ => ?_))
      | exact spec_doNext.mono _ _ _ _
      | exact spec_doWalk.mono _ _ _ _ _
      | exact spec_meCells.mono _ _
      | exact LeO.none _
      | refine LeO.ite ?_ ?_
      | refine LeO.bind ?_ (fun _ => ?_)
set_option maxHeartbeats 8000000 in
set_option maxRecDepth 100000 in
theorem spec_doFrom.calls (k : Nat) (a0 : Int) (A1 : Option Addr) (c1 : Nat) (l1 : List Int) (a2 : Int) (a3 : Int) (r1 : List Int) (r2 : List Int) (w : World) (hr1 : Kd.C (Kd.int .i64) w A1 l1.length l1) (hc1 : l1.length ≤ c1) (h : spec_doFrom.f k a0 l1 a2 a3 = some (r1, r2)) :
    Calls Try.prog 26 #[.int .i64 a0, .slice A1 l1.length c1, .int .i64 a2, .int .i64 a3] w fun e w' => ∃ v0_ v1_ : Value, e = .returned (.tuple #[v0_, v1_]) ∧ Kd.R (Kd.int .i64) 3 w' w.heap.size (fun k_ => (w.heap.size ≤ k_)) v0_ r1 ∧ Kd.V (Kd.int .i64) 3 w' w.heap.size (fun k_ => (w.heap.size ≤ k_) ∧ some k_ ≠ (v0_ : Value).ownBlock) v1_ r2 ∧ Below w.heap.size w w' := by
  have HR1 := Aside0.mk hr1; have HC1 := Aside0.mk hc1; clear hr1 hc1; have HB := Aside0.mk (Below.refl w.heap.size w); have H : ((spec_meCells.f k a0).bind fun t216 => ((spec_doInner.f a2 a3).bind fun t219 => ((spec_doInner.f a2 a3).bind fun t222 => ((spec_doNext.f k t216 t222 (-1)).bind fun t225 => ((spec_doWalk.f k t216 l1 t219 t225).bind fun bt226 => (some (bt226.1, bt226.2))))))) = some (r1, r2) := h; clear h; replace H := Option.bind_eq_some_iff.mp H; obtain ⟨t216, A50, H⟩ := H; replace H : ((spec_doInner.f a2 a3).bind fun t219 => ((spec_doInner.f a2 a3).bind fun t222 => ((spec_doNext.f k t216 t222 (-1)).bind fun t225 => ((spec_doWalk.f k t216 l1 t219 t225).bind fun bt226 => (some (bt226.1, bt226.2)))))) = some (r1, r2) := H; have A5 := Aside0.mk A50; clear A50; replace H := Option.bind_eq_some_iff.mp H; obtain ⟨t219, A60, H⟩ := H; replace H : ((spec_doInner.f a2 a3).bind fun t222 => ((spec_doNext.f k t216 t222 (-1)).bind fun t225 => ((spec_doWalk.f k t216 l1 t219 t225).bind fun bt226 => (some (bt226.1, bt226.2))))) = some (r1, r2) := H; have A6 := Aside0.mk A60; clear A60; replace H := Option.bind_eq_some_iff.mp H; obtain ⟨t222, A70, H⟩ := H
  replace H : ((spec_doNext.f k t216 t222 (-1)).bind fun t225 => ((spec_doWalk.f k t216 l1 t219 t225).bind fun bt226 => (some (bt226.1, bt226.2)))) = some (r1, r2) := H; have A7 := Aside0.mk A70; clear A70; replace H := Option.bind_eq_some_iff.mp H; obtain ⟨t225, A80, H⟩ := H; replace H : ((spec_doWalk.f k t216 l1 t219 t225).bind fun bt226 => (some (bt226.1, bt226.2))) = some (r1, r2) := H; have A8 := Aside0.mk A80; clear A80; replace H := Option.bind_eq_some_iff.mp H; obtain ⟨⟨t226, t229⟩, A90, H⟩ := H; replace H : (some (t226, t229)) = some (r1, r2) := H; have A9 := Aside0.mk A90; clear A90
  simp only [Option.some.injEq, Prod.mk.injEq] at H
  obtain ⟨rfl, rfl⟩ := H
  go_enter Try.func26, Try.ntmps26
  go_wp2_with (first | ((with_reducible refine gate_callee (f := 24) rfl ?_); refine goesL_ (some 12) rfl rfl Try.func24 (by kernel_rfl) rfl #[.int .i64 a0] rfl TA ?_; (with_reducible refine (spec_meCells.calls k a0 t216 _ A5.out).mono ?_); rintro e w10 ⟨v217, rfl, ho0, hb⟩; refine ⟨_, rfl, ?_⟩; have n0_ := Aside0.mk (Kd.S_lower (Kd.S_newM (M := fun k_ => (w.heap.size ≤ k_)) ho0 (below_size BB) (fun k_ h_ => h_)) (below_size BB)); have n1_ := Aside0.mk (below_step BB hb); clear HB; have HO218 := n0_; have HB := n1_; clear n0_ n1_; (try clear hb); (try clear hb2); (try clear hk); (try clear hi); (try clear ho0)) | ((with_reducible refine gate_callee (f := 60) rfl ?_); refine goesL_ (some 17) rfl rfl Try.func60 (by kernel_rfl) rfl #[.int .i64 a2, .int .i64 a3] rfl TA ?_; (with_reducible refine (spec_doInner.calls a2 a3 t219 _ A6.out).mono ?_); rintro e w11 ⟨v220, rfl, ho0, hb⟩; refine ⟨_, rfl, ?_⟩; have n0_ := Aside0.mk (Kd.S_elder' (KS HO218) (Kd.R_base ho0) hb); have n1_ := Aside0.mk (Kd.R_lower (Kd.R_newM (M := fun k_ => (w.heap.size ≤ k_)) ho0 (below_size BB) (fun k_ h_ => h_)) (below_size BB)); have n2_ := Aside0.mk (below_step BB hb); clear HO218; clear HB; have HO218 := n0_; have HO221 := n1_; have HB := n2_; clear n0_ n1_ n2_; (try clear hb); (try clear hb2); (try clear hk); (try clear hi); (try clear ho0)) | ((with_reducible refine gate_callee (f := 60) rfl ?_); refine goesL_ (some 21) rfl rfl Try.func60 (by kernel_rfl) rfl #[.int .i64 a2, .int .i64 a3] rfl TA ?_; (with_reducible refine (spec_doInner.calls a2 a3 t222 _ A7.out).mono ?_); rintro e w12 ⟨v223, rfl, ho0, hb⟩; refine ⟨_, rfl, ?_⟩; have n0_ := Aside0.mk (Kd.S_elder' (KS HO218) (Kd.R_base ho0) hb); have n1_ := Aside0.mk (Kd.R_elder' (KR HO221) (Kd.R_base ho0) hb); have n2_ := Aside0.mk (Kd.R_lower (Kd.R_new' (Kd.R_newM (M := fun k_ => (w.heap.size ≤ k_)) ho0 (below_size BB) (fun k_ h_ => h_)) (Kd.R_lt (KR HO221))) (below_size BB)); have n3_ := Aside0.mk (below_step BB hb); clear HO218; clear HO221; clear HB; have HO218 := n0_; have HO221 := n1_; have HO224 := n2_; have HB := n3_; clear n0_ n1_ n2_ n3_; (try clear hb); (try clear hb2); (try clear hk); (try clear hi); (try clear ho0); obtain ⟨Ao13, co13, eo13⟩ := Kd.S_slice HO218.out; subst eo13; obtain ⟨Ao14, co14, eo14⟩ := Kd.R_slice HO224.out; subst eo14) | ((with_reducible refine gate_callee (f := 61) rfl ?_); refine goesL_ (some 22) rfl rfl Try.func61 (by kernel_rfl) rfl #[.slice Ao13 t216.length co13, .slice Ao14 t222.length co14, .int .i64 (-1)] rfl TA ?_; (with_reducible refine (spec_doNext.calls k _ _ t216 _ _ t222 (-1) t225 _ ?side1 ?side2 ?side3 ?side4 A8.out).mono ?_); (case side1 => repeat (first | exact (Kd.S_reads' HO218.out).2.2 | (with_reducible refine Kd.C_drewN ?_ _) | (with_reducible refine Kd.C_drew ?_) | (with_reducible refine Kd.C_alloc ?_ _))); (case side2 => exact (Kd.S_reads' HO218.out).2.1); (case side3 => repeat (first | exact (Kd.R_reads' HO224.out).2.2 | (with_reducible refine Kd.C_drewN ?_ _) | (with_reducible refine Kd.C_drew ?_) | (with_reducible refine Kd.C_alloc ?_ _))); (case side4 => exact (Kd.R_reads' HO224.out).2.1); rintro e w15 ⟨rfl, hb⟩; refine ⟨_, rfl, ?_⟩; have n0_ := Aside0.mk (Kd.S_below (KS HO218) hb); have n1_ := Aside0.mk (Kd.R_below (KR HO221) hb); have n2_ := Aside0.mk (Kd.R_below (KR HO224) hb); have n3_ := Aside0.mk (below_step BB hb); clear HO218; clear HO221; clear HO224; clear HB; have HO218 := n0_; have HO221 := n1_; have HO224 := n2_; have HB := n3_; clear n0_ n1_ n2_ n3_; (try clear hb); (try clear hb2); (try clear hk); (try clear hi); obtain ⟨Ao16, co16, eo16⟩ := Kd.R_slice HO221.out; subst eo16) | ((with_reducible refine gate_callee (f := 59) rfl ?_); refine goesL_ (some 23) rfl rfl Try.func59 (by kernel_rfl) rfl #[.slice Ao13 t216.length co13, .slice A1 l1.length c1, .slice Ao16 t219.length co16, .int .i64 t225] rfl TA ?_; (with_reducible refine (spec_doWalk.calls k _ _ t216 _ _ l1 (fun k_ => some k_ = (.slice Ao16 t219.length co16 : Value).ownBlock) _ _ t219 t225 t226 t229 _ ?side1 ?side2 ?side3 ?side4 ?side5 A9.out).mono ?_); (case side1 => repeat (first | exact (Kd.S_reads' HO218.out).2.2 | (with_reducible refine Kd.C_drewN ?_ _) | (with_reducible refine Kd.C_drew ?_) | (with_reducible refine Kd.C_alloc ?_ _))); (case side2 => exact (Kd.S_reads' HO218.out).2.1); (case side3 => repeat (first | exact (Kd.C_below HR1.out HB.out) | (with_reducible refine Kd.C_drewN ?_ _) | (with_reducible refine Kd.C_drew ?_) | (with_reducible refine Kd.C_alloc ?_ _))); (case side4 => exact HC1.out); (case side5 => exact Kd.R_V (Kd.R_tight rfl (Kd.R_apart' (HO221.out) (Kd.S_typed HO218.out) (by decide)))); rintro e w17 ⟨v227, v230, rfl, ho0, ho1, hb⟩; refine ⟨_, rfl, ?_⟩; have n0_ := Aside0.mk (Kd.S_elder' (KS HO218) (Kd.R_base ho0) hb); have n1_ := Aside0.mk (Kd.R_elder' (KR HO221) (Kd.R_base ho0) hb); have n2_ := Aside0.mk (Kd.R_elder' (KR HO224) (Kd.R_base ho0) hb); have n3_ := Aside0.mk (Kd.R_lower (Kd.R_new' (Kd.R_new' (Kd.R_newM (M := fun k_ => (w.heap.size ≤ k_)) (Kd.R_mono (ok' := fun k_ => True) ho0 (fun _ hk_ => trivial)) (below_size BB) (fun k_ h_ => h_)) (Kd.R_lt (KR HO221))) (Kd.R_lt (KR HO224))) (below_size BB)); have n4_ := Aside0.mk (Kd.V_lower (Kd.V_mono (ok' := fun k_ => (w.heap.size ≤ k_) ∧ some k_ ≠ (v227 : Value).ownBlock ∧ some k_ ≠ (.slice Ao13 t216.length co13 : Value).ownBlock ∧ some k_ ≠ (.slice Ao14 t222.length co14 : Value).ownBlock) ho1 (fun k_ hk_ => ⟨Or.elim hk_.1 (fun hs_ => ((Kd.R_apart' (HO221.out) (Kd.S_typed HO218.out) (by decide)).1 k_ hs_.symm).1.1.1) (fun hn_ => (Nat.le_trans (below_size BB) hn_)), hk_.2, Or.elim hk_.1 (fun hs_ => ((Kd.R_apart' (HO221.out) (Kd.S_typed HO218.out) (by decide)).1 k_ hs_.symm).2) (fun hn_ => (Kd.fresh' (Kd.S_lt (KS HO218)) k_ hn_)), Or.elim hk_.1 (fun hs_ => ((Kd.R_apart' (HO221.out) (Kd.S_typed HO218.out) (by decide)).1 k_ hs_.symm).1.2) (fun hn_ => (Kd.fresh' (Kd.R_lt (KR HO224)) k_ hn_))⟩)) (below_size BB)); have n5_ := Aside0.mk (below_step BB hb); clear HO218; clear HO221; clear HO224; clear HB; have HO218 := n0_; have HO221 := n1_; have HO224 := n2_; have HO228 := n3_; have HO231 := n4_; have HB := n5_; clear n0_ n1_ n2_ n3_ n4_ n5_; (try clear hb); (try clear hb2); (try clear hk); (try clear hi); (try clear ho0); (try clear ho1)))
  go_ret2
  exact ⟨_, _, by first | rfl | (simp [errW_none, errW_some] <;> rfl) | (simp [*, errW_none, errW_some] <;> rfl), by (with_reducible repeat (first | apply Kd.R_alloc | apply Kd.R_drewN | apply Kd.R_drew)); exact Kd.R_mono HO228.out (fun _ hk => hk.1.1.1), by (with_reducible repeat (first | apply Kd.V_alloc | apply Kd.V_drewN | apply Kd.V_drew)); exact Kd.V_mono HO231.out (fun _ hk => ⟨hk.1, hk.2.1⟩), BB⟩

def spec_doAllFull.l0 : Nat → List Int → List Int → List (List Int) → Int → Int → Option (List Int)
  | 0, _, _, _, _, _ => none
  | k + 1, x1, x5, x9, x10, x11 => if x11 < x10 then (if 0 ≤ x11 then (if x11 < (x9.length : Int) then ((spec_doFull.f k x1 (rd_L1 x9 x11)).bind fun t236 => (if t236 = true then (if x5.length < 17592186044416 then (spec_doAllFull.l0 k x1 (x5 ++ [x11]) x9 x10 (wrap64 (x11 + 1))) else (none)) else (spec_doAllFull.l0 k x1 x5 x9 x10 (wrap64 (x11 + 1))))) else (none)) else (none)) else (some x5)
def spec_doAllFull.f (k : Nat) (a0 : Int) (l1 : List Int) : Option (List Int) := (spec_meCells.f k a0).bind fun t232 => (spec_doAllFull.l0 k l1 ([] : List Int) t232 (t232.length : Int) 0)
theorem spec_doAllFull.mono_l : ∀ k, (∀ y0 y1 y2 y3 y4, LeO (spec_doAllFull.l0 k y0 y1 y2 y3 y4) (spec_doAllFull.l0 (k + 1) y0 y1 y2 y3 y4))
  | 0 => fun _ _ _ _ _ r h => by simp [spec_doAllFull.l0] at h
  | k + 1 => by
    have ih0 := spec_doAllFull.mono_l k
    · intro y0 y1 y2 y3 y4
      unfold spec_doAllFull.l0
      repeat' first
      | (with_reducible exact ih0 _ _ _ _ _)
      | (with_reducible exact spec_doFull.mono _ _ _)
      | (with_reducible exact spec_meCells.mono _ _)
      | (with_reducible exact LeO.refl _)
      | (with_reducible exact LeO.none _)
      | (with_reducible refine LeO.ite ?_ ?_)
      | (with_reducible refine LeO.bind ?_ (fun _ => ?_))
      | exact ih0 _ _ _ _ _
      | exact spec_doFull.mono _ _ _
      | exact spec_meCells.mono _ _
      | exact LeO.none _
      | refine LeO.ite ?_ ?_
      | refine LeO.bind ?_ (fun _ => ?_)
theorem spec_doAllFull.mono : ∀ a0 a1 k, LeO (spec_doAllFull.f k a0 a1) (spec_doAllFull.f (k + 1) a0 a1) := by
  intro a0 a1 k
  have ih0 := spec_doAllFull.mono_l k
  unfold spec_doAllFull.f
  repeat' first
      | (with_reducible exact ih0 _ _ _ _ _)
      | (with_reducible exact spec_doFull.mono _ _ _)
      | (with_reducible exact spec_meCells.mono _ _)
      | (with_reducible exact LeO.refl _)
      | (with_reducible exact LeO.none _)
      | (with_reducible refine LeO.ite ?_ ?_)
      | (with_reducible refine LeO.bind ?_ (fun _ => ?_))
      | exact ih0 _ _ _ _ _
      | exact spec_doFull.mono _ _ _
      | exact spec_meCells.mono _ _
      | exact LeO.none _
      | refine LeO.ite ?_ ?_
      | refine LeO.bind ?_ (fun _ => ?_)
set_option maxHeartbeats 8000000 in
set_option maxRecDepth 100000 in
theorem spec_doAllFull.calls (k : Nat) (a0 : Int) (A1 : Option Addr) (c1 : Nat) (l1 : List Int) (r : List Int) (w : World) (hr1 : Kd.C (Kd.int .i64) w A1 l1.length l1) (hc1 : l1.length ≤ c1) (h : spec_doAllFull.f k a0 l1 = some r) :
    Calls Try.prog 27 #[.int .i64 a0, .slice A1 l1.length c1] w fun e w' => ∃ v0_ : Value, e = .returned (v0_) ∧ Kd.R (Kd.int .i64) 3 w' w.heap.size (fun _ => True) v0_ r ∧ Below w.heap.size w w' := by
  have HR1 := Aside0.mk hr1; have HC1 := Aside0.mk hc1; clear hr1 hc1; have HB := Aside0.mk (Below.refl w.heap.size w); have H : ((spec_meCells.f k a0).bind fun t232 => (spec_doAllFull.l0 k l1 ([] : List Int) t232 (t232.length : Int) 0)) = some r := h; clear h; replace H := Option.bind_eq_some_iff.mp H; obtain ⟨t232, A30, H⟩ := H; replace H : (spec_doAllFull.l0 k l1 ([] : List Int) t232 (t232.length : Int) 0) = some r := H; have A3 := Aside0.mk A30; clear A30; have H' := Aside0.mk H; clear H
  go_enter Try.func27, Try.ntmps27
  go_wp2_with (first | ((with_reducible refine gate_callee (f := 24) rfl ?_); refine goesL_ (some 9) rfl rfl Try.func24 (by kernel_rfl) rfl #[.int .i64 a0] rfl TA ?_; (with_reducible refine (spec_meCells.calls k a0 t232 _ A3.out).mono ?_); rintro e w4 ⟨v233, rfl, ho0, hb⟩; refine ⟨_, rfl, ?_⟩; have n0_ := Aside0.mk (Kd.S_lower ho0 (below_size BB)); have n1_ := Aside0.mk (below_step BB hb); clear HB; have HO234 := n0_; have HB := n1_; clear n0_ n1_; (try clear hb); (try clear hb2); (try clear hk); (try clear hi); (try clear ho0); obtain ⟨Ao5, co5, eo5⟩ := Kd.S_slice HO234.out; subst eo5))
  go_loopg [5, 11] k (fun kq v5 v11 w' => ∃ (x5_1 : List Int) (x11_1 : Int), v11 = .int .i64 x11_1 ∧ Aside0 (spec_doAllFull.l0 kq l1 x5_1 t232 (t232.length : Int) x11_1 = some r) ∧ Aside0 (kq ≤ k) ∧ Aside0 (Kd.R (Kd.int .i64) 3 w' w.heap.size (fun _ => True) v5 x5_1) ∧ Aside0 (Kd.S (Kd.slice 3 (Kd.int .i64)) 22 w' w.heap.size (fun k_ => some k_ ≠ (v5 : Value).ownBlock) (.slice Ao5 t232.length co5) t232) ∧ Aside0 (Below w.heap.size w w'))
  case atStart => exact ⟨(([] : List Int)), (0), RF, H', ⟨Nat.le_refl _⟩, ⟨by first | exact Kd.R_nil _ _ _ _ _ | exact Kd.N_nil _ _ _ _ _ | exact Kd.V_nil _ _ _ _ _ | exact Kd.Q_nil _ _ _ _ _ | exact Kd.S_nil _ _ _ _ _⟩, ⟨by (with_reducible repeat (first | apply Kd.S_alloc | apply Kd.S_drewN | apply Kd.S_drew)); exact Kd.S_mono HO234.out (fun _ hk => (by simp [Value.ownBlock]))⟩, ⟨BB⟩⟩
  case round =>
    clear H'
    try clear c1
    try clear c2
    try clear p2
    obtain ⟨x5_1, x11_1, rfl, HA, HK1, HO_5, HO_9, HB⟩ := hrel; cases gk with
    | zero => exact absurd HA.out (by simp [spec_doAllFull.l0])
    | succ k1 =>
      have H := HA.out; clear HA
      simp only [spec_doAllFull.l0] at H
      by_cases c6 : x11_1 < (t232.length : Int)
      · rw [if_pos c6] at H
        have c6b0 : decide (x11_1 < (t232.length : Int)) = true := decide_eq_true c6; clear c6
        by_cases c7 : 0 ≤ x11_1
        · rw [if_pos c7] at H
          have c7b0 : decide (0 ≤ x11_1) = true := decide_eq_true c7; clear c7
          by_cases c8 : x11_1 < (t232.length : Int)
          · rw [if_pos c8] at H
            have c8b0 : decide (x11_1 < (t232.length : Int)) = true := decide_eq_true c8; clear c8; replace H := Option.bind_eq_some_iff.mp H; obtain ⟨t236, A90, H⟩ := H; replace H : (if t236 = true then (if x5_1.length < 17592186044416 then (spec_doAllFull.l0 k1 l1 (x5_1 ++ [x11_1]) t232 (t232.length : Int) (wrap64 (x11_1 + 1))) else (none)) else (spec_doAllFull.l0 k1 l1 x5_1 t232 (t232.length : Int) (wrap64 (x11_1 + 1)))) = some r := H; have A9 := Aside0.mk A90; clear A90
            by_cases c10 : t236 = true
            · subst c10
              have H1 : (if x5_1.length < 17592186044416 then (spec_doAllFull.l0 k1 l1 (x5_1 ++ [x11_1]) t232 (t232.length : Int) (wrap64 (x11_1 + 1))) else (none)) = some r := by rw [if_pos rfl] at H; exact H
              clear H; have H := H1; clear H1
              by_cases c11 : x5_1.length < 17592186044416
              · rw [if_pos c11] at H
                have LMc11 := Aside0.mk c11; clear c11; obtain ⟨y237, hy237⟩ : ∃ y_ : List Int, y_ = (x5_1 ++ [x11_1]) := ⟨_, rfl⟩; replace H : (spec_doAllFull.l0 k1 l1 y237 t232 (t232.length : Int) (wrap64 (x11_1 + 1))) = some r := by first | (rw [hy237]; with_reducible exact H) | (have H2_ := (Option.bind_some _ _).symm.trans H; rw [hy237]; with_reducible exact H2_) | (have H2_ := (Option.bind_some _ _).symm.trans H; with_reducible exact H2_) | with_reducible exact H | (rw [hy237]; exact H) | exact H
                have Ny237 := Aside0.mk hy237; clear hy237; have H' := Aside0.mk H; clear H; have p235 : 0 ≤ (x11_1 : Int) := of_decide_eq_true AS; have q235 : x11_1 < (t232.length : Int) := of_decide_eq_true AS; obtain ⟨ad235, A235_0, c235_0, e235, hx235_0, hl235_0, hi235_0⟩ := at_L1 (Kd.S_reads' HO_9.out).2.2 x11_1 p235 q235; cases e235; obtain ⟨ce235, hce235, hMe235, hcc235⟩ := Kd.S_get HO_9.out [] x11_1 p235 (by first | exact q235 | exact of_decide_eq_true AS | (have e_ := (Kd.S_reads' HO_9.out).1; omega)); obtain ⟨ve235_0, rfl, ge235_0⟩ := hMe235; have hv235_0 := hcc235 0 _ rfl; rw [Nat.add_zero, show ((Kd.slice 3 (Kd.int .i64))).sz = 1 from rfl, Nat.mul_one] at hv235_0; replace hv235_0 := Option.some.inj (hv235_0.symm.trans hx235_0); rw [hv235_0] at ge235_0; have HL235_0 := Aside0.mk (show Kd.R (Kd.int .i64) 3 _ _ _ _ (rd_L1 t232 x11_1) from ge235_0); clear hv235_0 ge235_0; clear hcc235 hce235; have HR235_0 := Aside0.mk hi235_0; have HC235_0 := Aside0.mk hl235_0; clear hi235_0 hl235_0; replace p235 := eq_true p235; replace q235 := eq_true q235
                go_wp2_with (first | ((with_reducible refine gate_callee (f := 62) rfl ?_); refine goesL_ (some 18) rfl rfl Try.func62 (by kernel_rfl) rfl #[.slice A1 l1.length c1, .slice A235_0 (rd_L1 t232 x11_1).length c235_0] rfl TA ?_; (with_reducible refine (spec_doFull.calls k1 _ _ l1 _ _ (rd_L1 t232 x11_1) true _ ?side1 ?side2 ?side3 ?side4 A9.out).mono ?_); (case side1 => repeat (first | exact (Kd.C_below HR1.out HB.out) | (with_reducible refine Kd.C_drewN ?_ _) | (with_reducible refine Kd.C_drew ?_) | (with_reducible refine Kd.C_alloc ?_ _))); (case side2 => exact HC1.out); (case side3 => repeat (first | exact (by repeat (first | (with_reducible exact HR235_0.out) | (with_reducible refine Kd.C_drewN ?_ _) | (with_reducible refine Kd.C_drew ?_) | (with_reducible refine Kd.C_alloc ?_ _) | exact HR235_0.out)) | (with_reducible refine Kd.C_drewN ?_ _) | (with_reducible refine Kd.C_drew ?_) | (with_reducible refine Kd.C_alloc ?_ _))); (case side4 => exact HC235_0.out); rintro e w' ⟨rfl, ⟨nd, rfl⟩⟩; refine ⟨_, rfl, ?_⟩) | ((with_reducible refine gate_builtin (b := .append) (xs := #[.tmp 19, .tmp 21]) rfl ?_); at_builtin; refine Kd.R_append (Kd.int .i64) (w0 := w) w.heap.size rfl (.tmp 19) (.tmp 21) 22 3 (.int .i64 0) 8 rfl Try.underlying22 info3 rfl (by decide) (by omega) u5 x5_1 x11_1 [.int .i64 x11_1] (fun _ => True) (fun _ => False) rfl rfl ?aP (fun _ hk => hk.elim) ?aF ?aO ?aB ?aS ?aL ?_; (case aP => exact rfl); (case aB => exact BB); (case aF => exact (fun _ _ => trivial)); (case aO => exact (KR HO_5)); (case aS => exact (below_size BB)); (case aL => have := LMc11.out; omega); intro v238 w12 ho hb hg hat; rw [← Ny237.out] at ho; have n0_ := Aside0.mk (Kd.S_after (ok := (fun _ => True)) (by (with_reducible repeat (first | apply Kd.S_alloc | apply Kd.S_drewN | apply Kd.S_drew)); exact Kd.S_mono HO_9.out (fun _ hk => ⟨trivial, hk⟩)) hg hat); have n1_ := Aside0.mk (Kd.R_after (ok := (fun k_ => some k_ ≠ (.slice (some ad235) t232.length co5 : Value).ownBlock)) (by (with_reducible repeat (first | apply Kd.R_alloc | apply Kd.R_drewN | apply Kd.R_drew)); exact Kd.R_mono HL235_0.out (fun _ hk => ⟨hk.2, hk.1⟩)) hg hat); have n2_ := Aside0.mk (hb); have n3_ := Aside0.mk (ho); clear HO_9; clear HL235_0; clear HB; clear HO_5; have HO_9 := n0_; have HL235_0 := n1_; have HB := n2_; have HO239 := n3_; clear n0_ n1_ n2_ n3_; clear ho hb hg hat))
                go_roundg k1
                case measure => have := HK1.out; omega
                case rel => exact ⟨(y237), (wrap64 (x11_1 + 1)), RF, H', ⟨by have := HK1.out; omega⟩, ⟨KR HO239⟩, ⟨by (with_reducible repeat (first | apply Kd.S_alloc | apply Kd.S_drewN | apply Kd.S_drew)); exact Kd.S_mono HO_9.out (fun _ hk => hk.2)⟩, ⟨BB⟩⟩
              · rw [if_neg c11] at H
                exact absurd H (by simp)
            · replace c10 := Bool.eq_false_iff.mpr c10
              subst c10; have H1 : (spec_doAllFull.l0 k1 l1 x5_1 t232 (t232.length : Int) (wrap64 (x11_1 + 1))) = some r := by rw [if_neg (show ¬ (false = true) by decide)] at H; exact H
              clear H; have H := H1; clear H1; have H' := Aside0.mk H; clear H; have p235 : 0 ≤ (x11_1 : Int) := of_decide_eq_true AS; have q235 : x11_1 < (t232.length : Int) := of_decide_eq_true AS; obtain ⟨ad235, A235_0, c235_0, e235, hx235_0, hl235_0, hi235_0⟩ := at_L1 (Kd.S_reads' HO_9.out).2.2 x11_1 p235 q235; cases e235; obtain ⟨ce235, hce235, hMe235, hcc235⟩ := Kd.S_get HO_9.out [] x11_1 p235 (by first | exact q235 | exact of_decide_eq_true AS | (have e_ := (Kd.S_reads' HO_9.out).1; omega)); obtain ⟨ve235_0, rfl, ge235_0⟩ := hMe235; have hv235_0 := hcc235 0 _ rfl; rw [Nat.add_zero, show ((Kd.slice 3 (Kd.int .i64))).sz = 1 from rfl, Nat.mul_one] at hv235_0; replace hv235_0 := Option.some.inj (hv235_0.symm.trans hx235_0); rw [hv235_0] at ge235_0; have HL235_0 := Aside0.mk (show Kd.R (Kd.int .i64) 3 _ _ _ _ (rd_L1 t232 x11_1) from ge235_0); clear hv235_0 ge235_0; clear hcc235 hce235; have HR235_0 := Aside0.mk hi235_0; have HC235_0 := Aside0.mk hl235_0; clear hi235_0 hl235_0; replace p235 := eq_true p235; replace q235 := eq_true q235
              go_wp2_with (first | ((with_reducible refine gate_callee (f := 62) rfl ?_); refine goesL_ (some 18) rfl rfl Try.func62 (by kernel_rfl) rfl #[.slice A1 l1.length c1, .slice A235_0 (rd_L1 t232 x11_1).length c235_0] rfl TA ?_; (with_reducible refine (spec_doFull.calls k1 _ _ l1 _ _ (rd_L1 t232 x11_1) false _ ?side1 ?side2 ?side3 ?side4 A9.out).mono ?_); (case side1 => repeat (first | exact (Kd.C_below HR1.out HB.out) | (with_reducible refine Kd.C_drewN ?_ _) | (with_reducible refine Kd.C_drew ?_) | (with_reducible refine Kd.C_alloc ?_ _))); (case side2 => exact HC1.out); (case side3 => repeat (first | exact (by repeat (first | (with_reducible exact HR235_0.out) | (with_reducible refine Kd.C_drewN ?_ _) | (with_reducible refine Kd.C_drew ?_) | (with_reducible refine Kd.C_alloc ?_ _) | exact HR235_0.out)) | (with_reducible refine Kd.C_drewN ?_ _) | (with_reducible refine Kd.C_drew ?_) | (with_reducible refine Kd.C_alloc ?_ _))); (case side4 => exact HC235_0.out); rintro e w' ⟨rfl, ⟨nd, rfl⟩⟩; refine ⟨_, rfl, ?_⟩))
              go_roundg k1
              case measure => have := HK1.out; omega
              case rel => exact ⟨(x5_1), (wrap64 (x11_1 + 1)), RF, H', ⟨by have := HK1.out; omega⟩, ⟨KR HO_5⟩, ⟨KS HO_9⟩, ⟨BB⟩⟩
          · rw [if_neg c8] at H
            exact absurd H (by simp)
        · rw [if_neg c7] at H
          exact absurd H (by simp)
      · rw [if_neg c6] at H
        have c6b0 : decide (x11_1 < (t232.length : Int)) = false := decide_eq_false c6; clear c6; obtain rfl := Option.some.inj H
        go_wp2
        go_ret
        exact ⟨_, by first | rfl | (simp [errW_none, errW_some] <;> rfl) | (simp [*, errW_none, errW_some] <;> rfl), KR HO_5, BB⟩

def spec_doPartner.f (k : Nat) (a0 : Int) (l1 : List Int) (a2 : Int) : Option (List Int) := (spec_meCells.f k a0).bind fun t240 => (if 0 ≤ a2 then (if a2 < (t240.length : Int) then ((spec_doOfCell.f k l1 (rd_L1 t240 a2)).bind fun t244 => (if 0 < (t244.length : Int) then ((spec_doNext.f k t240 (rd_L1 t244 0) a2).bind fun t248 => ((spec_doWalk.f k t240 l1 (rd_L1 t244 0) t248).bind fun bt249 => (some bt249.1))) else (none))) else (none)) else (none))
theorem spec_doPartner.mono : ∀ a0 a1 a2 k, LeO (spec_doPartner.f k a0 a1 a2) (spec_doPartner.f (k + 1) a0 a1 a2) := by
  intro a0 a1 a2 k
  unfold spec_doPartner.f
  repeat' first
      | (with_reducible exact spec_doNext.mono _ _ _ _)
      | (with_reducible exact spec_doOfCell.mono _ _ _)
      | (with_reducible exact spec_doWalk.mono _ _ _ _ _)
      | (with_reducible exact spec_meCells.mono _ _)
      | (with_reducible exact LeO.refl _)
      | (with_reducible exact LeO.none _)
      | (with_reducible refine LeO.ite ?_ ?_)
      | (with_reducible refine LeO.bind ?_ (fun _ => ?_))
      | exact spec_doNext.mono _ _ _ _
      | exact spec_doOfCell.mono _ _ _
      | exact spec_doWalk.mono _ _ _ _ _
      | exact spec_meCells.mono _ _
      | exact LeO.none _
      | refine LeO.ite ?_ ?_
      | refine LeO.bind ?_ (fun _ => ?_)
set_option maxHeartbeats 8000000 in
set_option maxRecDepth 100000 in
theorem spec_doPartner.calls (k : Nat) (a0 : Int) (A1 : Option Addr) (c1 : Nat) (l1 : List Int) (a2 : Int) (r : List Int) (w : World) (hr1 : Kd.C (Kd.int .i64) w A1 l1.length l1) (hc1 : l1.length ≤ c1) (h : spec_doPartner.f k a0 l1 a2 = some r) :
    Calls Try.prog 28 #[.int .i64 a0, .slice A1 l1.length c1, .int .i64 a2] w fun e w' => ∃ v0_ : Value, e = .returned (v0_) ∧ Kd.R (Kd.int .i64) 3 w' w.heap.size (fun _ => True) v0_ r ∧ Below w.heap.size w w' := by
  have HR1 := Aside0.mk hr1; have HC1 := Aside0.mk hc1; clear hr1 hc1; have HB := Aside0.mk (Below.refl w.heap.size w); have H : ((spec_meCells.f k a0).bind fun t240 => (if 0 ≤ a2 then (if a2 < (t240.length : Int) then ((spec_doOfCell.f k l1 (rd_L1 t240 a2)).bind fun t244 => (if 0 < (t244.length : Int) then ((spec_doNext.f k t240 (rd_L1 t244 0) a2).bind fun t248 => ((spec_doWalk.f k t240 l1 (rd_L1 t244 0) t248).bind fun bt249 => (some bt249.1))) else (none))) else (none)) else (none))) = some r := h; clear h; replace H := Option.bind_eq_some_iff.mp H; obtain ⟨t240, A40, H⟩ := H; replace H : (if 0 ≤ a2 then (if a2 < (t240.length : Int) then ((spec_doOfCell.f k l1 (rd_L1 t240 a2)).bind fun t244 => (if 0 < (t244.length : Int) then ((spec_doNext.f k t240 (rd_L1 t244 0) a2).bind fun t248 => ((spec_doWalk.f k t240 l1 (rd_L1 t244 0) t248).bind fun bt249 => (some bt249.1))) else (none))) else (none)) else (none)) = some r := H; have A4 := Aside0.mk A40; clear A40
  by_cases c5 : 0 ≤ a2
  · rw [if_pos c5] at H
    have c5b0 : decide (0 ≤ a2) = true := decide_eq_true c5; clear c5
    by_cases c6 : a2 < (t240.length : Int)
    · rw [if_pos c6] at H
      have c6b0 : decide (a2 < (t240.length : Int)) = true := decide_eq_true c6; clear c6; replace H := Option.bind_eq_some_iff.mp H; obtain ⟨t244, A70, H⟩ := H; replace H : (if 0 < (t244.length : Int) then ((spec_doNext.f k t240 (rd_L1 t244 0) a2).bind fun t248 => ((spec_doWalk.f k t240 l1 (rd_L1 t244 0) t248).bind fun bt249 => (some bt249.1))) else (none)) = some r := H; have A7 := Aside0.mk A70; clear A70
      by_cases c8 : 0 < (t244.length : Int)
      · rw [if_pos c8] at H
        have c8b0 : decide (0 < (t244.length : Int)) = true := decide_eq_true c8; have c8b1 : decide (0 < t244.length) = true := decide_eq_true (by omega); clear c8; replace H := Option.bind_eq_some_iff.mp H; obtain ⟨t248, A90, H⟩ := H; replace H : ((spec_doWalk.f k t240 l1 (rd_L1 t244 0) t248).bind fun bt249 => (some bt249.1)) = some r := H; have A9 := Aside0.mk A90; clear A90; replace H := Option.bind_eq_some_iff.mp H; obtain ⟨⟨t249, t252⟩, A100, H⟩ := H; replace H : (some t249) = some r := H; have A10 := Aside0.mk A100; clear A100; obtain rfl := Option.some.inj H
        go_enter Try.func28, Try.ntmps28
        go_wp2_with (first | ((with_reducible refine gate_callee (f := 24) rfl ?_); refine goesL_ (some 12) rfl rfl Try.func24 (by kernel_rfl) rfl #[.int .i64 a0] rfl TA ?_; (with_reducible refine (spec_meCells.calls k a0 t240 _ A4.out).mono ?_); rintro e w11 ⟨v241, rfl, ho0, hb⟩; refine ⟨_, rfl, ?_⟩; have n0_ := Aside0.mk (Kd.S_lower ho0 (below_size BB)); have n1_ := Aside0.mk (below_step BB hb); clear HB; have HO242 := n0_; have HB := n1_; clear n0_ n1_; (try clear hb); (try clear hb2); (try clear hk); (try clear hi); (try clear ho0); obtain ⟨Ao12, co12, eo12⟩ := Kd.S_slice HO242.out; subst eo12; have p243 : 0 ≤ (a2 : Int) := of_decide_eq_true AS; have q243 : a2 < (t240.length : Int) := of_decide_eq_true AS; obtain ⟨ad243, A243_0, c243_0, e243, hx243_0, hl243_0, hi243_0⟩ := at_L1 (Kd.S_reads' HO242.out).2.2 a2 p243 q243; cases e243; obtain ⟨ce243, hce243, hMe243, hcc243⟩ := Kd.S_get HO242.out [] a2 p243 (by first | exact q243 | exact of_decide_eq_true AS | (have e_ := (Kd.S_reads' HO242.out).1; omega)); obtain ⟨ve243_0, rfl, ge243_0⟩ := hMe243; have hv243_0 := hcc243 0 _ rfl; rw [Nat.add_zero, show ((Kd.slice 3 (Kd.int .i64))).sz = 1 from rfl, Nat.mul_one] at hv243_0; replace hv243_0 := Option.some.inj (hv243_0.symm.trans hx243_0); rw [hv243_0] at ge243_0; have HL243_0 := Aside0.mk (show Kd.R (Kd.int .i64) 3 _ _ _ _ (rd_L1 t240 a2) from ge243_0); clear hv243_0 ge243_0; clear hcc243 hce243; have HR243_0 := Aside0.mk hi243_0; have HC243_0 := Aside0.mk hl243_0; clear hi243_0 hl243_0; replace p243 := eq_true p243; replace q243 := eq_true q243) | ((with_reducible refine gate_callee (f := 29) rfl ?_); refine goesL_ (some 18) rfl rfl Try.func29 (by kernel_rfl) rfl #[.slice A1 l1.length c1, .slice A243_0 (rd_L1 t240 a2).length c243_0] rfl TA ?_; (with_reducible refine (spec_doOfCell.calls k _ _ l1 _ _ (rd_L1 t240 a2) t244 _ ?side1 ?side2 ?side3 ?side4 A7.out).mono ?_); (case side1 => repeat (first | exact (Kd.C_below HR1.out HB.out) | (with_reducible refine Kd.C_drewN ?_ _) | (with_reducible refine Kd.C_drew ?_) | (with_reducible refine Kd.C_alloc ?_ _))); (case side2 => exact HC1.out); (case side3 => repeat (first | exact (by repeat (first | (with_reducible exact HR243_0.out) | (with_reducible refine Kd.C_drewN ?_ _) | (with_reducible refine Kd.C_drew ?_) | (with_reducible refine Kd.C_alloc ?_ _) | exact HR243_0.out)) | (with_reducible refine Kd.C_drewN ?_ _) | (with_reducible refine Kd.C_drew ?_) | (with_reducible refine Kd.C_alloc ?_ _))); (case side4 => exact HC243_0.out); rintro e w13 ⟨v245, rfl, ho0, hb⟩; refine ⟨_, rfl, ?_⟩; have n0_ := Aside0.mk (Kd.S_elder' (KS HO242) (Kd.S_base ho0) hb); have n1_ := Aside0.mk (Kd.R_below (KR HL243_0) hb); have n2_ := Aside0.mk (Kd.S_lower (Kd.S_new' (Kd.S_new' ho0 (Kd.S_lt (KS HO242))) (Kd.R_lt (KR HL243_0))) (below_size BB)); have n3_ := Aside0.mk (Kd.C_below (by repeat (first | (with_reducible exact HR243_0.out) | (with_reducible refine Kd.C_drewN ?_ _) | (with_reducible refine Kd.C_drew ?_) | (with_reducible refine Kd.C_alloc ?_ _) | exact HR243_0.out)) hb); have n4_ := Aside0.mk (below_step BB hb); clear HO242; clear HL243_0; clear HR243_0; clear HB; have HO242 := n0_; have HL243_0 := n1_; have HO246 := n2_; have HR243_0 := n3_; have HB := n4_; clear n0_ n1_ n2_ n3_ n4_; (try clear hb); (try clear hb2); (try clear hk); (try clear hi); (try clear ho0); obtain ⟨Ao14, co14, eo14⟩ := Kd.S_slice HO246.out; subst eo14; have p247 : 0 ≤ (0 : Int) := (by omega); have q247 : 0 < (t244.length : Int) := of_decide_eq_true AS; obtain ⟨ad247, A247_0, c247_0, e247, hx247_0, hl247_0, hi247_0⟩ := at_L1 (Kd.S_reads' HO246.out).2.2 0 p247 q247; cases e247; obtain ⟨ce247, hce247, hMe247, hcc247⟩ := Kd.S_get HO246.out [] 0 p247 (by first | exact q247 | exact of_decide_eq_true AS | (have e_ := (Kd.S_reads' HO246.out).1; omega)); obtain ⟨ve247_0, rfl, ge247_0⟩ := hMe247; have hv247_0 := hcc247 0 _ rfl; rw [Nat.add_zero, show ((Kd.slice 3 (Kd.int .i64))).sz = 1 from rfl, Nat.mul_one] at hv247_0; replace hv247_0 := Option.some.inj (hv247_0.symm.trans hx247_0); rw [hv247_0] at ge247_0; have HL247_0 := Aside0.mk (show Kd.R (Kd.int .i64) 3 _ _ _ _ (rd_L1 t244 0) from ge247_0); clear hv247_0 ge247_0; clear hcc247 hce247; have qi247 : (0 < t244.length) = True := eq_true (by omega); (try rw [show ((0 : Int)).toNat = 0 from rfl] at hx247_0); (try rw [Addr.add_zero'] at hx247_0); have HR247_0 := Aside0.mk hi247_0; have HC247_0 := Aside0.mk hl247_0; clear hi247_0 hl247_0; replace p247 := eq_true p247; replace q247 := eq_true q247) | ((with_reducible refine gate_callee (f := 61) rfl ?_); refine goesL_ (some 28) rfl rfl Try.func61 (by kernel_rfl) rfl #[.slice (some ad243) t240.length co12, .slice A247_0 (rd_L1 t244 0).length c247_0, .int .i64 a2] rfl TA ?_; (with_reducible refine (spec_doNext.calls k _ _ t240 _ _ (rd_L1 t244 0) a2 t248 _ ?side1 ?side2 ?side3 ?side4 A9.out).mono ?_); (case side1 => repeat (first | exact (Kd.S_reads' HO242.out).2.2 | (with_reducible refine Kd.C_drewN ?_ _) | (with_reducible refine Kd.C_drew ?_) | (with_reducible refine Kd.C_alloc ?_ _))); (case side2 => exact (Kd.S_reads' HO242.out).2.1); (case side3 => repeat (first | exact (by repeat (first | (with_reducible exact HR247_0.out) | (with_reducible refine Kd.C_drewN ?_ _) | (with_reducible refine Kd.C_drew ?_) | (with_reducible refine Kd.C_alloc ?_ _) | exact HR247_0.out)) | (with_reducible refine Kd.C_drewN ?_ _) | (with_reducible refine Kd.C_drew ?_) | (with_reducible refine Kd.C_alloc ?_ _))); (case side4 => exact HC247_0.out); rintro e w15 ⟨rfl, hb⟩; refine ⟨_, rfl, ?_⟩; have n0_ := Aside0.mk (Kd.S_below (KS HO242) hb); have n1_ := Aside0.mk (Kd.R_below (KR HL243_0) hb); have n2_ := Aside0.mk (Kd.S_below (KS HO246) hb); have n3_ := Aside0.mk (Kd.R_below (KR HL247_0) hb); have n4_ := Aside0.mk (Kd.C_below (by repeat (first | (with_reducible exact HR243_0.out) | (with_reducible refine Kd.C_drewN ?_ _) | (with_reducible refine Kd.C_drew ?_) | (with_reducible refine Kd.C_alloc ?_ _) | exact HR243_0.out)) hb); have n5_ := Aside0.mk (Kd.C_below (by repeat (first | (with_reducible exact HR247_0.out) | (with_reducible refine Kd.C_drewN ?_ _) | (with_reducible refine Kd.C_drew ?_) | (with_reducible refine Kd.C_alloc ?_ _) | exact HR247_0.out)) hb); have n6_ := Aside0.mk (below_step BB hb); clear HO242; clear HL243_0; clear HO246; clear HL247_0; clear HR243_0; clear HR247_0; clear HB; have HO242 := n0_; have HL243_0 := n1_; have HO246 := n2_; have HL247_0 := n3_; have HR243_0 := n4_; have HR247_0 := n5_; have HB := n6_; clear n0_ n1_ n2_ n3_ n4_ n5_ n6_; (try clear hb); (try clear hb2); (try clear hk); (try clear hi)) | ((with_reducible refine gate_callee (f := 59) rfl ?_); refine goesL_ (some 29) rfl rfl Try.func59 (by kernel_rfl) rfl #[.slice (some ad243) t240.length co12, .slice A1 l1.length c1, .slice A247_0 (rd_L1 t244 0).length c247_0, .int .i64 t248] rfl TA ?_; (with_reducible refine (spec_doWalk.calls k _ _ t240 _ _ l1 (fun k_ => some k_ = (.slice A247_0 (rd_L1 t244 0).length c247_0 : Value).ownBlock) _ _ (rd_L1 t244 0) t248 t249 t252 _ ?side1 ?side2 ?side3 ?side4 ?side5 A10.out).mono ?_); (case side1 => repeat (first | exact (Kd.S_reads' HO242.out).2.2 | (with_reducible refine Kd.C_drewN ?_ _) | (with_reducible refine Kd.C_drew ?_) | (with_reducible refine Kd.C_alloc ?_ _))); (case side2 => exact (Kd.S_reads' HO242.out).2.1); (case side3 => repeat (first | exact (Kd.C_below HR1.out HB.out) | (with_reducible refine Kd.C_drewN ?_ _) | (with_reducible refine Kd.C_drew ?_) | (with_reducible refine Kd.C_alloc ?_ _))); (case side4 => exact HC1.out); (case side5 => exact Kd.R_V (Kd.R_tight rfl (HL247_0.out))); rintro e w16 ⟨v250, v253, rfl, ho0, ho1, hb⟩; refine ⟨_, rfl, ?_⟩; have n0_ := Aside0.mk (Kd.S_elder' (KS HO242) (Kd.R_base ho0) hb); have n1_ := Aside0.mk (Kd.R_elder' (KR HL243_0) (Kd.R_base ho0) hb); have n2_ := Aside0.mk (Kd.S_elder' (KS HO246) (Kd.R_base ho0) hb); have n3_ := Aside0.mk (Kd.R_elder' (KR HL247_0) (Kd.R_base ho0) hb); have n4_ := Aside0.mk (Kd.R_lower (Kd.R_new' (Kd.R_new' (Kd.R_mono (ok' := fun k_ => True) ho0 (fun _ hk_ => trivial)) (Kd.R_lt (KR HL243_0))) (Kd.R_lt (KR HL247_0))) (below_size BB)); have n5_ := Aside0.mk (Kd.V_lower (Kd.V_mono (ok' := fun k_ => some k_ ≠ (v250 : Value).ownBlock ∧ some k_ ≠ (.slice (some ad243) t240.length co12 : Value).ownBlock ∧ some k_ ≠ (.slice (some ad247) t244.length co14 : Value).ownBlock) ho1 (fun k_ hk_ => ⟨hk_.2, Or.elim hk_.1 (fun hs_ => ((HL247_0.out).1 k_ hs_.symm).1.1.2) (fun hn_ => (Kd.fresh' (Kd.S_lt (KS HO242)) k_ hn_)), Or.elim hk_.1 (fun hs_ => ((HL247_0.out).1 k_ hs_.symm).2) (fun hn_ => (Kd.fresh' (Kd.S_lt (KS HO246)) k_ hn_))⟩)) (below_size BB)); have n6_ := Aside0.mk (Kd.C_below (by repeat (first | (with_reducible exact HR243_0.out) | (with_reducible refine Kd.C_drewN ?_ _) | (with_reducible refine Kd.C_drew ?_) | (with_reducible refine Kd.C_alloc ?_ _) | exact HR243_0.out)) hb); have n7_ := Aside0.mk (Kd.C_below (by repeat (first | (with_reducible exact HR247_0.out) | (with_reducible refine Kd.C_drewN ?_ _) | (with_reducible refine Kd.C_drew ?_) | (with_reducible refine Kd.C_alloc ?_ _) | exact HR247_0.out)) hb); have n8_ := Aside0.mk (below_step BB hb); clear HO242; clear HL243_0; clear HO246; clear HL247_0; clear HR243_0; clear HR247_0; clear HB; have HO242 := n0_; have HL243_0 := n1_; have HO246 := n2_; have HL247_0 := n3_; have HO251 := n4_; have HO254 := n5_; have HR243_0 := n6_; have HR247_0 := n7_; have HB := n8_; clear n0_ n1_ n2_ n3_ n4_ n5_ n6_ n7_ n8_; (try clear hb); (try clear hb2); (try clear hk); (try clear hi); (try clear ho0); (try clear ho1)))
        go_ret
        exact ⟨_, by first | rfl | (simp [errW_none, errW_some] <;> rfl) | (simp [*, errW_none, errW_some] <;> rfl), by (with_reducible repeat (first | apply Kd.R_alloc | apply Kd.R_drewN | apply Kd.R_drew)); exact Kd.R_mono HO251.out (fun _ hk => trivial), BB⟩
      · rw [if_neg c8] at H
        exact absurd H (by simp)
    · rw [if_neg c6] at H
      exact absurd H (by simp)
  · rw [if_neg c5] at H
    exact absurd H (by simp)

end Go.Proofs.Ytgpplbaloajgdab.PFnExactClosedRooms
