-- Written by a program of this session (wip/tools/pp.sh) out of the translation; Lean checks it.
import Derived.Test.YtgpplbaloajgdaaPFnExactPartnerOfFullx0
import Derived.Test.YtgpplbaloajgdaaPFnExactPartnerOfFullx1
import Derived.Test.YtgpplbaloajgdaaPFnExactPartnerOfFullx2
import Derived.Test.YtgpplbaloajgdaaPFnExactPartnerOfFullx3
namespace Go.Proofs.Ytgpplbaloajgdaa.PFnExactPartnerOfFull
open Go.RowKit Go.Proofs.YtgpplbaloajgdaaOwn Go.Proofs.YtgpplbaloajgdaaW.PrintWords Go.Proofs.YtgpplbaloajgdaaW.PrintLast Go.Proofs.YtgpplbaloajgdaaW.PrintMore
attribute [local go_sem] max2_int min2_int max_two min_two max_three min_three max_four min_four   -- for this text's walks alone
set_option linter.unusedVariables false
set_option linter.unusedSimpArgs false

/-! ### spec_doWalk: function 44 -/
mutual
def spec_doWalk.l0 : Nat → List (List Int) → List Int → List Int → Int → List Int → Option (List Int × List Int)
  | 0, _, _, _, _, _ => none
  | k + 1, x0, x1, x2, x3, x10 => if x3 ≥ 0 then (spec_doWalk.j1 k x0 x1 x2 x3 x10 (decide ((x10.length : Int) ≤ (x0.length : Int)))) else (spec_doWalk.j1 k x0 x1 x2 x3 x10 false)
def spec_doWalk.j1 : Nat → List (List Int) → List Int → List Int → Int → List Int → Bool → Option (List Int × List Int)
  | 0, _, _, _, _, _, _ => none
  | k + 1, x0, x1, x2, x3, x10, x21 => if x21 = true then (if x10.length < 17592186044416 then ((some (x10 ++ [x3] : List Int)).bind fun y172 => (if 0 ≤ x3 then (if x3 < (x0.length : Int) then ((spec_doFull.f k x1 (rd_L1 x0 x3)).bind fun t176 => (if t176 = true then (some (y172, x2)) else ((spec_doOfCell.f k x1 (rd_L1 x0 x3)).bind fun t178 => (spec_doWalk.l1 k x0 x1 x2 x3 y172 t178 (t178.length : Int) 0)))) else (none)) else (none))) else (none)) else (some (x10, x2))
def spec_doWalk.l1 : Nat → List (List Int) → List Int → List Int → Int → List Int → List (List Int) → Int → Int → Option (List Int × List Int)
  | 0, _, _, _, _, _, _, _, _ => none
  | k + 1, x0, x1, x2, x3, x10, x37, x38, x39 => if x39 < x38 then (if 0 ≤ x39 then (if x39 < (x37.length : Int) then ((spec_l1Same.f k (rd_L1 x37 x39) x2).bind fun t182 => (if t182 = true then (spec_doWalk.l1 k x0 x1 x2 x3 x10 x37 x38 (wrap64 (x39 + 1))) else ((spec_doNext.f k x0 (rd_L1 x37 x39) x3).bind fun t183 => (spec_doWalk.l0 k x0 x1 (rd_L1 x37 x39) t183 x10)))) else (none)) else (none)) else ((spec_doNext.f k x0 x2 x3).bind fun t184 => (spec_doWalk.l0 k x0 x1 x2 t184 x10))
end
def spec_doWalk.f (k : Nat) (l0 : List (List Int)) (l1 : List Int) (l2 : List Int) (a3 : Int) : Option (List Int × List Int) := spec_doWalk.l0 k l0 l1 l2 a3 ([] : List Int)
theorem spec_doWalk.mono_l : ∀ k, (∀ y0 y1 y2 y3 y4, LeO (spec_doWalk.l0 k y0 y1 y2 y3 y4) (spec_doWalk.l0 (k + 1) y0 y1 y2 y3 y4)) ∧ (∀ y0 y1 y2 y3 y4 y5, LeO (spec_doWalk.j1 k y0 y1 y2 y3 y4 y5) (spec_doWalk.j1 (k + 1) y0 y1 y2 y3 y4 y5)) ∧ (∀ y0 y1 y2 y3 y4 y5 y6 y7, LeO (spec_doWalk.l1 k y0 y1 y2 y3 y4 y5 y6 y7) (spec_doWalk.l1 (k + 1) y0 y1 y2 y3 y4 y5 y6 y7))
  | 0 => ⟨fun _ _ _ _ _ r h => by simp [spec_doWalk.l0] at h, fun _ _ _ _ _ _ r h => by simp [spec_doWalk.j1] at h, fun _ _ _ _ _ _ _ _ r h => by simp [spec_doWalk.l1] at h⟩
  | k + 1 => by
    obtain ⟨ih0, ih1, ih2⟩ := spec_doWalk.mono_l k
    refine ⟨?_, ?_, ?_⟩
    · intro y0 y1 y2 y3 y4
      unfold spec_doWalk.l0
      repeat' first
      | (with_reducible exact ih0 _ _ _ _ _)
      | (with_reducible exact ih1 _ _ _ _ _ _)
      | (with_reducible exact ih2 _ _ _ _ _ _ _ _)
      | (with_reducible exact spec_doFull.mono _ _ _)
      | (with_reducible exact spec_doNext.mono _ _ _ _)
      | (with_reducible exact spec_doOfCell.mono _ _ _)
      | (with_reducible exact spec_l1Same.mono _ _ _)
      | (with_reducible exact LeO.refl _)
      | (with_reducible exact LeO.none _)
      | (with_reducible refine LeO.ite ?_ ?_)
      | (with_reducible refine LeO.bind ?_ (fun _ => ?_))
      | exact ih0 _ _ _ _ _
      | exact ih1 _ _ _ _ _ _
      | exact ih2 _ _ _ _ _ _ _ _
      | exact spec_doFull.mono _ _ _
      | exact spec_doNext.mono _ _ _ _
      | exact spec_doOfCell.mono _ _ _
      | exact spec_l1Same.mono _ _ _
      | exact LeO.none _
      | refine LeO.ite ?_ ?_
      | refine LeO.bind ?_ (fun _ => ?_)
    · intro y0 y1 y2 y3 y4 y5
      unfold spec_doWalk.j1
      repeat' first
      | (with_reducible exact ih0 _ _ _ _ _)
      | (with_reducible exact ih1 _ _ _ _ _ _)
      | (with_reducible exact ih2 _ _ _ _ _ _ _ _)
      | (with_reducible exact spec_doFull.mono _ _ _)
      | (with_reducible exact spec_doNext.mono _ _ _ _)
      | (with_reducible exact spec_doOfCell.mono _ _ _)
      | (with_reducible exact spec_l1Same.mono _ _ _)
      | (with_reducible exact LeO.refl _)
      | (with_reducible exact LeO.none _)
      | (with_reducible refine LeO.ite ?_ ?_)
      | (with_reducible refine LeO.bind ?_ (fun _ => ?_))
      | exact ih0 _ _ _ _ _
      | exact ih1 _ _ _ _ _ _
      | exact ih2 _ _ _ _ _ _ _ _
      | exact spec_doFull.mono _ _ _
      | exact spec_doNext.mono _ _ _ _
      | exact spec_doOfCell.mono _ _ _
      | exact spec_l1Same.mono _ _ _
      | exact LeO.none _
      | refine LeO.ite ?_ ?_
      | refine LeO.bind ?_ (fun _ => ?_)
    · intro y0 y1 y2 y3 y4 y5 y6 y7
      unfold spec_doWalk.l1
      repeat' first
      | (with_reducible exact ih0 _ _ _ _ _)
      | (with_reducible exact ih1 _ _ _ _ _ _)
      | (with_reducible exact ih2 _ _ _ _ _ _ _ _)
      | (with_reducible exact spec_doFull.mono _ _ _)
      | (with_reducible exact spec_doNext.mono _ _ _ _)
      | (with_reducible exact spec_doOfCell.mono _ _ _)
      | (with_reducible exact spec_l1Same.mono _ _ _)
      | (with_reducible exact LeO.refl _)
      | (with_reducible exact LeO.none _)
      | (with_reducible refine LeO.ite ?_ ?_)
      | (with_reducible refine LeO.bind ?_ (fun _ => ?_))
      | exact ih0 _ _ _ _ _
      | exact ih1 _ _ _ _ _ _
      | exact ih2 _ _ _ _ _ _ _ _
      | exact spec_doFull.mono _ _ _
      | exact spec_doNext.mono _ _ _ _
      | exact spec_doOfCell.mono _ _ _
      | exact spec_l1Same.mono _ _ _
      | exact LeO.none _
      | refine LeO.ite ?_ ?_
      | refine LeO.bind ?_ (fun _ => ?_)
theorem spec_doWalk.mono : ∀ a0 a1 a2 a3 k, LeO (spec_doWalk.f k a0 a1 a2 a3) (spec_doWalk.f (k + 1) a0 a1 a2 a3) := by
  intro a0 a1 a2 a3 k
  obtain ⟨ih0, ih1, ih2⟩ := spec_doWalk.mono_l k
  unfold spec_doWalk.f
  repeat' first
      | (with_reducible exact ih0 _ _ _ _ _)
      | (with_reducible exact ih1 _ _ _ _ _ _)
      | (with_reducible exact ih2 _ _ _ _ _ _ _ _)
      | (with_reducible exact spec_doFull.mono _ _ _)
      | (with_reducible exact spec_doNext.mono _ _ _ _)
      | (with_reducible exact spec_doOfCell.mono _ _ _)
      | (with_reducible exact spec_l1Same.mono _ _ _)
      | (with_reducible exact LeO.refl _)
      | (with_reducible exact LeO.none _)
      | (with_reducible refine LeO.ite ?_ ?_)
      | (with_reducible refine LeO.bind ?_ (fun _ => ?_))
      | exact ih0 _ _ _ _ _
      | exact ih1 _ _ _ _ _ _
      | exact ih2 _ _ _ _ _ _ _ _
      | exact spec_doFull.mono _ _ _
      | exact spec_doNext.mono _ _ _ _
      | exact spec_doOfCell.mono _ _ _
      | exact spec_l1Same.mono _ _ _
      | exact LeO.none _
      | refine LeO.ite ?_ ?_
      | refine LeO.bind ?_ (fun _ => ?_)
set_option maxHeartbeats 8000000 in
set_option maxRecDepth 100000 in
theorem spec_doWalk.calls (k : Nat) (A0 : Option Addr) (c0 : Nat) (l0 : List (List Int)) (A1 : Option Addr) (c1 : Nat) (l1 : List Int) (P2_ : Nat → Prop) (A2 : Option Addr) (c2 : Nat) (l2 : List Int) (a3 : Int) (r1 : List Int) (r2 : List Int) (w : World) (hr0 : Kd.C (Kd.slice 3 (Kd.int .i64)) w A0 l0.length l0) (hc0 : l0.length ≤ c0) (hr1 : Kd.C (Kd.int .i64) w A1 l1.length l1) (hc1 : l1.length ≤ c1) (hs2 : Kd.V (Kd.int .i64) 3 w w.heap.size (fun k_ => P2_ k_) (.slice A2 l2.length c2) l2) (h : spec_doWalk.f k l0 l1 l2 a3 = some (r1, r2)) :
    Calls Try.prog 44 #[.slice A0 l0.length c0, .slice A1 l1.length c1, .slice A2 l2.length c2, .int .i64 a3] w fun e w' => ∃ v0_ v1_ : Value, e = .returned (.tuple #[v0_, v1_]) ∧ Kd.R (Kd.int .i64) 3 w' w.heap.size (fun k_ => (w.heap.size ≤ k_)) v0_ r1 ∧ Kd.V (Kd.int .i64) 3 w' w.heap.size (fun k_ => (P2_ k_ ∨ w.heap.size ≤ k_) ∧ some k_ ≠ (v0_ : Value).ownBlock) v1_ r2 ∧ Below w.heap.size w w' := by
  have HR0 := Aside0.mk hr0
  have HC0 := Aside0.mk hc0
  clear hr0 hc0
  have HR1 := Aside0.mk hr1
  have HC1 := Aside0.mk hc1
  clear hr1 hc1
  have HO2 := Aside0.mk (show Kd.V (Kd.int .i64) 3 w w.heap.size (fun k_ => (P2_ k_ ∨ w.heap.size ≤ k_)) (.slice A2 l2.length c2) l2 from Kd.V_mono hs2 (fun k_ hk => .inl hk))
  have HB := Aside0.mk (Below.refl w.heap.size w)
  have H : (spec_doWalk.l0 k l0 l1 l2 a3 ([] : List Int)) = some (r1, r2) := h
  clear h
  have H' := Aside0.mk H
  clear H
  go_enter Try.func44, Try.ntmps44
  go_wp2
  go_loopg [2, 3, 10] k (fun kq v2 v3 v10 w' => ∃ (x2_1 : List Int) (x3_1 : Int) (x10_1 : List Int), v3 = .int .i64 x3_1 ∧ Aside0 (spec_doWalk.l0 kq l0 l1 x2_1 x3_1 x10_1 = some (r1, r2)) ∧ Aside0 (kq ≤ k) ∧ Aside0 (Kd.V (Kd.int .i64) 3 w' w.heap.size (fun k_ => (P2_ k_ ∨ w.heap.size ≤ k_) ∧ some k_ ≠ (v10 : Value).ownBlock) v2 x2_1) ∧ Aside0 (Kd.R (Kd.int .i64) 3 w' w.heap.size (fun k_ => (w.heap.size ≤ k_)) v10 x10_1) ∧ Aside0 (Below w.heap.size w w'))
  case atStart => exact ⟨(l2), (a3), (([] : List Int)), RF, H', ⟨Nat.le_refl _⟩, ⟨by (with_reducible repeat (first | apply Kd.V_alloc | apply Kd.V_drewN | apply Kd.V_drew)); exact Kd.V_mono HO2.out (fun _ hk => ⟨hk, (by simp [Value.ownBlock])⟩)⟩, ⟨by first | exact Kd.R_nil _ _ _ _ _ | exact Kd.N_nil _ _ _ _ _ | exact Kd.V_nil _ _ _ _ _ | exact Kd.Q_nil _ _ _ _ _ | exact Kd.S_nil _ _ _ _ _⟩, ⟨BB⟩⟩
  case round =>
    clear H'
    try clear c1
    try clear c2
    try clear p2
    try clear c4
    obtain ⟨x2_1, x3_1, x10_1, rfl, HA, HK1, HO_2, HO_10, HB⟩ := hrel
    cases gk with
    | zero => exact absurd HA.out (by simp [spec_doWalk.l0])
    | succ k1 =>
      have H := HA.out
      clear HA
      simp only [spec_doWalk.l0] at H
      have HC5 := Aside0.mk H
      clear H
      go_upto_region 2 with (fail)
      go_cut [21] (fun v21 wc => ∃ (kq : Nat) (x21_4 : Bool), v21 = .bool x21_4 ∧ Aside0 (spec_doWalk.j1 kq l0 l1 x2_1 x3_1 x10_1 x21_4 = some (r1, r2)) ∧ Aside0 (kq ≤ k1) ∧ Aside0 (Kd.V (Kd.int .i64) 3 wc w.heap.size (fun k_ => (P2_ k_ ∨ w.heap.size ≤ k_) ∧ some k_ ≠ (u10 : Value).ownBlock) u2 x2_1) ∧ Aside0 (Kd.R (Kd.int .i64) 3 wc w.heap.size (fun k_ => (w.heap.size ≤ k_)) u10 x10_1) ∧ Aside0 (Below w.heap.size w wc))
      case first =>
        have H := HC5.out
        clear HC5
        by_cases c6 : x3_1 ≥ 0
        · rw [if_pos c6] at H
          have c6b0 : decide (0 ≤ x3_1) = true := decide_eq_true c6
          clear c6
          (first | rw [c6b0] | (simp only [i64_w, i32_w]; rw [c6b0]) | skip)
          have H' := Aside0.mk H
          clear H
          obtain ⟨Ao7, co7, eo7⟩ := Kd.R_slice HO_10.out
          subst eo7
          go_wp2
          go_meet
          case rel => exact ⟨_, (decide ((x10_1.length : Int) ≤ (l0.length : Int))), RF, H', ⟨by have := HK1.out; first | omega | exact Nat.le_refl _⟩, ⟨by (with_reducible repeat (first | apply Kd.V_alloc | apply Kd.V_drewN | apply Kd.V_drew)); exact HO_2.out⟩, ⟨KR HO_10⟩, ⟨BB⟩⟩
        · rw [if_neg c6] at H
          have c6b0 : decide (0 ≤ x3_1) = false := decide_eq_false c6
          clear c6
          (first | rw [c6b0] | (simp only [i64_w, i32_w]; rw [c6b0]) | skip)
          have H' := Aside0.mk H
          clear H
          go_wp2
          go_meet
          case rel => exact ⟨_, (false), RF, H', ⟨by have := HK1.out; first | omega | exact Nat.le_refl _⟩, ⟨by (with_reducible repeat (first | apply Kd.V_alloc | apply Kd.V_drewN | apply Kd.V_drew)); exact HO_2.out⟩, ⟨KR HO_10⟩, ⟨BB⟩⟩
      case rest =>
        clear HC5
        try clear c1
        try clear c2
        try clear p2
        try clear c4
        try clear c6
        try clear c6b0
        try clear p6
        try clear p2
        obtain ⟨kq, x21_4, rfl, HA, HJ4, HO_2, HO_10, HB⟩ := hcut
        cases kq with
        | zero => exact absurd HA.out (by simp [spec_doWalk.j1])
        | succ kj4 =>
          have H := HA.out
          clear HA
          simp only [spec_doWalk.j1] at H
          by_cases c8 : x21_4 = true
          · subst c8
            have H1 : (if x10_1.length < 17592186044416 then ((some (x10_1 ++ [x3_1] : List Int)).bind fun y172 => (if 0 ≤ x3_1 then (if x3_1 < (l0.length : Int) then ((spec_doFull.f kj4 l1 (rd_L1 l0 x3_1)).bind fun t176 => (if t176 = true then (some (y172, x2_1)) else ((spec_doOfCell.f kj4 l1 (rd_L1 l0 x3_1)).bind fun t178 => (spec_doWalk.l1 kj4 l0 l1 x2_1 x3_1 y172 t178 (t178.length : Int) 0)))) else (none)) else (none))) else (none)) = some (r1, r2) := by rw [if_pos rfl] at H; exact H
            clear H
            have H := H1
            clear H1
            by_cases c9 : x10_1.length < 17592186044416
            · rw [if_pos c9] at H
              have LMc9 := Aside0.mk c9
              clear c9
              obtain ⟨y172, hy172⟩ : ∃ y_ : List Int, y_ = (x10_1 ++ [x3_1]) := ⟨_, rfl⟩
              replace H : (if 0 ≤ x3_1 then (if x3_1 < (l0.length : Int) then ((spec_doFull.f kj4 l1 (rd_L1 l0 x3_1)).bind fun t176 => (if t176 = true then (some (y172, x2_1)) else ((spec_doOfCell.f kj4 l1 (rd_L1 l0 x3_1)).bind fun t178 => (spec_doWalk.l1 kj4 l0 l1 x2_1 x3_1 y172 t178 (t178.length : Int) 0)))) else (none)) else (none)) = some (r1, r2) := by first | (rw [hy172]; with_reducible exact H) | (have H2_ := (Option.bind_some _ _).symm.trans H; rw [hy172]; with_reducible exact H2_) | (have H2_ := (Option.bind_some _ _).symm.trans H; with_reducible exact H2_) | with_reducible exact H | (rw [hy172]; exact H) | exact H
              have Ny172 := Aside0.mk hy172
              clear hy172
              by_cases c10 : 0 ≤ x3_1
              · rw [if_pos c10] at H
                have c10b0 : decide (0 ≤ x3_1) = true := decide_eq_true c10
                clear c10
                by_cases c11 : x3_1 < (l0.length : Int)
                · rw [if_pos c11] at H
                  have c11b0 : decide (x3_1 < (l0.length : Int)) = true := decide_eq_true c11
                  clear c11
                  replace H := Option.bind_eq_some_iff.mp H
                  obtain ⟨t176, A120, H⟩ := H
                  replace H : (if t176 = true then (some (y172, x2_1)) else ((spec_doOfCell.f kj4 l1 (rd_L1 l0 x3_1)).bind fun t178 => (spec_doWalk.l1 kj4 l0 l1 x2_1 x3_1 y172 t178 (t178.length : Int) 0))) = some (r1, r2) := H
                  have A12 := Aside0.mk A120
                  clear A120
                  by_cases c13 : t176 = true
                  · subst c13
                    have H1 : (some (y172, x2_1)) = some (r1, r2) := by rw [if_pos rfl] at H; exact H
                    clear H
                    have H := H1
                    clear H1
                    simp only [Option.some.injEq, Prod.mk.injEq] at H
                    obtain ⟨rfl, rfl⟩ := H
                    go_wp2_with (first | ((with_reducible refine gate_builtin (b := .append) (xs := #[.tmp 22, .tmp 24]) rfl ?_); (try (refine gate_guard (by rfl) ?_; dsimp only)); at_builtin; refine Kd.R_append (Kd.int .i64) (w0 := w) w.heap.size rfl (.tmp 22) (.tmp 24) 22 3 (.int .i64 0) 8 rfl Try.underlying22 info3 rfl (by decide) (by omega) u10 x10_1 x3_1 [.int .i64 x3_1] (fun k_ => (w.heap.size ≤ k_)) (fun _ => False) rfl rfl ?aP (fun _ hk => hk.elim) ?aF ?aO ?aB ?aS ?aL ?_; (case aP => exact rfl); (case aB => exact BB); (case aF => exact (fun k_ hk => (Nat.le_trans (below_size BB) hk))); (case aO => exact (KR HO_10)); (case aS => exact (below_size BB)); (case aL => have := LMc9.out; omega); intro v173 w14 ho hb hg hat; rw [← Ny172.out] at ho; have n0_ := Aside0.mk (Kd.V_afterv (ok := (fun k_ => (P2_ k_ ∨ w.heap.size ≤ k_))) (by (with_reducible repeat (first | apply Kd.V_alloc | apply Kd.V_drewN | apply Kd.V_drew)); exact HO_2.out) hg hat); have n1_ := Aside0.mk (hb); have n2_ := Aside0.mk (ho); clear HO_2; clear HB; clear HO_10; have HO_2 := n0_; have HB := n1_; have HO174 := n2_; clear n0_ n1_ n2_; clear ho hb hg hat; have p175 : 0 ≤ (x3_1 : Int) := of_decide_eq_true AS; have q175 : x3_1 < (l0.length : Int) := of_decide_eq_true AS; obtain ⟨ad175, A175_0, c175_0, e175, hx175_0, hl175_0, hi175_0⟩ := at_L1 HR0.out x3_1 p175 q175; cases e175; replace hx175_0 := (HB.out.cell (World.block_lt_of_cell? w _ hx175_0)).trans hx175_0; have HR175_0 := Aside0.mk hi175_0; have HC175_0 := Aside0.mk hl175_0; clear hi175_0 hl175_0; replace p175 := eq_true p175; replace q175 := eq_true q175) | ((with_reducible refine gate_callee (f := 23) rfl ?_); refine goesL_ (some 31) rfl rfl Try.func23 (by kernel_rfl) rfl #[.slice A1 l1.length c1, .slice A175_0 (rd_L1 l0 x3_1).length c175_0] rfl TA ?_; (with_reducible refine (spec_doFull.calls kj4 _ _ l1 _ _ (rd_L1 l0 x3_1) true _ ?side1 ?side2 ?side3 ?side4 A12.out).mono ?_); (case side1 => repeat (first | exact (Kd.C_below HR1.out HB.out) | (with_reducible refine Kd.C_alloc ?_ _) | (with_reducible refine Kd.C_drewN ?_ _) | (with_reducible refine Kd.C_drew ?_))); (case side2 => exact HC1.out); (case side3 => repeat (first | exact (Kd.C_below HR175_0.out HB.out) | (with_reducible refine Kd.C_alloc ?_ _) | (with_reducible refine Kd.C_drewN ?_ _) | (with_reducible refine Kd.C_drew ?_))); (case side4 => exact HC175_0.out); rintro e w' ⟨rfl, ⟨nd, rfl⟩⟩; refine ⟨_, rfl, ?_⟩))
                    go_ret2
                    exact ⟨_, _, by first | rfl | (simp [errW_none, errW_some] <;> rfl) | (simp [*, errW_none, errW_some] <;> rfl), KR HO174, by (with_reducible repeat (first | apply Kd.V_alloc | apply Kd.V_drewN | apply Kd.V_drew)); exact HO_2.out, BB⟩
                  · replace c13 := Bool.eq_false_iff.mpr c13
                    subst c13
                    have H1 : ((spec_doOfCell.f kj4 l1 (rd_L1 l0 x3_1)).bind fun t178 => (spec_doWalk.l1 kj4 l0 l1 x2_1 x3_1 y172 t178 (t178.length : Int) 0)) = some (r1, r2) := by rw [if_neg (show ¬ (false = true) by decide)] at H; exact H
                    clear H
                    have H := H1
                    clear H1
                    replace H := Option.bind_eq_some_iff.mp H
                    obtain ⟨t178, A150, H⟩ := H
                    replace H : (spec_doWalk.l1 kj4 l0 l1 x2_1 x3_1 y172 t178 (t178.length : Int) 0) = some (r1, r2) := H
                    have A15 := Aside0.mk A150
                    clear A150
                    have H' := Aside0.mk H
                    clear H
                    go_wp2_with (first | ((with_reducible refine gate_builtin (b := .append) (xs := #[.tmp 22, .tmp 24]) rfl ?_); (try (refine gate_guard (by rfl) ?_; dsimp only)); at_builtin; refine Kd.R_append (Kd.int .i64) (w0 := w) w.heap.size rfl (.tmp 22) (.tmp 24) 22 3 (.int .i64 0) 8 rfl Try.underlying22 info3 rfl (by decide) (by omega) u10 x10_1 x3_1 [.int .i64 x3_1] (fun k_ => (w.heap.size ≤ k_)) (fun _ => False) rfl rfl ?aP (fun _ hk => hk.elim) ?aF ?aO ?aB ?aS ?aL ?_; (case aP => exact rfl); (case aB => exact BB); (case aF => exact (fun k_ hk => (Nat.le_trans (below_size BB) hk))); (case aO => exact (KR HO_10)); (case aS => exact (below_size BB)); (case aL => have := LMc9.out; omega); intro v173 w16 ho hb hg hat; rw [← Ny172.out] at ho; have n0_ := Aside0.mk (Kd.V_afterv (ok := (fun k_ => (P2_ k_ ∨ w.heap.size ≤ k_))) (by (with_reducible repeat (first | apply Kd.V_alloc | apply Kd.V_drewN | apply Kd.V_drew)); exact HO_2.out) hg hat); have n1_ := Aside0.mk (hb); have n2_ := Aside0.mk (ho); clear HO_2; clear HB; clear HO_10; have HO_2 := n0_; have HB := n1_; have HO174 := n2_; clear n0_ n1_ n2_; clear ho hb hg hat; have p175 : 0 ≤ (x3_1 : Int) := of_decide_eq_true AS; have q175 : x3_1 < (l0.length : Int) := of_decide_eq_true AS; obtain ⟨ad175, A175_0, c175_0, e175, hx175_0, hl175_0, hi175_0⟩ := at_L1 HR0.out x3_1 p175 q175; cases e175; replace hx175_0 := (HB.out.cell (World.block_lt_of_cell? w _ hx175_0)).trans hx175_0; have HR175_0 := Aside0.mk hi175_0; have HC175_0 := Aside0.mk hl175_0; clear hi175_0 hl175_0; replace p175 := eq_true p175; replace q175 := eq_true q175) | ((with_reducible refine gate_callee (f := 23) rfl ?_); refine goesL_ (some 31) rfl rfl Try.func23 (by kernel_rfl) rfl #[.slice A1 l1.length c1, .slice A175_0 (rd_L1 l0 x3_1).length c175_0] rfl TA ?_; (with_reducible refine (spec_doFull.calls kj4 _ _ l1 _ _ (rd_L1 l0 x3_1) false _ ?side1 ?side2 ?side3 ?side4 A12.out).mono ?_); (case side1 => repeat (first | exact (Kd.C_below HR1.out HB.out) | (with_reducible refine Kd.C_alloc ?_ _) | (with_reducible refine Kd.C_drewN ?_ _) | (with_reducible refine Kd.C_drew ?_))); (case side2 => exact HC1.out); (case side3 => repeat (first | exact (Kd.C_below HR175_0.out HB.out) | (with_reducible refine Kd.C_alloc ?_ _) | (with_reducible refine Kd.C_drewN ?_ _) | (with_reducible refine Kd.C_drew ?_))); (case side4 => exact HC175_0.out); rintro e w' ⟨rfl, ⟨nd, rfl⟩⟩; refine ⟨_, rfl, ?_⟩; have p177 : 0 ≤ (x3_1 : Int) := of_decide_eq_true AS; have q177 : x3_1 < (l0.length : Int) := of_decide_eq_true AS; obtain ⟨ad177, A177_0, c177_0, e177, hx177_0, hl177_0, hi177_0⟩ := at_L1 HR0.out x3_1 p177 q177; obtain rfl : ad175 = ad177 := (by injection e177); replace hx177_0 := (HB.out.cell (World.block_lt_of_cell? w _ hx177_0)).trans hx177_0; have HR177_0 := Aside0.mk hi177_0; have HC177_0 := Aside0.mk hl177_0; clear hi177_0 hl177_0; replace p177 := eq_true p177; replace q177 := eq_true q177; have ea_ := Option.some.inj (hx175_0.symm.trans hx177_0); injection ea_ with ea_ en_ ec_; subst ea_; subst ec_; clear en_) | ((with_reducible refine gate_callee (f := 60) rfl ?_); refine goesL_ (some 37) rfl rfl Try.func60 (by kernel_rfl) rfl #[.slice A1 l1.length c1, .slice A175_0 (rd_L1 l0 x3_1).length c175_0] rfl TA ?_; (with_reducible refine (spec_doOfCell.calls kj4 _ _ l1 _ _ (rd_L1 l0 x3_1) t178 _ ?side1 ?side2 ?side3 ?side4 A15.out).mono ?_); (case side1 => repeat (first | exact (Kd.C_below HR1.out BB) | (with_reducible refine Kd.C_alloc ?_ _) | (with_reducible refine Kd.C_drewN ?_ _) | (with_reducible refine Kd.C_drew ?_))); (case side2 => exact HC1.out); (case side3 => repeat (first | exact (Kd.C_below HR177_0.out BB) | (with_reducible refine Kd.C_alloc ?_ _) | (with_reducible refine Kd.C_drewN ?_ _) | (with_reducible refine Kd.C_drew ?_))); (case side4 => exact HC177_0.out); rintro e w17 ⟨v179, rfl, ho0, hb⟩; refine ⟨_, rfl, ?_⟩; have n0_ := Aside0.mk (Kd.V_elder' (by (with_reducible repeat (first | apply Kd.V_alloc | apply Kd.V_drewN | apply Kd.V_drew)); exact HO_2.out) (Kd.S_base ho0) hb); have n1_ := Aside0.mk (Kd.R_below (KR HO174) hb); have n2_ := Aside0.mk (Kd.S_lower (Kd.S_new' (Kd.S_newM (M := fun k_ => (w.heap.size ≤ k_)) ho0 (below_size BB) (fun k_ h_ => h_)) (Kd.R_lt (KR HO174))) (below_size BB)); have n3_ := Aside0.mk (below_step BB hb); clear HO_2; clear HO174; clear HB; have HO_2 := n0_; have HO174 := n1_; have HO180 := n2_; have HB := n3_; clear n0_ n1_ n2_ n3_; (try clear hb); (try clear hb2); (try clear hk); (try clear hi); (try clear ho0); obtain ⟨Ao18, co18, eo18⟩ := Kd.S_slice HO180.out; subst eo18))
                    go_loopg [2, 39] kj4 (fun kq v2 v39 w' => ∃ (x2_3 : List Int) (x39_3 : Int), v39 = .int .i64 x39_3 ∧ Aside0 (spec_doWalk.l1 kq l0 l1 x2_3 x3_1 y172 t178 (t178.length : Int) x39_3 = some (r1, r2)) ∧ Aside0 (kq ≤ kj4) ∧ Aside0 (Kd.V (Kd.int .i64) 3 w' w.heap.size (fun k_ => (P2_ k_ ∨ w.heap.size ≤ k_) ∧ some k_ ≠ (v173 : Value).ownBlock ∧ some k_ ≠ ((.slice Ao18 t178.length co18) : Value).ownBlock) v2 x2_3) ∧ Aside0 (Kd.R (Kd.int .i64) 3 w' w.heap.size (fun k_ => (w.heap.size ≤ k_)) v173 y172) ∧ Aside0 (Kd.S (Kd.slice 3 (Kd.int .i64)) 22 w' w.heap.size (fun k_ => (w.heap.size ≤ k_) ∧ some k_ ≠ (v173 : Value).ownBlock) (.slice Ao18 t178.length co18) t178) ∧ Aside0 (Below w.heap.size w w'))
                    case atStart => exact ⟨(x2_1), (0), RF, H', ⟨Nat.le_refl _⟩, ⟨by (with_reducible repeat (first | apply Kd.V_alloc | apply Kd.V_drewN | apply Kd.V_drew)); exact Kd.V_mono HO_2.out (fun _ hk => ⟨hk.1.1, ⟨hk.1.2, hk.2⟩⟩)⟩, ⟨KR HO174⟩, ⟨by (with_reducible repeat (first | apply Kd.S_alloc | apply Kd.S_drewN | apply Kd.S_drew)); exact Kd.S_mono HO180.out (fun _ hk => ⟨hk.1.1, hk.2⟩)⟩, ⟨BB⟩⟩
                    case round =>
                      clear H'
                      try clear c1
                      try clear p1
                      try clear q1
                      try clear hx1
                      try clear c2
                      try clear p2
                      try clear c4
                      try clear c6
                      try clear c6b0
                      try clear p6
                      try clear c8
                      try clear c9
                      try clear c10
                      try clear c10b0
                      try clear c11
                      try clear c11b0
                      try clear c13
                      try clear c17
                      try clear p17
                      try clear q17
                      try clear hx17
                      try clear hx175_0
                      try clear hx177_0
                      try clear p175
                      try clear p177
                      try clear p2
                      try clear p6
                      try clear q175
                      try clear q177
                      obtain ⟨x2_3, x39_3, rfl, HA, HK3, HO_2, HO_10, HO_37, HB⟩ := hrel
                      cases gk with
                      | zero => exact absurd HA.out (by simp [spec_doWalk.l1])
                      | succ k3 =>
                        have H := HA.out
                        clear HA
                        simp only [spec_doWalk.l1] at H
                        by_cases c19 : x39_3 < (t178.length : Int)
                        · rw [if_pos c19] at H
                          have c19b0 : decide (x39_3 < (t178.length : Int)) = true := decide_eq_true c19
                          clear c19
                          by_cases c20 : 0 ≤ x39_3
                          · rw [if_pos c20] at H
                            have c20b0 : decide (0 ≤ x39_3) = true := decide_eq_true c20
                            clear c20
                            by_cases c21 : x39_3 < (t178.length : Int)
                            · rw [if_pos c21] at H
                              have c21b0 : decide (x39_3 < (t178.length : Int)) = true := decide_eq_true c21
                              clear c21
                              replace H := Option.bind_eq_some_iff.mp H
                              obtain ⟨t182, A220, H⟩ := H
                              replace H : (if t182 = true then (spec_doWalk.l1 k3 l0 l1 x2_3 x3_1 y172 t178 (t178.length : Int) (wrap64 (x39_3 + 1))) else ((spec_doNext.f k3 l0 (rd_L1 t178 x39_3) x3_1).bind fun t183 => (spec_doWalk.l0 k3 l0 l1 (rd_L1 t178 x39_3) t183 y172))) = some (r1, r2) := H
                              have A22 := Aside0.mk A220
                              clear A220
                              by_cases c23 : t182 = true
                              · subst c23
                                have H1 : (spec_doWalk.l1 k3 l0 l1 x2_3 x3_1 y172 t178 (t178.length : Int) (wrap64 (x39_3 + 1))) = some (r1, r2) := by rw [if_pos rfl] at H; exact H
                                clear H
                                have H := H1
                                clear H1
                                have H' := Aside0.mk H
                                clear H
                                have p181 : 0 ≤ (x39_3 : Int) := of_decide_eq_true AS
                                have q181 : x39_3 < (t178.length : Int) := of_decide_eq_true AS
                                obtain ⟨ad181, A181_0, c181_0, e181, hx181_0, hl181_0, hi181_0⟩ := at_L1 (Kd.S_reads' HO_37.out).2.2 x39_3 p181 q181
                                cases e181
                                obtain ⟨ce181, hce181, hMe181, hcc181⟩ := Kd.S_get HO_37.out [] x39_3 p181 (by first | exact q181 | exact of_decide_eq_true AS | (have e_ := (Kd.S_reads' HO_37.out).1; omega))
                                obtain ⟨ve181_0, rfl, ge181_0⟩ := hMe181
                                have hv181_0 := hcc181 0 _ rfl
                                rw [Nat.add_zero, show ((Kd.slice 3 (Kd.int .i64))).sz = 1 from rfl, Nat.mul_one] at hv181_0
                                replace hv181_0 := Option.some.inj (hv181_0.symm.trans hx181_0)
                                rw [hv181_0] at ge181_0
                                have HL181_0 := Aside0.mk (show Kd.R (Kd.int .i64) 3 _ _ _ _ (rd_L1 t178 x39_3) from ge181_0)
                                clear hv181_0 ge181_0
                                clear hcc181 hce181
                                have HR181_0 := Aside0.mk hi181_0
                                have HC181_0 := Aside0.mk hl181_0
                                clear hi181_0 hl181_0
                                replace p181 := eq_true p181
                                replace q181 := eq_true q181
                                obtain ⟨Ao24, co24, eo24⟩ := Kd.V_slice HO_2.out
                                subst eo24
                                go_wp2_with (first | ((with_reducible refine gate_callee (f := 29) rfl ?_); refine goesL_ (some 45) rfl rfl Try.func29 (by kernel_rfl) rfl #[.slice A181_0 (rd_L1 t178 x39_3).length c181_0, .slice Ao24 x2_3.length co24] rfl TA ?_; (with_reducible refine (spec_l1Same.calls k3 _ _ (rd_L1 t178 x39_3) _ _ x2_3 true _ ?side1 ?side2 ?side3 ?side4 A22.out).mono ?_); (case side1 => repeat (first | exact (by repeat (first | (with_reducible exact HR181_0.out) | (with_reducible refine Kd.C_alloc ?_ _) | (with_reducible refine Kd.C_drewN ?_ _) | (with_reducible refine Kd.C_drew ?_) | exact HR181_0.out)) | (with_reducible refine Kd.C_alloc ?_ _) | (with_reducible refine Kd.C_drewN ?_ _) | (with_reducible refine Kd.C_drew ?_))); (case side2 => exact HC181_0.out); (case side3 => repeat (first | exact (Kd.V_reads' HO_2.out).2.2 | (with_reducible refine Kd.C_alloc ?_ _) | (with_reducible refine Kd.C_drewN ?_ _) | (with_reducible refine Kd.C_drew ?_))); (case side4 => exact (Kd.V_reads' HO_2.out).2.1); rintro e w' ⟨rfl, ⟨nd, rfl⟩⟩; refine ⟨_, rfl, ?_⟩))
                                go_roundg k3
                                case measure => have := HK1.out; have := HJ4.out; have := HK3.out; omega
                                case rel => exact ⟨(x2_3), (wrap64 (x39_3 + 1)), RF, H', ⟨by have := HK1.out; have := HJ4.out; have := HK3.out; omega⟩, ⟨by (with_reducible repeat (first | apply Kd.V_alloc | apply Kd.V_drewN | apply Kd.V_drew)); exact HO_2.out⟩, ⟨KR HO_10⟩, ⟨KS HO_37⟩, ⟨BB⟩⟩
                              · replace c23 := Bool.eq_false_iff.mpr c23
                                subst c23
                                have H1 : ((spec_doNext.f k3 l0 (rd_L1 t178 x39_3) x3_1).bind fun t183 => (spec_doWalk.l0 k3 l0 l1 (rd_L1 t178 x39_3) t183 y172)) = some (r1, r2) := by rw [if_neg (show ¬ (false = true) by decide)] at H; exact H
                                clear H
                                have H := H1
                                clear H1
                                replace H := Option.bind_eq_some_iff.mp H
                                obtain ⟨t183, A250, H⟩ := H
                                replace H : (spec_doWalk.l0 k3 l0 l1 (rd_L1 t178 x39_3) t183 y172) = some (r1, r2) := H
                                have A25 := Aside0.mk A250
                                clear A250
                                have H' := Aside0.mk H
                                clear H
                                have p181 : 0 ≤ (x39_3 : Int) := of_decide_eq_true AS
                                have q181 : x39_3 < (t178.length : Int) := of_decide_eq_true AS
                                obtain ⟨ad181, A181_0, c181_0, e181, hx181_0, hl181_0, hi181_0⟩ := at_L1 (Kd.S_reads' HO_37.out).2.2 x39_3 p181 q181
                                cases e181
                                obtain ⟨ce181, hce181, hMe181, hcc181⟩ := Kd.S_get HO_37.out [] x39_3 p181 (by first | exact q181 | exact of_decide_eq_true AS | (have e_ := (Kd.S_reads' HO_37.out).1; omega))
                                obtain ⟨ve181_0, rfl, ge181_0⟩ := hMe181
                                have hv181_0 := hcc181 0 _ rfl
                                rw [Nat.add_zero, show ((Kd.slice 3 (Kd.int .i64))).sz = 1 from rfl, Nat.mul_one] at hv181_0
                                replace hv181_0 := Option.some.inj (hv181_0.symm.trans hx181_0)
                                rw [hv181_0] at ge181_0
                                have HL181_0 := Aside0.mk (show Kd.R (Kd.int .i64) 3 _ _ _ _ (rd_L1 t178 x39_3) from ge181_0)
                                clear hv181_0 ge181_0
                                clear hcc181 hce181
                                have HR181_0 := Aside0.mk hi181_0
                                have HC181_0 := Aside0.mk hl181_0
                                clear hi181_0 hl181_0
                                replace p181 := eq_true p181
                                replace q181 := eq_true q181
                                obtain ⟨Ao26, co26, eo26⟩ := Kd.V_slice HO_2.out
                                subst eo26
                                go_wp2_with (first | ((with_reducible refine gate_callee (f := 29) rfl ?_); refine goesL_ (some 45) rfl rfl Try.func29 (by kernel_rfl) rfl #[.slice A181_0 (rd_L1 t178 x39_3).length c181_0, .slice Ao26 x2_3.length co26] rfl TA ?_; (with_reducible refine (spec_l1Same.calls k3 _ _ (rd_L1 t178 x39_3) _ _ x2_3 false _ ?side1 ?side2 ?side3 ?side4 A22.out).mono ?_); (case side1 => repeat (first | exact (by repeat (first | (with_reducible exact HR181_0.out) | (with_reducible refine Kd.C_alloc ?_ _) | (with_reducible refine Kd.C_drewN ?_ _) | (with_reducible refine Kd.C_drew ?_) | exact HR181_0.out)) | (with_reducible refine Kd.C_alloc ?_ _) | (with_reducible refine Kd.C_drewN ?_ _) | (with_reducible refine Kd.C_drew ?_))); (case side2 => exact HC181_0.out); (case side3 => repeat (first | exact (Kd.V_reads' HO_2.out).2.2 | (with_reducible refine Kd.C_alloc ?_ _) | (with_reducible refine Kd.C_drewN ?_ _) | (with_reducible refine Kd.C_drew ?_))); (case side4 => exact (Kd.V_reads' HO_2.out).2.1); rintro e w' ⟨rfl, ⟨nd, rfl⟩⟩; refine ⟨_, rfl, ?_⟩) | ((with_reducible refine gate_callee (f := 45) rfl ?_); refine goesL_ (some 52) rfl rfl Try.func45 (by kernel_rfl) rfl #[.slice (some ad175) l0.length c0, .slice A181_0 (rd_L1 t178 x39_3).length c181_0, .int .i64 x3_1] rfl TA ?_; (with_reducible refine (spec_doNext.calls k3 _ _ l0 _ _ (rd_L1 t178 x39_3) x3_1 t183 _ ?side1 ?side2 ?side3 ?side4 A25.out).mono ?_); (case side1 => repeat (first | exact (Kd.C_below HR0.out BB) | (with_reducible refine Kd.C_alloc ?_ _) | (with_reducible refine Kd.C_drewN ?_ _) | (with_reducible refine Kd.C_drew ?_))); (case side2 => exact HC0.out); (case side3 => repeat (first | exact (by repeat (first | (with_reducible exact HR181_0.out) | (with_reducible refine Kd.C_alloc ?_ _) | (with_reducible refine Kd.C_drewN ?_ _) | (with_reducible refine Kd.C_drew ?_) | exact HR181_0.out)) | (with_reducible refine Kd.C_alloc ?_ _) | (with_reducible refine Kd.C_drewN ?_ _) | (with_reducible refine Kd.C_drew ?_))); (case side4 => exact HC181_0.out); rintro e w27 ⟨rfl, hb⟩; refine ⟨_, rfl, ?_⟩; have n0_ := Aside0.mk (Kd.V_below (by (with_reducible repeat (first | apply Kd.V_alloc | apply Kd.V_drewN | apply Kd.V_drew)); exact HO_2.out) hb); have n1_ := Aside0.mk (Kd.R_below (KR HO_10) hb); have n2_ := Aside0.mk (Kd.S_below (KS HO_37) hb); have n3_ := Aside0.mk (Kd.R_below (KR HL181_0) hb); have n4_ := Aside0.mk (Kd.C_below (by repeat (first | (with_reducible exact HR181_0.out) | (with_reducible refine Kd.C_alloc ?_ _) | (with_reducible refine Kd.C_drewN ?_ _) | (with_reducible refine Kd.C_drew ?_) | exact HR181_0.out)) hb); have n5_ := Aside0.mk (below_step BB hb); clear HO_2; clear HO_10; clear HO_37; clear HL181_0; clear HR181_0; clear HB; have HO_2 := n0_; have HO_10 := n1_; have HO_37 := n2_; have HL181_0 := n3_; have HR181_0 := n4_; have HB := n5_; clear n0_ n1_ n2_ n3_ n4_ n5_; (try clear hb); (try clear hb2); (try clear hk); (try clear hi)))
                                go_roundg k3
                                case measure => have := HK1.out; have := HJ4.out; have := HK3.out; omega
                                case rel => exact ⟨(rd_L1 t178 x39_3), (t183), (y172), RF, H', ⟨by have := HK1.out; have := HJ4.out; have := HK3.out; omega⟩, ⟨Kd.V_mono (Kd.R_V (KR HL181_0)) (fun k_ hk => by first | exact ⟨.inr hk.1.1, hk.1.2⟩ | exact .inr hk.1.1)⟩, ⟨KR HO_10⟩, ⟨BB⟩⟩
                            · rw [if_neg c21] at H
                              exact absurd H (by simp)
                          · rw [if_neg c20] at H
                            exact absurd H (by simp)
                        · rw [if_neg c19] at H
                          have c19b0 : decide (x39_3 < (t178.length : Int)) = false := decide_eq_false c19
                          clear c19
                          replace H := Option.bind_eq_some_iff.mp H
                          obtain ⟨t184, A280, H⟩ := H
                          replace H : (spec_doWalk.l0 k3 l0 l1 x2_3 t184 y172) = some (r1, r2) := H
                          have A28 := Aside0.mk A280
                          clear A280
                          have H' := Aside0.mk H
                          clear H
                          obtain ⟨Ao29, co29, eo29⟩ := Kd.V_slice HO_2.out
                          subst eo29
                          go_wp2_with (first | ((with_reducible refine gate_callee (f := 45) rfl ?_); refine goesL_ (some 52) rfl rfl Try.func45 (by kernel_rfl) rfl #[.slice (some ad175) l0.length c0, .slice Ao29 x2_3.length co29, .int .i64 x3_1] rfl TA ?_; (with_reducible refine (spec_doNext.calls k3 _ _ l0 _ _ x2_3 x3_1 t184 _ ?side1 ?side2 ?side3 ?side4 A28.out).mono ?_); (case side1 => repeat (first | exact (Kd.C_below HR0.out HB.out) | (with_reducible refine Kd.C_alloc ?_ _) | (with_reducible refine Kd.C_drewN ?_ _) | (with_reducible refine Kd.C_drew ?_))); (case side2 => exact HC0.out); (case side3 => repeat (first | exact (Kd.V_reads' HO_2.out).2.2 | (with_reducible refine Kd.C_alloc ?_ _) | (with_reducible refine Kd.C_drewN ?_ _) | (with_reducible refine Kd.C_drew ?_))); (case side4 => exact (Kd.V_reads' HO_2.out).2.1); rintro e w30 ⟨rfl, hb⟩; refine ⟨_, rfl, ?_⟩; have n0_ := Aside0.mk (Kd.V_below (by (with_reducible repeat (first | apply Kd.V_alloc | apply Kd.V_drewN | apply Kd.V_drew)); exact HO_2.out) hb); have n1_ := Aside0.mk (Kd.R_below (KR HO_10) hb); have n2_ := Aside0.mk (Kd.S_below (KS HO_37) hb); have n3_ := Aside0.mk (below_step BB hb); clear HO_2; clear HO_10; clear HO_37; clear HB; have HO_2 := n0_; have HO_10 := n1_; have HO_37 := n2_; have HB := n3_; clear n0_ n1_ n2_ n3_; (try clear hb); (try clear hb2); (try clear hk); (try clear hi)))
                          go_roundg k3
                          case measure => have := HK1.out; have := HJ4.out; have := HK3.out; omega
                          case rel => exact ⟨(x2_3), (t184), (y172), RF, H', ⟨by have := HK1.out; have := HJ4.out; have := HK3.out; omega⟩, ⟨by (with_reducible repeat (first | apply Kd.V_alloc | apply Kd.V_drewN | apply Kd.V_drew)); exact Kd.V_mono HO_2.out (fun _ hk => ⟨hk.1, hk.2.1⟩)⟩, ⟨KR HO_10⟩, ⟨BB⟩⟩
                · rw [if_neg c11] at H
                  exact absurd H (by simp)
              · rw [if_neg c10] at H
                exact absurd H (by simp)
            · rw [if_neg c9] at H
              exact absurd H (by simp)
          · replace c8 := Bool.eq_false_iff.mpr c8
            subst c8
            have H1 : (some (x10_1, x2_1)) = some (r1, r2) := by rw [if_neg (show ¬ (false = true) by decide)] at H; exact H
            clear H
            have H := H1
            clear H1
            simp only [Option.some.injEq, Prod.mk.injEq] at H
            obtain ⟨rfl, rfl⟩ := H
            go_wp2
            go_ret2
            exact ⟨_, _, by first | rfl | (simp [errW_none, errW_some] <;> rfl) | (simp [*, errW_none, errW_some] <;> rfl), KR HO_10, by (with_reducible repeat (first | apply Kd.V_alloc | apply Kd.V_drewN | apply Kd.V_drew)); exact HO_2.out, BB⟩

/-! ### spec_doPartner: function 34 -/
def spec_doPartner.f (k : Nat) (a0 : Int) (l1 : List Int) (a2 : Int) : Option (List Int) := (spec_meCells.f k a0).bind fun t185 => (if 0 ≤ a2 then (if a2 < (t185.length : Int) then ((spec_doOfCell.f k l1 (rd_L1 t185 a2)).bind fun t189 => (if 0 < (t189.length : Int) then ((spec_doNext.f k t185 (rd_L1 t189 0) a2).bind fun t193 => ((spec_doWalk.f k t185 l1 (rd_L1 t189 0) t193).bind fun bt194 => (some bt194.1))) else (none))) else (none)) else (none))
theorem spec_doPartner.mono : ∀ a0 a1 a2 k, LeO (spec_doPartner.f k a0 a1 a2) (spec_doPartner.f (k + 1) a0 a1 a2) := by
  intro a0 a1 a2 k
  unfold spec_doPartner.f
  repeat' first
      | (with_reducible exact spec_doNext.mono _ _ _ _)
      | (with_reducible exact spec_doOfCell.mono _ _ _)
      | (with_reducible exact spec_doWalk.mono _ _ _ _ _)
      | (with_reducible exact spec_meCells.mono _ _)
      | (with_reducible exact LeO.refl _)
      | (with_reducible exact LeO.none _)
      | (with_reducible refine LeO.ite ?_ ?_)
      | (with_reducible refine LeO.bind ?_ (fun _ => ?_))
      | exact spec_doNext.mono _ _ _ _
      | exact spec_doOfCell.mono _ _ _
      | exact spec_doWalk.mono _ _ _ _ _
      | exact spec_meCells.mono _ _
      | exact LeO.none _
      | refine LeO.ite ?_ ?_
      | refine LeO.bind ?_ (fun _ => ?_)
set_option maxHeartbeats 8000000 in
set_option maxRecDepth 100000 in
theorem spec_doPartner.calls (k : Nat) (a0 : Int) (A1 : Option Addr) (c1 : Nat) (l1 : List Int) (a2 : Int) (r : List Int) (w : World) (hr1 : Kd.C (Kd.int .i64) w A1 l1.length l1) (hc1 : l1.length ≤ c1) (h : spec_doPartner.f k a0 l1 a2 = some r) :
    Calls Try.prog 34 #[.int .i64 a0, .slice A1 l1.length c1, .int .i64 a2] w fun e w' => ∃ v0_ : Value, e = .returned (v0_) ∧ Kd.R (Kd.int .i64) 3 w' w.heap.size (fun _ => True) v0_ r ∧ Below w.heap.size w w' := by
  have HR1 := Aside0.mk hr1
  have HC1 := Aside0.mk hc1
  clear hr1 hc1
  have HB := Aside0.mk (Below.refl w.heap.size w)
  have H : ((spec_meCells.f k a0).bind fun t185 => (if 0 ≤ a2 then (if a2 < (t185.length : Int) then ((spec_doOfCell.f k l1 (rd_L1 t185 a2)).bind fun t189 => (if 0 < (t189.length : Int) then ((spec_doNext.f k t185 (rd_L1 t189 0) a2).bind fun t193 => ((spec_doWalk.f k t185 l1 (rd_L1 t189 0) t193).bind fun bt194 => (some bt194.1))) else (none))) else (none)) else (none))) = some r := h
  clear h
  replace H := Option.bind_eq_some_iff.mp H
  obtain ⟨t185, A40, H⟩ := H
  replace H : (if 0 ≤ a2 then (if a2 < (t185.length : Int) then ((spec_doOfCell.f k l1 (rd_L1 t185 a2)).bind fun t189 => (if 0 < (t189.length : Int) then ((spec_doNext.f k t185 (rd_L1 t189 0) a2).bind fun t193 => ((spec_doWalk.f k t185 l1 (rd_L1 t189 0) t193).bind fun bt194 => (some bt194.1))) else (none))) else (none)) else (none)) = some r := H
  have A4 := Aside0.mk A40
  clear A40
  by_cases c5 : 0 ≤ a2
  · rw [if_pos c5] at H
    have c5b0 : decide (0 ≤ a2) = true := decide_eq_true c5
    clear c5
    by_cases c6 : a2 < (t185.length : Int)
    · rw [if_pos c6] at H
      have c6b0 : decide (a2 < (t185.length : Int)) = true := decide_eq_true c6
      clear c6
      replace H := Option.bind_eq_some_iff.mp H
      obtain ⟨t189, A70, H⟩ := H
      replace H : (if 0 < (t189.length : Int) then ((spec_doNext.f k t185 (rd_L1 t189 0) a2).bind fun t193 => ((spec_doWalk.f k t185 l1 (rd_L1 t189 0) t193).bind fun bt194 => (some bt194.1))) else (none)) = some r := H
      have A7 := Aside0.mk A70
      clear A70
      by_cases c8 : 0 < (t189.length : Int)
      · rw [if_pos c8] at H
        have c8b0 : decide (0 < (t189.length : Int)) = true := decide_eq_true c8
        have c8b1 : decide (0 < t189.length) = true := decide_eq_true (by omega)
        clear c8
        replace H := Option.bind_eq_some_iff.mp H
        obtain ⟨t193, A90, H⟩ := H
        replace H : ((spec_doWalk.f k t185 l1 (rd_L1 t189 0) t193).bind fun bt194 => (some bt194.1)) = some r := H
        have A9 := Aside0.mk A90
        clear A90
        replace H := Option.bind_eq_some_iff.mp H
        obtain ⟨⟨t194, t197⟩, A100, H⟩ := H
        replace H : (some t194) = some r := H
        have A10 := Aside0.mk A100
        clear A100
        obtain rfl := Option.some.inj H
        go_enter Try.func34, Try.ntmps34
        go_wp2_with (first | ((with_reducible refine gate_callee (f := 20) rfl ?_); refine goesL_ (some 12) rfl rfl Try.func20 (by kernel_rfl) rfl #[.int .i64 a0] rfl TA ?_; (with_reducible refine (spec_meCells.calls k a0 t185 _ A4.out).mono ?_); rintro e w11 ⟨v186, rfl, ho0, hb⟩; refine ⟨_, rfl, ?_⟩; have n0_ := Aside0.mk (Kd.S_lower ho0 (below_size BB)); have n1_ := Aside0.mk (below_step BB hb); clear HB; have HO187 := n0_; have HB := n1_; clear n0_ n1_; (try clear hb); (try clear hb2); (try clear hk); (try clear hi); (try clear ho0); obtain ⟨Ao12, co12, eo12⟩ := Kd.S_slice HO187.out; subst eo12; have p188 : 0 ≤ (a2 : Int) := of_decide_eq_true AS; have q188 : a2 < (t185.length : Int) := of_decide_eq_true AS; obtain ⟨ad188, A188_0, c188_0, e188, hx188_0, hl188_0, hi188_0⟩ := at_L1 (Kd.S_reads' HO187.out).2.2 a2 p188 q188; cases e188; obtain ⟨ce188, hce188, hMe188, hcc188⟩ := Kd.S_get HO187.out [] a2 p188 (by first | exact q188 | exact of_decide_eq_true AS | (have e_ := (Kd.S_reads' HO187.out).1; omega)); obtain ⟨ve188_0, rfl, ge188_0⟩ := hMe188; have hv188_0 := hcc188 0 _ rfl; rw [Nat.add_zero, show ((Kd.slice 3 (Kd.int .i64))).sz = 1 from rfl, Nat.mul_one] at hv188_0; replace hv188_0 := Option.some.inj (hv188_0.symm.trans hx188_0); rw [hv188_0] at ge188_0; have HL188_0 := Aside0.mk (show Kd.R (Kd.int .i64) 3 _ _ _ _ (rd_L1 t185 a2) from ge188_0); clear hv188_0 ge188_0; clear hcc188 hce188; have HR188_0 := Aside0.mk hi188_0; have HC188_0 := Aside0.mk hl188_0; clear hi188_0 hl188_0; replace p188 := eq_true p188; replace q188 := eq_true q188) | ((with_reducible refine gate_callee (f := 60) rfl ?_); refine goesL_ (some 18) rfl rfl Try.func60 (by kernel_rfl) rfl #[.slice A1 l1.length c1, .slice A188_0 (rd_L1 t185 a2).length c188_0] rfl TA ?_; (with_reducible refine (spec_doOfCell.calls k _ _ l1 _ _ (rd_L1 t185 a2) t189 _ ?side1 ?side2 ?side3 ?side4 A7.out).mono ?_); (case side1 => repeat (first | exact (Kd.C_below HR1.out HB.out) | (with_reducible refine Kd.C_alloc ?_ _) | (with_reducible refine Kd.C_drewN ?_ _) | (with_reducible refine Kd.C_drew ?_))); (case side2 => exact HC1.out); (case side3 => repeat (first | exact (by repeat (first | (with_reducible exact HR188_0.out) | (with_reducible refine Kd.C_alloc ?_ _) | (with_reducible refine Kd.C_drewN ?_ _) | (with_reducible refine Kd.C_drew ?_) | exact HR188_0.out)) | (with_reducible refine Kd.C_alloc ?_ _) | (with_reducible refine Kd.C_drewN ?_ _) | (with_reducible refine Kd.C_drew ?_))); (case side4 => exact HC188_0.out); rintro e w13 ⟨v190, rfl, ho0, hb⟩; refine ⟨_, rfl, ?_⟩; have n0_ := Aside0.mk (Kd.S_elder' (KS HO187) (Kd.S_base ho0) hb); have n1_ := Aside0.mk (Kd.R_below (KR HL188_0) hb); have n2_ := Aside0.mk (Kd.S_lower (Kd.S_new' (Kd.S_new' ho0 (Kd.S_lt (KS HO187))) (Kd.R_lt (KR HL188_0))) (below_size BB)); have n3_ := Aside0.mk (Kd.C_below (by repeat (first | (with_reducible exact HR188_0.out) | (with_reducible refine Kd.C_alloc ?_ _) | (with_reducible refine Kd.C_drewN ?_ _) | (with_reducible refine Kd.C_drew ?_) | exact HR188_0.out)) hb); have n4_ := Aside0.mk (below_step BB hb); clear HO187; clear HL188_0; clear HR188_0; clear HB; have HO187 := n0_; have HL188_0 := n1_; have HO191 := n2_; have HR188_0 := n3_; have HB := n4_; clear n0_ n1_ n2_ n3_ n4_; (try clear hb); (try clear hb2); (try clear hk); (try clear hi); (try clear ho0); obtain ⟨Ao14, co14, eo14⟩ := Kd.S_slice HO191.out; subst eo14; have p192 : 0 ≤ (0 : Int) := (by omega); have q192 : 0 < (t189.length : Int) := of_decide_eq_true AS; obtain ⟨ad192, A192_0, c192_0, e192, hx192_0, hl192_0, hi192_0⟩ := at_L1 (Kd.S_reads' HO191.out).2.2 0 p192 q192; cases e192; obtain ⟨ce192, hce192, hMe192, hcc192⟩ := Kd.S_get HO191.out [] 0 p192 (by first | exact q192 | exact of_decide_eq_true AS | (have e_ := (Kd.S_reads' HO191.out).1; omega)); obtain ⟨ve192_0, rfl, ge192_0⟩ := hMe192; have hv192_0 := hcc192 0 _ rfl; rw [Nat.add_zero, show ((Kd.slice 3 (Kd.int .i64))).sz = 1 from rfl, Nat.mul_one] at hv192_0; replace hv192_0 := Option.some.inj (hv192_0.symm.trans hx192_0); rw [hv192_0] at ge192_0; have HL192_0 := Aside0.mk (show Kd.R (Kd.int .i64) 3 _ _ _ _ (rd_L1 t189 0) from ge192_0); clear hv192_0 ge192_0; clear hcc192 hce192; have qi192 : (0 < t189.length) = True := eq_true (by omega); (try rw [show ((0 : Int)).toNat = 0 from rfl] at hx192_0); (try rw [Addr.add_zero'] at hx192_0); have HR192_0 := Aside0.mk hi192_0; have HC192_0 := Aside0.mk hl192_0; clear hi192_0 hl192_0; replace p192 := eq_true p192; replace q192 := eq_true q192) | ((with_reducible refine gate_callee (f := 45) rfl ?_); refine goesL_ (some 28) rfl rfl Try.func45 (by kernel_rfl) rfl #[.slice (some ad188) t185.length co12, .slice A192_0 (rd_L1 t189 0).length c192_0, .int .i64 a2] rfl TA ?_; (with_reducible refine (spec_doNext.calls k _ _ t185 _ _ (rd_L1 t189 0) a2 t193 _ ?side1 ?side2 ?side3 ?side4 A9.out).mono ?_); (case side1 => repeat (first | exact (Kd.S_reads' HO187.out).2.2 | (with_reducible refine Kd.C_alloc ?_ _) | (with_reducible refine Kd.C_drewN ?_ _) | (with_reducible refine Kd.C_drew ?_))); (case side2 => exact (Kd.S_reads' HO187.out).2.1); (case side3 => repeat (first | exact (by repeat (first | (with_reducible exact HR192_0.out) | (with_reducible refine Kd.C_alloc ?_ _) | (with_reducible refine Kd.C_drewN ?_ _) | (with_reducible refine Kd.C_drew ?_) | exact HR192_0.out)) | (with_reducible refine Kd.C_alloc ?_ _) | (with_reducible refine Kd.C_drewN ?_ _) | (with_reducible refine Kd.C_drew ?_))); (case side4 => exact HC192_0.out); rintro e w15 ⟨rfl, hb⟩; refine ⟨_, rfl, ?_⟩; have n0_ := Aside0.mk (Kd.S_below (KS HO187) hb); have n1_ := Aside0.mk (Kd.R_below (KR HL188_0) hb); have n2_ := Aside0.mk (Kd.S_below (KS HO191) hb); have n3_ := Aside0.mk (Kd.R_below (KR HL192_0) hb); have n4_ := Aside0.mk (Kd.C_below (by repeat (first | (with_reducible exact HR188_0.out) | (with_reducible refine Kd.C_alloc ?_ _) | (with_reducible refine Kd.C_drewN ?_ _) | (with_reducible refine Kd.C_drew ?_) | exact HR188_0.out)) hb); have n5_ := Aside0.mk (Kd.C_below (by repeat (first | (with_reducible exact HR192_0.out) | (with_reducible refine Kd.C_alloc ?_ _) | (with_reducible refine Kd.C_drewN ?_ _) | (with_reducible refine Kd.C_drew ?_) | exact HR192_0.out)) hb); have n6_ := Aside0.mk (below_step BB hb); clear HO187; clear HL188_0; clear HO191; clear HL192_0; clear HR188_0; clear HR192_0; clear HB; have HO187 := n0_; have HL188_0 := n1_; have HO191 := n2_; have HL192_0 := n3_; have HR188_0 := n4_; have HR192_0 := n5_; have HB := n6_; clear n0_ n1_ n2_ n3_ n4_ n5_ n6_; (try clear hb); (try clear hb2); (try clear hk); (try clear hi)) | ((with_reducible refine gate_callee (f := 44) rfl ?_); refine goesL_ (some 29) rfl rfl Try.func44 (by kernel_rfl) rfl #[.slice (some ad188) t185.length co12, .slice A1 l1.length c1, .slice A192_0 (rd_L1 t189 0).length c192_0, .int .i64 t193] rfl TA ?_; (with_reducible refine (spec_doWalk.calls k _ _ t185 _ _ l1 (fun k_ => some k_ = (.slice A192_0 (rd_L1 t189 0).length c192_0 : Value).ownBlock) _ _ (rd_L1 t189 0) t193 t194 t197 _ ?side1 ?side2 ?side3 ?side4 ?side5 A10.out).mono ?_); (case side1 => repeat (first | exact (Kd.S_reads' HO187.out).2.2 | (with_reducible refine Kd.C_alloc ?_ _) | (with_reducible refine Kd.C_drewN ?_ _) | (with_reducible refine Kd.C_drew ?_))); (case side2 => exact (Kd.S_reads' HO187.out).2.1); (case side3 => repeat (first | exact (Kd.C_below HR1.out HB.out) | (with_reducible refine Kd.C_alloc ?_ _) | (with_reducible refine Kd.C_drewN ?_ _) | (with_reducible refine Kd.C_drew ?_))); (case side4 => exact HC1.out); (case side5 => exact Kd.R_V (Kd.R_tight rfl (HL192_0.out))); rintro e w16 ⟨v195, v198, rfl, ho0, ho1, hb⟩; refine ⟨_, rfl, ?_⟩; have n0_ := Aside0.mk (Kd.S_elder' (KS HO187) (Kd.R_base ho0) hb); have n1_ := Aside0.mk (Kd.R_elder' (KR HL188_0) (Kd.R_base ho0) hb); have n2_ := Aside0.mk (Kd.S_elder' (KS HO191) (Kd.R_base ho0) hb); have n3_ := Aside0.mk (Kd.R_elder' (KR HL192_0) (Kd.R_base ho0) hb); have n4_ := Aside0.mk (Kd.R_lower (Kd.R_new' (Kd.R_new' (Kd.R_mono (ok' := fun k_ => True) ho0 (fun _ hk_ => trivial)) (Kd.R_lt (KR HL188_0))) (Kd.R_lt (KR HL192_0))) (below_size BB)); have n5_ := Aside0.mk (Kd.V_lower (Kd.V_mono (ok' := fun k_ => some k_ ≠ (v195 : Value).ownBlock ∧ some k_ ≠ (.slice (some ad188) t185.length co12 : Value).ownBlock ∧ some k_ ≠ (.slice (some ad192) t189.length co14 : Value).ownBlock) ho1 (fun k_ hk_ => ⟨hk_.2, Or.elim hk_.1 (fun hs_ => ((HL192_0.out).1 k_ hs_.symm).1.1.2) (fun hn_ => (Kd.fresh' (Kd.S_lt (KS HO187)) k_ hn_)), Or.elim hk_.1 (fun hs_ => ((HL192_0.out).1 k_ hs_.symm).2) (fun hn_ => (Kd.fresh' (Kd.S_lt (KS HO191)) k_ hn_))⟩)) (below_size BB)); have n6_ := Aside0.mk (Kd.C_below (by repeat (first | (with_reducible exact HR188_0.out) | (with_reducible refine Kd.C_alloc ?_ _) | (with_reducible refine Kd.C_drewN ?_ _) | (with_reducible refine Kd.C_drew ?_) | exact HR188_0.out)) hb); have n7_ := Aside0.mk (Kd.C_below (by repeat (first | (with_reducible exact HR192_0.out) | (with_reducible refine Kd.C_alloc ?_ _) | (with_reducible refine Kd.C_drewN ?_ _) | (with_reducible refine Kd.C_drew ?_) | exact HR192_0.out)) hb); have n8_ := Aside0.mk (below_step BB hb); clear HO187; clear HL188_0; clear HO191; clear HL192_0; clear HR188_0; clear HR192_0; clear HB; have HO187 := n0_; have HL188_0 := n1_; have HO191 := n2_; have HL192_0 := n3_; have HO196 := n4_; have HO199 := n5_; have HR188_0 := n6_; have HR192_0 := n7_; have HB := n8_; clear n0_ n1_ n2_ n3_ n4_ n5_ n6_ n7_ n8_; (try clear hb); (try clear hb2); (try clear hk); (try clear hi); (try clear ho0); (try clear ho1)))
        go_ret
        exact ⟨_, by first | rfl | (simp [errW_none, errW_some] <;> rfl) | (simp [*, errW_none, errW_some] <;> rfl), by (with_reducible repeat (first | apply Kd.R_alloc | apply Kd.R_drewN | apply Kd.R_drew)); exact Kd.R_mono HO196.out (fun _ hk => trivial), BB⟩
      · rw [if_neg c8] at H
        exact absurd H (by simp)
    · rw [if_neg c6] at H
      exact absurd H (by simp)
  · rw [if_neg c5] at H
    exact absurd H (by simp)

end Go.Proofs.Ytgpplbaloajgdaa.PFnExactPartnerOfFull
