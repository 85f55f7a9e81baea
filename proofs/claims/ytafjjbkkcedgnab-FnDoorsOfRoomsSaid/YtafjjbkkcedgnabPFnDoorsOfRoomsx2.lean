-- Written by a program of this session (wip/tools/pp.sh) out of the translation; Lean checks it.
import Derived.Test.YtafjjbkkcedgnabPFnDoorsOfRoomsx0
import Derived.Test.YtafjjbkkcedgnabPFnDoorsOfRoomsx1
namespace Go.Proofs.Ytafjjbkkcedgnab.PFnDoorsOfRooms
open Go.RowKit Go.Proofs.YtafjjbkkcedgnabOwn Go.Proofs.YtafjjbkkcedgnabW.PrintWords Go.Proofs.YtafjjbkkcedgnabW.PrintLast Go.Proofs.YtafjjbkkcedgnabW.PrintMore
attribute [local go_sem] max2_int min2_int max_two min_two max_three min_three max_four min_four   -- for this text's walks alone
set_option linter.unusedVariables false
set_option maxHeartbeats 8000000
set_option maxRecDepth 100000
set_option linter.unusedSimpArgs false

/-! ### spec_l1Cur_sureLabels: function 106 -/
mutual
def spec_l1Cur_sureLabels.l0 : Nat → Int → List Int → Int → List Int → Int → Int → Option (List Int × Int × Int)
 | 0, _, _, _, _, _, _ => none
 | k + 1, x1, x5, x6, x1000, x1001, x1002 => (spec_meCount.f x1).bind fun t136 => (if x6 < t136 then ((spec_meAt.f k x1 x6).bind fun t137 => (spec_l1Cur_sureLabels.l1 k x1 x5 x6 ([] : List Int) t137 (t137.length : Int) 0 x1000 x1001 x1002)) else (some (x5, x1001, x1002)))
def spec_l1Cur_sureLabels.l1 : Nat → Int → List Int → Int → List Int → List Int → Int → Int → List Int → Int → Int → Option (List Int × Int × Int)
 | 0, _, _, _, _, _, _, _, _, _, _ => none
 | k + 1, x1, x5, x6, x7, x18, x19, x20, x1000, x1001, x1002 => if x20 < x19 then (if 0 ≤ x20 then (if x20 < (x18.length : Int) then (if (rd x18 x20) > 0 then (if x7.length < 17592186044416 then (spec_l1Cur_sureLabels.l1 k x1 x5 x6 (x7 ++ [x20]) x18 x19 (wrap64 (x20 + 1)) x1000 x1001 x1002) else (none)) else (spec_l1Cur_sureLabels.l1 k x1 x5 x6 x7 x18 x19 (wrap64 (x20 + 1)) x1000 x1001 x1002)) else (none)) else (none)) else ((spec_l1Cur_pick.f x1000 x1001 x1002 (x7.length : Int)).bind fun bt144 => (if 0 ≤ bt144.1 then (if bt144.1 < (x7.length : Int) then (if x5.length < 17592186044416 then (spec_l1Cur_sureLabels.l0 k x1 (x5 ++ [rd x7 bt144.1]) (wrap64 (x6 + 1)) x1000 bt144.2.1 bt144.2.2) else (none)) else (none)) else (none)))
end
def spec_l1Cur_sureLabels.f (k : Nat) (s0_0 : List Int) (s0_1 : Int) (s0_2 : Int) (a1 : Int) : Option (List Int × Int × Int) := spec_l1Cur_sureLabels.l0 k a1 ([] : List Int) 0 s0_0 s0_1 s0_2
theorem spec_l1Cur_sureLabels.mono_l : ∀ k, (∀ y0 y1 y2 y3 y4 y5, LeO (spec_l1Cur_sureLabels.l0 k y0 y1 y2 y3 y4 y5) (spec_l1Cur_sureLabels.l0 (k + 1) y0 y1 y2 y3 y4 y5)) ∧ (∀ y0 y1 y2 y3 y4 y5 y6 y7 y8 y9, LeO (spec_l1Cur_sureLabels.l1 k y0 y1 y2 y3 y4 y5 y6 y7 y8 y9) (spec_l1Cur_sureLabels.l1 (k + 1) y0 y1 y2 y3 y4 y5 y6 y7 y8 y9))
 | 0 => ⟨fun _ _ _ _ _ _ r h => by simp [spec_l1Cur_sureLabels.l0] at h, fun _ _ _ _ _ _ _ _ _ _ r h => by simp [spec_l1Cur_sureLabels.l1] at h⟩
 | k + 1 => by
  obtain ⟨ih0, ih1⟩ := spec_l1Cur_sureLabels.mono_l k
  refine ⟨?_, ?_⟩
  ·intro y0 y1 y2 y3 y4 y5
   unfold spec_l1Cur_sureLabels.l0
   repeat' first
   | with_reducible first | exact ih0 _ _ _ _ _ _ | exact ih1 _ _ _ _ _ _ _ _ _ _ | exact spec_meAt.mono _ _ _ | exact LeO.refl _ | exact LeO.none _ | refine LeO.ite ?_ ?_ | refine LeO.bind ?_ (fun _ => ?_)
   | exact LeO.none _ | refine LeO.ite ?_ ?_ | refine LeO.bind ?_ (fun _ => ?_)
  ·intro y0 y1 y2 y3 y4 y5 y6 y7 y8 y9
   unfold spec_l1Cur_sureLabels.l1
   repeat' first
   | with_reducible first | exact ih0 _ _ _ _ _ _ | exact ih1 _ _ _ _ _ _ _ _ _ _ | exact spec_meAt.mono _ _ _ | exact LeO.refl _ | exact LeO.none _ | refine LeO.ite ?_ ?_ | refine LeO.bind ?_ (fun _ => ?_)
   | exact LeO.none _ | refine LeO.ite ?_ ?_ | refine LeO.bind ?_ (fun _ => ?_)
theorem spec_l1Cur_sureLabels.mono : ∀ a0 a1 a2 a3 k, LeO (spec_l1Cur_sureLabels.f k a0 a1 a2 a3) (spec_l1Cur_sureLabels.f (k + 1) a0 a1 a2 a3) := by
 intro a0 a1 a2 a3 k
 obtain ⟨ih0, ih1⟩ := spec_l1Cur_sureLabels.mono_l k
 unfold spec_l1Cur_sureLabels.f
 repeat' first
   | with_reducible first | exact ih0 _ _ _ _ _ _ | exact ih1 _ _ _ _ _ _ _ _ _ _ | exact spec_meAt.mono _ _ _ | exact LeO.refl _ | exact LeO.none _ | refine LeO.ite ?_ ?_ | refine LeO.bind ?_ (fun _ => ?_)
   | exact LeO.none _ | refine LeO.ite ?_ ?_ | refine LeO.bind ?_ (fun _ => ?_)
theorem spec_l1Cur_sureLabels.calls (k : Nat) (g : Nat) (s0_0 : List Int) (s0_1 : Int) (s0_2 : Int) (a1 : Int) (r1 : List Int) (r2 : Int) (r3 : Int) (w0 w : World) (hI : IsS52 w0 w g s0_0 s0_1 s0_2) (hB : Below w0.heap.size w0 w) (h : spec_l1Cur_sureLabels.f k s0_0 s0_1 s0_2 a1 = some (r1, r2, r3)) :
  Calls Try.prog 106 #[.pointer (some ⟨g, 0, none⟩), .int .i64 a1] w fun e w' => ∃ v0_ : Value, e = .returned (v0_) ∧ Kd.R (Kd.int .i64) 3 w' w.heap.size (fun _ => True) v0_ r1 ∧ IsS52 w0 w' g s0_0 r2 r3 ∧ Below w0.heap.size w0 w' ∧ KeepBut w w' g none := by
 have HI0 := Aside0.mk hI
 have HK := Aside0.mk (KeepBut.refl w g none)
 have HL := Aside0.mk hB.size
 clear hI
 have HW0 := Aside0.mk hB.size
 have HB := Aside0.mk hB
 clear hB
 have H : (spec_l1Cur_sureLabels.l0 k a1 ([] : List Int) 0 s0_0 s0_1 s0_2) = some (r1, r2, r3) := h
 clear h
 have H' := Aside0.mk H
 clear H
 go_enter Try.func106, Try.ntmps106
 go_wp2
 go_loopg [5, 6] k (fun kq v5 v6 w' => ∃ (x5_1 : List Int) (x6_1 : Int) (x1001_1 : Int) (x1002_1 : Int), v6 = .int .i64 x6_1 ∧ Aside0 (spec_l1Cur_sureLabels.l0 kq a1 x5_1 x6_1 s0_0 x1001_1 x1002_1 = some (r1, r2, r3)) ∧ Aside0 (kq ≤ k) ∧ Aside0 (Kd.R (Kd.int .i64) 3 w' w.heap.size (fun _ => True) v5 x5_1) ∧ Aside0 (IsS52 w0 w' g s0_0 x1001_1 x1002_1) ∧ Aside0 (KeepBut w w' g none) ∧ Aside0 (Below w0.heap.size w0 w'))
 case atStart => exact ⟨(([] : List Int)), (0), (s0_1), (s0_2), RF, H', ⟨Nat.le_refl _⟩, ⟨by first | exact Kd.R_nil _ _ _ _ _ | exact Kd.N_nil _ _ _ _ _ | exact Kd.V_nil _ _ _ _ _ | exact Kd.Q_nil _ _ _ _ _ | exact Kd.S_nil _ _ _ _ _⟩, ⟨AHI⟩, ⟨AHK⟩, ⟨AHB⟩⟩
 case round =>
  clear H'
  try clear c1
  try clear p2
  obtain ⟨x5_1, x6_1, x1001_1, x1002_1, rfl, HA, HK1, HO_5, HI0, HK, HB⟩ := hrel
  cases gk with
  | zero => exact absurd HA.out (by simp [spec_l1Cur_sureLabels.l0])
  | succ k1 =>
   have H := HA.out
   clear HA
   simp only [spec_l1Cur_sureLabels.l0] at H
   obtain ⟨t136, A30, H⟩ := Option.bind_eq_some_iff.mp H
   have A3 := Aside0.mk A30
   clear A30
   by_cases c4 : x6_1 < t136
   ·rw [if_pos c4] at H
    have c4b0 : decide (x6_1 < t136) = true := decide_eq_true c4
    clear c4
    obtain ⟨t137, A50, H⟩ := Option.bind_eq_some_iff.mp H
    have A5 := Aside0.mk A50
    clear A50
    have H' := Aside0.mk H
    clear H
    go_wp2_with (first | ((with_reducible refine gate_callee (f := 78) rfl ?_); refine goesL_ (some 12) rfl rfl Try.func78 (by kernel_rfl) rfl #[.int .i64 a1] rfl TA ?_; (with_reducible refine (spec_meCount.calls a1 t136 _ A3.out).mono ?_); rintro e w' ⟨rfl, ⟨nd, rfl⟩⟩; refine ⟨_, rfl, ?_⟩) | ((with_reducible refine gate_callee (f := 85) rfl ?_); refine goesL_ (some 18) rfl rfl Try.func85 (by kernel_rfl) rfl #[.int .i64 a1, .int .i64 x6_1] rfl TA ?_; (with_reducible refine (spec_meAt.calls k1 a1 x6_1 t137 _ A5.out).mono ?_); rintro e w6 ⟨v138, rfl, ho0, hb⟩; refine ⟨_, rfl, ?_⟩; have n0_ := Aside0.mk (Kd.R_elder' (KR HO_5) (Kd.R_base ho0) hb); have n1_ := Aside0.mk (Kd.R_lower (Kd.R_new' ho0 (Kd.R_lt (KR HO_5))) (keep_size (w := w) (g := g) (row := none) AHK)); have n2_ := Aside0.mk (IsS52.below AHI hb); have n3_ := Aside0.mk (KeepBut.trans AHK (KeepBut.of_below hb g none) (.inl rfl)); have n4_ := Aside0.mk (below_step AHB hb); clear HO_5; clear HI0; clear HK; clear HB; have HO_5 := n0_; have HO139 := n1_; have HI0 := n2_; have HK := n3_; have HB := n4_; clear n0_ n1_ n2_ n3_ n4_; (try clear hb); (try clear hb2); (try clear hk); (try clear hi); (try clear ho0); obtain ⟨Ao7, co7, eo7⟩ := Kd.R_slice HO139.out; subst eo7))
    go_loopg [7, 20] k1 (fun kq v7 v20 w' => ∃ (x7_2 : List Int) (x20_2 : Int), v20 = .int .i64 x20_2 ∧ Aside0 (spec_l1Cur_sureLabels.l1 kq a1 x5_1 x6_1 x7_2 t137 (t137.length : Int) x20_2 s0_0 x1001_1 x1002_1 = some (r1, r2, r3)) ∧ Aside0 (kq ≤ k1) ∧ Aside0 (Kd.R (Kd.int .i64) 3 w' w.heap.size (fun k_ => some k_ ≠ (v7 : Value).ownBlock ∧ some k_ ≠ ((.slice Ao7 t137.length co7) : Value).ownBlock) u5 x5_1) ∧ Aside0 (Kd.R (Kd.int .i64) 3 w' w.heap.size (fun k_ => some k_ ≠ (u5 : Value).ownBlock ∧ some k_ ≠ ((.slice Ao7 t137.length co7) : Value).ownBlock) v7 x7_2) ∧ Aside0 (Kd.R (Kd.int .i64) 3 w' w.heap.size (fun k_ => some k_ ≠ (u5 : Value).ownBlock ∧ some k_ ≠ (v7 : Value).ownBlock) (.slice Ao7 t137.length co7) t137) ∧ Aside0 (IsS52 w0 w' g s0_0 x1001_1 x1002_1) ∧ Aside0 (KeepBut w w' g none) ∧ Aside0 (Below w0.heap.size w0 w'))
    case atStart => exact ⟨(([] : List Int)), (0), RF, H', ⟨Nat.le_refl _⟩, ⟨by (with_reducible repeat (first | apply Kd.R_alloc | apply Kd.R_drewN | apply Kd.R_drew)); exact Kd.R_mono HO_5.out (fun _ hk => ⟨(by simp [Value.ownBlock]), hk.2⟩)⟩, ⟨by first | exact Kd.R_nil _ _ _ _ _ | exact Kd.N_nil _ _ _ _ _ | exact Kd.V_nil _ _ _ _ _ | exact Kd.Q_nil _ _ _ _ _ | exact Kd.S_nil _ _ _ _ _⟩, ⟨by (with_reducible repeat (first | apply Kd.R_alloc | apply Kd.R_drewN | apply Kd.R_drew)); exact Kd.R_mono HO139.out (fun _ hk => ⟨hk.2, (by simp [Value.ownBlock])⟩)⟩, ⟨AHI⟩, ⟨AHK⟩, ⟨AHB⟩⟩
    case round =>
     clear H'
     try clear c1
     try clear p2
     try clear c4
     try clear c4b0
     try clear p6
     try clear c7
     try clear p2
     obtain ⟨x7_2, x20_2, rfl, HA, HK2, HO_5, HO_7, HO_18, HI0, HK, HB⟩ := hrel
     cases gk with
     | zero => exact absurd HA.out (by simp [spec_l1Cur_sureLabels.l1])
     | succ k2 =>
      have H := HA.out
      clear HA
      simp only [spec_l1Cur_sureLabels.l1] at H
      by_cases c8 : x20_2 < (t137.length : Int)
      ·rw [if_pos c8] at H
       have c8b0 : decide (x20_2 < (t137.length : Int)) = true := decide_eq_true c8
       clear c8
       by_cases c9 : 0 ≤ x20_2
       ·rw [if_pos c9] at H
        have c9b0 : decide (0 ≤ x20_2) = true := decide_eq_true c9
        clear c9
        by_cases c10 : x20_2 < (t137.length : Int)
        ·rw [if_pos c10] at H
         have c10b0 : decide (x20_2 < (t137.length : Int)) = true := decide_eq_true c10
         clear c10
         by_cases c11 : (rd t137 x20_2) > 0
         ·rw [if_pos c11] at H
          have c11b0 : decide (0 < (rd t137 x20_2)) = true := decide_eq_true c11
          clear c11
          by_cases c12 : x7_2.length < 17592186044416
          ·rw [if_pos c12] at H
           have LMc12 := Aside0.mk c12
           clear c12
           obtain ⟨y141, hy141⟩ : ∃ y_ : List Int, y_ = (x7_2 ++ [x20_2]) := ⟨_, rfl⟩
           replace H : (spec_l1Cur_sureLabels.l1 k2 a1 x5_1 x6_1 y141 t137 (t137.length : Int) (wrap64 (x20_2 + 1)) s0_0 x1001_1 x1002_1) = some (r1, r2, r3) := HY H hy141
           have Ny141 := Aside0.mk hy141
           clear hy141
           have H' := Aside0.mk H
           clear H
           have p140 : 0 ≤ (x20_2 : Int) := of_decide_eq_true AS
           have q140 : x20_2 < (t137.length : Int) := of_decide_eq_true AS
           obtain ⟨ad140, e140, hx140_0⟩ := Kd.at_int (Kd.R_reads' HO_18.out).2.2 x20_2 p140 q140
           cases e140
           replace p140 := eq_true p140
           replace q140 := eq_true q140
           go_wp2_with (first | ((with_reducible refine gate_builtin (b := .append) (xs := #[.tmp 27, .tmp 29]) rfl ?_); at_builtin; refine Kd.R_append (Kd.int .i64) w.heap.size rfl (.tmp 27) (.tmp 29) 24 3 (.int .i64 0) 8 rfl Try.underlying24 info3 rfl (by decide) (by omega) u7 x7_2 x20_2 [.int .i64 x20_2] (fun k_ => some k_ ≠ (u5 : Value).ownBlock ∧ some k_ ≠ (.slice (some ad140) t137.length co7 : Value).ownBlock) (fun _ => False) rfl rfl ?aP (fun _ hk => hk.elim) ?aF ?aO (Below.refl _ _) ?aS ?aL ?_; (case aP => exact rfl); (case aF => exact (fun k_ hk => ⟨Kd.fresh' (Kd.R_lt (KR HO_5)) k_ hk, Kd.fresh' (Kd.R_lt (KR HO_18)) k_ hk⟩)); (case aO => exact (KR HO_7)); (case aS => exact (keep_size (w := w) (g := g) (row := none) AHK)); (case aL => have := LMc12.out; omega); intro v142 w13 ho hb hg hat; rw [← Ny141.out] at ho; have n0_ := Aside0.mk (Kd.R_after (ok := (fun k_ => some k_ ≠ (.slice (some ad140) t137.length co7 : Value).ownBlock)) (by (with_reducible repeat (first | apply Kd.R_alloc | apply Kd.R_drewN | apply Kd.R_drew)); exact Kd.R_mono HO_5.out (fun _ hk => ⟨hk.2, hk.1⟩)) hg hat); have n1_ := Aside0.mk (Kd.R_after (ok := (fun k_ => some k_ ≠ (u5 : Value).ownBlock)) (KR HO_18) hg hat); have n2_ := Aside0.mk (IsS52.grown AHI hg (IsS52.own_ne HI0.out HO_7.out (by decide))); have n3_ := Aside0.mk (below_weaken AHB HL.out hb); have n4_ := Aside0.mk (KeepBut.trans AHK (KeepBut.of_grown hg g) (Kd.R_base2 HO_7.out)); have n5_ := Aside0.mk (ho); clear HO_5; clear HO_18; clear HI0; clear HB; clear HK; clear HO_7; have HO_5 := n0_; have HO_18 := n1_; have HI0 := n2_; have HB := n3_; have HK := n4_; have HO143 := n5_; clear n0_ n1_ n2_ n3_ n4_ n5_; clear ho hb hg hat))
           go_roundg k2
           case measure => have := HK1.out; have := HK2.out; omega
           case rel => exact ⟨(y141), (wrap64 (x20_2 + 1)), RF, H', ⟨by have := HK1.out; have := HK2.out; omega⟩, ⟨by (with_reducible repeat (first | apply Kd.R_alloc | apply Kd.R_drewN | apply Kd.R_drew)); exact Kd.R_mono HO_5.out (fun _ hk => ⟨hk.2, hk.1⟩)⟩, ⟨KR HO143⟩, ⟨KR HO_18⟩, ⟨AHI⟩, ⟨AHK⟩, ⟨AHB⟩⟩
          ·rw [if_neg c12] at H
           cases H
         ·rw [if_neg c11] at H
          have c11b0 : decide (0 < (rd t137 x20_2)) = false := decide_eq_false c11
          clear c11
          have H' := Aside0.mk H
          clear H
          have p140 : 0 ≤ (x20_2 : Int) := of_decide_eq_true AS
          have q140 : x20_2 < (t137.length : Int) := of_decide_eq_true AS
          obtain ⟨ad140, e140, hx140_0⟩ := Kd.at_int (Kd.R_reads' HO_18.out).2.2 x20_2 p140 q140
          cases e140
          replace p140 := eq_true p140
          replace q140 := eq_true q140
          go_wp2
          go_roundg k2
          case measure => have := HK1.out; have := HK2.out; omega
          case rel => exact ⟨(x7_2), (wrap64 (x20_2 + 1)), RF, H', ⟨by have := HK1.out; have := HK2.out; omega⟩, ⟨KR HO_5⟩, ⟨KR HO_7⟩, ⟨KR HO_18⟩, ⟨AHI⟩, ⟨AHK⟩, ⟨AHB⟩⟩
        ·rw [if_neg c10] at H
         cases H
       ·rw [if_neg c9] at H
        cases H
      ·rw [if_neg c8] at H
       have c8b0 : decide (x20_2 < (t137.length : Int)) = false := decide_eq_false c8
       clear c8
       obtain ⟨⟨t144, t145, t146⟩, A140, H⟩ := Option.bind_eq_some_iff.mp H
       replace H : (if 0 ≤ t144 then (if t144 < (x7_2.length : Int) then (if x5_1.length < 17592186044416 then (spec_l1Cur_sureLabels.l0 k2 a1 (x5_1 ++ [rd x7_2 t144]) (wrap64 (x6_1 + 1)) s0_0 t145 t146) else (none)) else (none)) else (none)) = some (r1, r2, r3) := H
       have A14 := Aside0.mk A140
       clear A140
       by_cases c15 : 0 ≤ t144
       ·rw [if_pos c15] at H
        have c15b0 : decide (0 ≤ t144) = true := decide_eq_true c15
        clear c15
        by_cases c16 : t144 < (x7_2.length : Int)
        ·rw [if_pos c16] at H
         have c16b0 : decide (t144 < (x7_2.length : Int)) = true := decide_eq_true c16
         clear c16
         by_cases c17 : x5_1.length < 17592186044416
         ·rw [if_pos c17] at H
          have LMc17 := Aside0.mk c17
          clear c17
          obtain ⟨y148, hy148⟩ : ∃ y_ : List Int, y_ = (x5_1 ++ [rd x7_2 t144]) := ⟨_, rfl⟩
          replace H : (spec_l1Cur_sureLabels.l0 k2 a1 y148 (wrap64 (x6_1 + 1)) s0_0 t145 t146) = some (r1, r2, r3) := HY H hy148
          have Ny148 := Aside0.mk hy148
          clear hy148
          have H' := Aside0.mk H
          clear H
          obtain ⟨Ao18, co18, eo18⟩ := Kd.R_slice HO_7.out
          subst eo18
          go_wp2_with (first | ((with_reducible refine gate_callee (f := 72) rfl ?_); refine goesL_ (some 37) rfl rfl Try.func72 (by kernel_rfl) rfl #[.pointer (some ⟨g, 0, none⟩), .int .i64 (x7_2.length : Int)] rfl TA ?_; (with_reducible refine (spec_l1Cur_pick.calls g s0_0 x1001_1 x1002_1 (x7_2.length : Int) t144 t145 t146 w0 _ ?side1 ?side2 A14.out).mono ?_); (case side1 => exact AHI); (case side2 => exact AHB); rintro e w19 ⟨rfl, hi, hb, hk⟩; refine ⟨_, rfl, ?_⟩; have n0_ := Aside0.mk (Kd.R_mono (Kd.R_keep (IsS52.apart (show IsS52 w0 _ g s0_0 x1001_1 x1002_1 from AHI) (KR HO_5) (by decide)) hk (fun _ h => h.2)) (fun _ h => h.1)); have n1_ := Aside0.mk (Kd.R_mono (Kd.R_keep (IsS52.apart (show IsS52 w0 _ g s0_0 x1001_1 x1002_1 from AHI) (KR HO_7) (by decide)) hk (fun _ h => h.2)) (fun _ h => h.1)); have n2_ := Aside0.mk (Kd.R_mono (Kd.R_keep (IsS52.apart (show IsS52 w0 _ g s0_0 x1001_1 x1002_1 from AHI) (KR HO_18) (by decide)) hk (fun _ h => h.2)) (fun _ h => h.1)); have n3_ := Aside0.mk (KeepBut.trans AHK hk (.inl rfl)); have n4_ := Aside0.mk (hb); have n5_ := Aside0.mk (hi); clear HO_5; clear HO_7; clear HO_18; clear HK; clear HB; clear HI0; have HO_5 := n0_; have HO_7 := n1_; have HO_18 := n2_; have HK := n3_; have HB := n4_; have HI0 := n5_; clear n0_ n1_ n2_ n3_ n4_ n5_; (try clear hb); (try clear hb2); (try clear hk); (try clear hi); have p147 : 0 ≤ (t144 : Int) := of_decide_eq_true AS; have q147 : t144 < (x7_2.length : Int) := of_decide_eq_true AS; obtain ⟨ad147, e147, hx147_0⟩ := Kd.at_int (Kd.R_reads' HO_7.out).2.2 t144 p147 q147; cases e147; replace p147 := eq_true p147; replace q147 := eq_true q147) | ((with_reducible refine gate_builtin (b := .append) (xs := #[.tmp 32, .tmp 40]) rfl ?_); at_builtin; refine Kd.R_append (Kd.int .i64) w.heap.size rfl (.tmp 32) (.tmp 40) 24 3 (.int .i64 0) 8 rfl Try.underlying24 info3 rfl (by decide) (by omega) u5 x5_1 (rd x7_2 t144) [.int .i64 (rd x7_2 t144)] (fun k_ => some k_ ≠ (.slice (some ad147) x7_2.length co18 : Value).ownBlock ∧ some k_ ≠ (.slice Ao7 t137.length co7 : Value).ownBlock) (fun _ => False) rfl rfl ?aP (fun _ hk => hk.elim) ?aF ?aO (Below.refl _ _) ?aS ?aL ?_; (case aP => exact rfl); (case aF => exact (fun k_ hk => ⟨Kd.fresh' (Kd.R_lt (KR HO_7)) k_ hk, Kd.fresh' (Kd.R_lt (KR HO_18)) k_ hk⟩)); (case aO => exact (KR HO_5)); (case aS => exact (keep_size (w := w) (g := g) (row := none) AHK)); (case aL => have := LMc17.out; omega); intro v149 w20 ho hb hg hat; rw [← Ny148.out] at ho; have n0_ := Aside0.mk (Kd.R_after (ok := (fun k_ => some k_ ≠ (.slice Ao7 t137.length co7 : Value).ownBlock)) (by (with_reducible repeat (first | apply Kd.R_alloc | apply Kd.R_drewN | apply Kd.R_drew)); exact Kd.R_mono HO_7.out (fun _ hk => ⟨hk.2, hk.1⟩)) hg hat); have n1_ := Aside0.mk (Kd.R_after (ok := (fun k_ => some k_ ≠ (.slice (some ad147) x7_2.length co18 : Value).ownBlock)) (by (with_reducible repeat (first | apply Kd.R_alloc | apply Kd.R_drewN | apply Kd.R_drew)); exact Kd.R_mono HO_18.out (fun _ hk => ⟨hk.2, hk.1⟩)) hg hat); have n2_ := Aside0.mk (IsS52.grown AHI hg (IsS52.own_ne HI0.out HO_5.out (by decide))); have n3_ := Aside0.mk (below_weaken AHB HL.out hb); have n4_ := Aside0.mk (KeepBut.trans AHK (KeepBut.of_grown hg g) (Kd.R_base2 HO_5.out)); have n5_ := Aside0.mk (ho); clear HO_7; clear HO_18; clear HI0; clear HB; clear HK; clear HO_5; have HO_7 := n0_; have HO_18 := n1_; have HI0 := n2_; have HB := n3_; have HK := n4_; have HO150 := n5_; clear n0_ n1_ n2_ n3_ n4_ n5_; clear ho hb hg hat))
          go_roundg k2
          case measure => have := HK1.out; have := HK2.out; omega
          case rel => exact ⟨(y148), (wrap64 (x6_1 + 1)), (t145), (t146), RF, H', ⟨by have := HK1.out; have := HK2.out; omega⟩, ⟨by (with_reducible repeat (first | apply Kd.R_alloc | apply Kd.R_drewN | apply Kd.R_drew)); exact Kd.R_mono HO150.out (fun _ hk => trivial)⟩, ⟨AHI⟩, ⟨AHK⟩, ⟨AHB⟩⟩
         ·rw [if_neg c17] at H
          cases H
        ·rw [if_neg c16] at H
         cases H
       ·rw [if_neg c15] at H
        cases H
   ·rw [if_neg c4] at H
    have c4b0 : decide (x6_1 < t136) = false := decide_eq_false c4
    clear c4
    simp only [Option.some.injEq, Prod.mk.injEq] at H
    obtain ⟨rfl, rfl, rfl⟩ := H
    go_wp2_with (first | ((with_reducible refine gate_callee (f := 78) rfl ?_); refine goesL_ (some 12) rfl rfl Try.func78 (by kernel_rfl) rfl #[.int .i64 a1] rfl TA ?_; (with_reducible refine (spec_meCount.calls a1 t136 _ A3.out).mono ?_); rintro e w' ⟨rfl, ⟨nd, rfl⟩⟩; refine ⟨_, rfl, ?_⟩))
    go_ret
    exact ⟨_, RE, KR HO_5, AHI, AHB, AHK⟩

/-! ### spec_l1Cur_labels: function 82 -/
def spec_l1Cur_labels.l0 : Nat → Int → List Int → Int → Int → List Int → Int → Int → Option (Int × List Int × Int × Int)
 | 0, _, _, _, _, _, _, _ => none
 | k + 1, x6, x7, x46, x47, x1000, x1001, x1002 => if x47 < x46 then ((spec_l1Cur_pick.f x1000 x1001 x1002 3).bind fun bt183 => (if 0 ≤ x47 then (if x47 < (x7.length : Int) then (spec_l1Cur_labels.l0 k x6 (x7.set (x47 : Int).toNat bt183.1) x46 (wrap64 (x47 + 1)) x1000 bt183.2.1 bt183.2.2) else (none)) else (none))) else (some (x6, x7, x1001, x1002))
def spec_l1Cur_labels.f (k : Nat) (s0_0 : List Int) (s0_1 : Int) (s0_2 : Int) (a1 : Int) : Option (Int × List Int × Int × Int) := (spec_l1Cur_side.f s0_0 s0_1 s0_2 a1).bind fun bt151 => ((spec_meSide.f bt151.1).bind fun t154 => (if t154 = true then ((spec_l1Cur_sureLabels.f k s0_0 bt151.2.1 bt151.2.2 bt151.1).bind fun bt158 => ((spec_l1Cur_pick.f s0_0 bt158.2.1 bt158.2.2 10).bind fun bt163 => (if bt163.1 = 0 then ((spec_l1Cur_pick.f s0_0 bt163.2.1 bt163.2.2 (bt158.1.length : Int)).bind fun bt166 => ((spec_l1Cur_pick.f s0_0 bt166.2.1 bt166.2.2 3).bind fun bt169 => (if 0 ≤ bt166.1 then (if bt166.1 < (bt158.1.length : Int) then (some (bt151.1, (bt158.1.set (bt166.1 : Int).toNat bt169.1), bt169.2.1, bt169.2.2)) else (none)) else (none)))) else (if bt163.1 = 1 then ((spec_l1Cur_pick.f s0_0 bt163.2.1 bt163.2.2 (bt158.1.length : Int)).bind fun bt173 => ((spec_l1Cur_among.f s0_0 bt173.2.1 bt173.2.2 (([(-1), 3, 4611686018427387904] : List Int))).bind fun bt179 => (if 0 ≤ bt173.1 then (if bt173.1 < (bt158.1.length : Int) then (some (bt151.1, (bt158.1.set (bt173.1 : Int).toNat bt179.1), bt179.2.1, bt179.2.2)) else (none)) else (none)))) else (if bt163.1 = 2 then (spec_l1Cur_labels.l0 k bt151.1 bt158.1 (bt158.1.length : Int) 0 s0_0 bt163.2.1 bt163.2.2) else (if bt163.1 = 3 then (if bt158.1.length < 17592186044416 then (some (bt151.1, (bt158.1 ++ [0]), bt163.2.1, bt163.2.2)) else (none)) else (some (bt151.1, bt158.1, bt163.2.1, bt163.2.2)))))))) else (some (bt151.1, (([0, 1, 2] : List Int)), bt151.2.1, bt151.2.2))))
theorem spec_l1Cur_labels.mono_l : ∀ k, (∀ y0 y1 y2 y3 y4 y5 y6, LeO (spec_l1Cur_labels.l0 k y0 y1 y2 y3 y4 y5 y6) (spec_l1Cur_labels.l0 (k + 1) y0 y1 y2 y3 y4 y5 y6))
 | 0 => fun _ _ _ _ _ _ _ r h => by simp [spec_l1Cur_labels.l0] at h
 | k + 1 => by
  have ih0 := spec_l1Cur_labels.mono_l k
  ·intro y0 y1 y2 y3 y4 y5 y6
   unfold spec_l1Cur_labels.l0
   repeat' first
   | with_reducible first | exact ih0 _ _ _ _ _ _ _ | exact spec_l1Cur_sureLabels.mono _ _ _ _ _ | exact LeO.refl _ | exact LeO.none _ | refine LeO.ite ?_ ?_ | refine LeO.bind ?_ (fun _ => ?_)
   | exact LeO.none _ | refine LeO.ite ?_ ?_ | refine LeO.bind ?_ (fun _ => ?_)
theorem spec_l1Cur_labels.mono : ∀ a0 a1 a2 a3 k, LeO (spec_l1Cur_labels.f k a0 a1 a2 a3) (spec_l1Cur_labels.f (k + 1) a0 a1 a2 a3) := by
 intro a0 a1 a2 a3 k
 have ih0 := spec_l1Cur_labels.mono_l k
 unfold spec_l1Cur_labels.f
 repeat' first
   | with_reducible first | exact ih0 _ _ _ _ _ _ _ | exact spec_l1Cur_sureLabels.mono _ _ _ _ _ | exact LeO.refl _ | exact LeO.none _ | refine LeO.ite ?_ ?_ | refine LeO.bind ?_ (fun _ => ?_)
   | exact LeO.none _ | refine LeO.ite ?_ ?_ | refine LeO.bind ?_ (fun _ => ?_)
theorem spec_l1Cur_labels.calls (k : Nat) (g : Nat) (s0_0 : List Int) (s0_1 : Int) (s0_2 : Int) (a1 : Int) (r1 : Int) (r2 : List Int) (r3 : Int) (r4 : Int) (w0 w : World) (hI : IsS52 w0 w g s0_0 s0_1 s0_2) (hB : Below w0.heap.size w0 w) (h : spec_l1Cur_labels.f k s0_0 s0_1 s0_2 a1 = some (r1, r2, r3, r4)) :
  Calls Try.prog 82 #[.pointer (some ⟨g, 0, none⟩), .int .i64 a1] w fun e w' => ∃ v1_ : Value, e = .returned (.tuple #[.int .i64 r1, v1_]) ∧ Kd.R (Kd.int .i64) 3 w' w.heap.size (fun _ => True) v1_ r2 ∧ IsS52 w0 w' g s0_0 r3 r4 ∧ Below w0.heap.size w0 w' ∧ KeepBut w w' g none := by
 have HI0 := Aside0.mk hI
 have HK := Aside0.mk (KeepBut.refl w g none)
 have HL := Aside0.mk hB.size
 clear hI
 have HW0 := Aside0.mk hB.size
 have HB := Aside0.mk hB
 clear hB
 have H : ((spec_l1Cur_side.f s0_0 s0_1 s0_2 a1).bind fun bt151 => ((spec_meSide.f bt151.1).bind fun t154 => (if t154 = true then ((spec_l1Cur_sureLabels.f k s0_0 bt151.2.1 bt151.2.2 bt151.1).bind fun bt158 => ((spec_l1Cur_pick.f s0_0 bt158.2.1 bt158.2.2 10).bind fun bt163 => (if bt163.1 = 0 then ((spec_l1Cur_pick.f s0_0 bt163.2.1 bt163.2.2 (bt158.1.length : Int)).bind fun bt166 => ((spec_l1Cur_pick.f s0_0 bt166.2.1 bt166.2.2 3).bind fun bt169 => (if 0 ≤ bt166.1 then (if bt166.1 < (bt158.1.length : Int) then (some (bt151.1, (bt158.1.set (bt166.1 : Int).toNat bt169.1), bt169.2.1, bt169.2.2)) else (none)) else (none)))) else (if bt163.1 = 1 then ((spec_l1Cur_pick.f s0_0 bt163.2.1 bt163.2.2 (bt158.1.length : Int)).bind fun bt173 => ((spec_l1Cur_among.f s0_0 bt173.2.1 bt173.2.2 (([(-1), 3, 4611686018427387904] : List Int))).bind fun bt179 => (if 0 ≤ bt173.1 then (if bt173.1 < (bt158.1.length : Int) then (some (bt151.1, (bt158.1.set (bt173.1 : Int).toNat bt179.1), bt179.2.1, bt179.2.2)) else (none)) else (none)))) else (if bt163.1 = 2 then (spec_l1Cur_labels.l0 k bt151.1 bt158.1 (bt158.1.length : Int) 0 s0_0 bt163.2.1 bt163.2.2) else (if bt163.1 = 3 then (if bt158.1.length < 17592186044416 then (some (bt151.1, (bt158.1 ++ [0]), bt163.2.1, bt163.2.2)) else (none)) else (some (bt151.1, bt158.1, bt163.2.1, bt163.2.2)))))))) else (some (bt151.1, (([0, 1, 2] : List Int)), bt151.2.1, bt151.2.2))))) = some (r1, r2, r3, r4) := h
 clear h
 obtain ⟨⟨t151, t152, t153⟩, A30, H⟩ := Option.bind_eq_some_iff.mp H
 replace H : ((spec_meSide.f t151).bind fun t154 => (if t154 = true then ((spec_l1Cur_sureLabels.f k s0_0 t152 t153 t151).bind fun bt158 => ((spec_l1Cur_pick.f s0_0 bt158.2.1 bt158.2.2 10).bind fun bt163 => (if bt163.1 = 0 then ((spec_l1Cur_pick.f s0_0 bt163.2.1 bt163.2.2 (bt158.1.length : Int)).bind fun bt166 => ((spec_l1Cur_pick.f s0_0 bt166.2.1 bt166.2.2 3).bind fun bt169 => (if 0 ≤ bt166.1 then (if bt166.1 < (bt158.1.length : Int) then (some (t151, (bt158.1.set (bt166.1 : Int).toNat bt169.1), bt169.2.1, bt169.2.2)) else (none)) else (none)))) else (if bt163.1 = 1 then ((spec_l1Cur_pick.f s0_0 bt163.2.1 bt163.2.2 (bt158.1.length : Int)).bind fun bt173 => ((spec_l1Cur_among.f s0_0 bt173.2.1 bt173.2.2 (([(-1), 3, 4611686018427387904] : List Int))).bind fun bt179 => (if 0 ≤ bt173.1 then (if bt173.1 < (bt158.1.length : Int) then (some (t151, (bt158.1.set (bt173.1 : Int).toNat bt179.1), bt179.2.1, bt179.2.2)) else (none)) else (none)))) else (if bt163.1 = 2 then (spec_l1Cur_labels.l0 k t151 bt158.1 (bt158.1.length : Int) 0 s0_0 bt163.2.1 bt163.2.2) else (if bt163.1 = 3 then (if bt158.1.length < 17592186044416 then (some (t151, (bt158.1 ++ [0]), bt163.2.1, bt163.2.2)) else (none)) else (some (t151, bt158.1, bt163.2.1, bt163.2.2)))))))) else (some (t151, (([0, 1, 2] : List Int)), t152, t153)))) = some (r1, r2, r3, r4) := H
 have A3 := Aside0.mk A30
 clear A30
 obtain ⟨t154, A40, H⟩ := Option.bind_eq_some_iff.mp H
 have A4 := Aside0.mk A40
 clear A40
 by_cases c5 : t154 = true
 ·subst c5
  replace H := IP H
  obtain ⟨⟨t158, t161, t162⟩, A60, H⟩ := Option.bind_eq_some_iff.mp H
  replace H : ((spec_l1Cur_pick.f s0_0 t161 t162 10).bind fun bt163 => (if bt163.1 = 0 then ((spec_l1Cur_pick.f s0_0 bt163.2.1 bt163.2.2 (t158.length : Int)).bind fun bt166 => ((spec_l1Cur_pick.f s0_0 bt166.2.1 bt166.2.2 3).bind fun bt169 => (if 0 ≤ bt166.1 then (if bt166.1 < (t158.length : Int) then (some (t151, (t158.set (bt166.1 : Int).toNat bt169.1), bt169.2.1, bt169.2.2)) else (none)) else (none)))) else (if bt163.1 = 1 then ((spec_l1Cur_pick.f s0_0 bt163.2.1 bt163.2.2 (t158.length : Int)).bind fun bt173 => ((spec_l1Cur_among.f s0_0 bt173.2.1 bt173.2.2 (([(-1), 3, 4611686018427387904] : List Int))).bind fun bt179 => (if 0 ≤ bt173.1 then (if bt173.1 < (t158.length : Int) then (some (t151, (t158.set (bt173.1 : Int).toNat bt179.1), bt179.2.1, bt179.2.2)) else (none)) else (none)))) else (if bt163.1 = 2 then (spec_l1Cur_labels.l0 k t151 t158 (t158.length : Int) 0 s0_0 bt163.2.1 bt163.2.2) else (if bt163.1 = 3 then (if t158.length < 17592186044416 then (some (t151, (t158 ++ [0]), bt163.2.1, bt163.2.2)) else (none)) else (some (t151, t158, bt163.2.1, bt163.2.2))))))) = some (r1, r2, r3, r4) := H
  have A6 := Aside0.mk A60
  clear A60
  obtain ⟨⟨t163, t164, t165⟩, A70, H⟩ := Option.bind_eq_some_iff.mp H
  replace H : (if t163 = 0 then ((spec_l1Cur_pick.f s0_0 t164 t165 (t158.length : Int)).bind fun bt166 => ((spec_l1Cur_pick.f s0_0 bt166.2.1 bt166.2.2 3).bind fun bt169 => (if 0 ≤ bt166.1 then (if bt166.1 < (t158.length : Int) then (some (t151, (t158.set (bt166.1 : Int).toNat bt169.1), bt169.2.1, bt169.2.2)) else (none)) else (none)))) else (if t163 = 1 then ((spec_l1Cur_pick.f s0_0 t164 t165 (t158.length : Int)).bind fun bt173 => ((spec_l1Cur_among.f s0_0 bt173.2.1 bt173.2.2 (([(-1), 3, 4611686018427387904] : List Int))).bind fun bt179 => (if 0 ≤ bt173.1 then (if bt173.1 < (t158.length : Int) then (some (t151, (t158.set (bt173.1 : Int).toNat bt179.1), bt179.2.1, bt179.2.2)) else (none)) else (none)))) else (if t163 = 2 then (spec_l1Cur_labels.l0 k t151 t158 (t158.length : Int) 0 s0_0 t164 t165) else (if t163 = 3 then (if t158.length < 17592186044416 then (some (t151, (t158 ++ [0]), t164, t165)) else (none)) else (some (t151, t158, t164, t165)))))) = some (r1, r2, r3, r4) := H
  have A7 := Aside0.mk A70
  clear A70
  by_cases c8 : t163 = 0
  ·rw [if_pos c8] at H
   have c8b0 : (t163 == 0) = true := beq_iff_eq.mpr c8
   have c8b1 : (t163 != 0) = false := bne_eq_false_iff_eq.mpr c8
   clear c8
   obtain ⟨⟨t166, t167, t168⟩, A90, H⟩ := Option.bind_eq_some_iff.mp H
   replace H : ((spec_l1Cur_pick.f s0_0 t167 t168 3).bind fun bt169 => (if 0 ≤ t166 then (if t166 < (t158.length : Int) then (some (t151, (t158.set (t166 : Int).toNat bt169.1), bt169.2.1, bt169.2.2)) else (none)) else (none))) = some (r1, r2, r3, r4) := H
   have A9 := Aside0.mk A90
   clear A90
   obtain ⟨⟨t169, t170, t171⟩, A100, H⟩ := Option.bind_eq_some_iff.mp H
   replace H : (if 0 ≤ t166 then (if t166 < (t158.length : Int) then (some (t151, (t158.set (t166 : Int).toNat t169), t170, t171)) else (none)) else (none)) = some (r1, r2, r3, r4) := H
   have A10 := Aside0.mk A100
   clear A100
   by_cases c11 : 0 ≤ t166
   ·rw [if_pos c11] at H
    have c11b0 : decide (0 ≤ t166) = true := decide_eq_true c11
    clear c11
    by_cases c12 : t166 < (t158.length : Int)
    ·rw [if_pos c12] at H
     have c12b0 : decide (t166 < (t158.length : Int)) = true := decide_eq_true c12
     clear c12
     obtain ⟨y172, hy172⟩ : ∃ y_ : List Int, y_ = (t158.set (t166 : Int).toNat t169) := ⟨_, rfl⟩
     replace H : (some (t151, y172, t170, t171)) = some (r1, r2, r3, r4) := HY H hy172
     have Ny172 := Aside0.mk hy172
     clear hy172
     simp only [Option.some.injEq, Prod.mk.injEq] at H
     obtain ⟨rfl, rfl, rfl, rfl⟩ := H
     go_enter Try.func82, Try.ntmps82
     go_wp2_with (first | ((with_reducible refine gate_callee (f := 105) rfl ?_); refine goesL_ (some 11) rfl rfl Try.func105 (by kernel_rfl) rfl #[.pointer (some ⟨g, 0, none⟩), .int .i64 a1] rfl TA ?_; (with_reducible refine (spec_l1Cur_side.calls g s0_0 s0_1 s0_2 a1 t151 t152 t153 w0 _ ?side1 ?side2 A3.out).mono ?_); (case side1 => exact AHI); (case side2 => exact AHB); rintro e w14 ⟨rfl, hi, hb, hk⟩; refine ⟨_, rfl, ?_⟩; have n0_ := Aside0.mk (KeepBut.trans AHK hk (.inl rfl)); have n1_ := Aside0.mk (hb); have n2_ := Aside0.mk (hi); clear HK; clear HB; clear HI0; have HK := n0_; have HB := n1_; have HI0 := n2_; clear n0_ n1_ n2_; (try clear hb); (try clear hb2); (try clear hk); (try clear hi)) | ((with_reducible refine gate_callee (f := 83) rfl ?_); refine goesL_ (some 13) rfl rfl Try.func83 (by kernel_rfl) rfl #[.int .i64 t151] rfl TA ?_; (with_reducible refine (spec_meSide.calls t151 true _ A4.out).mono ?_); rintro e w' ⟨rfl, ⟨nd, rfl⟩⟩; refine ⟨_, rfl, ?_⟩; (try (rw [drewN_self w14]; generalize hq_ : World.drewN w14 _ = w14; have n0_ : Aside0 (IsS52 w0 w14 g s0_0 t152 t153) := ⟨by rw [← hq_]; exact AHI⟩; have n1_ : Aside0 (KeepBut w w14 g none) := ⟨by rw [← hq_]; exact AHK⟩; have n2_ : Aside0 (Below w0.heap.size w0 w14) := ⟨by rw [← hq_]; exact AHB⟩; clear HI0 HK HB hq_; have HI0 := n0_; have HK := n1_; have HB := n2_; clear n0_ n1_ n2_))) | ((with_reducible refine gate_callee (f := 106) rfl ?_); refine goesL_ (some 19) rfl rfl Try.func106 (by kernel_rfl) rfl #[.pointer (some ⟨g, 0, none⟩), .int .i64 t151] rfl TA ?_; (with_reducible refine (spec_l1Cur_sureLabels.calls k g s0_0 t152 t153 t151 t158 t161 t162 w0 _ ?side1 ?side2 A6.out).mono ?_); (case side1 => exact AHI); (case side2 => exact AHB); rintro e w15 ⟨v159, rfl, ho0, hi, hb, hk⟩; refine ⟨_, rfl, ?_⟩; have n0_ := Aside0.mk (Kd.R_lower ho0 (keep_size (w := w) (g := g) (row := none) AHK)); have n1_ := Aside0.mk (KeepBut.trans AHK hk (.inl rfl)); have n2_ := Aside0.mk (hb); have n3_ := Aside0.mk (hi); clear HK; clear HB; clear HI0; have HO160 := n0_; have HK := n1_; have HB := n2_; have HI0 := n3_; clear n0_ n1_ n2_ n3_; (try clear hb); (try clear hb2); (try clear hk); (try clear hi); (try clear ho0)) | ((with_reducible refine gate_callee (f := 72) rfl ?_); refine goesL_ (some 21) rfl rfl Try.func72 (by kernel_rfl) rfl #[.pointer (some ⟨g, 0, none⟩), .int .i64 10] rfl TA ?_; (with_reducible refine (spec_l1Cur_pick.calls g s0_0 t161 t162 10 t163 t164 t165 w0 _ ?side1 ?side2 A7.out).mono ?_); (case side1 => exact AHI); (case side2 => exact AHB); rintro e w16 ⟨rfl, hi, hb, hk⟩; refine ⟨_, rfl, ?_⟩; have n0_ := Aside0.mk (Kd.R_mono (Kd.R_keep (IsS52.apart (show IsS52 w0 _ g s0_0 t161 t162 from AHI) (KR HO160) (by decide)) hk (fun _ h => h.2)) (fun _ h => h.1)); have n1_ := Aside0.mk (KeepBut.trans AHK hk (.inl rfl)); have n2_ := Aside0.mk (hb); have n3_ := Aside0.mk (hi); clear HO160; clear HK; clear HB; clear HI0; have HO160 := n0_; have HK := n1_; have HB := n2_; have HI0 := n3_; clear n0_ n1_ n2_ n3_; (try clear hb); (try clear hb2); (try clear hk); (try clear hi); obtain ⟨Ao17, co17, eo17⟩ := Kd.R_slice HO160.out; subst eo17) | ((with_reducible refine gate_callee (f := 72) rfl ?_); refine goesL_ (some 28) rfl rfl Try.func72 (by kernel_rfl) rfl #[.pointer (some ⟨g, 0, none⟩), .int .i64 (t158.length : Int)] rfl TA ?_; (with_reducible refine (spec_l1Cur_pick.calls g s0_0 t164 t165 (t158.length : Int) t166 t167 t168 w0 _ ?side1 ?side2 A9.out).mono ?_); (case side1 => exact AHI); (case side2 => exact AHB); rintro e w18 ⟨rfl, hi, hb, hk⟩; refine ⟨_, rfl, ?_⟩; have n0_ := Aside0.mk (Kd.R_mono (Kd.R_keep (IsS52.apart (show IsS52 w0 _ g s0_0 t164 t165 from AHI) (KR HO160) (by decide)) hk (fun _ h => h.2)) (fun _ h => h.1)); have n1_ := Aside0.mk (KeepBut.trans AHK hk (.inl rfl)); have n2_ := Aside0.mk (hb); have n3_ := Aside0.mk (hi); clear HO160; clear HK; clear HB; clear HI0; have HO160 := n0_; have HK := n1_; have HB := n2_; have HI0 := n3_; clear n0_ n1_ n2_ n3_; (try clear hb); (try clear hb2); (try clear hk); (try clear hi)) | ((with_reducible refine gate_callee (f := 72) rfl ?_); refine goesL_ (some 30) rfl rfl Try.func72 (by kernel_rfl) rfl #[.pointer (some ⟨g, 0, none⟩), .int .i64 3] rfl TA ?_; (with_reducible refine (spec_l1Cur_pick.calls g s0_0 t167 t168 3 t169 t170 t171 w0 _ ?side1 ?side2 A10.out).mono ?_); (case side1 => exact AHI); (case side2 => exact AHB); rintro e w19 ⟨rfl, hi, hb, hk⟩; refine ⟨_, rfl, ?_⟩; have n0_ := Aside0.mk (Kd.R_mono (Kd.R_keep (IsS52.apart (show IsS52 w0 _ g s0_0 t167 t168 from AHI) (KR HO160) (by decide)) hk (fun _ h => h.2)) (fun _ h => h.1)); have n1_ := Aside0.mk (KeepBut.trans AHK hk (.inl rfl)); have n2_ := Aside0.mk (hb); have n3_ := Aside0.mk (hi); clear HO160; clear HK; clear HB; clear HI0; have HO160 := n0_; have HK := n1_; have HB := n2_; have HI0 := n3_; clear n0_ n1_ n2_ n3_; (try clear hb); (try clear hb2); (try clear hk); (try clear hi); have p13 : 0 ≤ (t166 : Int) := of_decide_eq_true AS; have q13 : (t166 : Int) < ((t158.length : Int) : Int) := of_decide_eq_true AS; obtain ⟨go13, co13, eo13, gb13, gl13, cl13, HG13⟩ := Kd.R_form HO160.out (by omega); (first | cases eo13 | (injection eo13 with ea_ en_ ec_; (first | subst ea_ | (injection ea_ with ea_; subst ea_)); subst ec_; clear en_)); have GB13 := Aside0.mk gb13; have GG13 := Aside0.mk HG13; clear gb13 gl13 HG13; obtain ⟨hx13_0, hf13_0⟩ := Kd.R_celln 0 HO160.out (t166 : Int) p13 q13; replace p13 := eq_true p13; replace q13 := eq_true q13; obtain ⟨hy20_, hz20_⟩ := Kd.R_celln 0 HO160.out (t166 : Int) (of_decide_eq_true AS) (of_decide_eq_true AS); have HP20 := Kd.R_putg HO160.out (t166 : Int) t169) | ((with_reducible refine gate_store (t := 3) (p := 31) rfl ?_); refine store_event (t := 3) (p := 31) (v := ?vo_w21) (w1 := (w19.setCell ⟨go13, (t166 : Int).toNat, none⟩ (.int .i64 t169))) ?hg ?ho ?hn ?hr ?_; (case ho => rfl); (case hg => rfl); (case hn => rfl); (case hr => exact GS); intro w21 hw; have hg : w19.grownBy w21 (some go13) := (by rw [hw]; exact HP20.2); have hp_ : Kd.R (Kd.int .i64) 3 w21 w.heap.size (fun _ => True) (.slice (some ⟨go13, 0, none⟩) t158.length co17) y172 := (by rw [hw, Ny172.out]; exact HP20.1); clear HP20; have n0_ := Aside0.mk (IsS52.grown AHI hg (IsS52.own_ne HI0.out HO160.out (by decide))); have n1_ := Aside0.mk (hp_); have n2_ := Aside0.mk ((by rw [hw]; exact below_set (HB.out) (Nat.le_trans HL.out GB13.out) : Below w0.heap.size w0 w21)); have n3_ := Aside0.mk (KeepBut.trans AHK (KeepBut.of_grown hg g) (Kd.R_base2 HO160.out)); clear HI0; clear HO160; clear HB; clear HK; have HI0 := n0_; have HO160 := n1_; have HB := n2_; have HK := n3_; clear n0_ n1_ n2_ n3_; clear hg hw hp_))
     go_ret2
     exact ⟨_, RE, KR HO160, AHI, AHB, AHK⟩
    ·rw [if_neg c12] at H
     cases H
   ·rw [if_neg c11] at H
    cases H
  ·rw [if_neg c8] at H
   have c8b0 : (t163 == 0) = false := beq_eq_false_iff_ne.mpr c8
   have c8b1 : (t163 != 0) = true := bne_iff_ne.mpr c8
   by_cases c22 : t163 = 1
   ·rw [if_pos c22] at H
    have c22b0 : (t163 == 1) = true := beq_iff_eq.mpr c22
    have c22b1 : (t163 != 1) = false := bne_eq_false_iff_eq.mpr c22
    clear c22
    obtain ⟨⟨t173, t174, t175⟩, A230, H⟩ := Option.bind_eq_some_iff.mp H
    replace H : ((spec_l1Cur_among.f s0_0 t174 t175 (([(-1), 3, 4611686018427387904] : List Int))).bind fun bt179 => (if 0 ≤ t173 then (if t173 < (t158.length : Int) then (some (t151, (t158.set (t173 : Int).toNat bt179.1), bt179.2.1, bt179.2.2)) else (none)) else (none))) = some (r1, r2, r3, r4) := H
    have A23 := Aside0.mk A230
    clear A230
    obtain ⟨y176, hy176⟩ : ∃ y_ : List Int, y_ = (([(-1), 3, 4611686018427387904] : List Int)) := ⟨_, rfl⟩
    replace H : ((spec_l1Cur_among.f s0_0 t174 t175 y176).bind fun bt179 => (if 0 ≤ t173 then (if t173 < (t158.length : Int) then (some (t151, (t158.set (t173 : Int).toNat bt179.1), bt179.2.1, bt179.2.2)) else (none)) else (none))) = some (r1, r2, r3, r4) := HY H hy176
    have Ny176 := Aside0.mk hy176
    clear hy176
    obtain ⟨⟨t179, t180, t181⟩, A240, H⟩ := Option.bind_eq_some_iff.mp H
    replace H : (if 0 ≤ t173 then (if t173 < (t158.length : Int) then (some (t151, (t158.set (t173 : Int).toNat t179), t180, t181)) else (none)) else (none)) = some (r1, r2, r3, r4) := H
    have A24 := Aside0.mk A240
    clear A240
    by_cases c25 : 0 ≤ t173
    ·rw [if_pos c25] at H
     have c25b0 : decide (0 ≤ t173) = true := decide_eq_true c25
     clear c25
     by_cases c26 : t173 < (t158.length : Int)
     ·rw [if_pos c26] at H
      have c26b0 : decide (t173 < (t158.length : Int)) = true := decide_eq_true c26
      clear c26
      obtain ⟨y182, hy182⟩ : ∃ y_ : List Int, y_ = (t158.set (t173 : Int).toNat t179) := ⟨_, rfl⟩
      replace H : (some (t151, y182, t180, t181)) = some (r1, r2, r3, r4) := HY H hy182
      have Ny182 := Aside0.mk hy182
      clear hy182
      simp only [Option.some.injEq, Prod.mk.injEq] at H
      obtain ⟨rfl, rfl, rfl, rfl⟩ := H
      go_enter Try.func82, Try.ntmps82
      go_wp2_with (first | ((with_reducible refine gate_callee (f := 105) rfl ?_); refine goesL_ (some 11) rfl rfl Try.func105 (by kernel_rfl) rfl #[.pointer (some ⟨g, 0, none⟩), .int .i64 a1] rfl TA ?_; (with_reducible refine (spec_l1Cur_side.calls g s0_0 s0_1 s0_2 a1 t151 t152 t153 w0 _ ?side1 ?side2 A3.out).mono ?_); (case side1 => exact AHI); (case side2 => exact AHB); rintro e w28 ⟨rfl, hi, hb, hk⟩; refine ⟨_, rfl, ?_⟩; have n0_ := Aside0.mk (KeepBut.trans AHK hk (.inl rfl)); have n1_ := Aside0.mk (hb); have n2_ := Aside0.mk (hi); clear HK; clear HB; clear HI0; have HK := n0_; have HB := n1_; have HI0 := n2_; clear n0_ n1_ n2_; (try clear hb); (try clear hb2); (try clear hk); (try clear hi)) | ((with_reducible refine gate_callee (f := 83) rfl ?_); refine goesL_ (some 13) rfl rfl Try.func83 (by kernel_rfl) rfl #[.int .i64 t151] rfl TA ?_; (with_reducible refine (spec_meSide.calls t151 true _ A4.out).mono ?_); rintro e w' ⟨rfl, ⟨nd, rfl⟩⟩; refine ⟨_, rfl, ?_⟩; (try (rw [drewN_self w28]; generalize hq_ : World.drewN w28 _ = w28; have n0_ : Aside0 (IsS52 w0 w28 g s0_0 t152 t153) := ⟨by rw [← hq_]; exact AHI⟩; have n1_ : Aside0 (KeepBut w w28 g none) := ⟨by rw [← hq_]; exact AHK⟩; have n2_ : Aside0 (Below w0.heap.size w0 w28) := ⟨by rw [← hq_]; exact AHB⟩; clear HI0 HK HB hq_; have HI0 := n0_; have HK := n1_; have HB := n2_; clear n0_ n1_ n2_))) | ((with_reducible refine gate_callee (f := 106) rfl ?_); refine goesL_ (some 19) rfl rfl Try.func106 (by kernel_rfl) rfl #[.pointer (some ⟨g, 0, none⟩), .int .i64 t151] rfl TA ?_; (with_reducible refine (spec_l1Cur_sureLabels.calls k g s0_0 t152 t153 t151 t158 t161 t162 w0 _ ?side1 ?side2 A6.out).mono ?_); (case side1 => exact AHI); (case side2 => exact AHB); rintro e w29 ⟨v159, rfl, ho0, hi, hb, hk⟩; refine ⟨_, rfl, ?_⟩; have n0_ := Aside0.mk (Kd.R_lower ho0 (keep_size (w := w) (g := g) (row := none) AHK)); have n1_ := Aside0.mk (KeepBut.trans AHK hk (.inl rfl)); have n2_ := Aside0.mk (hb); have n3_ := Aside0.mk (hi); clear HK; clear HB; clear HI0; have HO160 := n0_; have HK := n1_; have HB := n2_; have HI0 := n3_; clear n0_ n1_ n2_ n3_; (try clear hb); (try clear hb2); (try clear hk); (try clear hi); (try clear ho0)) | ((with_reducible refine gate_callee (f := 72) rfl ?_); refine goesL_ (some 21) rfl rfl Try.func72 (by kernel_rfl) rfl #[.pointer (some ⟨g, 0, none⟩), .int .i64 10] rfl TA ?_; (with_reducible refine (spec_l1Cur_pick.calls g s0_0 t161 t162 10 t163 t164 t165 w0 _ ?side1 ?side2 A7.out).mono ?_); (case side1 => exact AHI); (case side2 => exact AHB); rintro e w30 ⟨rfl, hi, hb, hk⟩; refine ⟨_, rfl, ?_⟩; have n0_ := Aside0.mk (Kd.R_mono (Kd.R_keep (IsS52.apart (show IsS52 w0 _ g s0_0 t161 t162 from AHI) (KR HO160) (by decide)) hk (fun _ h => h.2)) (fun _ h => h.1)); have n1_ := Aside0.mk (KeepBut.trans AHK hk (.inl rfl)); have n2_ := Aside0.mk (hb); have n3_ := Aside0.mk (hi); clear HO160; clear HK; clear HB; clear HI0; have HO160 := n0_; have HK := n1_; have HB := n2_; have HI0 := n3_; clear n0_ n1_ n2_ n3_; (try clear hb); (try clear hb2); (try clear hk); (try clear hi); obtain ⟨Ao31, co31, eo31⟩ := Kd.R_slice HO160.out; subst eo31) | ((with_reducible refine gate_callee (f := 72) rfl ?_); refine goesL_ (some 38) rfl rfl Try.func72 (by kernel_rfl) rfl #[.pointer (some ⟨g, 0, none⟩), .int .i64 (t158.length : Int)] rfl TA ?_; (with_reducible refine (spec_l1Cur_pick.calls g s0_0 t164 t165 (t158.length : Int) t173 t174 t175 w0 _ ?side1 ?side2 A23.out).mono ?_); (case side1 => exact AHI); (case side2 => exact AHB); rintro e w32 ⟨rfl, hi, hb, hk⟩; refine ⟨_, rfl, ?_⟩; have n0_ := Aside0.mk (Kd.R_mono (Kd.R_keep (IsS52.apart (show IsS52 w0 _ g s0_0 t164 t165 from AHI) (KR HO160) (by decide)) hk (fun _ h => h.2)) (fun _ h => h.1)); have n1_ := Aside0.mk (KeepBut.trans AHK hk (.inl rfl)); have n2_ := Aside0.mk (hb); have n3_ := Aside0.mk (hi); clear HO160; clear HK; clear HB; clear HI0; have HO160 := n0_; have HK := n1_; have HB := n2_; have HI0 := n3_; clear n0_ n1_ n2_ n3_; (try clear hb); (try clear hb2); (try clear hk); (try clear hi)) | ((with_reducible refine gate_dst (N := 40) rfl ?_); refine Kd.R_lit (Kd.int .i64) _ 3 ?hg (N := 40) ?hd (xs := ([(-1), 3, 4611686018427387904] : List Int)) (inner := [.int .i64 (-1), .int .i64 3, .int .i64 4611686018427387904]) (ok := fun _ => True) (okp := fun _ => True) ?hr ?hp (fun _ hk => hk) trivial (Below.refl _ _) (Nat.le_refl _) (by simp) ?_; (case hd => rfl); (case hg => rfl); (case hr => exact GS); (case hp => exact (Reps.one (show Kd.M (Kd.int .i64) _ _ _ (-1) [.int .i64 (-1)] from rfl) (Reps.one (show Kd.M (Kd.int .i64) _ _ _ 3 [.int .i64 3] from rfl) (Reps.one (show Kd.M (Kd.int .i64) _ _ _ 4611686018427387904 [.int .i64 4611686018427387904] from rfl) (Reps.none _ _))))); intro v177 w33 ho34 hb hg_ hnew_; clear hg_ hnew_; (first | rw [← Ny176.out] at ho34 | (simp only [Int.reduceToNat] at ho34; rw [← Ny176.out] at ho34)); have n0_ := Aside0.mk (Kd.R_elder' (KR HO160) (Kd.R_base ho34) hb); have n1_ := Aside0.mk (Kd.R_lower (Kd.R_new' ho34 (Kd.R_lt (KR HO160))) (keep_size (w := w) (g := g) (row := none) AHK)); have n2_ := Aside0.mk (IsS52.below AHI hb); have n3_ := Aside0.mk (KeepBut.trans AHK (KeepBut.of_below hb g none) (.inl rfl)); have n4_ := Aside0.mk (below_step AHB hb); clear HO160; clear HI0; clear HK; clear HB; have HO160 := n0_; have HO178 := n1_; have HI0 := n2_; have HK := n3_; have HB := n4_; clear n0_ n1_ n2_ n3_ n4_; clear hb ho34; obtain ⟨Ao35, co35, eo35⟩ := Kd.R_slice HO178.out; subst eo35) | ((with_reducible refine gate_callee (f := 91) rfl ?_); refine goesL_ (some 41) rfl rfl Try.func91 (by kernel_rfl) rfl #[.pointer (some ⟨g, 0, none⟩), .slice Ao35 y176.length co35] rfl TA ?_; (with_reducible refine (spec_l1Cur_among.calls g s0_0 t174 t175 _ _ y176 t179 t180 t181 w0 _ ?side1 ?side2 ?side3 ?side4 ?side5 A24.out).mono ?_); (case side1 => exact AHI); (case side2 => exact AHB); (case side3 => exact CW (Kd.R_reads' HO178.out).2.2); (case side4 => exact (Kd.R_reads' HO178.out).2.1); (case side5 => exact far_slice (IsS52.own_ne HI0.out HO178.out (by decide))); rintro e w36 ⟨rfl, hi, hb, hk⟩; refine ⟨_, rfl, ?_⟩; have n0_ := Aside0.mk (Kd.R_mono (Kd.R_keep (IsS52.apart (show IsS52 w0 _ g s0_0 t174 t175 from AHI) (KR HO160) (by decide)) hk (fun _ h => h.2)) (fun _ h => h.1)); have n1_ := Aside0.mk (Kd.R_mono (Kd.R_keep (IsS52.apart (show IsS52 w0 _ g s0_0 t174 t175 from AHI) (KR HO178) (by decide)) hk (fun _ h => h.2)) (fun _ h => h.1)); have n2_ := Aside0.mk (KeepBut.trans AHK hk (.inl rfl)); have n3_ := Aside0.mk (hb); have n4_ := Aside0.mk (hi); clear HO160; clear HO178; clear HK; clear HB; clear HI0; have HO160 := n0_; have HO178 := n1_; have HK := n2_; have HB := n3_; have HI0 := n4_; clear n0_ n1_ n2_ n3_ n4_; (try clear hb); (try clear hb2); (try clear hk); (try clear hi); have p27 : 0 ≤ (t173 : Int) := of_decide_eq_true AS; have q27 : (t173 : Int) < ((t158.length : Int) : Int) := of_decide_eq_true AS; obtain ⟨go27, co27, eo27, gb27, gl27, cl27, HG27⟩ := Kd.R_form HO160.out (by omega); (first | cases eo27 | (injection eo27 with ea_ en_ ec_; (first | subst ea_ | (injection ea_ with ea_; subst ea_)); subst ec_; clear en_)); have GB27 := Aside0.mk gb27; have GG27 := Aside0.mk HG27; clear gb27 gl27 HG27; obtain ⟨hx27_0, hf27_0⟩ := Kd.R_celln 0 HO160.out (t173 : Int) p27 q27; replace p27 := eq_true p27; replace q27 := eq_true q27; have n_ := Aside0.mk (Kd.R_mono (ok' := (fun k_ => some k_ ≠ (.slice Ao35 y176.length co35 : Value).ownBlock)) HO160.out (fun k_ hk => hk.2)); clear HO160; have HO160 := n_; clear n_; obtain ⟨hy37_, hz37_⟩ := Kd.R_celln 0 HO160.out (t173 : Int) (of_decide_eq_true AS) (of_decide_eq_true AS); have HP37 := Kd.R_putg HO160.out (t173 : Int) t179) | ((with_reducible refine gate_store (t := 3) (p := 42) rfl ?_); refine store_event (t := 3) (p := 42) (v := ?vo_w38) (w1 := (w36.setCell ⟨go27, (t173 : Int).toNat, none⟩ (.int .i64 t179))) ?hg ?ho ?hn ?hr ?_; (case ho => rfl); (case hg => rfl); (case hn => rfl); (case hr => exact GS); intro w38 hw; have hg : w36.grownBy w38 (some go27) := (by rw [hw]; exact HP37.2); have hp_ : Kd.R (Kd.int .i64) 3 w38 w.heap.size (fun k_ => some k_ ≠ (.slice Ao35 y176.length co35 : Value).ownBlock) (.slice (some ⟨go27, 0, none⟩) t158.length co31) y182 := (by rw [hw, Ny182.out]; exact HP37.1); clear HP37; have n0_ := Aside0.mk (IsS52.grown AHI hg (IsS52.own_ne HI0.out HO160.out (by decide))); have n1_ := Aside0.mk (hp_); have n2_ := Aside0.mk (Kd.R_after (v := (.slice (some ⟨go27, 0, none⟩) t158.length co31)) (v1 := (.slice (some ⟨go27, 0, none⟩) t158.length co31)) (ok := (fun _ => True)) (KR HO178) hg (.inl rfl)); have n3_ := Aside0.mk ((by rw [hw]; exact below_set (HB.out) (Nat.le_trans HL.out GB27.out) : Below w0.heap.size w0 w38)); have n4_ := Aside0.mk (KeepBut.trans AHK (KeepBut.of_grown hg g) (Kd.R_base2 HO160.out)); clear HI0; clear HO160; clear HO178; clear HB; clear HK; have HI0 := n0_; have HO160 := n1_; have HO178 := n2_; have HB := n3_; have HK := n4_; clear n0_ n1_ n2_ n3_ n4_; clear hg hw hp_))
      go_ret2
      exact ⟨_, RE, by (with_reducible repeat (first | apply Kd.R_alloc | apply Kd.R_drewN | apply Kd.R_drew)); exact Kd.R_mono HO160.out (fun _ hk => trivial), AHI, AHB, AHK⟩
     ·rw [if_neg c26] at H
      cases H
    ·rw [if_neg c25] at H
     cases H
   ·rw [if_neg c22] at H
    have c22b0 : (t163 == 1) = false := beq_eq_false_iff_ne.mpr c22
    have c22b1 : (t163 != 1) = true := bne_iff_ne.mpr c22
    by_cases c39 : t163 = 2
    ·rw [if_pos c39] at H
     have c39b0 : (t163 == 2) = true := beq_iff_eq.mpr c39
     have c39b1 : (t163 != 2) = false := bne_eq_false_iff_eq.mpr c39
     clear c39
     have H' := Aside0.mk H
     clear H
     go_enter Try.func82, Try.ntmps82
     go_wp2_with (first | ((with_reducible refine gate_callee (f := 105) rfl ?_); refine goesL_ (some 11) rfl rfl Try.func105 (by kernel_rfl) rfl #[.pointer (some ⟨g, 0, none⟩), .int .i64 a1] rfl TA ?_; (with_reducible refine (spec_l1Cur_side.calls g s0_0 s0_1 s0_2 a1 t151 t152 t153 w0 _ ?side1 ?side2 A3.out).mono ?_); (case side1 => exact AHI); (case side2 => exact AHB); rintro e w40 ⟨rfl, hi, hb, hk⟩; refine ⟨_, rfl, ?_⟩; have n0_ := Aside0.mk (KeepBut.trans AHK hk (.inl rfl)); have n1_ := Aside0.mk (hb); have n2_ := Aside0.mk (hi); clear HK; clear HB; clear HI0; have HK := n0_; have HB := n1_; have HI0 := n2_; clear n0_ n1_ n2_; (try clear hb); (try clear hb2); (try clear hk); (try clear hi)) | ((with_reducible refine gate_callee (f := 83) rfl ?_); refine goesL_ (some 13) rfl rfl Try.func83 (by kernel_rfl) rfl #[.int .i64 t151] rfl TA ?_; (with_reducible refine (spec_meSide.calls t151 true _ A4.out).mono ?_); rintro e w' ⟨rfl, ⟨nd, rfl⟩⟩; refine ⟨_, rfl, ?_⟩) | ((with_reducible refine gate_callee (f := 106) rfl ?_); refine goesL_ (some 19) rfl rfl Try.func106 (by kernel_rfl) rfl #[.pointer (some ⟨g, 0, none⟩), .int .i64 t151] rfl TA ?_; (with_reducible refine (spec_l1Cur_sureLabels.calls k g s0_0 t152 t153 t151 t158 t161 t162 w0 _ ?side1 ?side2 A6.out).mono ?_); (case side1 => exact AHI); (case side2 => exact AHB); rintro e w41 ⟨v159, rfl, ho0, hi, hb, hk⟩; refine ⟨_, rfl, ?_⟩; have n0_ := Aside0.mk (Kd.R_lower ho0 (keep_size (w := w) (g := g) (row := none) AHK)); have n1_ := Aside0.mk (KeepBut.trans AHK hk (.inl rfl)); have n2_ := Aside0.mk (hb); have n3_ := Aside0.mk (hi); clear HK; clear HB; clear HI0; have HO160 := n0_; have HK := n1_; have HB := n2_; have HI0 := n3_; clear n0_ n1_ n2_ n3_; (try clear hb); (try clear hb2); (try clear hk); (try clear hi); (try clear ho0)) | ((with_reducible refine gate_callee (f := 72) rfl ?_); refine goesL_ (some 21) rfl rfl Try.func72 (by kernel_rfl) rfl #[.pointer (some ⟨g, 0, none⟩), .int .i64 10] rfl TA ?_; (with_reducible refine (spec_l1Cur_pick.calls g s0_0 t161 t162 10 t163 t164 t165 w0 _ ?side1 ?side2 A7.out).mono ?_); (case side1 => exact AHI); (case side2 => exact AHB); rintro e w42 ⟨rfl, hi, hb, hk⟩; refine ⟨_, rfl, ?_⟩; have n0_ := Aside0.mk (Kd.R_mono (Kd.R_keep (IsS52.apart (show IsS52 w0 _ g s0_0 t161 t162 from AHI) (KR HO160) (by decide)) hk (fun _ h => h.2)) (fun _ h => h.1)); have n1_ := Aside0.mk (KeepBut.trans AHK hk (.inl rfl)); have n2_ := Aside0.mk (hb); have n3_ := Aside0.mk (hi); clear HO160; clear HK; clear HB; clear HI0; have HO160 := n0_; have HK := n1_; have HB := n2_; have HI0 := n3_; clear n0_ n1_ n2_ n3_; (try clear hb); (try clear hb2); (try clear hk); (try clear hi); obtain ⟨Ao43, co43, eo43⟩ := Kd.R_slice HO160.out; subst eo43))
     go_loopg [47] k (fun kq v47 w' => ∃ (x7_1 : List Int) (x47_1 : Int) (x1001_1 : Int) (x1002_1 : Int), v47 = .int .i64 x47_1 ∧ Aside0 (spec_l1Cur_labels.l0 kq t151 x7_1 (t158.length : Int) x47_1 s0_0 x1001_1 x1002_1 = some (r1, r2, r3, r4)) ∧ Aside0 (kq ≤ k) ∧ Aside0 (Kd.R (Kd.int .i64) 3 w' w.heap.size (fun _ => True) (.slice Ao43 t158.length co43) x7_1) ∧ Aside0 (IsS52 w0 w' g s0_0 x1001_1 x1002_1) ∧ Aside0 (KeepBut w w' g none) ∧ Aside0 (Below w0.heap.size w0 w'))
     case atStart => exact ⟨(t158), (0), (t164), (t165), RF, H', ⟨Nat.le_refl _⟩, ⟨KR HO160⟩, ⟨AHI⟩, ⟨AHK⟩, ⟨AHB⟩⟩
     case round =>
      clear H'
      try clear c1
      try clear p1
      try clear q1
      try clear hx1
      try clear c2
      try clear p2
      try clear q2
      try clear hx2
      try clear hf2
      try clear c3
      try clear c5
      try clear p6
      try clear c7
      try clear c8
      try clear c8b0
      try clear c8b1
      try clear c9
      try clear c10
      try clear c11
      try clear c11b0
      try clear c12
      try clear c12b0
      try clear p13
      try clear q13
      try clear hx13
      try clear hf13
      try clear c22
      try clear c22b0
      try clear c22b1
      try clear c25
      try clear c25b0
      try clear c26
      try clear c26b0
      try clear p27
      try clear q27
      try clear hx27
      try clear hf27
      try clear c39
      try clear c39b0
      try clear c39b1
      try clear hx13_0
      try clear hx27_0
      try clear p13
      try clear p27
      try clear q13
      try clear q27
      obtain ⟨x7_1, x47_1, x1001_1, x1002_1, rfl, HA, HK1, HO_7, HI0, HK, HB⟩ := hrel
      have hl7_1 := (Kd.R_reads' HO_7.out).1
      rw [hl7_1] at HO_7
      (try simp only [hl7_1])
      cases gk with
      | zero => exact absurd HA.out (by simp [spec_l1Cur_labels.l0])
      | succ k1 =>
       have H := HA.out
       clear HA
       simp only [spec_l1Cur_labels.l0] at H
       by_cases c44 : x47_1 < (t158.length : Int)
       ·rw [if_pos c44] at H
        have c44b0 : decide (x47_1 < (t158.length : Int)) = true := decide_eq_true c44
        clear c44
        obtain ⟨⟨t183, t184, t185⟩, A450, H⟩ := Option.bind_eq_some_iff.mp H
        replace H : (if 0 ≤ x47_1 then (if x47_1 < (x7_1.length : Int) then (spec_l1Cur_labels.l0 k1 t151 (x7_1.set (x47_1 : Int).toNat t183) (t158.length : Int) (wrap64 (x47_1 + 1)) s0_0 t184 t185) else (none)) else (none)) = some (r1, r2, r3, r4) := H
        have A45 := Aside0.mk A450
        clear A450
        by_cases c46 : 0 ≤ x47_1
        ·rw [if_pos c46] at H
         have c46b0 : decide (0 ≤ x47_1) = true := decide_eq_true c46
         clear c46
         by_cases c47 : x47_1 < (x7_1.length : Int)
         ·rw [if_pos c47] at H
          have c47b0 : decide (x47_1 < (x7_1.length : Int)) = true := decide_eq_true c47
          clear c47
          obtain ⟨y186, hy186⟩ : ∃ y_ : List Int, y_ = (x7_1.set (x47_1 : Int).toNat t183) := ⟨_, rfl⟩
          replace H : (spec_l1Cur_labels.l0 k1 t151 y186 (t158.length : Int) (wrap64 (x47_1 + 1)) s0_0 t184 t185) = some (r1, r2, r3, r4) := HY H hy186
          have Ny186 := Aside0.mk hy186
          clear hy186
          have H' := Aside0.mk H
          clear H
          go_wp2_with (first | ((with_reducible refine gate_callee (f := 72) rfl ?_); refine goesL_ (some 53) rfl rfl Try.func72 (by kernel_rfl) rfl #[.pointer (some ⟨g, 0, none⟩), .int .i64 3] rfl TA ?_; (with_reducible refine (spec_l1Cur_pick.calls g s0_0 x1001_1 x1002_1 3 t183 t184 t185 w0 _ ?side1 ?side2 A45.out).mono ?_); (case side1 => exact AHI); (case side2 => exact AHB); rintro e w49 ⟨rfl, hi, hb, hk⟩; refine ⟨_, rfl, ?_⟩; have n0_ := Aside0.mk (Kd.R_mono (Kd.R_keep (IsS52.apart (show IsS52 w0 _ g s0_0 x1001_1 x1002_1 from AHI) (KR HO_7) (by decide)) hk (fun _ h => h.2)) (fun _ h => h.1)); have n1_ := Aside0.mk (KeepBut.trans AHK hk (.inl rfl)); have n2_ := Aside0.mk (hb); have n3_ := Aside0.mk (hi); clear HO_7; clear HK; clear HB; clear HI0; have HO_7 := n0_; have HK := n1_; have HB := n2_; have HI0 := n3_; clear n0_ n1_ n2_ n3_; (try clear hb); (try clear hb2); (try clear hk); (try clear hi); have p48 : 0 ≤ (x47_1 : Int) := of_decide_eq_true AS; have q48 : (x47_1 : Int) < ((x7_1.length : Int) : Int) := of_decide_eq_true AS; obtain ⟨go48, co48, eo48, gb48, gl48, cl48, HG48⟩ := Kd.R_form HO_7.out (by omega); (first | cases eo48 | (injection eo48 with ea_ en_ ec_; (first | subst ea_ | (injection ea_ with ea_; subst ea_)); subst ec_; clear en_)); have GB48 := Aside0.mk gb48; have GG48 := Aside0.mk HG48; clear gb48 gl48 HG48; obtain ⟨hx48_0, hf48_0⟩ := Kd.R_celln 0 HO_7.out (x47_1 : Int) p48 q48; replace p48 := eq_true p48; replace q48 := eq_true q48; obtain ⟨hy50_, hz50_⟩ := Kd.R_celln 0 HO_7.out (x47_1 : Int) (of_decide_eq_true AS) (of_decide_eq_true AS); have HP50 := Kd.R_putg HO_7.out (x47_1 : Int) t183) | ((with_reducible refine gate_store (t := 3) (p := 54) rfl ?_); refine store_event (t := 3) (p := 54) (v := ?vo_w51) (w1 := (w49.setCell ⟨go48, (x47_1 : Int).toNat, none⟩ (.int .i64 t183))) ?hg ?ho ?hn ?hr ?_; (case ho => rfl); (case hg => rfl); (case hn => rfl); (case hr => exact GS); intro w51 hw; have hg : w49.grownBy w51 (some go48) := (by rw [hw]; exact HP50.2); have hp_ : Kd.R (Kd.int .i64) 3 w51 w.heap.size (fun _ => True) (.slice (some ⟨go48, 0, none⟩) x7_1.length co43) y186 := (by rw [hw, Ny186.out]; exact HP50.1); clear HP50; have n0_ := Aside0.mk (hp_); have n1_ := Aside0.mk (IsS52.grown AHI hg (IsS52.own_ne HI0.out HO_7.out (by decide))); have n2_ := Aside0.mk ((by rw [hw]; exact below_set (HB.out) (Nat.le_trans HL.out GB48.out) : Below w0.heap.size w0 w51)); have n3_ := Aside0.mk (KeepBut.trans AHK (KeepBut.of_grown hg g) (Kd.R_base2 HO_7.out)); clear HO_7; clear HI0; clear HB; clear HK; have HO_7 := n0_; have HI0 := n1_; have HB := n2_; have HK := n3_; clear n0_ n1_ n2_ n3_; clear hg hw hp_))
          (try simp only [← hl7_1])
          go_roundg k1
          case measure => have := HK1.out; omega
          case rel => exact ⟨(y186), (wrap64 (x47_1 + 1)), (t184), (t185), RF, H', ⟨by have := HK1.out; omega⟩, ⟨by (try simp only [hl7_1]); (with_reducible repeat (first | apply Kd.R_alloc | apply Kd.R_drewN | apply Kd.R_drew)); exact HO_7.out⟩, ⟨AHI⟩, ⟨AHK⟩, ⟨AHB⟩⟩
         ·rw [if_neg c47] at H
          cases H
        ·rw [if_neg c46] at H
         cases H
       ·rw [if_neg c44] at H
        have c44b0 : decide (x47_1 < (t158.length : Int)) = false := decide_eq_false c44
        try (have c44bl := c44b0; rw [hl7_1] at c44bl)
        clear c44
        simp only [Option.some.injEq, Prod.mk.injEq] at H
        obtain ⟨rfl, rfl, rfl, rfl⟩ := H
        go_wp2
        go_ret2
        exact ⟨_, RE, KR HO_7, AHI, AHB, AHK⟩
    ·rw [if_neg c39] at H
     have c39b0 : (t163 == 2) = false := beq_eq_false_iff_ne.mpr c39
     have c39b1 : (t163 != 2) = true := bne_iff_ne.mpr c39
     by_cases c52 : t163 = 3
     ·rw [if_pos c52] at H
      have c52b0 : (t163 == 3) = true := beq_iff_eq.mpr c52
      have c52b1 : (t163 != 3) = false := bne_eq_false_iff_eq.mpr c52
      clear c52
      by_cases c53 : t158.length < 17592186044416
      ·rw [if_pos c53] at H
       have LMc53 := Aside0.mk c53
       clear c53
       obtain ⟨y187, hy187⟩ : ∃ y_ : List Int, y_ = (t158 ++ [0]) := ⟨_, rfl⟩
       replace H : (some (t151, y187, t164, t165)) = some (r1, r2, r3, r4) := HY H hy187
       have Ny187 := Aside0.mk hy187
       clear hy187
       simp only [Option.some.injEq, Prod.mk.injEq] at H
       obtain ⟨rfl, rfl, rfl, rfl⟩ := H
       go_enter Try.func82, Try.ntmps82
       go_wp2_with (first | ((with_reducible refine gate_callee (f := 105) rfl ?_); refine goesL_ (some 11) rfl rfl Try.func105 (by kernel_rfl) rfl #[.pointer (some ⟨g, 0, none⟩), .int .i64 a1] rfl TA ?_; (with_reducible refine (spec_l1Cur_side.calls g s0_0 s0_1 s0_2 a1 t151 t152 t153 w0 _ ?side1 ?side2 A3.out).mono ?_); (case side1 => exact AHI); (case side2 => exact AHB); rintro e w54 ⟨rfl, hi, hb, hk⟩; refine ⟨_, rfl, ?_⟩; have n0_ := Aside0.mk (KeepBut.trans AHK hk (.inl rfl)); have n1_ := Aside0.mk (hb); have n2_ := Aside0.mk (hi); clear HK; clear HB; clear HI0; have HK := n0_; have HB := n1_; have HI0 := n2_; clear n0_ n1_ n2_; (try clear hb); (try clear hb2); (try clear hk); (try clear hi)) | ((with_reducible refine gate_callee (f := 83) rfl ?_); refine goesL_ (some 13) rfl rfl Try.func83 (by kernel_rfl) rfl #[.int .i64 t151] rfl TA ?_; (with_reducible refine (spec_meSide.calls t151 true _ A4.out).mono ?_); rintro e w' ⟨rfl, ⟨nd, rfl⟩⟩; refine ⟨_, rfl, ?_⟩) | ((with_reducible refine gate_callee (f := 106) rfl ?_); refine goesL_ (some 19) rfl rfl Try.func106 (by kernel_rfl) rfl #[.pointer (some ⟨g, 0, none⟩), .int .i64 t151] rfl TA ?_; (with_reducible refine (spec_l1Cur_sureLabels.calls k g s0_0 t152 t153 t151 t158 t161 t162 w0 _ ?side1 ?side2 A6.out).mono ?_); (case side1 => exact AHI); (case side2 => exact AHB); rintro e w55 ⟨v159, rfl, ho0, hi, hb, hk⟩; refine ⟨_, rfl, ?_⟩; have n0_ := Aside0.mk (Kd.R_lower ho0 (keep_size (w := w) (g := g) (row := none) AHK)); have n1_ := Aside0.mk (KeepBut.trans AHK hk (.inl rfl)); have n2_ := Aside0.mk (hb); have n3_ := Aside0.mk (hi); clear HK; clear HB; clear HI0; have HO160 := n0_; have HK := n1_; have HB := n2_; have HI0 := n3_; clear n0_ n1_ n2_ n3_; (try clear hb); (try clear hb2); (try clear hk); (try clear hi); (try clear ho0)) | ((with_reducible refine gate_callee (f := 72) rfl ?_); refine goesL_ (some 21) rfl rfl Try.func72 (by kernel_rfl) rfl #[.pointer (some ⟨g, 0, none⟩), .int .i64 10] rfl TA ?_; (with_reducible refine (spec_l1Cur_pick.calls g s0_0 t161 t162 10 t163 t164 t165 w0 _ ?side1 ?side2 A7.out).mono ?_); (case side1 => exact AHI); (case side2 => exact AHB); rintro e w56 ⟨rfl, hi, hb, hk⟩; refine ⟨_, rfl, ?_⟩; have n0_ := Aside0.mk (Kd.R_mono (Kd.R_keep (IsS52.apart (show IsS52 w0 _ g s0_0 t161 t162 from AHI) (KR HO160) (by decide)) hk (fun _ h => h.2)) (fun _ h => h.1)); have n1_ := Aside0.mk (KeepBut.trans AHK hk (.inl rfl)); have n2_ := Aside0.mk (hb); have n3_ := Aside0.mk (hi); clear HO160; clear HK; clear HB; clear HI0; have HO160 := n0_; have HK := n1_; have HB := n2_; have HI0 := n3_; clear n0_ n1_ n2_ n3_; (try clear hb); (try clear hb2); (try clear hk); (try clear hi)) | ((with_reducible refine gate_builtin (b := .append) (xs := #[.tmp 58, .tmp 59]) rfl ?_); at_builtin; refine Kd.R_append (Kd.int .i64) w.heap.size rfl (.tmp 58) (.tmp 59) 24 3 (.int .i64 0) 8 rfl Try.underlying24 info3 rfl (by decide) (by omega) v159 t158 0 [.int .i64 0] (fun _ => True) (fun _ => False) rfl rfl ?aP (fun _ hk => hk.elim) ?aF ?aO (Below.refl _ _) ?aS ?aL ?_; (case aP => exact rfl); (case aF => exact (fun _ _ => trivial)); (case aO => exact (KR HO160)); (case aS => exact (keep_size (w := w) (g := g) (row := none) AHK)); (case aL => have := LMc53.out; omega); intro v188 w57 ho hb hg hat; rw [← Ny187.out] at ho; have n0_ := Aside0.mk (IsS52.grown AHI hg (IsS52.own_ne HI0.out HO160.out (by decide))); have n1_ := Aside0.mk (below_weaken AHB HL.out hb); have n2_ := Aside0.mk (KeepBut.trans AHK (KeepBut.of_grown hg g) (Kd.R_base2 HO160.out)); have n3_ := Aside0.mk (ho); clear HI0; clear HB; clear HK; clear HO160; have HI0 := n0_; have HB := n1_; have HK := n2_; have HO189 := n3_; clear n0_ n1_ n2_ n3_; clear ho hb hg hat))
       go_ret2
       exact ⟨_, RE, KR HO189, AHI, AHB, AHK⟩
      ·rw [if_neg c53] at H
       cases H
     ·rw [if_neg c52] at H
      have c52b0 : (t163 == 3) = false := beq_eq_false_iff_ne.mpr c52
      have c52b1 : (t163 != 3) = true := bne_iff_ne.mpr c52
      simp only [Option.some.injEq, Prod.mk.injEq] at H
      obtain ⟨rfl, rfl, rfl, rfl⟩ := H
      go_enter Try.func82, Try.ntmps82
      go_wp2_with (first | ((with_reducible refine gate_callee (f := 105) rfl ?_); refine goesL_ (some 11) rfl rfl Try.func105 (by kernel_rfl) rfl #[.pointer (some ⟨g, 0, none⟩), .int .i64 a1] rfl TA ?_; (with_reducible refine (spec_l1Cur_side.calls g s0_0 s0_1 s0_2 a1 t151 t152 t153 w0 _ ?side1 ?side2 A3.out).mono ?_); (case side1 => exact AHI); (case side2 => exact AHB); rintro e w58 ⟨rfl, hi, hb, hk⟩; refine ⟨_, rfl, ?_⟩; have n0_ := Aside0.mk (KeepBut.trans AHK hk (.inl rfl)); have n1_ := Aside0.mk (hb); have n2_ := Aside0.mk (hi); clear HK; clear HB; clear HI0; have HK := n0_; have HB := n1_; have HI0 := n2_; clear n0_ n1_ n2_; (try clear hb); (try clear hb2); (try clear hk); (try clear hi)) | ((with_reducible refine gate_callee (f := 83) rfl ?_); refine goesL_ (some 13) rfl rfl Try.func83 (by kernel_rfl) rfl #[.int .i64 t151] rfl TA ?_; (with_reducible refine (spec_meSide.calls t151 true _ A4.out).mono ?_); rintro e w' ⟨rfl, ⟨nd, rfl⟩⟩; refine ⟨_, rfl, ?_⟩) | ((with_reducible refine gate_callee (f := 106) rfl ?_); refine goesL_ (some 19) rfl rfl Try.func106 (by kernel_rfl) rfl #[.pointer (some ⟨g, 0, none⟩), .int .i64 t151] rfl TA ?_; (with_reducible refine (spec_l1Cur_sureLabels.calls k g s0_0 t152 t153 t151 t158 t161 t162 w0 _ ?side1 ?side2 A6.out).mono ?_); (case side1 => exact AHI); (case side2 => exact AHB); rintro e w59 ⟨v159, rfl, ho0, hi, hb, hk⟩; refine ⟨_, rfl, ?_⟩; have n0_ := Aside0.mk (Kd.R_lower ho0 (keep_size (w := w) (g := g) (row := none) AHK)); have n1_ := Aside0.mk (KeepBut.trans AHK hk (.inl rfl)); have n2_ := Aside0.mk (hb); have n3_ := Aside0.mk (hi); clear HK; clear HB; clear HI0; have HO160 := n0_; have HK := n1_; have HB := n2_; have HI0 := n3_; clear n0_ n1_ n2_ n3_; (try clear hb); (try clear hb2); (try clear hk); (try clear hi); (try clear ho0)) | ((with_reducible refine gate_callee (f := 72) rfl ?_); refine goesL_ (some 21) rfl rfl Try.func72 (by kernel_rfl) rfl #[.pointer (some ⟨g, 0, none⟩), .int .i64 10] rfl TA ?_; (with_reducible refine (spec_l1Cur_pick.calls g s0_0 t161 t162 10 t163 t164 t165 w0 _ ?side1 ?side2 A7.out).mono ?_); (case side1 => exact AHI); (case side2 => exact AHB); rintro e w60 ⟨rfl, hi, hb, hk⟩; refine ⟨_, rfl, ?_⟩; have n0_ := Aside0.mk (Kd.R_mono (Kd.R_keep (IsS52.apart (show IsS52 w0 _ g s0_0 t161 t162 from AHI) (KR HO160) (by decide)) hk (fun _ h => h.2)) (fun _ h => h.1)); have n1_ := Aside0.mk (KeepBut.trans AHK hk (.inl rfl)); have n2_ := Aside0.mk (hb); have n3_ := Aside0.mk (hi); clear HO160; clear HK; clear HB; clear HI0; have HO160 := n0_; have HK := n1_; have HB := n2_; have HI0 := n3_; clear n0_ n1_ n2_ n3_; (try clear hb); (try clear hb2); (try clear hk); (try clear hi)))
      go_ret2
      exact ⟨_, RE, KR HO160, AHI, AHB, AHK⟩
 ·replace c5 := Bool.eq_false_iff.mpr c5
  subst c5
  replace H := IN H
  obtain ⟨y155, hy155⟩ : ∃ y_ : List Int, y_ = (([0, 1, 2] : List Int)) := ⟨_, rfl⟩
  replace H : (some (t151, y155, t152, t153)) = some (r1, r2, r3, r4) := HY H hy155
  have Ny155 := Aside0.mk hy155
  clear hy155
  simp only [Option.some.injEq, Prod.mk.injEq] at H
  obtain ⟨rfl, rfl, rfl, rfl⟩ := H
  go_enter Try.func82, Try.ntmps82
  go_wp2_with (first | ((with_reducible refine gate_callee (f := 105) rfl ?_); refine goesL_ (some 11) rfl rfl Try.func105 (by kernel_rfl) rfl #[.pointer (some ⟨g, 0, none⟩), .int .i64 a1] rfl TA ?_; (with_reducible refine (spec_l1Cur_side.calls g s0_0 s0_1 s0_2 a1 t151 t152 t153 w0 _ ?side1 ?side2 A3.out).mono ?_); (case side1 => exact AHI); (case side2 => exact AHB); rintro e w61 ⟨rfl, hi, hb, hk⟩; refine ⟨_, rfl, ?_⟩; have n0_ := Aside0.mk (KeepBut.trans AHK hk (.inl rfl)); have n1_ := Aside0.mk (hb); have n2_ := Aside0.mk (hi); clear HK; clear HB; clear HI0; have HK := n0_; have HB := n1_; have HI0 := n2_; clear n0_ n1_ n2_; (try clear hb); (try clear hb2); (try clear hk); (try clear hi)) | ((with_reducible refine gate_callee (f := 83) rfl ?_); refine goesL_ (some 13) rfl rfl Try.func83 (by kernel_rfl) rfl #[.int .i64 t151] rfl TA ?_; (with_reducible refine (spec_meSide.calls t151 false _ A4.out).mono ?_); rintro e w' ⟨rfl, ⟨nd, rfl⟩⟩; refine ⟨_, rfl, ?_⟩) | ((with_reducible refine gate_dst (N := 16) rfl ?_); refine Kd.R_lit (Kd.int .i64) _ 3 ?hg (N := 16) ?hd (xs := ([0, 1, 2] : List Int)) (inner := [.int .i64 0, .int .i64 1, .int .i64 2]) (ok := fun _ => True) (okp := fun _ => True) ?hr ?hp (fun _ hk => hk) trivial (Below.refl _ _) (Nat.le_refl _) (by simp) ?_; (case hd => rfl); (case hg => rfl); (case hr => exact GS); (case hp => exact (Reps.one (show Kd.M (Kd.int .i64) _ _ _ 0 [.int .i64 0] from rfl) (Reps.one (show Kd.M (Kd.int .i64) _ _ _ 1 [.int .i64 1] from rfl) (Reps.one (show Kd.M (Kd.int .i64) _ _ _ 2 [.int .i64 2] from rfl) (Reps.none _ _))))); intro v156 w62 ho63 hb hg_ hnew_; clear hg_ hnew_; (first | rw [← Ny155.out] at ho63 | (simp only [Int.reduceToNat] at ho63; rw [← Ny155.out] at ho63)); have n0_ := Aside0.mk (Kd.R_lower ho63 (keep_size (w := w) (g := g) (row := none) AHK)); have n1_ := Aside0.mk (IsS52.below AHI hb); have n2_ := Aside0.mk (KeepBut.trans AHK (KeepBut.of_below hb g none) (.inl rfl)); have n3_ := Aside0.mk (below_step AHB hb); clear HI0; clear HK; clear HB; have HO157 := n0_; have HI0 := n1_; have HK := n2_; have HB := n3_; clear n0_ n1_ n2_ n3_; clear hb ho63))
  go_ret2
  exact ⟨_, RE, KR HO157, AHI, AHB, AHK⟩

/-! ### spec_l1Cur_anyLabels: function 48 -/
mutual
def spec_l1Cur_anyLabels.j0 : Nat → Int → List Int → Bool → List Int → Int → Int → Option (Int × List Int × Int × Int)
 | 0, _, _, _, _, _, _ => none
 | k + 1, x6, x7, x21, x1000, x1001, x1002 => if x21 = true then ((spec_l1Cur_pick.f x1000 x1001 x1002 8).bind fun bt200 => (spec_l1Cur_anyLabels.l0 k x6 x7 bt200.1 x1000 bt200.2.1 bt200.2.2)) else (some (x6, x7, x1001, x1002))
def spec_l1Cur_anyLabels.l0 : Nat → Int → List Int → Int → List Int → Int → Int → Option (Int × List Int × Int × Int)
 | 0, _, _, _, _, _, _ => none
 | k + 1, x6, x7, x8, x1000, x1001, x1002 => if x8 > 0 then ((spec_l1Cur_pick.f x1000 x1001 x1002 (x7.length : Int)).bind fun bt203 => ((spec_l1Cur_pick.f x1000 bt203.2.1 bt203.2.2 3).bind fun bt206 => (if 0 ≤ bt203.1 then (if bt203.1 < (x7.length : Int) then (spec_l1Cur_anyLabels.l0 k x6 (x7.set (bt203.1 : Int).toNat bt206.1) (wrap64 (x8 - 1)) x1000 bt206.2.1 bt206.2.2) else (none)) else (none)))) else (some (x6, x7, x1001, x1002))
end
def spec_l1Cur_anyLabels.f (k : Nat) (s0_0 : List Int) (s0_1 : Int) (s0_2 : Int) (a1 : Int) : Option (Int × List Int × Int × Int) := (spec_l1Cur_labels.f k s0_0 s0_1 s0_2 a1).bind fun bt190 => ((spec_meLabels.f k bt190.1 bt190.2.1).bind fun t196 => (if t196 = true then ((spec_l1Cur_one.f s0_0 bt190.2.2.1 bt190.2.2.2 2).bind fun bt197 => (spec_l1Cur_anyLabels.j0 k bt190.1 bt190.2.1 bt197.1 s0_0 bt197.2.1 bt197.2.2)) else (spec_l1Cur_anyLabels.j0 k bt190.1 bt190.2.1 false s0_0 bt190.2.2.1 bt190.2.2.2)))
theorem spec_l1Cur_anyLabels.mono_l : ∀ k, (∀ y0 y1 y2 y3 y4 y5, LeO (spec_l1Cur_anyLabels.j0 k y0 y1 y2 y3 y4 y5) (spec_l1Cur_anyLabels.j0 (k + 1) y0 y1 y2 y3 y4 y5)) ∧ (∀ y0 y1 y2 y3 y4 y5, LeO (spec_l1Cur_anyLabels.l0 k y0 y1 y2 y3 y4 y5) (spec_l1Cur_anyLabels.l0 (k + 1) y0 y1 y2 y3 y4 y5))
 | 0 => ⟨fun _ _ _ _ _ _ r h => by simp [spec_l1Cur_anyLabels.j0] at h, fun _ _ _ _ _ _ r h => by simp [spec_l1Cur_anyLabels.l0] at h⟩
 | k + 1 => by
  obtain ⟨ih0, ih1⟩ := spec_l1Cur_anyLabels.mono_l k
  refine ⟨?_, ?_⟩
  ·intro y0 y1 y2 y3 y4 y5
   unfold spec_l1Cur_anyLabels.j0
   repeat' first
   | with_reducible first | exact ih0 _ _ _ _ _ _ | exact ih1 _ _ _ _ _ _ | exact spec_l1Cur_labels.mono _ _ _ _ _ | exact spec_meLabels.mono _ _ _ | exact LeO.refl _ | exact LeO.none _ | refine LeO.ite ?_ ?_ | refine LeO.bind ?_ (fun _ => ?_)
   | exact LeO.none _ | refine LeO.ite ?_ ?_ | refine LeO.bind ?_ (fun _ => ?_)
  ·intro y0 y1 y2 y3 y4 y5
   unfold spec_l1Cur_anyLabels.l0
   repeat' first
   | with_reducible first | exact ih0 _ _ _ _ _ _ | exact ih1 _ _ _ _ _ _ | exact spec_l1Cur_labels.mono _ _ _ _ _ | exact spec_meLabels.mono _ _ _ | exact LeO.refl _ | exact LeO.none _ | refine LeO.ite ?_ ?_ | refine LeO.bind ?_ (fun _ => ?_)
   | exact LeO.none _ | refine LeO.ite ?_ ?_ | refine LeO.bind ?_ (fun _ => ?_)
theorem spec_l1Cur_anyLabels.mono : ∀ a0 a1 a2 a3 k, LeO (spec_l1Cur_anyLabels.f k a0 a1 a2 a3) (spec_l1Cur_anyLabels.f (k + 1) a0 a1 a2 a3) := by
 intro a0 a1 a2 a3 k
 obtain ⟨ih0, ih1⟩ := spec_l1Cur_anyLabels.mono_l k
 unfold spec_l1Cur_anyLabels.f
 repeat' first
   | with_reducible first | exact ih0 _ _ _ _ _ _ | exact ih1 _ _ _ _ _ _ | exact spec_l1Cur_labels.mono _ _ _ _ _ | exact spec_meLabels.mono _ _ _ | exact LeO.refl _ | exact LeO.none _ | refine LeO.ite ?_ ?_ | refine LeO.bind ?_ (fun _ => ?_)
   | exact LeO.none _ | refine LeO.ite ?_ ?_ | refine LeO.bind ?_ (fun _ => ?_)
theorem spec_l1Cur_anyLabels.calls (k : Nat) (g : Nat) (s0_0 : List Int) (s0_1 : Int) (s0_2 : Int) (a1 : Int) (r1 : Int) (r2 : List Int) (r3 : Int) (r4 : Int) (w0 w : World) (hI : IsS52 w0 w g s0_0 s0_1 s0_2) (hB : Below w0.heap.size w0 w) (h : spec_l1Cur_anyLabels.f k s0_0 s0_1 s0_2 a1 = some (r1, r2, r3, r4)) :
  Calls Try.prog 48 #[.pointer (some ⟨g, 0, none⟩), .int .i64 a1] w fun e w' => ∃ v1_ : Value, e = .returned (.tuple #[.int .i64 r1, v1_]) ∧ Kd.R (Kd.int .i64) 3 w' w.heap.size (fun _ => True) v1_ r2 ∧ IsS52 w0 w' g s0_0 r3 r4 ∧ Below w0.heap.size w0 w' ∧ KeepBut w w' g none := by
 have HI0 := Aside0.mk hI
 have HK := Aside0.mk (KeepBut.refl w g none)
 have HL := Aside0.mk hB.size
 clear hI
 have HW0 := Aside0.mk hB.size
 have HB := Aside0.mk hB
 clear hB
 have H : ((spec_l1Cur_labels.f k s0_0 s0_1 s0_2 a1).bind fun bt190 => ((spec_meLabels.f k bt190.1 bt190.2.1).bind fun t196 => (if t196 = true then ((spec_l1Cur_one.f s0_0 bt190.2.2.1 bt190.2.2.2 2).bind fun bt197 => (spec_l1Cur_anyLabels.j0 k bt190.1 bt190.2.1 bt197.1 s0_0 bt197.2.1 bt197.2.2)) else (spec_l1Cur_anyLabels.j0 k bt190.1 bt190.2.1 false s0_0 bt190.2.2.1 bt190.2.2.2)))) = some (r1, r2, r3, r4) := h
 clear h
 obtain ⟨⟨t190, t191, t194, t195⟩, A30, H⟩ := Option.bind_eq_some_iff.mp H
 replace H : ((spec_meLabels.f k t190 t191).bind fun t196 => (if t196 = true then ((spec_l1Cur_one.f s0_0 t194 t195 2).bind fun bt197 => (spec_l1Cur_anyLabels.j0 k t190 t191 bt197.1 s0_0 bt197.2.1 bt197.2.2)) else (spec_l1Cur_anyLabels.j0 k t190 t191 false s0_0 t194 t195))) = some (r1, r2, r3, r4) := H
 have A3 := Aside0.mk A30
 clear A30
 have HC4 := Aside0.mk H
 clear H
 go_enter Try.func48, Try.ntmps48
 go_upto_region 2 with (first | ((with_reducible refine gate_callee (f := 82) rfl ?_); refine goesL_ (some 12) rfl rfl Try.func82 (by kernel_rfl) rfl #[.pointer (some ⟨g, 0, none⟩), .int .i64 a1] rfl TA ?_; (with_reducible refine (spec_l1Cur_labels.calls k g s0_0 s0_1 s0_2 a1 t190 t191 t194 t195 w0 _ ?side1 ?side2 A3.out).mono ?_); (case side1 => exact AHI); (case side2 => exact AHB); rintro e w5 ⟨v192, rfl, ho0, hi, hb, hk⟩; refine ⟨_, rfl, ?_⟩; have n0_ := Aside0.mk (Kd.R_lower ho0 (keep_size (w := w) (g := g) (row := none) AHK)); have n1_ := Aside0.mk (KeepBut.trans AHK hk (.inl rfl)); have n2_ := Aside0.mk (hb); have n3_ := Aside0.mk (hi); clear HK; clear HB; clear HI0; have HO193 := n0_; have HK := n1_; have HB := n2_; have HI0 := n3_; clear n0_ n1_ n2_ n3_; (try clear hb); (try clear hb2); (try clear hk); (try clear hi); (try clear ho0)))
 (try simp only [Act.put, List.setIfInBounds_toArray, List.set_cons_zero, List.set_cons_succ])
 go_cut [21] (fun v21 wc => ∃ (kq : Nat) (x21_3 : Bool) (x1001_3 : Int) (x1002_3 : Int), v21 = .bool x21_3 ∧ Aside0 (spec_l1Cur_anyLabels.j0 kq t190 t191 x21_3 s0_0 x1001_3 x1002_3 = some (r1, r2, r3, r4)) ∧ Aside0 (kq ≤ k) ∧ Aside0 (Kd.R (Kd.int .i64) 3 wc w.heap.size (fun _ => True) v192 t191) ∧ Aside0 (IsS52 w0 wc g s0_0 x1001_3 x1002_3) ∧ Aside0 (KeepBut w wc g none) ∧ Aside0 (Below w0.heap.size w0 wc))
 case first =>
  have H := HC4.out
  clear HC4
  obtain ⟨t196, A60, H⟩ := Option.bind_eq_some_iff.mp H
  have A6 := Aside0.mk A60
  clear A60
  by_cases c7 : t196 = true
  ·subst c7
   replace H := IP H
   obtain ⟨⟨t197, t198, t199⟩, A80, H⟩ := Option.bind_eq_some_iff.mp H
   replace H : (spec_l1Cur_anyLabels.j0 k t190 t191 t197 s0_0 t198 t199) = some (r1, r2, r3, r4) := H
   have A8 := Aside0.mk A80
   clear A80
   have H' := Aside0.mk H
   clear H
   obtain ⟨Ao9, co9, eo9⟩ := Kd.R_slice HO193.out
   subst eo9
   go_wp2_with (first | ((with_reducible refine gate_callee (f := 49) rfl ?_); refine goesL_ (some 17) rfl rfl Try.func49 (by kernel_rfl) rfl #[.int .i64 t190, .slice Ao9 t191.length co9] rfl TA ?_; (with_reducible refine (spec_meLabels.calls k t190 _ _ t191 true _ ?side1 ?side2 A6.out).mono ?_); (case side1 => exact CW (Kd.R_reads' HO193.out).2.2); (case side2 => exact (Kd.R_reads' HO193.out).2.1); rintro e w' ⟨rfl, ⟨nd, rfl⟩⟩; refine ⟨_, rfl, ?_⟩) | (go_at_call 71; (with_reducible refine (spec_l1Cur_one.calls g s0_0 t194 t195 2 t197 t198 t199 w0 _ ?side1 ?side2 A8.out).mono ?_); (case side1 => exact AHI); (case side2 => exact AHB); rintro e w10 ⟨rfl, hi, hb, hk⟩; have n0_ := Aside0.mk (Kd.R_mono (Kd.R_keep (IsS52.apart (show IsS52 w0 _ g s0_0 t194 t195 from AHI) (KR HO193) (by decide)) hk (fun _ h => h.2)) (fun _ h => h.1)); have n1_ := Aside0.mk (KeepBut.trans AHK hk (.inl rfl)); have n2_ := Aside0.mk (hb); have n3_ := Aside0.mk (hi); clear HO193; clear HK; clear HB; clear HI0; have HO193 := n0_; have HK := n1_; have HB := n2_; have HI0 := n3_; clear n0_ n1_ n2_ n3_; (try clear hb); (try clear hb2); (try clear hk); (try clear hi)))
   go_meet
   case rel => exact ⟨_, (t197), (t198), (t199), RF, H', ⟨by first | omega | exact Nat.le_refl _⟩, ⟨KR HO193⟩, ⟨AHI⟩, ⟨AHK⟩, ⟨AHB⟩⟩
  ·replace c7 := Bool.eq_false_iff.mpr c7
   subst c7
   replace H := IN H
   have H' := Aside0.mk H
   clear H
   obtain ⟨Ao11, co11, eo11⟩ := Kd.R_slice HO193.out
   subst eo11
   go_wp2_with (first | ((with_reducible refine gate_callee (f := 49) rfl ?_); refine goesL_ (some 17) rfl rfl Try.func49 (by kernel_rfl) rfl #[.int .i64 t190, .slice Ao11 t191.length co11] rfl TA ?_; (with_reducible refine (spec_meLabels.calls k t190 _ _ t191 false _ ?side1 ?side2 A6.out).mono ?_); (case side1 => exact CW (Kd.R_reads' HO193.out).2.2); (case side2 => exact (Kd.R_reads' HO193.out).2.1); rintro e w' ⟨rfl, ⟨nd, rfl⟩⟩; refine ⟨_, rfl, ?_⟩))
   go_meet
   case rel => exact ⟨_, (false), (t194), (t195), RF, H', ⟨by first | omega | exact Nat.le_refl _⟩, ⟨KR HO193⟩, ⟨AHI⟩, ⟨AHK⟩, ⟨AHB⟩⟩
 case rest =>
  clear HC4
  try clear p2
  try clear c4
  try clear p6
  try clear c7
  try clear c8
  obtain ⟨kq, x21_3, x1001_3, x1002_3, rfl, HA, HJ3, HO_7, HI0, HK, HB⟩ := hcut
  cases kq with
  | zero => exact absurd HA.out (by simp [spec_l1Cur_anyLabels.j0])
  | succ kj3 =>
   have H := HA.out
   clear HA
   simp only [spec_l1Cur_anyLabels.j0] at H
   by_cases c12 : x21_3 = true
   ·subst c12
    replace H := IP H
    obtain ⟨⟨t200, t201, t202⟩, A130, H⟩ := Option.bind_eq_some_iff.mp H
    replace H : (spec_l1Cur_anyLabels.l0 kj3 t190 t191 t200 s0_0 t201 t202) = some (r1, r2, r3, r4) := H
    have A13 := Aside0.mk A130
    clear A130
    have H' := Aside0.mk H
    clear H
    go_wp2_with (first | ((with_reducible refine gate_callee (f := 72) rfl ?_); refine goesL_ (some 23) rfl rfl Try.func72 (by kernel_rfl) rfl #[.pointer (some ⟨g, 0, none⟩), .int .i64 8] rfl TA ?_; (with_reducible refine (spec_l1Cur_pick.calls g s0_0 x1001_3 x1002_3 8 t200 t201 t202 w0 _ ?side1 ?side2 A13.out).mono ?_); (case side1 => exact AHI); (case side2 => exact AHB); rintro e w14 ⟨rfl, hi, hb, hk⟩; refine ⟨_, rfl, ?_⟩; have n0_ := Aside0.mk (Kd.R_mono (Kd.R_keep (IsS52.apart (show IsS52 w0 _ g s0_0 x1001_3 x1002_3 from AHI) (KR HO_7) (by decide)) hk (fun _ h => h.2)) (fun _ h => h.1)); have n1_ := Aside0.mk (KeepBut.trans AHK hk (.inl rfl)); have n2_ := Aside0.mk (hb); have n3_ := Aside0.mk (hi); clear HO_7; clear HK; clear HB; clear HI0; have HO_7 := n0_; have HK := n1_; have HB := n2_; have HI0 := n3_; clear n0_ n1_ n2_ n3_; (try clear hb); (try clear hb2); (try clear hk); (try clear hi)))
    go_loopg [8] kj3 (fun kq v8 w' => ∃ (x7_2 : List Int) (x8_2 : Int) (x1001_2 : Int) (x1002_2 : Int), v8 = .int .i64 x8_2 ∧ Aside0 (spec_l1Cur_anyLabels.l0 kq t190 x7_2 x8_2 s0_0 x1001_2 x1002_2 = some (r1, r2, r3, r4)) ∧ Aside0 (kq ≤ kj3) ∧ Aside0 (Kd.R (Kd.int .i64) 3 w' w.heap.size (fun _ => True) v192 x7_2) ∧ Aside0 (IsS52 w0 w' g s0_0 x1001_2 x1002_2) ∧ Aside0 (KeepBut w w' g none) ∧ Aside0 (Below w0.heap.size w0 w'))
    case atStart => exact ⟨(t191), (t200), (t201), (t202), RF, H', ⟨Nat.le_refl _⟩, ⟨KR HO_7⟩, ⟨AHI⟩, ⟨AHK⟩, ⟨AHB⟩⟩
    case round =>
     clear H'
     try clear c1
     try clear p2
     try clear c4
     try clear p6
     try clear c7
     try clear c8
     try clear c12
     try clear p2
     try clear p6
     obtain ⟨x7_2, x8_2, x1001_2, x1002_2, rfl, HA, HK2, HO_7, HI0, HK, HB⟩ := hrel
     cases gk with
     | zero => exact absurd HA.out (by simp [spec_l1Cur_anyLabels.l0])
     | succ k2 =>
      have H := HA.out
      clear HA
      simp only [spec_l1Cur_anyLabels.l0] at H
      by_cases c15 : x8_2 > 0
      ·rw [if_pos c15] at H
       have c15b0 : decide (0 < x8_2) = true := decide_eq_true c15
       clear c15
       obtain ⟨⟨t203, t204, t205⟩, A160, H⟩ := Option.bind_eq_some_iff.mp H
       replace H : ((spec_l1Cur_pick.f s0_0 t204 t205 3).bind fun bt206 => (if 0 ≤ t203 then (if t203 < (x7_2.length : Int) then (spec_l1Cur_anyLabels.l0 k2 t190 (x7_2.set (t203 : Int).toNat bt206.1) (wrap64 (x8_2 - 1)) s0_0 bt206.2.1 bt206.2.2) else (none)) else (none))) = some (r1, r2, r3, r4) := H
       have A16 := Aside0.mk A160
       clear A160
       obtain ⟨⟨t206, t207, t208⟩, A170, H⟩ := Option.bind_eq_some_iff.mp H
       replace H : (if 0 ≤ t203 then (if t203 < (x7_2.length : Int) then (spec_l1Cur_anyLabels.l0 k2 t190 (x7_2.set (t203 : Int).toNat t206) (wrap64 (x8_2 - 1)) s0_0 t207 t208) else (none)) else (none)) = some (r1, r2, r3, r4) := H
       have A17 := Aside0.mk A170
       clear A170
       by_cases c18 : 0 ≤ t203
       ·rw [if_pos c18] at H
        have c18b0 : decide (0 ≤ t203) = true := decide_eq_true c18
        clear c18
        by_cases c19 : t203 < (x7_2.length : Int)
        ·rw [if_pos c19] at H
         have c19b0 : decide (t203 < (x7_2.length : Int)) = true := decide_eq_true c19
         clear c19
         obtain ⟨y209, hy209⟩ : ∃ y_ : List Int, y_ = (x7_2.set (t203 : Int).toNat t206) := ⟨_, rfl⟩
         replace H : (spec_l1Cur_anyLabels.l0 k2 t190 y209 (wrap64 (x8_2 - 1)) s0_0 t207 t208) = some (r1, r2, r3, r4) := HY H hy209
         have Ny209 := Aside0.mk hy209
         clear hy209
         have H' := Aside0.mk H
         clear H
         obtain ⟨Ao21, co21, eo21⟩ := Kd.R_slice HO_7.out
         subst eo21
         go_wp2_with (first | ((with_reducible refine gate_callee (f := 72) rfl ?_); refine goesL_ (some 32) rfl rfl Try.func72 (by kernel_rfl) rfl #[.pointer (some ⟨g, 0, none⟩), .int .i64 (x7_2.length : Int)] rfl TA ?_; (with_reducible refine (spec_l1Cur_pick.calls g s0_0 x1001_2 x1002_2 (x7_2.length : Int) t203 t204 t205 w0 _ ?side1 ?side2 A16.out).mono ?_); (case side1 => exact AHI); (case side2 => exact AHB); rintro e w22 ⟨rfl, hi, hb, hk⟩; refine ⟨_, rfl, ?_⟩; have n0_ := Aside0.mk (Kd.R_mono (Kd.R_keep (IsS52.apart (show IsS52 w0 _ g s0_0 x1001_2 x1002_2 from AHI) (KR HO_7) (by decide)) hk (fun _ h => h.2)) (fun _ h => h.1)); have n1_ := Aside0.mk (KeepBut.trans AHK hk (.inl rfl)); have n2_ := Aside0.mk (hb); have n3_ := Aside0.mk (hi); clear HO_7; clear HK; clear HB; clear HI0; have HO_7 := n0_; have HK := n1_; have HB := n2_; have HI0 := n3_; clear n0_ n1_ n2_ n3_; (try clear hb); (try clear hb2); (try clear hk); (try clear hi)) | ((with_reducible refine gate_callee (f := 72) rfl ?_); refine goesL_ (some 34) rfl rfl Try.func72 (by kernel_rfl) rfl #[.pointer (some ⟨g, 0, none⟩), .int .i64 3] rfl TA ?_; (with_reducible refine (spec_l1Cur_pick.calls g s0_0 t204 t205 3 t206 t207 t208 w0 _ ?side1 ?side2 A17.out).mono ?_); (case side1 => exact AHI); (case side2 => exact AHB); rintro e w23 ⟨rfl, hi, hb, hk⟩; refine ⟨_, rfl, ?_⟩; have n0_ := Aside0.mk (Kd.R_mono (Kd.R_keep (IsS52.apart (show IsS52 w0 _ g s0_0 t204 t205 from AHI) (KR HO_7) (by decide)) hk (fun _ h => h.2)) (fun _ h => h.1)); have n1_ := Aside0.mk (KeepBut.trans AHK hk (.inl rfl)); have n2_ := Aside0.mk (hb); have n3_ := Aside0.mk (hi); clear HO_7; clear HK; clear HB; clear HI0; have HO_7 := n0_; have HK := n1_; have HB := n2_; have HI0 := n3_; clear n0_ n1_ n2_ n3_; (try clear hb); (try clear hb2); (try clear hk); (try clear hi); have p20 : 0 ≤ (t203 : Int) := of_decide_eq_true AS; have q20 : (t203 : Int) < ((x7_2.length : Int) : Int) := of_decide_eq_true AS; obtain ⟨go20, co20, eo20, gb20, gl20, cl20, HG20⟩ := Kd.R_form HO_7.out (by omega); (first | cases eo20 | (injection eo20 with ea_ en_ ec_; (first | subst ea_ | (injection ea_ with ea_; subst ea_)); subst ec_; clear en_)); have GB20 := Aside0.mk gb20; have GG20 := Aside0.mk HG20; clear gb20 gl20 HG20; obtain ⟨hx20_0, hf20_0⟩ := Kd.R_celln 0 HO_7.out (t203 : Int) p20 q20; replace p20 := eq_true p20; replace q20 := eq_true q20; obtain ⟨hy24_, hz24_⟩ := Kd.R_celln 0 HO_7.out (t203 : Int) (of_decide_eq_true AS) (of_decide_eq_true AS); have HP24 := Kd.R_putg HO_7.out (t203 : Int) t206) | ((with_reducible refine gate_store (t := 3) (p := 35) rfl ?_); refine store_event (t := 3) (p := 35) (v := ?vo_w25) (w1 := (w23.setCell ⟨go20, (t203 : Int).toNat, none⟩ (.int .i64 t206))) ?hg ?ho ?hn ?hr ?_; (case ho => rfl); (case hg => rfl); (case hn => rfl); (case hr => exact GS); intro w25 hw; have hg : w23.grownBy w25 (some go20) := (by rw [hw]; exact HP24.2); have hp_ : Kd.R (Kd.int .i64) 3 w25 w.heap.size (fun _ => True) (.slice (some ⟨go20, 0, none⟩) x7_2.length co21) y209 := (by rw [hw, Ny209.out]; exact HP24.1); clear HP24; have n0_ := Aside0.mk (hp_); have n1_ := Aside0.mk (IsS52.grown AHI hg (IsS52.own_ne HI0.out HO_7.out (by decide))); have n2_ := Aside0.mk ((by rw [hw]; exact below_set (HB.out) (Nat.le_trans HL.out GB20.out) : Below w0.heap.size w0 w25)); have n3_ := Aside0.mk (KeepBut.trans AHK (KeepBut.of_grown hg g) (Kd.R_base2 HO_7.out)); clear HO_7; clear HI0; clear HB; clear HK; have HO_7 := n0_; have HI0 := n1_; have HB := n2_; have HK := n3_; clear n0_ n1_ n2_ n3_; clear hg hw hp_))
         go_roundg k2
         case measure => have := HJ3.out; have := HK2.out; omega
         case rel => exact ⟨(y209), (wrap64 (x8_2 - 1)), (t207), (t208), RF, H', ⟨by have := HJ3.out; have := HK2.out; omega⟩, ⟨KR HO_7⟩, ⟨AHI⟩, ⟨AHK⟩, ⟨AHB⟩⟩
        ·rw [if_neg c19] at H
         cases H
       ·rw [if_neg c18] at H
        cases H
      ·rw [if_neg c15] at H
       have c15b0 : decide (0 < x8_2) = false := decide_eq_false c15
       clear c15
       simp only [Option.some.injEq, Prod.mk.injEq] at H
       obtain ⟨rfl, rfl, rfl, rfl⟩ := H
       go_wp2
       go_ret2
       exact ⟨_, RE, KR HO_7, AHI, AHB, AHK⟩
   ·replace c12 := Bool.eq_false_iff.mpr c12
    subst c12
    replace H := IN H
    simp only [Option.some.injEq, Prod.mk.injEq] at H
    obtain ⟨rfl, rfl, rfl, rfl⟩ := H
    go_wp2
    go_ret2
    exact ⟨_, RE, KR HO_7, AHI, AHB, AHK⟩

/-! ### spec_l1Most: function 100 -/
def spec_l1Most.f (a0 : Int) (a1 : Int) : Option (Int) := if a0 > a1 then (some a0) else (some a1)
theorem spec_l1Most.calls (a0 : Int) (a1 : Int) (r : Int) (w : World) (h : spec_l1Most.f a0 a1 = some r) :
  Calls Try.prog 100 #[.int .i64 a0, .int .i64 a1] w fun e w' => e = .returned (.int .i64 r) ∧ Drawn0 w w' := by
 have H : (if a0 > a1 then (some a0) else (some a1)) = some r := h
 clear h
 by_cases c3 : a0 > a1
 ·rw [if_pos c3] at H
  have c3b0 : decide (a1 < a0) = true := decide_eq_true c3
  clear c3
  obtain rfl := Option.some.inj H
  go_enter Try.func100, Try.ntmps100
  go_wp2
  go_ret
  exact ⟨RF, DR⟩
 ·rw [if_neg c3] at H
  have c3b0 : decide (a1 < a0) = false := decide_eq_false c3
  clear c3
  obtain rfl := Option.some.inj H
  go_enter Try.func100, Try.ntmps100
  go_wp2
  go_ret
  exact ⟨RF, DR⟩

/-! ### spec_l1Abs: function 86 -/
def spec_l1Abs.f (a0 : Int) : Option (Int) := (spec_l1Most.f a0 (wrap64 (-a0))).bind fun t210 => (some t210)
theorem spec_l1Abs.calls (a0 : Int) (r : Int) (w : World) (h : spec_l1Abs.f a0 = some r) :
  Calls Try.prog 86 #[.int .i64 a0] w fun e w' => e = .returned (.int .i64 r) ∧ Drawn0 w w' := by
 have H : ((spec_l1Most.f a0 (wrap64 (-a0))).bind fun t210 => (some t210)) = some r := h
 clear h
 obtain ⟨t210, A20, H⟩ := Option.bind_eq_some_iff.mp H
 have A2 := Aside0.mk A20
 clear A20
 obtain rfl := Option.some.inj H
 go_enter Try.func86, Try.ntmps86
 go_wp2_with (first | ((with_reducible refine gate_callee (f := 100) rfl ?_); refine goesL_ (some 6) rfl rfl Try.func100 (by kernel_rfl) rfl #[.int .i64 a0, .int .i64 (wrap64 (-a0))] rfl TA ?_; (with_reducible refine (spec_l1Most.calls a0 (wrap64 (-a0)) t210 _ A2.out).mono ?_); rintro e w' ⟨rfl, ⟨nd, rfl⟩⟩; refine ⟨_, rfl, ?_⟩))
 go_ret
 exact ⟨RF, DR⟩

end Go.Proofs.Ytafjjbkkcedgnab.PFnDoorsOfRooms
