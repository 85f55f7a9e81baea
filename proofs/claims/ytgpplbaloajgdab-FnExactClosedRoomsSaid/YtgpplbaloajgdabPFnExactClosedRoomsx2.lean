-- Written by a program of this session (wip/tools/pp.sh) out of the translation; Lean checks it.
import Derived.Test.YtgpplbaloajgdabPFnExactClosedRoomsx0
import Derived.Test.YtgpplbaloajgdabPFnExactClosedRoomsx1
namespace Go.Proofs.Ytgpplbaloajgdab.PFnExactClosedRooms
open Go.RowKit Go.Proofs.YtgpplbaloajgdabOwn Go.Proofs.YtgpplbaloajgdabW.PrintWords Go.Proofs.YtgpplbaloajgdabW.PrintLast Go.Proofs.YtgpplbaloajgdabW.PrintMore
attribute [local go_sem] max2_int min2_int max_two min_two max_three min_three max_four min_four   -- for this text's walks alone
set_option linter.unusedVariables false
set_option linter.unusedSimpArgs false

mutual
def spec_meBorder.l0 : Nat → Int → List Int → Int → Option (List Int)
  | 0, _, _, _ => none
  | k + 1, x0, x3, x4 => if x4 < x0 then ((spec_meIndex.f x0 (([wrap64 (x0 - x4), x4, 0] : List Int))).bind fun t139 => (if x3.length < 17592186044416 then (spec_meBorder.l0 k x0 (x3 ++ [t139]) (wrap64 (x4 + 1))) else (none))) else (spec_meBorder.l1 k x0 x3 0)
def spec_meBorder.l1 : Nat → Int → List Int → Int → Option (List Int)
  | 0, _, _, _ => none
  | k + 1, x0, x3, x5 => if x5 < x0 then ((spec_meIndex.f x0 (([0, wrap64 (x0 - x5), x5] : List Int))).bind fun t146 => (if x3.length < 17592186044416 then (spec_meBorder.l1 k x0 (x3 ++ [t146]) (wrap64 (x5 + 1))) else (none))) else (spec_meBorder.l2 k x0 x3 0)
def spec_meBorder.l2 : Nat → Int → List Int → Int → Option (List Int)
  | 0, _, _, _ => none
  | k + 1, x0, x3, x6 => if x6 < x0 then ((spec_meIndex.f x0 (([x6, 0, wrap64 (x0 - x6)] : List Int))).bind fun t153 => (if x3.length < 17592186044416 then (spec_meBorder.l2 k x0 (x3 ++ [t153]) (wrap64 (x6 + 1))) else (none))) else (some x3)
end
def spec_meBorder.f (k : Nat) (a0 : Int) : Option (List Int) := spec_meBorder.l0 k a0 ([] : List Int) 0
theorem spec_meBorder.mono_l : ∀ k, (∀ y0 y1 y2, LeO (spec_meBorder.l0 k y0 y1 y2) (spec_meBorder.l0 (k + 1) y0 y1 y2)) ∧ (∀ y0 y1 y2, LeO (spec_meBorder.l1 k y0 y1 y2) (spec_meBorder.l1 (k + 1) y0 y1 y2)) ∧ (∀ y0 y1 y2, LeO (spec_meBorder.l2 k y0 y1 y2) (spec_meBorder.l2 (k + 1) y0 y1 y2))
  | 0 => ⟨fun _ _ _ r h => by simp [spec_meBorder.l0] at h, fun _ _ _ r h => by simp [spec_meBorder.l1] at h, fun _ _ _ r h => by simp [spec_meBorder.l2] at h⟩
  | k + 1 => by
    obtain ⟨ih0, ih1, ih2⟩ := spec_meBorder.mono_l k
    refine ⟨?_, ?_, ?_⟩
    · intro y0 y1 y2
      unfold spec_meBorder.l0
      repeat' first
      | (with_reducible exact ih0 _ _ _)
      | (with_reducible exact ih1 _ _ _)
      | (with_reducible exact ih2 _ _ _)
      | (with_reducible exact LeO.refl _)
      | (with_reducible exact LeO.none _)
      | (with_reducible refine LeO.ite ?_ ?_)
      | (with_reducible refine LeO.bind ?_ (fun _ => ?_))
      | exact ih0 _ _ _
      | exact ih1 _ _ _
      | exact ih2 _ _ _
      | exact LeO.none _
      | refine LeO.ite ?_ ?_
      | refine LeO.bind ?_ (fun _ => ?_)
    · intro y0 y1 y2
      unfold spec_meBorder.l1
      repeat' first
      | (with_reducible exact ih0 _ _ _)
      | (with_reducible exact ih1 _ _ _)
      | (with_reducible exact ih2 _ _ _)
      | (with_reducible exact LeO.refl _)
      | (with_reducible exact LeO.none _)
      | (with_reducible refine LeO.ite ?_ ?_)
      | (with_reducible refine LeO.bind ?_ (fun _ => ?_))
      | exact ih0 _ _ _
      | exact ih1 _ _ _
      | exact ih2 _ _ _
      | exact LeO.none _
      | refine LeO.ite ?_ ?_
      | refine LeO.bind ?_ (fun _ => ?_)
    · intro y0 y1 y2
      unfold spec_meBorder.l2
      repeat' first
      | (with_reducible exact ih0 _ _ _)
      | (with_reducible exact ih1 _ _ _)
      | (with_reducible exact ih2 _ _ _)
      | (with_reducible exact LeO.refl _)
      | (with_reducible exact LeO.none _)
      | (with_reducible refine LeO.ite ?_ ?_)
      | (with_reducible refine LeO.bind ?_ (fun _ => ?_))
      | exact ih0 _ _ _
      | exact ih1 _ _ _
      | exact ih2 _ _ _
      | exact LeO.none _
      | refine LeO.ite ?_ ?_
      | refine LeO.bind ?_ (fun _ => ?_)
theorem spec_meBorder.mono : ∀ a0 k, LeO (spec_meBorder.f k a0) (spec_meBorder.f (k + 1) a0) := by
  intro a0 k
  obtain ⟨ih0, ih1, ih2⟩ := spec_meBorder.mono_l k
  unfold spec_meBorder.f
  repeat' first
      | (with_reducible exact ih0 _ _ _)
      | (with_reducible exact ih1 _ _ _)
      | (with_reducible exact ih2 _ _ _)
      | (with_reducible exact LeO.refl _)
      | (with_reducible exact LeO.none _)
      | (with_reducible refine LeO.ite ?_ ?_)
      | (with_reducible refine LeO.bind ?_ (fun _ => ?_))
      | exact ih0 _ _ _
      | exact ih1 _ _ _
      | exact ih2 _ _ _
      | exact LeO.none _
      | refine LeO.ite ?_ ?_
      | refine LeO.bind ?_ (fun _ => ?_)
set_option maxHeartbeats 8000000 in
set_option maxRecDepth 100000 in
theorem spec_meBorder.calls (k : Nat) (a0 : Int) (r : List Int) (w : World) (h : spec_meBorder.f k a0 = some r) :
    Calls Try.prog 57 #[.int .i64 a0] w fun e w' => ∃ v0_ : Value, e = .returned (v0_) ∧ Kd.R (Kd.int .i64) 3 w' w.heap.size (fun _ => True) v0_ r ∧ Below w.heap.size w w' := by
  have HB := Aside0.mk (Below.refl w.heap.size w); have H : (spec_meBorder.l0 k a0 ([] : List Int) 0) = some r := h; clear h; have H' := Aside0.mk H; clear H
  go_enter Try.func57, Try.ntmps57
  go_wp2
  go_loopg [3, 4] k (fun kq v3 v4 w' => ∃ (x3_1 : List Int) (x4_1 : Int), v4 = .int .i64 x4_1 ∧ Aside0 (spec_meBorder.l0 kq a0 x3_1 x4_1 = some r) ∧ Aside0 (kq ≤ k) ∧ Aside0 (Kd.R (Kd.int .i64) 3 w' w.heap.size (fun _ => True) v3 x3_1) ∧ Aside0 (Below w.heap.size w w'))
  case atStart => exact ⟨(([] : List Int)), (0), RF, H', ⟨Nat.le_refl _⟩, ⟨by first | exact Kd.R_nil _ _ _ _ _ | exact Kd.N_nil _ _ _ _ _ | exact Kd.V_nil _ _ _ _ _ | exact Kd.Q_nil _ _ _ _ _ | exact Kd.S_nil _ _ _ _ _⟩, ⟨BB⟩⟩
  case round =>
    clear H'; obtain ⟨x3_1, x4_1, rfl, HA, HK1, HO_3, HB⟩ := hrel; cases gk with
    | zero => exact absurd HA.out (by simp [spec_meBorder.l0])
    | succ k1 =>
      have H := HA.out; clear HA
      simp only [spec_meBorder.l0] at H
      by_cases c2 : x4_1 < a0
      · rw [if_pos c2] at H
        have c2b0 : decide (x4_1 < a0) = true := decide_eq_true c2; clear c2; obtain ⟨y136, hy136⟩ : ∃ y_ : List Int, y_ = (([wrap64 (a0 - x4_1), x4_1, 0] : List Int)) := ⟨_, rfl⟩; replace H : ((spec_meIndex.f a0 y136).bind fun t139 => (if x3_1.length < 17592186044416 then (spec_meBorder.l0 k1 a0 (x3_1 ++ [t139]) (wrap64 (x4_1 + 1))) else (none))) = some r := by first | (rw [hy136]; with_reducible exact H) | (have H2_ := (Option.bind_some _ _).symm.trans H; rw [hy136]; with_reducible exact H2_) | (have H2_ := (Option.bind_some _ _).symm.trans H; with_reducible exact H2_) | with_reducible exact H | (rw [hy136]; exact H) | exact H
        have Ny136 := Aside0.mk hy136; clear hy136; replace H := Option.bind_eq_some_iff.mp H; obtain ⟨t139, A30, H⟩ := H; replace H : (if x3_1.length < 17592186044416 then (spec_meBorder.l0 k1 a0 (x3_1 ++ [t139]) (wrap64 (x4_1 + 1))) else (none)) = some r := H; have A3 := Aside0.mk A30; clear A30
        by_cases c4 : x3_1.length < 17592186044416
        · rw [if_pos c4] at H
          have LMc4 := Aside0.mk c4; clear c4; obtain ⟨y140, hy140⟩ : ∃ y_ : List Int, y_ = (x3_1 ++ [t139]) := ⟨_, rfl⟩; replace H : (spec_meBorder.l0 k1 a0 y140 (wrap64 (x4_1 + 1))) = some r := by first | (rw [hy140]; with_reducible exact H) | (have H2_ := (Option.bind_some _ _).symm.trans H; rw [hy140]; with_reducible exact H2_) | (have H2_ := (Option.bind_some _ _).symm.trans H; with_reducible exact H2_) | with_reducible exact H | (rw [hy140]; exact H) | exact H
          have Ny140 := Aside0.mk hy140; clear hy140; have H' := Aside0.mk H; clear H
          go_wp2_with (first | ((with_reducible refine gate_dst (N := 18) rfl ?_); refine Kd.R_lit (Kd.int .i64) _ 3 ?hg (N := 18) ?hd (xs := ([wrap64 (a0 - x4_1), x4_1, 0] : List Int)) (inner := [.int .i64 (wrap64 (a0 - x4_1)), .int .i64 x4_1, .int .i64 0]) (ok := fun _ => True) (okp := fun _ => True) ?hr ?hp (fun _ hk => hk) trivial (Below.refl _ _) (Nat.le_refl _) (by simp) ?_; (case hd => rfl); (case hg => rfl); (case hr => first | (go_simp; done) | (go_simp; rfl)); (case hp => exact (Reps.one (show Kd.M (Kd.int .i64) _ _ _ (wrap64 (a0 - x4_1)) [.int .i64 (wrap64 (a0 - x4_1))] from rfl) (Reps.one (show Kd.M (Kd.int .i64) _ _ _ x4_1 [.int .i64 x4_1] from rfl) (Reps.one (show Kd.M (Kd.int .i64) _ _ _ 0 [.int .i64 0] from rfl) (Reps.none _ _))))); intro v137 w5 ho6 hb hg_ hnew_; clear hg_ hnew_; (first | rw [← Ny136.out] at ho6 | (simp only [Int.reduceToNat] at ho6; rw [← Ny136.out] at ho6)); have n0_ := Aside0.mk (Kd.R_elder' (KR HO_3) (Kd.R_base ho6) hb); have n1_ := Aside0.mk (Kd.R_lower (Kd.R_new' ho6 (Kd.R_lt (KR HO_3))) (below_size BB)); have n2_ := Aside0.mk (below_step BB hb); clear HO_3; clear HB; have HO_3 := n0_; have HO138 := n1_; have HB := n2_; clear n0_ n1_ n2_; clear hb ho6; obtain ⟨Ao7, co7, eo7⟩ := Kd.R_slice HO138.out; subst eo7) | ((with_reducible refine gate_callee (f := 91) rfl ?_); refine goesL_ (some 19) rfl rfl Try.func91 (by kernel_rfl) rfl #[.int .i64 a0, .slice Ao7 y136.length co7] rfl TA ?_; (with_reducible refine (spec_meIndex.calls a0 _ _ y136 t139 _ ?side1 ?side2 A3.out).mono ?_); (case side1 => repeat (first | exact (Kd.R_reads' HO138.out).2.2 | (with_reducible refine Kd.C_drewN ?_ _) | (with_reducible refine Kd.C_drew ?_) | (with_reducible refine Kd.C_alloc ?_ _))); (case side2 => exact (Kd.R_reads' HO138.out).2.1); rintro e w' ⟨rfl, ⟨nd, rfl⟩⟩; refine ⟨_, rfl, ?_⟩) | ((with_reducible refine gate_builtin (b := .append) (xs := #[.tmp 12, .tmp 20]) rfl ?_); at_builtin; refine Kd.R_append (Kd.int .i64) (w0 := w) w.heap.size rfl (.tmp 12) (.tmp 20) 22 3 (.int .i64 0) 8 rfl Try.underlying22 info3 rfl (by decide) (by omega) u3 x3_1 t139 [.int .i64 t139] (fun k_ => some k_ ≠ (.slice Ao7 y136.length co7 : Value).ownBlock) (fun _ => False) rfl rfl ?aP (fun _ hk => hk.elim) ?aF ?aO ?aB ?aS ?aL ?_; (case aP => exact rfl); (case aB => exact BB); (case aF => exact (fun k_ hk => Kd.fresh' (Kd.R_lt (KR HO138)) k_ hk)); (case aO => exact (by (with_reducible repeat (first | apply Kd.R_alloc | apply Kd.R_drewN | apply Kd.R_drew)); exact Kd.R_mono HO_3.out (fun _ hk => hk.2))); (case aS => exact (below_size BB)); (case aL => have := LMc4.out; omega); intro v141 w8 ho hb hg hat; rw [← Ny140.out] at ho; have n0_ := Aside0.mk (Kd.R_after (ok := (fun _ => True)) (KR HO138) hg hat); have n1_ := Aside0.mk (hb); have n2_ := Aside0.mk (ho); clear HO138; clear HB; clear HO_3; have HO138 := n0_; have HB := n1_; have HO142 := n2_; clear n0_ n1_ n2_; clear ho hb hg hat))
          go_roundg k1
          case measure => have := HK1.out; omega
          case rel => exact ⟨(y140), (wrap64 (x4_1 + 1)), RF, H', ⟨by have := HK1.out; omega⟩, ⟨by (with_reducible repeat (first | apply Kd.R_alloc | apply Kd.R_drewN | apply Kd.R_drew)); exact Kd.R_mono HO142.out (fun _ hk => trivial)⟩, ⟨BB⟩⟩
        · rw [if_neg c4] at H
          exact absurd H (by simp)
      · rw [if_neg c2] at H
        have c2b0 : decide (x4_1 < a0) = false := decide_eq_false c2; clear c2; have H' := Aside0.mk H; clear H
        go_wp2
        go_loopg [3, 5] k1 (fun kq v3 v5 w' => ∃ (x3_2 : List Int) (x5_2 : Int), v5 = .int .i64 x5_2 ∧ Aside0 (spec_meBorder.l1 kq a0 x3_2 x5_2 = some r) ∧ Aside0 (kq ≤ k1) ∧ Aside0 (Kd.R (Kd.int .i64) 3 w' w.heap.size (fun _ => True) v3 x3_2) ∧ Aside0 (Below w.heap.size w w'))
        case atStart => exact ⟨(x3_1), (0), RF, H', ⟨Nat.le_refl _⟩, ⟨KR HO_3⟩, ⟨BB⟩⟩
        case round =>
          clear H'
          try clear c2
          try clear c2b0
          try clear p2
          try clear c4
          try clear c5
          try clear p6
          obtain ⟨x3_2, x5_2, rfl, HA, HK2, HO_3, HB⟩ := hrel; cases gk with
          | zero => exact absurd HA.out (by simp [spec_meBorder.l1])
          | succ k2 =>
            have H := HA.out; clear HA
            simp only [spec_meBorder.l1] at H
            by_cases c9 : x5_2 < a0
            · rw [if_pos c9] at H
              have c9b0 : decide (x5_2 < a0) = true := decide_eq_true c9; clear c9; obtain ⟨y143, hy143⟩ : ∃ y_ : List Int, y_ = (([0, wrap64 (a0 - x5_2), x5_2] : List Int)) := ⟨_, rfl⟩; replace H : ((spec_meIndex.f a0 y143).bind fun t146 => (if x3_2.length < 17592186044416 then (spec_meBorder.l1 k2 a0 (x3_2 ++ [t146]) (wrap64 (x5_2 + 1))) else (none))) = some r := by first | (rw [hy143]; with_reducible exact H) | (have H2_ := (Option.bind_some _ _).symm.trans H; rw [hy143]; with_reducible exact H2_) | (have H2_ := (Option.bind_some _ _).symm.trans H; with_reducible exact H2_) | with_reducible exact H | (rw [hy143]; exact H) | exact H
              have Ny143 := Aside0.mk hy143; clear hy143; replace H := Option.bind_eq_some_iff.mp H; obtain ⟨t146, A100, H⟩ := H; replace H : (if x3_2.length < 17592186044416 then (spec_meBorder.l1 k2 a0 (x3_2 ++ [t146]) (wrap64 (x5_2 + 1))) else (none)) = some r := H; have A10 := Aside0.mk A100; clear A100
              by_cases c11 : x3_2.length < 17592186044416
              · rw [if_pos c11] at H
                have LMc11 := Aside0.mk c11; clear c11; obtain ⟨y147, hy147⟩ : ∃ y_ : List Int, y_ = (x3_2 ++ [t146]) := ⟨_, rfl⟩; replace H : (spec_meBorder.l1 k2 a0 y147 (wrap64 (x5_2 + 1))) = some r := by first | (rw [hy147]; with_reducible exact H) | (have H2_ := (Option.bind_some _ _).symm.trans H; rw [hy147]; with_reducible exact H2_) | (have H2_ := (Option.bind_some _ _).symm.trans H; with_reducible exact H2_) | with_reducible exact H | (rw [hy147]; exact H) | exact H
                have Ny147 := Aside0.mk hy147; clear hy147; have H' := Aside0.mk H; clear H
                go_wp2_with (first | ((with_reducible refine gate_dst (N := 33) rfl ?_); refine Kd.R_lit (Kd.int .i64) _ 3 ?hg (N := 33) ?hd (xs := ([0, wrap64 (a0 - x5_2), x5_2] : List Int)) (inner := [.int .i64 0, .int .i64 (wrap64 (a0 - x5_2)), .int .i64 x5_2]) (ok := fun _ => True) (okp := fun _ => True) ?hr ?hp (fun _ hk => hk) trivial (Below.refl _ _) (Nat.le_refl _) (by simp) ?_; (case hd => rfl); (case hg => rfl); (case hr => first | (go_simp; done) | (go_simp; rfl)); (case hp => exact (Reps.one (show Kd.M (Kd.int .i64) _ _ _ 0 [.int .i64 0] from rfl) (Reps.one (show Kd.M (Kd.int .i64) _ _ _ (wrap64 (a0 - x5_2)) [.int .i64 (wrap64 (a0 - x5_2))] from rfl) (Reps.one (show Kd.M (Kd.int .i64) _ _ _ x5_2 [.int .i64 x5_2] from rfl) (Reps.none _ _))))); intro v144 w12 ho13 hb hg_ hnew_; clear hg_ hnew_; (first | rw [← Ny143.out] at ho13 | (simp only [Int.reduceToNat] at ho13; rw [← Ny143.out] at ho13)); have n0_ := Aside0.mk (Kd.R_elder' (KR HO_3) (Kd.R_base ho13) hb); have n1_ := Aside0.mk (Kd.R_lower (Kd.R_new' ho13 (Kd.R_lt (KR HO_3))) (below_size BB)); have n2_ := Aside0.mk (below_step BB hb); clear HO_3; clear HB; have HO_3 := n0_; have HO145 := n1_; have HB := n2_; clear n0_ n1_ n2_; clear hb ho13; obtain ⟨Ao14, co14, eo14⟩ := Kd.R_slice HO145.out; subst eo14) | ((with_reducible refine gate_callee (f := 91) rfl ?_); refine goesL_ (some 34) rfl rfl Try.func91 (by kernel_rfl) rfl #[.int .i64 a0, .slice Ao14 y143.length co14] rfl TA ?_; (with_reducible refine (spec_meIndex.calls a0 _ _ y143 t146 _ ?side1 ?side2 A10.out).mono ?_); (case side1 => repeat (first | exact (Kd.R_reads' HO145.out).2.2 | (with_reducible refine Kd.C_drewN ?_ _) | (with_reducible refine Kd.C_drew ?_) | (with_reducible refine Kd.C_alloc ?_ _))); (case side2 => exact (Kd.R_reads' HO145.out).2.1); rintro e w' ⟨rfl, ⟨nd, rfl⟩⟩; refine ⟨_, rfl, ?_⟩) | ((with_reducible refine gate_builtin (b := .append) (xs := #[.tmp 27, .tmp 35]) rfl ?_); at_builtin; refine Kd.R_append (Kd.int .i64) (w0 := w) w.heap.size rfl (.tmp 27) (.tmp 35) 22 3 (.int .i64 0) 8 rfl Try.underlying22 info3 rfl (by decide) (by omega) u3 x3_2 t146 [.int .i64 t146] (fun k_ => some k_ ≠ (.slice Ao14 y143.length co14 : Value).ownBlock) (fun _ => False) rfl rfl ?aP (fun _ hk => hk.elim) ?aF ?aO ?aB ?aS ?aL ?_; (case aP => exact rfl); (case aB => exact BB); (case aF => exact (fun k_ hk => Kd.fresh' (Kd.R_lt (KR HO145)) k_ hk)); (case aO => exact (by (with_reducible repeat (first | apply Kd.R_alloc | apply Kd.R_drewN | apply Kd.R_drew)); exact Kd.R_mono HO_3.out (fun _ hk => hk.2))); (case aS => exact (below_size BB)); (case aL => have := LMc11.out; omega); intro v148 w15 ho hb hg hat; rw [← Ny147.out] at ho; have n0_ := Aside0.mk (Kd.R_after (ok := (fun _ => True)) (KR HO145) hg hat); have n1_ := Aside0.mk (hb); have n2_ := Aside0.mk (ho); clear HO145; clear HB; clear HO_3; have HO145 := n0_; have HB := n1_; have HO149 := n2_; clear n0_ n1_ n2_; clear ho hb hg hat))
                go_roundg k2
                case measure => have := HK1.out; have := HK2.out; omega
                case rel => exact ⟨(y147), (wrap64 (x5_2 + 1)), RF, H', ⟨by have := HK1.out; have := HK2.out; omega⟩, ⟨by (with_reducible repeat (first | apply Kd.R_alloc | apply Kd.R_drewN | apply Kd.R_drew)); exact Kd.R_mono HO149.out (fun _ hk => trivial)⟩, ⟨BB⟩⟩
              · rw [if_neg c11] at H
                exact absurd H (by simp)
            · rw [if_neg c9] at H
              have c9b0 : decide (x5_2 < a0) = false := decide_eq_false c9; clear c9; have H' := Aside0.mk H; clear H
              go_wp2
              go_loopg [3, 6] k2 (fun kq v3 v6 w' => ∃ (x3_3 : List Int) (x6_3 : Int), v6 = .int .i64 x6_3 ∧ Aside0 (spec_meBorder.l2 kq a0 x3_3 x6_3 = some r) ∧ Aside0 (kq ≤ k2) ∧ Aside0 (Kd.R (Kd.int .i64) 3 w' w.heap.size (fun _ => True) v3 x3_3) ∧ Aside0 (Below w.heap.size w w'))
              case atStart => exact ⟨(x3_2), (0), RF, H', ⟨Nat.le_refl _⟩, ⟨KR HO_3⟩, ⟨BB⟩⟩
              case round =>
                clear H'
                try clear c1
                try clear c2
                try clear c2b0
                try clear p2
                try clear c4
                try clear c5
                try clear p6
                try clear c9
                try clear c9b0
                try clear c11
                try clear p2
                try clear p6
                obtain ⟨x3_3, x6_3, rfl, HA, HK3, HO_3, HB⟩ := hrel; cases gk with
                | zero => exact absurd HA.out (by simp [spec_meBorder.l2])
                | succ k3 =>
                  have H := HA.out; clear HA
                  simp only [spec_meBorder.l2] at H
                  by_cases c16 : x6_3 < a0
                  · rw [if_pos c16] at H
                    have c16b0 : decide (x6_3 < a0) = true := decide_eq_true c16; clear c16; obtain ⟨y150, hy150⟩ : ∃ y_ : List Int, y_ = (([x6_3, 0, wrap64 (a0 - x6_3)] : List Int)) := ⟨_, rfl⟩; replace H : ((spec_meIndex.f a0 y150).bind fun t153 => (if x3_3.length < 17592186044416 then (spec_meBorder.l2 k3 a0 (x3_3 ++ [t153]) (wrap64 (x6_3 + 1))) else (none))) = some r := by first | (rw [hy150]; with_reducible exact H) | (have H2_ := (Option.bind_some _ _).symm.trans H; rw [hy150]; with_reducible exact H2_) | (have H2_ := (Option.bind_some _ _).symm.trans H; with_reducible exact H2_) | with_reducible exact H | (rw [hy150]; exact H) | exact H
                    have Ny150 := Aside0.mk hy150; clear hy150; replace H := Option.bind_eq_some_iff.mp H; obtain ⟨t153, A170, H⟩ := H; replace H : (if x3_3.length < 17592186044416 then (spec_meBorder.l2 k3 a0 (x3_3 ++ [t153]) (wrap64 (x6_3 + 1))) else (none)) = some r := H; have A17 := Aside0.mk A170; clear A170
                    by_cases c18 : x3_3.length < 17592186044416
                    · rw [if_pos c18] at H
                      have LMc18 := Aside0.mk c18; clear c18; obtain ⟨y154, hy154⟩ : ∃ y_ : List Int, y_ = (x3_3 ++ [t153]) := ⟨_, rfl⟩; replace H : (spec_meBorder.l2 k3 a0 y154 (wrap64 (x6_3 + 1))) = some r := by first | (rw [hy154]; with_reducible exact H) | (have H2_ := (Option.bind_some _ _).symm.trans H; rw [hy154]; with_reducible exact H2_) | (have H2_ := (Option.bind_some _ _).symm.trans H; with_reducible exact H2_) | with_reducible exact H | (rw [hy154]; exact H) | exact H
                      have Ny154 := Aside0.mk hy154; clear hy154; have H' := Aside0.mk H; clear H
                      go_wp2_with (first | ((with_reducible refine gate_dst (N := 48) rfl ?_); refine Kd.R_lit (Kd.int .i64) _ 3 ?hg (N := 48) ?hd (xs := ([x6_3, 0, wrap64 (a0 - x6_3)] : List Int)) (inner := [.int .i64 x6_3, .int .i64 0, .int .i64 (wrap64 (a0 - x6_3))]) (ok := fun _ => True) (okp := fun _ => True) ?hr ?hp (fun _ hk => hk) trivial (Below.refl _ _) (Nat.le_refl _) (by simp) ?_; (case hd => rfl); (case hg => rfl); (case hr => first | (go_simp; done) | (go_simp; rfl)); (case hp => exact (Reps.one (show Kd.M (Kd.int .i64) _ _ _ x6_3 [.int .i64 x6_3] from rfl) (Reps.one (show Kd.M (Kd.int .i64) _ _ _ 0 [.int .i64 0] from rfl) (Reps.one (show Kd.M (Kd.int .i64) _ _ _ (wrap64 (a0 - x6_3)) [.int .i64 (wrap64 (a0 - x6_3))] from rfl) (Reps.none _ _))))); intro v151 w19 ho20 hb hg_ hnew_; clear hg_ hnew_; (first | rw [← Ny150.out] at ho20 | (simp only [Int.reduceToNat] at ho20; rw [← Ny150.out] at ho20)); have n0_ := Aside0.mk (Kd.R_elder' (KR HO_3) (Kd.R_base ho20) hb); have n1_ := Aside0.mk (Kd.R_lower (Kd.R_new' ho20 (Kd.R_lt (KR HO_3))) (below_size BB)); have n2_ := Aside0.mk (below_step BB hb); clear HO_3; clear HB; have HO_3 := n0_; have HO152 := n1_; have HB := n2_; clear n0_ n1_ n2_; clear hb ho20; obtain ⟨Ao21, co21, eo21⟩ := Kd.R_slice HO152.out; subst eo21) | ((with_reducible refine gate_callee (f := 91) rfl ?_); refine goesL_ (some 49) rfl rfl Try.func91 (by kernel_rfl) rfl #[.int .i64 a0, .slice Ao21 y150.length co21] rfl TA ?_; (with_reducible refine (spec_meIndex.calls a0 _ _ y150 t153 _ ?side1 ?side2 A17.out).mono ?_); (case side1 => repeat (first | exact (Kd.R_reads' HO152.out).2.2 | (with_reducible refine Kd.C_drewN ?_ _) | (with_reducible refine Kd.C_drew ?_) | (with_reducible refine Kd.C_alloc ?_ _))); (case side2 => exact (Kd.R_reads' HO152.out).2.1); rintro e w' ⟨rfl, ⟨nd, rfl⟩⟩; refine ⟨_, rfl, ?_⟩) | ((with_reducible refine gate_builtin (b := .append) (xs := #[.tmp 42, .tmp 50]) rfl ?_); at_builtin; refine Kd.R_append (Kd.int .i64) (w0 := w) w.heap.size rfl (.tmp 42) (.tmp 50) 22 3 (.int .i64 0) 8 rfl Try.underlying22 info3 rfl (by decide) (by omega) u3 x3_3 t153 [.int .i64 t153] (fun k_ => some k_ ≠ (.slice Ao21 y150.length co21 : Value).ownBlock) (fun _ => False) rfl rfl ?aP (fun _ hk => hk.elim) ?aF ?aO ?aB ?aS ?aL ?_; (case aP => exact rfl); (case aB => exact BB); (case aF => exact (fun k_ hk => Kd.fresh' (Kd.R_lt (KR HO152)) k_ hk)); (case aO => exact (by (with_reducible repeat (first | apply Kd.R_alloc | apply Kd.R_drewN | apply Kd.R_drew)); exact Kd.R_mono HO_3.out (fun _ hk => hk.2))); (case aS => exact (below_size BB)); (case aL => have := LMc18.out; omega); intro v155 w22 ho hb hg hat; rw [← Ny154.out] at ho; have n0_ := Aside0.mk (Kd.R_after (ok := (fun _ => True)) (KR HO152) hg hat); have n1_ := Aside0.mk (hb); have n2_ := Aside0.mk (ho); clear HO152; clear HB; clear HO_3; have HO152 := n0_; have HB := n1_; have HO156 := n2_; clear n0_ n1_ n2_; clear ho hb hg hat))
                      go_roundg k3
                      case measure => have := HK1.out; have := HK2.out; have := HK3.out; omega
                      case rel => exact ⟨(y154), (wrap64 (x6_3 + 1)), RF, H', ⟨by have := HK1.out; have := HK2.out; have := HK3.out; omega⟩, ⟨by (with_reducible repeat (first | apply Kd.R_alloc | apply Kd.R_drewN | apply Kd.R_drew)); exact Kd.R_mono HO156.out (fun _ hk => trivial)⟩, ⟨BB⟩⟩
                    · rw [if_neg c18] at H
                      exact absurd H (by simp)
                  · rw [if_neg c16] at H
                    have c16b0 : decide (x6_3 < a0) = false := decide_eq_false c16; clear c16; obtain rfl := Option.some.inj H
                    go_wp2
                    go_ret
                    exact ⟨_, by first | rfl | (simp [errW_none, errW_some] <;> rfl) | (simp [*, errW_none, errW_some] <;> rfl), KR HO_3, BB⟩

def spec_doDoor.f (l0 : List Int) (a1 : Int) (a2 : Int) : Option (Bool) := if 0 ≤ a1 then (if a1 < (l0.length : Int) then (if 0 ≤ a2 then (if a2 < (l0.length : Int) then (some ((wrap64 ((rd l0 a1) + (rd l0 a2))) == 1)) else (none)) else (none)) else (none)) else (none)
set_option maxHeartbeats 8000000 in
set_option maxRecDepth 100000 in
theorem spec_doDoor.calls (A0 : Option Addr) (c0 : Nat) (l0 : List Int) (a1 : Int) (a2 : Int) (r : Bool) (w : World) (hr0 : Kd.C (Kd.int .i64) w A0 l0.length l0) (hc0 : l0.length ≤ c0) (h : spec_doDoor.f l0 a1 a2 = some r) :
    Calls Try.prog 58 #[.slice A0 l0.length c0, .int .i64 a1, .int .i64 a2] w fun e w' => e = .returned (.bool r) ∧ Drawn0 w w' := by
  have HR0 := Aside0.mk hr0; have HC0 := Aside0.mk hc0; clear hr0 hc0; have H : (if 0 ≤ a1 then (if a1 < (l0.length : Int) then (if 0 ≤ a2 then (if a2 < (l0.length : Int) then (some ((wrap64 ((rd l0 a1) + (rd l0 a2))) == 1)) else (none)) else (none)) else (none)) else (none)) = some r := h; clear h
  by_cases c4 : 0 ≤ a1
  · rw [if_pos c4] at H
    have c4b0 : decide (0 ≤ a1) = true := decide_eq_true c4; clear c4
    by_cases c5 : a1 < (l0.length : Int)
    · rw [if_pos c5] at H
      have c5b0 : decide (a1 < (l0.length : Int)) = true := decide_eq_true c5; clear c5
      by_cases c6 : 0 ≤ a2
      · rw [if_pos c6] at H
        have c6b0 : decide (0 ≤ a2) = true := decide_eq_true c6; clear c6
        by_cases c7 : a2 < (l0.length : Int)
        · rw [if_pos c7] at H
          have c7b0 : decide (a2 < (l0.length : Int)) = true := decide_eq_true c7; clear c7; obtain rfl := Option.some.inj H; have p157 : 0 ≤ (a1 : Int) := of_decide_eq_true AS; have q157 : a1 < (l0.length : Int) := of_decide_eq_true AS; obtain ⟨ad157, e157, hx157_0⟩ := Kd.at_int HR0.out a1 p157 q157; cases e157; replace p157 := eq_true p157; replace q157 := eq_true q157; have p158 : 0 ≤ (a2 : Int) := of_decide_eq_true AS; have q158 : a2 < (l0.length : Int) := of_decide_eq_true AS; obtain ⟨ad158, e158, hx158_0⟩ := Kd.at_int HR0.out a2 p158 q158; obtain rfl : ad157 = ad158 := (by injection e158); replace p158 := eq_true p158; replace q158 := eq_true q158
          go_enter Try.func58, Try.ntmps58
          go_wp2
          repeat (go_quiet (fail); try go_wp2)
          go_ret
          exact ⟨by first | rfl | (simp; done) | (simp [*]; done) | (simp [*, wrap64]; done), by repeat (first | exact Drawn0.refl _ | apply Drawn0.step)⟩
        · rw [if_neg c7] at H
          exact absurd H (by simp)
      · rw [if_neg c6] at H
        exact absurd H (by simp)
    · rw [if_neg c5] at H
      exact absurd H (by simp)
  · rw [if_neg c4] at H
    exact absurd H (by simp)

def spec_doBorder.l0 : Nat → List Int → List Int → List (List Int) → List Int → Int → Int → Option ((List (List Int)))
  | 0, _, _, _, _, _, _ => none
  | k + 1, x1, x5, x6, x12, x13, x14 => if x14 < x13 then (if 0 ≤ x14 then (if x14 < (x12.length : Int) then (if (x5.length : Int) = 0 then (none) else (if 0 ≤ (Int.tmod (wrap64 (x14 + 1)) (x5.length : Int)) then (if (Int.tmod (wrap64 (x14 + 1)) (x5.length : Int)) < (x5.length : Int) then ((spec_doDoor.f x1 (rd x12 x14) (rd x5 (Int.tmod (wrap64 (x14 + 1)) (x5.length : Int)))).bind fun t164 => (if t164 = true then (if x6.length < 5864062014805 then (spec_doBorder.l0 k x1 x5 (x6 ++ [(([rd x12 x14, rd x5 (Int.tmod (wrap64 (x14 + 1)) (x5.length : Int))] : List Int))]) x12 x13 (wrap64 (x14 + 1))) else (none)) else (spec_doBorder.l0 k x1 x5 x6 x12 x13 (wrap64 (x14 + 1))))) else (none)) else (none))) else (none)) else (none)) else (some x6)
def spec_doBorder.f (k : Nat) (a0 : Int) (l1 : List Int) : Option ((List (List Int))) := (spec_meBorder.f k a0).bind fun t159 => (spec_doBorder.l0 k l1 t159 ([] : List (List Int)) t159 (t159.length : Int) 0)
theorem spec_doBorder.mono_l : ∀ k, (∀ y0 y1 y2 y3 y4 y5, LeO (spec_doBorder.l0 k y0 y1 y2 y3 y4 y5) (spec_doBorder.l0 (k + 1) y0 y1 y2 y3 y4 y5))
  | 0 => fun _ _ _ _ _ _ r h => by simp [spec_doBorder.l0] at h
  | k + 1 => by
    have ih0 := spec_doBorder.mono_l k
    · intro y0 y1 y2 y3 y4 y5
      unfold spec_doBorder.l0
      repeat' first
      | (with_reducible exact ih0 _ _ _ _ _ _)
      | (with_reducible exact spec_meBorder.mono _ _)
      | (with_reducible exact LeO.refl _)
      | (with_reducible exact LeO.none _)
      | (with_reducible refine LeO.ite ?_ ?_)
      | (with_reducible refine LeO.bind ?_ (fun _ => ?_))
      | exact ih0 _ _ _ _ _ _
      | exact spec_meBorder.mono _ _
      | exact LeO.none _
      | refine LeO.ite ?_ ?_
      | refine LeO.bind ?_ (fun _ => ?_)
theorem spec_doBorder.mono : ∀ a0 a1 k, LeO (spec_doBorder.f k a0 a1) (spec_doBorder.f (k + 1) a0 a1) := by
  intro a0 a1 k
  have ih0 := spec_doBorder.mono_l k
  unfold spec_doBorder.f
  repeat' first
      | (with_reducible exact ih0 _ _ _ _ _ _)
      | (with_reducible exact spec_meBorder.mono _ _)
      | (with_reducible exact LeO.refl _)
      | (with_reducible exact LeO.none _)
      | (with_reducible refine LeO.ite ?_ ?_)
      | (with_reducible refine LeO.bind ?_ (fun _ => ?_))
      | exact ih0 _ _ _ _ _ _
      | exact spec_meBorder.mono _ _
      | exact LeO.none _
      | refine LeO.ite ?_ ?_
      | refine LeO.bind ?_ (fun _ => ?_)
set_option maxHeartbeats 8000000 in
set_option maxRecDepth 100000 in
theorem spec_doBorder.calls (k : Nat) (a0 : Int) (A1 : Option Addr) (c1 : Nat) (l1 : List Int) (r : List (List Int)) (w : World) (hr1 : Kd.C (Kd.int .i64) w A1 l1.length l1) (hc1 : l1.length ≤ c1) (h : spec_doBorder.f k a0 l1 = some r) :
    Calls Try.prog 25 #[.int .i64 a0, .slice A1 l1.length c1] w fun e w' => ∃ v0_ : Value, e = .returned (v0_) ∧ Kd.S (Kd.slice 3 (Kd.int .i64)) 22 w' w.heap.size (fun _ => True) v0_ r ∧ Below w.heap.size w w' := by
  have HR1 := Aside0.mk hr1; have HC1 := Aside0.mk hc1; clear hr1 hc1; have HB := Aside0.mk (Below.refl w.heap.size w); have H : ((spec_meBorder.f k a0).bind fun t159 => (spec_doBorder.l0 k l1 t159 ([] : List (List Int)) t159 (t159.length : Int) 0)) = some r := h; clear h; replace H := Option.bind_eq_some_iff.mp H; obtain ⟨t159, A30, H⟩ := H; replace H : (spec_doBorder.l0 k l1 t159 ([] : List (List Int)) t159 (t159.length : Int) 0) = some r := H; have A3 := Aside0.mk A30; clear A30; have H' := Aside0.mk H; clear H
  go_enter Try.func25, Try.ntmps25
  go_wp2_with (first | ((with_reducible refine gate_callee (f := 57) rfl ?_); refine goesL_ (some 11) rfl rfl Try.func57 (by kernel_rfl) rfl #[.int .i64 a0] rfl TA ?_; (with_reducible refine (spec_meBorder.calls k a0 t159 _ A3.out).mono ?_); rintro e w4 ⟨v160, rfl, ho0, hb⟩; refine ⟨_, rfl, ?_⟩; have n0_ := Aside0.mk (Kd.R_lower ho0 (below_size BB)); have n1_ := Aside0.mk (below_step BB hb); clear HB; have HO161 := n0_; have HB := n1_; clear n0_ n1_; (try clear hb); (try clear hb2); (try clear hk); (try clear hi); (try clear ho0); obtain ⟨Ao5, co5, eo5⟩ := Kd.R_slice HO161.out; subst eo5))
  go_loopg [6, 14] k (fun kq v6 v14 w' => ∃ (x6_1 : List (List Int)) (x14_1 : Int), v14 = .int .i64 x14_1 ∧ Aside0 (spec_doBorder.l0 kq l1 t159 x6_1 t159 (t159.length : Int) x14_1 = some r) ∧ Aside0 (kq ≤ k) ∧ Aside0 (Kd.R (Kd.int .i64) 3 w' w.heap.size (fun _ => True) (.slice Ao5 t159.length co5) t159) ∧ Aside0 (Kd.S (Kd.slice 3 (Kd.int .i64)) 22 w' w.heap.size (fun k_ => some k_ ≠ ((.slice Ao5 t159.length co5) : Value).ownBlock ∧ some k_ ≠ ((.slice Ao5 t159.length co5) : Value).ownBlock) v6 x6_1) ∧ Aside0 (Kd.R (Kd.int .i64) 3 w' w.heap.size (fun _ => True) (.slice Ao5 t159.length co5) t159) ∧ Aside0 (Below w.heap.size w w'))
  case atStart => exact ⟨(([] : List (List Int))), (0), RF, H', ⟨Nat.le_refl _⟩, ⟨KR HO161⟩, ⟨by first | exact Kd.S_nil _ _ _ _ _ | exact Kd.N_nil _ _ _ _ _ | exact Kd.V_nil _ _ _ _ _ | exact Kd.Q_nil _ _ _ _ _ | exact Kd.R_nil _ _ _ _ _⟩, ⟨KR HO161⟩, ⟨BB⟩⟩
  case round =>
    clear H'
    try clear c1
    try clear c2
    try clear p2
    try clear c5
    obtain ⟨x6_1, x14_1, rfl, HA, HK1, HO_5, HO_6, HO_12, HB⟩ := hrel; cases gk with
    | zero => exact absurd HA.out (by simp [spec_doBorder.l0])
    | succ k1 =>
      have H := HA.out; clear HA
      simp only [spec_doBorder.l0] at H
      by_cases c6 : x14_1 < (t159.length : Int)
      · rw [if_pos c6] at H
        have c6b0 : decide (x14_1 < (t159.length : Int)) = true := decide_eq_true c6; clear c6
        by_cases c7 : 0 ≤ x14_1
        · rw [if_pos c7] at H
          have c7b0 : decide (0 ≤ x14_1) = true := decide_eq_true c7; clear c7
          by_cases c8 : x14_1 < (t159.length : Int)
          · rw [if_pos c8] at H
            have c8b0 : decide (x14_1 < (t159.length : Int)) = true := decide_eq_true c8; clear c8
            by_cases c9 : (t159.length : Int) = 0
            · rw [if_pos c9] at H
              exact absurd H (by simp)
            · rw [if_neg c9] at H
              have c9b0 : ((t159.length : Int) == 0) = false := beq_eq_false_iff_ne.mpr c9; have c9b1 : ((t159.length : Int) != 0) = true := bne_iff_ne.mpr c9; have c9b2 : ¬ (t159 = []) := fun h_ => c9 (by rw [h_]; rfl)
              obtain ⟨ji10, hji10⟩ : ∃ j_ : Int, (Int.tmod (wrap64 (x14_1 + 1)) (t159.length : Int)) = j_ := ⟨_, rfl⟩; replace H : (if 0 ≤ (ji10) then (if (ji10) < (t159.length : Int) then ((spec_doDoor.f l1 (rd t159 x14_1) (rd t159 (ji10))).bind fun t164 => (if t164 = true then (if x6_1.length < 5864062014805 then (spec_doBorder.l0 k1 l1 t159 (x6_1 ++ [(([rd t159 x14_1, rd t159 (ji10)] : List Int))]) t159 (t159.length : Int) (wrap64 (x14_1 + 1))) else (none)) else (spec_doBorder.l0 k1 l1 t159 x6_1 t159 (t159.length : Int) (wrap64 (x14_1 + 1))))) else (none)) else (none)) = some r := by first | (rw [hji10] at H; exact H) | (simp only [hji10] at H ⊢; exact H)
              by_cases c11 : 0 ≤ (ji10)
              · rw [if_pos c11] at H
                have c11b0 : decide (0 ≤ (ji10)) = true := decide_eq_true c11; clear c11
                by_cases c12 : (ji10) < (t159.length : Int)
                · rw [if_pos c12] at H
                  have c12b0 : decide ((ji10) < (t159.length : Int)) = true := decide_eq_true c12; clear c12; replace H := Option.bind_eq_some_iff.mp H; obtain ⟨t164, A130, H⟩ := H; replace H : (if t164 = true then (if x6_1.length < 5864062014805 then (spec_doBorder.l0 k1 l1 t159 (x6_1 ++ [(([rd t159 x14_1, rd t159 (ji10)] : List Int))]) t159 (t159.length : Int) (wrap64 (x14_1 + 1))) else (none)) else (spec_doBorder.l0 k1 l1 t159 x6_1 t159 (t159.length : Int) (wrap64 (x14_1 + 1)))) = some r := H; have A13 := Aside0.mk A130; clear A130
                  by_cases c14 : t164 = true
                  · subst c14
                    have H1 : (if x6_1.length < 5864062014805 then (spec_doBorder.l0 k1 l1 t159 (x6_1 ++ [(([rd t159 x14_1, rd t159 (ji10)] : List Int))]) t159 (t159.length : Int) (wrap64 (x14_1 + 1))) else (none)) = some r := by rw [if_pos rfl] at H; exact H
                    clear H; have H := H1; clear H1; obtain ⟨y165, hy165⟩ : ∃ y_ : List Int, y_ = (([rd t159 x14_1, rd t159 (ji10)] : List Int)) := ⟨_, rfl⟩; replace H : (if x6_1.length < 5864062014805 then (spec_doBorder.l0 k1 l1 t159 (x6_1 ++ [y165]) t159 (t159.length : Int) (wrap64 (x14_1 + 1))) else (none)) = some r := by first | (rw [hy165]; with_reducible exact H) | (have H2_ := (Option.bind_some _ _).symm.trans H; rw [hy165]; with_reducible exact H2_) | (have H2_ := (Option.bind_some _ _).symm.trans H; with_reducible exact H2_) | with_reducible exact H | (rw [hy165]; exact H) | exact H
                    have Ny165 := Aside0.mk hy165; clear hy165
                    by_cases c15 : x6_1.length < 5864062014805
                    · rw [if_pos c15] at H
                      have LMc15 := Aside0.mk c15; clear c15; obtain ⟨y168, hy168⟩ : ∃ y_ : List (List Int), y_ = (x6_1 ++ [y165]) := ⟨_, rfl⟩; replace H : (spec_doBorder.l0 k1 l1 t159 y168 t159 (t159.length : Int) (wrap64 (x14_1 + 1))) = some r := by first | (rw [hy168]; with_reducible exact H) | (have H2_ := (Option.bind_some _ _).symm.trans H; rw [hy168]; with_reducible exact H2_) | (have H2_ := (Option.bind_some _ _).symm.trans H; with_reducible exact H2_) | with_reducible exact H | (rw [hy168]; exact H) | exact H
                      have Ny168 := Aside0.mk hy168; clear hy168; have H' := Aside0.mk H; clear H; have p162 : 0 ≤ (x14_1 : Int) := of_decide_eq_true AS; have q162 : x14_1 < (t159.length : Int) := of_decide_eq_true AS; obtain ⟨ad162, e162, hx162_0⟩ := Kd.at_int (Kd.R_reads' HO_12.out).2.2 x14_1 p162 q162; cases e162; replace p162 := eq_true p162; replace q162 := eq_true q162; have p163 : 0 ≤ ((ji10) : Int) := of_decide_eq_true AS; have q163 : (ji10) < (t159.length : Int) := of_decide_eq_true AS; obtain ⟨ad163, e163, hx163_0⟩ := Kd.at_int (Kd.R_reads' HO_5.out).2.2 (ji10) p163 q163; obtain rfl : ad162 = ad163 := (by injection e163); replace p163 := eq_true p163; replace q163 := eq_true q163
                      go_wp2_with (first | ((with_reducible refine gate_callee (f := 58) rfl ?_); refine goesL_ (some 30) rfl rfl Try.func58 (by kernel_rfl) rfl #[.slice A1 l1.length c1, .int .i64 (rd t159 x14_1), .int .i64 (rd t159 (ji10))] rfl (by (try simp only [List.map_toArray, List.map_cons, List.map_nil]); first | done | (simp only [hji10]; rfl) | rfl | (simp only [List.length_drop, List.length_take]; rfl)) ?_; (with_reducible refine (spec_doDoor.calls _ _ l1 (rd t159 x14_1) (rd t159 (ji10)) true _ ?side1 ?side2 A13.out).mono ?_); (case side1 => repeat (first | exact (Kd.C_below HR1.out HB.out) | (with_reducible refine Kd.C_drewN ?_ _) | (with_reducible refine Kd.C_drew ?_) | (with_reducible refine Kd.C_alloc ?_ _))); (case side2 => exact HC1.out); rintro e w' ⟨rfl, ⟨nd, rfl⟩⟩; refine ⟨_, rfl, ?_⟩) | ((with_reducible refine gate_dst (N := 34) rfl ?_); refine Kd.R_lit (Kd.int .i64) _ 3 ?hg (N := 34) ?hd (xs := ([rd t159 x14_1, rd t159 (ji10)] : List Int)) (inner := [.int .i64 (rd t159 x14_1), .int .i64 (rd t159 (ji10))]) (ok := fun _ => True) (okp := fun _ => True) ?hr ?hp (fun _ hk => hk) trivial (Below.refl _ _) (Nat.le_refl _) (by simp) ?_; (case hd => rfl); (case hg => rfl); (case hr => first | (go_simp; done) | (go_simp; rfl)); (case hp => exact (Reps.one (show Kd.M (Kd.int .i64) _ _ _ (rd t159 x14_1) [.int .i64 (rd t159 x14_1)] from rfl) (Reps.one (show Kd.M (Kd.int .i64) _ _ _ (rd t159 (ji10)) [.int .i64 (rd t159 (ji10))] from rfl) (Reps.none _ _)))); intro v166 w16 ho17 hb hg_ hnew_; clear hg_ hnew_; (first | rw [← Ny165.out] at ho17 | (simp only [Int.reduceToNat] at ho17; rw [← Ny165.out] at ho17)); have n0_ := Aside0.mk (Kd.R_elder' (KR HO_5) (Kd.R_base ho17) hb); have n1_ := Aside0.mk (Kd.S_elder' (KS HO_6) (Kd.R_base ho17) hb); have n2_ := Aside0.mk (Kd.R_elder' (KR HO_12) (Kd.R_base ho17) hb); have n3_ := Aside0.mk (Kd.R_lower (Kd.R_new' (Kd.R_new' ho17 (Kd.R_lt (KR HO_5))) (Kd.R_lt (KR HO_12))) (below_size BB)); have n4_ := Aside0.mk (below_step BB hb); clear HO_5; clear HO_6; clear HO_12; clear HB; have HO_5 := n0_; have HO_6 := n1_; have HO_12 := n2_; have HO167 := n3_; have HB := n4_; clear n0_ n1_ n2_ n3_ n4_; clear hb ho17; obtain ⟨Ao19, co19, eo19⟩ := Kd.R_slice HO167.out; subst eo19) | ((with_reducible refine gate_builtin (b := .append) (xs := #[.tmp 31, .tmp 35]) rfl ?_); at_builtin; refine Kd.S_append (Kd.slice 3 (Kd.int .i64)) (w0 := w) w.heap.size rfl (.tmp 31) (.tmp 35) 28 22 (.slice none 0 0) 24 rfl Try.underlying28 info22 rfl (by decide) (by omega) u6 x6_1 y165 [.slice Ao19 y165.length co19] (fun k_ => some k_ ≠ (.slice (some ad162) t159.length co5 : Value).ownBlock ∧ some k_ ≠ (.slice (some ad162) t159.length co5 : Value).ownBlock) (fun k_ => some k_ = (.slice Ao19 y165.length co19 : Value).ownBlock) rfl rfl ?aP (fun k_ hk_ => ((Kd.R_mono (ok' := fun k_ => ((fun k_ => some k_ ≠ (.slice (some ad162) t159.length co5 : Value).ownBlock ∧ some k_ ≠ (.slice (some ad162) t159.length co5 : Value).ownBlock)) k_ ∧ some k_ ≠ (u6 : Value).ownBlock) (Kd.R_apart' (HO167.out) (Kd.S_typed HO_6.out) (by decide)) (fun k_ hk => ⟨⟨hk.1.1.2, hk.1.2⟩, hk.2⟩))).1 k_ hk_.symm) ?aF ?aO ?aB ?aS ?aL ?_; (case aP => exact Kd.M_row (Kd.R_mono (Kd.R_tight rfl (Kd.R_mono (ok' := fun k_ => ((fun k_ => some k_ ≠ (.slice (some ad162) t159.length co5 : Value).ownBlock ∧ some k_ ≠ (.slice (some ad162) t159.length co5 : Value).ownBlock)) k_ ∧ some k_ ≠ (u6 : Value).ownBlock) (Kd.R_apart' (HO167.out) (Kd.S_typed HO_6.out) (by decide)) (fun k_ hk => ⟨⟨hk.1.1.2, hk.1.2⟩, hk.2⟩))) (fun _ h_ => h_))); (case aB => exact BB); (case aF => exact (fun k_ hk => ⟨Kd.fresh' (Kd.R_lt (KR HO_5)) k_ hk, Kd.fresh' (Kd.R_lt (KR HO_12)) k_ hk⟩)); (case aO => exact (by (with_reducible repeat (first | apply Kd.S_alloc | apply Kd.S_drewN | apply Kd.S_drew)); exact Kd.S_mono HO_6.out (fun k_ hk => ⟨⟨hk.1.1, hk.1.2⟩, fun e_ => hk.2 e_⟩))); (case aS => exact (below_size BB)); (case aL => have := LMc15.out; omega); intro v169 w18 ho hb hg hat; rw [← Ny168.out] at ho; have n0_ := Aside0.mk (Kd.R_over' (KR HO_5) (Kd.S_typed (KS HO_6)) (by decide) hg); have n1_ := Aside0.mk (Kd.R_over' (KR HO_12) (Kd.S_typed (KS HO_6)) (by decide) hg); have n2_ := Aside0.mk (hb); have n3_ := Aside0.mk (ho); clear HO_5; clear HO_12; clear HB; clear HO_6; clear HO167; have HO_5 := n0_; have HO_12 := n1_; have HB := n2_; have HO170 := n3_; clear n0_ n1_ n2_ n3_; clear ho hb hg hat))
                      go_roundg k1
                      case measure => have := HK1.out; omega
                      case rel => exact ⟨(y168), (wrap64 (x14_1 + 1)), RF, H', ⟨by have := HK1.out; omega⟩, ⟨by (with_reducible repeat (first | apply Kd.R_alloc | apply Kd.R_drewN | apply Kd.R_drew)); exact Kd.R_mono HO_5.out (fun _ hk => trivial)⟩, ⟨KS HO170⟩, ⟨by (with_reducible repeat (first | apply Kd.R_alloc | apply Kd.R_drewN | apply Kd.R_drew)); exact Kd.R_mono HO_12.out (fun _ hk => trivial)⟩, ⟨BB⟩⟩
                    · rw [if_neg c15] at H
                      exact absurd H (by simp)
                  · replace c14 := Bool.eq_false_iff.mpr c14
                    subst c14; have H1 : (spec_doBorder.l0 k1 l1 t159 x6_1 t159 (t159.length : Int) (wrap64 (x14_1 + 1))) = some r := by rw [if_neg (show ¬ (false = true) by decide)] at H; exact H
                    clear H; have H := H1; clear H1; have H' := Aside0.mk H; clear H; have p162 : 0 ≤ (x14_1 : Int) := of_decide_eq_true AS; have q162 : x14_1 < (t159.length : Int) := of_decide_eq_true AS; obtain ⟨ad162, e162, hx162_0⟩ := Kd.at_int (Kd.R_reads' HO_12.out).2.2 x14_1 p162 q162; cases e162; replace p162 := eq_true p162; replace q162 := eq_true q162; have p163 : 0 ≤ ((ji10) : Int) := of_decide_eq_true AS; have q163 : (ji10) < (t159.length : Int) := of_decide_eq_true AS; obtain ⟨ad163, e163, hx163_0⟩ := Kd.at_int (Kd.R_reads' HO_5.out).2.2 (ji10) p163 q163; obtain rfl : ad162 = ad163 := (by injection e163); replace p163 := eq_true p163; replace q163 := eq_true q163
                    go_wp2_with (first | ((with_reducible refine gate_callee (f := 58) rfl ?_); refine goesL_ (some 30) rfl rfl Try.func58 (by kernel_rfl) rfl #[.slice A1 l1.length c1, .int .i64 (rd t159 x14_1), .int .i64 (rd t159 (ji10))] rfl (by (try simp only [List.map_toArray, List.map_cons, List.map_nil]); first | done | (simp only [hji10]; rfl) | rfl | (simp only [List.length_drop, List.length_take]; rfl)) ?_; (with_reducible refine (spec_doDoor.calls _ _ l1 (rd t159 x14_1) (rd t159 (ji10)) false _ ?side1 ?side2 A13.out).mono ?_); (case side1 => repeat (first | exact (Kd.C_below HR1.out HB.out) | (with_reducible refine Kd.C_drewN ?_ _) | (with_reducible refine Kd.C_drew ?_) | (with_reducible refine Kd.C_alloc ?_ _))); (case side2 => exact HC1.out); rintro e w' ⟨rfl, ⟨nd, rfl⟩⟩; refine ⟨_, rfl, ?_⟩))
                    go_roundg k1
                    case measure => have := HK1.out; omega
                    case rel => exact ⟨(x6_1), (wrap64 (x14_1 + 1)), RF, H', ⟨by have := HK1.out; omega⟩, ⟨KR HO_5⟩, ⟨KS HO_6⟩, ⟨KR HO_12⟩, ⟨BB⟩⟩
                · rw [if_neg c12] at H
                  exact absurd H (by simp)
              · rw [if_neg c11] at H
                exact absurd H (by simp)
          · rw [if_neg c8] at H
            exact absurd H (by simp)
        · rw [if_neg c7] at H
          exact absurd H (by simp)
      · rw [if_neg c6] at H
        have c6b0 : decide (x14_1 < (t159.length : Int)) = false := decide_eq_false c6; clear c6; obtain rfl := Option.some.inj H
        go_wp2
        go_ret
        exact ⟨_, by first | rfl | (simp [errW_none, errW_some] <;> rfl) | (simp [*, errW_none, errW_some] <;> rfl), by (with_reducible repeat (first | apply Kd.S_alloc | apply Kd.S_drewN | apply Kd.S_drew)); exact Kd.S_mono HO_6.out (fun _ hk => trivial), BB⟩

mutual
def spec_doOfCell.l0 : Nat → List Int → List Int → List (List Int) → List Int → Int → Int → Option ((List (List Int)))
  | 0, _, _, _, _, _, _ => none
  | k + 1, x0, x1, x5, x10, x11, x12 => if x12 < x11 then (if 0 ≤ x12 then (if x12 < (x10.length : Int) then (if 0 ≤ (wrap64 (x12 + 1)) then (if (wrap64 (x12 + 1)) ≤ (x1.length : Int) then (spec_doOfCell.l1 k x0 x1 x5 (rd x10 x12) x10 x11 x12 (x1.drop ((wrap64 (x12 + 1)) : Int).toNat) ((x1.drop ((wrap64 (x12 + 1)) : Int).toNat).length : Int) 0) else (none)) else (none)) else (none)) else (none)) else (some x5)
def spec_doOfCell.l1 : Nat → List Int → List Int → List (List Int) → Int → List Int → Int → Int → List Int → Int → Int → Option ((List (List Int)))
  | 0, _, _, _, _, _, _, _, _, _, _ => none
  | k + 1, x0, x1, x5, x7, x10, x11, x12, x20, x21, x22 => if x22 < x21 then (if 0 ≤ x22 then (if x22 < (x20.length : Int) then ((spec_doDoor.f x0 x7 (rd x20 x22)).bind fun t174 => (if t174 = true then (if x5.length < 5864062014805 then (spec_doOfCell.l1 k x0 x1 (x5 ++ [(([x7, rd x20 x22] : List Int))]) x7 x10 x11 x12 x20 x21 (wrap64 (x22 + 1))) else (none)) else (spec_doOfCell.l1 k x0 x1 x5 x7 x10 x11 x12 x20 x21 (wrap64 (x22 + 1))))) else (none)) else (none)) else (spec_doOfCell.l0 k x0 x1 x5 x10 x11 (wrap64 (x12 + 1)))
end
def spec_doOfCell.f (k : Nat) (l0 : List Int) (l1 : List Int) : Option ((List (List Int))) := spec_doOfCell.l0 k l0 l1 ([] : List (List Int)) l1 (l1.length : Int) 0
theorem spec_doOfCell.mono_l : ∀ k, (∀ y0 y1 y2 y3 y4 y5, LeO (spec_doOfCell.l0 k y0 y1 y2 y3 y4 y5) (spec_doOfCell.l0 (k + 1) y0 y1 y2 y3 y4 y5)) ∧ (∀ y0 y1 y2 y3 y4 y5 y6 y7 y8 y9, LeO (spec_doOfCell.l1 k y0 y1 y2 y3 y4 y5 y6 y7 y8 y9) (spec_doOfCell.l1 (k + 1) y0 y1 y2 y3 y4 y5 y6 y7 y8 y9))
  | 0 => ⟨fun _ _ _ _ _ _ r h => by simp [spec_doOfCell.l0] at h, fun _ _ _ _ _ _ _ _ _ _ r h => by simp [spec_doOfCell.l1] at h⟩
  | k + 1 => by
    obtain ⟨ih0, ih1⟩ := spec_doOfCell.mono_l k
    refine ⟨?_, ?_⟩
    · intro y0 y1 y2 y3 y4 y5
      unfold spec_doOfCell.l0
      repeat' first
      | (with_reducible exact ih0 _ _ _ _ _ _)
      | (with_reducible exact ih1 _ _ _ _ _ _ _ _ _ _)
      | (with_reducible exact LeO.refl _)
      | (with_reducible exact LeO.none _)
      | (with_reducible refine LeO.ite ?_ ?_)
      | (with_reducible refine LeO.bind ?_ (fun _ => ?_))
      | exact ih0 _ _ _ _ _ _
      | exact ih1 _ _ _ _ _ _ _ _ _ _
      | exact LeO.none _
      | refine LeO.ite ?_ ?_
      | refine LeO.bind ?_ (fun _ => ?_)
    · intro y0 y1 y2 y3 y4 y5 y6 y7 y8 y9
      unfold spec_doOfCell.l1
      repeat' first
      | (with_reducible exact ih0 _ _ _ _ _ _)
      | (with_reducible exact ih1 _ _ _ _ _ _ _ _ _ _)
      | (with_reducible exact LeO.refl _)
      | (with_reducible exact LeO.none _)
      | (with_reducible refine LeO.ite ?_ ?_)
      | (with_reducible refine LeO.bind ?_ (fun _ => ?_))
      | exact ih0 _ _ _ _ _ _
      | exact ih1 _ _ _ _ _ _ _ _ _ _
      | exact LeO.none _
      | refine LeO.ite ?_ ?_
      | refine LeO.bind ?_ (fun _ => ?_)
theorem spec_doOfCell.mono : ∀ a0 a1 k, LeO (spec_doOfCell.f k a0 a1) (spec_doOfCell.f (k + 1) a0 a1) := by
  intro a0 a1 k
  obtain ⟨ih0, ih1⟩ := spec_doOfCell.mono_l k
  unfold spec_doOfCell.f
  repeat' first
      | (with_reducible exact ih0 _ _ _ _ _ _)
      | (with_reducible exact ih1 _ _ _ _ _ _ _ _ _ _)
      | (with_reducible exact LeO.refl _)
      | (with_reducible exact LeO.none _)
      | (with_reducible refine LeO.ite ?_ ?_)
      | (with_reducible refine LeO.bind ?_ (fun _ => ?_))
      | exact ih0 _ _ _ _ _ _
      | exact ih1 _ _ _ _ _ _ _ _ _ _
      | exact LeO.none _
      | refine LeO.ite ?_ ?_
      | refine LeO.bind ?_ (fun _ => ?_)
set_option maxHeartbeats 8000000 in
set_option maxRecDepth 100000 in
theorem spec_doOfCell.calls (k : Nat) (A0 : Option Addr) (c0 : Nat) (l0 : List Int) (A1 : Option Addr) (c1 : Nat) (l1 : List Int) (r : List (List Int)) (w : World) (hr0 : Kd.C (Kd.int .i64) w A0 l0.length l0) (hc0 : l0.length ≤ c0) (hr1 : Kd.C (Kd.int .i64) w A1 l1.length l1) (hc1 : l1.length ≤ c1) (h : spec_doOfCell.f k l0 l1 = some r) :
    Calls Try.prog 29 #[.slice A0 l0.length c0, .slice A1 l1.length c1] w fun e w' => ∃ v0_ : Value, e = .returned (v0_) ∧ Kd.S (Kd.slice 3 (Kd.int .i64)) 22 w' w.heap.size (fun _ => True) v0_ r ∧ Below w.heap.size w w' := by
  have HR0 := Aside0.mk hr0; have HC0 := Aside0.mk hc0; clear hr0 hc0; have HR1 := Aside0.mk hr1; have HC1 := Aside0.mk hc1; clear hr1 hc1; have HB := Aside0.mk (Below.refl w.heap.size w); have H : (spec_doOfCell.l0 k l0 l1 ([] : List (List Int)) l1 (l1.length : Int) 0) = some r := h; clear h; have H' := Aside0.mk H; clear H
  go_enter Try.func29, Try.ntmps29
  go_wp2
  go_loopg [5, 12] k (fun kq v5 v12 w' => ∃ (x5_1 : List (List Int)) (x12_1 : Int), v12 = .int .i64 x12_1 ∧ Aside0 (spec_doOfCell.l0 kq l0 l1 x5_1 l1 (l1.length : Int) x12_1 = some r) ∧ Aside0 (kq ≤ k) ∧ Aside0 (Kd.S (Kd.slice 3 (Kd.int .i64)) 22 w' w.heap.size (fun _ => True) v5 x5_1) ∧ Aside0 (Below w.heap.size w w'))
  case atStart => exact ⟨(([] : List (List Int))), (0), RF, H', ⟨Nat.le_refl _⟩, ⟨by first | exact Kd.S_nil _ _ _ _ _ | exact Kd.N_nil _ _ _ _ _ | exact Kd.V_nil _ _ _ _ _ | exact Kd.Q_nil _ _ _ _ _ | exact Kd.R_nil _ _ _ _ _⟩, ⟨BB⟩⟩
  case round =>
    clear H'
    try clear c1
    try clear c2
    try clear p2
    obtain ⟨x5_1, x12_1, rfl, HA, HK1, HO_5, HB⟩ := hrel; cases gk with
    | zero => exact absurd HA.out (by simp [spec_doOfCell.l0])
    | succ k1 =>
      have H := HA.out; clear HA
      simp only [spec_doOfCell.l0] at H
      by_cases c3 : x12_1 < (l1.length : Int)
      · rw [if_pos c3] at H
        have c3b0 : decide (x12_1 < (l1.length : Int)) = true := decide_eq_true c3; clear c3
        by_cases c4 : 0 ≤ x12_1
        · rw [if_pos c4] at H
          have c4b0 : decide (0 ≤ x12_1) = true := decide_eq_true c4; clear c4
          by_cases c5 : x12_1 < (l1.length : Int)
          · rw [if_pos c5] at H
            have c5b0 : decide (x12_1 < (l1.length : Int)) = true := decide_eq_true c5; clear c5; obtain ⟨ji6, hji6⟩ : ∃ j_ : Int, (wrap64 (x12_1 + 1)) = j_ := ⟨_, rfl⟩; replace H : (if 0 ≤ (ji6) then (if (ji6) ≤ (l1.length : Int) then (spec_doOfCell.l1 k1 l0 l1 x5_1 (rd l1 x12_1) l1 (l1.length : Int) x12_1 (l1.drop ((ji6) : Int).toNat) ((l1.drop ((ji6) : Int).toNat).length : Int) 0) else (none)) else (none)) = some r := by first | (rw [hji6] at H; exact H) | (simp only [hji6] at H ⊢; exact H)
            have hji6w : (IntKind.i64.wrap (x12_1 + 1)) = ji6 := (i64_w _).trans hji6
            by_cases c7 : 0 ≤ (ji6)
            · rw [if_pos c7] at H
              have c7b0 := eq_true c7; have c7b1 : decide (0 ≤ (ji6)) = true := decide_eq_true c7; clear c7
              by_cases c8 : (ji6) ≤ (l1.length : Int)
              · rw [if_pos c8] at H
                have c8b0 := eq_true c8; have c8b1 : decide ((ji6) ≤ (l1.length : Int)) = true := decide_eq_true c8; clear c8; have H' := Aside0.mk H; clear H; have p171 : 0 ≤ (x12_1 : Int) := of_decide_eq_true AS; have q171 : x12_1 < (l1.length : Int) := of_decide_eq_true AS; obtain ⟨ad171, e171, hx171_0⟩ := Kd.at_int HR1.out x12_1 p171 q171; cases e171
                try (replace hx171_0 := (HB.out.cell (World.block_lt_of_cell? w _ hx171_0)).trans hx171_0)
                replace p171 := eq_true p171; replace q171 := eq_true q171; obtain ⟨i09, hi09, _, hsz9, _⟩ := info_parts info3; obtain ⟨A9, hcut9, hA9, hC9⟩ := print_drop_of (P := Try.prog) (Value.int .i64) 0 22 3 .i64 Try.underlying22 hi09 hsz9 (some ad171) c1 l1 (ji6) (of_decide_eq_true AS) (of_decide_eq_true AS) HC1.out; have HR172 := Aside0.mk (Kd.C_of_reads (h1 := fun _ => rfl) (hA9 _ (Kd.reads_of_C HR1.out))); have HC172 := Aside0.mk hC9; clear hA9 hC9 hi09 hsz9
                go_wp2
                go_loopg [5, 22] k1 (fun kq v5 v22 w' => ∃ (x5_2 : List (List Int)) (x22_2 : Int), v22 = .int .i64 x22_2 ∧ Aside0 (spec_doOfCell.l1 kq l0 l1 x5_2 (rd l1 x12_1) l1 (l1.length : Int) x12_1 (l1.drop ((ji6) : Int).toNat) ((l1.drop ((ji6) : Int).toNat).length : Int) x22_2 = some r) ∧ Aside0 (kq ≤ k1) ∧ Aside0 (Kd.S (Kd.slice 3 (Kd.int .i64)) 22 w' w.heap.size (fun _ => True) v5 x5_2) ∧ Aside0 (Below w.heap.size w w'))
                case atStart => exact ⟨(x5_1), (0), RF, H', ⟨Nat.le_refl _⟩, ⟨KS HO_5⟩, ⟨BB⟩⟩
                case round =>
                  clear H'
                  try clear c1
                  try clear p1
                  try clear q1
                  try clear hx1
                  try clear c2
                  try clear p2
                  try clear c3
                  try clear c3b0
                  try clear c4
                  try clear c4b0
                  try clear c5
                  try clear c5b0
                  try clear p6
                  try clear c7
                  try clear c7b0
                  try clear c7b1
                  try clear c8
                  try clear c8b0
                  try clear c8b1
                  try clear hx171_0
                  try clear p171
                  try clear p2
                  try clear q171
                  obtain ⟨x5_2, x22_2, rfl, HA, HK2, HO_5, HB⟩ := hrel; cases gk with
                  | zero => exact absurd HA.out (by simp [spec_doOfCell.l1])
                  | succ k2 =>
                    have H := HA.out; clear HA
                    simp only [spec_doOfCell.l1] at H
                    by_cases c10 : x22_2 < ((l1.drop ((ji6) : Int).toNat).length : Int)
                    · rw [if_pos c10] at H
                      have c10b0 : decide (x22_2 < ((l1.drop ((ji6) : Int).toNat).length : Int)) = true := decide_eq_true c10; have c10bd : decide (x22_2 < ((l1.length - ((ji6) : Int).toNat : Nat) : Int)) = true := by rw [← List.length_drop]; exact c10b0
                      clear c10
                      by_cases c11 : 0 ≤ x22_2
                      · rw [if_pos c11] at H
                        have c11b0 : decide (0 ≤ x22_2) = true := decide_eq_true c11; clear c11
                        by_cases c12 : x22_2 < ((l1.drop ((ji6) : Int).toNat).length : Int)
                        · rw [if_pos c12] at H
                          have c12b0 : decide (x22_2 < ((l1.drop ((ji6) : Int).toNat).length : Int)) = true := decide_eq_true c12; have c12bd : decide (x22_2 < ((l1.length - ((ji6) : Int).toNat : Nat) : Int)) = true := by rw [← List.length_drop]; exact c12b0
                          clear c12; replace H := Option.bind_eq_some_iff.mp H; obtain ⟨t174, A130, H⟩ := H; replace H : (if t174 = true then (if x5_2.length < 5864062014805 then (spec_doOfCell.l1 k2 l0 l1 (x5_2 ++ [(([(rd l1 x12_1), rd (l1.drop ((ji6) : Int).toNat) x22_2] : List Int))]) (rd l1 x12_1) l1 (l1.length : Int) x12_1 (l1.drop ((ji6) : Int).toNat) ((l1.drop ((ji6) : Int).toNat).length : Int) (wrap64 (x22_2 + 1))) else (none)) else (spec_doOfCell.l1 k2 l0 l1 x5_2 (rd l1 x12_1) l1 (l1.length : Int) x12_1 (l1.drop ((ji6) : Int).toNat) ((l1.drop ((ji6) : Int).toNat).length : Int) (wrap64 (x22_2 + 1)))) = some r := H; have A13 := Aside0.mk A130; clear A130
                          by_cases c14 : t174 = true
                          · subst c14
                            have H1 : (if x5_2.length < 5864062014805 then (spec_doOfCell.l1 k2 l0 l1 (x5_2 ++ [(([(rd l1 x12_1), rd (l1.drop ((ji6) : Int).toNat) x22_2] : List Int))]) (rd l1 x12_1) l1 (l1.length : Int) x12_1 (l1.drop ((ji6) : Int).toNat) ((l1.drop ((ji6) : Int).toNat).length : Int) (wrap64 (x22_2 + 1))) else (none)) = some r := by rw [if_pos rfl] at H; exact H
                            clear H; have H := H1; clear H1; obtain ⟨y175, hy175⟩ : ∃ y_ : List Int, y_ = (([(rd l1 x12_1), rd (l1.drop ((ji6) : Int).toNat) x22_2] : List Int)) := ⟨_, rfl⟩; replace H : (if x5_2.length < 5864062014805 then (spec_doOfCell.l1 k2 l0 l1 (x5_2 ++ [y175]) (rd l1 x12_1) l1 (l1.length : Int) x12_1 (l1.drop ((ji6) : Int).toNat) ((l1.drop ((ji6) : Int).toNat).length : Int) (wrap64 (x22_2 + 1))) else (none)) = some r := by first | (rw [hy175]; with_reducible exact H) | (have H2_ := (Option.bind_some _ _).symm.trans H; rw [hy175]; with_reducible exact H2_) | (have H2_ := (Option.bind_some _ _).symm.trans H; with_reducible exact H2_) | with_reducible exact H | (rw [hy175]; exact H) | exact H
                            have Ny175 := Aside0.mk hy175; clear hy175
                            by_cases c15 : x5_2.length < 5864062014805
                            · rw [if_pos c15] at H
                              have LMc15 := Aside0.mk c15; clear c15; obtain ⟨y178, hy178⟩ : ∃ y_ : List (List Int), y_ = (x5_2 ++ [y175]) := ⟨_, rfl⟩; replace H : (spec_doOfCell.l1 k2 l0 l1 y178 (rd l1 x12_1) l1 (l1.length : Int) x12_1 (l1.drop ((ji6) : Int).toNat) ((l1.drop ((ji6) : Int).toNat).length : Int) (wrap64 (x22_2 + 1))) = some r := by first | (rw [hy178]; with_reducible exact H) | (have H2_ := (Option.bind_some _ _).symm.trans H; rw [hy178]; with_reducible exact H2_) | (have H2_ := (Option.bind_some _ _).symm.trans H; with_reducible exact H2_) | with_reducible exact H | (rw [hy178]; exact H) | exact H
                              have Ny178 := Aside0.mk hy178; clear hy178; have H' := Aside0.mk H; clear H; have p173 : 0 ≤ (x22_2 : Int) := of_decide_eq_true AS; have q173 : x22_2 < ((l1.drop ((ji6) : Int).toNat).length : Int) := of_decide_eq_true AS; have q173d : (x22_2 < ((l1.length - ((ji6) : Int).toNat : Nat) : Int)) = True := eq_true (by rw [← List.length_drop]; exact q173); obtain ⟨ad173, e173, hx173_0⟩ := Kd.at_int HR172.out x22_2 p173 q173; cases e173
                              try (replace hx173_0 := (HB.out.cell (World.block_lt_of_cell? w _ hx173_0)).trans hx173_0)
                              replace p173 := eq_true p173; replace q173 := eq_true q173
                              go_wp2_with (first | ((with_reducible refine gate_callee (f := 58) rfl ?_); refine goesL_ (some 29) rfl rfl Try.func58 (by kernel_rfl) rfl #[.slice A0 l0.length c0, .int .i64 (rd l1 x12_1), .int .i64 (rd (l1.drop ((ji6) : Int).toNat) x22_2)] rfl (by (try simp only [List.map_toArray, List.map_cons, List.map_nil]); first | done | (simp only [hji6]; rfl) | rfl | (simp only [List.length_drop, List.length_take]; rfl)) ?_; (with_reducible refine (spec_doDoor.calls _ _ l0 (rd l1 x12_1) (rd (l1.drop ((ji6) : Int).toNat) x22_2) true _ ?side1 ?side2 A13.out).mono ?_); (case side1 => repeat (first | exact (Kd.C_below HR0.out HB.out) | (with_reducible refine Kd.C_drewN ?_ _) | (with_reducible refine Kd.C_drew ?_) | (with_reducible refine Kd.C_alloc ?_ _))); (case side2 => exact HC0.out); rintro e w' ⟨rfl, ⟨nd, rfl⟩⟩; refine ⟨_, rfl, ?_⟩) | ((with_reducible refine gate_dst (N := 33) rfl ?_); refine Kd.R_lit (Kd.int .i64) _ 3 ?hg (N := 33) ?hd (xs := ([(rd l1 x12_1), rd (l1.drop ((ji6) : Int).toNat) x22_2] : List Int)) (inner := [.int .i64 (rd l1 x12_1), .int .i64 (rd (l1.drop ((ji6) : Int).toNat) x22_2)]) (ok := fun _ => True) (okp := fun _ => True) ?hr ?hp (fun _ hk => hk) trivial (Below.refl _ _) (Nat.le_refl _) (by simp) ?_; (case hd => rfl); (case hg => rfl); (case hr => first | (go_simp; done) | (go_simp; rfl)); (case hp => exact (Reps.one (show Kd.M (Kd.int .i64) _ _ _ (rd l1 x12_1) [.int .i64 (rd l1 x12_1)] from rfl) (Reps.one (show Kd.M (Kd.int .i64) _ _ _ (rd (l1.drop ((ji6) : Int).toNat) x22_2) [.int .i64 (rd (l1.drop ((ji6) : Int).toNat) x22_2)] from rfl) (Reps.none _ _)))); intro v176 w16 ho17 hb hg_ hnew_; clear hg_ hnew_; (first | rw [← Ny175.out] at ho17 | (simp only [Int.reduceToNat] at ho17; rw [← Ny175.out] at ho17)); have n0_ := Aside0.mk (Kd.S_elder' (KS HO_5) (Kd.R_base ho17) hb); have n1_ := Aside0.mk (Kd.R_lower ho17 (below_size BB)); have n2_ := Aside0.mk (below_step BB hb); clear HO_5; clear HB; have HO_5 := n0_; have HO177 := n1_; have HB := n2_; clear n0_ n1_ n2_; clear hb ho17; obtain ⟨Ao19, co19, eo19⟩ := Kd.R_slice HO177.out; subst eo19) | ((with_reducible refine gate_builtin (b := .append) (xs := #[.tmp 30, .tmp 34]) rfl ?_); at_builtin; refine Kd.S_append (Kd.slice 3 (Kd.int .i64)) (w0 := w) w.heap.size rfl (.tmp 30) (.tmp 34) 28 22 (.slice none 0 0) 24 rfl Try.underlying28 info22 rfl (by decide) (by omega) u5 x5_2 y175 [.slice Ao19 y175.length co19] (fun _ => True) (fun k_ => some k_ = (.slice Ao19 y175.length co19 : Value).ownBlock) rfl rfl ?aP (fun k_ hk_ => ((Kd.R_mono (ok' := fun k_ => ((fun _ => True)) k_ ∧ some k_ ≠ (u5 : Value).ownBlock) (Kd.R_apart' (HO177.out) (Kd.S_typed HO_5.out) (by decide)) (fun k_ hk => ⟨trivial, hk.2⟩))).1 k_ hk_.symm) ?aF ?aO ?aB ?aS ?aL ?_; (case aP => exact Kd.M_row (Kd.R_mono (Kd.R_tight rfl (Kd.R_mono (ok' := fun k_ => ((fun _ => True)) k_ ∧ some k_ ≠ (u5 : Value).ownBlock) (Kd.R_apart' (HO177.out) (Kd.S_typed HO_5.out) (by decide)) (fun k_ hk => ⟨trivial, hk.2⟩))) (fun _ h_ => h_))); (case aB => exact BB); (case aF => exact (fun _ _ => trivial)); (case aO => exact (by (with_reducible repeat (first | apply Kd.S_alloc | apply Kd.S_drewN | apply Kd.S_drew)); exact Kd.S_mono HO_5.out (fun k_ hk => ⟨trivial, fun e_ => hk.2 e_⟩))); (case aS => exact (below_size BB)); (case aL => have := LMc15.out; omega); intro v179 w18 ho hb hg hat; rw [← Ny178.out] at ho; have n0_ := Aside0.mk (hb); have n1_ := Aside0.mk (ho); clear HB; clear HO_5; clear HO177; have HB := n0_; have HO180 := n1_; clear n0_ n1_; clear ho hb hg hat))
                              go_roundg k2
                              case measure => have := HK1.out; have := HK2.out; omega
                              case rel => exact ⟨(y178), (wrap64 (x22_2 + 1)), RF, H', ⟨by have := HK1.out; have := HK2.out; omega⟩, ⟨KS HO180⟩, ⟨BB⟩⟩
                            · rw [if_neg c15] at H
                              exact absurd H (by simp)
                          · replace c14 := Bool.eq_false_iff.mpr c14
                            subst c14; have H1 : (spec_doOfCell.l1 k2 l0 l1 x5_2 (rd l1 x12_1) l1 (l1.length : Int) x12_1 (l1.drop ((ji6) : Int).toNat) ((l1.drop ((ji6) : Int).toNat).length : Int) (wrap64 (x22_2 + 1))) = some r := by rw [if_neg (show ¬ (false = true) by decide)] at H; exact H
                            clear H; have H := H1; clear H1; have H' := Aside0.mk H; clear H; have p173 : 0 ≤ (x22_2 : Int) := of_decide_eq_true AS; have q173 : x22_2 < ((l1.drop ((ji6) : Int).toNat).length : Int) := of_decide_eq_true AS; have q173d : (x22_2 < ((l1.length - ((ji6) : Int).toNat : Nat) : Int)) = True := eq_true (by rw [← List.length_drop]; exact q173); obtain ⟨ad173, e173, hx173_0⟩ := Kd.at_int HR172.out x22_2 p173 q173; cases e173
                            try (replace hx173_0 := (HB.out.cell (World.block_lt_of_cell? w _ hx173_0)).trans hx173_0)
                            replace p173 := eq_true p173; replace q173 := eq_true q173
                            go_wp2_with (first | ((with_reducible refine gate_callee (f := 58) rfl ?_); refine goesL_ (some 29) rfl rfl Try.func58 (by kernel_rfl) rfl #[.slice A0 l0.length c0, .int .i64 (rd l1 x12_1), .int .i64 (rd (l1.drop ((ji6) : Int).toNat) x22_2)] rfl (by (try simp only [List.map_toArray, List.map_cons, List.map_nil]); first | done | (simp only [hji6]; rfl) | rfl | (simp only [List.length_drop, List.length_take]; rfl)) ?_; (with_reducible refine (spec_doDoor.calls _ _ l0 (rd l1 x12_1) (rd (l1.drop ((ji6) : Int).toNat) x22_2) false _ ?side1 ?side2 A13.out).mono ?_); (case side1 => repeat (first | exact (Kd.C_below HR0.out HB.out) | (with_reducible refine Kd.C_drewN ?_ _) | (with_reducible refine Kd.C_drew ?_) | (with_reducible refine Kd.C_alloc ?_ _))); (case side2 => exact HC0.out); rintro e w' ⟨rfl, ⟨nd, rfl⟩⟩; refine ⟨_, rfl, ?_⟩))
                            go_roundg k2
                            case measure => have := HK1.out; have := HK2.out; omega
                            case rel => exact ⟨(x5_2), (wrap64 (x22_2 + 1)), RF, H', ⟨by have := HK1.out; have := HK2.out; omega⟩, ⟨KS HO_5⟩, ⟨BB⟩⟩
                        · rw [if_neg c12] at H
                          exact absurd H (by simp)
                      · rw [if_neg c11] at H
                        exact absurd H (by simp)
                    · rw [if_neg c10] at H
                      have c10b0 : decide (x22_2 < ((l1.drop ((ji6) : Int).toNat).length : Int)) = false := decide_eq_false c10; have c10bd : decide (x22_2 < ((l1.length - ((ji6) : Int).toNat : Nat) : Int)) = false := by rw [← List.length_drop]; exact c10b0
                      clear c10; have H' := Aside0.mk H; clear H
                      go_wp2
                      go_roundg k2
                      case measure => have := HK1.out; have := HK2.out; omega
                      case rel => exact ⟨(x5_2), (wrap64 (x12_1 + 1)), RF, H', ⟨by have := HK1.out; have := HK2.out; omega⟩, ⟨KS HO_5⟩, ⟨BB⟩⟩
              · rw [if_neg c8] at H
                exact absurd H (by simp)
            · rw [if_neg c7] at H
              exact absurd H (by simp)
          · rw [if_neg c5] at H
            exact absurd H (by simp)
        · rw [if_neg c4] at H
          exact absurd H (by simp)
      · rw [if_neg c3] at H
        have c3b0 : decide (x12_1 < (l1.length : Int)) = false := decide_eq_false c3; clear c3; obtain rfl := Option.some.inj H
        go_wp2
        go_ret
        exact ⟨_, by first | rfl | (simp [errW_none, errW_some] <;> rfl) | (simp [*, errW_none, errW_some] <;> rfl), KS HO_5, BB⟩

def spec_l1Has.l0 : Nat → Int → List Int → Int → Int → Option (Bool)
  | 0, _, _, _, _ => none
  | k + 1, x1, x7, x8, x9 => if x9 < x8 then (if 0 ≤ x9 then (if x9 < (x7.length : Int) then (if (rd x7 x9) = x1 then (some true) else (spec_l1Has.l0 k x1 x7 x8 (wrap64 (x9 + 1)))) else (none)) else (none)) else (some false)
def spec_l1Has.f (k : Nat) (l0 : List Int) (a1 : Int) : Option (Bool) := spec_l1Has.l0 k a1 l0 (l0.length : Int) 0
theorem spec_l1Has.mono_l : ∀ k, (∀ y0 y1 y2 y3, LeO (spec_l1Has.l0 k y0 y1 y2 y3) (spec_l1Has.l0 (k + 1) y0 y1 y2 y3))
  | 0 => fun _ _ _ _ r h => by simp [spec_l1Has.l0] at h
  | k + 1 => by
    have ih0 := spec_l1Has.mono_l k
    · intro y0 y1 y2 y3
      unfold spec_l1Has.l0
      repeat' first
      | (with_reducible exact ih0 _ _ _ _)
      | (with_reducible exact LeO.refl _)
      | (with_reducible exact LeO.none _)
      | (with_reducible refine LeO.ite ?_ ?_)
      | (with_reducible refine LeO.bind ?_ (fun _ => ?_))
      | exact ih0 _ _ _ _
      | exact LeO.none _
      | refine LeO.ite ?_ ?_
      | refine LeO.bind ?_ (fun _ => ?_)
theorem spec_l1Has.mono : ∀ a0 a1 k, LeO (spec_l1Has.f k a0 a1) (spec_l1Has.f (k + 1) a0 a1) := by
  intro a0 a1 k
  have ih0 := spec_l1Has.mono_l k
  unfold spec_l1Has.f
  repeat' first
      | (with_reducible exact ih0 _ _ _ _)
      | (with_reducible exact LeO.refl _)
      | (with_reducible exact LeO.none _)
      | (with_reducible refine LeO.ite ?_ ?_)
      | (with_reducible refine LeO.bind ?_ (fun _ => ?_))
      | exact ih0 _ _ _ _
      | exact LeO.none _
      | refine LeO.ite ?_ ?_
      | refine LeO.bind ?_ (fun _ => ?_)
set_option maxHeartbeats 8000000 in
set_option maxRecDepth 100000 in
theorem spec_l1Has.calls (k : Nat) (A0 : Option Addr) (c0 : Nat) (l0 : List Int) (a1 : Int) (r : Bool) (w : World) (hr0 : Kd.C (Kd.int .i64) w A0 l0.length l0) (hc0 : l0.length ≤ c0) (h : spec_l1Has.f k l0 a1 = some r) :
    Calls Try.prog 107 #[.slice A0 l0.length c0, .int .i64 a1] w fun e w' => e = .returned (.bool r) ∧ Drawn0 w w' := by
  have HR0 := Aside0.mk hr0; have HC0 := Aside0.mk hc0; clear hr0 hc0; have H : (spec_l1Has.l0 k a1 l0 (l0.length : Int) 0) = some r := h; clear h; have H' := Aside0.mk H; clear H
  go_enter Try.func107, Try.ntmps107
  go_wp2
  go_loopg [9] k (fun kq v9 w' => ∃ (x9_1 : Int), v9 = .int .i64 x9_1 ∧ Aside0 (spec_l1Has.l0 kq a1 l0 (l0.length : Int) x9_1 = some r) ∧ Aside0 (kq ≤ k) ∧ Drawn0 w w')
  case atStart => exact ⟨(0), RF, H', ⟨Nat.le_refl _⟩, by repeat (first | exact Drawn0.refl _ | apply Drawn0.step)⟩
  case round =>
    clear H'
    try clear c1
    try clear p2
    obtain ⟨x9_1, rfl, HA, HK1, ⟨m1, rfl⟩⟩ := hrel; cases gk with
    | zero => exact absurd HA.out (by simp [spec_l1Has.l0])
    | succ k1 =>
      have H := HA.out; clear HA
      simp only [spec_l1Has.l0] at H
      by_cases c3 : x9_1 < (l0.length : Int)
      · rw [if_pos c3] at H
        have c3b0 : decide (x9_1 < (l0.length : Int)) = true := decide_eq_true c3; clear c3
        by_cases c4 : 0 ≤ x9_1
        · rw [if_pos c4] at H
          have c4b0 : decide (0 ≤ x9_1) = true := decide_eq_true c4; clear c4
          by_cases c5 : x9_1 < (l0.length : Int)
          · rw [if_pos c5] at H
            have c5b0 : decide (x9_1 < (l0.length : Int)) = true := decide_eq_true c5; clear c5
            by_cases c6 : (rd l0 x9_1) = a1
            · rw [if_pos c6] at H
              have c6b0 : ((rd l0 x9_1) == a1) = true := beq_iff_eq.mpr c6; have c6b1 : ((rd l0 x9_1) != a1) = false := bne_eq_false_iff_eq.mpr c6; clear c6; obtain rfl := Option.some.inj H; have p181 : 0 ≤ (x9_1 : Int) := of_decide_eq_true AS; have q181 : x9_1 < (l0.length : Int) := of_decide_eq_true AS; obtain ⟨ad181, e181, hx181_0⟩ := Kd.at_int HR0.out x9_1 p181 q181; cases e181; replace p181 := eq_true p181; replace q181 := eq_true q181
              go_wp2
              go_ret
              exact ⟨by first | rfl | (simp; done) | (simp [*]; done) | (simp [*, wrap64]; done), by repeat (first | exact Drawn0.refl _ | apply Drawn0.step)⟩
            · rw [if_neg c6] at H
              have c6b0 : ((rd l0 x9_1) == a1) = false := beq_eq_false_iff_ne.mpr c6; have c6b1 : ((rd l0 x9_1) != a1) = true := bne_iff_ne.mpr c6; have H' := Aside0.mk H; clear H; have p181 : 0 ≤ (x9_1 : Int) := of_decide_eq_true AS; have q181 : x9_1 < (l0.length : Int) := of_decide_eq_true AS; obtain ⟨ad181, e181, hx181_0⟩ := Kd.at_int HR0.out x9_1 p181 q181; cases e181; replace p181 := eq_true p181; replace q181 := eq_true q181
              go_wp2
              go_roundg k1
              case measure => have := HK1.out; omega
              case rel => exact ⟨(wrap64 (x9_1 + 1)), RF, H', ⟨by have := HK1.out; omega⟩, by repeat (first | exact Drawn0.refl _ | apply Drawn0.step)⟩
          · rw [if_neg c5] at H
            exact absurd H (by simp)
        · rw [if_neg c4] at H
          exact absurd H (by simp)
      · rw [if_neg c3] at H
        have c3b0 : decide (x9_1 < (l0.length : Int)) = false := decide_eq_false c3; clear c3; obtain rfl := Option.some.inj H
        go_wp2
        go_ret
        exact ⟨by first | rfl | (simp; done) | (simp [*]; done) | (simp [*, wrap64]; done), by repeat (first | exact Drawn0.refl _ | apply Drawn0.step)⟩

end Go.Proofs.Ytgpplbaloajgdab.PFnExactClosedRooms
