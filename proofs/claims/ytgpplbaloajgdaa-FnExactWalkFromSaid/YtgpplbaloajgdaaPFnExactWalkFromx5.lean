-- Written by a program of this session (wip/tools/pp.sh) out of the translation; Lean checks it.
import Derived.Test.YtgpplbaloajgdaaPFnExactWalkFromx0
import Derived.Test.YtgpplbaloajgdaaPFnExactWalkFromx3
import Derived.Test.YtgpplbaloajgdaaPFnExactWalkFromx4
namespace Go.Proofs.Ytgpplbaloajgdaa.PFnExactWalkFrom
open Go.RowKit Go.Proofs.YtgpplbaloajgdaaOwn Go.Proofs.YtgpplbaloajgdaaW.PrintWords Go.Proofs.YtgpplbaloajgdaaW.PrintLast Go.Proofs.YtgpplbaloajgdaaW.PrintMore
attribute [local go_sem] max2_int min2_int max_two min_two max_three min_three max_four min_four   -- for this text's walks alone
set_option linter.unusedVariables false
set_option linter.unusedSimpArgs false

/-! ### spec_meBorder: function 42 -/
mutual
def spec_meBorder.l0 : Nat → Int → List Int → Int → Option (List Int)
 | 0, _, _, _ => none
 | k + 1, x0, x3, x4 => if x4 < x0 then ((spec_meIndex.f x0 (([wrap64 (x0 - x4), x4, 0] : List Int))).bind fun t209 => (if x3.length < 17592186044416 then (spec_meBorder.l0 k x0 (x3 ++ [t209]) (wrap64 (x4 + 1))) else (none))) else (spec_meBorder.l1 k x0 x3 0)
def spec_meBorder.l1 : Nat → Int → List Int → Int → Option (List Int)
 | 0, _, _, _ => none
 | k + 1, x0, x3, x5 => if x5 < x0 then ((spec_meIndex.f x0 (([0, wrap64 (x0 - x5), x5] : List Int))).bind fun t216 => (if x3.length < 17592186044416 then (spec_meBorder.l1 k x0 (x3 ++ [t216]) (wrap64 (x5 + 1))) else (none))) else (spec_meBorder.l2 k x0 x3 0)
def spec_meBorder.l2 : Nat → Int → List Int → Int → Option (List Int)
 | 0, _, _, _ => none
 | k + 1, x0, x3, x6 => if x6 < x0 then ((spec_meIndex.f x0 (([x6, 0, wrap64 (x0 - x6)] : List Int))).bind fun t223 => (if x3.length < 17592186044416 then (spec_meBorder.l2 k x0 (x3 ++ [t223]) (wrap64 (x6 + 1))) else (none))) else (some x3)
end
def spec_meBorder.f (k : Nat) (a0 : Int) : Option (List Int) := spec_meBorder.l0 k a0 ([] : List Int) 0
theorem spec_meBorder.mono_l : ∀ k, (∀ y0 y1 y2, LeO (spec_meBorder.l0 k y0 y1 y2) (spec_meBorder.l0 (k + 1) y0 y1 y2)) ∧ (∀ y0 y1 y2, LeO (spec_meBorder.l1 k y0 y1 y2) (spec_meBorder.l1 (k + 1) y0 y1 y2)) ∧ (∀ y0 y1 y2, LeO (spec_meBorder.l2 k y0 y1 y2) (spec_meBorder.l2 (k + 1) y0 y1 y2))
 | 0 => ⟨fun _ _ _ r h => by simp [spec_meBorder.l0] at h, fun _ _ _ r h => by simp [spec_meBorder.l1] at h, fun _ _ _ r h => by simp [spec_meBorder.l2] at h⟩
 | k + 1 => by
  obtain ⟨ih0, ih1, ih2⟩ := spec_meBorder.mono_l k
  refine ⟨?_, ?_, ?_⟩
  ·intro y0 y1 y2
   unfold spec_meBorder.l0
   repeat' first
   | (with_reducible exact ih0 _ _ _)
   | (with_reducible exact ih1 _ _ _)
   | (with_reducible exact ih2 _ _ _)
   | (with_reducible exact LeO.refl _)
   | (with_reducible exact LeO.none _)
   | (with_reducible refine LeO.ite ?_ ?_)
   | (with_reducible refine LeO.bind ?_ (fun _ => ?_))
   | exact ih0 _ _ _
   | exact ih1 _ _ _
   | exact ih2 _ _ _
   | exact LeO.none _
   | refine LeO.ite ?_ ?_
   | refine LeO.bind ?_ (fun _ => ?_)
  ·intro y0 y1 y2
   unfold spec_meBorder.l1
   repeat' first
   | (with_reducible exact ih0 _ _ _)
   | (with_reducible exact ih1 _ _ _)
   | (with_reducible exact ih2 _ _ _)
   | (with_reducible exact LeO.refl _)
   | (with_reducible exact LeO.none _)
   | (with_reducible refine LeO.ite ?_ ?_)
   | (with_reducible refine LeO.bind ?_ (fun _ => ?_))
   | exact ih0 _ _ _
   | exact ih1 _ _ _
   | exact ih2 _ _ _
   | exact LeO.none _
   | refine LeO.ite ?_ ?_
   | refine LeO.bind ?_ (fun _ => ?_)
  ·intro y0 y1 y2
   unfold spec_meBorder.l2
   repeat' first
   | (with_reducible exact ih0 _ _ _)
   | (with_reducible exact ih1 _ _ _)
   | (with_reducible exact ih2 _ _ _)
   | (with_reducible exact LeO.refl _)
   | (with_reducible exact LeO.none _)
   | (with_reducible refine LeO.ite ?_ ?_)
   | (with_reducible refine LeO.bind ?_ (fun _ => ?_))
   | exact ih0 _ _ _
   | exact ih1 _ _ _
   | exact ih2 _ _ _
   | exact LeO.none _
   | refine LeO.ite ?_ ?_
   | refine LeO.bind ?_ (fun _ => ?_)
theorem spec_meBorder.mono : ∀ a0 k, LeO (spec_meBorder.f k a0) (spec_meBorder.f (k + 1) a0) := by
 intro a0 k
 obtain ⟨ih0, ih1, ih2⟩ := spec_meBorder.mono_l k
 unfold spec_meBorder.f
 repeat' first
   | (with_reducible exact ih0 _ _ _)
   | (with_reducible exact ih1 _ _ _)
   | (with_reducible exact ih2 _ _ _)
   | (with_reducible exact LeO.refl _)
   | (with_reducible exact LeO.none _)
   | (with_reducible refine LeO.ite ?_ ?_)
   | (with_reducible refine LeO.bind ?_ (fun _ => ?_))
   | exact ih0 _ _ _
   | exact ih1 _ _ _
   | exact ih2 _ _ _
   | exact LeO.none _
   | refine LeO.ite ?_ ?_
   | refine LeO.bind ?_ (fun _ => ?_)
set_option maxHeartbeats 8000000 in
set_option maxRecDepth 100000 in
theorem spec_meBorder.calls (k : Nat) (a0 : Int) (r : List Int) (w : World) (h : spec_meBorder.f k a0 = some r) :
  Calls Try.prog 42 #[.int .i64 a0] w fun e w' => ∃ v0_ : Value, e = .returned (v0_) ∧ Kd.R (Kd.int .i64) 3 w' w.heap.size (fun _ => True) v0_ r ∧ Below w.heap.size w w' := by
 have HB := Aside0.mk (Below.refl w.heap.size w)
 have H : (spec_meBorder.l0 k a0 ([] : List Int) 0) = some r := h
 clear h
 have H' := Aside0.mk H
 clear H
 go_enter Try.func42, Try.ntmps42
 go_wp2
 go_loopg [3, 4] k (fun kq v3 v4 w' => ∃ (x3_1 : List Int) (x4_1 : Int), v4 = .int .i64 x4_1 ∧ Aside0 (spec_meBorder.l0 kq a0 x3_1 x4_1 = some r) ∧ Aside0 (kq ≤ k) ∧ Aside0 (Kd.R (Kd.int .i64) 3 w' w.heap.size (fun _ => True) v3 x3_1) ∧ Aside0 (Below w.heap.size w w'))
 case atStart => exact ⟨(([] : List Int)), (0), RF, H', ⟨Nat.le_refl _⟩, ⟨by first | exact Kd.R_nil _ _ _ _ _ | exact Kd.N_nil _ _ _ _ _ | exact Kd.V_nil _ _ _ _ _ | exact Kd.Q_nil _ _ _ _ _ | exact Kd.S_nil _ _ _ _ _⟩, ⟨BB⟩⟩
 case round =>
  clear H'
  obtain ⟨x3_1, x4_1, rfl, HA, HK1, HO_3, HB⟩ := hrel
  cases gk with
  | zero => exact absurd HA.out (by simp [spec_meBorder.l0])
  | succ k1 =>
   have H := HA.out
   clear HA
   simp only [spec_meBorder.l0] at H
   by_cases c2 : x4_1 < a0
   ·rw [if_pos c2] at H
    have c2b0 : decide (x4_1 < a0) = true := decide_eq_true c2
    clear c2
    obtain ⟨y206, hy206⟩ : ∃ y_ : List Int, y_ = (([wrap64 (a0 - x4_1), x4_1, 0] : List Int)) := ⟨_, rfl⟩
    replace H : ((spec_meIndex.f a0 y206).bind fun t209 => (if x3_1.length < 17592186044416 then (spec_meBorder.l0 k1 a0 (x3_1 ++ [t209]) (wrap64 (x4_1 + 1))) else (none))) = some r := by first | (rw [hy206]; with_reducible exact H) | (have H2_ := (Option.bind_some _ _).symm.trans H; rw [hy206]; with_reducible exact H2_) | (have H2_ := (Option.bind_some _ _).symm.trans H; with_reducible exact H2_) | with_reducible exact H | (rw [hy206]; exact H) | exact H
    have Ny206 := Aside0.mk hy206
    clear hy206
    replace H := Option.bind_eq_some_iff.mp H
    obtain ⟨t209, A30, H⟩ := H
    replace H : (if x3_1.length < 17592186044416 then (spec_meBorder.l0 k1 a0 (x3_1 ++ [t209]) (wrap64 (x4_1 + 1))) else (none)) = some r := H
    have A3 := Aside0.mk A30
    clear A30
    by_cases c4 : x3_1.length < 17592186044416
    ·rw [if_pos c4] at H
     have LMc4 := Aside0.mk c4
     clear c4
     obtain ⟨y210, hy210⟩ : ∃ y_ : List Int, y_ = (x3_1 ++ [t209]) := ⟨_, rfl⟩
     replace H : (spec_meBorder.l0 k1 a0 y210 (wrap64 (x4_1 + 1))) = some r := by first | (rw [hy210]; with_reducible exact H) | (have H2_ := (Option.bind_some _ _).symm.trans H; rw [hy210]; with_reducible exact H2_) | (have H2_ := (Option.bind_some _ _).symm.trans H; with_reducible exact H2_) | with_reducible exact H | (rw [hy210]; exact H) | exact H
     have Ny210 := Aside0.mk hy210
     clear hy210
     have H' := Aside0.mk H
     clear H
     go_wp2_with (first | ((with_reducible refine gate_dst (N := 18) rfl ?_); refine Kd.R_lit (Kd.int .i64) _ 3 ?hg (N := 18) ?hd (xs := ([wrap64 (a0 - x4_1), x4_1, 0] : List Int)) (inner := [.int .i64 (wrap64 (a0 - x4_1)), .int .i64 x4_1, .int .i64 0]) (ok := fun _ => True) (okp := fun _ => True) ?hr ?hp (fun _ hk => hk) trivial (Below.refl _ _) (Nat.le_refl _) (by simp) ?_; (case hd => rfl); (case hg => rfl); (case hr => first | (go_simp; done) | (go_simp; rfl)); (case hp => exact (Reps.one (show Kd.M (Kd.int .i64) _ _ _ (wrap64 (a0 - x4_1)) [.int .i64 (wrap64 (a0 - x4_1))] from rfl) (Reps.one (show Kd.M (Kd.int .i64) _ _ _ x4_1 [.int .i64 x4_1] from rfl) (Reps.one (show Kd.M (Kd.int .i64) _ _ _ 0 [.int .i64 0] from rfl) (Reps.none _ _))))); intro v207 w5 ho6 hb hg_ hnew_; clear hg_ hnew_; (first | rw [← Ny206.out] at ho6 | (simp only [Int.reduceToNat] at ho6; rw [← Ny206.out] at ho6)); have n0_ := Aside0.mk (Kd.R_elder' (KR HO_3) (Kd.R_base ho6) hb); have n1_ := Aside0.mk (Kd.R_lower (Kd.R_new' ho6 (Kd.R_lt (KR HO_3))) (below_size BB)); have n2_ := Aside0.mk (below_step BB hb); clear HO_3; clear HB; have HO_3 := n0_; have HO208 := n1_; have HB := n2_; clear n0_ n1_ n2_; clear hb ho6; obtain ⟨Ao7, co7, eo7⟩ := Kd.R_slice HO208.out; subst eo7) | ((with_reducible refine gate_callee (f := 66) rfl ?_); refine goesL_ (some 19) rfl rfl Try.func66 (by kernel_rfl) rfl #[.int .i64 a0, .slice Ao7 y206.length co7] rfl TA ?_; (with_reducible refine (spec_meIndex.calls a0 _ _ y206 t209 _ ?side1 ?side2 A3.out).mono ?_); (case side1 => repeat (first | exact (Kd.R_reads' HO208.out).2.2 | (with_reducible refine Kd.C_alloc ?_ _) | (with_reducible refine Kd.C_drewN ?_ _) | (with_reducible refine Kd.C_drew ?_))); (case side2 => exact (Kd.R_reads' HO208.out).2.1); rintro e w' ⟨rfl, ⟨nd, rfl⟩⟩; refine ⟨_, rfl, ?_⟩) | ((with_reducible refine gate_builtin (b := .append) (xs := #[.tmp 12, .tmp 20]) rfl ?_); at_builtin; refine Kd.R_append (Kd.int .i64) (w0 := w) w.heap.size rfl (.tmp 12) (.tmp 20) 22 3 (.int .i64 0) 8 rfl Try.underlying22 info3 rfl (by decide) (by omega) u3 x3_1 t209 [.int .i64 t209] (fun k_ => some k_ ≠ (.slice Ao7 y206.length co7 : Value).ownBlock) (fun _ => False) rfl rfl ?aP (fun _ hk => hk.elim) ?aF ?aO ?aB ?aS ?aL ?_; (case aP => exact rfl); (case aB => exact BB); (case aF => exact (fun k_ hk => Kd.fresh' (Kd.R_lt (KR HO208)) k_ hk)); (case aO => exact (by (with_reducible repeat (first | apply Kd.R_alloc | apply Kd.R_drewN | apply Kd.R_drew)); exact Kd.R_mono HO_3.out (fun _ hk => hk.2))); (case aS => exact (below_size BB)); (case aL => have := LMc4.out; omega); intro v211 w8 ho hb hg hat; rw [← Ny210.out] at ho; have n0_ := Aside0.mk (Kd.R_after (ok := (fun _ => True)) (KR HO208) hg hat); have n1_ := Aside0.mk (hb); have n2_ := Aside0.mk (ho); clear HO208; clear HB; clear HO_3; have HO208 := n0_; have HB := n1_; have HO212 := n2_; clear n0_ n1_ n2_; clear ho hb hg hat))
     go_roundg k1
     case measure => have := HK1.out; omega
     case rel => exact ⟨(y210), (wrap64 (x4_1 + 1)), RF, H', ⟨by have := HK1.out; omega⟩, ⟨by (with_reducible repeat (first | apply Kd.R_alloc | apply Kd.R_drewN | apply Kd.R_drew)); exact Kd.R_mono HO212.out (fun _ hk => trivial)⟩, ⟨BB⟩⟩
    ·rw [if_neg c4] at H
     exact absurd H (by simp)
   ·rw [if_neg c2] at H
    have c2b0 : decide (x4_1 < a0) = false := decide_eq_false c2
    clear c2
    have H' := Aside0.mk H
    clear H
    go_wp2
    go_loopg [3, 5] k1 (fun kq v3 v5 w' => ∃ (x3_2 : List Int) (x5_2 : Int), v5 = .int .i64 x5_2 ∧ Aside0 (spec_meBorder.l1 kq a0 x3_2 x5_2 = some r) ∧ Aside0 (kq ≤ k1) ∧ Aside0 (Kd.R (Kd.int .i64) 3 w' w.heap.size (fun _ => True) v3 x3_2) ∧ Aside0 (Below w.heap.size w w'))
    case atStart => exact ⟨(x3_1), (0), RF, H', ⟨Nat.le_refl _⟩, ⟨KR HO_3⟩, ⟨BB⟩⟩
    case round =>
     clear H'
     try clear c2
     try clear c2b0
     try clear p2
     try clear c4
     try clear c6
     try clear p6
     obtain ⟨x3_2, x5_2, rfl, HA, HK2, HO_3, HB⟩ := hrel
     cases gk with
     | zero => exact absurd HA.out (by simp [spec_meBorder.l1])
     | succ k2 =>
      have H := HA.out
      clear HA
      simp only [spec_meBorder.l1] at H
      by_cases c9 : x5_2 < a0
      ·rw [if_pos c9] at H
       have c9b0 : decide (x5_2 < a0) = true := decide_eq_true c9
       clear c9
       obtain ⟨y213, hy213⟩ : ∃ y_ : List Int, y_ = (([0, wrap64 (a0 - x5_2), x5_2] : List Int)) := ⟨_, rfl⟩
       replace H : ((spec_meIndex.f a0 y213).bind fun t216 => (if x3_2.length < 17592186044416 then (spec_meBorder.l1 k2 a0 (x3_2 ++ [t216]) (wrap64 (x5_2 + 1))) else (none))) = some r := by first | (rw [hy213]; with_reducible exact H) | (have H2_ := (Option.bind_some _ _).symm.trans H; rw [hy213]; with_reducible exact H2_) | (have H2_ := (Option.bind_some _ _).symm.trans H; with_reducible exact H2_) | with_reducible exact H | (rw [hy213]; exact H) | exact H
       have Ny213 := Aside0.mk hy213
       clear hy213
       replace H := Option.bind_eq_some_iff.mp H
       obtain ⟨t216, A100, H⟩ := H
       replace H : (if x3_2.length < 17592186044416 then (spec_meBorder.l1 k2 a0 (x3_2 ++ [t216]) (wrap64 (x5_2 + 1))) else (none)) = some r := H
       have A10 := Aside0.mk A100
       clear A100
       by_cases c11 : x3_2.length < 17592186044416
       ·rw [if_pos c11] at H
        have LMc11 := Aside0.mk c11
        clear c11
        obtain ⟨y217, hy217⟩ : ∃ y_ : List Int, y_ = (x3_2 ++ [t216]) := ⟨_, rfl⟩
        replace H : (spec_meBorder.l1 k2 a0 y217 (wrap64 (x5_2 + 1))) = some r := by first | (rw [hy217]; with_reducible exact H) | (have H2_ := (Option.bind_some _ _).symm.trans H; rw [hy217]; with_reducible exact H2_) | (have H2_ := (Option.bind_some _ _).symm.trans H; with_reducible exact H2_) | with_reducible exact H | (rw [hy217]; exact H) | exact H
        have Ny217 := Aside0.mk hy217
        clear hy217
        have H' := Aside0.mk H
        clear H
        go_wp2_with (first | ((with_reducible refine gate_dst (N := 33) rfl ?_); refine Kd.R_lit (Kd.int .i64) _ 3 ?hg (N := 33) ?hd (xs := ([0, wrap64 (a0 - x5_2), x5_2] : List Int)) (inner := [.int .i64 0, .int .i64 (wrap64 (a0 - x5_2)), .int .i64 x5_2]) (ok := fun _ => True) (okp := fun _ => True) ?hr ?hp (fun _ hk => hk) trivial (Below.refl _ _) (Nat.le_refl _) (by simp) ?_; (case hd => rfl); (case hg => rfl); (case hr => first | (go_simp; done) | (go_simp; rfl)); (case hp => exact (Reps.one (show Kd.M (Kd.int .i64) _ _ _ 0 [.int .i64 0] from rfl) (Reps.one (show Kd.M (Kd.int .i64) _ _ _ (wrap64 (a0 - x5_2)) [.int .i64 (wrap64 (a0 - x5_2))] from rfl) (Reps.one (show Kd.M (Kd.int .i64) _ _ _ x5_2 [.int .i64 x5_2] from rfl) (Reps.none _ _))))); intro v214 w12 ho13 hb hg_ hnew_; clear hg_ hnew_; (first | rw [← Ny213.out] at ho13 | (simp only [Int.reduceToNat] at ho13; rw [← Ny213.out] at ho13)); have n0_ := Aside0.mk (Kd.R_elder' (KR HO_3) (Kd.R_base ho13) hb); have n1_ := Aside0.mk (Kd.R_lower (Kd.R_new' ho13 (Kd.R_lt (KR HO_3))) (below_size BB)); have n2_ := Aside0.mk (below_step BB hb); clear HO_3; clear HB; have HO_3 := n0_; have HO215 := n1_; have HB := n2_; clear n0_ n1_ n2_; clear hb ho13; obtain ⟨Ao14, co14, eo14⟩ := Kd.R_slice HO215.out; subst eo14) | ((with_reducible refine gate_callee (f := 66) rfl ?_); refine goesL_ (some 34) rfl rfl Try.func66 (by kernel_rfl) rfl #[.int .i64 a0, .slice Ao14 y213.length co14] rfl TA ?_; (with_reducible refine (spec_meIndex.calls a0 _ _ y213 t216 _ ?side1 ?side2 A10.out).mono ?_); (case side1 => repeat (first | exact (Kd.R_reads' HO215.out).2.2 | (with_reducible refine Kd.C_alloc ?_ _) | (with_reducible refine Kd.C_drewN ?_ _) | (with_reducible refine Kd.C_drew ?_))); (case side2 => exact (Kd.R_reads' HO215.out).2.1); rintro e w' ⟨rfl, ⟨nd, rfl⟩⟩; refine ⟨_, rfl, ?_⟩) | ((with_reducible refine gate_builtin (b := .append) (xs := #[.tmp 27, .tmp 35]) rfl ?_); at_builtin; refine Kd.R_append (Kd.int .i64) (w0 := w) w.heap.size rfl (.tmp 27) (.tmp 35) 22 3 (.int .i64 0) 8 rfl Try.underlying22 info3 rfl (by decide) (by omega) u3 x3_2 t216 [.int .i64 t216] (fun k_ => some k_ ≠ (.slice Ao14 y213.length co14 : Value).ownBlock) (fun _ => False) rfl rfl ?aP (fun _ hk => hk.elim) ?aF ?aO ?aB ?aS ?aL ?_; (case aP => exact rfl); (case aB => exact BB); (case aF => exact (fun k_ hk => Kd.fresh' (Kd.R_lt (KR HO215)) k_ hk)); (case aO => exact (by (with_reducible repeat (first | apply Kd.R_alloc | apply Kd.R_drewN | apply Kd.R_drew)); exact Kd.R_mono HO_3.out (fun _ hk => hk.2))); (case aS => exact (below_size BB)); (case aL => have := LMc11.out; omega); intro v218 w15 ho hb hg hat; rw [← Ny217.out] at ho; have n0_ := Aside0.mk (Kd.R_after (ok := (fun _ => True)) (KR HO215) hg hat); have n1_ := Aside0.mk (hb); have n2_ := Aside0.mk (ho); clear HO215; clear HB; clear HO_3; have HO215 := n0_; have HB := n1_; have HO219 := n2_; clear n0_ n1_ n2_; clear ho hb hg hat))
        go_roundg k2
        case measure => have := HK1.out; have := HK2.out; omega
        case rel => exact ⟨(y217), (wrap64 (x5_2 + 1)), RF, H', ⟨by have := HK1.out; have := HK2.out; omega⟩, ⟨by (with_reducible repeat (first | apply Kd.R_alloc | apply Kd.R_drewN | apply Kd.R_drew)); exact Kd.R_mono HO219.out (fun _ hk => trivial)⟩, ⟨BB⟩⟩
       ·rw [if_neg c11] at H
        exact absurd H (by simp)
      ·rw [if_neg c9] at H
       have c9b0 : decide (x5_2 < a0) = false := decide_eq_false c9
       clear c9
       have H' := Aside0.mk H
       clear H
       go_wp2
       go_loopg [3, 6] k2 (fun kq v3 v6 w' => ∃ (x3_3 : List Int) (x6_3 : Int), v6 = .int .i64 x6_3 ∧ Aside0 (spec_meBorder.l2 kq a0 x3_3 x6_3 = some r) ∧ Aside0 (kq ≤ k2) ∧ Aside0 (Kd.R (Kd.int .i64) 3 w' w.heap.size (fun _ => True) v3 x3_3) ∧ Aside0 (Below w.heap.size w w'))
       case atStart => exact ⟨(x3_2), (0), RF, H', ⟨Nat.le_refl _⟩, ⟨KR HO_3⟩, ⟨BB⟩⟩
       case round =>
        clear H'
        try clear c1
        try clear c2
        try clear c2b0
        try clear p2
        try clear c4
        try clear c6
        try clear p6
        try clear c9
        try clear c9b0
        try clear c11
        try clear p2
        try clear p6
        obtain ⟨x3_3, x6_3, rfl, HA, HK3, HO_3, HB⟩ := hrel
        cases gk with
        | zero => exact absurd HA.out (by simp [spec_meBorder.l2])
        | succ k3 =>
         have H := HA.out
         clear HA
         simp only [spec_meBorder.l2] at H
         by_cases c16 : x6_3 < a0
         ·rw [if_pos c16] at H
          have c16b0 : decide (x6_3 < a0) = true := decide_eq_true c16
          clear c16
          obtain ⟨y220, hy220⟩ : ∃ y_ : List Int, y_ = (([x6_3, 0, wrap64 (a0 - x6_3)] : List Int)) := ⟨_, rfl⟩
          replace H : ((spec_meIndex.f a0 y220).bind fun t223 => (if x3_3.length < 17592186044416 then (spec_meBorder.l2 k3 a0 (x3_3 ++ [t223]) (wrap64 (x6_3 + 1))) else (none))) = some r := by first | (rw [hy220]; with_reducible exact H) | (have H2_ := (Option.bind_some _ _).symm.trans H; rw [hy220]; with_reducible exact H2_) | (have H2_ := (Option.bind_some _ _).symm.trans H; with_reducible exact H2_) | with_reducible exact H | (rw [hy220]; exact H) | exact H
          have Ny220 := Aside0.mk hy220
          clear hy220
          replace H := Option.bind_eq_some_iff.mp H
          obtain ⟨t223, A170, H⟩ := H
          replace H : (if x3_3.length < 17592186044416 then (spec_meBorder.l2 k3 a0 (x3_3 ++ [t223]) (wrap64 (x6_3 + 1))) else (none)) = some r := H
          have A17 := Aside0.mk A170
          clear A170
          by_cases c18 : x3_3.length < 17592186044416
          ·rw [if_pos c18] at H
           have LMc18 := Aside0.mk c18
           clear c18
           obtain ⟨y224, hy224⟩ : ∃ y_ : List Int, y_ = (x3_3 ++ [t223]) := ⟨_, rfl⟩
           replace H : (spec_meBorder.l2 k3 a0 y224 (wrap64 (x6_3 + 1))) = some r := by first | (rw [hy224]; with_reducible exact H) | (have H2_ := (Option.bind_some _ _).symm.trans H; rw [hy224]; with_reducible exact H2_) | (have H2_ := (Option.bind_some _ _).symm.trans H; with_reducible exact H2_) | with_reducible exact H | (rw [hy224]; exact H) | exact H
           have Ny224 := Aside0.mk hy224
           clear hy224
           have H' := Aside0.mk H
           clear H
           go_wp2_with (first | ((with_reducible refine gate_dst (N := 48) rfl ?_); refine Kd.R_lit (Kd.int .i64) _ 3 ?hg (N := 48) ?hd (xs := ([x6_3, 0, wrap64 (a0 - x6_3)] : List Int)) (inner := [.int .i64 x6_3, .int .i64 0, .int .i64 (wrap64 (a0 - x6_3))]) (ok := fun _ => True) (okp := fun _ => True) ?hr ?hp (fun _ hk => hk) trivial (Below.refl _ _) (Nat.le_refl _) (by simp) ?_; (case hd => rfl); (case hg => rfl); (case hr => first | (go_simp; done) | (go_simp; rfl)); (case hp => exact (Reps.one (show Kd.M (Kd.int .i64) _ _ _ x6_3 [.int .i64 x6_3] from rfl) (Reps.one (show Kd.M (Kd.int .i64) _ _ _ 0 [.int .i64 0] from rfl) (Reps.one (show Kd.M (Kd.int .i64) _ _ _ (wrap64 (a0 - x6_3)) [.int .i64 (wrap64 (a0 - x6_3))] from rfl) (Reps.none _ _))))); intro v221 w19 ho20 hb hg_ hnew_; clear hg_ hnew_; (first | rw [← Ny220.out] at ho20 | (simp only [Int.reduceToNat] at ho20; rw [← Ny220.out] at ho20)); have n0_ := Aside0.mk (Kd.R_elder' (KR HO_3) (Kd.R_base ho20) hb); have n1_ := Aside0.mk (Kd.R_lower (Kd.R_new' ho20 (Kd.R_lt (KR HO_3))) (below_size BB)); have n2_ := Aside0.mk (below_step BB hb); clear HO_3; clear HB; have HO_3 := n0_; have HO222 := n1_; have HB := n2_; clear n0_ n1_ n2_; clear hb ho20; obtain ⟨Ao21, co21, eo21⟩ := Kd.R_slice HO222.out; subst eo21) | ((with_reducible refine gate_callee (f := 66) rfl ?_); refine goesL_ (some 49) rfl rfl Try.func66 (by kernel_rfl) rfl #[.int .i64 a0, .slice Ao21 y220.length co21] rfl TA ?_; (with_reducible refine (spec_meIndex.calls a0 _ _ y220 t223 _ ?side1 ?side2 A17.out).mono ?_); (case side1 => repeat (first | exact (Kd.R_reads' HO222.out).2.2 | (with_reducible refine Kd.C_alloc ?_ _) | (with_reducible refine Kd.C_drewN ?_ _) | (with_reducible refine Kd.C_drew ?_))); (case side2 => exact (Kd.R_reads' HO222.out).2.1); rintro e w' ⟨rfl, ⟨nd, rfl⟩⟩; refine ⟨_, rfl, ?_⟩) | ((with_reducible refine gate_builtin (b := .append) (xs := #[.tmp 42, .tmp 50]) rfl ?_); at_builtin; refine Kd.R_append (Kd.int .i64) (w0 := w) w.heap.size rfl (.tmp 42) (.tmp 50) 22 3 (.int .i64 0) 8 rfl Try.underlying22 info3 rfl (by decide) (by omega) u3 x3_3 t223 [.int .i64 t223] (fun k_ => some k_ ≠ (.slice Ao21 y220.length co21 : Value).ownBlock) (fun _ => False) rfl rfl ?aP (fun _ hk => hk.elim) ?aF ?aO ?aB ?aS ?aL ?_; (case aP => exact rfl); (case aB => exact BB); (case aF => exact (fun k_ hk => Kd.fresh' (Kd.R_lt (KR HO222)) k_ hk)); (case aO => exact (by (with_reducible repeat (first | apply Kd.R_alloc | apply Kd.R_drewN | apply Kd.R_drew)); exact Kd.R_mono HO_3.out (fun _ hk => hk.2))); (case aS => exact (below_size BB)); (case aL => have := LMc18.out; omega); intro v225 w22 ho hb hg hat; rw [← Ny224.out] at ho; have n0_ := Aside0.mk (Kd.R_after (ok := (fun _ => True)) (KR HO222) hg hat); have n1_ := Aside0.mk (hb); have n2_ := Aside0.mk (ho); clear HO222; clear HB; clear HO_3; have HO222 := n0_; have HB := n1_; have HO226 := n2_; clear n0_ n1_ n2_; clear ho hb hg hat))
           go_roundg k3
           case measure => have := HK1.out; have := HK2.out; have := HK3.out; omega
           case rel => exact ⟨(y224), (wrap64 (x6_3 + 1)), RF, H', ⟨by have := HK1.out; have := HK2.out; have := HK3.out; omega⟩, ⟨by (with_reducible repeat (first | apply Kd.R_alloc | apply Kd.R_drewN | apply Kd.R_drew)); exact Kd.R_mono HO226.out (fun _ hk => trivial)⟩, ⟨BB⟩⟩
          ·rw [if_neg c18] at H
           exact absurd H (by simp)
         ·rw [if_neg c16] at H
          have c16b0 : decide (x6_3 < a0) = false := decide_eq_false c16
          clear c16
          obtain rfl := Option.some.inj H
          go_wp2
          go_ret
          exact ⟨_, by first | rfl | (simp [errW_none, errW_some] <;> rfl) | (simp [*, errW_none, errW_some] <;> rfl), KR HO_3, BB⟩

/-! ### spec_doBorder: function 21 -/
def spec_doBorder.l0 : Nat → List Int → List Int → List (List Int) → List Int → Int → Int → Option ((List (List Int)))
 | 0, _, _, _, _, _, _ => none
 | k + 1, x1, x5, x6, x12, x13, x14 => if x14 < x13 then (if 0 ≤ x14 then (if x14 < (x12.length : Int) then (if (x5.length : Int) = 0 then (none) else (if 0 ≤ (Int.tmod (wrap64 (x14 + 1)) (x5.length : Int)) then (if (Int.tmod (wrap64 (x14 + 1)) (x5.length : Int)) < (x5.length : Int) then ((spec_doDoor.f x1 (rd x12 x14) (rd x5 (Int.tmod (wrap64 (x14 + 1)) (x5.length : Int)))).bind fun t232 => (if t232 = true then (if x6.length < 5864062014805 then (spec_doBorder.l0 k x1 x5 (x6 ++ [(([rd x12 x14, rd x5 (Int.tmod (wrap64 (x14 + 1)) (x5.length : Int))] : List Int))]) x12 x13 (wrap64 (x14 + 1))) else (none)) else (spec_doBorder.l0 k x1 x5 x6 x12 x13 (wrap64 (x14 + 1))))) else (none)) else (none))) else (none)) else (none)) else (some x6)
def spec_doBorder.f (k : Nat) (a0 : Int) (l1 : List Int) : Option ((List (List Int))) := (spec_meBorder.f k a0).bind fun t227 => (spec_doBorder.l0 k l1 t227 ([] : List (List Int)) t227 (t227.length : Int) 0)
theorem spec_doBorder.mono_l : ∀ k, (∀ y0 y1 y2 y3 y4 y5, LeO (spec_doBorder.l0 k y0 y1 y2 y3 y4 y5) (spec_doBorder.l0 (k + 1) y0 y1 y2 y3 y4 y5))
 | 0 => fun _ _ _ _ _ _ r h => by simp [spec_doBorder.l0] at h
 | k + 1 => by
  have ih0 := spec_doBorder.mono_l k
  ·intro y0 y1 y2 y3 y4 y5
   unfold spec_doBorder.l0
   repeat' first
   | (with_reducible exact ih0 _ _ _ _ _ _)
   | (with_reducible exact spec_meBorder.mono _ _)
   | (with_reducible exact LeO.refl _)
   | (with_reducible exact LeO.none _)
   | (with_reducible refine LeO.ite ?_ ?_)
   | (with_reducible refine LeO.bind ?_ (fun _ => ?_))
   | exact ih0 _ _ _ _ _ _
   | exact spec_meBorder.mono _ _
   | exact LeO.none _
   | refine LeO.ite ?_ ?_
   | refine LeO.bind ?_ (fun _ => ?_)
theorem spec_doBorder.mono : ∀ a0 a1 k, LeO (spec_doBorder.f k a0 a1) (spec_doBorder.f (k + 1) a0 a1) := by
 intro a0 a1 k
 have ih0 := spec_doBorder.mono_l k
 unfold spec_doBorder.f
 repeat' first
   | (with_reducible exact ih0 _ _ _ _ _ _)
   | (with_reducible exact spec_meBorder.mono _ _)
   | (with_reducible exact LeO.refl _)
   | (with_reducible exact LeO.none _)
   | (with_reducible refine LeO.ite ?_ ?_)
   | (with_reducible refine LeO.bind ?_ (fun _ => ?_))
   | exact ih0 _ _ _ _ _ _
   | exact spec_meBorder.mono _ _
   | exact LeO.none _
   | refine LeO.ite ?_ ?_
   | refine LeO.bind ?_ (fun _ => ?_)
set_option maxHeartbeats 8000000 in
set_option maxRecDepth 100000 in
theorem spec_doBorder.calls (k : Nat) (a0 : Int) (A1 : Option Addr) (c1 : Nat) (l1 : List Int) (r : List (List Int)) (w : World) (hr1 : Kd.C (Kd.int .i64) w A1 l1.length l1) (hc1 : l1.length ≤ c1) (h : spec_doBorder.f k a0 l1 = some r) :
  Calls Try.prog 21 #[.int .i64 a0, .slice A1 l1.length c1] w fun e w' => ∃ v0_ : Value, e = .returned (v0_) ∧ Kd.S (Kd.slice 3 (Kd.int .i64)) 22 w' w.heap.size (fun _ => True) v0_ r ∧ Below w.heap.size w w' := by
 have HR1 := Aside0.mk hr1
 have HC1 := Aside0.mk hc1
 clear hr1 hc1
 have HB := Aside0.mk (Below.refl w.heap.size w)
 have H : ((spec_meBorder.f k a0).bind fun t227 => (spec_doBorder.l0 k l1 t227 ([] : List (List Int)) t227 (t227.length : Int) 0)) = some r := h
 clear h
 replace H := Option.bind_eq_some_iff.mp H
 obtain ⟨t227, A30, H⟩ := H
 replace H : (spec_doBorder.l0 k l1 t227 ([] : List (List Int)) t227 (t227.length : Int) 0) = some r := H
 have A3 := Aside0.mk A30
 clear A30
 have H' := Aside0.mk H
 clear H
 go_enter Try.func21, Try.ntmps21
 go_wp2_with (first | ((with_reducible refine gate_callee (f := 42) rfl ?_); refine goesL_ (some 11) rfl rfl Try.func42 (by kernel_rfl) rfl #[.int .i64 a0] rfl TA ?_; (with_reducible refine (spec_meBorder.calls k a0 t227 _ A3.out).mono ?_); rintro e w4 ⟨v228, rfl, ho0, hb⟩; refine ⟨_, rfl, ?_⟩; have n0_ := Aside0.mk (Kd.R_lower ho0 (below_size BB)); have n1_ := Aside0.mk (below_step BB hb); clear HB; have HO229 := n0_; have HB := n1_; clear n0_ n1_; (try clear hb); (try clear hb2); (try clear hk); (try clear hi); (try clear ho0); obtain ⟨Ao5, co5, eo5⟩ := Kd.R_slice HO229.out; subst eo5))
 go_loopg [6, 14] k (fun kq v6 v14 w' => ∃ (x6_1 : List (List Int)) (x14_1 : Int), v14 = .int .i64 x14_1 ∧ Aside0 (spec_doBorder.l0 kq l1 t227 x6_1 t227 (t227.length : Int) x14_1 = some r) ∧ Aside0 (kq ≤ k) ∧ Aside0 (Kd.R (Kd.int .i64) 3 w' w.heap.size (fun _ => True) (.slice Ao5 t227.length co5) t227) ∧ Aside0 (Kd.S (Kd.slice 3 (Kd.int .i64)) 22 w' w.heap.size (fun k_ => some k_ ≠ ((.slice Ao5 t227.length co5) : Value).ownBlock ∧ some k_ ≠ ((.slice Ao5 t227.length co5) : Value).ownBlock) v6 x6_1) ∧ Aside0 (Kd.R (Kd.int .i64) 3 w' w.heap.size (fun _ => True) (.slice Ao5 t227.length co5) t227) ∧ Aside0 (Below w.heap.size w w'))
 case atStart => exact ⟨(([] : List (List Int))), (0), RF, H', ⟨Nat.le_refl _⟩, ⟨KR HO229⟩, ⟨by first | exact Kd.S_nil _ _ _ _ _ | exact Kd.N_nil _ _ _ _ _ | exact Kd.V_nil _ _ _ _ _ | exact Kd.Q_nil _ _ _ _ _ | exact Kd.R_nil _ _ _ _ _⟩, ⟨KR HO229⟩, ⟨BB⟩⟩
 case round =>
  clear H'
  try clear c1
  try clear c2
  try clear p2
  try clear c4
  obtain ⟨x6_1, x14_1, rfl, HA, HK1, HO_5, HO_6, HO_12, HB⟩ := hrel
  cases gk with
  | zero => exact absurd HA.out (by simp [spec_doBorder.l0])
  | succ k1 =>
   have H := HA.out
   clear HA
   simp only [spec_doBorder.l0] at H
   by_cases c6 : x14_1 < (t227.length : Int)
   ·rw [if_pos c6] at H
    have c6b0 : decide (x14_1 < (t227.length : Int)) = true := decide_eq_true c6
    clear c6
    by_cases c7 : 0 ≤ x14_1
    ·rw [if_pos c7] at H
     have c7b0 : decide (0 ≤ x14_1) = true := decide_eq_true c7
     clear c7
     by_cases c8 : x14_1 < (t227.length : Int)
     ·rw [if_pos c8] at H
      have c8b0 : decide (x14_1 < (t227.length : Int)) = true := decide_eq_true c8
      clear c8
      by_cases c9 : (t227.length : Int) = 0
      ·rw [if_pos c9] at H
       exact absurd H (by simp)
      ·rw [if_neg c9] at H
       have c9b0 : ((t227.length : Int) == 0) = false := beq_eq_false_iff_ne.mpr c9
       have c9b1 : ((t227.length : Int) != 0) = true := bne_iff_ne.mpr c9
       have c9b2 : ¬ (t227 = []) := fun h_ => c9 (by rw [h_]; rfl)
       obtain ⟨ji10, hji10⟩ : ∃ j_ : Int, (Int.tmod (wrap64 (x14_1 + 1)) (t227.length : Int)) = j_ := ⟨_, rfl⟩
       replace H : (if 0 ≤ (ji10) then (if (ji10) < (t227.length : Int) then ((spec_doDoor.f l1 (rd t227 x14_1) (rd t227 (ji10))).bind fun t232 => (if t232 = true then (if x6_1.length < 5864062014805 then (spec_doBorder.l0 k1 l1 t227 (x6_1 ++ [(([rd t227 x14_1, rd t227 (ji10)] : List Int))]) t227 (t227.length : Int) (wrap64 (x14_1 + 1))) else (none)) else (spec_doBorder.l0 k1 l1 t227 x6_1 t227 (t227.length : Int) (wrap64 (x14_1 + 1))))) else (none)) else (none)) = some r := by first | (rw [hji10] at H; exact H) | (simp only [hji10] at H ⊢; exact H)
       by_cases c11 : 0 ≤ (ji10)
       ·rw [if_pos c11] at H
        have c11b0 : decide (0 ≤ (ji10)) = true := decide_eq_true c11
        clear c11
        by_cases c12 : (ji10) < (t227.length : Int)
        ·rw [if_pos c12] at H
         have c12b0 : decide ((ji10) < (t227.length : Int)) = true := decide_eq_true c12
         clear c12
         replace H := Option.bind_eq_some_iff.mp H
         obtain ⟨t232, A130, H⟩ := H
         replace H : (if t232 = true then (if x6_1.length < 5864062014805 then (spec_doBorder.l0 k1 l1 t227 (x6_1 ++ [(([rd t227 x14_1, rd t227 (ji10)] : List Int))]) t227 (t227.length : Int) (wrap64 (x14_1 + 1))) else (none)) else (spec_doBorder.l0 k1 l1 t227 x6_1 t227 (t227.length : Int) (wrap64 (x14_1 + 1)))) = some r := H
         have A13 := Aside0.mk A130
         clear A130
         by_cases c14 : t232 = true
         ·subst c14
          have H1 : (if x6_1.length < 5864062014805 then (spec_doBorder.l0 k1 l1 t227 (x6_1 ++ [(([rd t227 x14_1, rd t227 (ji10)] : List Int))]) t227 (t227.length : Int) (wrap64 (x14_1 + 1))) else (none)) = some r := by rw [if_pos rfl] at H; exact H
          clear H
          have H := H1
          clear H1
          obtain ⟨y233, hy233⟩ : ∃ y_ : List Int, y_ = (([rd t227 x14_1, rd t227 (ji10)] : List Int)) := ⟨_, rfl⟩
          replace H : (if x6_1.length < 5864062014805 then (spec_doBorder.l0 k1 l1 t227 (x6_1 ++ [y233]) t227 (t227.length : Int) (wrap64 (x14_1 + 1))) else (none)) = some r := by first | (rw [hy233]; with_reducible exact H) | (have H2_ := (Option.bind_some _ _).symm.trans H; rw [hy233]; with_reducible exact H2_) | (have H2_ := (Option.bind_some _ _).symm.trans H; with_reducible exact H2_) | with_reducible exact H | (rw [hy233]; exact H) | exact H
          have Ny233 := Aside0.mk hy233
          clear hy233
          by_cases c15 : x6_1.length < 5864062014805
          ·rw [if_pos c15] at H
           have LMc15 := Aside0.mk c15
           clear c15
           obtain ⟨y236, hy236⟩ : ∃ y_ : List (List Int), y_ = (x6_1 ++ [y233]) := ⟨_, rfl⟩
           replace H : (spec_doBorder.l0 k1 l1 t227 y236 t227 (t227.length : Int) (wrap64 (x14_1 + 1))) = some r := by first | (rw [hy236]; with_reducible exact H) | (have H2_ := (Option.bind_some _ _).symm.trans H; rw [hy236]; with_reducible exact H2_) | (have H2_ := (Option.bind_some _ _).symm.trans H; with_reducible exact H2_) | with_reducible exact H | (rw [hy236]; exact H) | exact H
           have Ny236 := Aside0.mk hy236
           clear hy236
           have H' := Aside0.mk H
           clear H
           have p230 : 0 ≤ (x14_1 : Int) := of_decide_eq_true AS
           have q230 : x14_1 < (t227.length : Int) := of_decide_eq_true AS
           obtain ⟨ad230, e230, hx230_0⟩ := Kd.at_int (Kd.R_reads' HO_12.out).2.2 x14_1 p230 q230
           cases e230
           replace p230 := eq_true p230
           replace q230 := eq_true q230
           have p231 : 0 ≤ ((ji10) : Int) := of_decide_eq_true AS
           have q231 : (ji10) < (t227.length : Int) := of_decide_eq_true AS
           obtain ⟨ad231, e231, hx231_0⟩ := Kd.at_int (Kd.R_reads' HO_5.out).2.2 (ji10) p231 q231
           obtain rfl : ad230 = ad231 := (by injection e231)
           replace p231 := eq_true p231
           replace q231 := eq_true q231
           go_wp2_with (first | ((with_reducible refine gate_callee (f := 43) rfl ?_); refine goesL_ (some 30) rfl rfl Try.func43 (by kernel_rfl) rfl #[.slice A1 l1.length c1, .int .i64 (rd t227 x14_1), .int .i64 (rd t227 (ji10))] rfl (by (try simp only [List.map_toArray, List.map_cons, List.map_nil]); first | done | (simp only [hji10]; rfl) | rfl | (simp only [List.length_drop, List.length_take]; rfl)) ?_; (with_reducible refine (spec_doDoor.calls _ _ l1 (rd t227 x14_1) (rd t227 (ji10)) true _ ?side1 ?side2 A13.out).mono ?_); (case side1 => repeat (first | exact (Kd.C_below HR1.out HB.out) | (with_reducible refine Kd.C_alloc ?_ _) | (with_reducible refine Kd.C_drewN ?_ _) | (with_reducible refine Kd.C_drew ?_))); (case side2 => exact HC1.out); rintro e w' ⟨rfl, ⟨nd, rfl⟩⟩; refine ⟨_, rfl, ?_⟩) | ((with_reducible refine gate_dst (N := 34) rfl ?_); refine Kd.R_lit (Kd.int .i64) _ 3 ?hg (N := 34) ?hd (xs := ([rd t227 x14_1, rd t227 (ji10)] : List Int)) (inner := [.int .i64 (rd t227 x14_1), .int .i64 (rd t227 (ji10))]) (ok := fun _ => True) (okp := fun _ => True) ?hr ?hp (fun _ hk => hk) trivial (Below.refl _ _) (Nat.le_refl _) (by simp) ?_; (case hd => rfl); (case hg => rfl); (case hr => first | (go_simp; done) | (go_simp; rfl)); (case hp => exact (Reps.one (show Kd.M (Kd.int .i64) _ _ _ (rd t227 x14_1) [.int .i64 (rd t227 x14_1)] from rfl) (Reps.one (show Kd.M (Kd.int .i64) _ _ _ (rd t227 (ji10)) [.int .i64 (rd t227 (ji10))] from rfl) (Reps.none _ _)))); intro v234 w16 ho17 hb hg_ hnew_; clear hg_ hnew_; (first | rw [← Ny233.out] at ho17 | (simp only [Int.reduceToNat] at ho17; rw [← Ny233.out] at ho17)); have n0_ := Aside0.mk (Kd.R_elder' (KR HO_5) (Kd.R_base ho17) hb); have n1_ := Aside0.mk (Kd.S_elder' (KS HO_6) (Kd.R_base ho17) hb); have n2_ := Aside0.mk (Kd.R_elder' (KR HO_12) (Kd.R_base ho17) hb); have n3_ := Aside0.mk (Kd.R_lower (Kd.R_new' (Kd.R_new' ho17 (Kd.R_lt (KR HO_5))) (Kd.R_lt (KR HO_12))) (below_size BB)); have n4_ := Aside0.mk (below_step BB hb); clear HO_5; clear HO_6; clear HO_12; clear HB; have HO_5 := n0_; have HO_6 := n1_; have HO_12 := n2_; have HO235 := n3_; have HB := n4_; clear n0_ n1_ n2_ n3_ n4_; clear hb ho17; obtain ⟨Ao19, co19, eo19⟩ := Kd.R_slice HO235.out; subst eo19) | ((with_reducible refine gate_builtin (b := .append) (xs := #[.tmp 31, .tmp 35]) rfl ?_); at_builtin; refine Kd.S_append (Kd.slice 3 (Kd.int .i64)) (w0 := w) w.heap.size rfl (.tmp 31) (.tmp 35) 36 22 (.slice none 0 0) 24 rfl Try.underlying36 info22 rfl (by decide) (by omega) u6 x6_1 y233 [.slice Ao19 y233.length co19] (fun k_ => some k_ ≠ (.slice (some ad230) t227.length co5 : Value).ownBlock ∧ some k_ ≠ (.slice (some ad230) t227.length co5 : Value).ownBlock) (fun k_ => some k_ = (.slice Ao19 y233.length co19 : Value).ownBlock) rfl rfl ?aP (fun k_ hk_ => ((Kd.R_mono (ok' := fun k_ => ((fun k_ => some k_ ≠ (.slice (some ad230) t227.length co5 : Value).ownBlock ∧ some k_ ≠ (.slice (some ad230) t227.length co5 : Value).ownBlock)) k_ ∧ some k_ ≠ (u6 : Value).ownBlock) (Kd.R_apart' (HO235.out) (Kd.S_typed HO_6.out) (by decide)) (fun k_ hk => ⟨⟨hk.1.1.2, hk.1.2⟩, hk.2⟩))).1 k_ hk_.symm) ?aF ?aO ?aB ?aS ?aL ?_; (case aP => exact Kd.M_row (Kd.R_mono (Kd.R_tight rfl (Kd.R_mono (ok' := fun k_ => ((fun k_ => some k_ ≠ (.slice (some ad230) t227.length co5 : Value).ownBlock ∧ some k_ ≠ (.slice (some ad230) t227.length co5 : Value).ownBlock)) k_ ∧ some k_ ≠ (u6 : Value).ownBlock) (Kd.R_apart' (HO235.out) (Kd.S_typed HO_6.out) (by decide)) (fun k_ hk => ⟨⟨hk.1.1.2, hk.1.2⟩, hk.2⟩))) (fun _ h_ => h_))); (case aB => exact BB); (case aF => exact (fun k_ hk => ⟨Kd.fresh' (Kd.R_lt (KR HO_5)) k_ hk, Kd.fresh' (Kd.R_lt (KR HO_12)) k_ hk⟩)); (case aO => exact (by (with_reducible repeat (first | apply Kd.S_alloc | apply Kd.S_drewN | apply Kd.S_drew)); exact Kd.S_mono HO_6.out (fun k_ hk => ⟨⟨hk.1.1, hk.1.2⟩, fun e_ => hk.2 e_⟩))); (case aS => exact (below_size BB)); (case aL => have := LMc15.out; omega); intro v237 w18 ho hb hg hat; rw [← Ny236.out] at ho; have n0_ := Aside0.mk (Kd.R_over' (KR HO_5) (Kd.S_typed (KS HO_6)) (by decide) hg); have n1_ := Aside0.mk (Kd.R_over' (KR HO_12) (Kd.S_typed (KS HO_6)) (by decide) hg); have n2_ := Aside0.mk (hb); have n3_ := Aside0.mk (ho); clear HO_5; clear HO_12; clear HB; clear HO_6; clear HO235; have HO_5 := n0_; have HO_12 := n1_; have HB := n2_; have HO238 := n3_; clear n0_ n1_ n2_ n3_; clear ho hb hg hat))
           go_roundg k1
           case measure => have := HK1.out; omega
           case rel => exact ⟨(y236), (wrap64 (x14_1 + 1)), RF, H', ⟨by have := HK1.out; omega⟩, ⟨by (with_reducible repeat (first | apply Kd.R_alloc | apply Kd.R_drewN | apply Kd.R_drew)); exact Kd.R_mono HO_5.out (fun _ hk => trivial)⟩, ⟨KS HO238⟩, ⟨by (with_reducible repeat (first | apply Kd.R_alloc | apply Kd.R_drewN | apply Kd.R_drew)); exact Kd.R_mono HO_12.out (fun _ hk => trivial)⟩, ⟨BB⟩⟩
          ·rw [if_neg c15] at H
           exact absurd H (by simp)
         ·replace c14 := Bool.eq_false_iff.mpr c14
          subst c14
          have H1 : (spec_doBorder.l0 k1 l1 t227 x6_1 t227 (t227.length : Int) (wrap64 (x14_1 + 1))) = some r := by rw [if_neg (show ¬ (false = true) by decide)] at H; exact H
          clear H
          have H := H1
          clear H1
          have H' := Aside0.mk H
          clear H
          have p230 : 0 ≤ (x14_1 : Int) := of_decide_eq_true AS
          have q230 : x14_1 < (t227.length : Int) := of_decide_eq_true AS
          obtain ⟨ad230, e230, hx230_0⟩ := Kd.at_int (Kd.R_reads' HO_12.out).2.2 x14_1 p230 q230
          cases e230
          replace p230 := eq_true p230
          replace q230 := eq_true q230
          have p231 : 0 ≤ ((ji10) : Int) := of_decide_eq_true AS
          have q231 : (ji10) < (t227.length : Int) := of_decide_eq_true AS
          obtain ⟨ad231, e231, hx231_0⟩ := Kd.at_int (Kd.R_reads' HO_5.out).2.2 (ji10) p231 q231
          obtain rfl : ad230 = ad231 := (by injection e231)
          replace p231 := eq_true p231
          replace q231 := eq_true q231
          go_wp2_with (first | ((with_reducible refine gate_callee (f := 43) rfl ?_); refine goesL_ (some 30) rfl rfl Try.func43 (by kernel_rfl) rfl #[.slice A1 l1.length c1, .int .i64 (rd t227 x14_1), .int .i64 (rd t227 (ji10))] rfl (by (try simp only [List.map_toArray, List.map_cons, List.map_nil]); first | done | (simp only [hji10]; rfl) | rfl | (simp only [List.length_drop, List.length_take]; rfl)) ?_; (with_reducible refine (spec_doDoor.calls _ _ l1 (rd t227 x14_1) (rd t227 (ji10)) false _ ?side1 ?side2 A13.out).mono ?_); (case side1 => repeat (first | exact (Kd.C_below HR1.out HB.out) | (with_reducible refine Kd.C_alloc ?_ _) | (with_reducible refine Kd.C_drewN ?_ _) | (with_reducible refine Kd.C_drew ?_))); (case side2 => exact HC1.out); rintro e w' ⟨rfl, ⟨nd, rfl⟩⟩; refine ⟨_, rfl, ?_⟩))
          go_roundg k1
          case measure => have := HK1.out; omega
          case rel => exact ⟨(x6_1), (wrap64 (x14_1 + 1)), RF, H', ⟨by have := HK1.out; omega⟩, ⟨KR HO_5⟩, ⟨KS HO_6⟩, ⟨KR HO_12⟩, ⟨BB⟩⟩
        ·rw [if_neg c12] at H
         exact absurd H (by simp)
       ·rw [if_neg c11] at H
        exact absurd H (by simp)
     ·rw [if_neg c8] at H
      exact absurd H (by simp)
    ·rw [if_neg c7] at H
     exact absurd H (by simp)
   ·rw [if_neg c6] at H
    have c6b0 : decide (x14_1 < (t227.length : Int)) = false := decide_eq_false c6
    clear c6
    obtain rfl := Option.some.inj H
    go_wp2
    go_ret
    exact ⟨_, by first | rfl | (simp [errW_none, errW_some] <;> rfl) | (simp [*, errW_none, errW_some] <;> rfl), by (with_reducible repeat (first | apply Kd.S_alloc | apply Kd.S_drewN | apply Kd.S_drew)); exact Kd.S_mono HO_6.out (fun _ hk => trivial), BB⟩

end Go.Proofs.Ytgpplbaloajgdaa.PFnExactWalkFrom
