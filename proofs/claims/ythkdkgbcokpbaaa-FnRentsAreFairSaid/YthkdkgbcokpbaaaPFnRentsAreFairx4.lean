-- Written by a program of this session (wip/tools/pp.sh) out of the translation; Lean checks it.
import Derived.Test.YthkdkgbcokpbaaaPFnRentsAreFairx0
import Derived.Test.YthkdkgbcokpbaaaPFnRentsAreFairx2
import Derived.Test.YthkdkgbcokpbaaaPFnRentsAreFairx3
namespace Go.Proofs.Ythkdkgbcokpbaaa.PFnRentsAreFair
open Go.RowKit Go.Proofs.YthkdkgbcokpbaaaOwn Go.Proofs.YthkdkgbcokpbaaaW.PrintWords Go.Proofs.YthkdkgbcokpbaaaW.PrintLast Go.Proofs.YthkdkgbcokpbaaaW.PrintMore
attribute [local go_sem] max2_int min2_int max_two min_two max_three min_three max_four min_four   -- for this text's walks alone
set_option linter.unusedVariables false
set_option maxHeartbeats 8000000
set_option maxRecDepth 100000
set_option linter.unusedSimpArgs false

/-! ### impl_fairest__impl_FairRent_1: function 20 -/
mutual
def impl_fairest__impl_FairRent_1.l0 : Nat → Int → Int → List Int → List (S49) → Int → Int → List (List (List Int)) → Option (Int × Int × List Int)
 | 0, _, _, _, _, _, _, _ => none
 | k + 1, x7, x8, x9, x17, x18, x19, x610 => if x19 < x18 then (if 0 ≤ x19 then (if x19 < (x17.length : Int) then ((impl_FairRent_1.f k ((rd_T49 x17 x19).f0) ((rd_T49 x17 x19).f1) ((rd_T49 x17 x19).f2) x610).bind fun t216 => ((impl_orders.f).bind fun t219 => (impl_fairest__impl_FairRent_1.l1 k x7 x8 x9 x19 t216 x17 x18 x19 t219 (t219.length : Int) 0 x610))) else (none)) else (none)) else (some (x7, x8, x9))
def impl_fairest__impl_FairRent_1.l1 : Nat → Int → Int → List Int → Int → List (List Int) → List (S49) → Int → Int → List (List Int) → Int → Int → List (List (List Int)) → Option (Int × Int × List Int)
 | 0, _, _, _, _, _, _, _, _, _, _, _, _ => none
 | k + 1, x7, x8, x9, x10, x12, x17, x18, x19, x27, x28, x29, x610 => if x29 < x28 then (if 0 ≤ x29 then (if x29 < (x27.length : Int) then ((impl_envyOf.f k x12 (rd_L2 x27 x29)).bind fun t223 => (if x7 < 0 then (impl_fairest__impl_FairRent_1.l1 k t223 x10 (rd_L2 x27 x29) x10 x12 x17 x18 x19 x27 x28 (wrap64 (x29 + 1)) x610) else (if t223 < x7 then (impl_fairest__impl_FairRent_1.l1 k t223 x10 (rd_L2 x27 x29) x10 x12 x17 x18 x19 x27 x28 (wrap64 (x29 + 1)) x610) else (impl_fairest__impl_FairRent_1.l1 k x7 x8 x9 x10 x12 x17 x18 x19 x27 x28 (wrap64 (x29 + 1)) x610)))) else (none)) else (none)) else (impl_fairest__impl_FairRent_1.l0 k x7 x8 x9 x17 x18 (wrap64 (x19 + 1)) x610)
end
def impl_fairest__impl_FairRent_1.f (k : Nat) (a0 : Int) (l1_0 : List (List (List Int))) : Option (Int × Int × List Int) := (impl_points.f k a0).bind fun t211 => (impl_fairest__impl_FairRent_1.l0 k (-1) 0 ([] : List Int) t211 (t211.length : Int) 0 l1_0)
theorem impl_fairest__impl_FairRent_1.mono_l : ∀ k, (∀ y0 y1 y2 y3 y4 y5 y6, LeO (impl_fairest__impl_FairRent_1.l0 k y0 y1 y2 y3 y4 y5 y6) (impl_fairest__impl_FairRent_1.l0 (k + 1) y0 y1 y2 y3 y4 y5 y6)) ∧ (∀ y0 y1 y2 y3 y4 y5 y6 y7 y8 y9 y10 y11, LeO (impl_fairest__impl_FairRent_1.l1 k y0 y1 y2 y3 y4 y5 y6 y7 y8 y9 y10 y11) (impl_fairest__impl_FairRent_1.l1 (k + 1) y0 y1 y2 y3 y4 y5 y6 y7 y8 y9 y10 y11))
 | 0 => ⟨fun _ _ _ _ _ _ _ r h => by simp [impl_fairest__impl_FairRent_1.l0] at h, fun _ _ _ _ _ _ _ _ _ _ _ _ r h => by simp [impl_fairest__impl_FairRent_1.l1] at h⟩
 | k + 1 => by
  obtain ⟨ih0, ih1⟩ := impl_fairest__impl_FairRent_1.mono_l k
  refine ⟨?_, ?_⟩
  ·intro y0 y1 y2 y3 y4 y5 y6
   unfold impl_fairest__impl_FairRent_1.l0
   repeat' first
   | with_reducible first | exact ih0 _ _ _ _ _ _ _ | exact ih1 _ _ _ _ _ _ _ _ _ _ _ _ | exact impl_FairRent_1.mono _ _ _ _ _ | exact impl_envyOf.mono _ _ _ | exact impl_points.mono _ _ | exact LeO.refl _ | exact LeO.none _ | refine LeO.ite ?_ ?_ | refine LeO.bind ?_ (fun _ => ?_)
   | exact LeO.none _ | refine LeO.ite ?_ ?_ | refine LeO.bind ?_ (fun _ => ?_)
  ·intro y0 y1 y2 y3 y4 y5 y6 y7 y8 y9 y10 y11
   unfold impl_fairest__impl_FairRent_1.l1
   repeat' first
   | with_reducible first | exact ih0 _ _ _ _ _ _ _ | exact ih1 _ _ _ _ _ _ _ _ _ _ _ _ | exact impl_FairRent_1.mono _ _ _ _ _ | exact impl_envyOf.mono _ _ _ | exact impl_points.mono _ _ | exact LeO.refl _ | exact LeO.none _ | refine LeO.ite ?_ ?_ | refine LeO.bind ?_ (fun _ => ?_)
   | exact LeO.none _ | refine LeO.ite ?_ ?_ | refine LeO.bind ?_ (fun _ => ?_)
theorem impl_fairest__impl_FairRent_1.mono : ∀ a0 a1 k, LeO (impl_fairest__impl_FairRent_1.f k a0 a1) (impl_fairest__impl_FairRent_1.f (k + 1) a0 a1) := by
 intro a0 a1 k
 obtain ⟨ih0, ih1⟩ := impl_fairest__impl_FairRent_1.mono_l k
 unfold impl_fairest__impl_FairRent_1.f
 repeat' first
   | with_reducible first | exact ih0 _ _ _ _ _ _ _ | exact ih1 _ _ _ _ _ _ _ _ _ _ _ _ | exact impl_FairRent_1.mono _ _ _ _ _ | exact impl_envyOf.mono _ _ _ | exact impl_points.mono _ _ | exact LeO.refl _ | exact LeO.none _ | refine LeO.ite ?_ ?_ | refine LeO.bind ?_ (fun _ => ?_)
   | exact LeO.none _ | refine LeO.ite ?_ ?_ | refine LeO.bind ?_ (fun _ => ?_)
theorem impl_fairest__impl_FairRent_1.calls (k : Nat) (a0 : Int) (A1_0 : Option Addr) (c1_0 : Nat) (l1_0 : List (List (List Int))) (r1 : Int) (r2 : Int) (r3 : List Int) (w : World) (hr1_0 : Kd.C (Kd.slice 27 (Kd.slice 3 (Kd.int .i64))) w A1_0 l1_0.length l1_0) (hc1_0 : l1_0.length ≤ c1_0) (h : impl_fairest__impl_FairRent_1.f k a0 l1_0 = some (r1, r2, r3)) :
  Calls Try.prog 20 #[.int .i64 a0, .func (.func 21) #[] #[.pointer A1_0]] w fun e w' => ∃ v2_ : Value, e = .returned (.tuple #[.int .i64 r1, .int .i64 r2, v2_]) ∧ Kd.V (Kd.int .i64) 3 w' w.heap.size (fun k_ => (w.heap.size ≤ k_)) v2_ r3 ∧ Below w.heap.size w w' := by
 have hu49 := Try.underlying49
 have HR1_0 := Aside0.mk hr1_0
 have HC1_0 := Aside0.mk hc1_0
 clear hr1_0 hc1_0
 have HB := Aside0.mk (Below.refl w.heap.size w)
 have H : ((impl_points.f k a0).bind fun t211 => (impl_fairest__impl_FairRent_1.l0 k (-1) 0 ([] : List Int) t211 (t211.length : Int) 0 l1_0)) = some (r1, r2, r3) := h
 clear h
 replace H := EA H
 obtain ⟨t211, A3, H⟩ := H
 have H' := Aside0.mk H
 clear H
 go_enter Try.func20, Try.ntmps20
 go_wp2_with (first | ((with_reducible refine gate_callee (f := 34) rfl ?_); refine goesL_ (some 17) rfl rfl Try.func34 (by kernel_rfl) rfl #[.int .i64 a0] rfl TA ?_; (with_reducible refine (impl_points.calls k a0 t211 _ A3.out).mono ?_); rintro e w4 ⟨v212, rfl, ho0, hb⟩; refine ⟨_, rfl, ?_⟩; have n0_ := Aside0.mk (Kd.R_lower (Kd.R_newM (M := fun k_ => (w.heap.size ≤ k_)) ho0 (below_size BB) (fun k_ h_ => h_)) (below_size BB)); have n1_ := Aside0.mk (below_step BB hb); clear HB; have HO213 := n0_; have HB := n1_; clear n0_ n1_; (try clear hb); (try clear hb2); (try clear hk); (try clear hi); (try clear ho0); obtain ⟨Ao5, co5, eo5⟩ := Kd.R_slice HO213.out; subst eo5))
 go_loopg [7, 8, 9, 19] k (fun kq v7 v8 v9 v19 w' => ∃ (x7_1 : Int) (x8_1 : Int) (x9_1 : List Int) (x19_1 : Int), v7 = .int .i64 x7_1 ∧ v8 = .int .i64 x8_1 ∧ v19 = .int .i64 x19_1 ∧ Aside0 (impl_fairest__impl_FairRent_1.l0 kq x7_1 x8_1 x9_1 t211 (t211.length : Int) x19_1 l1_0 = some (r1, r2, r3)) ∧ Aside0 (kq ≤ k) ∧ Aside0 (Kd.V (Kd.int .i64) 3 w' w.heap.size (fun k_ => (w.heap.size ≤ k_) ∧ some k_ ≠ ((.slice Ao5 t211.length co5) : Value).ownBlock) v9 x9_1) ∧ Aside0 (Kd.R k49 49 w' w.heap.size (fun k_ => (w.heap.size ≤ k_)) (.slice Ao5 t211.length co5) t211) ∧ Aside0 (Below w.heap.size w w'))
 case atStart => exact ⟨((-1)), (0), (([] : List Int)), (0), RF, RF, RF, H', ⟨Nat.le_refl _⟩, ⟨Kd.V_nil _ _ _ _ _⟩, ⟨by (with_reducible repeat (first | apply Kd.R_alloc | apply Kd.R_drewN | apply Kd.R_drew)); exact Kd.R_mono HO213.out (fun _ hk => hk.1)⟩, ⟨BB⟩⟩
 case round =>
  clear H'
  try clear c1
  try clear c2
  try clear p2
  try clear c3
  obtain ⟨x7_1, x8_1, x9_1, x19_1, rfl, rfl, rfl, HA, HK1, HO_9, HO_17, HB⟩ := hrel
  cases gk with
  | zero => exact absurd HA.out (by simp [impl_fairest__impl_FairRent_1.l0])
  | succ k1 =>
   have H := HA.out
   clear HA
   simp only [impl_fairest__impl_FairRent_1.l0] at H
   by_cases c6 : x19_1 < (t211.length : Int)
   ·rw [if_pos c6] at H
    have c6b0 : decide (x19_1 < (t211.length : Int)) = true := decide_eq_true c6
    clear c6
    by_cases c7 : 0 ≤ x19_1
    ·rw [if_pos c7] at H
     have c7b0 : decide (0 ≤ x19_1) = true := decide_eq_true c7
     clear c7
     by_cases c8 : x19_1 < (t211.length : Int)
     ·rw [if_pos c8] at H
      have c8b0 : decide (x19_1 < (t211.length : Int)) = true := decide_eq_true c8
      clear c8
      replace H := EA H
      obtain ⟨t216, A9, H⟩ := H
      replace H := EA H
      obtain ⟨t219, A10, H⟩ := H
      have H' := Aside0.mk H
      clear H
      have p214 : 0 ≤ (x19_1 : Int) := of_decide_eq_true AS
      have q214 : x19_1 < (t211.length : Int) := of_decide_eq_true AS
      obtain ⟨ad214, e214, hx214_0, hx214_1, hx214_2⟩ := at_T49 (Kd.R_reads' HO_17.out).2.2 x19_1 p214 q214
      cases e214
      replace p214 := eq_true p214
      replace q214 := eq_true q214
      go_wp2_with (first | ((with_reducible refine gate_dst (N := 11) rfl ?_); refine box_event ?hg (N := 11) ?hd (cs := #[.int .i64 0, .int .i64 0, .int .i64 0]) (t := 49) ?hr ?_; (case hd => rfl); (case hg => rfl); (case hr => exact GS); intro gb215 hg w11 hbox hb; have n0_ := Aside0.mk (Kd.V_below (Kd.V_elderB (by (with_reducible repeat (first | apply Kd.V_alloc | apply Kd.V_drewN | apply Kd.V_drew)); exact HO_9.out) gb215 (Nat.le_of_eq hg.symm)) hb); have n1_ := Aside0.mk (Kd.R_below (Kd.R_elderB (KR HO_17) gb215 (Nat.le_of_eq hg.symm)) hb); have n2_ := Aside0.mk (below_step BB hb); have n3_ := Aside0.mk (hbox); have n4_ := Aside0.mk ((by rw [hg]; exact (below_size BB) : w.heap.size ≤ gb215)); have n5_ := Aside0.mk ((by rw [hg]; exact (below_size BB) : w.heap.size ≤ gb215)); clear HO_9; clear HO_17; clear HB; have HO_9 := n0_; have HO_17 := n1_; have HB := n2_; have BK215 := n3_; have GW215 := n4_; have GE215 := n5_; clear n0_ n1_ n2_ n3_ n4_ n5_; clear hb hbox hg; have hcz12_0 : w11.cell? ⟨gb215, 0, none⟩ = some (.int .i64 0) := (blk_cell BK215.out 0).trans rfl; have hcz12_1 : w11.cell? ⟨gb215, 1, none⟩ = some (.int .i64 0) := (blk_cell BK215.out 1).trans rfl; have hcz12_2 : w11.cell? ⟨gb215, 2, none⟩ = some (.int .i64 0) := (blk_cell BK215.out 2).trans rfl; have hfz12_0 := blk_frozen BK215.out 0; have hfz12_1 := blk_frozen BK215.out 1; have hfz12_2 := blk_frozen BK215.out 2) | (go_at_call 21; (with_reducible refine (impl_FairRent_1.calls k1 ((rd_T49 t211 x19_1).f0) ((rd_T49 t211 x19_1).f1) ((rd_T49 t211 x19_1).f2) A1_0 c1_0 l1_0 t216 _ ?side1 ?side2 A9.out).mono ?_); (case side1 => exact Kd.C_below HR1_0.out (by repeat (first | (with_reducible first | exact HB.out | apply below_alloc | apply pw_below_drewN | apply below_drew1 | refine below_set ?_ GE215.out) | exact HB.out))); (case side2 => exact HC1_0.out); rintro e w13 ⟨v217, rfl, ho0, hb⟩; have n0_ := Aside0.mk (Kd.V_elder' (by (with_reducible repeat (first | apply Kd.V_alloc | apply Kd.V_drewN | apply Kd.V_drew)); exact (Kd.V_mono (Kd.V_far (p := ⟨gb215, 2, none⟩) (Kd.V_far (p := ⟨gb215, 1, none⟩) (Kd.V_far (p := ⟨gb215, 0, none⟩) (Kd.V_mono HO_9.out (fun k_ hk => (⟨hk, hk.2⟩ : _ ∧ k_ ≠ gb215))) (fun _ hk => hk.2) (.int .i64 ((rd_T49 t211 x19_1).f0))) (fun _ hk => hk.2) (.int .i64 ((rd_T49 t211 x19_1).f1))) (fun _ hk => hk.2) (.int .i64 ((rd_T49 t211 x19_1).f2))) (fun _ h_ => h_.1))) (Kd.N_base (Kd.S_N ho0)) hb); have n1_ := Aside0.mk (Kd.R_below (by (with_reducible repeat (first | apply Kd.R_alloc | apply Kd.R_drewN | apply Kd.R_drew)); exact (Kd.R_mono (Kd.R_far (p := ⟨gb215, 2, none⟩) (Kd.R_far (p := ⟨gb215, 1, none⟩) (Kd.R_far (p := ⟨gb215, 0, none⟩) (Kd.R_mono HO_17.out (fun k_ hk => (⟨hk, hk.2⟩ : _ ∧ k_ ≠ gb215))) (fun _ hk => hk.2) (.int .i64 ((rd_T49 t211 x19_1).f0))) (fun _ hk => hk.2) (.int .i64 ((rd_T49 t211 x19_1).f1))) (fun _ hk => hk.2) (.int .i64 ((rd_T49 t211 x19_1).f2))) (fun _ h_ => h_.1))) hb); have n2_ := Aside0.mk (Kd.N_lower (Kd.N_mono (ok' := fun k_ => (w.heap.size ≤ k_) ∧ some k_ ≠ (.slice (some ad214) t211.length co5 : Value).ownBlock ∧ k_ ≠ gb215) (Kd.S_N (Kd.S_bound ho0)) (fun k_ hk_ => ⟨(Nat.le_trans (below_size (by repeat (first | (with_reducible first | exact HB.out | apply below_alloc | apply pw_below_drewN | apply below_drew1 | refine below_set ?_ GE215.out) | exact HB.out))) hk_.2.1), (Kd.fresh' (Kd.R_lt (by (with_reducible repeat (first | apply Kd.R_alloc | apply Kd.R_drewN | apply Kd.R_drew)); exact (Kd.R_mono (Kd.R_far (p := ⟨gb215, 2, none⟩) (Kd.R_far (p := ⟨gb215, 1, none⟩) (Kd.R_far (p := ⟨gb215, 0, none⟩) (Kd.R_mono HO_17.out (fun k_ hk => (⟨hk, hk.2⟩ : _ ∧ k_ ≠ gb215))) (fun _ hk => hk.2) (.int .i64 ((rd_T49 t211 x19_1).f0))) (fun _ hk => hk.2) (.int .i64 ((rd_T49 t211 x19_1).f1))) (fun _ hk => hk.2) (.int .i64 ((rd_T49 t211 x19_1).f2))) (fun _ h_ => h_.1)))) k_ hk_.2.1), (Kd.freshB (g := gb215) (o := .cells #[.int .i64 ((rd_T49 t211 x19_1).f0), .int .i64 ((rd_T49 t211 x19_1).f1), .int .i64 ((rd_T49 t211 x19_1).f2)] 49 (0, 0)) (by (with_reducible repeat (first | refine blk_drewN ?_ _ | refine blk_drew ?_ | refine blk_alloc ?_ _)); refine blk_put (cs := #[.int .i64 ((rd_T49 t211 x19_1).f0), .int .i64 ((rd_T49 t211 x19_1).f1), .int .i64 0]) ?_ 2 _ rfl; (with_reducible repeat (first | refine blk_drewN ?_ _ | refine blk_drew ?_ | refine blk_alloc ?_ _)); refine blk_put (cs := #[.int .i64 ((rd_T49 t211 x19_1).f0), .int .i64 0, .int .i64 0]) ?_ 1 _ rfl; (with_reducible repeat (first | refine blk_drewN ?_ _ | refine blk_drew ?_ | refine blk_alloc ?_ _)); refine blk_put (cs := #[.int .i64 0, .int .i64 0, .int .i64 0]) ?_ 0 _ rfl; (with_reducible repeat (first | refine blk_drewN ?_ _ | refine blk_drew ?_ | refine blk_alloc ?_ _)); exact BK215.out) k_ hk_.2.1)⟩)) (below_size (by repeat (first | (with_reducible first | exact HB.out | apply below_alloc | apply pw_below_drewN | apply below_drew1 | refine below_set ?_ GE215.out) | exact HB.out)))); have n3_ := Aside0.mk (blk_below (g := gb215) (o := .cells #[.int .i64 ((rd_T49 t211 x19_1).f0), .int .i64 ((rd_T49 t211 x19_1).f1), .int .i64 ((rd_T49 t211 x19_1).f2)] 49 (0, 0)) (by (with_reducible repeat (first | refine blk_drewN ?_ _ | refine blk_drew ?_ | refine blk_alloc ?_ _)); refine blk_put (cs := #[.int .i64 ((rd_T49 t211 x19_1).f0), .int .i64 ((rd_T49 t211 x19_1).f1), .int .i64 0]) ?_ 2 _ rfl; (with_reducible repeat (first | refine blk_drewN ?_ _ | refine blk_drew ?_ | refine blk_alloc ?_ _)); refine blk_put (cs := #[.int .i64 ((rd_T49 t211 x19_1).f0), .int .i64 0, .int .i64 0]) ?_ 1 _ rfl; (with_reducible repeat (first | refine blk_drewN ?_ _ | refine blk_drew ?_ | refine blk_alloc ?_ _)); refine blk_put (cs := #[.int .i64 0, .int .i64 0, .int .i64 0]) ?_ 0 _ rfl; (with_reducible repeat (first | refine blk_drewN ?_ _ | refine blk_drew ?_ | refine blk_alloc ?_ _)); exact BK215.out) hb); have n4_ := Aside0.mk (below_step (by repeat (first | (with_reducible first | exact HB.out | apply below_alloc | apply pw_below_drewN | apply below_drew1 | refine below_set ?_ GE215.out) | exact HB.out)) hb); clear HO_9; clear HO_17; clear BK215; clear HB; have HO_9 := n0_; have HO_17 := n1_; have HO218 := n2_; have BK215 := n3_; have HB := n4_; clear n0_ n1_ n2_ n3_ n4_; (try clear hb); (try clear hb2); (try clear hk); (try clear hi); (try clear ho0)) | ((with_reducible refine gate_callee (f := 29) rfl ?_); refine goesL_ (some 27) rfl rfl Try.func29 (by kernel_rfl) rfl #[] rfl TA ?_; (with_reducible refine (impl_orders.calls  t219 _ A10.out).mono ?_); rintro e w14 ⟨v220, rfl, ho0, hb⟩; refine ⟨_, rfl, ?_⟩; have n0_ := Aside0.mk (Kd.V_elder' (by (with_reducible repeat (first | apply Kd.V_alloc | apply Kd.V_drewN | apply Kd.V_drew)); exact HO_9.out) (Kd.N_base ho0) hb); have n1_ := Aside0.mk (Kd.R_below (KR HO_17) hb); have n2_ := Aside0.mk (Kd.N_elder' (KN HO218) (Kd.N_base ho0) hb); have n3_ := Aside0.mk (Kd.N_lower (Kd.N_mono (ok' := fun k_ => (w.heap.size ≤ k_) ∧ some k_ ≠ (.slice (some ad214) t211.length co5 : Value).ownBlock ∧ some k_ ≠ (v217 : Value).ownBlock ∧ k_ ≠ gb215) ho0 (fun k_ hk_ => ⟨(Nat.le_trans (below_size (by repeat (first | (with_reducible first | exact HB.out | apply below_alloc | apply pw_below_drewN | apply below_drew1 | refine below_set ?_ GE215.out) | exact HB.out))) hk_), (Kd.fresh' (Kd.R_lt (KR HO_17)) k_ hk_), (Kd.fresh' (Kd.N_lt (KN HO218)) k_ hk_), (Kd.freshB (g := gb215) (o := .cells #[.int .i64 ((rd_T49 t211 x19_1).f0), .int .i64 ((rd_T49 t211 x19_1).f1), .int .i64 ((rd_T49 t211 x19_1).f2)] 49 (0, 0)) (BW BK215) k_ hk_)⟩)) (below_size (by repeat (first | (with_reducible first | exact HB.out | apply below_alloc | apply pw_below_drewN | apply below_drew1 | refine below_set ?_ GE215.out) | exact HB.out)))); have n4_ := Aside0.mk (blk_below (g := gb215) (o := .cells #[.int .i64 ((rd_T49 t211 x19_1).f0), .int .i64 ((rd_T49 t211 x19_1).f1), .int .i64 ((rd_T49 t211 x19_1).f2)] 49 (0, 0)) (BW BK215) hb); have n5_ := Aside0.mk (below_step (by repeat (first | (with_reducible first | exact HB.out | apply below_alloc | apply pw_below_drewN | apply below_drew1 | refine below_set ?_ GE215.out) | exact HB.out)) hb); clear HO_9; clear HO_17; clear HO218; clear BK215; clear HB; have HO_9 := n0_; have HO_17 := n1_; have HO218 := n2_; have HO221 := n3_; have BK215 := n4_; have HB := n5_; clear n0_ n1_ n2_ n3_ n4_ n5_; (try clear hb); (try clear hb2); (try clear hk); (try clear hi); (try clear ho0); obtain ⟨Ao15, co15, eo15⟩ := Kd.N_slice HO221.out; subst eo15))
      go_loopg [7, 8, 9, 29] k1 (fun kq v7 v8 v9 v29 w' => ∃ (x7_2 : Int) (x8_2 : Int) (x9_2 : List Int) (x29_2 : Int), v7 = .int .i64 x7_2 ∧ v8 = .int .i64 x8_2 ∧ v29 = .int .i64 x29_2 ∧ Aside0 (impl_fairest__impl_FairRent_1.l1 kq x7_2 x8_2 x9_2 x19_1 t216 t211 (t211.length : Int) x19_1 t219 (t219.length : Int) x29_2 l1_0 = some (r1, r2, r3)) ∧ Aside0 (kq ≤ k1) ∧ Aside0 (Kd.V (Kd.int .i64) 3 w' w.heap.size (fun k_ => (w.heap.size ≤ k_) ∧ some k_ ≠ (v217 : Value).ownBlock ∧ some k_ ≠ ((.slice (some ad214) t211.length co5) : Value).ownBlock ∧ some k_ ≠ ((.slice Ao15 t219.length co15) : Value).ownBlock ∧ k_ ≠ gb215) v9 x9_2) ∧ Aside0 (Kd.N (Kd.slice 3 (Kd.int .i64)) 27 w' w.heap.size (fun k_ => (w.heap.size ≤ k_) ∧ some k_ ≠ ((.slice (some ad214) t211.length co5) : Value).ownBlock ∧ some k_ ≠ ((.slice Ao15 t219.length co15) : Value).ownBlock ∧ k_ ≠ gb215) v217 t216) ∧ Aside0 (Kd.R k49 49 w' w.heap.size (fun k_ => (w.heap.size ≤ k_) ∧ k_ ≠ gb215) (.slice (some ad214) t211.length co5) t211) ∧ Aside0 (Kd.N (Kd.slice 3 (Kd.int .i64)) 27 w' w.heap.size (fun k_ => (w.heap.size ≤ k_) ∧ some k_ ≠ (v217 : Value).ownBlock ∧ some k_ ≠ ((.slice (some ad214) t211.length co5) : Value).ownBlock ∧ k_ ≠ gb215) (.slice Ao15 t219.length co15) t219) ∧ Aside0 (w'.heap[gb215]? = some (.cells #[.int .i64 ((rd_T49 t211 x19_1).f0), .int .i64 ((rd_T49 t211 x19_1).f1), .int .i64 ((rd_T49 t211 x19_1).f2)] 49 (0, 0))) ∧ Aside0 (Below w.heap.size w w'))
      case atStart => exact ⟨(x7_1), (x8_1), (x9_1), (0), RF, RF, RF, H', ⟨Nat.le_refl _⟩, ⟨by (with_reducible repeat (first | apply Kd.V_alloc | apply Kd.V_drewN | apply Kd.V_drew)); exact Kd.V_mono HO_9.out (fun _ hk => ⟨hk.1.1.1.1, ⟨hk.1.2, ⟨hk.1.1.1.2, ⟨hk.2, hk.1.1.2⟩⟩⟩⟩)⟩, ⟨by (with_reducible repeat (first | apply Kd.N_alloc | apply Kd.N_drewN | apply Kd.N_drew)); exact Kd.N_mono HO218.out (fun _ hk => ⟨hk.1.1, ⟨hk.1.2.1, ⟨hk.2, hk.1.2.2⟩⟩⟩)⟩, ⟨KR HO_17⟩, ⟨by (with_reducible repeat (first | apply Kd.N_alloc | apply Kd.N_drewN | apply Kd.N_drew)); exact Kd.N_mono HO221.out (fun _ hk => ⟨hk.1, ⟨hk.2.2.1, ⟨hk.2.1, hk.2.2.2⟩⟩⟩)⟩, ⟨by (with_reducible repeat (first | refine blk_drewN ?_ _ | refine blk_drew ?_ | refine blk_alloc ?_ _)); exact BK215.out⟩, ⟨by repeat (first | (with_reducible first | exact HB.out | apply below_alloc | apply pw_below_drewN | apply below_drew1 | refine below_set ?_ GE215.out) | exact HB.out)⟩⟩
      case round =>
       clear H'
       try clear c1
       try clear c2
       try clear p2
       try clear q2
       try clear hx2
       try clear c3
       try clear c6
       try clear c6b0
       try clear p6
       try clear c7
       try clear c7b0
       try clear c8
       try clear c8b0
       try clear hcz12_0
       try clear hcz12_1
       try clear hcz12_2
       try clear hfz12_0
       try clear hfz12_1
       try clear hfz12_2
       try clear hx214_0
       try clear hx214_1
       try clear hx214_2
       try clear p2
       try clear p214
       try clear q214
       obtain ⟨x7_2, x8_2, x9_2, x29_2, rfl, rfl, rfl, HA, HK2, HO_9, HO_12, HO_17, HO_27, BK215, HB⟩ := hrel
       cases gk with
       | zero => exact absurd HA.out (by simp [impl_fairest__impl_FairRent_1.l1])
       | succ k2 =>
        have H := HA.out
        clear HA
        simp only [impl_fairest__impl_FairRent_1.l1] at H
        by_cases c16 : x29_2 < (t219.length : Int)
        ·rw [if_pos c16] at H
         have c16b0 : decide (x29_2 < (t219.length : Int)) = true := decide_eq_true c16
         clear c16
         by_cases c17 : 0 ≤ x29_2
         ·rw [if_pos c17] at H
          have c17b0 : decide (0 ≤ x29_2) = true := decide_eq_true c17
          clear c17
          by_cases c18 : x29_2 < (t219.length : Int)
          ·rw [if_pos c18] at H
           have c18b0 : decide (x29_2 < (t219.length : Int)) = true := decide_eq_true c18
           clear c18
           replace H := EA H
           obtain ⟨t223, A19, H⟩ := H
           by_cases c20 : x7_2 < 0
           ·rw [if_pos c20] at H
            have c20b0 : decide (x7_2 < 0) = true := decide_eq_true c20
            clear c20
            have H' := Aside0.mk H
            clear H
            have p222 : 0 ≤ (x29_2 : Int) := of_decide_eq_true AS
            have q222 : x29_2 < (t219.length : Int) := of_decide_eq_true AS
            obtain ⟨ad222, A222_0, c222_0, e222, hx222_0, hl222_0, hi222_0⟩ := at_L2 (Kd.N_reads' HO_27.out).2.2 x29_2 p222 q222
            cases e222
            obtain ⟨ce222, hce222, hMe222, hcc222⟩ := Kd.N_get HO_27.out [] x29_2 p222 (by first | exact q222 | exact of_decide_eq_true AS | (have e_ := (Kd.N_reads' HO_27.out).1; omega))
            obtain ⟨ua222_0, uc222_0, rfl, ul222_0, ge222_0⟩ := Kd.FK_slice_open hMe222
            have hv222_0 := hcc222 0 _ rfl
            rw [Nat.add_zero, show ((Kd.slice 3 (Kd.int .i64))).sz = 1 from rfl, Nat.mul_one] at hv222_0
            replace hv222_0 := Option.some.inj (hv222_0.symm.trans hx222_0)
            injection hv222_0 with hva_ hvn_ hvc_
            rw [hva_] at ge222_0
            rw [hvc_] at ul222_0
            have HL222_0 := Aside0.mk (show Kd.V (Kd.int .i64) 3 _ w.heap.size _ _ (rd_L2 t219 x29_2) from Kd.V_mk ul222_0 ge222_0)
            clear hva_ hvn_ hvc_ ge222_0 ul222_0
            clear hcc222 hce222
            have HR222_0 := Aside0.mk hi222_0
            have HC222_0 := Aside0.mk hl222_0
            clear hi222_0 hl222_0
            replace p222 := eq_true p222
            replace q222 := eq_true q222
            obtain ⟨Ao21, co21, eo21⟩ := Kd.N_slice HO_12.out
            subst eo21
            go_wp2_with (first | ((with_reducible refine gate_callee (f := 33) rfl ?_); refine goesL_ (some 35) rfl rfl Try.func33 (by kernel_rfl) rfl #[.slice Ao21 t216.length co21, .slice A222_0 (rd_L2 t219 x29_2).length c222_0] rfl TA ?_; (with_reducible refine (impl_envyOf.calls k2 _ _ t216 _ _ (rd_L2 t219 x29_2) t223 _ ?side1 ?side2 ?side3 ?side4 A19.out).mono ?_); (case side1 => exact CW (Kd.N_reads' HO_12.out).2.2); (case side2 => exact (Kd.N_reads' HO_12.out).2.1); (case side3 => exact CW (by repeat (first | (with_reducible exact HR222_0.out) | (with_reducible refine Kd.C_drewN ?_ _) | (with_reducible refine Kd.C_drew ?_) | (with_reducible refine Kd.C_alloc ?_ _) | exact HR222_0.out))); (case side4 => exact HC222_0.out); rintro e w22 ⟨rfl, hb⟩; refine ⟨_, rfl, ?_⟩; have n0_ := Aside0.mk (Kd.V_below (by (with_reducible repeat (first | apply Kd.V_alloc | apply Kd.V_drewN | apply Kd.V_drew)); exact HO_9.out) hb); have n1_ := Aside0.mk (Kd.N_below (KN HO_12) hb); have n2_ := Aside0.mk (Kd.R_below (KR HO_17) hb); have n3_ := Aside0.mk (Kd.N_below (KN HO_27) hb); have n4_ := Aside0.mk (Kd.V_below (by (with_reducible repeat (first | apply Kd.V_alloc | apply Kd.V_drewN | apply Kd.V_drew)); exact HL222_0.out) hb); have n5_ := Aside0.mk (blk_below (g := gb215) (o := .cells #[.int .i64 ((rd_T49 t211 x19_1).f0), .int .i64 ((rd_T49 t211 x19_1).f1), .int .i64 ((rd_T49 t211 x19_1).f2)] 49 (0, 0)) (BW BK215) hb); have n6_ := Aside0.mk (Kd.C_below (by repeat (first | (with_reducible exact HR222_0.out) | (with_reducible refine Kd.C_drewN ?_ _) | (with_reducible refine Kd.C_drew ?_) | (with_reducible refine Kd.C_alloc ?_ _) | exact HR222_0.out)) hb); have n7_ := Aside0.mk (below_step (by repeat (first | (with_reducible first | exact HB.out | apply below_alloc | apply pw_below_drewN | apply below_drew1 | refine below_set ?_ GE215.out) | exact HB.out)) hb); clear HO_9; clear HO_12; clear HO_17; clear HO_27; clear HL222_0; clear BK215; clear HR222_0; clear HB; have HO_9 := n0_; have HO_12 := n1_; have HO_17 := n2_; have HO_27 := n3_; have HL222_0 := n4_; have BK215 := n5_; have HR222_0 := n6_; have HB := n7_; clear n0_ n1_ n2_ n3_ n4_ n5_ n6_ n7_; (try clear hb); (try clear hb2); (try clear hk); (try clear hi)))
            go_roundg k2
            case measure => have := HK1.out; have := HK2.out; omega
            case rel => exact ⟨(t223), (x19_1), (rd_L2 t219 x29_2), (wrap64 (x29_2 + 1)), RF, RF, RF, H', ⟨by have := HK1.out; have := HK2.out; omega⟩, ⟨by (with_reducible repeat (first | apply Kd.V_alloc | apply Kd.V_drewN | apply Kd.V_drew)); exact Kd.V_mono HL222_0.out (fun _ hk => ⟨hk.1.1, ⟨hk.1.2.1, ⟨hk.1.2.2.1, ⟨hk.2, hk.1.2.2.2⟩⟩⟩⟩)⟩, ⟨KN HO_12⟩, ⟨KR HO_17⟩, ⟨KN HO_27⟩, ⟨by (with_reducible repeat (first | refine blk_drewN ?_ _ | refine blk_drew ?_ | refine blk_alloc ?_ _)); exact BK215.out⟩, ⟨by repeat (first | (with_reducible first | exact HB.out | apply below_alloc | apply pw_below_drewN | apply below_drew1 | refine below_set ?_ GE215.out) | exact HB.out)⟩⟩
           ·rw [if_neg c20] at H
            have c20b0 : decide (x7_2 < 0) = false := decide_eq_false c20
            clear c20
            by_cases c23 : t223 < x7_2
            ·rw [if_pos c23] at H
             have c23b0 : decide (t223 < x7_2) = true := decide_eq_true c23
             clear c23
             have H' := Aside0.mk H
             clear H
             have p222 : 0 ≤ (x29_2 : Int) := of_decide_eq_true AS
             have q222 : x29_2 < (t219.length : Int) := of_decide_eq_true AS
             obtain ⟨ad222, A222_0, c222_0, e222, hx222_0, hl222_0, hi222_0⟩ := at_L2 (Kd.N_reads' HO_27.out).2.2 x29_2 p222 q222
             cases e222
             obtain ⟨ce222, hce222, hMe222, hcc222⟩ := Kd.N_get HO_27.out [] x29_2 p222 (by first | exact q222 | exact of_decide_eq_true AS | (have e_ := (Kd.N_reads' HO_27.out).1; omega))
             obtain ⟨ua222_0, uc222_0, rfl, ul222_0, ge222_0⟩ := Kd.FK_slice_open hMe222
             have hv222_0 := hcc222 0 _ rfl
             rw [Nat.add_zero, show ((Kd.slice 3 (Kd.int .i64))).sz = 1 from rfl, Nat.mul_one] at hv222_0
             replace hv222_0 := Option.some.inj (hv222_0.symm.trans hx222_0)
             injection hv222_0 with hva_ hvn_ hvc_
             rw [hva_] at ge222_0
             rw [hvc_] at ul222_0
             have HL222_0 := Aside0.mk (show Kd.V (Kd.int .i64) 3 _ w.heap.size _ _ (rd_L2 t219 x29_2) from Kd.V_mk ul222_0 ge222_0)
             clear hva_ hvn_ hvc_ ge222_0 ul222_0
             clear hcc222 hce222
             have HR222_0 := Aside0.mk hi222_0
             have HC222_0 := Aside0.mk hl222_0
             clear hi222_0 hl222_0
             replace p222 := eq_true p222
             replace q222 := eq_true q222
             obtain ⟨Ao24, co24, eo24⟩ := Kd.N_slice HO_12.out
             subst eo24
             go_wp2_with (first | ((with_reducible refine gate_callee (f := 33) rfl ?_); refine goesL_ (some 35) rfl rfl Try.func33 (by kernel_rfl) rfl #[.slice Ao24 t216.length co24, .slice A222_0 (rd_L2 t219 x29_2).length c222_0] rfl TA ?_; (with_reducible refine (impl_envyOf.calls k2 _ _ t216 _ _ (rd_L2 t219 x29_2) t223 _ ?side1 ?side2 ?side3 ?side4 A19.out).mono ?_); (case side1 => exact CW (Kd.N_reads' HO_12.out).2.2); (case side2 => exact (Kd.N_reads' HO_12.out).2.1); (case side3 => exact CW (by repeat (first | (with_reducible exact HR222_0.out) | (with_reducible refine Kd.C_drewN ?_ _) | (with_reducible refine Kd.C_drew ?_) | (with_reducible refine Kd.C_alloc ?_ _) | exact HR222_0.out))); (case side4 => exact HC222_0.out); rintro e w25 ⟨rfl, hb⟩; refine ⟨_, rfl, ?_⟩; have n0_ := Aside0.mk (Kd.V_below (by (with_reducible repeat (first | apply Kd.V_alloc | apply Kd.V_drewN | apply Kd.V_drew)); exact HO_9.out) hb); have n1_ := Aside0.mk (Kd.N_below (KN HO_12) hb); have n2_ := Aside0.mk (Kd.R_below (KR HO_17) hb); have n3_ := Aside0.mk (Kd.N_below (KN HO_27) hb); have n4_ := Aside0.mk (Kd.V_below (by (with_reducible repeat (first | apply Kd.V_alloc | apply Kd.V_drewN | apply Kd.V_drew)); exact HL222_0.out) hb); have n5_ := Aside0.mk (blk_below (g := gb215) (o := .cells #[.int .i64 ((rd_T49 t211 x19_1).f0), .int .i64 ((rd_T49 t211 x19_1).f1), .int .i64 ((rd_T49 t211 x19_1).f2)] 49 (0, 0)) (BW BK215) hb); have n6_ := Aside0.mk (Kd.C_below (by repeat (first | (with_reducible exact HR222_0.out) | (with_reducible refine Kd.C_drewN ?_ _) | (with_reducible refine Kd.C_drew ?_) | (with_reducible refine Kd.C_alloc ?_ _) | exact HR222_0.out)) hb); have n7_ := Aside0.mk (below_step (by repeat (first | (with_reducible first | exact HB.out | apply below_alloc | apply pw_below_drewN | apply below_drew1 | refine below_set ?_ GE215.out) | exact HB.out)) hb); clear HO_9; clear HO_12; clear HO_17; clear HO_27; clear HL222_0; clear BK215; clear HR222_0; clear HB; have HO_9 := n0_; have HO_12 := n1_; have HO_17 := n2_; have HO_27 := n3_; have HL222_0 := n4_; have BK215 := n5_; have HR222_0 := n6_; have HB := n7_; clear n0_ n1_ n2_ n3_ n4_ n5_ n6_ n7_; (try clear hb); (try clear hb2); (try clear hk); (try clear hi)))
             go_roundg k2
             case measure => have := HK1.out; have := HK2.out; omega
             case rel => exact ⟨(t223), (x19_1), (rd_L2 t219 x29_2), (wrap64 (x29_2 + 1)), RF, RF, RF, H', ⟨by have := HK1.out; have := HK2.out; omega⟩, ⟨by (with_reducible repeat (first | apply Kd.V_alloc | apply Kd.V_drewN | apply Kd.V_drew)); exact Kd.V_mono HL222_0.out (fun _ hk => ⟨hk.1.1, ⟨hk.1.2.1, ⟨hk.1.2.2.1, ⟨hk.2, hk.1.2.2.2⟩⟩⟩⟩)⟩, ⟨KN HO_12⟩, ⟨KR HO_17⟩, ⟨KN HO_27⟩, ⟨by (with_reducible repeat (first | refine blk_drewN ?_ _ | refine blk_drew ?_ | refine blk_alloc ?_ _)); exact BK215.out⟩, ⟨by repeat (first | (with_reducible first | exact HB.out | apply below_alloc | apply pw_below_drewN | apply below_drew1 | refine below_set ?_ GE215.out) | exact HB.out)⟩⟩
            ·rw [if_neg c23] at H
             have c23b0 : decide (t223 < x7_2) = false := decide_eq_false c23
             clear c23
             have H' := Aside0.mk H
             clear H
             have p222 : 0 ≤ (x29_2 : Int) := of_decide_eq_true AS
             have q222 : x29_2 < (t219.length : Int) := of_decide_eq_true AS
             obtain ⟨ad222, A222_0, c222_0, e222, hx222_0, hl222_0, hi222_0⟩ := at_L2 (Kd.N_reads' HO_27.out).2.2 x29_2 p222 q222
             cases e222
             obtain ⟨ce222, hce222, hMe222, hcc222⟩ := Kd.N_get HO_27.out [] x29_2 p222 (by first | exact q222 | exact of_decide_eq_true AS | (have e_ := (Kd.N_reads' HO_27.out).1; omega))
             obtain ⟨ua222_0, uc222_0, rfl, ul222_0, ge222_0⟩ := Kd.FK_slice_open hMe222
             have hv222_0 := hcc222 0 _ rfl
             rw [Nat.add_zero, show ((Kd.slice 3 (Kd.int .i64))).sz = 1 from rfl, Nat.mul_one] at hv222_0
             replace hv222_0 := Option.some.inj (hv222_0.symm.trans hx222_0)
             injection hv222_0 with hva_ hvn_ hvc_
             rw [hva_] at ge222_0
             rw [hvc_] at ul222_0
             have HL222_0 := Aside0.mk (show Kd.V (Kd.int .i64) 3 _ w.heap.size _ _ (rd_L2 t219 x29_2) from Kd.V_mk ul222_0 ge222_0)
             clear hva_ hvn_ hvc_ ge222_0 ul222_0
             clear hcc222 hce222
             have HR222_0 := Aside0.mk hi222_0
             have HC222_0 := Aside0.mk hl222_0
             clear hi222_0 hl222_0
             replace p222 := eq_true p222
             replace q222 := eq_true q222
             obtain ⟨Ao26, co26, eo26⟩ := Kd.N_slice HO_12.out
             subst eo26
             go_wp2_with (first | ((with_reducible refine gate_callee (f := 33) rfl ?_); refine goesL_ (some 35) rfl rfl Try.func33 (by kernel_rfl) rfl #[.slice Ao26 t216.length co26, .slice A222_0 (rd_L2 t219 x29_2).length c222_0] rfl TA ?_; (with_reducible refine (impl_envyOf.calls k2 _ _ t216 _ _ (rd_L2 t219 x29_2) t223 _ ?side1 ?side2 ?side3 ?side4 A19.out).mono ?_); (case side1 => exact CW (Kd.N_reads' HO_12.out).2.2); (case side2 => exact (Kd.N_reads' HO_12.out).2.1); (case side3 => exact CW (by repeat (first | (with_reducible exact HR222_0.out) | (with_reducible refine Kd.C_drewN ?_ _) | (with_reducible refine Kd.C_drew ?_) | (with_reducible refine Kd.C_alloc ?_ _) | exact HR222_0.out))); (case side4 => exact HC222_0.out); rintro e w27 ⟨rfl, hb⟩; refine ⟨_, rfl, ?_⟩; have n0_ := Aside0.mk (Kd.V_below (by (with_reducible repeat (first | apply Kd.V_alloc | apply Kd.V_drewN | apply Kd.V_drew)); exact HO_9.out) hb); have n1_ := Aside0.mk (Kd.N_below (KN HO_12) hb); have n2_ := Aside0.mk (Kd.R_below (KR HO_17) hb); have n3_ := Aside0.mk (Kd.N_below (KN HO_27) hb); have n4_ := Aside0.mk (Kd.V_below (by (with_reducible repeat (first | apply Kd.V_alloc | apply Kd.V_drewN | apply Kd.V_drew)); exact HL222_0.out) hb); have n5_ := Aside0.mk (blk_below (g := gb215) (o := .cells #[.int .i64 ((rd_T49 t211 x19_1).f0), .int .i64 ((rd_T49 t211 x19_1).f1), .int .i64 ((rd_T49 t211 x19_1).f2)] 49 (0, 0)) (BW BK215) hb); have n6_ := Aside0.mk (Kd.C_below (by repeat (first | (with_reducible exact HR222_0.out) | (with_reducible refine Kd.C_drewN ?_ _) | (with_reducible refine Kd.C_drew ?_) | (with_reducible refine Kd.C_alloc ?_ _) | exact HR222_0.out)) hb); have n7_ := Aside0.mk (below_step (by repeat (first | (with_reducible first | exact HB.out | apply below_alloc | apply pw_below_drewN | apply below_drew1 | refine below_set ?_ GE215.out) | exact HB.out)) hb); clear HO_9; clear HO_12; clear HO_17; clear HO_27; clear HL222_0; clear BK215; clear HR222_0; clear HB; have HO_9 := n0_; have HO_12 := n1_; have HO_17 := n2_; have HO_27 := n3_; have HL222_0 := n4_; have BK215 := n5_; have HR222_0 := n6_; have HB := n7_; clear n0_ n1_ n2_ n3_ n4_ n5_ n6_ n7_; (try clear hb); (try clear hb2); (try clear hk); (try clear hi)))
             go_roundg k2
             case measure => have := HK1.out; have := HK2.out; omega
             case rel => exact ⟨(x7_2), (x8_2), (x9_2), (wrap64 (x29_2 + 1)), RF, RF, RF, H', ⟨by have := HK1.out; have := HK2.out; omega⟩, ⟨by (with_reducible repeat (first | apply Kd.V_alloc | apply Kd.V_drewN | apply Kd.V_drew)); exact HO_9.out⟩, ⟨KN HO_12⟩, ⟨KR HO_17⟩, ⟨KN HO_27⟩, ⟨by (with_reducible repeat (first | refine blk_drewN ?_ _ | refine blk_drew ?_ | refine blk_alloc ?_ _)); exact BK215.out⟩, ⟨by repeat (first | (with_reducible first | exact HB.out | apply below_alloc | apply pw_below_drewN | apply below_drew1 | refine below_set ?_ GE215.out) | exact HB.out)⟩⟩
          ·rw [if_neg c18] at H
           cases H
         ·rw [if_neg c17] at H
          cases H
        ·rw [if_neg c16] at H
         have c16b0 : decide (x29_2 < (t219.length : Int)) = false := decide_eq_false c16
         try (have c16bl := c16b0; rw [hl222_0] at c16bl)
         clear c16
         have H' := Aside0.mk H
         clear H
         go_wp2
         go_roundg k2
         case measure => have := HK1.out; have := HK2.out; omega
         case rel => exact ⟨(x7_2), (x8_2), (x9_2), (wrap64 (x19_1 + 1)), RF, RF, RF, H', ⟨by have := HK1.out; have := HK2.out; omega⟩, ⟨by (with_reducible repeat (first | apply Kd.V_alloc | apply Kd.V_drewN | apply Kd.V_drew)); exact Kd.V_mono HO_9.out (fun _ hk => ⟨hk.1, hk.2.2.1⟩)⟩, ⟨by (with_reducible repeat (first | apply Kd.R_alloc | apply Kd.R_drewN | apply Kd.R_drew)); exact Kd.R_mono HO_17.out (fun _ hk => hk.1)⟩, ⟨by repeat (first | (with_reducible first | exact HB.out | apply below_alloc | apply pw_below_drewN | apply below_drew1 | refine below_set ?_ GE215.out) | exact HB.out)⟩⟩
     ·rw [if_neg c8] at H
      cases H
    ·rw [if_neg c7] at H
     cases H
   ·rw [if_neg c6] at H
    have c6b0 : decide (x19_1 < (t211.length : Int)) = false := decide_eq_false c6
    try (have c6bl := c6b0; rw [hl222_0] at c6bl)
    clear c6
    simp only [Option.some.injEq, Prod.mk.injEq] at H
    obtain ⟨rfl, rfl, rfl⟩ := H
    go_wp2
    go_ret3
    exact ⟨_, RE, by (with_reducible repeat (first | apply Kd.V_alloc | apply Kd.V_drewN | apply Kd.V_drew)); exact Kd.V_mono HO_9.out (fun _ hk => hk.1), BB⟩

/-! ### impl_FairRent: function 6 -/
def impl_FairRent.f (k : Nat) (a0 : Int) (l1 : List (List Int)) : Option (Int × List Int × Bool) := (impl_isSide.f a0).bind fun t225 => (if t225 = true then ((impl_areWorths.f k l1).bind fun t226 => (if t226 = true then ((impl_fairest__impl_FairRent_1.f k a0 [l1]).bind fun bt227 => (some (bt227.2.1, bt227.2.2, true))) else (some (0, ([] : List Int), false)))) else (some (0, ([] : List Int), false)))
theorem impl_FairRent.mono : ∀ a0 a1 k, LeO (impl_FairRent.f k a0 a1) (impl_FairRent.f (k + 1) a0 a1) := by
 intro a0 a1 k
 unfold impl_FairRent.f
 repeat' first
   | with_reducible first | exact impl_areWorths.mono _ _ | exact impl_fairest__impl_FairRent_1.mono _ _ _ | exact LeO.refl _ | exact LeO.none _ | refine LeO.ite ?_ ?_ | refine LeO.bind ?_ (fun _ => ?_)
   | exact LeO.none _ | refine LeO.ite ?_ ?_ | refine LeO.bind ?_ (fun _ => ?_)
theorem impl_FairRent.calls (k : Nat) (a0 : Int) (A1 : Option Addr) (c1 : Nat) (l1 : List (List Int)) (r1 : Int) (r2 : List Int) (r3 : Bool) (w : World) (hr1 : Kd.C (Kd.slice 3 (Kd.int .i64)) w A1 l1.length l1) (hc1 : l1.length ≤ c1) (h : impl_FairRent.f k a0 l1 = some (r1, r2, r3)) :
  Calls Try.prog 6 #[.int .i64 a0, .slice A1 l1.length c1] w fun e w' => ∃ v1_ : Value, e = .returned (.tuple #[.int .i64 r1, v1_, .bool r3]) ∧ Kd.V (Kd.int .i64) 3 w' w.heap.size (fun k_ => (w.heap.size ≤ k_)) v1_ r2 ∧ Below w.heap.size w w' := by
 have HR1 := Aside0.mk hr1
 have HC1 := Aside0.mk hc1
 clear hr1 hc1
 have HB := Aside0.mk (Below.refl w.heap.size w)
 have H : ((impl_isSide.f a0).bind fun t225 => (if t225 = true then ((impl_areWorths.f k l1).bind fun t226 => (if t226 = true then ((impl_fairest__impl_FairRent_1.f k a0 [l1]).bind fun bt227 => (some (bt227.2.1, bt227.2.2, true))) else (some (0, ([] : List Int), false)))) else (some (0, ([] : List Int), false)))) = some (r1, r2, r3) := h
 clear h
 replace H := EA H
 obtain ⟨t225, A3, H⟩ := H
 by_cases c4 : t225 = true
 ·subst c4
  replace H := IP H
  replace H := EA H
  obtain ⟨t226, A5, H⟩ := H
  by_cases c6 : t226 = true
  ·subst c6
   replace H := IP H
   replace H := EA H
   obtain ⟨⟨t227, t228, t229⟩, A7, H⟩ := H
   try dsimp only at H
   simp only [Option.some.injEq, Prod.mk.injEq] at H
   obtain ⟨rfl, rfl, rfl⟩ := H
   go_enter Try.func6, Try.ntmps6
   go_wp2_with (first | ((with_reducible refine gate_dst (N := 3) rfl ?_); refine box_event ?hg (N := 3) ?hd (cs := #[.slice A1 l1.length c1]) (t := 24) ?hr ?_; (case hd => rfl); (case hg => rfl); (case hr => exact GS); intro gb224 hg w8 hbox hb; have n0_ := Aside0.mk (below_step BB hb); have n1_ := Aside0.mk (hbox); have n2_ := Aside0.mk ((by rw [hg]; exact (below_size BB) : w.heap.size ≤ gb224)); have n3_ := Aside0.mk ((by rw [hg]; exact (below_size BB) : w.heap.size ≤ gb224)); clear HB; have HB := n0_; have BK224 := n1_; have GW224 := n2_; have GE224 := n3_; clear n0_ n1_ n2_ n3_; clear hb hbox hg) | ((with_reducible refine gate_callee (f := 18) rfl ?_); refine goesL_ (some 11) rfl rfl Try.func18 (by kernel_rfl) rfl #[.int .i64 a0] rfl TA ?_; (with_reducible refine (impl_isSide.calls a0 true _ A3.out).mono ?_); rintro e w' ⟨rfl, ⟨nd, rfl⟩⟩; refine ⟨_, rfl, ?_⟩; have hcz9_0 : w8.cell? ⟨gb224, 0, none⟩ = some (.slice A1 l1.length c1) := (blk_cell BK224.out 0).trans rfl; have hfz9_0 := blk_frozen BK224.out 0) | (go_at_call 19; (with_reducible refine (impl_areWorths.calls k _ _ l1 true _ ?side1 ?side2 A5.out).mono ?_); (case side1 => repeat (first | exact (Kd.C_below HR1.out (by repeat (first | (with_reducible first | exact HB.out | apply below_alloc | apply pw_below_drewN | apply below_drew1 | refine below_set ?_ GE224.out) | exact HB.out))) | (with_reducible refine Kd.C_drewN ?_ _) | (with_reducible refine Kd.C_drew ?_) | (with_reducible refine Kd.C_alloc ?_ _))); (case side2 => exact HC1.out); rintro e w10 ⟨rfl, hb⟩; have n0_ := Aside0.mk (blk_below (g := gb224) (o := .cells #[.slice A1 l1.length c1] 24 (0, 0)) (BW BK224) hb); have n1_ := Aside0.mk (below_step (by repeat (first | (with_reducible first | exact HB.out | apply below_alloc | apply pw_below_drewN | apply below_drew1 | refine below_set ?_ GE224.out) | exact HB.out)) hb); clear BK224; clear HB; have BK224 := n0_; have HB := n1_; clear n0_ n1_; (try clear hb); (try clear hb2); (try clear hk); (try clear hi)) | ((with_reducible refine gate_callee (f := 20) rfl ?_); refine goesL_ (some 21) rfl rfl Try.func20 (by kernel_rfl) rfl #[.int .i64 a0, .func (.func 21) #[] #[.pointer (some ⟨gb224, 0, none⟩)]] rfl TA ?_; (with_reducible refine (impl_fairest__impl_FairRent_1.calls k a0 (some ⟨gb224, 0, none⟩) 1 [l1] t227 t228 t229 _ ?side1 ?side2 A7.out).mono ?_); (case side1 => exact Kd.C_box (Kd.slice 27 (Kd.slice 3 (Kd.int .i64))) (g := gb224) (t := 24) (cs := #[.slice A1 l1.length c1]) (BW BK224) ⟨_, _, rfl, (by exact HC1.out), (CW (Kd.C_below HR1.out HB.out))⟩); (case side2 => exact Nat.le_refl _); rintro e w11 ⟨v230, rfl, ho0, hb⟩; refine ⟨_, rfl, ?_⟩; have n0_ := Aside0.mk (Kd.V_lower (Kd.V_mono (ok' := fun k_ => (w.heap.size ≤ k_) ∧ k_ ≠ gb224) ho0 (fun k_ hk_ => ⟨(Nat.le_trans (below_size (by repeat (first | (with_reducible first | exact HB.out | apply below_alloc | apply pw_below_drewN | apply below_drew1 | refine below_set ?_ GE224.out) | exact HB.out))) hk_), (Kd.freshB (g := gb224) (o := .cells #[.slice A1 l1.length c1] 24 (0, 0)) (BW BK224) k_ hk_)⟩)) (below_size (by repeat (first | (with_reducible first | exact HB.out | apply below_alloc | apply pw_below_drewN | apply below_drew1 | refine below_set ?_ GE224.out) | exact HB.out)))); have n1_ := Aside0.mk (blk_below (g := gb224) (o := .cells #[.slice A1 l1.length c1] 24 (0, 0)) (BW BK224) hb); have n2_ := Aside0.mk (below_step (by repeat (first | (with_reducible first | exact HB.out | apply below_alloc | apply pw_below_drewN | apply below_drew1 | refine below_set ?_ GE224.out) | exact HB.out)) hb); clear BK224; clear HB; have HO231 := n0_; have BK224 := n1_; have HB := n2_; clear n0_ n1_ n2_; (try clear hb); (try clear hb2); (try clear hk); (try clear hi); (try clear ho0)))
   go_ret3
   exact ⟨_, RE, by (with_reducible repeat (first | apply Kd.V_alloc | apply Kd.V_drewN | apply Kd.V_drew)); exact Kd.V_mono HO231.out (fun _ hk => hk.1), by repeat (first | (with_reducible first | exact HB.out | apply below_alloc | apply pw_below_drewN | apply below_drew1 | refine below_set ?_ GE224.out) | exact HB.out)⟩
  ·replace c6 := Bool.eq_false_iff.mpr c6
   subst c6
   replace H := IN H
   simp only [Option.some.injEq, Prod.mk.injEq] at H
   obtain ⟨rfl, rfl, rfl⟩ := H
   go_enter Try.func6, Try.ntmps6
   go_wp2_with (first | ((with_reducible refine gate_dst (N := 3) rfl ?_); refine box_event ?hg (N := 3) ?hd (cs := #[.slice A1 l1.length c1]) (t := 24) ?hr ?_; (case hd => rfl); (case hg => rfl); (case hr => exact GS); intro gb224 hg w12 hbox hb; have n0_ := Aside0.mk (below_step BB hb); have n1_ := Aside0.mk (hbox); have n2_ := Aside0.mk ((by rw [hg]; exact (below_size BB) : w.heap.size ≤ gb224)); have n3_ := Aside0.mk ((by rw [hg]; exact (below_size BB) : w.heap.size ≤ gb224)); clear HB; have HB := n0_; have BK224 := n1_; have GW224 := n2_; have GE224 := n3_; clear n0_ n1_ n2_ n3_; clear hb hbox hg) | ((with_reducible refine gate_callee (f := 18) rfl ?_); refine goesL_ (some 11) rfl rfl Try.func18 (by kernel_rfl) rfl #[.int .i64 a0] rfl TA ?_; (with_reducible refine (impl_isSide.calls a0 true _ A3.out).mono ?_); rintro e w' ⟨rfl, ⟨nd, rfl⟩⟩; refine ⟨_, rfl, ?_⟩; have hcz13_0 : w12.cell? ⟨gb224, 0, none⟩ = some (.slice A1 l1.length c1) := (blk_cell BK224.out 0).trans rfl; have hfz13_0 := blk_frozen BK224.out 0) | (go_at_call 19; (with_reducible refine (impl_areWorths.calls k _ _ l1 false _ ?side1 ?side2 A5.out).mono ?_); (case side1 => repeat (first | exact (Kd.C_below HR1.out (by repeat (first | (with_reducible first | exact HB.out | apply below_alloc | apply pw_below_drewN | apply below_drew1 | refine below_set ?_ GE224.out) | exact HB.out))) | (with_reducible refine Kd.C_drewN ?_ _) | (with_reducible refine Kd.C_drew ?_) | (with_reducible refine Kd.C_alloc ?_ _))); (case side2 => exact HC1.out); rintro e w14 ⟨rfl, hb⟩; have n0_ := Aside0.mk (blk_below (g := gb224) (o := .cells #[.slice A1 l1.length c1] 24 (0, 0)) (BW BK224) hb); have n1_ := Aside0.mk (below_step (by repeat (first | (with_reducible first | exact HB.out | apply below_alloc | apply pw_below_drewN | apply below_drew1 | refine below_set ?_ GE224.out) | exact HB.out)) hb); clear BK224; clear HB; have BK224 := n0_; have HB := n1_; clear n0_ n1_; (try clear hb); (try clear hb2); (try clear hk); (try clear hi)))
   go_ret3
   exact ⟨_, RE, Kd.V_nil _ _ _ _ _, by repeat (first | (with_reducible first | exact HB.out | apply below_alloc | apply pw_below_drewN | apply below_drew1 | refine below_set ?_ GE224.out) | exact HB.out)⟩
 ·replace c4 := Bool.eq_false_iff.mpr c4
  subst c4
  replace H := IN H
  simp only [Option.some.injEq, Prod.mk.injEq] at H
  obtain ⟨rfl, rfl, rfl⟩ := H
  go_enter Try.func6, Try.ntmps6
  go_wp2_with (first | ((with_reducible refine gate_dst (N := 3) rfl ?_); refine box_event ?hg (N := 3) ?hd (cs := #[.slice A1 l1.length c1]) (t := 24) ?hr ?_; (case hd => rfl); (case hg => rfl); (case hr => exact GS); intro gb224 hg w15 hbox hb; have n0_ := Aside0.mk (below_step BB hb); have n1_ := Aside0.mk (hbox); have n2_ := Aside0.mk ((by rw [hg]; exact (below_size BB) : w.heap.size ≤ gb224)); have n3_ := Aside0.mk ((by rw [hg]; exact (below_size BB) : w.heap.size ≤ gb224)); clear HB; have HB := n0_; have BK224 := n1_; have GW224 := n2_; have GE224 := n3_; clear n0_ n1_ n2_ n3_; clear hb hbox hg) | ((with_reducible refine gate_callee (f := 18) rfl ?_); refine goesL_ (some 11) rfl rfl Try.func18 (by kernel_rfl) rfl #[.int .i64 a0] rfl TA ?_; (with_reducible refine (impl_isSide.calls a0 false _ A3.out).mono ?_); rintro e w' ⟨rfl, ⟨nd, rfl⟩⟩; refine ⟨_, rfl, ?_⟩))
  go_ret3
  exact ⟨_, RE, Kd.V_nil _ _ _ _ _, by repeat (first | (with_reducible first | exact HB.out | apply below_alloc | apply pw_below_drewN | apply below_drew1 | refine below_set ?_ GE224.out) | exact HB.out)⟩

/-! ### spec_l1In: function 45 -/
def spec_l1In.f (a0 : Int) (a1 : Int) (a2 : Int) : Option (Bool) := if a0 ≥ a1 then (some (decide (a0 ≤ a2))) else (some false)
theorem spec_l1In.calls (a0 : Int) (a1 : Int) (a2 : Int) (r : Bool) (w : World) (h : spec_l1In.f a0 a1 a2 = some r) :
  Calls Try.prog 45 #[.int .i64 a0, .int .i64 a1, .int .i64 a2] w fun e w' => e = .returned (.bool r) ∧ Drawn0 w w' := by
 have H : (if a0 ≥ a1 then (some (decide (a0 ≤ a2))) else (some false)) = some r := h
 clear h
 by_cases c4 : a0 ≥ a1
 ·rw [if_pos c4] at H
  have c4b0 : decide (a1 ≤ a0) = true := decide_eq_true c4
  clear c4
  obtain rfl := Option.some.inj H
  go_enter Try.func45, Try.ntmps45
  go_wp2
  go_ret
  exact ⟨RF, DR⟩
 ·rw [if_neg c4] at H
  have c4b0 : decide (a1 ≤ a0) = false := decide_eq_false c4
  clear c4
  obtain rfl := Option.some.inj H
  go_enter Try.func45, Try.ntmps45
  go_wp2
  go_ret
  exact ⟨RF, DR⟩

/-! ### spec_meSide: function 23 -/
def spec_meSide.f (a0 : Int) : Option (Bool) := (spec_l1In.f a0 1 8).bind fun t232 => (some t232)
theorem spec_meSide.calls (a0 : Int) (r : Bool) (w : World) (h : spec_meSide.f a0 = some r) :
  Calls Try.prog 23 #[.int .i64 a0] w fun e w' => e = .returned (.bool r) ∧ Drawn0 w w' := by
 have H : ((spec_l1In.f a0 1 8).bind fun t232 => (some t232)) = some r := h
 clear h
 replace H := EA H
 obtain ⟨t232, A2, H⟩ := H
 obtain rfl := Option.some.inj H
 go_enter Try.func23, Try.ntmps23
 go_wp2_with (first | ((with_reducible refine gate_callee (f := 45) rfl ?_); refine goesL_ (some 4) rfl rfl Try.func45 (by kernel_rfl) rfl #[.int .i64 a0, .int .i64 1, .int .i64 8] rfl TA ?_; (with_reducible refine (spec_l1In.calls a0 1 8 t232 _ A2.out).mono ?_); rintro e w' ⟨rfl, ⟨nd, rfl⟩⟩; refine ⟨_, rfl, ?_⟩))
 go_ret
 exact ⟨RF, DR⟩

/-! ### spec_l1All: function 46 -/
def spec_l1All.l0 : Nat → Int → Int → List Int → Int → Int → Option (Bool)
 | 0, _, _, _, _, _ => none
 | k + 1, x1, x2, x9, x10, x11 => if x11 < x10 then (if 0 ≤ x11 then (if x11 < (x9.length : Int) then ((spec_l1In.f (rd x9 x11) x1 x2).bind fun t234 => (if t234 = true then (spec_l1All.l0 k x1 x2 x9 x10 (wrap64 (x11 + 1))) else (some false))) else (none)) else (none)) else (some true)
def spec_l1All.f (k : Nat) (l0 : List Int) (a1 : Int) (a2 : Int) : Option (Bool) := spec_l1All.l0 k a1 a2 l0 (l0.length : Int) 0
theorem spec_l1All.mono_l : ∀ k, (∀ y0 y1 y2 y3 y4, LeO (spec_l1All.l0 k y0 y1 y2 y3 y4) (spec_l1All.l0 (k + 1) y0 y1 y2 y3 y4))
 | 0 => fun _ _ _ _ _ r h => by simp [spec_l1All.l0] at h
 | k + 1 => by
  have ih0 := spec_l1All.mono_l k
  ·intro y0 y1 y2 y3 y4
   unfold spec_l1All.l0
   repeat' first
   | with_reducible first | exact ih0 _ _ _ _ _ | exact LeO.refl _ | exact LeO.none _ | refine LeO.ite ?_ ?_ | refine LeO.bind ?_ (fun _ => ?_)
   | exact LeO.none _ | refine LeO.ite ?_ ?_ | refine LeO.bind ?_ (fun _ => ?_)
theorem spec_l1All.mono : ∀ a0 a1 a2 k, LeO (spec_l1All.f k a0 a1 a2) (spec_l1All.f (k + 1) a0 a1 a2) := by
 intro a0 a1 a2 k
 have ih0 := spec_l1All.mono_l k
 unfold spec_l1All.f
 repeat' first
   | with_reducible first | exact ih0 _ _ _ _ _ | exact LeO.refl _ | exact LeO.none _ | refine LeO.ite ?_ ?_ | refine LeO.bind ?_ (fun _ => ?_)
   | exact LeO.none _ | refine LeO.ite ?_ ?_ | refine LeO.bind ?_ (fun _ => ?_)
theorem spec_l1All.calls (k : Nat) (A0 : Option Addr) (c0 : Nat) (l0 : List Int) (a1 : Int) (a2 : Int) (r : Bool) (w : World) (hr0 : Kd.C (Kd.int .i64) w A0 l0.length l0) (hc0 : l0.length ≤ c0) (h : spec_l1All.f k l0 a1 a2 = some r) :
  Calls Try.prog 46 #[.slice A0 l0.length c0, .int .i64 a1, .int .i64 a2] w fun e w' => e = .returned (.bool r) ∧ Drawn0 w w' := by
 have HR0 := Aside0.mk hr0
 have HC0 := Aside0.mk hc0
 clear hr0 hc0
 have H : (spec_l1All.l0 k a1 a2 l0 (l0.length : Int) 0) = some r := h
 clear h
 have H' := Aside0.mk H
 clear H
 go_enter Try.func46, Try.ntmps46
 go_wp2
 go_loopg [11] k (fun kq v11 w' => ∃ (x11_1 : Int), v11 = .int .i64 x11_1 ∧ Aside0 (spec_l1All.l0 kq a1 a2 l0 (l0.length : Int) x11_1 = some r) ∧ Aside0 (kq ≤ k) ∧ Drawn0 w w')
 case atStart => exact ⟨(0), RF, H', ⟨Nat.le_refl _⟩, by repeat (first | exact Drawn0.refl _ | apply Drawn0.step)⟩
 case round =>
  clear H'
  try clear p2
  obtain ⟨x11_1, rfl, HA, HK1, ⟨m1, rfl⟩⟩ := hrel
  cases gk with
  | zero => exact absurd HA.out (by simp [spec_l1All.l0])
  | succ k1 =>
   have H := HA.out
   clear HA
   simp only [spec_l1All.l0] at H
   by_cases c4 : x11_1 < (l0.length : Int)
   ·rw [if_pos c4] at H
    have c4b0 : decide (x11_1 < (l0.length : Int)) = true := decide_eq_true c4
    clear c4
    by_cases c5 : 0 ≤ x11_1
    ·rw [if_pos c5] at H
     have c5b0 : decide (0 ≤ x11_1) = true := decide_eq_true c5
     clear c5
     by_cases c6 : x11_1 < (l0.length : Int)
     ·rw [if_pos c6] at H
      have c6b0 : decide (x11_1 < (l0.length : Int)) = true := decide_eq_true c6
      clear c6
      replace H := EA H
      obtain ⟨t234, A7, H⟩ := H
      by_cases c8 : t234 = true
      ·subst c8
       replace H := IP H
       have H' := Aside0.mk H
       clear H
       have p233 : 0 ≤ (x11_1 : Int) := of_decide_eq_true AS
       have q233 : x11_1 < (l0.length : Int) := of_decide_eq_true AS
       obtain ⟨ad233, e233, hx233_0⟩ := Kd.at_int HR0.out x11_1 p233 q233
       cases e233
       replace p233 := eq_true p233
       replace q233 := eq_true q233
       go_wp2_with (first | ((with_reducible refine gate_callee (f := 45) rfl ?_); refine goesL_ (some 18) rfl rfl Try.func45 (by kernel_rfl) rfl #[.int .i64 (rd l0 x11_1), .int .i64 a1, .int .i64 a2] rfl TA ?_; (with_reducible refine (spec_l1In.calls (rd l0 x11_1) a1 a2 true _ A7.out).mono ?_); rintro e w' ⟨rfl, ⟨nd, rfl⟩⟩; refine ⟨_, rfl, ?_⟩))
       go_roundg k1
       case measure => have := HK1.out; omega
       case rel => exact ⟨(wrap64 (x11_1 + 1)), RF, H', ⟨by have := HK1.out; omega⟩, by repeat (first | exact Drawn0.refl _ | apply Drawn0.step)⟩
      ·replace c8 := Bool.eq_false_iff.mpr c8
       subst c8
       replace H := IN H
       obtain rfl := Option.some.inj H
       have p233 : 0 ≤ (x11_1 : Int) := of_decide_eq_true AS
       have q233 : x11_1 < (l0.length : Int) := of_decide_eq_true AS
       obtain ⟨ad233, e233, hx233_0⟩ := Kd.at_int HR0.out x11_1 p233 q233
       cases e233
       replace p233 := eq_true p233
       replace q233 := eq_true q233
       go_wp2_with (first | ((with_reducible refine gate_callee (f := 45) rfl ?_); refine goesL_ (some 18) rfl rfl Try.func45 (by kernel_rfl) rfl #[.int .i64 (rd l0 x11_1), .int .i64 a1, .int .i64 a2] rfl TA ?_; (with_reducible refine (spec_l1In.calls (rd l0 x11_1) a1 a2 false _ A7.out).mono ?_); rintro e w' ⟨rfl, ⟨nd, rfl⟩⟩; refine ⟨_, rfl, ?_⟩))
       go_ret
       exact ⟨RF, DR⟩
     ·rw [if_neg c6] at H
      cases H
    ·rw [if_neg c5] at H
     cases H
   ·rw [if_neg c4] at H
    have c4b0 : decide (x11_1 < (l0.length : Int)) = false := decide_eq_false c4
    clear c4
    obtain rfl := Option.some.inj H
    go_wp2
    go_ret
    exact ⟨RF, DR⟩

/-! ### spec_ckRooms: function 24 -/
def spec_ckRooms.l0 : Nat → List (List Int) → Int → Int → Option (Bool)
 | 0, _, _, _ => none
 | k + 1, x8, x9, x10 => if x10 < x9 then (if 0 ≤ x10 then (if x10 < (x8.length : Int) then (if ((rd_L2 x8 x10).length : Int) = 3 then ((spec_l1All.f k (rd_L2 x8 x10) 0 20).bind fun t236 => (if t236 = true then (spec_ckRooms.l0 k x8 x9 (wrap64 (x10 + 1))) else (some false))) else (some false)) else (none)) else (none)) else (some true)
def spec_ckRooms.f (k : Nat) (l0 : List (List Int)) : Option (Bool) := if (l0.length : Int) = 3 then (spec_ckRooms.l0 k l0 (l0.length : Int) 0) else (some false)
theorem spec_ckRooms.mono_l : ∀ k, (∀ y0 y1 y2, LeO (spec_ckRooms.l0 k y0 y1 y2) (spec_ckRooms.l0 (k + 1) y0 y1 y2))
 | 0 => fun _ _ _ r h => by simp [spec_ckRooms.l0] at h
 | k + 1 => by
  have ih0 := spec_ckRooms.mono_l k
  ·intro y0 y1 y2
   unfold spec_ckRooms.l0
   repeat' first
   | with_reducible first | exact ih0 _ _ _ | exact spec_l1All.mono _ _ _ _ | exact LeO.refl _ | exact LeO.none _ | refine LeO.ite ?_ ?_ | refine LeO.bind ?_ (fun _ => ?_)
   | exact LeO.none _ | refine LeO.ite ?_ ?_ | refine LeO.bind ?_ (fun _ => ?_)
theorem spec_ckRooms.mono : ∀ a0 k, LeO (spec_ckRooms.f k a0) (spec_ckRooms.f (k + 1) a0) := by
 intro a0 k
 have ih0 := spec_ckRooms.mono_l k
 unfold spec_ckRooms.f
 repeat' first
   | with_reducible first | exact ih0 _ _ _ | exact spec_l1All.mono _ _ _ _ | exact LeO.refl _ | exact LeO.none _ | refine LeO.ite ?_ ?_ | refine LeO.bind ?_ (fun _ => ?_)
   | exact LeO.none _ | refine LeO.ite ?_ ?_ | refine LeO.bind ?_ (fun _ => ?_)
theorem spec_ckRooms.calls (k : Nat) (A0 : Option Addr) (c0 : Nat) (l0 : List (List Int)) (r : Bool) (w : World) (hr0 : Kd.C (Kd.slice 3 (Kd.int .i64)) w A0 l0.length l0) (hc0 : l0.length ≤ c0) (h : spec_ckRooms.f k l0 = some r) :
  Calls Try.prog 24 #[.slice A0 l0.length c0] w fun e w' => e = .returned (.bool r) ∧ Drawn0 w w' := by
 have HR0 := Aside0.mk hr0
 have HC0 := Aside0.mk hc0
 clear hr0 hc0
 have H : (if (l0.length : Int) = 3 then (spec_ckRooms.l0 k l0 (l0.length : Int) 0) else (some false)) = some r := h
 clear h
 by_cases c2 : (l0.length : Int) = 3
 ·rw [if_pos c2] at H
  have c2b0 : ((l0.length : Int) == 3) = true := beq_iff_eq.mpr c2
  have c2b1 : ((l0.length : Int) != 3) = false := bne_eq_false_iff_eq.mpr c2
  clear c2
  have H' := Aside0.mk H
  clear H
  go_enter Try.func24, Try.ntmps24
  go_wp2
  go_loopg [10] k (fun kq v10 w' => ∃ (x10_1 : Int), v10 = .int .i64 x10_1 ∧ Aside0 (spec_ckRooms.l0 kq l0 (l0.length : Int) x10_1 = some r) ∧ Aside0 (kq ≤ k) ∧ Drawn0 w w')
  case atStart => exact ⟨(0), RF, H', ⟨Nat.le_refl _⟩, by repeat (first | exact Drawn0.refl _ | apply Drawn0.step)⟩
  case round =>
   clear H'
   try clear c2
   try clear c2b0
   try clear c2b1
   try clear p2
   obtain ⟨x10_1, rfl, HA, HK1, ⟨m1, rfl⟩⟩ := hrel
   cases gk with
   | zero => exact absurd HA.out (by simp [spec_ckRooms.l0])
   | succ k1 =>
    have H := HA.out
    clear HA
    simp only [spec_ckRooms.l0] at H
    by_cases c3 : x10_1 < (l0.length : Int)
    ·rw [if_pos c3] at H
     have c3b0 : decide (x10_1 < (l0.length : Int)) = true := decide_eq_true c3
     clear c3
     by_cases c4 : 0 ≤ x10_1
     ·rw [if_pos c4] at H
      have c4b0 : decide (0 ≤ x10_1) = true := decide_eq_true c4
      clear c4
      by_cases c5 : x10_1 < (l0.length : Int)
      ·rw [if_pos c5] at H
       have c5b0 : decide (x10_1 < (l0.length : Int)) = true := decide_eq_true c5
       clear c5
       by_cases c6 : ((rd_L2 l0 x10_1).length : Int) = 3
       ·rw [if_pos c6] at H
        have c6b0 : (((rd_L2 l0 x10_1).length : Int) == 3) = true := beq_iff_eq.mpr c6
        have c6b1 : (((rd_L2 l0 x10_1).length : Int) != 3) = false := bne_eq_false_iff_eq.mpr c6
        clear c6
        replace H := EA H
        obtain ⟨t236, A7, H⟩ := H
        by_cases c8 : t236 = true
        ·subst c8
         replace H := IP H
         have H' := Aside0.mk H
         clear H
         have p235 : 0 ≤ (x10_1 : Int) := of_decide_eq_true AS
         have q235 : x10_1 < (l0.length : Int) := of_decide_eq_true AS
         obtain ⟨ad235, A235_0, c235_0, e235, hx235_0, hl235_0, hi235_0⟩ := at_L2 HR0.out x10_1 p235 q235
         cases e235
         have HR235_0 := Aside0.mk hi235_0
         have HC235_0 := Aside0.mk hl235_0
         clear hi235_0 hl235_0
         replace p235 := eq_true p235
         replace q235 := eq_true q235
         go_wp2_with (first | (go_at_call 46; (with_reducible refine (spec_l1All.calls k1 _ _ (rd_L2 l0 x10_1) 0 20 true _ ?side1 ?side2 A7.out).mono ?_); (case side1 => exact CW HR235_0.out); (case side2 => exact HC235_0.out); rintro e w' ⟨rfl, ⟨nd, rfl⟩⟩))
         go_roundg k1
         case measure => have := HK1.out; omega
         case rel => exact ⟨(wrap64 (x10_1 + 1)), RF, H', ⟨by have := HK1.out; omega⟩, by repeat (first | exact Drawn0.refl _ | apply Drawn0.step)⟩
        ·replace c8 := Bool.eq_false_iff.mpr c8
         subst c8
         replace H := IN H
         obtain rfl := Option.some.inj H
         have p235 : 0 ≤ (x10_1 : Int) := of_decide_eq_true AS
         have q235 : x10_1 < (l0.length : Int) := of_decide_eq_true AS
         obtain ⟨ad235, A235_0, c235_0, e235, hx235_0, hl235_0, hi235_0⟩ := at_L2 HR0.out x10_1 p235 q235
         cases e235
         have HR235_0 := Aside0.mk hi235_0
         have HC235_0 := Aside0.mk hl235_0
         clear hi235_0 hl235_0
         replace p235 := eq_true p235
         replace q235 := eq_true q235
         go_wp2_with (first | (go_at_call 46; (with_reducible refine (spec_l1All.calls k1 _ _ (rd_L2 l0 x10_1) 0 20 false _ ?side1 ?side2 A7.out).mono ?_); (case side1 => exact CW HR235_0.out); (case side2 => exact HC235_0.out); rintro e w' ⟨rfl, ⟨nd, rfl⟩⟩))
         go_ret
         exact ⟨RF, DR⟩
       ·rw [if_neg c6] at H
        have c6b0 : (((rd_L2 l0 x10_1).length : Int) == 3) = false := beq_eq_false_iff_ne.mpr c6
        have c6b1 : (((rd_L2 l0 x10_1).length : Int) != 3) = true := bne_iff_ne.mpr c6
        obtain rfl := Option.some.inj H
        have p235 : 0 ≤ (x10_1 : Int) := of_decide_eq_true AS
        have q235 : x10_1 < (l0.length : Int) := of_decide_eq_true AS
        obtain ⟨ad235, A235_0, c235_0, e235, hx235_0, hl235_0, hi235_0⟩ := at_L2 HR0.out x10_1 p235 q235
        cases e235
        have HR235_0 := Aside0.mk hi235_0
        have HC235_0 := Aside0.mk hl235_0
        clear hi235_0 hl235_0
        replace p235 := eq_true p235
        replace q235 := eq_true q235
        go_wp2
        go_ret
        exact ⟨RF, DR⟩
      ·rw [if_neg c5] at H
       cases H
     ·rw [if_neg c4] at H
      cases H
    ·rw [if_neg c3] at H
     have c3b0 : decide (x10_1 < (l0.length : Int)) = false := decide_eq_false c3
     clear c3
     obtain rfl := Option.some.inj H
     go_wp2
     go_ret
     exact ⟨RF, DR⟩
 ·rw [if_neg c2] at H
  have c2b0 : ((l0.length : Int) == 3) = false := beq_eq_false_iff_ne.mpr c2
  have c2b1 : ((l0.length : Int) != 3) = true := bne_iff_ne.mpr c2
  obtain rfl := Option.some.inj H
  go_enter Try.func24, Try.ntmps24
  go_wp2
  go_ret
  exact ⟨RF, DR⟩

/-! ### spec_meCount: function 25 -/
def spec_meCount.f (a0 : Int) : Option (Int) := some (wrap64 (Int.tdiv (wrap64 ((wrap64 (a0 + 1)) * (wrap64 (a0 + 2)))) 2))
theorem spec_meCount.calls (a0 : Int) (r : Int) (w : World) (h : spec_meCount.f a0 = some r) :
  Calls Try.prog 25 #[.int .i64 a0] w fun e w' => e = .returned (.int .i64 r) ∧ Drawn0 w w' := by
 have H : (some (wrap64 (Int.tdiv (wrap64 ((wrap64 (a0 + 1)) * (wrap64 (a0 + 2)))) 2))) = some r := h
 clear h
 obtain rfl := Option.some.inj H
 go_enter Try.func25, Try.ntmps25
 go_wp2
 go_ret
 exact ⟨RF, DR⟩

/-! ### spec_ckAll: function 26 -/
def spec_ckAll.f  : Option ((List (List Int))) := some (([(([0, 1, 2] : List Int)), (([0, 2, 1] : List Int)), (([1, 0, 2] : List Int)), (([1, 2, 0] : List Int)), (([2, 0, 1] : List Int)), (([2, 1, 0] : List Int))] : List (List Int)))
theorem spec_ckAll.calls  (r : List (List Int)) (w : World) (h : spec_ckAll.f  = some r) :
  Calls Try.prog 26 #[] w fun e w' => ∃ v0_ : Value, e = .returned (v0_) ∧ Kd.N (Kd.slice 3 (Kd.int .i64)) 27 w' w.heap.size (fun k_ => (w.heap.size ≤ k_)) v0_ r ∧ Below w.heap.size w w' := by
 have HB := Aside0.mk (Below.refl w.heap.size w)
 have H : (some (([(([0, 1, 2] : List Int)), (([0, 2, 1] : List Int)), (([1, 0, 2] : List Int)), (([1, 2, 0] : List Int)), (([2, 0, 1] : List Int)), (([2, 1, 0] : List Int))] : List (List Int)))) = some r := h
 clear h
 obtain ⟨y237, hy237⟩ : ∃ y_ : List Int, y_ = (([0, 1, 2] : List Int)) := ⟨_, rfl⟩
 replace H : (some (([y237, (([0, 2, 1] : List Int)), (([1, 0, 2] : List Int)), (([1, 2, 0] : List Int)), (([2, 0, 1] : List Int)), (([2, 1, 0] : List Int))] : List (List Int)))) = some r := HY H hy237
 have Ny237 := Aside0.mk hy237
 clear hy237
 obtain ⟨y240, hy240⟩ : ∃ y_ : List Int, y_ = (([0, 2, 1] : List Int)) := ⟨_, rfl⟩
 replace H : (some (([y237, y240, (([1, 0, 2] : List Int)), (([1, 2, 0] : List Int)), (([2, 0, 1] : List Int)), (([2, 1, 0] : List Int))] : List (List Int)))) = some r := HY H hy240
 have Ny240 := Aside0.mk hy240
 clear hy240
 obtain ⟨y243, hy243⟩ : ∃ y_ : List Int, y_ = (([1, 0, 2] : List Int)) := ⟨_, rfl⟩
 replace H : (some (([y237, y240, y243, (([1, 2, 0] : List Int)), (([2, 0, 1] : List Int)), (([2, 1, 0] : List Int))] : List (List Int)))) = some r := HY H hy243
 have Ny243 := Aside0.mk hy243
 clear hy243
 obtain ⟨y246, hy246⟩ : ∃ y_ : List Int, y_ = (([1, 2, 0] : List Int)) := ⟨_, rfl⟩
 replace H : (some (([y237, y240, y243, y246, (([2, 0, 1] : List Int)), (([2, 1, 0] : List Int))] : List (List Int)))) = some r := HY H hy246
 have Ny246 := Aside0.mk hy246
 clear hy246
 obtain ⟨y249, hy249⟩ : ∃ y_ : List Int, y_ = (([2, 0, 1] : List Int)) := ⟨_, rfl⟩
 replace H : (some (([y237, y240, y243, y246, y249, (([2, 1, 0] : List Int))] : List (List Int)))) = some r := HY H hy249
 have Ny249 := Aside0.mk hy249
 clear hy249
 obtain ⟨y252, hy252⟩ : ∃ y_ : List Int, y_ = (([2, 1, 0] : List Int)) := ⟨_, rfl⟩
 replace H : (some (([y237, y240, y243, y246, y249, y252] : List (List Int)))) = some r := HY H hy252
 have Ny252 := Aside0.mk hy252
 clear hy252
 obtain ⟨y255, hy255⟩ : ∃ y_ : List (List Int), y_ = (([y237, y240, y243, y246, y249, y252] : List (List Int))) := ⟨_, rfl⟩
 replace H : (some y255) = some r := HY H hy255
 have Ny255 := Aside0.mk hy255
 clear hy255
 obtain rfl := Option.some.inj H
 go_enter Try.func26, Try.ntmps26
 go_wp2_with (first | ((with_reducible refine gate_dst (N := 1) rfl ?_); refine Kd.R_lit (Kd.int .i64) _ 3 ?hg (N := 1) ?hd (xs := ([0, 1, 2] : List Int)) (inner := [.int .i64 0, .int .i64 1, .int .i64 2]) (ok := fun _ => True) (okp := fun _ => True) ?hr ?hp (fun _ hk => hk) trivial (Below.refl _ _) (Nat.le_refl _) (by simp) ?_; (case hd => rfl); (case hg => rfl); (case hr => exact GS); (case hp => exact (Reps.one (show Kd.M (Kd.int .i64) _ _ _ 0 [.int .i64 0] from rfl) (Reps.one (show Kd.M (Kd.int .i64) _ _ _ 1 [.int .i64 1] from rfl) (Reps.one (show Kd.M (Kd.int .i64) _ _ _ 2 [.int .i64 2] from rfl) (Reps.none _ _))))); intro v238 w1 ho2 hb hg_ hnew_; clear hg_ hnew_; (first | rw [← Ny237.out] at ho2 | (simp only [Int.reduceToNat] at ho2; rw [← Ny237.out] at ho2)); have n0_ := Aside0.mk (Kd.R_lower (Kd.R_newM (M := fun k_ => (w.heap.size ≤ k_)) ho2 (below_size BB) (fun k_ h_ => h_)) (below_size BB)); have n1_ := Aside0.mk (below_step BB hb); clear HB; have HO239 := n0_; have HB := n1_; clear n0_ n1_; clear hb ho2) | ((with_reducible refine gate_dst (N := 2) rfl ?_); refine Kd.R_lit (Kd.int .i64) _ 3 ?hg (N := 2) ?hd (xs := ([0, 2, 1] : List Int)) (inner := [.int .i64 0, .int .i64 2, .int .i64 1]) (ok := fun _ => True) (okp := fun _ => True) ?hr ?hp (fun _ hk => hk) trivial (Below.refl _ _) (Nat.le_refl _) (by simp) ?_; (case hd => rfl); (case hg => rfl); (case hr => exact GS); (case hp => exact (Reps.one (show Kd.M (Kd.int .i64) _ _ _ 0 [.int .i64 0] from rfl) (Reps.one (show Kd.M (Kd.int .i64) _ _ _ 2 [.int .i64 2] from rfl) (Reps.one (show Kd.M (Kd.int .i64) _ _ _ 1 [.int .i64 1] from rfl) (Reps.none _ _))))); intro v241 w3 ho4 hb hg_ hnew_; clear hg_ hnew_; (first | rw [← Ny240.out] at ho4 | (simp only [Int.reduceToNat] at ho4; rw [← Ny240.out] at ho4)); have n0_ := Aside0.mk (Kd.R_elder' (KR HO239) (Kd.R_base ho4) hb); have n1_ := Aside0.mk (Kd.R_lower (Kd.R_new' (Kd.R_newM (M := fun k_ => (w.heap.size ≤ k_)) ho4 (below_size BB) (fun k_ h_ => h_)) (Kd.R_lt (KR HO239))) (below_size BB)); have n2_ := Aside0.mk (below_step BB hb); clear HO239; clear HB; have HO239 := n0_; have HO242 := n1_; have HB := n2_; clear n0_ n1_ n2_; clear hb ho4) | ((with_reducible refine gate_dst (N := 3) rfl ?_); refine Kd.R_lit (Kd.int .i64) _ 3 ?hg (N := 3) ?hd (xs := ([1, 0, 2] : List Int)) (inner := [.int .i64 1, .int .i64 0, .int .i64 2]) (ok := fun _ => True) (okp := fun _ => True) ?hr ?hp (fun _ hk => hk) trivial (Below.refl _ _) (Nat.le_refl _) (by simp) ?_; (case hd => rfl); (case hg => rfl); (case hr => exact GS); (case hp => exact (Reps.one (show Kd.M (Kd.int .i64) _ _ _ 1 [.int .i64 1] from rfl) (Reps.one (show Kd.M (Kd.int .i64) _ _ _ 0 [.int .i64 0] from rfl) (Reps.one (show Kd.M (Kd.int .i64) _ _ _ 2 [.int .i64 2] from rfl) (Reps.none _ _))))); intro v244 w5 ho6 hb hg_ hnew_; clear hg_ hnew_; (first | rw [← Ny243.out] at ho6 | (simp only [Int.reduceToNat] at ho6; rw [← Ny243.out] at ho6)); have n0_ := Aside0.mk (Kd.R_elder' (KR HO239) (Kd.R_base ho6) hb); have n1_ := Aside0.mk (Kd.R_elder' (KR HO242) (Kd.R_base ho6) hb); have n2_ := Aside0.mk (Kd.R_lower (Kd.R_new' (Kd.R_new' (Kd.R_newM (M := fun k_ => (w.heap.size ≤ k_)) ho6 (below_size BB) (fun k_ h_ => h_)) (Kd.R_lt (KR HO239))) (Kd.R_lt (KR HO242))) (below_size BB)); have n3_ := Aside0.mk (below_step BB hb); clear HO239; clear HO242; clear HB; have HO239 := n0_; have HO242 := n1_; have HO245 := n2_; have HB := n3_; clear n0_ n1_ n2_ n3_; clear hb ho6) | ((with_reducible refine gate_dst (N := 4) rfl ?_); refine Kd.R_lit (Kd.int .i64) _ 3 ?hg (N := 4) ?hd (xs := ([1, 2, 0] : List Int)) (inner := [.int .i64 1, .int .i64 2, .int .i64 0]) (ok := fun _ => True) (okp := fun _ => True) ?hr ?hp (fun _ hk => hk) trivial (Below.refl _ _) (Nat.le_refl _) (by simp) ?_; (case hd => rfl); (case hg => rfl); (case hr => exact GS); (case hp => exact (Reps.one (show Kd.M (Kd.int .i64) _ _ _ 1 [.int .i64 1] from rfl) (Reps.one (show Kd.M (Kd.int .i64) _ _ _ 2 [.int .i64 2] from rfl) (Reps.one (show Kd.M (Kd.int .i64) _ _ _ 0 [.int .i64 0] from rfl) (Reps.none _ _))))); intro v247 w7 ho8 hb hg_ hnew_; clear hg_ hnew_; (first | rw [← Ny246.out] at ho8 | (simp only [Int.reduceToNat] at ho8; rw [← Ny246.out] at ho8)); have n0_ := Aside0.mk (Kd.R_elder' (KR HO239) (Kd.R_base ho8) hb); have n1_ := Aside0.mk (Kd.R_elder' (KR HO242) (Kd.R_base ho8) hb); have n2_ := Aside0.mk (Kd.R_elder' (KR HO245) (Kd.R_base ho8) hb); have n3_ := Aside0.mk (Kd.R_lower (Kd.R_new' (Kd.R_new' (Kd.R_new' (Kd.R_newM (M := fun k_ => (w.heap.size ≤ k_)) ho8 (below_size BB) (fun k_ h_ => h_)) (Kd.R_lt (KR HO239))) (Kd.R_lt (KR HO242))) (Kd.R_lt (KR HO245))) (below_size BB)); have n4_ := Aside0.mk (below_step BB hb); clear HO239; clear HO242; clear HO245; clear HB; have HO239 := n0_; have HO242 := n1_; have HO245 := n2_; have HO248 := n3_; have HB := n4_; clear n0_ n1_ n2_ n3_ n4_; clear hb ho8) | ((with_reducible refine gate_dst (N := 5) rfl ?_); refine Kd.R_lit (Kd.int .i64) _ 3 ?hg (N := 5) ?hd (xs := ([2, 0, 1] : List Int)) (inner := [.int .i64 2, .int .i64 0, .int .i64 1]) (ok := fun _ => True) (okp := fun _ => True) ?hr ?hp (fun _ hk => hk) trivial (Below.refl _ _) (Nat.le_refl _) (by simp) ?_; (case hd => rfl); (case hg => rfl); (case hr => exact GS); (case hp => exact (Reps.one (show Kd.M (Kd.int .i64) _ _ _ 2 [.int .i64 2] from rfl) (Reps.one (show Kd.M (Kd.int .i64) _ _ _ 0 [.int .i64 0] from rfl) (Reps.one (show Kd.M (Kd.int .i64) _ _ _ 1 [.int .i64 1] from rfl) (Reps.none _ _))))); intro v250 w9 ho10 hb hg_ hnew_; clear hg_ hnew_; (first | rw [← Ny249.out] at ho10 | (simp only [Int.reduceToNat] at ho10; rw [← Ny249.out] at ho10)); have n0_ := Aside0.mk (Kd.R_elder' (KR HO239) (Kd.R_base ho10) hb); have n1_ := Aside0.mk (Kd.R_elder' (KR HO242) (Kd.R_base ho10) hb); have n2_ := Aside0.mk (Kd.R_elder' (KR HO245) (Kd.R_base ho10) hb); have n3_ := Aside0.mk (Kd.R_elder' (KR HO248) (Kd.R_base ho10) hb); have n4_ := Aside0.mk (Kd.R_lower (Kd.R_new' (Kd.R_new' (Kd.R_new' (Kd.R_new' (Kd.R_newM (M := fun k_ => (w.heap.size ≤ k_)) ho10 (below_size BB) (fun k_ h_ => h_)) (Kd.R_lt (KR HO239))) (Kd.R_lt (KR HO242))) (Kd.R_lt (KR HO245))) (Kd.R_lt (KR HO248))) (below_size BB)); have n5_ := Aside0.mk (below_step BB hb); clear HO239; clear HO242; clear HO245; clear HO248; clear HB; have HO239 := n0_; have HO242 := n1_; have HO245 := n2_; have HO248 := n3_; have HO251 := n4_; have HB := n5_; clear n0_ n1_ n2_ n3_ n4_ n5_; clear hb ho10) | ((with_reducible refine gate_dst (N := 6) rfl ?_); refine Kd.R_lit (Kd.int .i64) _ 3 ?hg (N := 6) ?hd (xs := ([2, 1, 0] : List Int)) (inner := [.int .i64 2, .int .i64 1, .int .i64 0]) (ok := fun _ => True) (okp := fun _ => True) ?hr ?hp (fun _ hk => hk) trivial (Below.refl _ _) (Nat.le_refl _) (by simp) ?_; (case hd => rfl); (case hg => rfl); (case hr => exact GS); (case hp => exact (Reps.one (show Kd.M (Kd.int .i64) _ _ _ 2 [.int .i64 2] from rfl) (Reps.one (show Kd.M (Kd.int .i64) _ _ _ 1 [.int .i64 1] from rfl) (Reps.one (show Kd.M (Kd.int .i64) _ _ _ 0 [.int .i64 0] from rfl) (Reps.none _ _))))); intro v253 w11 ho12 hb hg_ hnew_; clear hg_ hnew_; (first | rw [← Ny252.out] at ho12 | (simp only [Int.reduceToNat] at ho12; rw [← Ny252.out] at ho12)); have n0_ := Aside0.mk (Kd.R_elder' (KR HO239) (Kd.R_base ho12) hb); have n1_ := Aside0.mk (Kd.R_elder' (KR HO242) (Kd.R_base ho12) hb); have n2_ := Aside0.mk (Kd.R_elder' (KR HO245) (Kd.R_base ho12) hb); have n3_ := Aside0.mk (Kd.R_elder' (KR HO248) (Kd.R_base ho12) hb); have n4_ := Aside0.mk (Kd.R_elder' (KR HO251) (Kd.R_base ho12) hb); have n5_ := Aside0.mk (Kd.R_lower (Kd.R_new' (Kd.R_new' (Kd.R_new' (Kd.R_new' (Kd.R_new' (Kd.R_newM (M := fun k_ => (w.heap.size ≤ k_)) ho12 (below_size BB) (fun k_ h_ => h_)) (Kd.R_lt (KR HO239))) (Kd.R_lt (KR HO242))) (Kd.R_lt (KR HO245))) (Kd.R_lt (KR HO248))) (Kd.R_lt (KR HO251))) (below_size BB)); have n6_ := Aside0.mk (below_step BB hb); clear HO239; clear HO242; clear HO245; clear HO248; clear HO251; clear HB; have HO239 := n0_; have HO242 := n1_; have HO245 := n2_; have HO248 := n3_; have HO251 := n4_; have HO254 := n5_; have HB := n6_; clear n0_ n1_ n2_ n3_ n4_ n5_ n6_; clear hb ho12; obtain ⟨Ao13, co13, eo13⟩ := Kd.R_slice HO239.out; subst eo13; obtain ⟨Ao14, co14, eo14⟩ := Kd.R_slice HO242.out; subst eo14; obtain ⟨Ao15, co15, eo15⟩ := Kd.R_slice HO245.out; subst eo15; obtain ⟨Ao16, co16, eo16⟩ := Kd.R_slice HO248.out; subst eo16; obtain ⟨Ao17, co17, eo17⟩ := Kd.R_slice HO251.out; subst eo17; obtain ⟨Ao18, co18, eo18⟩ := Kd.R_slice HO254.out; subst eo18) | ((with_reducible refine gate_dst (N := 7) rfl ?_); refine Kd.N_lit (Kd.slice 3 (Kd.int .i64)) _ 27 ?hg (N' := 7) ?hd (xs := ([y237, y240, y243, y246, y249, y252] : List (List Int))) (inner := [.slice Ao13 y237.length co13, .slice Ao14 y240.length co14, .slice Ao15 y243.length co15, .slice Ao16 y246.length co16, .slice Ao17 y249.length co17, .slice Ao18 y252.length co18]) (ok := (fun k_ => (w.heap.size ≤ k_))) (okp := (fun k_ => (w.heap.size ≤ k_))) ?hr ?hp (fun _ hk => hk) ((show ∀ k_, w11.heap.size ≤ k_ → (fun k_ => (w.heap.size ≤ k_)) k_ from fun k_ hk => (Nat.le_trans (below_size BB) hk)) _ (Nat.le_refl _)) (Below.refl _ _) (Nat.le_refl _) (by simp) ?_; (case hd => rfl); (case hg => rfl); (case hr => exact GS); (case hp => exact (Reps.one (show Kd.FK (Kd.slice 3 (Kd.int .i64)) _ _ y237 [.slice Ao13 y237.length co13] from (Kd.FK_slice_mk (Kd.R_reads' (Kd.R_mono (ok' := (fun k_ => (w.heap.size ≤ k_))) (HO239.out) (fun k_ hk => hk.1.1.1.1.1.1))).2.1 (Kd.R_F (Kd.R_mono (ok' := (fun k_ => (w.heap.size ≤ k_))) (HO239.out) (fun k_ hk => hk.1.1.1.1.1.1))))) (Reps.one (show Kd.FK (Kd.slice 3 (Kd.int .i64)) _ _ y240 [.slice Ao14 y240.length co14] from (Kd.FK_slice_mk (Kd.R_reads' (Kd.R_mono (ok' := (fun k_ => (w.heap.size ≤ k_))) (HO242.out) (fun k_ hk => hk.1.1.1.1.1.1))).2.1 (Kd.R_F (Kd.R_mono (ok' := (fun k_ => (w.heap.size ≤ k_))) (HO242.out) (fun k_ hk => hk.1.1.1.1.1.1))))) (Reps.one (show Kd.FK (Kd.slice 3 (Kd.int .i64)) _ _ y243 [.slice Ao15 y243.length co15] from (Kd.FK_slice_mk (Kd.R_reads' (Kd.R_mono (ok' := (fun k_ => (w.heap.size ≤ k_))) (HO245.out) (fun k_ hk => hk.1.1.1.1.1.1))).2.1 (Kd.R_F (Kd.R_mono (ok' := (fun k_ => (w.heap.size ≤ k_))) (HO245.out) (fun k_ hk => hk.1.1.1.1.1.1))))) (Reps.one (show Kd.FK (Kd.slice 3 (Kd.int .i64)) _ _ y246 [.slice Ao16 y246.length co16] from (Kd.FK_slice_mk (Kd.R_reads' (Kd.R_mono (ok' := (fun k_ => (w.heap.size ≤ k_))) (HO248.out) (fun k_ hk => hk.1.1.1.1.1.1))).2.1 (Kd.R_F (Kd.R_mono (ok' := (fun k_ => (w.heap.size ≤ k_))) (HO248.out) (fun k_ hk => hk.1.1.1.1.1.1))))) (Reps.one (show Kd.FK (Kd.slice 3 (Kd.int .i64)) _ _ y249 [.slice Ao17 y249.length co17] from (Kd.FK_slice_mk (Kd.R_reads' (Kd.R_mono (ok' := (fun k_ => (w.heap.size ≤ k_))) (HO251.out) (fun k_ hk => hk.1.1.1.1.1.1))).2.1 (Kd.R_F (Kd.R_mono (ok' := (fun k_ => (w.heap.size ≤ k_))) (HO251.out) (fun k_ hk => hk.1.1.1.1.1.1))))) (Reps.one (show Kd.FK (Kd.slice 3 (Kd.int .i64)) _ _ y252 [.slice Ao18 y252.length co18] from (Kd.FK_slice_mk (Kd.R_reads' (Kd.R_mono (ok' := (fun k_ => (w.heap.size ≤ k_))) (HO254.out) (fun k_ hk => hk.1.1.1.1.1.1))).2.1 (Kd.R_F (Kd.R_mono (ok' := (fun k_ => (w.heap.size ≤ k_))) (HO254.out) (fun k_ hk => hk.1.1.1.1.1.1))))) (Reps.none _ _)))))))); intro v256 w19 ho20 hb hg_ hnew_; clear hg_ hnew_; (first | rw [← Ny255.out] at ho20 | (simp only [Int.reduceToNat] at ho20; rw [← Ny255.out] at ho20)); have n0_ := Aside0.mk (Kd.N_lower ho20 (below_size BB)); have n1_ := Aside0.mk (below_step BB hb); clear HB; clear HO239; clear HO242; clear HO245; clear HO248; clear HO251; clear HO254; have HO257 := n0_; have HB := n1_; clear n0_ n1_; clear hb ho20))
 go_ret
 exact ⟨_, RE, KN HO257, BB⟩

/-! ### spec_l1Most: function 47 -/
def spec_l1Most.f (a0 : Int) (a1 : Int) : Option (Int) := if a0 > a1 then (some a0) else (some a1)
theorem spec_l1Most.calls (a0 : Int) (a1 : Int) (r : Int) (w : World) (h : spec_l1Most.f a0 a1 = some r) :
  Calls Try.prog 47 #[.int .i64 a0, .int .i64 a1] w fun e w' => e = .returned (.int .i64 r) ∧ Drawn0 w w' := by
 have H : (if a0 > a1 then (some a0) else (some a1)) = some r := h
 clear h
 by_cases c3 : a0 > a1
 ·rw [if_pos c3] at H
  have c3b0 : decide (a1 < a0) = true := decide_eq_true c3
  clear c3
  obtain rfl := Option.some.inj H
  go_enter Try.func47, Try.ntmps47
  go_wp2
  go_ret
  exact ⟨RF, DR⟩
 ·rw [if_neg c3] at H
  have c3b0 : decide (a1 < a0) = false := decide_eq_false c3
  clear c3
  obtain rfl := Option.some.inj H
  go_enter Try.func47, Try.ntmps47
  go_wp2
  go_ret
  exact ⟨RF, DR⟩

end Go.Proofs.Ythkdkgbcokpbaaa.PFnRentsAreFair
