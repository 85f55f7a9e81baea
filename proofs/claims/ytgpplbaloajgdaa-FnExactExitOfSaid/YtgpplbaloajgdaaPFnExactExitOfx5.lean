-- Written by a program of this session (wip/tools/pp.sh) out of the translation; Lean checks it.
import Derived.Test.YtgpplbaloajgdaaPFnExactExitOfx0
import Derived.Test.YtgpplbaloajgdaaPFnExactExitOfx1
import Derived.Test.YtgpplbaloajgdaaPFnExactExitOfx2
import Derived.Test.YtgpplbaloajgdaaPFnExactExitOfx3
import Derived.Test.YtgpplbaloajgdaaPFnExactExitOfx4
namespace Go.Proofs.Ytgpplbaloajgdaa.PFnExactExitOf
open Go.RowKit Go.Proofs.YtgpplbaloajgdaaOwn Go.Proofs.YtgpplbaloajgdaaW.PrintWords Go.Proofs.YtgpplbaloajgdaaW.PrintLast Go.Proofs.YtgpplbaloajgdaaW.PrintMore
attribute [local go_sem] max2_int min2_int max_two min_two max_three min_three max_four min_four   -- for this text's walks alone
set_option linter.unusedVariables false
set_option linter.unusedSimpArgs false

def spec_meLabels.f (k : Nat) (a0 : Int) (l1 : List Int) : Option (Bool) := (spec_meSide.f a0).bind fun t238 => (if t238 = true then ((spec_meCount.f a0).bind fun t239 => (if (l1.length : Int) = t239 then ((spec_l1All.f k l1 0 2).bind fun t240 => (some t240)) else (some false))) else (some false))
theorem spec_meLabels.mono : ∀ a0 a1 k, LeO (spec_meLabels.f k a0 a1) (spec_meLabels.f (k + 1) a0 a1) := by
 intro a0 a1 k
 unfold spec_meLabels.f
 repeat' first
   | (with_reducible exact spec_l1All.mono _ _ _ _)
   | (with_reducible exact LeO.refl _)
   | (with_reducible exact LeO.none _)
   | (with_reducible refine LeO.ite ?_ ?_)
   | (with_reducible refine LeO.bind ?_ (fun _ => ?_))
   | exact spec_l1All.mono _ _ _ _
   | exact LeO.none _
   | refine LeO.ite ?_ ?_
   | refine LeO.bind ?_ (fun _ => ?_)
set_option maxHeartbeats 8000000 in
set_option maxRecDepth 100000 in
theorem spec_meLabels.calls (k : Nat) (a0 : Int) (A1 : Option Addr) (c1 : Nat) (l1 : List Int) (r : Bool) (w : World) (hr1 : Kd.C (Kd.int .i64) w A1 l1.length l1) (hc1 : l1.length ≤ c1) (h : spec_meLabels.f k a0 l1 = some r) :
  Calls Try.prog 19 #[.int .i64 a0, .slice A1 l1.length c1] w fun e w' => e = .returned (.bool r) ∧ Drawn0 w w' := by
 have HR1 := Aside0.mk hr1; have HC1 := Aside0.mk hc1; clear hr1 hc1; have H : ((spec_meSide.f a0).bind fun t238 => (if t238 = true then ((spec_meCount.f a0).bind fun t239 => (if (l1.length : Int) = t239 then ((spec_l1All.f k l1 0 2).bind fun t240 => (some t240)) else (some false))) else (some false))) = some r := h; clear h; replace H := Option.bind_eq_some_iff.mp H; obtain ⟨t238, A30, H⟩ := H; replace H : (if t238 = true then ((spec_meCount.f a0).bind fun t239 => (if (l1.length : Int) = t239 then ((spec_l1All.f k l1 0 2).bind fun t240 => (some t240)) else (some false))) else (some false)) = some r := H; have A3 := Aside0.mk A30; clear A30
 by_cases c4 : t238 = true
 ·subst c4
  have H1 : ((spec_meCount.f a0).bind fun t239 => (if (l1.length : Int) = t239 then ((spec_l1All.f k l1 0 2).bind fun t240 => (some t240)) else (some false))) = some r := by rw [if_pos rfl] at H; exact H
  clear H; have H := H1; clear H1; replace H := Option.bind_eq_some_iff.mp H; obtain ⟨t239, A50, H⟩ := H; replace H : (if (l1.length : Int) = t239 then ((spec_l1All.f k l1 0 2).bind fun t240 => (some t240)) else (some false)) = some r := H; have A5 := Aside0.mk A50; clear A50
  by_cases c6 : (l1.length : Int) = t239
  ·rw [if_pos c6] at H
   have c6b0 : ((l1.length : Int) == t239) = true := beq_iff_eq.mpr c6; have c6b1 : ((l1.length : Int) != t239) = false := bne_eq_false_iff_eq.mpr c6; clear c6; replace H := Option.bind_eq_some_iff.mp H; obtain ⟨t240, A70, H⟩ := H; replace H : (some t240) = some r := H; have A7 := Aside0.mk A70; clear A70; obtain rfl := Option.some.inj H
   go_enter Try.func19, Try.ntmps19
   go_wp2_with (first | ((with_reducible refine gate_callee (f := 38) rfl ?_); refine goesL_ (some 6) rfl rfl Try.func38 (by kernel_rfl) rfl #[.int .i64 a0] rfl TA ?_; (with_reducible refine (spec_meSide.calls a0 true _ A3.out).mono ?_); rintro e w' ⟨rfl, ⟨nd, rfl⟩⟩; refine ⟨_, rfl, ?_⟩) | (go_at_call 39; (with_reducible refine (spec_meCount.calls a0 t239 _ A5.out).mono ?_); rintro e w' ⟨rfl, ⟨nd, rfl⟩⟩) | (go_at_call 40; (with_reducible refine (spec_l1All.calls k _ _ l1 0 2 t240 _ ?side1 ?side2 A7.out).mono ?_); (case side1 => repeat (first | exact HR1.out | (with_reducible refine Kd.C_alloc ?_ _) | (with_reducible refine Kd.C_drewN ?_ _) | (with_reducible refine Kd.C_drew ?_))); (case side2 => exact HC1.out); rintro e w' ⟨rfl, ⟨nd, rfl⟩⟩))
   go_ret
   exact ⟨by first | rfl | (simp; done) | (simp [*]; done) | (simp [*, wrap64]; done), by repeat (first | exact Drawn0.refl _ | apply Drawn0.step)⟩
  ·rw [if_neg c6] at H
   have c6b0 : ((l1.length : Int) == t239) = false := beq_eq_false_iff_ne.mpr c6; have c6b1 : ((l1.length : Int) != t239) = true := bne_iff_ne.mpr c6; obtain rfl := Option.some.inj H
   go_enter Try.func19, Try.ntmps19
   go_wp2_with (first | ((with_reducible refine gate_callee (f := 38) rfl ?_); refine goesL_ (some 6) rfl rfl Try.func38 (by kernel_rfl) rfl #[.int .i64 a0] rfl TA ?_; (with_reducible refine (spec_meSide.calls a0 true _ A3.out).mono ?_); rintro e w' ⟨rfl, ⟨nd, rfl⟩⟩; refine ⟨_, rfl, ?_⟩) | (go_at_call 39; (with_reducible refine (spec_meCount.calls a0 t239 _ A5.out).mono ?_); rintro e w' ⟨rfl, ⟨nd, rfl⟩⟩))
   go_ret
   exact ⟨by first | rfl | (simp; done) | (simp [*]; done) | (simp [*, wrap64]; done), by repeat (first | exact Drawn0.refl _ | apply Drawn0.step)⟩
 ·replace c4 := Bool.eq_false_iff.mpr c4
  subst c4; have H1 : (some false) = some r := by rw [if_neg (show ¬ (false = true) by decide)] at H; exact H
  clear H; have H := H1; clear H1; obtain rfl := Option.some.inj H
  go_enter Try.func19, Try.ntmps19
  go_wp2_with (first | ((with_reducible refine gate_callee (f := 38) rfl ?_); refine goesL_ (some 6) rfl rfl Try.func38 (by kernel_rfl) rfl #[.int .i64 a0] rfl TA ?_; (with_reducible refine (spec_meSide.calls a0 false _ A3.out).mono ?_); rintro e w' ⟨rfl, ⟨nd, rfl⟩⟩; refine ⟨_, rfl, ?_⟩))
  go_ret
  exact ⟨by first | rfl | (simp; done) | (simp [*]; done) | (simp [*, wrap64]; done), by repeat (first | exact Drawn0.refl _ | apply Drawn0.step)⟩

def spec_doOutside.l0 : Nat → Int → Int → List (List Int) → Int → Int → Option (Bool)
 | 0, _, _, _, _, _ => none
 | k + 1, x2, x3, x17, x18, x19 => if x19 < x18 then (if 0 ≤ x19 then (if x19 < (x17.length : Int) then (if 0 < ((rd_L1 x17 x19).length : Int) then (if 1 < ((rd_L1 x17 x19).length : Int) then ((spec_doInner.f (rd (rd_L1 x17 x19) 0) (rd (rd_L1 x17 x19) 1)).bind fun t248 => ((spec_doInner.f x2 x3).bind fun t251 => ((spec_l1Same.f k t248 t251).bind fun t254 => (if t254 = true then (some true) else (spec_doOutside.l0 k x2 x3 x17 x18 (wrap64 (x19 + 1))))))) else (none)) else (none)) else (none)) else (none)) else (some false)
def spec_doOutside.f (k : Nat) (a0 : Int) (l1 : List Int) (a2 : Int) (a3 : Int) : Option (Bool) := (spec_meLabels.f k a0 l1).bind fun t241 => (if t241 = true then ((spec_doBorder.f k a0 l1).bind fun t242 => (spec_doOutside.l0 k a2 a3 t242 (t242.length : Int) 0)) else (some false))
theorem spec_doOutside.mono_l : ∀ k, (∀ y0 y1 y2 y3 y4, LeO (spec_doOutside.l0 k y0 y1 y2 y3 y4) (spec_doOutside.l0 (k + 1) y0 y1 y2 y3 y4))
 | 0 => fun _ _ _ _ _ r h => by simp [spec_doOutside.l0] at h
 | k + 1 => by
  have ih0 := spec_doOutside.mono_l k
  ·intro y0 y1 y2 y3 y4
   unfold spec_doOutside.l0
   repeat' first
   | (with_reducible exact ih0 _ _ _ _ _)
   | (with_reducible exact spec_doBorder.mono _ _ _)
   | (with_reducible exact spec_l1Same.mono _ _ _)
   | (with_reducible exact spec_meLabels.mono _ _ _)
   | (with_reducible exact LeO.refl _)
   | (with_reducible exact LeO.none _)
   | (with_reducible refine LeO.ite ?_ ?_)
   | (with_reducible refine LeO.bind ?_ (fun _ => ?_))
   | exact ih0 _ _ _ _ _
   | exact spec_doBorder.mono _ _ _
   | exact spec_l1Same.mono _ _ _
   | exact spec_meLabels.mono _ _ _
   | exact LeO.none _
   | refine LeO.ite ?_ ?_
   | refine LeO.bind ?_ (fun _ => ?_)
theorem spec_doOutside.mono : ∀ a0 a1 a2 a3 k, LeO (spec_doOutside.f k a0 a1 a2 a3) (spec_doOutside.f (k + 1) a0 a1 a2 a3) := by
 intro a0 a1 a2 a3 k
 have ih0 := spec_doOutside.mono_l k
 unfold spec_doOutside.f
 repeat' first
   | (with_reducible exact ih0 _ _ _ _ _)
   | (with_reducible exact spec_doBorder.mono _ _ _)
   | (with_reducible exact spec_l1Same.mono _ _ _)
   | (with_reducible exact spec_meLabels.mono _ _ _)
   | (with_reducible exact LeO.refl _)
   | (with_reducible exact LeO.none _)
   | (with_reducible refine LeO.ite ?_ ?_)
   | (with_reducible refine LeO.bind ?_ (fun _ => ?_))
   | exact ih0 _ _ _ _ _
   | exact spec_doBorder.mono _ _ _
   | exact spec_l1Same.mono _ _ _
   | exact spec_meLabels.mono _ _ _
   | exact LeO.none _
   | refine LeO.ite ?_ ?_
   | refine LeO.bind ?_ (fun _ => ?_)
def spec_doOutside.T6 : Bool × List (List Nat × List Nat) := (true, [([], []), ([0], [0]), ([1], [1]), ([], []), ([3], [3]), ([4], [4]), ([2, 5], [2, 5]), ([], []), ([], []), ([7, 8, 6], [7, 8]), ([6, 9, 9], [6, 9])])
def spec_doOutside.B6 : List Nat := [0, 1, 3, 0, 8, 24, 63, 0, 0, 511, 1023]
theorem spec_doOutside.tab6 : rtab .any (opsOf Try.f27 6) = spec_doOutside.T6 := by kernel_rfl
theorem spec_doOutside.bits6 : waitsOk spec_doOutside.T6.2 spec_doOutside.B6 = true := by kernel_rfl
set_option maxHeartbeats 8000000 in
set_option maxRecDepth 100000 in
theorem spec_doOutside.calls (k : Nat) (a0 : Int) (A1 : Option Addr) (c1 : Nat) (l1 : List Int) (a2 : Int) (a3 : Int) (r : Bool) (w : World) (hr1 : Kd.C (Kd.int .i64) w A1 l1.length l1) (hc1 : l1.length ≤ c1) (h : spec_doOutside.f k a0 l1 a2 a3 = some r) :
  Calls Try.prog 27 #[.int .i64 a0, .slice A1 l1.length c1, .int .i64 a2, .int .i64 a3] w fun e w' => e = .returned (.bool r) ∧ Below w.heap.size w w' := by
 have HR1 := Aside0.mk hr1; have HC1 := Aside0.mk hc1; clear hr1 hc1; have HB := Aside0.mk (Below.refl w.heap.size w); have H : ((spec_meLabels.f k a0 l1).bind fun t241 => (if t241 = true then ((spec_doBorder.f k a0 l1).bind fun t242 => (spec_doOutside.l0 k a2 a3 t242 (t242.length : Int) 0)) else (some false))) = some r := h; clear h; replace H := Option.bind_eq_some_iff.mp H; obtain ⟨t241, A50, H⟩ := H; replace H : (if t241 = true then ((spec_doBorder.f k a0 l1).bind fun t242 => (spec_doOutside.l0 k a2 a3 t242 (t242.length : Int) 0)) else (some false)) = some r := H; have A5 := Aside0.mk A50; clear A50
 by_cases c6 : t241 = true
 ·subst c6
  have H1 : ((spec_doBorder.f k a0 l1).bind fun t242 => (spec_doOutside.l0 k a2 a3 t242 (t242.length : Int) 0)) = some r := by rw [if_pos rfl] at H; exact H
  clear H; have H := H1; clear H1; replace H := Option.bind_eq_some_iff.mp H; obtain ⟨t242, A70, H⟩ := H; replace H : (spec_doOutside.l0 k a2 a3 t242 (t242.length : Int) 0) = some r := H; have A7 := Aside0.mk A70; clear A70; have H' := Aside0.mk H; clear H
  go_enter Try.func27, Try.ntmps27
  go_wp2_with (first | ((with_reducible refine gate_callee (f := 19) rfl ?_); refine goesL_ (some 13) rfl rfl Try.func19 (by kernel_rfl) rfl #[.int .i64 a0, .slice A1 l1.length c1] rfl TA ?_; (with_reducible refine (spec_meLabels.calls k a0 _ _ l1 true _ ?side1 ?side2 A5.out).mono ?_); (case side1 => repeat (first | exact HR1.out | (with_reducible refine Kd.C_alloc ?_ _) | (with_reducible refine Kd.C_drewN ?_ _) | (with_reducible refine Kd.C_drew ?_))); (case side2 => exact HC1.out); rintro e w' ⟨rfl, ⟨nd, rfl⟩⟩; refine ⟨_, rfl, ?_⟩) | ((with_reducible refine gate_callee (f := 21) rfl ?_); refine goesL_ (some 17) rfl rfl Try.func21 (by kernel_rfl) rfl #[.int .i64 a0, .slice A1 l1.length c1] rfl TA ?_; (with_reducible refine (spec_doBorder.calls k a0 _ _ l1 t242 _ ?side1 ?side2 A7.out).mono ?_); (case side1 => repeat (first | exact HR1.out | (with_reducible refine Kd.C_alloc ?_ _) | (with_reducible refine Kd.C_drewN ?_ _) | (with_reducible refine Kd.C_drew ?_))); (case side2 => exact HC1.out); rintro e w8 ⟨v243, rfl, ho0, hb⟩; refine ⟨_, rfl, ?_⟩; have n0_ := Aside0.mk (Kd.S_lower ho0 (below_size BB)); have n1_ := Aside0.mk (below_step BB hb); clear HB; have HO244 := n0_; have HB := n1_; clear n0_ n1_; (try clear hb); (try clear hb2); (try clear hk); (try clear hi); (try clear ho0); obtain ⟨Ao9, co9, eo9⟩ := Kd.S_slice HO244.out; subst eo9))
  go_loopg [19] k (fun kq v19 w' => ∃ (x19_1 : Int), v19 = .int .i64 x19_1 ∧ Aside0 (spec_doOutside.l0 kq a2 a3 t242 (t242.length : Int) x19_1 = some r) ∧ Aside0 (kq ≤ k) ∧ Aside0 (Kd.S (Kd.slice 3 (Kd.int .i64)) 22 w' w.heap.size (fun _ => True) (.slice Ao9 t242.length co9) t242) ∧ Aside0 (Below w.heap.size w w'))
  case atStart => exact ⟨(0), RF, H', ⟨Nat.le_refl _⟩, ⟨KS HO244⟩, ⟨BB⟩⟩
  case round =>
   clear H'
   try clear c1
   try clear c2
   try clear p2
   try clear c6
   try clear p6
   obtain ⟨x19_1, rfl, HA, HK1, HO_17, HB⟩ := hrel; cases gk with
   | zero => exact absurd HA.out (by simp [spec_doOutside.l0])
   | succ k1 =>
    have H := HA.out; clear HA
    simp only [spec_doOutside.l0] at H
    by_cases c10 : x19_1 < (t242.length : Int)
    ·rw [if_pos c10] at H
     have c10b0 : decide (x19_1 < (t242.length : Int)) = true := decide_eq_true c10; clear c10
     by_cases c11 : 0 ≤ x19_1
     ·rw [if_pos c11] at H
      have c11b0 : decide (0 ≤ x19_1) = true := decide_eq_true c11; clear c11
      by_cases c12 : x19_1 < (t242.length : Int)
      ·rw [if_pos c12] at H
       have c12b0 : decide (x19_1 < (t242.length : Int)) = true := decide_eq_true c12; clear c12
       by_cases c13 : 0 < ((rd_L1 t242 x19_1).length : Int)
       ·rw [if_pos c13] at H
        have c13b0 : decide (0 < ((rd_L1 t242 x19_1).length : Int)) = true := decide_eq_true c13; have c13b1 : decide (0 < (rd_L1 t242 x19_1).length) = true := decide_eq_true (by omega); clear c13
        by_cases c14 : 1 < ((rd_L1 t242 x19_1).length : Int)
        ·rw [if_pos c14] at H
         have c14b0 : decide (1 < ((rd_L1 t242 x19_1).length : Int)) = true := decide_eq_true c14; have c14b1 : decide (1 < (rd_L1 t242 x19_1).length) = true := decide_eq_true (by omega); clear c14; replace H := Option.bind_eq_some_iff.mp H; obtain ⟨t248, A150, H⟩ := H; replace H : ((spec_doInner.f a2 a3).bind fun t251 => ((spec_l1Same.f k1 t248 t251).bind fun t254 => (if t254 = true then (some true) else (spec_doOutside.l0 k1 a2 a3 t242 (t242.length : Int) (wrap64 (x19_1 + 1)))))) = some r := H; have A15 := Aside0.mk A150; clear A150; replace H := Option.bind_eq_some_iff.mp H; obtain ⟨t251, A160, H⟩ := H; replace H : ((spec_l1Same.f k1 t248 t251).bind fun t254 => (if t254 = true then (some true) else (spec_doOutside.l0 k1 a2 a3 t242 (t242.length : Int) (wrap64 (x19_1 + 1))))) = some r := H; have A16 := Aside0.mk A160; clear A160; replace H := Option.bind_eq_some_iff.mp H; obtain ⟨t254, A170, H⟩ := H; replace H : (if t254 = true then (some true) else (spec_doOutside.l0 k1 a2 a3 t242 (t242.length : Int) (wrap64 (x19_1 + 1)))) = some r := H; have A17 := Aside0.mk A170; clear A170
         by_cases c18 : t254 = true
         ·subst c18
          have H1 : (some true) = some r := by rw [if_pos rfl] at H; exact H
          clear H; have H := H1; clear H1; obtain rfl := Option.some.inj H; have p245 : 0 ≤ (x19_1 : Int) := of_decide_eq_true AS; have q245 : x19_1 < (t242.length : Int) := of_decide_eq_true AS; obtain ⟨ad245, A245_0, c245_0, e245, hx245_0, hl245_0, hi245_0⟩ := at_L1 (Kd.S_reads' HO_17.out).2.2 x19_1 p245 q245; cases e245; obtain ⟨ce245, hce245, hMe245, hcc245⟩ := Kd.S_get HO_17.out [] x19_1 p245 (by first | exact q245 | exact of_decide_eq_true AS | (have e_ := (Kd.S_reads' HO_17.out).1; omega)); obtain ⟨ve245_0, rfl, ge245_0⟩ := hMe245; have hv245_0 := hcc245 0 _ rfl; rw [Nat.add_zero, show ((Kd.slice 3 (Kd.int .i64))).sz = 1 from rfl, Nat.mul_one] at hv245_0; replace hv245_0 := Option.some.inj (hv245_0.symm.trans hx245_0); rw [hv245_0] at ge245_0; have HL245_0 := Aside0.mk (show Kd.R (Kd.int .i64) 3 _ _ _ _ (rd_L1 t242 x19_1) from ge245_0); clear hv245_0 ge245_0; clear hcc245 hce245; have HR245_0 := Aside0.mk hi245_0; have HC245_0 := Aside0.mk hl245_0; clear hi245_0 hl245_0; replace p245 := eq_true p245; replace q245 := eq_true q245
          try go_wp2
          have n0_ := Aside0.mk (Kd.S_drew HO_17.out); have n1_ := Aside0.mk (Kd.R_drew HL245_0.out); have n2_ := Aside0.mk (Kd.C_drew HR245_0.out); have n3_ := Aside0.mk (below_drew1 HB.out); clear HO_17; clear HL245_0; clear HR245_0; clear HB; have HO_17 := n0_; have HL245_0 := n1_; have HR245_0 := n2_; have HB := n3_; clear n0_ n1_ n2_ n3_; have p246 : 0 ≤ (0 : Int) := (by omega); have q246 : 0 < ((rd_L1 t242 x19_1).length : Int) := of_decide_eq_true AS; obtain ⟨ad246, e246, hx246_0⟩ := Kd.at_int (by repeat (first | (with_reducible exact HR245_0.out) | (with_reducible refine Kd.C_alloc ?_ _) | (with_reducible refine Kd.C_drewN ?_ _) | (with_reducible refine Kd.C_drew ?_) | exact HR245_0.out)) 0 p246 q246; cases e246; have qi246 : (0 < (rd_L1 t242 x19_1).length) = True := eq_true (by omega)
          (try rw [show ((0 : Int)).toNat = 0 from rfl] at hx246_0)
          (try rw [Addr.add_zero'] at hx246_0)
          replace p246 := eq_true p246; replace q246 := eq_true q246; have p247 : 0 ≤ (1 : Int) := (by omega); have q247 : 1 < ((rd_L1 t242 x19_1).length : Int) := of_decide_eq_true AS; obtain ⟨ad247, e247, hx247_0⟩ := Kd.at_int (by repeat (first | (with_reducible exact HR245_0.out) | (with_reducible refine Kd.C_alloc ?_ _) | (with_reducible refine Kd.C_drewN ?_ _) | (with_reducible refine Kd.C_drew ?_) | exact HR245_0.out)) 1 p247 q247; obtain rfl : ad246 = ad247 := (by injection e247)
          (try simp only [show (1 : Int).toNat = 1 from rfl, Nat.reduceMul, Nat.reduceEqDiff, Go.Addr.add, ↓reduceIte] at hx247_0)
          have qi247 : (1 < (rd_L1 t242 x19_1).length) = True := eq_true (by omega)
          (try rw [show ((1 : Int)).toNat = 1 from rfl] at hx247_0)
          replace p247 := eq_true p247; replace q247 := eq_true q247
          refine start_ (n := 11) (S := fun w' => w'.cell? ad246 = some (.int .i64 (rd (rd_L1 t242 x19_1) 0)) ∧ w'.cell? ⟨ad246.block, ad246.off + 1, none⟩ = some (.int .i64 (rd (rd_L1 t242 x19_1) 1))) (ds := []) #[false, false, false, false, false, false, false, false, false, false, false] (by kernel_rfl) rfl rfl ⟨hx246_0, hx247_0⟩ (fun hHeld => ?_); refine with_tabW spec_doOutside.tab6 spec_doOutside.bits6 (fun HT_ HW_ => ?_)
          generalize wr.drew = w19 at HO_17 HL245_0 HR245_0 HB hx246_0 hx247_0 hHeld ⊢
          refine pure_ (i := 0) (N := some 23) (v := ?_) (a' := ?_) #[true, false, false, false, false, false, false, false, false, false, false] rfl rfl (any_of HT_.out (by kernel_rfl)) (fun _ _ _ h => h) (Or.inl ⟨by rfl, ?_⟩) ?_ ?_
          rotate_left
          ·intro w'; go_simp; with_reducible rfl
          rotate_left
          ·simp only [Act.put, List.setIfInBounds_toArray, List.set_cons_zero, List.set_cons_succ, i64_w, i32_w]; rfl
          refine pure_ (i := 1) (N := some 24) (v := ?_) (a' := ?_) #[true, true, false, false, false, false, false, false, false, false, false] rfl rfl (any_of HT_.out (by kernel_rfl)) (fun _ _ _ h => h) (Or.inl ⟨by rfl, ?_⟩) ?_ ?_
          rotate_left
          ·intro w'; go_simp; with_reducible rfl
          rotate_left
          ·simp only [Act.put, List.setIfInBounds_toArray, List.set_cons_zero, List.set_cons_succ, i64_w, i32_w]; rfl
          refine pure_ (i := 3) (N := some 26) (v := ?_) (a' := ?_) #[true, true, false, true, false, false, false, false, false, false, false] rfl rfl (any_of HT_.out (by kernel_rfl)) (fun _ _ _ h => h) (Or.inl ⟨by rfl, ?_⟩) ?_ ?_
          rotate_left
          ·intro w'; go_simp; with_reducible rfl
          rotate_left
          ·simp only [Act.put, List.setIfInBounds_toArray, List.set_cons_zero, List.set_cons_succ, i64_w, i32_w]; rfl
          refine pure_ (i := 4) (N := some 27) (v := ?_) (a' := ?_) #[true, true, false, true, true, false, false, false, false, false, false] rfl rfl (any_of HT_.out (by kernel_rfl)) (fun _ _ _ h => h) (Or.inl ⟨by rfl, ?_⟩) ?_ ?_
          rotate_left
          ·intro w'; go_simp; with_reducible rfl
          rotate_left
          ·simp only [Act.put, List.setIfInBounds_toArray, List.set_cons_zero, List.set_cons_succ, i64_w, i32_w]; rfl
          refine pure_ (i := 7) (N := some 30) (v := ?_) (a' := ?_) #[true, true, false, true, true, false, false, true, false, false, false] rfl rfl (any_of HT_.out (by kernel_rfl)) (fun _ _ _ h => h) (Or.inl ⟨by rfl, ?_⟩) ?_ ?_
          rotate_left
          ·intro w'; go_simp; with_reducible rfl
          rotate_left
          ·simp only [Act.put, List.setIfInBounds_toArray, List.set_cons_zero, List.set_cons_succ, i64_w, i32_w]; rfl
          refine pure_ (i := 8) (N := some 31) (v := ?_) (a' := ?_) #[true, true, false, true, true, false, false, true, true, false, false] rfl rfl (any_of HT_.out (by kernel_rfl)) (fun _ _ _ h => h) (Or.inl ⟨by rfl, ?_⟩) ?_ ?_
          rotate_left
          ·intro w'; go_simp; with_reducible rfl
          rotate_left
          ·simp only [Act.put, List.setIfInBounds_toArray, List.set_cons_zero, List.set_cons_succ, i64_w, i32_w]; rfl
          refine take_ (i := 2) (N := some 25) (v := ?_) (a' := ?_) #[true, true, true, true, true, false, false, true, true, false, false] rfl rfl (take_ofW HT_.out HW_.out (by kernel_rfl)) (fun _ _ _ h => h) (Or.inl ⟨by rfl, ?_⟩) hHeld ?_ ?_
          rotate_left
          ·rintro w' ⟨s0, s1⟩; go_simp; with_reducible rfl
          rotate_left
          ·simp only [Act.put, List.setIfInBounds_toArray, List.set_cons_zero, List.set_cons_succ, i64_w, i32_w]; rfl
          refine take_ (i := 5) (N := some 28) (v := ?_) (a' := ?_) #[true, true, true, true, true, true, false, true, true, false, false] rfl rfl (take_ofW HT_.out HW_.out (by kernel_rfl)) (fun _ _ _ h => h) (Or.inl ⟨by rfl, ?_⟩) hHeld ?_ ?_
          rotate_left
          ·rintro w' ⟨s0, s1⟩; go_simp; with_reducible rfl
          rotate_left
          ·simp only [Act.put, List.setIfInBounds_toArray, List.set_cons_zero, List.set_cons_succ, i64_w, i32_w]; rfl
          refine one_ (i := 6) (N := some 29) #[true, true, true, true, true, true, true, true, true, false, false] rfl rfl (one_of HT_.out (by kernel_rfl)) (by decide) (fun K hK => ?_)
          refine goes_ Try.func30 (by kernel_rfl) rfl #[.int .i64 (rd (rd_L1 t242 x19_1) 0), .int .i64 (rd (rd_L1 t242 x19_1) 1)] (by rfl) rfl rfl TA ?_
          with_reducible refine (spec_doInner.calls (rd (rd_L1 t242 x19_1) 0) (rd (rd_L1 t242 x19_1) 1) t248 _ A15.out).mono ?_
          rintro e w20 ⟨v249, rfl, ho0, hb⟩
          have HS0_ := (hb.cell (World.block_lt_of_cell? _ _ (hHeld.1))).trans (hHeld.1); have HS1_ := (hb.cell (World.block_lt_of_cell? _ _ (hHeld.2))).trans (hHeld.2)
          refine ⟨_, rfl, ?_⟩
          have n0_ := Aside0.mk (Kd.S_elder' (KS HO_17) (Kd.R_base ho0) hb); have n1_ := Aside0.mk (Kd.R_elder' (KR HL245_0) (Kd.R_base ho0) hb); have n2_ := Aside0.mk (Kd.R_lower (Kd.R_new' ho0 (Kd.R_lt (KR HL245_0))) (below_size BB)); have n3_ := Aside0.mk (Kd.C_below (by repeat (first | (with_reducible exact HR245_0.out) | (with_reducible refine Kd.C_alloc ?_ _) | (with_reducible refine Kd.C_drewN ?_ _) | (with_reducible refine Kd.C_drew ?_) | exact HR245_0.out)) hb); have n4_ := Aside0.mk (below_step BB hb); clear HO_17; clear HL245_0; clear HR245_0; clear HB; have HO_17 := n0_; have HL245_0 := n1_; have HO250 := n2_; have HR245_0 := n3_; have HB := n4_; clear n0_ n1_ n2_ n3_ n4_
          (try clear hb)
          (try clear hb2)
          (try clear hk)
          (try clear hi)
          (try clear ho0)
          refine hK.out _ _ ⟨HS0_, HS1_⟩ (fun hHeld => ?_)
          clear hK K
          refine norm_ (a' := ?_) ?_ ?_
          rotate_left
          ·show Act.put _ (some 29) _ = _
           simp only [Act.put, List.setIfInBounds_toArray, List.set_cons_zero, List.set_cons_succ, i64_w, i32_w]
           rfl
          refine one_ (i := 9) (N := some 32) #[true, true, true, true, true, true, true, true, true, true, false] rfl rfl (one_of HT_.out (by kernel_rfl)) (by decide) (fun K hK => ?_)
          refine goes_ Try.func30 (by kernel_rfl) rfl #[.int .i64 a2, .int .i64 a3] (by rfl) rfl rfl TA ?_
          with_reducible refine (spec_doInner.calls a2 a3 t251 _ A16.out).mono ?_
          rintro e w21 ⟨v252, rfl, ho0, hb⟩
          have HS0_ := (hb.cell (World.block_lt_of_cell? _ _ (hHeld.1))).trans (hHeld.1); have HS1_ := (hb.cell (World.block_lt_of_cell? _ _ (hHeld.2))).trans (hHeld.2)
          refine ⟨_, rfl, ?_⟩
          have n0_ := Aside0.mk (Kd.S_elder' (KS HO_17) (Kd.R_base ho0) hb); have n1_ := Aside0.mk (Kd.R_elder' (KR HL245_0) (Kd.R_base ho0) hb); have n2_ := Aside0.mk (Kd.R_elder' (KR HO250) (Kd.R_base ho0) hb); have n3_ := Aside0.mk (Kd.R_lower (Kd.R_new' (Kd.R_new' ho0 (Kd.R_lt (KR HL245_0))) (Kd.R_lt (KR HO250))) (below_size BB)); have n4_ := Aside0.mk (Kd.C_below (by repeat (first | (with_reducible exact HR245_0.out) | (with_reducible refine Kd.C_alloc ?_ _) | (with_reducible refine Kd.C_drewN ?_ _) | (with_reducible refine Kd.C_drew ?_) | exact HR245_0.out)) hb); have n5_ := Aside0.mk (below_step BB hb); clear HO_17; clear HL245_0; clear HO250; clear HR245_0; clear HB; have HO_17 := n0_; have HL245_0 := n1_; have HO250 := n2_; have HO253 := n3_; have HR245_0 := n4_; have HB := n5_; clear n0_ n1_ n2_ n3_ n4_ n5_
          (try clear hb)
          (try clear hb2)
          (try clear hk)
          (try clear hi)
          (try clear ho0)
          obtain ⟨Ao22, co22, eo22⟩ := Kd.R_slice HO250.out
          (first | subst eo22 | (injection eo22 with f1_ f2_ f3_; have f4_ := f1_.symm; have f5_ := f3_.symm; clear f1_ f2_ f3_; subst f4_; subst f5_))
          obtain ⟨Ao23, co23, eo23⟩ := Kd.R_slice HO253.out
          (first | subst eo23 | (injection eo23 with f1_ f2_ f3_; have f4_ := f1_.symm; have f5_ := f3_.symm; clear f1_ f2_ f3_; subst f4_; subst f5_))
          refine hK.out _ _ ⟨HS0_, HS1_⟩ (fun hHeld => ?_)
          clear hK K
          refine norm_ (a' := ?_) ?_ ?_
          rotate_left
          ·show Act.put _ (some 32) _ = _
           simp only [Act.put, List.setIfInBounds_toArray, List.set_cons_zero, List.set_cons_succ, i64_w, i32_w]
           rfl
          refine one_ (i := 10) (N := some 33) #[true, true, true, true, true, true, true, true, true, true, true] rfl rfl (one_of HT_.out (by kernel_rfl)) (by decide) (fun K hK => ?_)
          refine goes_ Try.func29 (by kernel_rfl) rfl #[.slice Ao22 t248.length co22, .slice Ao23 t251.length co23] (by rfl) rfl rfl TA ?_
          with_reducible refine (spec_l1Same.calls k1 _ _ t248 _ _ t251 true _ ?side1 ?side2 ?side3 ?side4 A17.out).mono ?_
          (case side1 => repeat (first | exact (Kd.R_reads' HO250.out).2.2 | (with_reducible refine Kd.C_alloc ?_ _) | (with_reducible refine Kd.C_drewN ?_ _) | (with_reducible refine Kd.C_drew ?_)))
          (case side2 => exact (Kd.R_reads' HO250.out).2.1)
          (case side3 => repeat (first | exact (Kd.R_reads' HO253.out).2.2 | (with_reducible refine Kd.C_alloc ?_ _) | (with_reducible refine Kd.C_drewN ?_ _) | (with_reducible refine Kd.C_drew ?_)))
          (case side4 => exact (Kd.R_reads' HO253.out).2.1)
          rintro e w' ⟨rfl, ⟨nd, rfl⟩⟩
          refine ⟨_, rfl, ?_⟩
          refine hK.out _ _ ⟨hHeld.1, hHeld.2⟩ (fun hHeld => ?_)
          clear hK K
          refine norm_ (a' := ?_) ?_ ?_
          rotate_left
          ·show Act.put _ (some 33) _ = _
           simp only [Act.put, List.setIfInBounds_toArray, List.set_cons_zero, List.set_cons_succ, i64_w, i32_w]
           rfl
          refine done_ (done_of HT_.out (by kernel_rfl)) ?_
          try go_wp2
          go_ret
          exact ⟨by first | rfl | (simp [errW_none, errW_some] <;> rfl) | (simp [*, errW_none, errW_some] <;> rfl), BB⟩
         ·replace c18 := Bool.eq_false_iff.mpr c18
          subst c18; have H1 : (spec_doOutside.l0 k1 a2 a3 t242 (t242.length : Int) (wrap64 (x19_1 + 1))) = some r := by rw [if_neg (show ¬ (false = true) by decide)] at H; exact H
          clear H; have H := H1; clear H1; have H' := Aside0.mk H; clear H; have p245 : 0 ≤ (x19_1 : Int) := of_decide_eq_true AS; have q245 : x19_1 < (t242.length : Int) := of_decide_eq_true AS; obtain ⟨ad245, A245_0, c245_0, e245, hx245_0, hl245_0, hi245_0⟩ := at_L1 (Kd.S_reads' HO_17.out).2.2 x19_1 p245 q245; cases e245; obtain ⟨ce245, hce245, hMe245, hcc245⟩ := Kd.S_get HO_17.out [] x19_1 p245 (by first | exact q245 | exact of_decide_eq_true AS | (have e_ := (Kd.S_reads' HO_17.out).1; omega)); obtain ⟨ve245_0, rfl, ge245_0⟩ := hMe245; have hv245_0 := hcc245 0 _ rfl; rw [Nat.add_zero, show ((Kd.slice 3 (Kd.int .i64))).sz = 1 from rfl, Nat.mul_one] at hv245_0; replace hv245_0 := Option.some.inj (hv245_0.symm.trans hx245_0); rw [hv245_0] at ge245_0; have HL245_0 := Aside0.mk (show Kd.R (Kd.int .i64) 3 _ _ _ _ (rd_L1 t242 x19_1) from ge245_0); clear hv245_0 ge245_0; clear hcc245 hce245; have HR245_0 := Aside0.mk hi245_0; have HC245_0 := Aside0.mk hl245_0; clear hi245_0 hl245_0; replace p245 := eq_true p245; replace q245 := eq_true q245
          try go_wp2
          have n0_ := Aside0.mk (Kd.S_drew HO_17.out); have n1_ := Aside0.mk (Kd.R_drew HL245_0.out); have n2_ := Aside0.mk (Kd.C_drew HR245_0.out); have n3_ := Aside0.mk (below_drew1 HB.out); clear HO_17; clear HL245_0; clear HR245_0; clear HB; have HO_17 := n0_; have HL245_0 := n1_; have HR245_0 := n2_; have HB := n3_; clear n0_ n1_ n2_ n3_; have p246 : 0 ≤ (0 : Int) := (by omega); have q246 : 0 < ((rd_L1 t242 x19_1).length : Int) := of_decide_eq_true AS; obtain ⟨ad246, e246, hx246_0⟩ := Kd.at_int (by repeat (first | (with_reducible exact HR245_0.out) | (with_reducible refine Kd.C_alloc ?_ _) | (with_reducible refine Kd.C_drewN ?_ _) | (with_reducible refine Kd.C_drew ?_) | exact HR245_0.out)) 0 p246 q246; cases e246; have qi246 : (0 < (rd_L1 t242 x19_1).length) = True := eq_true (by omega)
          (try rw [show ((0 : Int)).toNat = 0 from rfl] at hx246_0)
          (try rw [Addr.add_zero'] at hx246_0)
          replace p246 := eq_true p246; replace q246 := eq_true q246; have p247 : 0 ≤ (1 : Int) := (by omega); have q247 : 1 < ((rd_L1 t242 x19_1).length : Int) := of_decide_eq_true AS; obtain ⟨ad247, e247, hx247_0⟩ := Kd.at_int (by repeat (first | (with_reducible exact HR245_0.out) | (with_reducible refine Kd.C_alloc ?_ _) | (with_reducible refine Kd.C_drewN ?_ _) | (with_reducible refine Kd.C_drew ?_) | exact HR245_0.out)) 1 p247 q247; obtain rfl : ad246 = ad247 := (by injection e247)
          (try simp only [show (1 : Int).toNat = 1 from rfl, Nat.reduceMul, Nat.reduceEqDiff, Go.Addr.add, ↓reduceIte] at hx247_0)
          have qi247 : (1 < (rd_L1 t242 x19_1).length) = True := eq_true (by omega)
          (try rw [show ((1 : Int)).toNat = 1 from rfl] at hx247_0)
          replace p247 := eq_true p247; replace q247 := eq_true q247
          refine start_ (n := 11) (S := fun w' => w'.cell? ad246 = some (.int .i64 (rd (rd_L1 t242 x19_1) 0)) ∧ w'.cell? ⟨ad246.block, ad246.off + 1, none⟩ = some (.int .i64 (rd (rd_L1 t242 x19_1) 1))) (ds := []) #[false, false, false, false, false, false, false, false, false, false, false] (by kernel_rfl) rfl rfl ⟨hx246_0, hx247_0⟩ (fun hHeld => ?_); refine with_tabW spec_doOutside.tab6 spec_doOutside.bits6 (fun HT_ HW_ => ?_)
          generalize wr.drew = w24 at HO_17 HL245_0 HR245_0 HB hx246_0 hx247_0 hHeld ⊢
          refine pure_ (i := 0) (N := some 23) (v := ?_) (a' := ?_) #[true, false, false, false, false, false, false, false, false, false, false] rfl rfl (any_of HT_.out (by kernel_rfl)) (fun _ _ _ h => h) (Or.inl ⟨by rfl, ?_⟩) ?_ ?_
          rotate_left
          ·intro w'; go_simp; with_reducible rfl
          rotate_left
          ·simp only [Act.put, List.setIfInBounds_toArray, List.set_cons_zero, List.set_cons_succ, i64_w, i32_w]; rfl
          refine pure_ (i := 1) (N := some 24) (v := ?_) (a' := ?_) #[true, true, false, false, false, false, false, false, false, false, false] rfl rfl (any_of HT_.out (by kernel_rfl)) (fun _ _ _ h => h) (Or.inl ⟨by rfl, ?_⟩) ?_ ?_
          rotate_left
          ·intro w'; go_simp; with_reducible rfl
          rotate_left
          ·simp only [Act.put, List.setIfInBounds_toArray, List.set_cons_zero, List.set_cons_succ, i64_w, i32_w]; rfl
          refine pure_ (i := 3) (N := some 26) (v := ?_) (a' := ?_) #[true, true, false, true, false, false, false, false, false, false, false] rfl rfl (any_of HT_.out (by kernel_rfl)) (fun _ _ _ h => h) (Or.inl ⟨by rfl, ?_⟩) ?_ ?_
          rotate_left
          ·intro w'; go_simp; with_reducible rfl
          rotate_left
          ·simp only [Act.put, List.setIfInBounds_toArray, List.set_cons_zero, List.set_cons_succ, i64_w, i32_w]; rfl
          refine pure_ (i := 4) (N := some 27) (v := ?_) (a' := ?_) #[true, true, false, true, true, false, false, false, false, false, false] rfl rfl (any_of HT_.out (by kernel_rfl)) (fun _ _ _ h => h) (Or.inl ⟨by rfl, ?_⟩) ?_ ?_
          rotate_left
          ·intro w'; go_simp; with_reducible rfl
          rotate_left
          ·simp only [Act.put, List.setIfInBounds_toArray, List.set_cons_zero, List.set_cons_succ, i64_w, i32_w]; rfl
          refine pure_ (i := 7) (N := some 30) (v := ?_) (a' := ?_) #[true, true, false, true, true, false, false, true, false, false, false] rfl rfl (any_of HT_.out (by kernel_rfl)) (fun _ _ _ h => h) (Or.inl ⟨by rfl, ?_⟩) ?_ ?_
          rotate_left
          ·intro w'; go_simp; with_reducible rfl
          rotate_left
          ·simp only [Act.put, List.setIfInBounds_toArray, List.set_cons_zero, List.set_cons_succ, i64_w, i32_w]; rfl
          refine pure_ (i := 8) (N := some 31) (v := ?_) (a' := ?_) #[true, true, false, true, true, false, false, true, true, false, false] rfl rfl (any_of HT_.out (by kernel_rfl)) (fun _ _ _ h => h) (Or.inl ⟨by rfl, ?_⟩) ?_ ?_
          rotate_left
          ·intro w'; go_simp; with_reducible rfl
          rotate_left
          ·simp only [Act.put, List.setIfInBounds_toArray, List.set_cons_zero, List.set_cons_succ, i64_w, i32_w]; rfl
          refine take_ (i := 2) (N := some 25) (v := ?_) (a' := ?_) #[true, true, true, true, true, false, false, true, true, false, false] rfl rfl (take_ofW HT_.out HW_.out (by kernel_rfl)) (fun _ _ _ h => h) (Or.inl ⟨by rfl, ?_⟩) hHeld ?_ ?_
          rotate_left
          ·rintro w' ⟨s0, s1⟩; go_simp; with_reducible rfl
          rotate_left
          ·simp only [Act.put, List.setIfInBounds_toArray, List.set_cons_zero, List.set_cons_succ, i64_w, i32_w]; rfl
          refine take_ (i := 5) (N := some 28) (v := ?_) (a' := ?_) #[true, true, true, true, true, true, false, true, true, false, false] rfl rfl (take_ofW HT_.out HW_.out (by kernel_rfl)) (fun _ _ _ h => h) (Or.inl ⟨by rfl, ?_⟩) hHeld ?_ ?_
          rotate_left
          ·rintro w' ⟨s0, s1⟩; go_simp; with_reducible rfl
          rotate_left
          ·simp only [Act.put, List.setIfInBounds_toArray, List.set_cons_zero, List.set_cons_succ, i64_w, i32_w]; rfl
          refine one_ (i := 6) (N := some 29) #[true, true, true, true, true, true, true, true, true, false, false] rfl rfl (one_of HT_.out (by kernel_rfl)) (by decide) (fun K hK => ?_)
          refine goes_ Try.func30 (by kernel_rfl) rfl #[.int .i64 (rd (rd_L1 t242 x19_1) 0), .int .i64 (rd (rd_L1 t242 x19_1) 1)] (by rfl) rfl rfl TA ?_
          with_reducible refine (spec_doInner.calls (rd (rd_L1 t242 x19_1) 0) (rd (rd_L1 t242 x19_1) 1) t248 _ A15.out).mono ?_
          rintro e w25 ⟨v249, rfl, ho0, hb⟩
          have HS0_ := (hb.cell (World.block_lt_of_cell? _ _ (hHeld.1))).trans (hHeld.1); have HS1_ := (hb.cell (World.block_lt_of_cell? _ _ (hHeld.2))).trans (hHeld.2)
          refine ⟨_, rfl, ?_⟩
          have n0_ := Aside0.mk (Kd.S_elder' (KS HO_17) (Kd.R_base ho0) hb); have n1_ := Aside0.mk (Kd.R_elder' (KR HL245_0) (Kd.R_base ho0) hb); have n2_ := Aside0.mk (Kd.R_lower (Kd.R_new' ho0 (Kd.R_lt (KR HL245_0))) (below_size BB)); have n3_ := Aside0.mk (Kd.C_below (by repeat (first | (with_reducible exact HR245_0.out) | (with_reducible refine Kd.C_alloc ?_ _) | (with_reducible refine Kd.C_drewN ?_ _) | (with_reducible refine Kd.C_drew ?_) | exact HR245_0.out)) hb); have n4_ := Aside0.mk (below_step BB hb); clear HO_17; clear HL245_0; clear HR245_0; clear HB; have HO_17 := n0_; have HL245_0 := n1_; have HO250 := n2_; have HR245_0 := n3_; have HB := n4_; clear n0_ n1_ n2_ n3_ n4_
          (try clear hb)
          (try clear hb2)
          (try clear hk)
          (try clear hi)
          (try clear ho0)
          refine hK.out _ _ ⟨HS0_, HS1_⟩ (fun hHeld => ?_)
          clear hK K
          refine norm_ (a' := ?_) ?_ ?_
          rotate_left
          ·show Act.put _ (some 29) _ = _
           simp only [Act.put, List.setIfInBounds_toArray, List.set_cons_zero, List.set_cons_succ, i64_w, i32_w]
           rfl
          refine one_ (i := 9) (N := some 32) #[true, true, true, true, true, true, true, true, true, true, false] rfl rfl (one_of HT_.out (by kernel_rfl)) (by decide) (fun K hK => ?_)
          refine goes_ Try.func30 (by kernel_rfl) rfl #[.int .i64 a2, .int .i64 a3] (by rfl) rfl rfl TA ?_
          with_reducible refine (spec_doInner.calls a2 a3 t251 _ A16.out).mono ?_
          rintro e w26 ⟨v252, rfl, ho0, hb⟩
          have HS0_ := (hb.cell (World.block_lt_of_cell? _ _ (hHeld.1))).trans (hHeld.1); have HS1_ := (hb.cell (World.block_lt_of_cell? _ _ (hHeld.2))).trans (hHeld.2)
          refine ⟨_, rfl, ?_⟩
          have n0_ := Aside0.mk (Kd.S_elder' (KS HO_17) (Kd.R_base ho0) hb); have n1_ := Aside0.mk (Kd.R_elder' (KR HL245_0) (Kd.R_base ho0) hb); have n2_ := Aside0.mk (Kd.R_elder' (KR HO250) (Kd.R_base ho0) hb); have n3_ := Aside0.mk (Kd.R_lower (Kd.R_new' (Kd.R_new' ho0 (Kd.R_lt (KR HL245_0))) (Kd.R_lt (KR HO250))) (below_size BB)); have n4_ := Aside0.mk (Kd.C_below (by repeat (first | (with_reducible exact HR245_0.out) | (with_reducible refine Kd.C_alloc ?_ _) | (with_reducible refine Kd.C_drewN ?_ _) | (with_reducible refine Kd.C_drew ?_) | exact HR245_0.out)) hb); have n5_ := Aside0.mk (below_step BB hb); clear HO_17; clear HL245_0; clear HO250; clear HR245_0; clear HB; have HO_17 := n0_; have HL245_0 := n1_; have HO250 := n2_; have HO253 := n3_; have HR245_0 := n4_; have HB := n5_; clear n0_ n1_ n2_ n3_ n4_ n5_
          (try clear hb)
          (try clear hb2)
          (try clear hk)
          (try clear hi)
          (try clear ho0)
          obtain ⟨Ao27, co27, eo27⟩ := Kd.R_slice HO250.out
          (first | subst eo27 | (injection eo27 with f1_ f2_ f3_; have f4_ := f1_.symm; have f5_ := f3_.symm; clear f1_ f2_ f3_; subst f4_; subst f5_))
          obtain ⟨Ao28, co28, eo28⟩ := Kd.R_slice HO253.out
          (first | subst eo28 | (injection eo28 with f1_ f2_ f3_; have f4_ := f1_.symm; have f5_ := f3_.symm; clear f1_ f2_ f3_; subst f4_; subst f5_))
          refine hK.out _ _ ⟨HS0_, HS1_⟩ (fun hHeld => ?_)
          clear hK K
          refine norm_ (a' := ?_) ?_ ?_
          rotate_left
          ·show Act.put _ (some 32) _ = _
           simp only [Act.put, List.setIfInBounds_toArray, List.set_cons_zero, List.set_cons_succ, i64_w, i32_w]
           rfl
          refine one_ (i := 10) (N := some 33) #[true, true, true, true, true, true, true, true, true, true, true] rfl rfl (one_of HT_.out (by kernel_rfl)) (by decide) (fun K hK => ?_)
          refine goes_ Try.func29 (by kernel_rfl) rfl #[.slice Ao27 t248.length co27, .slice Ao28 t251.length co28] (by rfl) rfl rfl TA ?_
          with_reducible refine (spec_l1Same.calls k1 _ _ t248 _ _ t251 false _ ?side1 ?side2 ?side3 ?side4 A17.out).mono ?_
          (case side1 => repeat (first | exact (Kd.R_reads' HO250.out).2.2 | (with_reducible refine Kd.C_alloc ?_ _) | (with_reducible refine Kd.C_drewN ?_ _) | (with_reducible refine Kd.C_drew ?_)))
          (case side2 => exact (Kd.R_reads' HO250.out).2.1)
          (case side3 => repeat (first | exact (Kd.R_reads' HO253.out).2.2 | (with_reducible refine Kd.C_alloc ?_ _) | (with_reducible refine Kd.C_drewN ?_ _) | (with_reducible refine Kd.C_drew ?_)))
          (case side4 => exact (Kd.R_reads' HO253.out).2.1)
          rintro e w' ⟨rfl, ⟨nd, rfl⟩⟩
          refine ⟨_, rfl, ?_⟩
          refine hK.out _ _ ⟨hHeld.1, hHeld.2⟩ (fun hHeld => ?_)
          clear hK K
          refine norm_ (a' := ?_) ?_ ?_
          rotate_left
          ·show Act.put _ (some 33) _ = _
           simp only [Act.put, List.setIfInBounds_toArray, List.set_cons_zero, List.set_cons_succ, i64_w, i32_w]
           rfl
          refine done_ (done_of HT_.out (by kernel_rfl)) ?_
          try go_wp2
          go_roundg k1
          case measure => have := HK1.out; omega
          case rel => exact ⟨(wrap64 (x19_1 + 1)), RF, H', ⟨by have := HK1.out; omega⟩, ⟨by (with_reducible repeat (first | apply Kd.S_alloc | apply Kd.S_drewN | apply Kd.S_drew)); exact Kd.S_mono HO_17.out (fun _ hk => trivial)⟩, ⟨BB⟩⟩
        ·rw [if_neg c14] at H
         exact absurd H (by simp)
       ·rw [if_neg c13] at H
        exact absurd H (by simp)
      ·rw [if_neg c12] at H
       exact absurd H (by simp)
     ·rw [if_neg c11] at H
      exact absurd H (by simp)
    ·rw [if_neg c10] at H
     have c10b0 : decide (x19_1 < (t242.length : Int)) = false := decide_eq_false c10; clear c10; obtain rfl := Option.some.inj H
     go_wp2
     go_ret
     exact ⟨by first | rfl | (simp [errW_none, errW_some] <;> rfl) | (simp [*, errW_none, errW_some] <;> rfl), BB⟩
 ·replace c6 := Bool.eq_false_iff.mpr c6
  subst c6; have H1 : (some false) = some r := by rw [if_neg (show ¬ (false = true) by decide)] at H; exact H
  clear H; have H := H1; clear H1; obtain rfl := Option.some.inj H
  go_enter Try.func27, Try.ntmps27
  go_wp2_with (first | ((with_reducible refine gate_callee (f := 19) rfl ?_); refine goesL_ (some 13) rfl rfl Try.func19 (by kernel_rfl) rfl #[.int .i64 a0, .slice A1 l1.length c1] rfl TA ?_; (with_reducible refine (spec_meLabels.calls k a0 _ _ l1 false _ ?side1 ?side2 A5.out).mono ?_); (case side1 => repeat (first | exact HR1.out | (with_reducible refine Kd.C_alloc ?_ _) | (with_reducible refine Kd.C_drewN ?_ _) | (with_reducible refine Kd.C_drew ?_))); (case side2 => exact HC1.out); rintro e w' ⟨rfl, ⟨nd, rfl⟩⟩; refine ⟨_, rfl, ?_⟩))
  go_ret
  exact ⟨by first | rfl | (simp [errW_none, errW_some] <;> rfl) | (simp [*, errW_none, errW_some] <;> rfl), BB⟩

end Go.Proofs.Ytgpplbaloajgdaa.PFnExactExitOf
