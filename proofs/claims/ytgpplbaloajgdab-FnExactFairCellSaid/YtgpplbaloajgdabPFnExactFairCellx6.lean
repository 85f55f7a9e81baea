-- Written by a program of this session (wip/tools/pp.sh) out of the translation; Lean checks it.
import Derived.Test.YtgpplbaloajgdabPFnExactFairCellx0
import Derived.Test.YtgpplbaloajgdabPFnExactFairCellx2
import Derived.Test.YtgpplbaloajgdabPFnExactFairCellx3
import Derived.Test.YtgpplbaloajgdabPFnExactFairCellx4
import Derived.Test.YtgpplbaloajgdabPFnExactFairCellx5
namespace Go.Proofs.Ytgpplbaloajgdab.PFnExactFairCell
open Go.RowKit Go.Proofs.YtgpplbaloajgdabOwn Go.Proofs.YtgpplbaloajgdabW.PrintWords Go.Proofs.YtgpplbaloajgdabW.PrintLast Go.Proofs.YtgpplbaloajgdabW.PrintMore
attribute [local go_sem] max2_int min2_int max_two min_two max_three min_three max_four min_four   -- for this text's walks alone
set_option linter.unusedVariables false
set_option maxHeartbeats 8000000
set_option maxRecDepth 100000
set_option linter.unusedSimpArgs false

/-! ### spec_FindFull: function 39 -/
def spec_FindFull.l0 : Nat → Int → List Int → List (List Int) → List (List Int) → Int → Int → Option (Int × Bool)
 | 0, _, _, _, _, _, _ => none
 | k + 1, x0, x1, x6, x20, x21, x22 => if x22 < x21 then (if 0 ≤ x22 then (if x22 < (x20.length : Int) then (if 0 < ((rd_L1 x20 x22).length : Int) then (if 1 < ((rd_L1 x20 x22).length : Int) then ((spec_doFrom.f k x0 x1 (rd (rd_L1 x20 x22) 0) (rd (rd_L1 x20 x22) 1)).bind fun bt262 => (if 0 ≤ (wrap64 ((bt262.1.length : Int) - 1)) then (if (wrap64 ((bt262.1.length : Int) - 1)) < (bt262.1.length : Int) then (if 0 ≤ (rd bt262.1 (wrap64 ((bt262.1.length : Int) - 1))) then (if (rd bt262.1 (wrap64 ((bt262.1.length : Int) - 1))) < (x6.length : Int) then ((spec_doFull.f k x1 (rd_L1 x6 (rd bt262.1 (wrap64 ((bt262.1.length : Int) - 1))))).bind fun t270 => (if t270 = true then (some (rd bt262.1 (wrap64 ((bt262.1.length : Int) - 1)), true)) else (spec_FindFull.l0 k x0 x1 x6 x20 x21 (wrap64 (x22 + 1))))) else (none)) else (none)) else (none)) else (none))) else (none)) else (none)) else (none)) else (none)) else (some (0, false))
def spec_FindFull.f (k : Nat) (a0 : Int) (l1 : List Int) : Option (Int × Bool) := (spec_meLabels.f k a0 l1).bind fun t252 => (if t252 = true then ((spec_meCells.f k a0).bind fun t253 => ((spec_doBorder.f k a0 l1).bind fun t256 => (spec_FindFull.l0 k a0 l1 t253 t256 (t256.length : Int) 0))) else (some (0, false)))
theorem spec_FindFull.mono_l : ∀ k, (∀ y0 y1 y2 y3 y4 y5, LeO (spec_FindFull.l0 k y0 y1 y2 y3 y4 y5) (spec_FindFull.l0 (k + 1) y0 y1 y2 y3 y4 y5))
 | 0 => fun _ _ _ _ _ _ r h => by simp [spec_FindFull.l0] at h
 | k + 1 => by
  have ih0 := spec_FindFull.mono_l k
  ·intro y0 y1 y2 y3 y4 y5
   unfold spec_FindFull.l0
   repeat' first
   | with_reducible first | exact ih0 _ _ _ _ _ _ | exact spec_doBorder.mono _ _ _ | exact spec_doFrom.mono _ _ _ _ _ | exact spec_doFull.mono _ _ _ | exact spec_meCells.mono _ _ | exact spec_meLabels.mono _ _ _ | exact LeO.refl _ | exact LeO.none _ | refine LeO.ite ?_ ?_ | refine LeO.bind ?_ (fun _ => ?_)
   | exact LeO.none _ | refine LeO.ite ?_ ?_ | refine LeO.bind ?_ (fun _ => ?_)
theorem spec_FindFull.mono : ∀ a0 a1 k, LeO (spec_FindFull.f k a0 a1) (spec_FindFull.f (k + 1) a0 a1) := by
 intro a0 a1 k
 have ih0 := spec_FindFull.mono_l k
 unfold spec_FindFull.f
 repeat' first
   | with_reducible first | exact ih0 _ _ _ _ _ _ | exact spec_doBorder.mono _ _ _ | exact spec_doFrom.mono _ _ _ _ _ | exact spec_doFull.mono _ _ _ | exact spec_meCells.mono _ _ | exact spec_meLabels.mono _ _ _ | exact LeO.refl _ | exact LeO.none _ | refine LeO.ite ?_ ?_ | refine LeO.bind ?_ (fun _ => ?_)
   | exact LeO.none _ | refine LeO.ite ?_ ?_ | refine LeO.bind ?_ (fun _ => ?_)
def spec_FindFull.T7 : Bool × List (List Nat × List Nat) := (true, [([], []), ([], []), ([], []), ([2], [2]), ([3], [3]), ([], []), ([5], [5]), ([6], [6]), ([0, 1, 4, 7], [0, 1, 4, 7]), ([8], [8]), ([9], [9]), ([9], [9]), ([10, 8, 0, 1, 2, 3, 4, 5, 6, 7, 8, 9, 10], [10]), ([11, 12, 0, 1, 2, 3, 4, 5, 6, 7, 8, 9, 10, 11, 12], [11])])
def spec_FindFull.B7 : List Nat := [0, 0, 0, 4, 12, 0, 32, 96, 255, 511, 1023, 1023, 2047, 8191]
theorem spec_FindFull.tab7 : rtab .any (opsOf Try.f39 7) = spec_FindFull.T7 := by kernel_rfl
theorem spec_FindFull.bits7 : waitsOk spec_FindFull.T7.2 spec_FindFull.B7 = true := by kernel_rfl
theorem spec_FindFull.calls (k : Nat) (a0 : Int) (A1 : Option Addr) (c1 : Nat) (l1 : List Int) (r1 : Int) (r2 : Bool) (w : World) (hr1 : Kd.C (Kd.int .i64) w A1 l1.length l1) (hc1 : l1.length ≤ c1) (h : spec_FindFull.f k a0 l1 = some (r1, r2)) :
  Calls Try.prog 39 #[.int .i64 a0, .slice A1 l1.length c1] w fun e w' => e = .returned (.tuple #[.int .i64 r1, .bool r2]) ∧ Below w.heap.size w w' := by
 have HR1 := Aside0.mk hr1
 have HC1 := Aside0.mk hc1
 clear hr1 hc1
 have HB := Aside0.mk (Below.refl w.heap.size w)
 have H : ((spec_meLabels.f k a0 l1).bind fun t252 => (if t252 = true then ((spec_meCells.f k a0).bind fun t253 => ((spec_doBorder.f k a0 l1).bind fun t256 => (spec_FindFull.l0 k a0 l1 t253 t256 (t256.length : Int) 0))) else (some (0, false)))) = some (r1, r2) := h
 clear h
 obtain ⟨t252, A30, H⟩ := Option.bind_eq_some_iff.mp H
 have A3 := Aside0.mk A30
 clear A30
 by_cases c4 : t252 = true
 ·subst c4
  replace H := IP H
  obtain ⟨t253, A50, H⟩ := Option.bind_eq_some_iff.mp H
  have A5 := Aside0.mk A50
  clear A50
  obtain ⟨t256, A60, H⟩ := Option.bind_eq_some_iff.mp H
  have A6 := Aside0.mk A60
  clear A60
  have H' := Aside0.mk H
  clear H
  go_enter Try.func39, Try.ntmps39
  go_wp2_with (first | ((with_reducible refine gate_callee (f := 23) rfl ?_); refine goesL_ (some 14) rfl rfl Try.func23 (by kernel_rfl) rfl #[.int .i64 a0, .slice A1 l1.length c1] rfl TA ?_; (with_reducible refine (spec_meLabels.calls k a0 _ _ l1 true _ ?side1 ?side2 A3.out).mono ?_); (case side1 => exact CW HR1.out); (case side2 => exact HC1.out); rintro e w' ⟨rfl, ⟨nd, rfl⟩⟩; refine ⟨_, rfl, ?_⟩) | ((with_reducible refine gate_callee (f := 24) rfl ?_); refine goesL_ (some 17) rfl rfl Try.func24 (by kernel_rfl) rfl #[.int .i64 a0] rfl TA ?_; (with_reducible refine (spec_meCells.calls k a0 t253 _ A5.out).mono ?_); rintro e w7 ⟨v254, rfl, ho0, hb⟩; refine ⟨_, rfl, ?_⟩; have n0_ := Aside0.mk (Kd.S_lower ho0 (below_size BB)); have n1_ := Aside0.mk (below_step BB hb); clear HB; have HO255 := n0_; have HB := n1_; clear n0_ n1_; (try clear hb); (try clear hb2); (try clear hk); (try clear hi); (try clear ho0)) | ((with_reducible refine gate_callee (f := 25) rfl ?_); refine goesL_ (some 20) rfl rfl Try.func25 (by kernel_rfl) rfl #[.int .i64 a0, .slice A1 l1.length c1] rfl TA ?_; (with_reducible refine (spec_doBorder.calls k a0 _ _ l1 t256 _ ?side1 ?side2 A6.out).mono ?_); (case side1 => exact CW (Kd.C_below HR1.out HB.out)); (case side2 => exact HC1.out); rintro e w8 ⟨v257, rfl, ho0, hb⟩; refine ⟨_, rfl, ?_⟩; have n0_ := Aside0.mk (Kd.S_elder' (KS HO255) (Kd.S_base ho0) hb); have n1_ := Aside0.mk (Kd.S_lower (Kd.S_new' ho0 (Kd.S_lt (KS HO255))) (below_size BB)); have n2_ := Aside0.mk (below_step BB hb); clear HO255; clear HB; have HO255 := n0_; have HO258 := n1_; have HB := n2_; clear n0_ n1_ n2_; (try clear hb); (try clear hb2); (try clear hk); (try clear hi); (try clear ho0); obtain ⟨Ao9, co9, eo9⟩ := Kd.S_slice HO258.out; subst eo9))
  go_loopg [22] k (fun kq v22 w' => ∃ (x22_1 : Int), v22 = .int .i64 x22_1 ∧ Aside0 (spec_FindFull.l0 kq a0 l1 t253 t256 (t256.length : Int) x22_1 = some (r1, r2)) ∧ Aside0 (kq ≤ k) ∧ Aside0 (Kd.S (Kd.slice 3 (Kd.int .i64)) 22 w' w.heap.size (fun k_ => some k_ ≠ ((.slice Ao9 t256.length co9) : Value).ownBlock) v254 t253) ∧ Aside0 (Kd.S (Kd.slice 3 (Kd.int .i64)) 22 w' w.heap.size (fun k_ => some k_ ≠ (v254 : Value).ownBlock) (.slice Ao9 t256.length co9) t256) ∧ Aside0 (Below w.heap.size w w'))
  case atStart => exact ⟨(0), RF, H', ⟨Nat.le_refl _⟩, ⟨by (with_reducible repeat (first | apply Kd.S_alloc | apply Kd.S_drewN | apply Kd.S_drew)); exact Kd.S_mono HO255.out (fun _ hk => hk.2)⟩, ⟨by (with_reducible repeat (first | apply Kd.S_alloc | apply Kd.S_drewN | apply Kd.S_drew)); exact Kd.S_mono HO258.out (fun _ hk => hk.2)⟩, ⟨BB⟩⟩
  case round =>
   clear H'
   try clear c1
   try clear c2
   try clear p2
   try clear c3
   try clear c4
   try clear p6
   obtain ⟨x22_1, rfl, HA, HK1, HO_6, HO_20, HB⟩ := hrel
   cases gk with
   | zero => exact absurd HA.out (by simp [spec_FindFull.l0])
   | succ k1 =>
    have H := HA.out
    clear HA
    simp only [spec_FindFull.l0] at H
    by_cases c10 : x22_1 < (t256.length : Int)
    ·rw [if_pos c10] at H
     have c10b0 : decide (x22_1 < (t256.length : Int)) = true := decide_eq_true c10
     clear c10
     by_cases c11 : 0 ≤ x22_1
     ·rw [if_pos c11] at H
      have c11b0 : decide (0 ≤ x22_1) = true := decide_eq_true c11
      clear c11
      by_cases c12 : x22_1 < (t256.length : Int)
      ·rw [if_pos c12] at H
       have c12b0 : decide (x22_1 < (t256.length : Int)) = true := decide_eq_true c12
       clear c12
       by_cases c13 : 0 < ((rd_L1 t256 x22_1).length : Int)
       ·rw [if_pos c13] at H
        have c13b0 : decide (0 < ((rd_L1 t256 x22_1).length : Int)) = true := decide_eq_true c13
        have c13b1 : decide (0 < (rd_L1 t256 x22_1).length) = true := decide_eq_true (by omega)
        clear c13
        by_cases c14 : 1 < ((rd_L1 t256 x22_1).length : Int)
        ·rw [if_pos c14] at H
         have c14b0 : decide (1 < ((rd_L1 t256 x22_1).length : Int)) = true := decide_eq_true c14
         have c14b1 : decide (1 < (rd_L1 t256 x22_1).length) = true := decide_eq_true (by omega)
         clear c14
         obtain ⟨⟨t262, t265⟩, A150, H⟩ := Option.bind_eq_some_iff.mp H
         replace H : (if 0 ≤ (wrap64 ((t262.length : Int) - 1)) then (if (wrap64 ((t262.length : Int) - 1)) < (t262.length : Int) then (if 0 ≤ (rd t262 (wrap64 ((t262.length : Int) - 1))) then (if (rd t262 (wrap64 ((t262.length : Int) - 1))) < (t253.length : Int) then ((spec_doFull.f k1 l1 (rd_L1 t253 (rd t262 (wrap64 ((t262.length : Int) - 1))))).bind fun t270 => (if t270 = true then (some (rd t262 (wrap64 ((t262.length : Int) - 1)), true)) else (spec_FindFull.l0 k1 a0 l1 t253 t256 (t256.length : Int) (wrap64 (x22_1 + 1))))) else (none)) else (none)) else (none)) else (none)) = some (r1, r2) := H
         have A15 := Aside0.mk A150
         clear A150
         obtain ⟨ji16, hji16⟩ : ∃ j_ : Int, (wrap64 ((t262.length : Int) - 1)) = j_ := ⟨_, rfl⟩
         replace H : (if 0 ≤ (ji16) then (if (ji16) < (t262.length : Int) then (if 0 ≤ (rd t262 (ji16)) then (if (rd t262 (ji16)) < (t253.length : Int) then ((spec_doFull.f k1 l1 (rd_L1 t253 (rd t262 (ji16)))).bind fun t270 => (if t270 = true then (some (rd t262 (ji16), true)) else (spec_FindFull.l0 k1 a0 l1 t253 t256 (t256.length : Int) (wrap64 (x22_1 + 1))))) else (none)) else (none)) else (none)) else (none)) = some (r1, r2) := by first | (rw [hji16] at H; exact H) | (simp only [hji16] at H ⊢; exact H)
         (try rw [hji16] at A15)
         have hji16w : (IntKind.i64.wrap ((t262.length : Int) - 1)) = ji16 := (i64_w _).trans hji16
         by_cases c17 : 0 ≤ (ji16)
         ·rw [if_pos c17] at H
          have c17b0 : decide (0 ≤ (ji16)) = true := decide_eq_true c17
          clear c17
          by_cases c18 : (ji16) < (t262.length : Int)
          ·rw [if_pos c18] at H
           have c18b0 : decide ((ji16) < (t262.length : Int)) = true := decide_eq_true c18
           clear c18
           by_cases c19 : 0 ≤ (rd t262 (ji16))
           ·rw [if_pos c19] at H
            have c19b0 : decide (0 ≤ (rd t262 (ji16))) = true := decide_eq_true c19
            clear c19
            by_cases c20 : (rd t262 (ji16)) < (t253.length : Int)
            ·rw [if_pos c20] at H
             have c20b0 : decide ((rd t262 (ji16)) < (t253.length : Int)) = true := decide_eq_true c20
             clear c20
             obtain ⟨t270, A210, H⟩ := Option.bind_eq_some_iff.mp H
             have A21 := Aside0.mk A210
             clear A210
             by_cases c22 : t270 = true
             ·subst c22
              replace H := IP H
              simp only [Option.some.injEq, Prod.mk.injEq] at H
              obtain ⟨rfl, rfl⟩ := H
              have p259 : 0 ≤ (x22_1 : Int) := of_decide_eq_true AS
              have q259 : x22_1 < (t256.length : Int) := of_decide_eq_true AS
              obtain ⟨ad259, A259_0, c259_0, e259, hx259_0, hl259_0, hi259_0⟩ := at_L1 (Kd.S_reads' HO_20.out).2.2 x22_1 p259 q259
              cases e259
              obtain ⟨ce259, hce259, hMe259, hcc259⟩ := Kd.S_get HO_20.out [] x22_1 p259 (by first | exact q259 | exact of_decide_eq_true AS | (have e_ := (Kd.S_reads' HO_20.out).1; omega))
              obtain ⟨ve259_0, rfl, ge259_0⟩ := hMe259
              have hv259_0 := hcc259 0 _ rfl
              rw [Nat.add_zero, show ((Kd.slice 3 (Kd.int .i64))).sz = 1 from rfl, Nat.mul_one] at hv259_0
              replace hv259_0 := Option.some.inj (hv259_0.symm.trans hx259_0)
              rw [hv259_0] at ge259_0
              have HL259_0 := Aside0.mk (show Kd.R (Kd.int .i64) 3 _ _ _ _ (rd_L1 t256 x22_1) from ge259_0)
              clear hv259_0 ge259_0
              clear hcc259 hce259
              have HR259_0 := Aside0.mk hi259_0
              have HC259_0 := Aside0.mk hl259_0
              clear hi259_0 hl259_0
              replace p259 := eq_true p259
              replace q259 := eq_true q259
              try go_wp2
              have n0_ := Aside0.mk (Kd.S_drew HO_6.out)
              have n1_ := Aside0.mk (Kd.S_drew HO_20.out)
              have n2_ := Aside0.mk (Kd.R_drew HL259_0.out)
              have n3_ := Aside0.mk (Kd.C_drew HR259_0.out)
              have n4_ := Aside0.mk (below_drew1 HB.out)
              clear HO_6
              clear HO_20
              clear HL259_0
              clear HR259_0
              clear HB
              have HO_6 := n0_
              have HO_20 := n1_
              have HL259_0 := n2_
              have HR259_0 := n3_
              have HB := n4_
              clear n0_ n1_ n2_ n3_ n4_
              have p260 : 0 ≤ (0 : Int) := (by omega)
              have q260 : 0 < ((rd_L1 t256 x22_1).length : Int) := of_decide_eq_true AS
              obtain ⟨ad260, e260, hx260_0⟩ := Kd.at_int (by repeat (first | (with_reducible exact HR259_0.out) | (with_reducible refine Kd.C_drewN ?_ _) | (with_reducible refine Kd.C_drew ?_) | (with_reducible refine Kd.C_alloc ?_ _) | exact HR259_0.out)) 0 p260 q260
              cases e260
              have qi260 : (0 < (rd_L1 t256 x22_1).length) = True := eq_true (by omega)
              (try rw [show ((0 : Int)).toNat = 0 from rfl] at hx260_0)
              (try rw [Addr.add_zero'] at hx260_0)
              replace p260 := eq_true p260
              replace q260 := eq_true q260
              have p261 : 0 ≤ (1 : Int) := (by omega)
              have q261 : 1 < ((rd_L1 t256 x22_1).length : Int) := of_decide_eq_true AS
              obtain ⟨ad261, e261, hx261_0⟩ := Kd.at_int (by repeat (first | (with_reducible exact HR259_0.out) | (with_reducible refine Kd.C_drewN ?_ _) | (with_reducible refine Kd.C_drew ?_) | (with_reducible refine Kd.C_alloc ?_ _) | exact HR259_0.out)) 1 p261 q261
              obtain rfl : ad260 = ad261 := (by injection e261)
              (try simp only [show (1 : Int).toNat = 1 from rfl, Nat.reduceMul, Nat.reduceEqDiff, Go.Addr.add, ↓reduceIte] at hx261_0)
              have qi261 : (1 < (rd_L1 t256 x22_1).length) = True := eq_true (by omega)
              (try rw [show ((1 : Int)).toNat = 1 from rfl] at hx261_0)
              replace p261 := eq_true p261
              replace q261 := eq_true q261
              refine start_ (n := 14) (S := fun w' => w'.cell? ad260 = some (.int .i64 (rd (rd_L1 t256 x22_1) 0)) ∧ w'.cell? ⟨ad260.block, ad260.off + 1, none⟩ = some (.int .i64 (rd (rd_L1 t256 x22_1) 1))) (ds := []) #[false, false, false, false, false, false, false, false, false, false, false, false, false, false] (by kernel_rfl) rfl rfl ⟨hx260_0, hx261_0⟩ (fun hHeld => ?_); refine with_tabW spec_FindFull.tab7 spec_FindFull.bits7 (fun HT_ HW_ => ?_)
              generalize wr.drew = w23 at HO_6 HO_20 HL259_0 HR259_0 HB hx260_0 hx261_0 hHeld ⊢
              refine pure_ (i := 0) (N := some 27) #[true, false, false, false, false, false, false, false, false, false, false, false, false, false] rfl rfl (any_of HT_.out (by kernel_rfl)) (fun _ _ _ h => h) (Or.inl ⟨by rfl, PW⟩) PU ?_
              refine pure_ (i := 1) (N := some 28) #[true, true, false, false, false, false, false, false, false, false, false, false, false, false] rfl rfl (any_of HT_.out (by kernel_rfl)) (fun _ _ _ h => h) (Or.inl ⟨by rfl, PW⟩) PU ?_
              refine pure_ (i := 2) (N := some 29) #[true, true, true, false, false, false, false, false, false, false, false, false, false, false] rfl rfl (any_of HT_.out (by kernel_rfl)) (fun _ _ _ h => h) (Or.inl ⟨by rfl, PW⟩) PU ?_
              refine pure_ (i := 3) (N := some 30) #[true, true, true, true, false, false, false, false, false, false, false, false, false, false] rfl rfl (any_of HT_.out (by kernel_rfl)) (fun _ _ _ h => h) (Or.inl ⟨by rfl, PW⟩) PU ?_
              refine pure_ (i := 5) (N := some 32) #[true, true, true, true, false, true, false, false, false, false, false, false, false, false] rfl rfl (any_of HT_.out (by kernel_rfl)) (fun _ _ _ h => h) (Or.inl ⟨by rfl, PW⟩) PU ?_
              refine pure_ (i := 6) (N := some 33) #[true, true, true, true, false, true, true, false, false, false, false, false, false, false] rfl rfl (any_of HT_.out (by kernel_rfl)) (fun _ _ _ h => h) (Or.inl ⟨by rfl, PW⟩) PU ?_
              refine take_ (i := 4) (N := some 31) #[true, true, true, true, true, true, true, false, false, false, false, false, false, false] rfl rfl (take_ofW HT_.out HW_.out (by kernel_rfl)) (fun _ _ _ h => h) (Or.inl ⟨by rfl, PT⟩) hHeld PU ?_
              refine take_ (i := 7) (N := some 34) #[true, true, true, true, true, true, true, true, false, false, false, false, false, false] rfl rfl (take_ofW HT_.out HW_.out (by kernel_rfl)) (fun _ _ _ h => h) (Or.inl ⟨by rfl, PT⟩) hHeld PU ?_
              refine one_ (i := 8) (N := some 35) #[true, true, true, true, true, true, true, true, true, false, false, false, false, false] rfl rfl (one_of HT_.out (by kernel_rfl)) (by decide) (fun K hK => ?_)
              refine goes_ Try.func26 (by kernel_rfl) rfl #[.int .i64 a0, .slice A1 l1.length c1, .int .i64 (rd (rd_L1 t256 x22_1) 0), .int .i64 (rd (rd_L1 t256 x22_1) 1)] (by rfl) rfl rfl TA ?_
              with_reducible refine (spec_doFrom.calls k1 a0 _ _ l1 (rd (rd_L1 t256 x22_1) 0) (rd (rd_L1 t256 x22_1) 1) t262 t265 _ ?side1 ?side2 A15.out).mono ?_
              (case side1 => exact CW (Kd.C_below HR1.out HB.out))
              (case side2 => exact HC1.out)
              rintro e w24 ⟨v263, v266, rfl, ho0, ho1, hb⟩
              have HS0_ := (hb.cell (World.block_lt_of_cell? _ _ (hHeld.1))).trans (hHeld.1)
              have HS1_ := (hb.cell (World.block_lt_of_cell? _ _ (hHeld.2))).trans (hHeld.2)
              refine ⟨_, rfl, ?_⟩
              have n0_ := Aside0.mk (Kd.S_elder' (KS HO_6) (Kd.R_base ho0) hb)
              have n1_ := Aside0.mk (Kd.S_elder' (KS HO_20) (Kd.R_base ho0) hb)
              have n2_ := Aside0.mk (Kd.R_elder' (KR HL259_0) (Kd.R_base ho0) hb)
              have n3_ := Aside0.mk (Kd.R_lower (Kd.R_new' (Kd.R_mono (ok' := fun k_ => True) ho0 (fun _ hk_ => trivial)) (Kd.R_lt (KR HL259_0))) (below_size BB))
              have n4_ := Aside0.mk (Kd.V_lower (Kd.V_mono (ok' := fun k_ => some k_ ≠ (v263 : Value).ownBlock ∧ some k_ ≠ (v254 : Value).ownBlock ∧ some k_ ≠ (.slice (some ad259) t256.length co9 : Value).ownBlock) ho1 (fun k_ hk_ => ⟨hk_.2, (Kd.fresh' (Kd.S_lt (KS HO_6)) k_ hk_.1), (Kd.fresh' (Kd.S_lt (KS HO_20)) k_ hk_.1)⟩)) (below_size BB))
              have n5_ := Aside0.mk (Kd.C_below (by repeat (first | (with_reducible exact HR259_0.out) | (with_reducible refine Kd.C_drewN ?_ _) | (with_reducible refine Kd.C_drew ?_) | (with_reducible refine Kd.C_alloc ?_ _) | exact HR259_0.out)) hb)
              have n6_ := Aside0.mk (below_step BB hb)
              clear HO_6
              clear HO_20
              clear HL259_0
              clear HR259_0
              clear HB
              have HO_6 := n0_
              have HO_20 := n1_
              have HL259_0 := n2_
              have HO264 := n3_
              have HO267 := n4_
              have HR259_0 := n5_
              have HB := n6_
              clear n0_ n1_ n2_ n3_ n4_ n5_ n6_
              (try clear hb)
              (try clear hb2)
              (try clear hk)
              (try clear hi)
              (try clear ho0)
              (try clear ho1)
              refine hK.out _ _ ⟨HS0_, HS1_⟩ (fun hHeld => ?_)
              clear hK K
              refine norm_ (a' := ?_) ?_ ?_
              rotate_left
              ·show Act.put _ (some 35) _ = _
               simp only [Act.put, List.setIfInBounds_toArray, List.set_cons_zero, List.set_cons_succ, i64_w, i32_w]
               rfl
              refine pure_ (i := 9) (N := some 26) #[true, true, true, true, true, true, true, true, true, true, false, false, false, false] rfl rfl (any_of HT_.out (by kernel_rfl)) (fun _ _ _ h => h) (Or.inl ⟨by rfl, PW⟩) PU ?_
              refine pure_ (i := 10) (N := some 36) #[true, true, true, true, true, true, true, true, true, true, true, false, false, false] rfl rfl (any_of HT_.out (by kernel_rfl)) (fun _ _ _ h => h) (Or.inl ⟨by rfl, PW⟩) PU ?_
              refine pure_ (i := 11) (N := some 37) #[true, true, true, true, true, true, true, true, true, true, true, true, false, false] rfl rfl (any_of HT_.out (by kernel_rfl)) (fun _ _ _ h => h) (Or.inl ⟨by rfl, PW⟩) PU ?_
              refine pure_ (i := 12) (N := some 9) #[true, true, true, true, true, true, true, true, true, true, true, true, true, false] rfl rfl (any_of HT_.out (by kernel_rfl)) (fun _ _ _ h => h) (Or.inl ⟨by rfl, PW⟩) PU ?_
              refine pure_ (i := 13) (N := some 10) #[true, true, true, true, true, true, true, true, true, true, true, true, true, true] rfl rfl (any_of HT_.out (by kernel_rfl)) (fun _ _ _ h => h) (Or.inl ⟨by rfl, PW⟩) PU ?_
              refine done_ (done_of HT_.out (by kernel_rfl)) ?_
              obtain ⟨Ao25, co25, eo25⟩ := Kd.R_slice HO264.out
              subst eo25
              have p268 : 0 ≤ ((ji16) : Int) := of_decide_eq_true AS
              have q268 : (ji16) < (t262.length : Int) := of_decide_eq_true AS
              obtain ⟨ad268, e268, hx268_0⟩ := Kd.at_int (Kd.R_reads' HO264.out).2.2 (ji16) p268 q268
              cases e268
              replace p268 := eq_true p268
              replace q268 := eq_true q268
              obtain ⟨Ao26, co26, eo26⟩ := Kd.S_slice HO_6.out
              subst eo26
              have p269 : 0 ≤ ((rd t262 (ji16)) : Int) := of_decide_eq_true AS
              have q269 : (rd t262 (ji16)) < (t253.length : Int) := of_decide_eq_true AS
              obtain ⟨ad269, A269_0, c269_0, e269, hx269_0, hl269_0, hi269_0⟩ := at_L1 (Kd.S_reads' HO_6.out).2.2 (rd t262 (ji16)) p269 q269
              cases e269
              obtain ⟨ce269, hce269, hMe269, hcc269⟩ := Kd.S_get HO_6.out [] (rd t262 (ji16)) p269 (by first | exact q269 | exact of_decide_eq_true AS | (have e_ := (Kd.S_reads' HO_6.out).1; omega))
              obtain ⟨ve269_0, rfl, ge269_0⟩ := hMe269
              have hv269_0 := hcc269 0 _ rfl
              rw [Nat.add_zero, show ((Kd.slice 3 (Kd.int .i64))).sz = 1 from rfl, Nat.mul_one] at hv269_0
              replace hv269_0 := Option.some.inj (hv269_0.symm.trans hx269_0)
              rw [hv269_0] at ge269_0
              have HL269_0 := Aside0.mk (show Kd.R (Kd.int .i64) 3 _ _ _ _ (rd_L1 t253 (rd t262 (ji16))) from ge269_0)
              clear hv269_0 ge269_0
              clear hcc269 hce269
              have HR269_0 := Aside0.mk hi269_0
              have HC269_0 := Aside0.mk hl269_0
              clear hi269_0 hl269_0
              replace p269 := eq_true p269
              replace q269 := eq_true q269
              try go_wp2_with (first | ((with_reducible refine gate_callee (f := 62) rfl ?_); refine goesL_ (some 49) rfl rfl Try.func62 (by kernel_rfl) rfl #[.slice A1 l1.length c1, .slice A269_0 (rd_L1 t253 (rd t262 (ji16))).length c269_0] rfl (by (try simp only [List.map_toArray, List.map_cons, List.map_nil]); first | done | (simp only [hji16]; rfl) | rfl | (simp only [List.length_drop, List.length_take]; rfl)) ?_; (with_reducible refine (spec_doFull.calls k1 _ _ l1 _ _ (rd_L1 t253 (rd t262 (ji16))) true _ ?side1 ?side2 ?side3 ?side4 A21.out).mono ?_); (case side1 => exact CW (Kd.C_below HR1.out HB.out)); (case side2 => exact HC1.out); (case side3 => exact CW (by repeat (first | (with_reducible exact HR269_0.out) | (with_reducible refine Kd.C_drewN ?_ _) | (with_reducible refine Kd.C_drew ?_) | (with_reducible refine Kd.C_alloc ?_ _) | exact HR269_0.out))); (case side4 => exact HC269_0.out); rintro e w' ⟨rfl, ⟨nd, rfl⟩⟩; refine ⟨_, rfl, ?_⟩))
              go_ret2
              exact ⟨by first | rfl | (simp [errW_none, errW_some] <;> rfl) | (simp only [← hji16]; first | rfl | (simp [errW_none, errW_some] <;> rfl)) | (simp [*, errW_none, errW_some] <;> rfl), BB⟩
             ·replace c22 := Bool.eq_false_iff.mpr c22
              subst c22
              replace H := IN H
              have H' := Aside0.mk H
              clear H
              have p259 : 0 ≤ (x22_1 : Int) := of_decide_eq_true AS
              have q259 : x22_1 < (t256.length : Int) := of_decide_eq_true AS
              obtain ⟨ad259, A259_0, c259_0, e259, hx259_0, hl259_0, hi259_0⟩ := at_L1 (Kd.S_reads' HO_20.out).2.2 x22_1 p259 q259
              cases e259
              obtain ⟨ce259, hce259, hMe259, hcc259⟩ := Kd.S_get HO_20.out [] x22_1 p259 (by first | exact q259 | exact of_decide_eq_true AS | (have e_ := (Kd.S_reads' HO_20.out).1; omega))
              obtain ⟨ve259_0, rfl, ge259_0⟩ := hMe259
              have hv259_0 := hcc259 0 _ rfl
              rw [Nat.add_zero, show ((Kd.slice 3 (Kd.int .i64))).sz = 1 from rfl, Nat.mul_one] at hv259_0
              replace hv259_0 := Option.some.inj (hv259_0.symm.trans hx259_0)
              rw [hv259_0] at ge259_0
              have HL259_0 := Aside0.mk (show Kd.R (Kd.int .i64) 3 _ _ _ _ (rd_L1 t256 x22_1) from ge259_0)
              clear hv259_0 ge259_0
              clear hcc259 hce259
              have HR259_0 := Aside0.mk hi259_0
              have HC259_0 := Aside0.mk hl259_0
              clear hi259_0 hl259_0
              replace p259 := eq_true p259
              replace q259 := eq_true q259
              try go_wp2
              have n0_ := Aside0.mk (Kd.S_drew HO_6.out)
              have n1_ := Aside0.mk (Kd.S_drew HO_20.out)
              have n2_ := Aside0.mk (Kd.R_drew HL259_0.out)
              have n3_ := Aside0.mk (Kd.C_drew HR259_0.out)
              have n4_ := Aside0.mk (below_drew1 HB.out)
              clear HO_6
              clear HO_20
              clear HL259_0
              clear HR259_0
              clear HB
              have HO_6 := n0_
              have HO_20 := n1_
              have HL259_0 := n2_
              have HR259_0 := n3_
              have HB := n4_
              clear n0_ n1_ n2_ n3_ n4_
              have p260 : 0 ≤ (0 : Int) := (by omega)
              have q260 : 0 < ((rd_L1 t256 x22_1).length : Int) := of_decide_eq_true AS
              obtain ⟨ad260, e260, hx260_0⟩ := Kd.at_int (by repeat (first | (with_reducible exact HR259_0.out) | (with_reducible refine Kd.C_drewN ?_ _) | (with_reducible refine Kd.C_drew ?_) | (with_reducible refine Kd.C_alloc ?_ _) | exact HR259_0.out)) 0 p260 q260
              cases e260
              have qi260 : (0 < (rd_L1 t256 x22_1).length) = True := eq_true (by omega)
              (try rw [show ((0 : Int)).toNat = 0 from rfl] at hx260_0)
              (try rw [Addr.add_zero'] at hx260_0)
              replace p260 := eq_true p260
              replace q260 := eq_true q260
              have p261 : 0 ≤ (1 : Int) := (by omega)
              have q261 : 1 < ((rd_L1 t256 x22_1).length : Int) := of_decide_eq_true AS
              obtain ⟨ad261, e261, hx261_0⟩ := Kd.at_int (by repeat (first | (with_reducible exact HR259_0.out) | (with_reducible refine Kd.C_drewN ?_ _) | (with_reducible refine Kd.C_drew ?_) | (with_reducible refine Kd.C_alloc ?_ _) | exact HR259_0.out)) 1 p261 q261
              obtain rfl : ad260 = ad261 := (by injection e261)
              (try simp only [show (1 : Int).toNat = 1 from rfl, Nat.reduceMul, Nat.reduceEqDiff, Go.Addr.add, ↓reduceIte] at hx261_0)
              have qi261 : (1 < (rd_L1 t256 x22_1).length) = True := eq_true (by omega)
              (try rw [show ((1 : Int)).toNat = 1 from rfl] at hx261_0)
              replace p261 := eq_true p261
              replace q261 := eq_true q261
              refine start_ (n := 14) (S := fun w' => w'.cell? ad260 = some (.int .i64 (rd (rd_L1 t256 x22_1) 0)) ∧ w'.cell? ⟨ad260.block, ad260.off + 1, none⟩ = some (.int .i64 (rd (rd_L1 t256 x22_1) 1))) (ds := []) #[false, false, false, false, false, false, false, false, false, false, false, false, false, false] (by kernel_rfl) rfl rfl ⟨hx260_0, hx261_0⟩ (fun hHeld => ?_); refine with_tabW spec_FindFull.tab7 spec_FindFull.bits7 (fun HT_ HW_ => ?_)
              generalize wr.drew = w27 at HO_6 HO_20 HL259_0 HR259_0 HB hx260_0 hx261_0 hHeld ⊢
              refine pure_ (i := 0) (N := some 27) #[true, false, false, false, false, false, false, false, false, false, false, false, false, false] rfl rfl (any_of HT_.out (by kernel_rfl)) (fun _ _ _ h => h) (Or.inl ⟨by rfl, PW⟩) PU ?_
              refine pure_ (i := 1) (N := some 28) #[true, true, false, false, false, false, false, false, false, false, false, false, false, false] rfl rfl (any_of HT_.out (by kernel_rfl)) (fun _ _ _ h => h) (Or.inl ⟨by rfl, PW⟩) PU ?_
              refine pure_ (i := 2) (N := some 29) #[true, true, true, false, false, false, false, false, false, false, false, false, false, false] rfl rfl (any_of HT_.out (by kernel_rfl)) (fun _ _ _ h => h) (Or.inl ⟨by rfl, PW⟩) PU ?_
              refine pure_ (i := 3) (N := some 30) #[true, true, true, true, false, false, false, false, false, false, false, false, false, false] rfl rfl (any_of HT_.out (by kernel_rfl)) (fun _ _ _ h => h) (Or.inl ⟨by rfl, PW⟩) PU ?_
              refine pure_ (i := 5) (N := some 32) #[true, true, true, true, false, true, false, false, false, false, false, false, false, false] rfl rfl (any_of HT_.out (by kernel_rfl)) (fun _ _ _ h => h) (Or.inl ⟨by rfl, PW⟩) PU ?_
              refine pure_ (i := 6) (N := some 33) #[true, true, true, true, false, true, true, false, false, false, false, false, false, false] rfl rfl (any_of HT_.out (by kernel_rfl)) (fun _ _ _ h => h) (Or.inl ⟨by rfl, PW⟩) PU ?_
              refine take_ (i := 4) (N := some 31) #[true, true, true, true, true, true, true, false, false, false, false, false, false, false] rfl rfl (take_ofW HT_.out HW_.out (by kernel_rfl)) (fun _ _ _ h => h) (Or.inl ⟨by rfl, PT⟩) hHeld PU ?_
              refine take_ (i := 7) (N := some 34) #[true, true, true, true, true, true, true, true, false, false, false, false, false, false] rfl rfl (take_ofW HT_.out HW_.out (by kernel_rfl)) (fun _ _ _ h => h) (Or.inl ⟨by rfl, PT⟩) hHeld PU ?_
              refine one_ (i := 8) (N := some 35) #[true, true, true, true, true, true, true, true, true, false, false, false, false, false] rfl rfl (one_of HT_.out (by kernel_rfl)) (by decide) (fun K hK => ?_)
              refine goes_ Try.func26 (by kernel_rfl) rfl #[.int .i64 a0, .slice A1 l1.length c1, .int .i64 (rd (rd_L1 t256 x22_1) 0), .int .i64 (rd (rd_L1 t256 x22_1) 1)] (by rfl) rfl rfl TA ?_
              with_reducible refine (spec_doFrom.calls k1 a0 _ _ l1 (rd (rd_L1 t256 x22_1) 0) (rd (rd_L1 t256 x22_1) 1) t262 t265 _ ?side1 ?side2 A15.out).mono ?_
              (case side1 => exact CW (Kd.C_below HR1.out HB.out))
              (case side2 => exact HC1.out)
              rintro e w28 ⟨v263, v266, rfl, ho0, ho1, hb⟩
              have HS0_ := (hb.cell (World.block_lt_of_cell? _ _ (hHeld.1))).trans (hHeld.1)
              have HS1_ := (hb.cell (World.block_lt_of_cell? _ _ (hHeld.2))).trans (hHeld.2)
              refine ⟨_, rfl, ?_⟩
              have n0_ := Aside0.mk (Kd.S_elder' (KS HO_6) (Kd.R_base ho0) hb)
              have n1_ := Aside0.mk (Kd.S_elder' (KS HO_20) (Kd.R_base ho0) hb)
              have n2_ := Aside0.mk (Kd.R_elder' (KR HL259_0) (Kd.R_base ho0) hb)
              have n3_ := Aside0.mk (Kd.R_lower (Kd.R_new' (Kd.R_mono (ok' := fun k_ => True) ho0 (fun _ hk_ => trivial)) (Kd.R_lt (KR HL259_0))) (below_size BB))
              have n4_ := Aside0.mk (Kd.V_lower (Kd.V_mono (ok' := fun k_ => some k_ ≠ (v263 : Value).ownBlock ∧ some k_ ≠ (v254 : Value).ownBlock ∧ some k_ ≠ (.slice (some ad259) t256.length co9 : Value).ownBlock) ho1 (fun k_ hk_ => ⟨hk_.2, (Kd.fresh' (Kd.S_lt (KS HO_6)) k_ hk_.1), (Kd.fresh' (Kd.S_lt (KS HO_20)) k_ hk_.1)⟩)) (below_size BB))
              have n5_ := Aside0.mk (Kd.C_below (by repeat (first | (with_reducible exact HR259_0.out) | (with_reducible refine Kd.C_drewN ?_ _) | (with_reducible refine Kd.C_drew ?_) | (with_reducible refine Kd.C_alloc ?_ _) | exact HR259_0.out)) hb)
              have n6_ := Aside0.mk (below_step BB hb)
              clear HO_6
              clear HO_20
              clear HL259_0
              clear HR259_0
              clear HB
              have HO_6 := n0_
              have HO_20 := n1_
              have HL259_0 := n2_
              have HO264 := n3_
              have HO267 := n4_
              have HR259_0 := n5_
              have HB := n6_
              clear n0_ n1_ n2_ n3_ n4_ n5_ n6_
              (try clear hb)
              (try clear hb2)
              (try clear hk)
              (try clear hi)
              (try clear ho0)
              (try clear ho1)
              refine hK.out _ _ ⟨HS0_, HS1_⟩ (fun hHeld => ?_)
              clear hK K
              refine norm_ (a' := ?_) ?_ ?_
              rotate_left
              ·show Act.put _ (some 35) _ = _
               simp only [Act.put, List.setIfInBounds_toArray, List.set_cons_zero, List.set_cons_succ, i64_w, i32_w]
               rfl
              refine pure_ (i := 9) (N := some 26) #[true, true, true, true, true, true, true, true, true, true, false, false, false, false] rfl rfl (any_of HT_.out (by kernel_rfl)) (fun _ _ _ h => h) (Or.inl ⟨by rfl, PW⟩) PU ?_
              refine pure_ (i := 10) (N := some 36) #[true, true, true, true, true, true, true, true, true, true, true, false, false, false] rfl rfl (any_of HT_.out (by kernel_rfl)) (fun _ _ _ h => h) (Or.inl ⟨by rfl, PW⟩) PU ?_
              refine pure_ (i := 11) (N := some 37) #[true, true, true, true, true, true, true, true, true, true, true, true, false, false] rfl rfl (any_of HT_.out (by kernel_rfl)) (fun _ _ _ h => h) (Or.inl ⟨by rfl, PW⟩) PU ?_
              refine pure_ (i := 12) (N := some 9) #[true, true, true, true, true, true, true, true, true, true, true, true, true, false] rfl rfl (any_of HT_.out (by kernel_rfl)) (fun _ _ _ h => h) (Or.inl ⟨by rfl, PW⟩) PU ?_
              refine pure_ (i := 13) (N := some 10) #[true, true, true, true, true, true, true, true, true, true, true, true, true, true] rfl rfl (any_of HT_.out (by kernel_rfl)) (fun _ _ _ h => h) (Or.inl ⟨by rfl, PW⟩) PU ?_
              refine done_ (done_of HT_.out (by kernel_rfl)) ?_
              obtain ⟨Ao29, co29, eo29⟩ := Kd.R_slice HO264.out
              subst eo29
              have p268 : 0 ≤ ((ji16) : Int) := of_decide_eq_true AS
              have q268 : (ji16) < (t262.length : Int) := of_decide_eq_true AS
              obtain ⟨ad268, e268, hx268_0⟩ := Kd.at_int (Kd.R_reads' HO264.out).2.2 (ji16) p268 q268
              cases e268
              replace p268 := eq_true p268
              replace q268 := eq_true q268
              obtain ⟨Ao30, co30, eo30⟩ := Kd.S_slice HO_6.out
              subst eo30
              have p269 : 0 ≤ ((rd t262 (ji16)) : Int) := of_decide_eq_true AS
              have q269 : (rd t262 (ji16)) < (t253.length : Int) := of_decide_eq_true AS
              obtain ⟨ad269, A269_0, c269_0, e269, hx269_0, hl269_0, hi269_0⟩ := at_L1 (Kd.S_reads' HO_6.out).2.2 (rd t262 (ji16)) p269 q269
              cases e269
              obtain ⟨ce269, hce269, hMe269, hcc269⟩ := Kd.S_get HO_6.out [] (rd t262 (ji16)) p269 (by first | exact q269 | exact of_decide_eq_true AS | (have e_ := (Kd.S_reads' HO_6.out).1; omega))
              obtain ⟨ve269_0, rfl, ge269_0⟩ := hMe269
              have hv269_0 := hcc269 0 _ rfl
              rw [Nat.add_zero, show ((Kd.slice 3 (Kd.int .i64))).sz = 1 from rfl, Nat.mul_one] at hv269_0
              replace hv269_0 := Option.some.inj (hv269_0.symm.trans hx269_0)
              rw [hv269_0] at ge269_0
              have HL269_0 := Aside0.mk (show Kd.R (Kd.int .i64) 3 _ _ _ _ (rd_L1 t253 (rd t262 (ji16))) from ge269_0)
              clear hv269_0 ge269_0
              clear hcc269 hce269
              have HR269_0 := Aside0.mk hi269_0
              have HC269_0 := Aside0.mk hl269_0
              clear hi269_0 hl269_0
              replace p269 := eq_true p269
              replace q269 := eq_true q269
              try go_wp2_with (first | ((with_reducible refine gate_callee (f := 62) rfl ?_); refine goesL_ (some 49) rfl rfl Try.func62 (by kernel_rfl) rfl #[.slice A1 l1.length c1, .slice A269_0 (rd_L1 t253 (rd t262 (ji16))).length c269_0] rfl (by (try simp only [List.map_toArray, List.map_cons, List.map_nil]); first | done | (simp only [hji16]; rfl) | rfl | (simp only [List.length_drop, List.length_take]; rfl)) ?_; (with_reducible refine (spec_doFull.calls k1 _ _ l1 _ _ (rd_L1 t253 (rd t262 (ji16))) false _ ?side1 ?side2 ?side3 ?side4 A21.out).mono ?_); (case side1 => exact CW (Kd.C_below HR1.out HB.out)); (case side2 => exact HC1.out); (case side3 => exact CW (by repeat (first | (with_reducible exact HR269_0.out) | (with_reducible refine Kd.C_drewN ?_ _) | (with_reducible refine Kd.C_drew ?_) | (with_reducible refine Kd.C_alloc ?_ _) | exact HR269_0.out))); (case side4 => exact HC269_0.out); rintro e w' ⟨rfl, ⟨nd, rfl⟩⟩; refine ⟨_, rfl, ?_⟩))
              go_roundg k1
              case measure => have := HK1.out; omega
              case rel => exact ⟨(wrap64 (x22_1 + 1)), RF, H', ⟨by have := HK1.out; omega⟩, ⟨by (with_reducible repeat (first | apply Kd.S_alloc | apply Kd.S_drewN | apply Kd.S_drew)); exact Kd.S_mono HO_6.out (fun _ hk => hk.1)⟩, ⟨by (with_reducible repeat (first | apply Kd.S_alloc | apply Kd.S_drewN | apply Kd.S_drew)); exact Kd.S_mono HO_20.out (fun _ hk => hk.1)⟩, ⟨BB⟩⟩
            ·rw [if_neg c20] at H
             cases H
           ·rw [if_neg c19] at H
            cases H
          ·rw [if_neg c18] at H
           cases H
         ·rw [if_neg c17] at H
          cases H
        ·rw [if_neg c14] at H
         cases H
       ·rw [if_neg c13] at H
        cases H
      ·rw [if_neg c12] at H
       cases H
     ·rw [if_neg c11] at H
      cases H
    ·rw [if_neg c10] at H
     have c10b0 : decide (x22_1 < (t256.length : Int)) = false := decide_eq_false c10
     clear c10
     simp only [Option.some.injEq, Prod.mk.injEq] at H
     obtain ⟨rfl, rfl⟩ := H
     go_wp2
     go_ret2
     exact ⟨RE, BB⟩
 ·replace c4 := Bool.eq_false_iff.mpr c4
  subst c4
  replace H := IN H
  simp only [Option.some.injEq, Prod.mk.injEq] at H
  obtain ⟨rfl, rfl⟩ := H
  go_enter Try.func39, Try.ntmps39
  go_wp2_with (first | ((with_reducible refine gate_callee (f := 23) rfl ?_); refine goesL_ (some 14) rfl rfl Try.func23 (by kernel_rfl) rfl #[.int .i64 a0, .slice A1 l1.length c1] rfl TA ?_; (with_reducible refine (spec_meLabels.calls k a0 _ _ l1 false _ ?side1 ?side2 A3.out).mono ?_); (case side1 => exact CW HR1.out); (case side2 => exact HC1.out); rintro e w' ⟨rfl, ⟨nd, rfl⟩⟩; refine ⟨_, rfl, ?_⟩))
  go_ret2
  exact ⟨RE, BB⟩

end Go.Proofs.Ytgpplbaloajgdab.PFnExactFairCell
