-- Written by a program of this session (wip/tools/pp.sh) out of the translation; Lean checks it.
import Derived.Test.YtgpplbaloajgdabPFnExactFairCellx0
import Derived.Test.YtgpplbaloajgdabPFnExactFairCellx1
import Derived.Test.YtgpplbaloajgdabPFnExactFairCellx2
namespace Go.Proofs.Ytgpplbaloajgdab.PFnExactFairCell
open Go.RowKit Go.Proofs.YtgpplbaloajgdabOwn Go.Proofs.YtgpplbaloajgdabW.PrintWords Go.Proofs.YtgpplbaloajgdabW.PrintLast Go.Proofs.YtgpplbaloajgdabW.PrintMore
attribute [local go_sem] max2_int min2_int max_two min_two max_three min_three max_four min_four   -- for this text's walks alone
set_option linter.unusedVariables false
set_option maxHeartbeats 8000000
set_option maxRecDepth 100000
set_option linter.unusedSimpArgs false

/-! ### spec_ckTastes: function 44 -/
mutual
def spec_ckTastes.j0 : Nat → Int → List (List Int) → Bool → Option (Bool)
 | 0, _, _, _ => none
 | k + 1, x0, x1, x14 => if x14 = true then (some false) else (spec_ckTastes.l0 k x0 x1 (x1.length : Int) 0)
def spec_ckTastes.l0 : Nat → Int → List (List Int) → Int → Int → Option (Bool)
 | 0, _, _, _, _ => none
 | k + 1, x0, x15, x16, x17 => if x17 < x16 then (if 0 ≤ x17 then (if x17 < (x15.length : Int) then (if ((rd_L1 x15 x17).length : Int) = x0 then ((spec_l1All.f k (rd_L1 x15 x17) 0 9).bind fun t273 => (if t273 = true then (spec_ckTastes.l0 k x0 x15 x16 (wrap64 (x17 + 1))) else (some false))) else (some false)) else (none)) else (none)) else (some true)
end
def spec_ckTastes.f (k : Nat) (a0 : Int) (l1 : List (List Int)) : Option (Bool) := (spec_meSide.f a0).bind fun t271 => (if t271 = true then (spec_ckTastes.j0 k a0 l1 ((l1.length : Int) != 3)) else (spec_ckTastes.j0 k a0 l1 true))
theorem spec_ckTastes.mono_l : ∀ k, (∀ y0 y1 y2, LeO (spec_ckTastes.j0 k y0 y1 y2) (spec_ckTastes.j0 (k + 1) y0 y1 y2)) ∧ (∀ y0 y1 y2 y3, LeO (spec_ckTastes.l0 k y0 y1 y2 y3) (spec_ckTastes.l0 (k + 1) y0 y1 y2 y3))
 | 0 => ⟨fun _ _ _ r h => by simp [spec_ckTastes.j0] at h, fun _ _ _ _ r h => by simp [spec_ckTastes.l0] at h⟩
 | k + 1 => by
  obtain ⟨ih0, ih1⟩ := spec_ckTastes.mono_l k
  refine ⟨?_, ?_⟩
  ·intro y0 y1 y2
   unfold spec_ckTastes.j0
   repeat' first
   | with_reducible first | exact ih0 _ _ _ | exact ih1 _ _ _ _ | exact spec_l1All.mono _ _ _ _ | exact LeO.refl _ | exact LeO.none _ | refine LeO.ite ?_ ?_ | refine LeO.bind ?_ (fun _ => ?_)
   | exact LeO.none _ | refine LeO.ite ?_ ?_ | refine LeO.bind ?_ (fun _ => ?_)
  ·intro y0 y1 y2 y3
   unfold spec_ckTastes.l0
   repeat' first
   | with_reducible first | exact ih0 _ _ _ | exact ih1 _ _ _ _ | exact spec_l1All.mono _ _ _ _ | exact LeO.refl _ | exact LeO.none _ | refine LeO.ite ?_ ?_ | refine LeO.bind ?_ (fun _ => ?_)
   | exact LeO.none _ | refine LeO.ite ?_ ?_ | refine LeO.bind ?_ (fun _ => ?_)
theorem spec_ckTastes.mono : ∀ a0 a1 k, LeO (spec_ckTastes.f k a0 a1) (spec_ckTastes.f (k + 1) a0 a1) := by
 intro a0 a1 k
 obtain ⟨ih0, ih1⟩ := spec_ckTastes.mono_l k
 unfold spec_ckTastes.f
 repeat' first
   | with_reducible first | exact ih0 _ _ _ | exact ih1 _ _ _ _ | exact spec_l1All.mono _ _ _ _ | exact LeO.refl _ | exact LeO.none _ | refine LeO.ite ?_ ?_ | refine LeO.bind ?_ (fun _ => ?_)
   | exact LeO.none _ | refine LeO.ite ?_ ?_ | refine LeO.bind ?_ (fun _ => ?_)
theorem spec_ckTastes.calls (k : Nat) (a0 : Int) (A1 : Option Addr) (c1 : Nat) (l1 : List (List Int)) (r : Bool) (w : World) (hr1 : Kd.C (Kd.slice 3 (Kd.int .i64)) w A1 l1.length l1) (hc1 : l1.length ≤ c1) (h : spec_ckTastes.f k a0 l1 = some r) :
  Calls Try.prog 44 #[.int .i64 a0, .slice A1 l1.length c1] w fun e w' => e = .returned (.bool r) ∧ Drawn0 w w' := by
 have HR1 := Aside0.mk hr1
 have HC1 := Aside0.mk hc1
 clear hr1 hc1
 have H : ((spec_meSide.f a0).bind fun t271 => (if t271 = true then (spec_ckTastes.j0 k a0 l1 ((l1.length : Int) != 3)) else (spec_ckTastes.j0 k a0 l1 true))) = some r := h
 clear h
 have HC3 := Aside0.mk H
 clear H
 go_enter Try.func44, Try.ntmps44
 go_upto_region 1 with (fail)
 go_cut [14] (fun v14 wc => ∃ (kq : Nat) (x14_2 : Bool), v14 = .bool x14_2 ∧ Aside0 (spec_ckTastes.j0 kq a0 l1 x14_2 = some r) ∧ Aside0 (kq ≤ k) ∧ Drawn0 w wc)
 case first =>
  have H := HC3.out
  clear HC3
  obtain ⟨t271, A40, H⟩ := Option.bind_eq_some_iff.mp H
  have A4 := Aside0.mk A40
  clear A40
  by_cases c5 : t271 = true
  ·subst c5
   replace H := IP H
   have H' := Aside0.mk H
   clear H
   go_wp2_with (first | ((with_reducible refine gate_callee (f := 53) rfl ?_); refine goesL_ (some 8) rfl rfl Try.func53 (by kernel_rfl) rfl #[.int .i64 a0] rfl TA ?_; (with_reducible refine (spec_meSide.calls a0 true _ A4.out).mono ?_); rintro e w' ⟨rfl, ⟨nd, rfl⟩⟩; refine ⟨_, rfl, ?_⟩))
   go_meet
   case rel => exact ⟨_, (((l1.length : Int) != 3)), RF, H', ⟨by first | omega | exact Nat.le_refl _⟩, by repeat (first | exact Drawn0.refl _ | apply Drawn0.step)⟩
  ·replace c5 := Bool.eq_false_iff.mpr c5
   subst c5
   replace H := IN H
   have H' := Aside0.mk H
   clear H
   go_wp2_with (first | ((with_reducible refine gate_callee (f := 53) rfl ?_); refine goesL_ (some 8) rfl rfl Try.func53 (by kernel_rfl) rfl #[.int .i64 a0] rfl TA ?_; (with_reducible refine (spec_meSide.calls a0 false _ A4.out).mono ?_); rintro e w' ⟨rfl, ⟨nd, rfl⟩⟩; refine ⟨_, rfl, ?_⟩))
   go_meet
   case rel => exact ⟨_, (true), RF, H', ⟨by first | omega | exact Nat.le_refl _⟩, by repeat (first | exact Drawn0.refl _ | apply Drawn0.step)⟩
 case rest =>
  clear HC3
  try clear c1
  try clear p2
  try clear c4
  try clear c5
  obtain ⟨kq, x14_2, rfl, HA, HJ2, ⟨mc2, rfl⟩⟩ := hcut
  cases kq with
  | zero => exact absurd HA.out (by simp [spec_ckTastes.j0])
  | succ kj2 =>
   have H := HA.out
   clear HA
   simp only [spec_ckTastes.j0] at H
   by_cases c6 : x14_2 = true
   ·subst c6
    replace H := IP H
    obtain rfl := Option.some.inj H
    go_wp2
    go_ret
    exact ⟨RF, DR⟩
   ·replace c6 := Bool.eq_false_iff.mpr c6
    subst c6
    replace H := IN H
    have H' := Aside0.mk H
    clear H
    go_wp2
    go_loopg [17] kj2 (fun kq v17 w' => ∃ (x17_2 : Int), v17 = .int .i64 x17_2 ∧ Aside0 (spec_ckTastes.l0 kq a0 l1 (l1.length : Int) x17_2 = some r) ∧ Aside0 (kq ≤ kj2) ∧ Drawn0 w w')
    case atStart => exact ⟨(0), RF, H', ⟨Nat.le_refl _⟩, by repeat (first | exact Drawn0.refl _ | apply Drawn0.step)⟩
    case round =>
     clear H'
     try clear c1
     try clear c2
     try clear p2
     try clear c4
     try clear c5
     try clear c6
     try clear p6
     try clear p2
     obtain ⟨x17_2, rfl, HA, HK2, ⟨m2, rfl⟩⟩ := hrel
     cases gk with
     | zero => exact absurd HA.out (by simp [spec_ckTastes.l0])
     | succ k2 =>
      have H := HA.out
      clear HA
      simp only [spec_ckTastes.l0] at H
      by_cases c7 : x17_2 < (l1.length : Int)
      ·rw [if_pos c7] at H
       have c7b0 : decide (x17_2 < (l1.length : Int)) = true := decide_eq_true c7
       clear c7
       by_cases c8 : 0 ≤ x17_2
       ·rw [if_pos c8] at H
        have c8b0 : decide (0 ≤ x17_2) = true := decide_eq_true c8
        clear c8
        by_cases c9 : x17_2 < (l1.length : Int)
        ·rw [if_pos c9] at H
         have c9b0 : decide (x17_2 < (l1.length : Int)) = true := decide_eq_true c9
         clear c9
         by_cases c10 : ((rd_L1 l1 x17_2).length : Int) = a0
         ·rw [if_pos c10] at H
          have c10b0 : (((rd_L1 l1 x17_2).length : Int) == a0) = true := beq_iff_eq.mpr c10
          have c10b1 : (((rd_L1 l1 x17_2).length : Int) != a0) = false := bne_eq_false_iff_eq.mpr c10
          clear c10
          obtain ⟨t273, A110, H⟩ := Option.bind_eq_some_iff.mp H
          have A11 := Aside0.mk A110
          clear A110
          by_cases c12 : t273 = true
          ·subst c12
           replace H := IP H
           have H' := Aside0.mk H
           clear H
           have p272 : 0 ≤ (x17_2 : Int) := of_decide_eq_true AS
           have q272 : x17_2 < (l1.length : Int) := of_decide_eq_true AS
           obtain ⟨ad272, A272_0, c272_0, e272, hx272_0, hl272_0, hi272_0⟩ := at_L1 HR1.out x17_2 p272 q272
           cases e272
           have HR272_0 := Aside0.mk hi272_0
           have HC272_0 := Aside0.mk hl272_0
           clear hi272_0 hl272_0
           replace p272 := eq_true p272
           replace q272 := eq_true q272
           go_wp2_with (first | (go_at_call 55; (with_reducible refine (spec_l1All.calls k2 _ _ (rd_L1 l1 x17_2) 0 9 true _ ?side1 ?side2 A11.out).mono ?_); (case side1 => exact CW HR272_0.out); (case side2 => exact HC272_0.out); rintro e w' ⟨rfl, ⟨nd, rfl⟩⟩))
           go_roundg k2
           case measure => have := HJ2.out; have := HK2.out; omega
           case rel => exact ⟨(wrap64 (x17_2 + 1)), RF, H', ⟨by have := HJ2.out; have := HK2.out; omega⟩, by repeat (first | exact Drawn0.refl _ | apply Drawn0.step)⟩
          ·replace c12 := Bool.eq_false_iff.mpr c12
           subst c12
           replace H := IN H
           obtain rfl := Option.some.inj H
           have p272 : 0 ≤ (x17_2 : Int) := of_decide_eq_true AS
           have q272 : x17_2 < (l1.length : Int) := of_decide_eq_true AS
           obtain ⟨ad272, A272_0, c272_0, e272, hx272_0, hl272_0, hi272_0⟩ := at_L1 HR1.out x17_2 p272 q272
           cases e272
           have HR272_0 := Aside0.mk hi272_0
           have HC272_0 := Aside0.mk hl272_0
           clear hi272_0 hl272_0
           replace p272 := eq_true p272
           replace q272 := eq_true q272
           go_wp2_with (first | (go_at_call 55; (with_reducible refine (spec_l1All.calls k2 _ _ (rd_L1 l1 x17_2) 0 9 false _ ?side1 ?side2 A11.out).mono ?_); (case side1 => exact CW HR272_0.out); (case side2 => exact HC272_0.out); rintro e w' ⟨rfl, ⟨nd, rfl⟩⟩))
           go_ret
           exact ⟨RF, DR⟩
         ·rw [if_neg c10] at H
          have c10b0 : (((rd_L1 l1 x17_2).length : Int) == a0) = false := beq_eq_false_iff_ne.mpr c10
          have c10b1 : (((rd_L1 l1 x17_2).length : Int) != a0) = true := bne_iff_ne.mpr c10
          obtain rfl := Option.some.inj H
          have p272 : 0 ≤ (x17_2 : Int) := of_decide_eq_true AS
          have q272 : x17_2 < (l1.length : Int) := of_decide_eq_true AS
          obtain ⟨ad272, A272_0, c272_0, e272, hx272_0, hl272_0, hi272_0⟩ := at_L1 HR1.out x17_2 p272 q272
          cases e272
          have HR272_0 := Aside0.mk hi272_0
          have HC272_0 := Aside0.mk hl272_0
          clear hi272_0 hl272_0
          replace p272 := eq_true p272
          replace q272 := eq_true q272
          go_wp2
          go_ret
          exact ⟨RF, DR⟩
        ·rw [if_neg c9] at H
         cases H
       ·rw [if_neg c8] at H
        cases H
      ·rw [if_neg c7] at H
       have c7b0 : decide (x17_2 < (l1.length : Int)) = false := decide_eq_false c7
       clear c7
       obtain rfl := Option.some.inj H
       go_wp2
       go_ret
       exact ⟨RF, DR⟩

/-! ### spec_ckOwner: function 48 -/
def spec_ckOwner.f (k : Nat) (a0 : Int) (a1 : Int) : Option (Int) := (spec_meAt.f k a0 a1).bind fun t274 => (if 1 < (t274.length : Int) then (if 2 < (t274.length : Int) then (some (Int.tmod (wrap64 ((rd t274 1) + (wrap64 (2 * (rd t274 2))))) 3)) else (none)) else (none))
theorem spec_ckOwner.mono : ∀ a0 a1 k, LeO (spec_ckOwner.f k a0 a1) (spec_ckOwner.f (k + 1) a0 a1) := by
 intro a0 a1 k
 unfold spec_ckOwner.f
 repeat' first
   | with_reducible first | exact spec_meAt.mono _ _ _ | exact LeO.refl _ | exact LeO.none _ | refine LeO.ite ?_ ?_ | refine LeO.bind ?_ (fun _ => ?_)
   | exact LeO.none _ | refine LeO.ite ?_ ?_ | refine LeO.bind ?_ (fun _ => ?_)
theorem spec_ckOwner.calls (k : Nat) (a0 : Int) (a1 : Int) (r : Int) (w : World) (h : spec_ckOwner.f k a0 a1 = some r) :
  Calls Try.prog 48 #[.int .i64 a0, .int .i64 a1] w fun e w' => e = .returned (.int .i64 r) ∧ Below w.heap.size w w' := by
 have HB := Aside0.mk (Below.refl w.heap.size w)
 have H : ((spec_meAt.f k a0 a1).bind fun t274 => (if 1 < (t274.length : Int) then (if 2 < (t274.length : Int) then (some (Int.tmod (wrap64 ((rd t274 1) + (wrap64 (2 * (rd t274 2))))) 3)) else (none)) else (none))) = some r := h
 clear h
 obtain ⟨t274, A30, H⟩ := Option.bind_eq_some_iff.mp H
 have A3 := Aside0.mk A30
 clear A30
 by_cases c4 : 1 < (t274.length : Int)
 ·rw [if_pos c4] at H
  have c4b0 : decide (1 < (t274.length : Int)) = true := decide_eq_true c4
  have c4b1 : decide (1 < t274.length) = true := decide_eq_true (by omega)
  clear c4
  by_cases c5 : 2 < (t274.length : Int)
  ·rw [if_pos c5] at H
   have c5b0 : decide (2 < (t274.length : Int)) = true := decide_eq_true c5
   have c5b1 : decide (2 < t274.length) = true := decide_eq_true (by omega)
   clear c5
   obtain rfl := Option.some.inj H
   go_enter Try.func48, Try.ntmps48
   go_wp2_with (first | (go_at_call 75; (with_reducible refine (spec_meAt.calls k a0 a1 t274 _ A3.out).mono ?_); rintro e w6 ⟨v275, rfl, ho0, hb⟩; have n0_ := Aside0.mk (Kd.R_lower ho0 (below_size BB)); have n1_ := Aside0.mk (below_step BB hb); clear HB; have HO276 := n0_; have HB := n1_; clear n0_ n1_; (try clear hb); (try clear hb2); (try clear hk); (try clear hi); (try clear ho0); obtain ⟨Ao7, co7, eo7⟩ := Kd.R_slice HO276.out; subst eo7; have p277 : 0 ≤ (1 : Int) := (by omega); have q277 : 1 < (t274.length : Int) := of_decide_eq_true AS; obtain ⟨ad277, e277, hx277_0⟩ := Kd.at_int (Kd.R_reads' HO276.out).2.2 1 p277 q277; cases e277; (try simp only [show (1 : Int).toNat = 1 from rfl, Nat.reduceMul, Nat.reduceEqDiff, Go.Addr.add, ↓reduceIte] at hx277_0); have qi277 : (1 < t274.length) = True := eq_true (by omega); (try rw [show ((1 : Int)).toNat = 1 from rfl] at hx277_0); replace p277 := eq_true p277; replace q277 := eq_true q277; have p278 : 0 ≤ (2 : Int) := (by omega); have q278 : 2 < (t274.length : Int) := of_decide_eq_true AS; obtain ⟨ad278, e278, hx278_0⟩ := Kd.at_int (Kd.R_reads' HO276.out).2.2 2 p278 q278; obtain rfl : ad277 = ad278 := (by injection e278); (try simp only [show (2 : Int).toNat = 2 from rfl, Nat.reduceMul, Nat.reduceEqDiff, Go.Addr.add, ↓reduceIte] at hx278_0); have qi278 : (2 < t274.length) = True := eq_true (by omega); (try rw [show ((2 : Int)).toNat = 2 from rfl] at hx278_0); replace p278 := eq_true p278; replace q278 := eq_true q278))
   repeat (go_quiet (first | (go_at_call 75; (with_reducible refine (spec_meAt.calls k a0 a1 t274 _ A3.out).mono ?_); rintro e w6 ⟨v275, rfl, ho0, hb⟩; have n0_ := Aside0.mk (Kd.R_lower ho0 (below_size BB)); have n1_ := Aside0.mk (below_step BB hb); clear HB; have HO276 := n0_; have HB := n1_; clear n0_ n1_; (try clear hb); (try clear hb2); (try clear hk); (try clear hi); (try clear ho0); obtain ⟨Ao7, co7, eo7⟩ := Kd.R_slice HO276.out; subst eo7; have p277 : 0 ≤ (1 : Int) := (by omega); have q277 : 1 < (t274.length : Int) := of_decide_eq_true AS; obtain ⟨ad277, e277, hx277_0⟩ := Kd.at_int (Kd.R_reads' HO276.out).2.2 1 p277 q277; cases e277; (try simp only [show (1 : Int).toNat = 1 from rfl, Nat.reduceMul, Nat.reduceEqDiff, Go.Addr.add, ↓reduceIte] at hx277_0); have qi277 : (1 < t274.length) = True := eq_true (by omega); (try rw [show ((1 : Int)).toNat = 1 from rfl] at hx277_0); replace p277 := eq_true p277; replace q277 := eq_true q277; have p278 : 0 ≤ (2 : Int) := (by omega); have q278 : 2 < (t274.length : Int) := of_decide_eq_true AS; obtain ⟨ad278, e278, hx278_0⟩ := Kd.at_int (Kd.R_reads' HO276.out).2.2 2 p278 q278; obtain rfl : ad277 = ad278 := (by injection e278); (try simp only [show (2 : Int).toNat = 2 from rfl, Nat.reduceMul, Nat.reduceEqDiff, Go.Addr.add, ↓reduceIte] at hx278_0); have qi278 : (2 < t274.length) = True := eq_true (by omega); (try rw [show ((2 : Int)).toNat = 2 from rfl] at hx278_0); replace p278 := eq_true p278; replace q278 := eq_true q278)); try go_wp2_with (first | (go_at_call 75; (with_reducible refine (spec_meAt.calls k a0 a1 t274 _ A3.out).mono ?_); rintro e w6 ⟨v275, rfl, ho0, hb⟩; have n0_ := Aside0.mk (Kd.R_lower ho0 (below_size BB)); have n1_ := Aside0.mk (below_step BB hb); clear HB; have HO276 := n0_; have HB := n1_; clear n0_ n1_; (try clear hb); (try clear hb2); (try clear hk); (try clear hi); (try clear ho0); obtain ⟨Ao7, co7, eo7⟩ := Kd.R_slice HO276.out; subst eo7; have p277 : 0 ≤ (1 : Int) := (by omega); have q277 : 1 < (t274.length : Int) := of_decide_eq_true AS; obtain ⟨ad277, e277, hx277_0⟩ := Kd.at_int (Kd.R_reads' HO276.out).2.2 1 p277 q277; cases e277; (try simp only [show (1 : Int).toNat = 1 from rfl, Nat.reduceMul, Nat.reduceEqDiff, Go.Addr.add, ↓reduceIte] at hx277_0); have qi277 : (1 < t274.length) = True := eq_true (by omega); (try rw [show ((1 : Int)).toNat = 1 from rfl] at hx277_0); replace p277 := eq_true p277; replace q277 := eq_true q277; have p278 : 0 ≤ (2 : Int) := (by omega); have q278 : 2 < (t274.length : Int) := of_decide_eq_true AS; obtain ⟨ad278, e278, hx278_0⟩ := Kd.at_int (Kd.R_reads' HO276.out).2.2 2 p278 q278; obtain rfl : ad277 = ad278 := (by injection e278); (try simp only [show (2 : Int).toNat = 2 from rfl, Nat.reduceMul, Nat.reduceEqDiff, Go.Addr.add, ↓reduceIte] at hx278_0); have qi278 : (2 < t274.length) = True := eq_true (by omega); (try rw [show ((2 : Int)).toNat = 2 from rfl] at hx278_0); replace p278 := eq_true p278; replace q278 := eq_true q278)))
   go_ret
   exact ⟨RE, BB⟩
  ·rw [if_neg c5] at H
   cases H
 ·rw [if_neg c4] at H
  cases H

/-! ### spec_ckPieces: function 104 -/
mutual
def spec_ckPieces.l0 : Nat → List Int → List Int → Int → List Int → Int → Int → Option (List Int)
 | 0, _, _, _, _, _, _ => none
 | k + 1, x1, x7, x8, x14, x15, x16 => if x16 < x15 then (if 0 ≤ x16 then (if x16 < (x14.length : Int) then (spec_ckPieces.l1 k x1 x7 x8 x16 (rd x14 x16) x14 x15 x16) else (none)) else (none)) else (some x7)
def spec_ckPieces.l1 : Nat → List Int → List Int → Int → Int → Int → List Int → Int → Int → Option (List Int)
 | 0, _, _, _, _, _, _, _, _ => none
 | k + 1, x1, x7, x8, x9, x10, x14, x15, x16 => if x10 > 0 then (if 0 ≤ x9 then (if x9 < (x7.length : Int) then (if 0 ≤ x8 then (if x8 < (x1.length : Int) then (spec_ckPieces.l1 k x1 (x7.set (x9 : Int).toNat (wrap64 ((rd x7 x9) + (rd x1 x8)))) (wrap64 (x8 + 1)) x9 (wrap64 (x10 - 1)) x14 x15 x16) else (none)) else (none)) else (none)) else (none)) else (spec_ckPieces.l0 k x1 x7 x8 x14 x15 (wrap64 (x16 + 1)))
end
def spec_ckPieces.f (k : Nat) (a0 : Int) (l1 : List Int) (a2 : Int) : Option (List Int) := (spec_meAt.f k a0 a2).bind fun t282 => (spec_ckPieces.l0 k l1 (([0, 0, 0] : List Int)) 0 t282 (t282.length : Int) 0)
theorem spec_ckPieces.mono_l : ∀ k, (∀ y0 y1 y2 y3 y4 y5, LeO (spec_ckPieces.l0 k y0 y1 y2 y3 y4 y5) (spec_ckPieces.l0 (k + 1) y0 y1 y2 y3 y4 y5)) ∧ (∀ y0 y1 y2 y3 y4 y5 y6 y7, LeO (spec_ckPieces.l1 k y0 y1 y2 y3 y4 y5 y6 y7) (spec_ckPieces.l1 (k + 1) y0 y1 y2 y3 y4 y5 y6 y7))
 | 0 => ⟨fun _ _ _ _ _ _ r h => by simp [spec_ckPieces.l0] at h, fun _ _ _ _ _ _ _ _ r h => by simp [spec_ckPieces.l1] at h⟩
 | k + 1 => by
  obtain ⟨ih0, ih1⟩ := spec_ckPieces.mono_l k
  refine ⟨?_, ?_⟩
  ·intro y0 y1 y2 y3 y4 y5
   unfold spec_ckPieces.l0
   repeat' first
   | with_reducible first | exact ih0 _ _ _ _ _ _ | exact ih1 _ _ _ _ _ _ _ _ | exact spec_meAt.mono _ _ _ | exact LeO.refl _ | exact LeO.none _ | refine LeO.ite ?_ ?_ | refine LeO.bind ?_ (fun _ => ?_)
   | exact LeO.none _ | refine LeO.ite ?_ ?_ | refine LeO.bind ?_ (fun _ => ?_)
  ·intro y0 y1 y2 y3 y4 y5 y6 y7
   unfold spec_ckPieces.l1
   repeat' first
   | with_reducible first | exact ih0 _ _ _ _ _ _ | exact ih1 _ _ _ _ _ _ _ _ | exact spec_meAt.mono _ _ _ | exact LeO.refl _ | exact LeO.none _ | refine LeO.ite ?_ ?_ | refine LeO.bind ?_ (fun _ => ?_)
   | exact LeO.none _ | refine LeO.ite ?_ ?_ | refine LeO.bind ?_ (fun _ => ?_)
theorem spec_ckPieces.mono : ∀ a0 a1 a2 k, LeO (spec_ckPieces.f k a0 a1 a2) (spec_ckPieces.f (k + 1) a0 a1 a2) := by
 intro a0 a1 a2 k
 obtain ⟨ih0, ih1⟩ := spec_ckPieces.mono_l k
 unfold spec_ckPieces.f
 repeat' first
   | with_reducible first | exact ih0 _ _ _ _ _ _ | exact ih1 _ _ _ _ _ _ _ _ | exact spec_meAt.mono _ _ _ | exact LeO.refl _ | exact LeO.none _ | refine LeO.ite ?_ ?_ | refine LeO.bind ?_ (fun _ => ?_)
   | exact LeO.none _ | refine LeO.ite ?_ ?_ | refine LeO.bind ?_ (fun _ => ?_)
def spec_ckPieces.T8 : Bool × List (List Nat × List Nat) := (true, [([], []), ([], []), ([0, 1], [0, 1]), ([2], [2]), ([], []), ([], []), ([4, 5], [4, 5]), ([6], [6]), ([3, 7], [3, 7]), ([0, 1, 0, 1, 2, 3, 4, 5, 6, 7, 8], [0, 1]), ([9, 8, 0, 1, 2, 3, 4, 5, 6, 7, 8], [8, 9])])
def spec_ckPieces.B8 : List Nat := [0, 0, 3, 7, 0, 0, 48, 112, 255, 511, 1023]
theorem spec_ckPieces.tab8 : rtab .any (opsOf Try.f104 8) = spec_ckPieces.T8 := by kernel_rfl
theorem spec_ckPieces.bits8 : waitsOk spec_ckPieces.T8.2 spec_ckPieces.B8 = true := by kernel_rfl
theorem spec_ckPieces.calls (k : Nat) (a0 : Int) (A1 : Option Addr) (c1 : Nat) (l1 : List Int) (a2 : Int) (r : List Int) (w : World) (hr1 : Kd.C (Kd.int .i64) w A1 l1.length l1) (hc1 : l1.length ≤ c1) (h : spec_ckPieces.f k a0 l1 a2 = some r) :
  Calls Try.prog 104 #[.int .i64 a0, .slice A1 l1.length c1, .int .i64 a2] w fun e w' => ∃ v0_ : Value, e = .returned (v0_) ∧ Kd.R (Kd.int .i64) 3 w' w.heap.size (fun _ => True) v0_ r ∧ Below w.heap.size w w' := by
 have HR1 := Aside0.mk hr1
 have HC1 := Aside0.mk hc1
 clear hr1 hc1
 have HB := Aside0.mk (Below.refl w.heap.size w)
 have H : ((spec_meAt.f k a0 a2).bind fun t282 => (spec_ckPieces.l0 k l1 (([0, 0, 0] : List Int)) 0 t282 (t282.length : Int) 0)) = some r := h
 clear h
 obtain ⟨y279, hy279⟩ : ∃ y_ : List Int, y_ = (([0, 0, 0] : List Int)) := ⟨_, rfl⟩
 replace H : ((spec_meAt.f k a0 a2).bind fun t282 => (spec_ckPieces.l0 k l1 y279 0 t282 (t282.length : Int) 0)) = some r := HY H hy279
 have Ny279 := Aside0.mk hy279
 clear hy279
 obtain ⟨t282, A40, H⟩ := Option.bind_eq_some_iff.mp H
 have A4 := Aside0.mk A40
 clear A40
 have H' := Aside0.mk H
 clear H
 go_enter Try.func104, Try.ntmps104
 go_wp2_with (first | ((with_reducible refine gate_dst (N := 11) rfl ?_); refine Kd.R_lit (Kd.int .i64) _ 3 ?hg (N := 11) ?hd (xs := ([0, 0, 0] : List Int)) (inner := [.int .i64 0, .int .i64 0, .int .i64 0]) (ok := fun _ => True) (okp := fun _ => True) ?hr ?hp (fun _ hk => hk) trivial (Below.refl _ _) (Nat.le_refl _) (by simp) ?_; (case hd => rfl); (case hg => rfl); (case hr => exact GS); (case hp => exact (Reps.one (show Kd.M (Kd.int .i64) _ _ _ 0 [.int .i64 0] from rfl) (Reps.one (show Kd.M (Kd.int .i64) _ _ _ 0 [.int .i64 0] from rfl) (Reps.one (show Kd.M (Kd.int .i64) _ _ _ 0 [.int .i64 0] from rfl) (Reps.none _ _))))); intro v280 w5 ho6 hb hg_ hnew_; clear hg_ hnew_; (first | rw [← Ny279.out] at ho6 | (simp only [Int.reduceToNat] at ho6; rw [← Ny279.out] at ho6)); have n0_ := Aside0.mk (Kd.R_lower ho6 (below_size BB)); have n1_ := Aside0.mk (below_step BB hb); clear HB; have HO281 := n0_; have HB := n1_; clear n0_ n1_; clear hb ho6) | ((with_reducible refine gate_callee (f := 75) rfl ?_); refine goesL_ (some 14) rfl rfl Try.func75 (by kernel_rfl) rfl #[.int .i64 a0, .int .i64 a2] rfl TA ?_; (with_reducible refine (spec_meAt.calls k a0 a2 t282 _ A4.out).mono ?_); rintro e w7 ⟨v283, rfl, ho0, hb⟩; refine ⟨_, rfl, ?_⟩; have n0_ := Aside0.mk (Kd.R_elder' (KR HO281) (Kd.R_base ho0) hb); have n1_ := Aside0.mk (Kd.R_lower (Kd.R_new' ho0 (Kd.R_lt (KR HO281))) (below_size BB)); have n2_ := Aside0.mk (below_step BB hb); clear HO281; clear HB; have HO281 := n0_; have HO284 := n1_; have HB := n2_; clear n0_ n1_ n2_; (try clear hb); (try clear hb2); (try clear hk); (try clear hi); (try clear ho0); obtain ⟨Ao8, co8, eo8⟩ := Kd.R_slice HO284.out; subst eo8))
 go_loopg [8, 16] k (fun kq v8 v16 w' => ∃ (x7_1 : List Int) (x8_1 : Int) (x16_1 : Int), v8 = .int .i64 x8_1 ∧ v16 = .int .i64 x16_1 ∧ Aside0 (spec_ckPieces.l0 kq l1 x7_1 x8_1 t282 (t282.length : Int) x16_1 = some r) ∧ Aside0 (kq ≤ k) ∧ Aside0 (Kd.R (Kd.int .i64) 3 w' w.heap.size (fun k_ => some k_ ≠ ((.slice Ao8 t282.length co8) : Value).ownBlock) v280 x7_1) ∧ Aside0 (Kd.R (Kd.int .i64) 3 w' w.heap.size (fun k_ => some k_ ≠ (v280 : Value).ownBlock) (.slice Ao8 t282.length co8) t282) ∧ Aside0 (Below w.heap.size w w'))
 case atStart => exact ⟨(y279), (0), (0), RF, RF, H', ⟨Nat.le_refl _⟩, ⟨by (with_reducible repeat (first | apply Kd.R_alloc | apply Kd.R_drewN | apply Kd.R_drew)); exact Kd.R_mono HO281.out (fun _ hk => hk.2)⟩, ⟨by (with_reducible repeat (first | apply Kd.R_alloc | apply Kd.R_drewN | apply Kd.R_drew)); exact Kd.R_mono HO284.out (fun _ hk => hk.2)⟩, ⟨BB⟩⟩
 case round =>
  clear H'
  try clear c1
  try clear p2
  try clear p6
  try clear c7
  obtain ⟨x7_1, x8_1, x16_1, rfl, rfl, HA, HK1, HO_7, HO_14, HB⟩ := hrel
  cases gk with
  | zero => exact absurd HA.out (by simp [spec_ckPieces.l0])
  | succ k1 =>
   have H := HA.out
   clear HA
   simp only [spec_ckPieces.l0] at H
   by_cases c9 : x16_1 < (t282.length : Int)
   ·rw [if_pos c9] at H
    have c9b0 : decide (x16_1 < (t282.length : Int)) = true := decide_eq_true c9
    clear c9
    by_cases c10 : 0 ≤ x16_1
    ·rw [if_pos c10] at H
     have c10b0 : decide (0 ≤ x16_1) = true := decide_eq_true c10
     clear c10
     by_cases c11 : x16_1 < (t282.length : Int)
     ·rw [if_pos c11] at H
      have c11b0 : decide (x16_1 < (t282.length : Int)) = true := decide_eq_true c11
      clear c11
      have H' := Aside0.mk H
      clear H
      have p285 : 0 ≤ (x16_1 : Int) := of_decide_eq_true AS
      have q285 : x16_1 < (t282.length : Int) := of_decide_eq_true AS
      obtain ⟨ad285, e285, hx285_0⟩ := Kd.at_int (Kd.R_reads' HO_14.out).2.2 x16_1 p285 q285
      cases e285
      replace p285 := eq_true p285
      replace q285 := eq_true q285
      go_wp2
      go_loopg [8, 10] k1 (fun kq v8 v10 w' => ∃ (x7_2 : List Int) (x8_2 : Int) (x10_2 : Int), v8 = .int .i64 x8_2 ∧ v10 = .int .i64 x10_2 ∧ Aside0 (spec_ckPieces.l1 kq l1 x7_2 x8_2 x16_1 x10_2 t282 (t282.length : Int) x16_1 = some r) ∧ Aside0 (kq ≤ k1) ∧ Aside0 (Kd.R (Kd.int .i64) 3 w' w.heap.size (fun k_ => some k_ ≠ ((.slice (some ad285) t282.length co8) : Value).ownBlock) v280 x7_2) ∧ Aside0 (Kd.R (Kd.int .i64) 3 w' w.heap.size (fun k_ => some k_ ≠ (v280 : Value).ownBlock) (.slice (some ad285) t282.length co8) t282) ∧ Aside0 (Below w.heap.size w w'))
      case atStart => exact ⟨(x7_1), (x8_1), (rd t282 x16_1), RF, RF, H', ⟨Nat.le_refl _⟩, ⟨KR HO_7⟩, ⟨KR HO_14⟩, ⟨BB⟩⟩
      case round =>
       clear H'
       try clear c1
       try clear p2
       try clear q2
       try clear hx2
       try clear p6
       try clear c7
       try clear c9
       try clear c9b0
       try clear c10
       try clear c10b0
       try clear c11
       try clear c11b0
       try clear hx285_0
       try clear p2
       try clear p285
       try clear p6
       try clear q285
       obtain ⟨x7_2, x8_2, x10_2, rfl, rfl, HA, HK2, HO_7, HO_14, HB⟩ := hrel
       cases gk with
       | zero => exact absurd HA.out (by simp [spec_ckPieces.l1])
       | succ k2 =>
        have H := HA.out
        clear HA
        simp only [spec_ckPieces.l1] at H
        by_cases c12 : x10_2 > 0
        ·rw [if_pos c12] at H
         have c12b0 : decide (0 < x10_2) = true := decide_eq_true c12
         clear c12
         by_cases c13 : 0 ≤ x16_1
         ·rw [if_pos c13] at H
          have c13b0 : decide (0 ≤ x16_1) = true := decide_eq_true c13
          clear c13
          by_cases c14 : x16_1 < (x7_2.length : Int)
          ·rw [if_pos c14] at H
           have c14b0 : decide (x16_1 < (x7_2.length : Int)) = true := decide_eq_true c14
           clear c14
           by_cases c15 : 0 ≤ x8_2
           ·rw [if_pos c15] at H
            have c15b0 : decide (0 ≤ x8_2) = true := decide_eq_true c15
            clear c15
            by_cases c16 : x8_2 < (l1.length : Int)
            ·rw [if_pos c16] at H
             have c16b0 : decide (x8_2 < (l1.length : Int)) = true := decide_eq_true c16
             clear c16
             obtain ⟨y288, hy288⟩ : ∃ y_ : List Int, y_ = (x7_2.set (x16_1 : Int).toNat (wrap64 ((rd x7_2 x16_1) + (rd l1 x8_2)))) := ⟨_, rfl⟩
             replace H : (spec_ckPieces.l1 k2 l1 y288 (wrap64 (x8_2 + 1)) x16_1 (wrap64 (x10_2 - 1)) t282 (t282.length : Int) x16_1) = some r := HY H hy288
             have Ny288 := Aside0.mk hy288
             clear hy288
             have H' := Aside0.mk H
             clear H
             try go_wp2
             have n0_ := Aside0.mk (Kd.R_drew HO_7.out)
             have n1_ := Aside0.mk (Kd.R_drew HO_14.out)
             have n2_ := Aside0.mk (below_drew1 HB.out)
             clear HO_7
             clear HO_14
             clear HB
             have HO_7 := n0_
             have HO_14 := n1_
             have HB := n2_
             clear n0_ n1_ n2_
             obtain ⟨Ao19, co19, eo19⟩ := Kd.R_slice HO_7.out
             (first | subst eo19 | (injection eo19 with f1_ f2_ f3_; have f4_ := f1_.symm; have f5_ := f3_.symm; clear f1_ f2_ f3_; subst f4_; subst f5_))
             have p286 : 0 ≤ (x16_1 : Int) := of_decide_eq_true AS
             have q286 : x16_1 < (x7_2.length : Int) := of_decide_eq_true AS
             obtain ⟨ad286, e286, hx286_0⟩ := Kd.at_int (Kd.R_reads' HO_7.out).2.2 x16_1 p286 q286
             cases e286
             replace p286 := eq_true p286
             replace q286 := eq_true q286
             have p287 : 0 ≤ (x8_2 : Int) := of_decide_eq_true AS
             have q287 : x8_2 < (l1.length : Int) := of_decide_eq_true AS
             obtain ⟨ad287, e287, hx287_0⟩ := Kd.at_int HR1.out x8_2 p287 q287
             have hw287_0 := hx287_0
             cases e287
             try (replace hx287_0 := (HB.out.cell (World.block_lt_of_cell? w _ hx287_0)).trans hx287_0)
             replace p287 := eq_true p287
             replace q287 := eq_true q287
             have p17 : 0 ≤ (x16_1 : Int) := of_decide_eq_true AS
             have q17 : (x16_1 : Int) < ((x7_2.length : Int) : Int) := of_decide_eq_true AS
             obtain ⟨go17, co17, eo17, gb17, gl17, cl17, HG17⟩ := Kd.R_form HO_7.out (by omega)
             (first | cases eo17 | (injection eo17 with ea_ en_ ec_; (first | subst ea_ | (injection ea_ with ea_; subst ea_)); subst ec_; clear en_))
             have GB17 := Aside0.mk gb17
             have GG17 := Aside0.mk HG17
             clear gb17 gl17 HG17
             (first | simp only [add_plain] at hx286_0 | skip)
             obtain ⟨hx17_0, hf17_0⟩ := Kd.R_celln 0 HO_7.out (x16_1 : Int) p17 q17
             replace p17 := eq_true p17
             replace q17 := eq_true q17
             have HP20 := Kd.R_putn HO_7.out (x16_1 : Int) (wrap64 ((rd x7_2 x16_1) + (rd l1 x8_2)))
             rw [← Ny288.out] at HP20
             have HQ20 := Aside0.mk HP20
             clear HP20
             refine start_ (n := 11) (S := fun w' => w'.cell? ⟨go17, (x16_1).toNat, none⟩ = some (.int .i64 (rd x7_2 x16_1)) ∧ w'.cell? (ad287.add (x8_2).toNat) = some (.int .i64 (rd l1 x8_2))) (ds := [10]) #[false, false, false, false, false, false, false, false, false, false, false] (by kernel_rfl) rfl rfl ⟨hx286_0, ((HB.out.cell (World.block_lt_of_cell? w _ hw287_0)).trans hw287_0)⟩ (fun hHeld => ?_); refine with_tabW spec_ckPieces.tab8 spec_ckPieces.bits8 (fun HT_ HW_ => ?_)
             generalize wr.drew = w18 at HO_7 HO_14 HB GG17 HQ20 hf17_0 hx17_0 hx286_0 hx287_0 hHeld ⊢
             refine pure_ (i := 0) (N := some 25) #[true, false, false, false, false, false, false, false, false, false, false] rfl rfl (any_of HT_.out (by kernel_rfl)) (fun _ _ _ h => h) (Or.inl ⟨by rfl, PW⟩) PU ?_
             refine pure_ (i := 1) (N := some 26) #[true, true, false, false, false, false, false, false, false, false, false] rfl rfl (any_of HT_.out (by kernel_rfl)) (fun _ _ _ h => h) (Or.inl ⟨by rfl, PW⟩) PU ?_
             refine pure_ (i := 2) (N := some 27) #[true, true, true, false, false, false, false, false, false, false, false] rfl rfl (any_of HT_.out (by kernel_rfl)) (fun _ _ _ h => h) (Or.inl ⟨by rfl, PW⟩) PU ?_
             refine pure_ (i := 4) (N := some 29) #[true, true, true, false, true, false, false, false, false, false, false] rfl rfl (any_of HT_.out (by kernel_rfl)) (fun _ _ _ h => h) (Or.inl ⟨by rfl, PW⟩) PU ?_
             refine pure_ (i := 5) (N := some 30) #[true, true, true, false, true, true, false, false, false, false, false] rfl rfl (any_of HT_.out (by kernel_rfl)) (fun _ _ _ h => h) (Or.inl ⟨by rfl, PW⟩) PU ?_
             refine pure_ (i := 6) (N := some 31) #[true, true, true, false, true, true, true, false, false, false, false] rfl rfl (any_of HT_.out (by kernel_rfl)) (fun _ _ _ h => h) (Or.inl ⟨by rfl, PW⟩) PU ?_
             refine take_ (i := 3) (N := some 28) #[true, true, true, true, true, true, true, false, false, false, false] rfl rfl (take_ofW HT_.out HW_.out (by kernel_rfl)) (fun _ _ _ h => h) (Or.inl ⟨by rfl, PT⟩) hHeld PU ?_
             refine take_ (i := 7) (N := some 32) #[true, true, true, true, true, true, true, true, false, false, false] rfl rfl (take_ofW HT_.out HW_.out (by kernel_rfl)) (fun _ _ _ h => h) (Or.inl ⟨by rfl, PT⟩) hHeld PU ?_
             refine pure_ (i := 8) (N := some 33) #[true, true, true, true, true, true, true, true, true, false, false] rfl rfl (any_of HT_.out (by kernel_rfl)) (fun _ _ _ h => h) (Or.inl ⟨by rfl, PW⟩) PU ?_
             refine pure_ (i := 9) (N := some 34) #[true, true, true, true, true, true, true, true, true, true, false] rfl rfl (any_of HT_.out (by kernel_rfl)) (fun _ _ _ h => h) (Or.inl ⟨by rfl, PW⟩) PU ?_
             refine last_ (i := 10) (N := none) #[true, true, true, true, true, true, true, true, true, true, true] rfl rfl (one_of HT_.out (by kernel_rfl)) (by decide) (fun K hK => ?_)
             refine skip_ (w1 := ?_) (by rfl) rfl ?_ ?_
             rotate_left
             ·go_simp
              rfl
             refine hK.out _ _ ?_
             clear hK K
             refine done_ (done_of HT_.out (by kernel_rfl)) ?_
             try go_wp2
             go_roundg k2
             case measure => have := HK1.out; have := HK2.out; omega
             case rel => exact ⟨(y288), (wrap64 (x8_2 + 1)), (wrap64 (x10_2 - 1)), RF, RF, H', ⟨by have := HK1.out; have := HK2.out; omega⟩, ⟨by (with_reducible repeat (first | apply Kd.R_alloc | apply Kd.R_drewN | apply Kd.R_drew)); exact HQ20.out⟩, ⟨by (with_reducible repeat (first | apply Kd.R_alloc | apply Kd.R_drewN | apply Kd.R_drew)); exact Kd.R_mono (Kd.R_far (p := ⟨go17, (x16_1 : Int).toNat, none⟩) (Kd.R_mono HO_14.out (fun k_ hk => (⟨hk, fun e_ => hk (by rw [e_]; rfl)⟩ : _ ∧ k_ ≠ go17))) (fun _ hk => hk.2) (.int .i64 (wrap64 ((rd x7_2 x16_1) + (rd l1 x8_2))))) (fun _ hk => hk.1)⟩, ⟨by repeat (first | (with_reducible first | exact HB.out | apply below_alloc | apply pw_below_drewN | apply below_drew1 | refine below_set ?_ GB17.out) | exact HB.out)⟩⟩
            ·rw [if_neg c16] at H
             cases H
           ·rw [if_neg c15] at H
            cases H
          ·rw [if_neg c14] at H
           cases H
         ·rw [if_neg c13] at H
          cases H
        ·rw [if_neg c12] at H
         have c12b0 : decide (0 < x10_2) = false := decide_eq_false c12
         clear c12
         have H' := Aside0.mk H
         clear H
         go_wp2
         go_roundg k2
         case measure => have := HK1.out; have := HK2.out; omega
         case rel => exact ⟨(x7_2), (x8_2), (wrap64 (x16_1 + 1)), RF, RF, H', ⟨by have := HK1.out; have := HK2.out; omega⟩, ⟨KR HO_7⟩, ⟨KR HO_14⟩, ⟨BB⟩⟩
     ·rw [if_neg c11] at H
      cases H
    ·rw [if_neg c10] at H
     cases H
   ·rw [if_neg c9] at H
    have c9b0 : decide (x16_1 < (t282.length : Int)) = false := decide_eq_false c9
    clear c9
    obtain rfl := Option.some.inj H
    go_wp2
    go_ret
    exact ⟨_, RE, by (with_reducible repeat (first | apply Kd.R_alloc | apply Kd.R_drewN | apply Kd.R_drew)); exact Kd.R_mono HO_7.out (fun _ hk => trivial), BB⟩

/-! ### spec_ckFavourite: function 84 -/
def spec_ckFavourite.l0 : Nat → List Int → Int → List Int → Int → Int → Option (Int)
 | 0, _, _, _, _, _ => none
 | k + 1, x7, x8, x17, x18, x19 => if x19 < x18 then (if 0 ≤ x19 then (if x19 < (x17.length : Int) then (if (rd x17 x19) > 0 then (if x8 < 0 then (spec_ckFavourite.l0 k x7 x19 x17 x18 (wrap64 (x19 + 1))) else (if x19 < (x7.length : Int) then (if 0 ≤ x8 then (if x8 < (x7.length : Int) then (if (rd x7 x19) > (rd x7 x8) then (spec_ckFavourite.l0 k x7 x19 x17 x18 (wrap64 (x19 + 1))) else (spec_ckFavourite.l0 k x7 x8 x17 x18 (wrap64 (x19 + 1)))) else (none)) else (none)) else (none))) else (spec_ckFavourite.l0 k x7 x8 x17 x18 (wrap64 (x19 + 1)))) else (none)) else (none)) else (some x8)
def spec_ckFavourite.f (k : Nat) (a0 : Int) (l1 : List Int) (a2 : Int) : Option (Int) := (spec_ckPieces.f k a0 l1 a2).bind fun t289 => ((spec_meAt.f k a0 a2).bind fun t292 => (spec_ckFavourite.l0 k t289 (-1) t292 (t292.length : Int) 0))
theorem spec_ckFavourite.mono_l : ∀ k, (∀ y0 y1 y2 y3 y4, LeO (spec_ckFavourite.l0 k y0 y1 y2 y3 y4) (spec_ckFavourite.l0 (k + 1) y0 y1 y2 y3 y4))
 | 0 => fun _ _ _ _ _ r h => by simp [spec_ckFavourite.l0] at h
 | k + 1 => by
  have ih0 := spec_ckFavourite.mono_l k
  ·intro y0 y1 y2 y3 y4
   unfold spec_ckFavourite.l0
   repeat' first
   | with_reducible first | exact ih0 _ _ _ _ _ | exact spec_ckPieces.mono _ _ _ _ | exact spec_meAt.mono _ _ _ | exact LeO.refl _ | exact LeO.none _ | refine LeO.ite ?_ ?_ | refine LeO.bind ?_ (fun _ => ?_)
   | exact LeO.none _ | refine LeO.ite ?_ ?_ | refine LeO.bind ?_ (fun _ => ?_)
theorem spec_ckFavourite.mono : ∀ a0 a1 a2 k, LeO (spec_ckFavourite.f k a0 a1 a2) (spec_ckFavourite.f (k + 1) a0 a1 a2) := by
 intro a0 a1 a2 k
 have ih0 := spec_ckFavourite.mono_l k
 unfold spec_ckFavourite.f
 repeat' first
   | with_reducible first | exact ih0 _ _ _ _ _ | exact spec_ckPieces.mono _ _ _ _ | exact spec_meAt.mono _ _ _ | exact LeO.refl _ | exact LeO.none _ | refine LeO.ite ?_ ?_ | refine LeO.bind ?_ (fun _ => ?_)
   | exact LeO.none _ | refine LeO.ite ?_ ?_ | refine LeO.bind ?_ (fun _ => ?_)
theorem spec_ckFavourite.calls (k : Nat) (a0 : Int) (A1 : Option Addr) (c1 : Nat) (l1 : List Int) (a2 : Int) (r : Int) (w : World) (hr1 : Kd.C (Kd.int .i64) w A1 l1.length l1) (hc1 : l1.length ≤ c1) (h : spec_ckFavourite.f k a0 l1 a2 = some r) :
  Calls Try.prog 84 #[.int .i64 a0, .slice A1 l1.length c1, .int .i64 a2] w fun e w' => e = .returned (.int .i64 r) ∧ Below w.heap.size w w' := by
 have HR1 := Aside0.mk hr1
 have HC1 := Aside0.mk hc1
 clear hr1 hc1
 have HB := Aside0.mk (Below.refl w.heap.size w)
 have H : ((spec_ckPieces.f k a0 l1 a2).bind fun t289 => ((spec_meAt.f k a0 a2).bind fun t292 => (spec_ckFavourite.l0 k t289 (-1) t292 (t292.length : Int) 0))) = some r := h
 clear h
 obtain ⟨t289, A40, H⟩ := Option.bind_eq_some_iff.mp H
 have A4 := Aside0.mk A40
 clear A40
 obtain ⟨t292, A50, H⟩ := Option.bind_eq_some_iff.mp H
 have A5 := Aside0.mk A50
 clear A50
 have H' := Aside0.mk H
 clear H
 go_enter Try.func84, Try.ntmps84
 go_wp2_with (first | (go_at_call 104; (with_reducible refine (spec_ckPieces.calls k a0 _ _ l1 a2 t289 _ ?side1 ?side2 A4.out).mono ?_); (case side1 => exact CW HR1.out); (case side2 => exact HC1.out); rintro e w6 ⟨v290, rfl, ho0, hb⟩; have n0_ := Aside0.mk (Kd.R_lower ho0 (below_size BB)); have n1_ := Aside0.mk (below_step BB hb); clear HB; have HO291 := n0_; have HB := n1_; clear n0_ n1_; (try clear hb); (try clear hb2); (try clear hk); (try clear hi); (try clear ho0)) | (go_at_call 75; (with_reducible refine (spec_meAt.calls k a0 a2 t292 _ A5.out).mono ?_); rintro e w7 ⟨v293, rfl, ho0, hb⟩; have n0_ := Aside0.mk (Kd.R_elder' (KR HO291) (Kd.R_base ho0) hb); have n1_ := Aside0.mk (Kd.R_lower (Kd.R_new' ho0 (Kd.R_lt (KR HO291))) (below_size BB)); have n2_ := Aside0.mk (below_step BB hb); clear HO291; clear HB; have HO291 := n0_; have HO294 := n1_; have HB := n2_; clear n0_ n1_ n2_; (try clear hb); (try clear hb2); (try clear hk); (try clear hi); (try clear ho0); obtain ⟨Ao8, co8, eo8⟩ := Kd.R_slice HO294.out; subst eo8))
 repeat (go_quiet (first | (go_at_call 104; (with_reducible refine (spec_ckPieces.calls k a0 _ _ l1 a2 t289 _ ?side1 ?side2 A4.out).mono ?_); (case side1 => exact CW HR1.out); (case side2 => exact HC1.out); rintro e w6 ⟨v290, rfl, ho0, hb⟩; have n0_ := Aside0.mk (Kd.R_lower ho0 (below_size BB)); have n1_ := Aside0.mk (below_step BB hb); clear HB; have HO291 := n0_; have HB := n1_; clear n0_ n1_; (try clear hb); (try clear hb2); (try clear hk); (try clear hi); (try clear ho0)) | (go_at_call 75; (with_reducible refine (spec_meAt.calls k a0 a2 t292 _ A5.out).mono ?_); rintro e w7 ⟨v293, rfl, ho0, hb⟩; have n0_ := Aside0.mk (Kd.R_elder' (KR HO291) (Kd.R_base ho0) hb); have n1_ := Aside0.mk (Kd.R_lower (Kd.R_new' ho0 (Kd.R_lt (KR HO291))) (below_size BB)); have n2_ := Aside0.mk (below_step BB hb); clear HO291; clear HB; have HO291 := n0_; have HO294 := n1_; have HB := n2_; clear n0_ n1_ n2_; (try clear hb); (try clear hb2); (try clear hk); (try clear hi); (try clear ho0); obtain ⟨Ao8, co8, eo8⟩ := Kd.R_slice HO294.out; subst eo8)); try go_wp2_with (first | (go_at_call 104; (with_reducible refine (spec_ckPieces.calls k a0 _ _ l1 a2 t289 _ ?side1 ?side2 A4.out).mono ?_); (case side1 => exact CW HR1.out); (case side2 => exact HC1.out); rintro e w6 ⟨v290, rfl, ho0, hb⟩; have n0_ := Aside0.mk (Kd.R_lower ho0 (below_size BB)); have n1_ := Aside0.mk (below_step BB hb); clear HB; have HO291 := n0_; have HB := n1_; clear n0_ n1_; (try clear hb); (try clear hb2); (try clear hk); (try clear hi); (try clear ho0)) | (go_at_call 75; (with_reducible refine (spec_meAt.calls k a0 a2 t292 _ A5.out).mono ?_); rintro e w7 ⟨v293, rfl, ho0, hb⟩; have n0_ := Aside0.mk (Kd.R_elder' (KR HO291) (Kd.R_base ho0) hb); have n1_ := Aside0.mk (Kd.R_lower (Kd.R_new' ho0 (Kd.R_lt (KR HO291))) (below_size BB)); have n2_ := Aside0.mk (below_step BB hb); clear HO291; clear HB; have HO291 := n0_; have HO294 := n1_; have HB := n2_; clear n0_ n1_ n2_; (try clear hb); (try clear hb2); (try clear hk); (try clear hi); (try clear ho0); obtain ⟨Ao8, co8, eo8⟩ := Kd.R_slice HO294.out; subst eo8)))
 go_loopg [8, 19] k (fun kq v8 v19 w' => ∃ (x8_1 : Int) (x19_1 : Int), v8 = .int .i64 x8_1 ∧ v19 = .int .i64 x19_1 ∧ Aside0 (spec_ckFavourite.l0 kq t289 x8_1 t292 (t292.length : Int) x19_1 = some r) ∧ Aside0 (kq ≤ k) ∧ Aside0 (Kd.R (Kd.int .i64) 3 w' w.heap.size (fun k_ => some k_ ≠ ((.slice Ao8 t292.length co8) : Value).ownBlock) v290 t289) ∧ Aside0 (Kd.R (Kd.int .i64) 3 w' w.heap.size (fun k_ => some k_ ≠ (v290 : Value).ownBlock) (.slice Ao8 t292.length co8) t292) ∧ Aside0 (Below w.heap.size w w'))
 case atStart => exact ⟨((-1)), (0), RF, RF, H', ⟨Nat.le_refl _⟩, ⟨by (with_reducible repeat (first | apply Kd.R_alloc | apply Kd.R_drewN | apply Kd.R_drew)); exact Kd.R_mono HO291.out (fun _ hk => hk.2)⟩, ⟨by (with_reducible repeat (first | apply Kd.R_alloc | apply Kd.R_drewN | apply Kd.R_drew)); exact Kd.R_mono HO294.out (fun _ hk => hk.2)⟩, ⟨BB⟩⟩
 case round =>
  clear H'
  try clear c1
  try clear p2
  try clear p6
  try clear c8
  obtain ⟨x8_1, x19_1, rfl, rfl, HA, HK1, HO_7, HO_17, HB⟩ := hrel
  cases gk with
  | zero => exact absurd HA.out (by simp [spec_ckFavourite.l0])
  | succ k1 =>
   have H := HA.out
   clear HA
   simp only [spec_ckFavourite.l0] at H
   by_cases c9 : x19_1 < (t292.length : Int)
   ·rw [if_pos c9] at H
    have c9b0 : decide (x19_1 < (t292.length : Int)) = true := decide_eq_true c9
    clear c9
    by_cases c10 : 0 ≤ x19_1
    ·rw [if_pos c10] at H
     have c10b0 : decide (0 ≤ x19_1) = true := decide_eq_true c10
     clear c10
     by_cases c11 : x19_1 < (t292.length : Int)
     ·rw [if_pos c11] at H
      have c11b0 : decide (x19_1 < (t292.length : Int)) = true := decide_eq_true c11
      clear c11
      by_cases c12 : (rd t292 x19_1) > 0
      ·rw [if_pos c12] at H
       have c12b0 : decide (0 < (rd t292 x19_1)) = true := decide_eq_true c12
       clear c12
       by_cases c13 : x8_1 < 0
       ·rw [if_pos c13] at H
        have c13b0 : decide (x8_1 < 0) = true := decide_eq_true c13
        clear c13
        have H' := Aside0.mk H
        clear H
        have p295 : 0 ≤ (x19_1 : Int) := of_decide_eq_true AS
        have q295 : x19_1 < (t292.length : Int) := of_decide_eq_true AS
        obtain ⟨ad295, e295, hx295_0⟩ := Kd.at_int (Kd.R_reads' HO_17.out).2.2 x19_1 p295 q295
        cases e295
        replace p295 := eq_true p295
        replace q295 := eq_true q295
        go_wp2
        repeat (go_quiet (fail); try go_wp2)
        go_roundg k1
        case measure => have := HK1.out; omega
        case rel => exact ⟨(x19_1), (wrap64 (x19_1 + 1)), RF, RF, H', ⟨by have := HK1.out; omega⟩, ⟨KR HO_7⟩, ⟨KR HO_17⟩, ⟨BB⟩⟩
       ·rw [if_neg c13] at H
        have c13b0 : decide (x8_1 < 0) = false := decide_eq_false c13
        clear c13
        by_cases c14 : x19_1 < (t289.length : Int)
        ·rw [if_pos c14] at H
         have c14b0 : decide (x19_1 < (t289.length : Int)) = true := decide_eq_true c14
         clear c14
         by_cases c15 : 0 ≤ x8_1
         ·rw [if_pos c15] at H
          have c15b0 : decide (0 ≤ x8_1) = true := decide_eq_true c15
          clear c15
          by_cases c16 : x8_1 < (t289.length : Int)
          ·rw [if_pos c16] at H
           have c16b0 : decide (x8_1 < (t289.length : Int)) = true := decide_eq_true c16
           clear c16
           by_cases c17 : (rd t289 x19_1) > (rd t289 x8_1)
           ·rw [if_pos c17] at H
            have c17b0 : decide ((rd t289 x8_1) < (rd t289 x19_1)) = true := decide_eq_true c17
            clear c17
            have H' := Aside0.mk H
            clear H
            have p295 : 0 ≤ (x19_1 : Int) := of_decide_eq_true AS
            have q295 : x19_1 < (t292.length : Int) := of_decide_eq_true AS
            obtain ⟨ad295, e295, hx295_0⟩ := Kd.at_int (Kd.R_reads' HO_17.out).2.2 x19_1 p295 q295
            cases e295
            replace p295 := eq_true p295
            replace q295 := eq_true q295
            obtain ⟨Ao18, co18, eo18⟩ := Kd.R_slice HO_7.out
            subst eo18
            have p296 : 0 ≤ (x19_1 : Int) := of_decide_eq_true AS
            have q296 : x19_1 < (t289.length : Int) := of_decide_eq_true AS
            obtain ⟨ad296, e296, hx296_0⟩ := Kd.at_int (Kd.R_reads' HO_7.out).2.2 x19_1 p296 q296
            cases e296
            replace p296 := eq_true p296
            replace q296 := eq_true q296
            have p297 : 0 ≤ (x8_1 : Int) := of_decide_eq_true AS
            have q297 : x8_1 < (t289.length : Int) := of_decide_eq_true AS
            obtain ⟨ad297, e297, hx297_0⟩ := Kd.at_int (Kd.R_reads' HO_7.out).2.2 x8_1 p297 q297
            obtain rfl : ad296 = ad297 := (by injection e297)
            replace p297 := eq_true p297
            replace q297 := eq_true q297
            go_wp2
            repeat (go_quiet (fail); try go_wp2)
            go_roundg k1
            case measure => have := HK1.out; omega
            case rel => exact ⟨(x19_1), (wrap64 (x19_1 + 1)), RF, RF, H', ⟨by have := HK1.out; omega⟩, ⟨KR HO_7⟩, ⟨KR HO_17⟩, ⟨BB⟩⟩
           ·rw [if_neg c17] at H
            have c17b0 : decide ((rd t289 x8_1) < (rd t289 x19_1)) = false := decide_eq_false c17
            clear c17
            have H' := Aside0.mk H
            clear H
            have p295 : 0 ≤ (x19_1 : Int) := of_decide_eq_true AS
            have q295 : x19_1 < (t292.length : Int) := of_decide_eq_true AS
            obtain ⟨ad295, e295, hx295_0⟩ := Kd.at_int (Kd.R_reads' HO_17.out).2.2 x19_1 p295 q295
            cases e295
            replace p295 := eq_true p295
            replace q295 := eq_true q295
            obtain ⟨Ao19, co19, eo19⟩ := Kd.R_slice HO_7.out
            subst eo19
            have p296 : 0 ≤ (x19_1 : Int) := of_decide_eq_true AS
            have q296 : x19_1 < (t289.length : Int) := of_decide_eq_true AS
            obtain ⟨ad296, e296, hx296_0⟩ := Kd.at_int (Kd.R_reads' HO_7.out).2.2 x19_1 p296 q296
            cases e296
            replace p296 := eq_true p296
            replace q296 := eq_true q296
            have p297 : 0 ≤ (x8_1 : Int) := of_decide_eq_true AS
            have q297 : x8_1 < (t289.length : Int) := of_decide_eq_true AS
            obtain ⟨ad297, e297, hx297_0⟩ := Kd.at_int (Kd.R_reads' HO_7.out).2.2 x8_1 p297 q297
            obtain rfl : ad296 = ad297 := (by injection e297)
            replace p297 := eq_true p297
            replace q297 := eq_true q297
            go_wp2
            repeat (go_quiet (fail); try go_wp2)
            go_roundg k1
            case measure => have := HK1.out; omega
            case rel => exact ⟨(x8_1), (wrap64 (x19_1 + 1)), RF, RF, H', ⟨by have := HK1.out; omega⟩, ⟨KR HO_7⟩, ⟨KR HO_17⟩, ⟨BB⟩⟩
          ·rw [if_neg c16] at H
           cases H
         ·rw [if_neg c15] at H
          cases H
        ·rw [if_neg c14] at H
         cases H
      ·rw [if_neg c12] at H
       have c12b0 : decide (0 < (rd t292 x19_1)) = false := decide_eq_false c12
       clear c12
       have H' := Aside0.mk H
       clear H
       have p295 : 0 ≤ (x19_1 : Int) := of_decide_eq_true AS
       have q295 : x19_1 < (t292.length : Int) := of_decide_eq_true AS
       obtain ⟨ad295, e295, hx295_0⟩ := Kd.at_int (Kd.R_reads' HO_17.out).2.2 x19_1 p295 q295
       cases e295
       replace p295 := eq_true p295
       replace q295 := eq_true q295
       go_wp2
       repeat (go_quiet (fail); try go_wp2)
       go_roundg k1
       case measure => have := HK1.out; omega
       case rel => exact ⟨(x8_1), (wrap64 (x19_1 + 1)), RF, RF, H', ⟨by have := HK1.out; omega⟩, ⟨KR HO_7⟩, ⟨KR HO_17⟩, ⟨BB⟩⟩
     ·rw [if_neg c11] at H
      cases H
    ·rw [if_neg c10] at H
     cases H
   ·rw [if_neg c9] at H
    have c9b0 : decide (x19_1 < (t292.length : Int)) = false := decide_eq_false c9
    clear c9
    obtain rfl := Option.some.inj H
    go_wp2
    repeat (go_quiet (fail); try go_wp2)
    go_ret
    exact ⟨RE, BB⟩

end Go.Proofs.Ytgpplbaloajgdab.PFnExactFairCell
