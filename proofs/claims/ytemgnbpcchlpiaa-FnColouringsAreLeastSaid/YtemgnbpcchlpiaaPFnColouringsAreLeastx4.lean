-- Written by a program of this session (wip/tools/pp.sh) out of the translation; Lean checks it.
import Derived.Test.YtemgnbpcchlpiaaPFnColouringsAreLeastx0
import Derived.Test.YtemgnbpcchlpiaaPFnColouringsAreLeastx1
import Derived.Test.YtemgnbpcchlpiaaPFnColouringsAreLeastx2
import Derived.Test.YtemgnbpcchlpiaaPFnColouringsAreLeastx3
namespace Go.Proofs.Ytemgnbpcchlpiaa.PFnColouringsAreLeast
open Go.RowKit Go.Proofs.YtemgnbpcchlpiaaOwn Go.Proofs.YtemgnbpcchlpiaaW.PrintWords Go.Proofs.YtemgnbpcchlpiaaW.PrintLast Go.Proofs.YtemgnbpcchlpiaaW.PrintMore
attribute [local go_sem] max2_int min2_int max_two min_two max_three min_three max_four min_four   -- for this text's walks alone
set_option linter.unusedVariables false
set_option maxHeartbeats 8000000
set_option maxRecDepth 100000
set_option linter.unusedSimpArgs false

/-! ### impl_FewestColours: function 19 -/
def impl_FewestColours.f (a0 : Int) (a1 : Int) : Option (Int × Bool) := (impl_areItems.f a0 a1).bind fun t223 => (if t223 = true then ((impl_fewest.f a0 a1).bind fun t224 => (some (t224, true))) else (some (0, false)))
theorem impl_FewestColours.calls (a0 : Int) (a1 : Int) (r1 : Int) (r2 : Bool) (w : World) (h : impl_FewestColours.f a0 a1 = some (r1, r2)) :
  Calls Try.prog 19 #[.int .i64 a0, .int .i64 a1] w fun e w' => e = .returned (.tuple #[.int .i64 r1, .bool r2]) ∧ Drawn0 w w' := by
 have H : ((impl_areItems.f a0 a1).bind fun t223 => (if t223 = true then ((impl_fewest.f a0 a1).bind fun t224 => (some (t224, true))) else (some (0, false)))) = some (r1, r2) := h
 clear h
 obtain ⟨t223, A30, H⟩ := Option.bind_eq_some_iff.mp H
 have A3 := Aside0.mk A30
 clear A30
 by_cases c4 : t223 = true
 ·subst c4
  replace H := IP H
  obtain ⟨t224, A50, H⟩ := Option.bind_eq_some_iff.mp H
  have A5 := Aside0.mk A50
  clear A50
  simp only [Option.some.injEq, Prod.mk.injEq] at H
  obtain ⟨rfl, rfl⟩ := H
  go_enter Try.func19, Try.ntmps19
  go_wp2_with (first | ((with_reducible refine gate_callee (f := 53) rfl ?_); refine goesL_ (some 8) rfl rfl Try.func53 (by kernel_rfl) rfl #[.int .i64 a0, .int .i64 a1] rfl TA ?_; (with_reducible refine (impl_areItems.calls a0 a1 true _ A3.out).mono ?_); rintro e w' ⟨rfl, ⟨nd, rfl⟩⟩; refine ⟨_, rfl, ?_⟩) | ((with_reducible refine gate_callee (f := 74) rfl ?_); refine goesL_ (some 12) rfl rfl Try.func74 (by kernel_rfl) rfl #[.int .i64 a0, .int .i64 a1] rfl TA ?_; (with_reducible refine (impl_fewest.calls a0 a1 t224 _ A5.out).mono ?_); rintro e w' ⟨rfl, ⟨nd, rfl⟩⟩; refine ⟨_, rfl, ?_⟩))
  go_ret2
  exact ⟨RF, DR⟩
 ·replace c4 := Bool.eq_false_iff.mpr c4
  subst c4
  replace H := IN H
  simp only [Option.some.injEq, Prod.mk.injEq] at H
  obtain ⟨rfl, rfl⟩ := H
  go_enter Try.func19, Try.ntmps19
  go_wp2_with (first | ((with_reducible refine gate_callee (f := 53) rfl ?_); refine goesL_ (some 8) rfl rfl Try.func53 (by kernel_rfl) rfl #[.int .i64 a0, .int .i64 a1] rfl TA ?_; (with_reducible refine (impl_areItems.calls a0 a1 false _ A3.out).mono ?_); rintro e w' ⟨rfl, ⟨nd, rfl⟩⟩; refine ⟨_, rfl, ?_⟩))
  go_ret2
  exact ⟨RF, DR⟩

/-! ### spec_l1Least: function 76 -/
def spec_l1Least.f (a0 : Int) (a1 : Int) : Option (Int) := if a0 < a1 then (some a0) else (some a1)
theorem spec_l1Least.calls (a0 : Int) (a1 : Int) (r : Int) (w : World) (h : spec_l1Least.f a0 a1 = some r) :
  Calls Try.prog 76 #[.int .i64 a0, .int .i64 a1] w fun e w' => e = .returned (.int .i64 r) ∧ Drawn0 w w' := by
 have H : (if a0 < a1 then (some a0) else (some a1)) = some r := h
 clear h
 by_cases c3 : a0 < a1
 ·rw [if_pos c3] at H
  have c3b0 : decide (a0 < a1) = true := decide_eq_true c3
  clear c3
  obtain rfl := Option.some.inj H
  go_enter Try.func76, Try.ntmps76
  go_wp2
  go_ret
  exact ⟨RF, DR⟩
 ·rw [if_neg c3] at H
  have c3b0 : decide (a0 < a1) = false := decide_eq_false c3
  clear c3
  obtain rfl := Option.some.inj H
  go_enter Try.func76, Try.ntmps76
  go_wp2
  go_ret
  exact ⟨RF, DR⟩

/-! ### spec_DrawColourStableWith: function 20 -/
def spec_DrawColourStableWith.f (l0 : List Int) : Option (Int × Int × Int) := (spec_l1Cur_sets.f l0 0 0 7).bind fun bt226 => ((spec_l1Least.f 9 (wrap64 ((wrap64 (bt226.1 - (wrap64 (2 * bt226.2.1)))) + 2))).bind fun t230 => ((spec_l1Most.f 0 t230).bind fun t231 => ((spec_l1Cur_pick.f l0 bt226.2.2.1 bt226.2.2.2 3).bind fun bt232 => (some (bt226.1, bt226.2.1, wrap64 ((wrap64 (t231 + bt232.1)) - 1))))))
theorem spec_DrawColourStableWith.calls (A0 : Option Addr) (c0 : Nat) (l0 : List Int) (r1 : Int) (r2 : Int) (r3 : Int) (w : World) (hr0 : Kd.C (Kd.int .u8) w A0 l0.length l0) (hc0 : l0.length ≤ c0) (h : spec_DrawColourStableWith.f l0 = some (r1, r2, r3)) :
  Calls Try.prog 20 #[.slice A0 l0.length c0] w fun e w' => e = .returned (.tuple #[.int .i64 r1, .int .i64 r2, .int .i64 r3]) ∧ Below w.heap.size w w' := by
 have hu61 := Try.underlying61
 have HR0 := Aside0.mk hr0
 have HC0 := Aside0.mk hc0
 clear hr0 hc0
 have HB := Aside0.mk (Below.refl w.heap.size w)
 have H : ((spec_l1Cur_sets.f l0 0 0 7).bind fun bt226 => ((spec_l1Least.f 9 (wrap64 ((wrap64 (bt226.1 - (wrap64 (2 * bt226.2.1)))) + 2))).bind fun t230 => ((spec_l1Most.f 0 t230).bind fun t231 => ((spec_l1Cur_pick.f l0 bt226.2.2.1 bt226.2.2.2 3).bind fun bt232 => (some (bt226.1, bt226.2.1, wrap64 ((wrap64 (t231 + bt232.1)) - 1))))))) = some (r1, r2, r3) := h
 clear h
 obtain ⟨⟨t226, t227, t228, t229⟩, A20, H⟩ := Option.bind_eq_some_iff.mp H
 replace H : ((spec_l1Least.f 9 (wrap64 ((wrap64 (t226 - (wrap64 (2 * t227)))) + 2))).bind fun t230 => ((spec_l1Most.f 0 t230).bind fun t231 => ((spec_l1Cur_pick.f l0 t228 t229 3).bind fun bt232 => (some (t226, t227, wrap64 ((wrap64 (t231 + bt232.1)) - 1)))))) = some (r1, r2, r3) := H
 have A2 := Aside0.mk A20
 clear A20
 obtain ⟨t230, A30, H⟩ := Option.bind_eq_some_iff.mp H
 have A3 := Aside0.mk A30
 clear A30
 obtain ⟨t231, A40, H⟩ := Option.bind_eq_some_iff.mp H
 have A4 := Aside0.mk A40
 clear A40
 obtain ⟨⟨t232, t233, t234⟩, A50, H⟩ := Option.bind_eq_some_iff.mp H
 replace H : (some (t226, t227, wrap64 ((wrap64 (t231 + t232)) - 1))) = some (r1, r2, r3) := H
 have A5 := Aside0.mk A50
 clear A50
 simp only [Option.some.injEq, Prod.mk.injEq] at H
 obtain ⟨rfl, rfl, rfl⟩ := H
 go_enter Try.func20, Try.ntmps20
 go_wp2_with (first | ((with_reducible refine gate_dst (N := 10) rfl ?_); refine box_event ?hg (N := 10) ?hd (cs := #[.slice A0 l0.length c0, .int .i64 0, .int .u64 0]) (t := 61) ?hr ?_; (case hd => rfl); (case hg => rfl); (case hr => exact GS); intro gb225 hg w6 hbox hb; have n0_ := Aside0.mk (below_step BB hb); have n1_ := Aside0.mk ((by rw [hg]; exact (below_size BB) : w.heap.size ≤ gb225)); have n2_ := Aside0.mk ((by rw [hg]; exact (below_size BB) : w.heap.size ≤ gb225)); have n3_ := Aside0.mk ((show IsS61 w w6 gb225 l0 0 0 from ⟨A0, c0, hbox, (by rw [hg]; exact (below_size BB) : w.heap.size ≤ gb225), HR0.out⟩)); clear HB; have HB := n0_; have GW225 := n1_; have GE225 := n2_; have HI225 := n3_; clear n0_ n1_ n2_ n3_; clear hb hbox hg) | ((with_reducible refine gate_callee (f := 65) rfl ?_); refine goesL_ (some 13) rfl rfl Try.func65 (by kernel_rfl) rfl #[.pointer (some ⟨gb225, 0, none⟩), .int .i64 7] rfl TA ?_; (with_reducible refine (spec_l1Cur_sets.calls gb225 l0 0 0 7 t226 t227 t228 t229 w _ ?side1 ?side2 A2.out).mono ?_); (case side1 => repeat (first | (with_reducible first | exact HI225.out | apply IsS61.alloc | apply IsS61.drewN | apply IsS61.drew | apply IsS61.set_1 | apply IsS61.set_2) | exact HI225.out)); (case side2 => repeat (first | (with_reducible first | exact HB.out | apply below_alloc | apply pw_below_drewN | apply below_drew1 | refine below_set ?_ (IsS61.ge HI225.out)) | exact HB.out)); rintro e w7 ⟨rfl, hi, hb, hk⟩; refine ⟨_, rfl, ?_⟩; have n0_ := Aside0.mk (hb); have n1_ := Aside0.mk (hi); clear HB; clear HI225; have HB := n0_; have HI225 := n1_; clear n0_ n1_; (try clear hb); (try clear hb2); (try clear hk); (try clear hi)) | ((with_reducible refine gate_callee (f := 76) rfl ?_); refine goesL_ (some 23) rfl rfl Try.func76 (by kernel_rfl) rfl #[.int .i64 9, .int .i64 (wrap64 ((wrap64 (t226 - (wrap64 (2 * t227)))) + 2))] rfl TA ?_; (with_reducible refine (spec_l1Least.calls 9 (wrap64 ((wrap64 (t226 - (wrap64 (2 * t227)))) + 2)) t230 _ A3.out).mono ?_); rintro e w' ⟨rfl, ⟨nd, rfl⟩⟩; refine ⟨_, rfl, ?_⟩) | ((with_reducible refine gate_callee (f := 75) rfl ?_); refine goesL_ (some 24) rfl rfl Try.func75 (by kernel_rfl) rfl #[.int .i64 0, .int .i64 t230] rfl TA ?_; (with_reducible refine (spec_l1Most.calls 0 t230 t231 _ A4.out).mono ?_); rintro e w' ⟨rfl, ⟨nd, rfl⟩⟩; refine ⟨_, rfl, ?_⟩) | ((with_reducible refine gate_callee (f := 67) rfl ?_); refine goesL_ (some 26) rfl rfl Try.func67 (by kernel_rfl) rfl #[.pointer (some ⟨gb225, 0, none⟩), .int .i64 3] rfl TA ?_; (with_reducible refine (spec_l1Cur_pick.calls gb225 l0 t228 t229 3 t232 t233 t234 w _ ?side1 ?side2 A5.out).mono ?_); (case side1 => repeat (first | (with_reducible first | exact HI225.out | apply IsS61.alloc | apply IsS61.drewN | apply IsS61.drew | apply IsS61.set_1 | apply IsS61.set_2) | exact HI225.out)); (case side2 => repeat (first | (with_reducible first | exact HB.out | apply below_alloc | apply pw_below_drewN | apply below_drew1 | refine below_set ?_ (IsS61.ge HI225.out)) | exact HB.out)); rintro e w8 ⟨rfl, hi, hb, hk⟩; refine ⟨_, rfl, ?_⟩; have n0_ := Aside0.mk (hb); have n1_ := Aside0.mk (hi); clear HB; clear HI225; have HB := n0_; have HI225 := n1_; clear n0_ n1_; (try clear hb); (try clear hb2); (try clear hk); (try clear hi)))
 go_ret3
 exact ⟨RE, by repeat (first | (with_reducible first | exact HB.out | apply below_alloc | apply pw_below_drewN | apply below_drew1 | refine below_set ?_ (IsS61.ge HI225.out)) | exact HB.out)⟩

/-! ### impl_stable_1: function 111 -/
def impl_stable_1.f (a0 : Int) (l1 : List Int) : Option (Bool) := if (Go.bits .and .i64 a0 (a0 / 2)) = 0 then (if 0 < (l1.length : Int) then (if (rd l1 0) > 1 then (if (Go.bits .and .i64 a0 1) = 0 then (some false) else (if 0 ≤ (wrap64 ((rd l1 0) - 1)) then (some ((Go.bits .and .i64 (shr .i64 a0 (wrap64 ((rd l1 0) - 1))) 1) != 0)) else (none))) else (some false)) else (none)) else (some true)
theorem impl_stable_1.calls (a0 : Int) (A1 : Option Addr) (c1 : Nat) (l1 : List Int) (r : Bool) (w : World) (hr1 : Kd.C (Kd.int .i64) w A1 l1.length l1) (hc1 : l1.length ≤ c1) (h : impl_stable_1.f a0 l1 = some r) :
  Calls Try.prog 111 #[.int .i64 a0, .pointer A1] w fun e w' => e = .returned (.bool r) ∧ Drawn0 w w' := by
 have HR1 := Aside0.mk hr1
 have HC1 := Aside0.mk hc1
 clear hr1 hc1
 have H : (if (Go.bits .and .i64 a0 (a0 / 2)) = 0 then (if 0 < (l1.length : Int) then (if (rd l1 0) > 1 then (if (Go.bits .and .i64 a0 1) = 0 then (some false) else (if 0 ≤ (wrap64 ((rd l1 0) - 1)) then (some ((Go.bits .and .i64 (shr .i64 a0 (wrap64 ((rd l1 0) - 1))) 1) != 0)) else (none))) else (some false)) else (none)) else (some true)) = some r := h
 clear h
 by_cases c3 : (Go.bits .and .i64 a0 (a0 / 2)) = 0
 ·rw [if_pos c3] at H
  have c3b0 : ((Go.bits .and .i64 a0 (a0 / 2)) == 0) = true := beq_iff_eq.mpr c3
  have c3b1 : ((Go.bits .and .i64 a0 (a0 / 2)) != 0) = false := bne_eq_false_iff_eq.mpr c3
  clear c3
  by_cases c4 : 0 < (l1.length : Int)
  ·rw [if_pos c4] at H
   have c4b0 : decide (0 < (l1.length : Int)) = true := decide_eq_true c4
   have c4b1 : decide (0 < l1.length) = true := decide_eq_true (by omega)
   clear c4
   by_cases c5 : (rd l1 0) > 1
   ·rw [if_pos c5] at H
    have c5b0 : decide (1 < (rd l1 0)) = true := decide_eq_true c5
    clear c5
    by_cases c6 : (Go.bits .and .i64 a0 1) = 0
    ·rw [if_pos c6] at H
     have c6b0 : ((Go.bits .and .i64 a0 1) == 0) = true := beq_iff_eq.mpr c6
     have c6b1 : ((Go.bits .and .i64 a0 1) != 0) = false := bne_eq_false_iff_eq.mpr c6
     clear c6
     obtain rfl := Option.some.inj H
     have p235 : 0 ≤ (0 : Int) := (by omega)
     have q235 : 0 < (l1.length : Int) := of_decide_eq_true AS
     obtain ⟨ad235, e235, hx235_0⟩ := Kd.at_int HR1.out 0 p235 q235
     cases e235
     have qi235 : (0 < l1.length) = True := eq_true (by omega)
     (try rw [show ((0 : Int)).toNat = 0 from rfl] at hx235_0)
     (try rw [Addr.add_zero'] at hx235_0)
     replace p235 := eq_true p235
     replace q235 := eq_true q235
     go_enter Try.func111, Try.ntmps111
     go_wp2
     go_ret
     exact ⟨RF, DR⟩
    ·rw [if_neg c6] at H
     have c6b0 : ((Go.bits .and .i64 a0 1) == 0) = false := beq_eq_false_iff_ne.mpr c6
     have c6b1 : ((Go.bits .and .i64 a0 1) != 0) = true := bne_iff_ne.mpr c6
     obtain ⟨ji7, hji7⟩ : ∃ j_ : Int, (wrap64 ((rd l1 0) - 1)) = j_ := ⟨_, rfl⟩
     replace H : (if 0 ≤ (ji7) then (some ((Go.bits .and .i64 (shr .i64 a0 (ji7)) 1) != 0)) else (none)) = some r := by first | (rw [hji7] at H; exact H) | (simp only [hji7] at H ⊢; exact H)
     have hji7w : (IntKind.i64.wrap ((rd l1 0) - 1)) = ji7 := (i64_w _).trans hji7
     by_cases c8 : 0 ≤ (ji7)
     ·rw [if_pos c8] at H
      have c8b0 := eq_true c8
      have c8b1 : decide (0 ≤ (ji7)) = true := decide_eq_true c8
      clear c8
      obtain ⟨ji9, hji9⟩ : ∃ j_ : Int, (shr .i64 a0 (ji7)) = j_ := ⟨_, rfl⟩
      replace H : (some ((Go.bits .and .i64 (ji9) 1) != 0)) = some r := by first | (rw [hji9] at H; exact H) | (simp only [hji9] at H ⊢; exact H)
      have hji9_ : (a0 / 2 ^ min (ji7).toNat 64) = ji9 := hji9
      have hji9z : (ji7) ≤ 64 → (a0 / 2 ^ (ji7).toNat) = ji9 := shr_small hji9
      obtain rfl := Option.some.inj H
      have p235 : 0 ≤ (0 : Int) := (by omega)
      have q235 : 0 < (l1.length : Int) := of_decide_eq_true AS
      obtain ⟨ad235, e235, hx235_0⟩ := Kd.at_int HR1.out 0 p235 q235
      cases e235
      have qi235 : (0 < l1.length) = True := eq_true (by omega)
      (try rw [show ((0 : Int)).toNat = 0 from rfl] at hx235_0)
      (try rw [Addr.add_zero'] at hx235_0)
      replace p235 := eq_true p235
      replace q235 := eq_true q235
      have p236 : 0 ≤ (0 : Int) := (by omega)
      have q236 : 0 < (l1.length : Int) := of_decide_eq_true AS
      obtain ⟨ad236, e236, hx236_0⟩ := Kd.at_int HR1.out 0 p236 q236
      obtain rfl : ad235 = ad236 := (by injection e236)
      have qi236 : (0 < l1.length) = True := eq_true (by omega)
      (try rw [show ((0 : Int)).toNat = 0 from rfl] at hx236_0)
      (try rw [Addr.add_zero'] at hx236_0)
      replace p236 := eq_true p236
      replace q236 := eq_true q236
      go_enter Try.func111, Try.ntmps111
      go_wp2
      go_ret
      exact ⟨by first | rfl | (simp; done) | (simp only [← hji7, ← hji9] <;> (first | rfl | simp)) | (simp [*]; done) | (simp [*, wrap64]; done), by repeat (first | exact Drawn0.refl _ | apply Drawn0.step)⟩
     ·rw [if_neg c8] at H
      cases H
   ·rw [if_neg c5] at H
    have c5b0 : decide (1 < (rd l1 0)) = false := decide_eq_false c5
    clear c5
    obtain rfl := Option.some.inj H
    have p235 : 0 ≤ (0 : Int) := (by omega)
    have q235 : 0 < (l1.length : Int) := of_decide_eq_true AS
    obtain ⟨ad235, e235, hx235_0⟩ := Kd.at_int HR1.out 0 p235 q235
    cases e235
    have qi235 : (0 < l1.length) = True := eq_true (by omega)
    (try rw [show ((0 : Int)).toNat = 0 from rfl] at hx235_0)
    (try rw [Addr.add_zero'] at hx235_0)
    replace p235 := eq_true p235
    replace q235 := eq_true q235
    go_enter Try.func111, Try.ntmps111
    go_wp2
    go_ret
    exact ⟨RF, DR⟩
  ·rw [if_neg c4] at H
   cases H
 ·rw [if_neg c3] at H
  have c3b0 : ((Go.bits .and .i64 a0 (a0 / 2)) == 0) = false := beq_eq_false_iff_ne.mpr c3
  have c3b1 : ((Go.bits .and .i64 a0 (a0 / 2)) != 0) = true := bne_iff_ne.mpr c3
  obtain rfl := Option.some.inj H
  go_enter Try.func111, Try.ntmps111
  go_wp2
  go_ret
  exact ⟨RF, DR⟩

/-! ### impl_stable: function 77 (given) -/
def impl_stable.q (n x : Int) : Bool := (impl_stable_1.f x [n]).getD false
theorem impl_stable.q_some {n : Int} (h1 : 1 ≤ n) (h2 : n ≤ 8) (x : Int) : impl_stable_1.f x [n] = some (impl_stable.q n x) := by
 have hr : rd [n] 0 = n := rfl
 have hw : wrap64 (n - 1) = n - 1 := by unfold wrap64; omega
 have : (impl_stable_1.f x [n]).isSome = true := by
  unfold impl_stable_1.f
  rw [hr, hw]
  split
  ·rw [if_pos (by simp)]
   split
   ·split
    ·rfl
    ·rw [if_pos (by omega)]; rfl
   ·rfl
  ·rfl
 unfold impl_stable.q
 cases h : impl_stable_1.f x [n] with
 | none => rw [h] at this; cases this
 | some b => rfl
def impl_stable.f (k : Nat) (a0 : Int) (a1 : Int) : Option (List Int) := (impl_setsOf.f k a0 a1).bind fun t => if (decide (0 < t.length) && (decide (1 ≤ a0) && decide (a0 ≤ 8))) = true then some (t.filter fun x => !impl_stable.q a0 x) else none
theorem impl_stable.mono : ∀ a0 a1 k, LeO (impl_stable.f k a0 a1) (impl_stable.f (k + 1) a0 a1) := by
 intro a0 a1 k
 unfold impl_stable.f
 exact LeO.bind (impl_setsOf.mono _ _ _) (fun _ => LeO.refl _)
theorem below_kept {w w1 w2 : World} {v : Value} (hb : Below w.heap.size w w1) (hbase : ∀ q, v.ownBlock = some q → w.heap.size ≤ q) (hos : w2.os = w1.os) (htp : w2.tape = w1.tape) (hout : w2.output = w1.output) (hK : Kept w1 w2 (fun k => some k = v.ownBlock)) : Below w.heap.size w w2 :=
 ⟨hos.trans hb.os, htp.trans hb.tape, hout.trans hb.output, Nat.le_trans hb.size hK.1, fun q hq => (hK.2 q (Nat.lt_of_lt_of_le hq hb.size) (fun e => by have := hbase q e.symm; omega)).trans (hb.block q hq)⟩
theorem impl_stable.cl (a0 : Int) (h1 : 1 ≤ a0) (h2 : a0 ≤ 8) {w1 w2 : World} {gb : Nat} {ok : Nat → Prop} {v0 : Value} {t : List Int} (hx : w1.heap[gb]? = some (.cells #[.int .i64 a0] 3 (0, 0))) (hb2 : Below w1.heap.size w1 w2) (hS : Kd.R (Kd.int .i64) 3 w2 w1.heap.size ok v0 t) :
  ∀ (x : Int) (W : World), W.os = w2.os → W.tape = w2.tape → W.output = w2.output → Kept w2 W (fun k => some k = v0.ownBlock) →
   Calls Try.prog 111 (#[.int .i64 x] ++ #[.pointer (some ⟨gb, 0, none⟩)]) W fun e W' => e = .returned (.bool (impl_stable.q a0 x)) ∧ ∃ n, W' = W.drewN n := by
 intro x W hos htp hout hK
 have hgb : gb < w1.heap.size := blk_lt hx
 have hv0 : ∀ q, v0.ownBlock = some q → w1.heap.size ≤ q := fun q hq => Kd.R_base hS q hq
 have hW : W.heap[gb]? = w1.heap[gb]? := (hK.2 gb (Nat.lt_of_lt_of_le hgb hb2.size) (fun e => by have := hv0 gb e.symm; omega)).trans (hb2.block gb hgb)
 exact (impl_stable_1.calls x (some ⟨gb, 0, none⟩) 1 [a0] (impl_stable.q a0 x) W (Kd.C_box (Kd.int .i64) (g := gb) (t := 3) (cs := #[.int .i64 a0]) (hW.trans hx) rfl) (Nat.le_refl _) (impl_stable.q_some h1 h2 x)).mono fun e W' hh => ⟨hh.1, hh.2.out⟩
theorem impl_stable.calls (k : Nat) (a0 : Int) (a1 : Int) (r : List Int) (w : World) (h : impl_stable.f k a0 a1 = some r) :
  Calls Try.prog 77 #[.int .i64 a0, .int .i64 a1] w fun e w' => ∃ v0_ : Value, e = .returned (v0_) ∧ Kd.R (Kd.int .i64) 3 w' w.heap.size (fun _ => True) v0_ r ∧ Below w.heap.size w w' := by
 unfold impl_stable.f at h
 obtain ⟨t, ht, h2⟩ := Option.bind_eq_some_iff.mp h
 clear h
 have HT := Aside0.mk ht
 clear ht
 by_cases hc : (decide (0 < t.length) && (decide (1 ≤ a0) && decide (a0 ≤ 8))) = true
 ·rw [if_pos hc] at h2
  have HRR := Aside0.mk (Option.some.inj h2)
  simp only [Bool.and_eq_true, decide_eq_true_eq] at hc
  have HC := Aside0.mk hc
  clear h2 hc
  have eg : ∀ args w, (callFunc 111 args).run Try.prog w = .ok (.enter 111 args) w := Go.Proofs.enters_of Try.func111 (by kernel_rfl) rfl
  have HEG := Aside0.mk eg
  clear eg
  go_enter Try.func77, Try.ntmps77
  go_wp2_with (first
   | ((with_reducible refine gate_dst (N := 2) rfl ?_); refine box_event ?hg (N := 2) ?hd (cs := #[.int .i64 a0]) (t := 3) ?hr ?_; (case hd => rfl); (case hg => rfl); (case hr => exact GS); intro gb hg w1 hbox hb; have HB1 := Aside0.mk hb; have HX := Aside0.mk hbox; have HG := Aside0.mk hg; clear hb hbox hg; have z0 : w1.cell? ⟨gb, 0, none⟩ = some (.int .i64 a0) := (blk_cell HX.out 0).trans rfl)
   | (go_at_call 55; refine (impl_setsOf.calls k a0 a1 t w1 HT.out).mono ?_; rintro e w2 ⟨v0, rfl, hS, hb2⟩; have HS := Aside0.mk hS; have HB2 := Aside0.mk hb2; clear hS hb2)
   | (go_at_call 54; refine (deleteI 111 #[.pointer (some ⟨gb, 0, none⟩)] HEG.out (impl_stable.q a0) HS.out HC.out.1 (impl_stable.cl a0 HC.out.2.1 HC.out.2.2 HX.out HB2.out HS.out)).mono ?_; rintro e w3 ⟨v1, rfl, hS3, hob, hos, htp, hout, hK⟩; have HS3 := Aside0.mk hS3; have HE := Aside0.mk (And.intro hos (And.intro htp (And.intro hout hK))); clear hS3 hob hos htp hout hK))
  go_ret
  have hE := HE.out
  have hv0 : ∀ q, v0.ownBlock = some q → w1.heap.size ≤ q := fun q hq => Kd.R_base HS.out q hq
  have h1 := HB1.out.size
  have hS3 := Kd.R_lower HS3.out HB1.out.size
  rw [HRR.out] at hS3
  have hb2 : Below w.heap.size w w2 := HB1.out.trans (HB2.out.mono HB1.out.size)
  exact ⟨_, rfl, hS3, below_kept hb2 (fun q hq => Nat.le_trans h1 (hv0 q hq)) hE.1 hE.2.1 hE.2.2.1 hE.2.2.2⟩
 ·rw [if_neg hc] at h2
  cases h2

/-! ### impl_ColourStableWith: function 21 -/
def impl_ColourStableWith.j0 : Nat → Int → Int → Int → Bool → Option (List Int × Bool)
 | 0, _, _, _, _ => none
 | k + 1, x0, x1, x2, x20 => if x20 = true then (some (([] : List Int), false)) else ((impl_stable.f k x0 x1).bind fun t239 => ((impl_coloured.f t239 x2).bind fun bt242 => (some (bt242.1, bt242.2))))
def impl_ColourStableWith.f (k : Nat) (a0 : Int) (a1 : Int) (a2 : Int) : Option (List Int × Bool) := (impl_areItems.f a0 a1).bind fun t237 => (if t237 = true then (if a0 > 7 then (impl_ColourStableWith.j0 k a0 a1 a2 true) else ((impl_in.f a2 1 8).bind fun t238 => (impl_ColourStableWith.j0 k a0 a1 a2 (!t238)))) else (impl_ColourStableWith.j0 k a0 a1 a2 true))
theorem impl_ColourStableWith.mono_l : ∀ k, (∀ y0 y1 y2 y3, LeO (impl_ColourStableWith.j0 k y0 y1 y2 y3) (impl_ColourStableWith.j0 (k + 1) y0 y1 y2 y3))
 | 0 => fun _ _ _ _ r h => by simp [impl_ColourStableWith.j0] at h
 | k + 1 => by
  have ih0 := impl_ColourStableWith.mono_l k
  ·intro y0 y1 y2 y3
   unfold impl_ColourStableWith.j0
   repeat' first
   | with_reducible first | exact ih0 _ _ _ _ | exact impl_stable.mono _ _ _ | exact LeO.refl _ | exact LeO.none _ | refine LeO.ite ?_ ?_ | refine LeO.bind ?_ (fun _ => ?_)
   | exact LeO.none _ | refine LeO.ite ?_ ?_ | refine LeO.bind ?_ (fun _ => ?_)
theorem impl_ColourStableWith.mono : ∀ a0 a1 a2 k, LeO (impl_ColourStableWith.f k a0 a1 a2) (impl_ColourStableWith.f (k + 1) a0 a1 a2) := by
 intro a0 a1 a2 k
 have ih0 := impl_ColourStableWith.mono_l k
 unfold impl_ColourStableWith.f
 repeat' first
   | with_reducible first | exact ih0 _ _ _ _ | exact impl_stable.mono _ _ _ | exact LeO.refl _ | exact LeO.none _ | refine LeO.ite ?_ ?_ | refine LeO.bind ?_ (fun _ => ?_)
   | exact LeO.none _ | refine LeO.ite ?_ ?_ | refine LeO.bind ?_ (fun _ => ?_)
theorem impl_ColourStableWith.calls (k : Nat) (a0 : Int) (a1 : Int) (a2 : Int) (r1 : List Int) (r2 : Bool) (w : World) (h : impl_ColourStableWith.f k a0 a1 a2 = some (r1, r2)) :
  Calls Try.prog 21 #[.int .i64 a0, .int .i64 a1, .int .i64 a2] w fun e w' => ∃ v0_ : Value, e = .returned (.tuple #[v0_, .bool r2]) ∧ Kd.R (Kd.int .i64) 3 w' w.heap.size (fun _ => True) v0_ r1 ∧ Below w.heap.size w w' := by
 have HB := Aside0.mk (Below.refl w.heap.size w)
 have H : ((impl_areItems.f a0 a1).bind fun t237 => (if t237 = true then (if a0 > 7 then (impl_ColourStableWith.j0 k a0 a1 a2 true) else ((impl_in.f a2 1 8).bind fun t238 => (impl_ColourStableWith.j0 k a0 a1 a2 (!t238)))) else (impl_ColourStableWith.j0 k a0 a1 a2 true))) = some (r1, r2) := h
 clear h
 have HC4 := Aside0.mk H
 clear H
 go_enter Try.func21, Try.ntmps21
 go_upto_region 1 with (fail)
 go_cut [20] (fun v20 wc => ∃ (kq : Nat) (x20_3 : Bool), v20 = .bool x20_3 ∧ Aside0 (impl_ColourStableWith.j0 kq a0 a1 a2 x20_3 = some (r1, r2)) ∧ Aside0 (kq ≤ k) ∧ Aside0 (Below w.heap.size w wc))
 case first =>
  have H := HC4.out
  clear HC4
  obtain ⟨t237, A50, H⟩ := Option.bind_eq_some_iff.mp H
  have A5 := Aside0.mk A50
  clear A50
  by_cases c6 : t237 = true
  ·subst c6
   replace H := IP H
   by_cases c7 : a0 > 7
   ·rw [if_pos c7] at H
    have c7b0 : decide (7 < a0) = true := decide_eq_true c7
    clear c7
    (first | rw [c7b0] | (simp only [i64_w, i32_w]; rw [c7b0]) | skip)
    have H' := Aside0.mk H
    clear H
    go_wp2_with (first | ((with_reducible refine gate_callee (f := 53) rfl ?_); refine goesL_ (some 10) rfl rfl Try.func53 (by kernel_rfl) rfl #[.int .i64 a0, .int .i64 a1] rfl TA ?_; (with_reducible refine (impl_areItems.calls a0 a1 true _ A5.out).mono ?_); rintro e w' ⟨rfl, ⟨nd, rfl⟩⟩; refine ⟨_, rfl, ?_⟩))
    go_meet
    case rel => exact ⟨_, (true), RF, H', ⟨by first | omega | exact Nat.le_refl _⟩, ⟨BB⟩⟩
   ·rw [if_neg c7] at H
    have c7b0 : decide (7 < a0) = false := decide_eq_false c7
    clear c7
    (first | rw [c7b0] | (simp only [i64_w, i32_w]; rw [c7b0]) | skip)
    obtain ⟨t238, A80, H⟩ := Option.bind_eq_some_iff.mp H
    have A8 := Aside0.mk A80
    clear A80
    have H' := Aside0.mk H
    clear H
    go_wp2_with (first | ((with_reducible refine gate_callee (f := 53) rfl ?_); refine goesL_ (some 10) rfl rfl Try.func53 (by kernel_rfl) rfl #[.int .i64 a0, .int .i64 a1] rfl TA ?_; (with_reducible refine (impl_areItems.calls a0 a1 true _ A5.out).mono ?_); rintro e w' ⟨rfl, ⟨nd, rfl⟩⟩; refine ⟨_, rfl, ?_⟩) | (go_at_call 60; (with_reducible refine (impl_in.calls a2 1 8 t238 _ A8.out).mono ?_); rintro e w' ⟨rfl, ⟨nd, rfl⟩⟩))
    go_meet
    case rel => exact ⟨_, (!t238), RF, H', ⟨by first | omega | exact Nat.le_refl _⟩, ⟨BB⟩⟩
  ·replace c6 := Bool.eq_false_iff.mpr c6
   subst c6
   replace H := IN H
   have H' := Aside0.mk H
   clear H
   go_wp2_with (first | ((with_reducible refine gate_callee (f := 53) rfl ?_); refine goesL_ (some 10) rfl rfl Try.func53 (by kernel_rfl) rfl #[.int .i64 a0, .int .i64 a1] rfl TA ?_; (with_reducible refine (impl_areItems.calls a0 a1 false _ A5.out).mono ?_); rintro e w' ⟨rfl, ⟨nd, rfl⟩⟩; refine ⟨_, rfl, ?_⟩))
   go_meet
   case rel => exact ⟨_, (true), RF, H', ⟨by first | omega | exact Nat.le_refl _⟩, ⟨BB⟩⟩
 case rest =>
  clear HC4
  try clear c2
  try clear p2
  try clear c5
  try clear c6
  try clear p6
  try clear c7
  try clear c7b0
  obtain ⟨kq, x20_3, rfl, HA, HJ3, HB⟩ := hcut
  cases kq with
  | zero => exact absurd HA.out (by simp [impl_ColourStableWith.j0])
  | succ kj3 =>
   have H := HA.out
   clear HA
   simp only [impl_ColourStableWith.j0] at H
   by_cases c9 : x20_3 = true
   ·subst c9
    replace H := IP H
    simp only [Option.some.injEq, Prod.mk.injEq] at H
    obtain ⟨rfl, rfl⟩ := H
    go_wp2
    go_ret2
    exact ⟨_, RE, by first | exact Kd.R_nil _ _ _ _ _ | exact Kd.N_nil _ _ _ _ _ | exact Kd.V_nil _ _ _ _ _ | exact Kd.Q_nil _ _ _ _ _ | exact Kd.S_nil _ _ _ _ _, BB⟩
   ·replace c9 := Bool.eq_false_iff.mpr c9
    subst c9
    replace H := IN H
    obtain ⟨t239, A100, H⟩ := Option.bind_eq_some_iff.mp H
    have A10 := Aside0.mk A100
    clear A100
    obtain ⟨⟨t242, t243⟩, A110, H⟩ := Option.bind_eq_some_iff.mp H
    replace H : (some (t242, t243)) = some (r1, r2) := H
    have A11 := Aside0.mk A110
    clear A110
    simp only [Option.some.injEq, Prod.mk.injEq] at H
    obtain ⟨rfl, rfl⟩ := H
    go_wp2_with (first | ((with_reducible refine gate_callee (f := 77) rfl ?_); refine goesL_ (some 23) rfl rfl Try.func77 (by kernel_rfl) rfl #[.int .i64 a0, .int .i64 a1] rfl TA ?_; (with_reducible refine (impl_stable.calls kj3 a0 a1 t239 _ A10.out).mono ?_); rintro e w12 ⟨v240, rfl, ho0, hb⟩; refine ⟨_, rfl, ?_⟩; have n0_ := Aside0.mk (Kd.R_lower ho0 (below_size BB)); have n1_ := Aside0.mk (below_step BB hb); clear HB; have HO241 := n0_; have HB := n1_; clear n0_ n1_; (try clear hb); (try clear hb2); (try clear hk); (try clear hi); (try clear ho0); obtain ⟨Ao13, co13, eo13⟩ := Kd.R_slice HO241.out; subst eo13) | ((with_reducible refine gate_callee (f := 70) rfl ?_); refine goesL_ (some 25) rfl rfl Try.func70 (by kernel_rfl) rfl #[.slice Ao13 t239.length co13, .int .i64 a2] rfl TA ?_; (with_reducible refine (impl_coloured.calls _ _ t239 a2 t242 t243 _ ?side1 ?side2 A11.out).mono ?_); (case side1 => exact CW (Kd.R_reads' HO241.out).2.2); (case side2 => exact (Kd.R_reads' HO241.out).2.1); rintro e w14 ⟨v244, rfl, ho0, hb⟩; refine ⟨_, rfl, ?_⟩; have n0_ := Aside0.mk (Kd.R_elder' (KR HO241) (Kd.R_base ho0) hb); have n1_ := Aside0.mk (Kd.R_lower (Kd.R_new' ho0 (Kd.R_lt (KR HO241))) (below_size BB)); have n2_ := Aside0.mk (below_step BB hb); clear HO241; clear HB; have HO241 := n0_; have HO245 := n1_; have HB := n2_; clear n0_ n1_ n2_; (try clear hb); (try clear hb2); (try clear hk); (try clear hi); (try clear ho0)))
    go_ret2
    exact ⟨_, RE, by (with_reducible repeat (first | apply Kd.R_alloc | apply Kd.R_drewN | apply Kd.R_drew)); exact Kd.R_mono HO245.out (fun _ hk => trivial), BB⟩

/-! ### spec_knStable: function 78 -/
def spec_knStable.l0 : Nat → Int → Int → List Int → List Int → Int → Int → Option (List Int)
 | 0, _, _, _, _, _, _ => none
 | k + 1, x0, x1, x5, x11, x12, x13 => if x13 < x12 then (if 0 ≤ x13 then (if x13 < (x11.length : Int) then (if 0 ≤ x0 then (if 0 ≤ (wrap64 (x0 - 1)) then (if x1 = 1 then (if x5.length < 17592186044416 then (spec_knStable.l0 k x0 x1 (x5 ++ [rd x11 x13]) x11 x12 (wrap64 (x13 + 1))) else (none)) else (if (Go.bits .and .i64 (rd x11 x13) (Go.bits .or .i64 (Go.bits .and .i64 (wrap64 ((rd x11 x13) * 2)) (wrap64 ((shl .i64 1 x0) - 1))) (shr .i64 (rd x11 x13) (wrap64 (x0 - 1))))) = 0 then (if x5.length < 17592186044416 then (spec_knStable.l0 k x0 x1 (x5 ++ [rd x11 x13]) x11 x12 (wrap64 (x13 + 1))) else (none)) else (spec_knStable.l0 k x0 x1 x5 x11 x12 (wrap64 (x13 + 1))))) else (none)) else (none)) else (none)) else (none)) else (some x5)
def spec_knStable.f (k : Nat) (a0 : Int) (a1 : Int) : Option (List Int) := (spec_knSets.f k a0 a1).bind fun t246 => (spec_knStable.l0 k a0 a1 ([] : List Int) t246 (t246.length : Int) 0)
theorem spec_knStable.mono_l : ∀ k, (∀ y0 y1 y2 y3 y4 y5, LeO (spec_knStable.l0 k y0 y1 y2 y3 y4 y5) (spec_knStable.l0 (k + 1) y0 y1 y2 y3 y4 y5))
 | 0 => fun _ _ _ _ _ _ r h => by simp [spec_knStable.l0] at h
 | k + 1 => by
  have ih0 := spec_knStable.mono_l k
  ·intro y0 y1 y2 y3 y4 y5
   unfold spec_knStable.l0
   repeat' first
   | with_reducible first | exact ih0 _ _ _ _ _ _ | exact spec_knSets.mono _ _ _ | exact LeO.refl _ | exact LeO.none _ | refine LeO.ite ?_ ?_ | refine LeO.bind ?_ (fun _ => ?_)
   | exact LeO.none _ | refine LeO.ite ?_ ?_ | refine LeO.bind ?_ (fun _ => ?_)
theorem spec_knStable.mono : ∀ a0 a1 k, LeO (spec_knStable.f k a0 a1) (spec_knStable.f (k + 1) a0 a1) := by
 intro a0 a1 k
 have ih0 := spec_knStable.mono_l k
 unfold spec_knStable.f
 repeat' first
   | with_reducible first | exact ih0 _ _ _ _ _ _ | exact spec_knSets.mono _ _ _ | exact LeO.refl _ | exact LeO.none _ | refine LeO.ite ?_ ?_ | refine LeO.bind ?_ (fun _ => ?_)
   | exact LeO.none _ | refine LeO.ite ?_ ?_ | refine LeO.bind ?_ (fun _ => ?_)
theorem spec_knStable.calls (k : Nat) (a0 : Int) (a1 : Int) (r : List Int) (w : World) (h : spec_knStable.f k a0 a1 = some r) :
  Calls Try.prog 78 #[.int .i64 a0, .int .i64 a1] w fun e w' => ∃ v0_ : Value, e = .returned (v0_) ∧ Kd.R (Kd.int .i64) 3 w' w.heap.size (fun _ => True) v0_ r ∧ Below w.heap.size w w' := by
 have HB := Aside0.mk (Below.refl w.heap.size w)
 have H : ((spec_knSets.f k a0 a1).bind fun t246 => (spec_knStable.l0 k a0 a1 ([] : List Int) t246 (t246.length : Int) 0)) = some r := h
 clear h
 obtain ⟨t246, A30, H⟩ := Option.bind_eq_some_iff.mp H
 have A3 := Aside0.mk A30
 clear A30
 have H' := Aside0.mk H
 clear H
 go_enter Try.func78, Try.ntmps78
 go_wp2_with (first | (go_at_call 73; (with_reducible refine (spec_knSets.calls k a0 a1 t246 _ A3.out).mono ?_); rintro e w4 ⟨v247, rfl, ho0, hb⟩; have n0_ := Aside0.mk (Kd.R_lower ho0 (below_size BB)); have n1_ := Aside0.mk (below_step BB hb); clear HB; have HO248 := n0_; have HB := n1_; clear n0_ n1_; (try clear hb); (try clear hb2); (try clear hk); (try clear hi); (try clear ho0); obtain ⟨Ao5, co5, eo5⟩ := Kd.R_slice HO248.out; subst eo5))
 repeat (go_quiet (first | (go_at_call 73; (with_reducible refine (spec_knSets.calls k a0 a1 t246 _ A3.out).mono ?_); rintro e w4 ⟨v247, rfl, ho0, hb⟩; have n0_ := Aside0.mk (Kd.R_lower ho0 (below_size BB)); have n1_ := Aside0.mk (below_step BB hb); clear HB; have HO248 := n0_; have HB := n1_; clear n0_ n1_; (try clear hb); (try clear hb2); (try clear hk); (try clear hi); (try clear ho0); obtain ⟨Ao5, co5, eo5⟩ := Kd.R_slice HO248.out; subst eo5)); try go_wp2_with (first | (go_at_call 73; (with_reducible refine (spec_knSets.calls k a0 a1 t246 _ A3.out).mono ?_); rintro e w4 ⟨v247, rfl, ho0, hb⟩; have n0_ := Aside0.mk (Kd.R_lower ho0 (below_size BB)); have n1_ := Aside0.mk (below_step BB hb); clear HB; have HO248 := n0_; have HB := n1_; clear n0_ n1_; (try clear hb); (try clear hb2); (try clear hk); (try clear hi); (try clear ho0); obtain ⟨Ao5, co5, eo5⟩ := Kd.R_slice HO248.out; subst eo5)))
 go_loopg [5, 13] k (fun kq v5 v13 w' => ∃ (x5_1 : List Int) (x13_1 : Int), v13 = .int .i64 x13_1 ∧ Aside0 (spec_knStable.l0 kq a0 a1 x5_1 t246 (t246.length : Int) x13_1 = some r) ∧ Aside0 (kq ≤ k) ∧ Aside0 (Kd.R (Kd.int .i64) 3 w' w.heap.size (fun k_ => some k_ ≠ ((.slice Ao5 t246.length co5) : Value).ownBlock) v5 x5_1) ∧ Aside0 (Kd.R (Kd.int .i64) 3 w' w.heap.size (fun k_ => some k_ ≠ (v5 : Value).ownBlock) (.slice Ao5 t246.length co5) t246) ∧ Aside0 (Below w.heap.size w w'))
 case atStart => exact ⟨(([] : List Int)), (0), RF, H', ⟨Nat.le_refl _⟩, ⟨by first | exact Kd.R_nil _ _ _ _ _ | exact Kd.N_nil _ _ _ _ _ | exact Kd.V_nil _ _ _ _ _ | exact Kd.Q_nil _ _ _ _ _ | exact Kd.S_nil _ _ _ _ _⟩, ⟨by (with_reducible repeat (first | apply Kd.R_alloc | apply Kd.R_drewN | apply Kd.R_drew)); exact Kd.R_mono HO248.out (fun _ hk => (by simp [Value.ownBlock]))⟩, ⟨BB⟩⟩
 case round =>
  clear H'
  try clear p2
  obtain ⟨x5_1, x13_1, rfl, HA, HK1, HO_5, HO_11, HB⟩ := hrel
  cases gk with
  | zero => exact absurd HA.out (by simp [spec_knStable.l0])
  | succ k1 =>
   have H := HA.out
   clear HA
   simp only [spec_knStable.l0] at H
   by_cases c6 : x13_1 < (t246.length : Int)
   ·rw [if_pos c6] at H
    have c6b0 : decide (x13_1 < (t246.length : Int)) = true := decide_eq_true c6
    clear c6
    by_cases c7 : 0 ≤ x13_1
    ·rw [if_pos c7] at H
     have c7b0 : decide (0 ≤ x13_1) = true := decide_eq_true c7
     clear c7
     by_cases c8 : x13_1 < (t246.length : Int)
     ·rw [if_pos c8] at H
      have c8b0 : decide (x13_1 < (t246.length : Int)) = true := decide_eq_true c8
      clear c8
      by_cases c9 : 0 ≤ a0
      ·rw [if_pos c9] at H
       have c9b0 := eq_true c9
       have c9b1 : decide (0 ≤ a0) = true := decide_eq_true c9
       clear c9
       obtain ⟨ji10, hji10⟩ : ∃ j_ : Int, (shl .i64 1 a0) = j_ := ⟨_, rfl⟩
       replace H : (if 0 ≤ (wrap64 (a0 - 1)) then (if a1 = 1 then (if x5_1.length < 17592186044416 then (spec_knStable.l0 k1 a0 a1 (x5_1 ++ [rd t246 x13_1]) t246 (t246.length : Int) (wrap64 (x13_1 + 1))) else (none)) else (if (Go.bits .and .i64 (rd t246 x13_1) (Go.bits .or .i64 (Go.bits .and .i64 (wrap64 ((rd t246 x13_1) * 2)) (wrap64 ((ji10) - 1))) (shr .i64 (rd t246 x13_1) (wrap64 (a0 - 1))))) = 0 then (if x5_1.length < 17592186044416 then (spec_knStable.l0 k1 a0 a1 (x5_1 ++ [rd t246 x13_1]) t246 (t246.length : Int) (wrap64 (x13_1 + 1))) else (none)) else (spec_knStable.l0 k1 a0 a1 x5_1 t246 (t246.length : Int) (wrap64 (x13_1 + 1))))) else (none)) = some r := by first | (rw [hji10] at H; exact H) | (simp only [hji10] at H ⊢; exact H)
       have hji10_ : (IntKind.i64.wrap (1 * 2 ^ min a0.toNat 64)) = ji10 := hji10
       have hji10z : a0 ≤ 64 → (IntKind.i64.wrap (1 * 2 ^ a0.toNat)) = ji10 := shl_small hji10
       have hji10u : (IntKind.i64.wrap (2 ^ min a0.toNat 64)) = ji10 := by have h_ := hji10_; rw [Int.one_mul] at h_; exact h_
       have hji10v : a0 ≤ 64 → (IntKind.i64.wrap (2 ^ a0.toNat)) = ji10 := fun hle_ => by have h_ := hji10z hle_; rw [Int.one_mul] at h_; exact h_
       have hji10y : (wrap64 (1 * 2 ^ min a0.toNat 64)) = ji10 := (i64_w _).symm.trans hji10_
       have hji10x : a0 ≤ 64 → (wrap64 (1 * 2 ^ a0.toNat)) = ji10 := fun h_ => (i64_w _).symm.trans (hji10z h_)
       obtain ⟨ji11, hji11⟩ : ∃ j_ : Int, (wrap64 (a0 - 1)) = j_ := ⟨_, rfl⟩
       replace H : (if 0 ≤ (ji11) then (if a1 = 1 then (if x5_1.length < 17592186044416 then (spec_knStable.l0 k1 a0 a1 (x5_1 ++ [rd t246 x13_1]) t246 (t246.length : Int) (wrap64 (x13_1 + 1))) else (none)) else (if (Go.bits .and .i64 (rd t246 x13_1) (Go.bits .or .i64 (Go.bits .and .i64 (wrap64 ((rd t246 x13_1) * 2)) (wrap64 ((ji10) - 1))) (shr .i64 (rd t246 x13_1) (ji11)))) = 0 then (if x5_1.length < 17592186044416 then (spec_knStable.l0 k1 a0 a1 (x5_1 ++ [rd t246 x13_1]) t246 (t246.length : Int) (wrap64 (x13_1 + 1))) else (none)) else (spec_knStable.l0 k1 a0 a1 x5_1 t246 (t246.length : Int) (wrap64 (x13_1 + 1))))) else (none)) = some r := by first | (rw [hji11] at H; exact H) | (simp only [hji11] at H ⊢; exact H)
       have hji11w : (IntKind.i64.wrap (a0 - 1)) = ji11 := (i64_w _).trans hji11
       by_cases c12 : 0 ≤ (ji11)
       ·rw [if_pos c12] at H
        have c12b0 := eq_true c12
        have c12b1 : decide (0 ≤ (ji11)) = true := decide_eq_true c12
        clear c12
        obtain ⟨ji13, hji13⟩ : ∃ j_ : Int, (shr .i64 (rd t246 x13_1) (ji11)) = j_ := ⟨_, rfl⟩
        replace H : (if a1 = 1 then (if x5_1.length < 17592186044416 then (spec_knStable.l0 k1 a0 a1 (x5_1 ++ [rd t246 x13_1]) t246 (t246.length : Int) (wrap64 (x13_1 + 1))) else (none)) else (if (Go.bits .and .i64 (rd t246 x13_1) (Go.bits .or .i64 (Go.bits .and .i64 (wrap64 ((rd t246 x13_1) * 2)) (wrap64 ((ji10) - 1))) (ji13))) = 0 then (if x5_1.length < 17592186044416 then (spec_knStable.l0 k1 a0 a1 (x5_1 ++ [rd t246 x13_1]) t246 (t246.length : Int) (wrap64 (x13_1 + 1))) else (none)) else (spec_knStable.l0 k1 a0 a1 x5_1 t246 (t246.length : Int) (wrap64 (x13_1 + 1))))) = some r := by first | (rw [hji13] at H; exact H) | (simp only [hji13] at H ⊢; exact H)
        have hji13_ : ((rd t246 x13_1) / 2 ^ min (ji11).toNat 64) = ji13 := hji13
        have hji13z : (ji11) ≤ 64 → ((rd t246 x13_1) / 2 ^ (ji11).toNat) = ji13 := shr_small hji13
        by_cases c14 : a1 = 1
        ·rw [if_pos c14] at H
         have c14b0 : (a1 == 1) = true := beq_iff_eq.mpr c14
         have c14b1 : (a1 != 1) = false := bne_eq_false_iff_eq.mpr c14
         clear c14
         by_cases c15 : x5_1.length < 17592186044416
         ·rw [if_pos c15] at H
          have LMc15 := Aside0.mk c15
          clear c15
          obtain ⟨y250, hy250⟩ : ∃ y_ : List Int, y_ = (x5_1 ++ [rd t246 x13_1]) := ⟨_, rfl⟩
          replace H : (spec_knStable.l0 k1 a0 a1 y250 t246 (t246.length : Int) (wrap64 (x13_1 + 1))) = some r := HY H hy250
          have Ny250 := Aside0.mk hy250
          clear hy250
          have H' := Aside0.mk H
          clear H
          have p249 : 0 ≤ (x13_1 : Int) := of_decide_eq_true AS
          have q249 : x13_1 < (t246.length : Int) := of_decide_eq_true AS
          obtain ⟨ad249, e249, hx249_0⟩ := Kd.at_int (Kd.R_reads' HO_11.out).2.2 x13_1 p249 q249
          cases e249
          replace p249 := eq_true p249
          replace q249 := eq_true q249
          go_wp2_with (first | ((with_reducible refine gate_builtin (b := .append) (xs := #[.tmp 36, .tmp 38]) rfl ?_); at_builtin; refine Kd.R_append (Kd.int .i64) (w0 := w) w.heap.size rfl (.tmp 36) (.tmp 38) 26 3 (.int .i64 0) 8 rfl Try.underlying26 info3 rfl (by decide) (by omega) u5 x5_1 (rd t246 x13_1) [.int .i64 (rd t246 x13_1)] (fun k_ => some k_ ≠ (.slice (some ad249) t246.length co5 : Value).ownBlock) (fun _ => False) rfl rfl ?aP (fun _ hk => hk.elim) ?aF ?aO ?aB ?aS ?aL ?_; (case aP => exact rfl); (case aB => exact BB); (case aF => exact (fun k_ hk => Kd.fresh' (Kd.R_lt (KR HO_11)) k_ hk)); (case aO => exact (KR HO_5)); (case aS => exact (below_size BB)); (case aL => have := LMc15.out; omega); intro v251 w16 ho hb hg hat; rw [← Ny250.out] at ho; have n0_ := Aside0.mk (Kd.R_after (ok := (fun _ => True)) (by (with_reducible repeat (first | apply Kd.R_alloc | apply Kd.R_drewN | apply Kd.R_drew)); exact Kd.R_mono HO_11.out (fun _ hk => ⟨trivial, hk⟩)) hg hat); have n1_ := Aside0.mk (hb); have n2_ := Aside0.mk (ho); clear HO_11; clear HB; clear HO_5; have HO_11 := n0_; have HB := n1_; have HO252 := n2_; clear n0_ n1_ n2_; clear ho hb hg hat))
          repeat (go_quiet (first | ((with_reducible refine gate_builtin (b := .append) (xs := #[.tmp 36, .tmp 38]) rfl ?_); at_builtin; refine Kd.R_append (Kd.int .i64) (w0 := w) w.heap.size rfl (.tmp 36) (.tmp 38) 26 3 (.int .i64 0) 8 rfl Try.underlying26 info3 rfl (by decide) (by omega) u5 x5_1 (rd t246 x13_1) [.int .i64 (rd t246 x13_1)] (fun k_ => some k_ ≠ (.slice (some ad249) t246.length co5 : Value).ownBlock) (fun _ => False) rfl rfl ?aP (fun _ hk => hk.elim) ?aF ?aO ?aB ?aS ?aL ?_; (case aP => exact rfl); (case aB => exact BB); (case aF => exact (fun k_ hk => Kd.fresh' (Kd.R_lt (KR HO_11)) k_ hk)); (case aO => exact (KR HO_5)); (case aS => exact (below_size BB)); (case aL => have := LMc15.out; omega); intro v251 w16 ho hb hg hat; rw [← Ny250.out] at ho; have n0_ := Aside0.mk (Kd.R_after (ok := (fun _ => True)) (by (with_reducible repeat (first | apply Kd.R_alloc | apply Kd.R_drewN | apply Kd.R_drew)); exact Kd.R_mono HO_11.out (fun _ hk => ⟨trivial, hk⟩)) hg hat); have n1_ := Aside0.mk (hb); have n2_ := Aside0.mk (ho); clear HO_11; clear HB; clear HO_5; have HO_11 := n0_; have HB := n1_; have HO252 := n2_; clear n0_ n1_ n2_; clear ho hb hg hat)); try go_wp2_with (first | ((with_reducible refine gate_builtin (b := .append) (xs := #[.tmp 36, .tmp 38]) rfl ?_); at_builtin; refine Kd.R_append (Kd.int .i64) (w0 := w) w.heap.size rfl (.tmp 36) (.tmp 38) 26 3 (.int .i64 0) 8 rfl Try.underlying26 info3 rfl (by decide) (by omega) u5 x5_1 (rd t246 x13_1) [.int .i64 (rd t246 x13_1)] (fun k_ => some k_ ≠ (.slice (some ad249) t246.length co5 : Value).ownBlock) (fun _ => False) rfl rfl ?aP (fun _ hk => hk.elim) ?aF ?aO ?aB ?aS ?aL ?_; (case aP => exact rfl); (case aB => exact BB); (case aF => exact (fun k_ hk => Kd.fresh' (Kd.R_lt (KR HO_11)) k_ hk)); (case aO => exact (KR HO_5)); (case aS => exact (below_size BB)); (case aL => have := LMc15.out; omega); intro v251 w16 ho hb hg hat; rw [← Ny250.out] at ho; have n0_ := Aside0.mk (Kd.R_after (ok := (fun _ => True)) (by (with_reducible repeat (first | apply Kd.R_alloc | apply Kd.R_drewN | apply Kd.R_drew)); exact Kd.R_mono HO_11.out (fun _ hk => ⟨trivial, hk⟩)) hg hat); have n1_ := Aside0.mk (hb); have n2_ := Aside0.mk (ho); clear HO_11; clear HB; clear HO_5; have HO_11 := n0_; have HB := n1_; have HO252 := n2_; clear n0_ n1_ n2_; clear ho hb hg hat)))
          go_roundg k1
          case measure => have := HK1.out; omega
          case rel => exact ⟨(y250), (wrap64 (x13_1 + 1)), RF, H', ⟨by have := HK1.out; omega⟩, ⟨KR HO252⟩, ⟨by (with_reducible repeat (first | apply Kd.R_alloc | apply Kd.R_drewN | apply Kd.R_drew)); exact Kd.R_mono HO_11.out (fun _ hk => hk.2)⟩, ⟨BB⟩⟩
         ·rw [if_neg c15] at H
          cases H
        ·rw [if_neg c14] at H
         have c14b0 : (a1 == 1) = false := beq_eq_false_iff_ne.mpr c14
         have c14b1 : (a1 != 1) = true := bne_iff_ne.mpr c14
         by_cases c17 : (Go.bits .and .i64 (rd t246 x13_1) (Go.bits .or .i64 (Go.bits .and .i64 (wrap64 ((rd t246 x13_1) * 2)) (wrap64 ((ji10) - 1))) (ji13))) = 0
         ·rw [if_pos c17] at H
          have c17b0 : ((Go.bits .and .i64 (rd t246 x13_1) (Go.bits .or .i64 (Go.bits .and .i64 (wrap64 ((rd t246 x13_1) * 2)) (wrap64 ((ji10) - 1))) (ji13))) == 0) = true := beq_iff_eq.mpr c17
          have c17b1 : ((Go.bits .and .i64 (rd t246 x13_1) (Go.bits .or .i64 (Go.bits .and .i64 (wrap64 ((rd t246 x13_1) * 2)) (wrap64 ((ji10) - 1))) (ji13))) != 0) = false := bne_eq_false_iff_eq.mpr c17
          clear c17
          by_cases c18 : x5_1.length < 17592186044416
          ·rw [if_pos c18] at H
           have LMc18 := Aside0.mk c18
           clear c18
           obtain ⟨y253, hy253⟩ : ∃ y_ : List Int, y_ = (x5_1 ++ [rd t246 x13_1]) := ⟨_, rfl⟩
           replace H : (spec_knStable.l0 k1 a0 a1 y253 t246 (t246.length : Int) (wrap64 (x13_1 + 1))) = some r := HY H hy253
           have Ny253 := Aside0.mk hy253
           clear hy253
           have H' := Aside0.mk H
           clear H
           have p249 : 0 ≤ (x13_1 : Int) := of_decide_eq_true AS
           have q249 : x13_1 < (t246.length : Int) := of_decide_eq_true AS
           obtain ⟨ad249, e249, hx249_0⟩ := Kd.at_int (Kd.R_reads' HO_11.out).2.2 x13_1 p249 q249
           cases e249
           replace p249 := eq_true p249
           replace q249 := eq_true q249
           go_wp2_with (first | ((with_reducible refine gate_builtin (b := .append) (xs := #[.tmp 36, .tmp 38]) rfl ?_); at_builtin; refine Kd.R_append (Kd.int .i64) (w0 := w) w.heap.size rfl (.tmp 36) (.tmp 38) 26 3 (.int .i64 0) 8 rfl Try.underlying26 info3 rfl (by decide) (by omega) u5 x5_1 (rd t246 x13_1) [.int .i64 (rd t246 x13_1)] (fun k_ => some k_ ≠ (.slice (some ad249) t246.length co5 : Value).ownBlock) (fun _ => False) rfl rfl ?aP (fun _ hk => hk.elim) ?aF ?aO ?aB ?aS ?aL ?_; (case aP => exact rfl); (case aB => exact BB); (case aF => exact (fun k_ hk => Kd.fresh' (Kd.R_lt (KR HO_11)) k_ hk)); (case aO => exact (KR HO_5)); (case aS => exact (below_size BB)); (case aL => have := LMc18.out; omega); intro v254 w19 ho hb hg hat; rw [← Ny253.out] at ho; have n0_ := Aside0.mk (Kd.R_after (ok := (fun _ => True)) (by (with_reducible repeat (first | apply Kd.R_alloc | apply Kd.R_drewN | apply Kd.R_drew)); exact Kd.R_mono HO_11.out (fun _ hk => ⟨trivial, hk⟩)) hg hat); have n1_ := Aside0.mk (hb); have n2_ := Aside0.mk (ho); clear HO_11; clear HB; clear HO_5; have HO_11 := n0_; have HB := n1_; have HO255 := n2_; clear n0_ n1_ n2_; clear ho hb hg hat))
           repeat (go_quiet (first | ((with_reducible refine gate_builtin (b := .append) (xs := #[.tmp 36, .tmp 38]) rfl ?_); at_builtin; refine Kd.R_append (Kd.int .i64) (w0 := w) w.heap.size rfl (.tmp 36) (.tmp 38) 26 3 (.int .i64 0) 8 rfl Try.underlying26 info3 rfl (by decide) (by omega) u5 x5_1 (rd t246 x13_1) [.int .i64 (rd t246 x13_1)] (fun k_ => some k_ ≠ (.slice (some ad249) t246.length co5 : Value).ownBlock) (fun _ => False) rfl rfl ?aP (fun _ hk => hk.elim) ?aF ?aO ?aB ?aS ?aL ?_; (case aP => exact rfl); (case aB => exact BB); (case aF => exact (fun k_ hk => Kd.fresh' (Kd.R_lt (KR HO_11)) k_ hk)); (case aO => exact (KR HO_5)); (case aS => exact (below_size BB)); (case aL => have := LMc18.out; omega); intro v254 w19 ho hb hg hat; rw [← Ny253.out] at ho; have n0_ := Aside0.mk (Kd.R_after (ok := (fun _ => True)) (by (with_reducible repeat (first | apply Kd.R_alloc | apply Kd.R_drewN | apply Kd.R_drew)); exact Kd.R_mono HO_11.out (fun _ hk => ⟨trivial, hk⟩)) hg hat); have n1_ := Aside0.mk (hb); have n2_ := Aside0.mk (ho); clear HO_11; clear HB; clear HO_5; have HO_11 := n0_; have HB := n1_; have HO255 := n2_; clear n0_ n1_ n2_; clear ho hb hg hat)); try go_wp2_with (first | ((with_reducible refine gate_builtin (b := .append) (xs := #[.tmp 36, .tmp 38]) rfl ?_); at_builtin; refine Kd.R_append (Kd.int .i64) (w0 := w) w.heap.size rfl (.tmp 36) (.tmp 38) 26 3 (.int .i64 0) 8 rfl Try.underlying26 info3 rfl (by decide) (by omega) u5 x5_1 (rd t246 x13_1) [.int .i64 (rd t246 x13_1)] (fun k_ => some k_ ≠ (.slice (some ad249) t246.length co5 : Value).ownBlock) (fun _ => False) rfl rfl ?aP (fun _ hk => hk.elim) ?aF ?aO ?aB ?aS ?aL ?_; (case aP => exact rfl); (case aB => exact BB); (case aF => exact (fun k_ hk => Kd.fresh' (Kd.R_lt (KR HO_11)) k_ hk)); (case aO => exact (KR HO_5)); (case aS => exact (below_size BB)); (case aL => have := LMc18.out; omega); intro v254 w19 ho hb hg hat; rw [← Ny253.out] at ho; have n0_ := Aside0.mk (Kd.R_after (ok := (fun _ => True)) (by (with_reducible repeat (first | apply Kd.R_alloc | apply Kd.R_drewN | apply Kd.R_drew)); exact Kd.R_mono HO_11.out (fun _ hk => ⟨trivial, hk⟩)) hg hat); have n1_ := Aside0.mk (hb); have n2_ := Aside0.mk (ho); clear HO_11; clear HB; clear HO_5; have HO_11 := n0_; have HB := n1_; have HO255 := n2_; clear n0_ n1_ n2_; clear ho hb hg hat)))
           go_roundg k1
           case measure => have := HK1.out; omega
           case rel => exact ⟨(y253), (wrap64 (x13_1 + 1)), RF, H', ⟨by have := HK1.out; omega⟩, ⟨KR HO255⟩, ⟨by (with_reducible repeat (first | apply Kd.R_alloc | apply Kd.R_drewN | apply Kd.R_drew)); exact Kd.R_mono HO_11.out (fun _ hk => hk.2)⟩, ⟨BB⟩⟩
          ·rw [if_neg c18] at H
           cases H
         ·rw [if_neg c17] at H
          have c17b0 : ((Go.bits .and .i64 (rd t246 x13_1) (Go.bits .or .i64 (Go.bits .and .i64 (wrap64 ((rd t246 x13_1) * 2)) (wrap64 ((ji10) - 1))) (ji13))) == 0) = false := beq_eq_false_iff_ne.mpr c17
          have c17b1 : ((Go.bits .and .i64 (rd t246 x13_1) (Go.bits .or .i64 (Go.bits .and .i64 (wrap64 ((rd t246 x13_1) * 2)) (wrap64 ((ji10) - 1))) (ji13))) != 0) = true := bne_iff_ne.mpr c17
          have H' := Aside0.mk H
          clear H
          have p249 : 0 ≤ (x13_1 : Int) := of_decide_eq_true AS
          have q249 : x13_1 < (t246.length : Int) := of_decide_eq_true AS
          obtain ⟨ad249, e249, hx249_0⟩ := Kd.at_int (Kd.R_reads' HO_11.out).2.2 x13_1 p249 q249
          cases e249
          replace p249 := eq_true p249
          replace q249 := eq_true q249
          go_wp2
          repeat (go_quiet (fail); try go_wp2)
          go_roundg k1
          case measure => have := HK1.out; omega
          case rel => exact ⟨(x5_1), (wrap64 (x13_1 + 1)), RF, H', ⟨by have := HK1.out; omega⟩, ⟨KR HO_5⟩, ⟨KR HO_11⟩, ⟨BB⟩⟩
       ·rw [if_neg c12] at H
        cases H
      ·rw [if_neg c9] at H
       cases H
     ·rw [if_neg c8] at H
      cases H
    ·rw [if_neg c7] at H
     cases H
   ·rw [if_neg c6] at H
    have c6b0 : decide (x13_1 < (t246.length : Int)) = false := decide_eq_false c6
    clear c6
    obtain rfl := Option.some.inj H
    go_wp2
    repeat (go_quiet (fail); try go_wp2)
    go_ret
    exact ⟨_, RE, by (with_reducible repeat (first | apply Kd.R_alloc | apply Kd.R_drewN | apply Kd.R_drew)); exact Kd.R_mono HO_5.out (fun _ hk => trivial), BB⟩

/-! ### spec_ColourStableWith: function 22 -/
def spec_ColourStableWith.j0 : Nat → Int → Int → Int → Bool → Option (List Int × Bool)
 | 0, _, _, _, _ => none
 | k + 1, x0, x1, x2, x20 => if x20 = true then (some (([] : List Int), false)) else ((spec_knStable.f k x0 x1).bind fun t258 => ((spec_knColour.f k t258 ([] : List Int) x2).bind fun bt261 => (some (bt261.1, bt261.2))))
def spec_ColourStableWith.f (k : Nat) (a0 : Int) (a1 : Int) (a2 : Int) : Option (List Int × Bool) := (spec_knGiven.f a0 a1).bind fun t256 => (if t256 = true then (if a0 > 7 then (spec_ColourStableWith.j0 k a0 a1 a2 true) else ((spec_l1In.f a2 1 8).bind fun t257 => (spec_ColourStableWith.j0 k a0 a1 a2 (!t257)))) else (spec_ColourStableWith.j0 k a0 a1 a2 true))
theorem spec_ColourStableWith.mono_l : ∀ k, (∀ y0 y1 y2 y3, LeO (spec_ColourStableWith.j0 k y0 y1 y2 y3) (spec_ColourStableWith.j0 (k + 1) y0 y1 y2 y3))
 | 0 => fun _ _ _ _ r h => by simp [spec_ColourStableWith.j0] at h
 | k + 1 => by
  have ih0 := spec_ColourStableWith.mono_l k
  ·intro y0 y1 y2 y3
   unfold spec_ColourStableWith.j0
   repeat' first
   | with_reducible first | exact ih0 _ _ _ _ | exact spec_knColour.mono _ _ _ _ | exact spec_knStable.mono _ _ _ | exact LeO.refl _ | exact LeO.none _ | refine LeO.ite ?_ ?_ | refine LeO.bind ?_ (fun _ => ?_)
   | exact LeO.none _ | refine LeO.ite ?_ ?_ | refine LeO.bind ?_ (fun _ => ?_)
theorem spec_ColourStableWith.mono : ∀ a0 a1 a2 k, LeO (spec_ColourStableWith.f k a0 a1 a2) (spec_ColourStableWith.f (k + 1) a0 a1 a2) := by
 intro a0 a1 a2 k
 have ih0 := spec_ColourStableWith.mono_l k
 unfold spec_ColourStableWith.f
 repeat' first
   | with_reducible first | exact ih0 _ _ _ _ | exact spec_knColour.mono _ _ _ _ | exact spec_knStable.mono _ _ _ | exact LeO.refl _ | exact LeO.none _ | refine LeO.ite ?_ ?_ | refine LeO.bind ?_ (fun _ => ?_)
   | exact LeO.none _ | refine LeO.ite ?_ ?_ | refine LeO.bind ?_ (fun _ => ?_)
theorem spec_ColourStableWith.calls (k : Nat) (a0 : Int) (a1 : Int) (a2 : Int) (r1 : List Int) (r2 : Bool) (w : World) (h : spec_ColourStableWith.f k a0 a1 a2 = some (r1, r2)) :
  Calls Try.prog 22 #[.int .i64 a0, .int .i64 a1, .int .i64 a2] w fun e w' => ∃ v0_ : Value, e = .returned (.tuple #[v0_, .bool r2]) ∧ Kd.R (Kd.int .i64) 3 w' w.heap.size (fun _ => True) v0_ r1 ∧ Below w.heap.size w w' := by
 have HB := Aside0.mk (Below.refl w.heap.size w)
 have H : ((spec_knGiven.f a0 a1).bind fun t256 => (if t256 = true then (if a0 > 7 then (spec_ColourStableWith.j0 k a0 a1 a2 true) else ((spec_l1In.f a2 1 8).bind fun t257 => (spec_ColourStableWith.j0 k a0 a1 a2 (!t257)))) else (spec_ColourStableWith.j0 k a0 a1 a2 true))) = some (r1, r2) := h
 clear h
 have HC4 := Aside0.mk H
 clear H
 go_enter Try.func22, Try.ntmps22
 go_upto_region 1 with (fail)
 go_cut [20] (fun v20 wc => ∃ (kq : Nat) (x20_3 : Bool), v20 = .bool x20_3 ∧ Aside0 (spec_ColourStableWith.j0 kq a0 a1 a2 x20_3 = some (r1, r2)) ∧ Aside0 (kq ≤ k) ∧ Aside0 (Below w.heap.size w wc))
 case first =>
  have H := HC4.out
  clear HC4
  obtain ⟨t256, A50, H⟩ := Option.bind_eq_some_iff.mp H
  have A5 := Aside0.mk A50
  clear A50
  by_cases c6 : t256 = true
  ·subst c6
   replace H := IP H
   by_cases c7 : a0 > 7
   ·rw [if_pos c7] at H
    have c7b0 : decide (7 < a0) = true := decide_eq_true c7
    clear c7
    (first | rw [c7b0] | (simp only [i64_w, i32_w]; rw [c7b0]) | skip)
    have H' := Aside0.mk H
    clear H
    go_wp2_with (first | ((with_reducible refine gate_callee (f := 57) rfl ?_); refine goesL_ (some 10) rfl rfl Try.func57 (by kernel_rfl) rfl #[.int .i64 a0, .int .i64 a1] rfl TA ?_; (with_reducible refine (spec_knGiven.calls a0 a1 true _ A5.out).mono ?_); rintro e w' ⟨rfl, ⟨nd, rfl⟩⟩; refine ⟨_, rfl, ?_⟩))
    go_meet
    case rel => exact ⟨_, (true), RF, H', ⟨by first | omega | exact Nat.le_refl _⟩, ⟨BB⟩⟩
   ·rw [if_neg c7] at H
    have c7b0 : decide (7 < a0) = false := decide_eq_false c7
    clear c7
    (first | rw [c7b0] | (simp only [i64_w, i32_w]; rw [c7b0]) | skip)
    obtain ⟨t257, A80, H⟩ := Option.bind_eq_some_iff.mp H
    have A8 := Aside0.mk A80
    clear A80
    have H' := Aside0.mk H
    clear H
    go_wp2_with (first | ((with_reducible refine gate_callee (f := 57) rfl ?_); refine goesL_ (some 10) rfl rfl Try.func57 (by kernel_rfl) rfl #[.int .i64 a0, .int .i64 a1] rfl TA ?_; (with_reducible refine (spec_knGiven.calls a0 a1 true _ A5.out).mono ?_); rintro e w' ⟨rfl, ⟨nd, rfl⟩⟩; refine ⟨_, rfl, ?_⟩) | (go_at_call 71; (with_reducible refine (spec_l1In.calls a2 1 8 t257 _ A8.out).mono ?_); rintro e w' ⟨rfl, ⟨nd, rfl⟩⟩))
    go_meet
    case rel => exact ⟨_, (!t257), RF, H', ⟨by first | omega | exact Nat.le_refl _⟩, ⟨BB⟩⟩
  ·replace c6 := Bool.eq_false_iff.mpr c6
   subst c6
   replace H := IN H
   have H' := Aside0.mk H
   clear H
   go_wp2_with (first | ((with_reducible refine gate_callee (f := 57) rfl ?_); refine goesL_ (some 10) rfl rfl Try.func57 (by kernel_rfl) rfl #[.int .i64 a0, .int .i64 a1] rfl TA ?_; (with_reducible refine (spec_knGiven.calls a0 a1 false _ A5.out).mono ?_); rintro e w' ⟨rfl, ⟨nd, rfl⟩⟩; refine ⟨_, rfl, ?_⟩))
   go_meet
   case rel => exact ⟨_, (true), RF, H', ⟨by first | omega | exact Nat.le_refl _⟩, ⟨BB⟩⟩
 case rest =>
  clear HC4
  try clear c2
  try clear p2
  try clear c5
  try clear c6
  try clear p6
  try clear c7
  try clear c7b0
  obtain ⟨kq, x20_3, rfl, HA, HJ3, HB⟩ := hcut
  cases kq with
  | zero => exact absurd HA.out (by simp [spec_ColourStableWith.j0])
  | succ kj3 =>
   have H := HA.out
   clear HA
   simp only [spec_ColourStableWith.j0] at H
   by_cases c9 : x20_3 = true
   ·subst c9
    replace H := IP H
    simp only [Option.some.injEq, Prod.mk.injEq] at H
    obtain ⟨rfl, rfl⟩ := H
    go_wp2
    go_ret2
    exact ⟨_, RE, by first | exact Kd.R_nil _ _ _ _ _ | exact Kd.N_nil _ _ _ _ _ | exact Kd.V_nil _ _ _ _ _ | exact Kd.Q_nil _ _ _ _ _ | exact Kd.S_nil _ _ _ _ _, BB⟩
   ·replace c9 := Bool.eq_false_iff.mpr c9
    subst c9
    replace H := IN H
    obtain ⟨t258, A100, H⟩ := Option.bind_eq_some_iff.mp H
    have A10 := Aside0.mk A100
    clear A100
    obtain ⟨⟨t261, t264⟩, A110, H⟩ := Option.bind_eq_some_iff.mp H
    replace H : (some (t261, t264)) = some (r1, r2) := H
    have A11 := Aside0.mk A110
    clear A110
    simp only [Option.some.injEq, Prod.mk.injEq] at H
    obtain ⟨rfl, rfl⟩ := H
    go_wp2_with (first | ((with_reducible refine gate_callee (f := 78) rfl ?_); refine goesL_ (some 23) rfl rfl Try.func78 (by kernel_rfl) rfl #[.int .i64 a0, .int .i64 a1] rfl TA ?_; (with_reducible refine (spec_knStable.calls kj3 a0 a1 t258 _ A10.out).mono ?_); rintro e w12 ⟨v259, rfl, ho0, hb⟩; refine ⟨_, rfl, ?_⟩; have n0_ := Aside0.mk (Kd.R_lower ho0 (below_size BB)); have n1_ := Aside0.mk (below_step BB hb); clear HB; have HO260 := n0_; have HB := n1_; clear n0_ n1_; (try clear hb); (try clear hb2); (try clear hk); (try clear hi); (try clear ho0); obtain ⟨Ao13, co13, eo13⟩ := Kd.R_slice HO260.out; subst eo13) | ((with_reducible refine gate_callee (f := 72) rfl ?_); refine goesL_ (some 25) rfl rfl Try.func72 (by kernel_rfl) rfl #[.slice Ao13 t258.length co13, .slice none 0 0, .int .i64 a2] rfl TA ?_; (refine (spec_knColour.calls kj3 _ _ t258 (fun k_ => some k_ = (.slice none 0 0 : Value).ownBlock) (.slice none 0 0) ([] : List Int) a2 t261 t264 w _ ?side1 ?side2 ?side3 ?side4 A11.out).mono ?_); (case side1 => repeat (first | (with_reducible first | exact HB.out | apply below_alloc | apply pw_below_drewN | apply below_drew1) | exact HB.out)); (case side2 => exact Kd.C_kept_own (HO260.out) (fun k_ hk_ hs_ => (fun e_ => by simp [Value.ownBlock] at e_) hs_)); (case side3 => exact (Kd.R_reads' HO260.out).2.1); (case side4 => exact Kd.R_nil _ _ _ _ _); rintro e w14 ⟨v262, rfl, ho0, hb, hkp⟩; refine ⟨_, rfl, ?_⟩; have n0_ := Aside0.mk (Kd.R_mono (ok' := fun k_ => some k_ ≠ (v262 : Value).ownBlock) (Kd.R_keptB (HO260.out) hkp (fun k_ hk_ hs_ => (fun e_ => by simp [Value.ownBlock] at e_) hs_)) (fun k_ hk_ => fun e_ => Or.elim (ho0.1 k_ e_.symm) (fun hs_ => hk_.2.1 hs_) (fun hn_ => Nat.not_le.2 hk_.2.2 hn_))); have n1_ := Aside0.mk (Kd.R_mono (ok' := fun k_ => some k_ ≠ (.slice Ao13 t258.length co13 : Value).ownBlock) ho0 (fun k_ hk_ => Or.elim hk_ (fun hs_ => absurd hs_ (by simp [Value.ownBlock])) (fun hn_ => (Kd.fresh' (Kd.R_lt (KR HO260)) k_ hn_)))); have n2_ := Aside0.mk (hb); clear HO260; clear HB; have HO260 := n0_; have HO263 := n1_; have HB := n2_; clear n0_ n1_ n2_; (try clear hb); (try clear hkp); (try clear ho0)))
    go_ret2
    exact ⟨_, RE, by (with_reducible repeat (first | apply Kd.R_alloc | apply Kd.R_drewN | apply Kd.R_drew)); exact Kd.R_mono HO263.out (fun _ hk => trivial), BB⟩

/-! ### impl_StableSets: function 23 -/
def impl_StableSets.f (k : Nat) (a0 : Int) (a1 : Int) : Option (List Int × Bool) := (impl_areItems.f a0 a1).bind fun t265 => (if t265 = true then ((impl_stable.f k a0 a1).bind fun t266 => (some (t266, true))) else (some (([] : List Int), false)))
theorem impl_StableSets.mono : ∀ a0 a1 k, LeO (impl_StableSets.f k a0 a1) (impl_StableSets.f (k + 1) a0 a1) := by
 intro a0 a1 k
 unfold impl_StableSets.f
 repeat' first
   | with_reducible first | exact impl_stable.mono _ _ _ | exact LeO.refl _ | exact LeO.none _ | refine LeO.ite ?_ ?_ | refine LeO.bind ?_ (fun _ => ?_)
   | exact LeO.none _ | refine LeO.ite ?_ ?_ | refine LeO.bind ?_ (fun _ => ?_)
theorem impl_StableSets.calls (k : Nat) (a0 : Int) (a1 : Int) (r1 : List Int) (r2 : Bool) (w : World) (h : impl_StableSets.f k a0 a1 = some (r1, r2)) :
  Calls Try.prog 23 #[.int .i64 a0, .int .i64 a1] w fun e w' => ∃ v0_ : Value, e = .returned (.tuple #[v0_, .bool r2]) ∧ Kd.R (Kd.int .i64) 3 w' w.heap.size (fun _ => True) v0_ r1 ∧ Below w.heap.size w w' := by
 have HB := Aside0.mk (Below.refl w.heap.size w)
 have H : ((impl_areItems.f a0 a1).bind fun t265 => (if t265 = true then ((impl_stable.f k a0 a1).bind fun t266 => (some (t266, true))) else (some (([] : List Int), false)))) = some (r1, r2) := h
 clear h
 obtain ⟨t265, A30, H⟩ := Option.bind_eq_some_iff.mp H
 have A3 := Aside0.mk A30
 clear A30
 by_cases c4 : t265 = true
 ·subst c4
  replace H := IP H
  obtain ⟨t266, A50, H⟩ := Option.bind_eq_some_iff.mp H
  have A5 := Aside0.mk A50
  clear A50
  simp only [Option.some.injEq, Prod.mk.injEq] at H
  obtain ⟨rfl, rfl⟩ := H
  go_enter Try.func23, Try.ntmps23
  go_wp2_with (first | ((with_reducible refine gate_callee (f := 53) rfl ?_); refine goesL_ (some 8) rfl rfl Try.func53 (by kernel_rfl) rfl #[.int .i64 a0, .int .i64 a1] rfl TA ?_; (with_reducible refine (impl_areItems.calls a0 a1 true _ A3.out).mono ?_); rintro e w' ⟨rfl, ⟨nd, rfl⟩⟩; refine ⟨_, rfl, ?_⟩) | ((with_reducible refine gate_callee (f := 77) rfl ?_); refine goesL_ (some 12) rfl rfl Try.func77 (by kernel_rfl) rfl #[.int .i64 a0, .int .i64 a1] rfl TA ?_; (with_reducible refine (impl_stable.calls k a0 a1 t266 _ A5.out).mono ?_); rintro e w6 ⟨v267, rfl, ho0, hb⟩; refine ⟨_, rfl, ?_⟩; have n0_ := Aside0.mk (Kd.R_lower ho0 (below_size BB)); have n1_ := Aside0.mk (below_step BB hb); clear HB; have HO268 := n0_; have HB := n1_; clear n0_ n1_; (try clear hb); (try clear hb2); (try clear hk); (try clear hi); (try clear ho0)))
  go_ret2
  exact ⟨_, RE, KR HO268, BB⟩
 ·replace c4 := Bool.eq_false_iff.mpr c4
  subst c4
  replace H := IN H
  simp only [Option.some.injEq, Prod.mk.injEq] at H
  obtain ⟨rfl, rfl⟩ := H
  go_enter Try.func23, Try.ntmps23
  go_wp2_with (first | ((with_reducible refine gate_callee (f := 53) rfl ?_); refine goesL_ (some 8) rfl rfl Try.func53 (by kernel_rfl) rfl #[.int .i64 a0, .int .i64 a1] rfl TA ?_; (with_reducible refine (impl_areItems.calls a0 a1 false _ A3.out).mono ?_); rintro e w' ⟨rfl, ⟨nd, rfl⟩⟩; refine ⟨_, rfl, ?_⟩))
  go_ret2
  exact ⟨_, RE, by first | exact Kd.R_nil _ _ _ _ _ | exact Kd.N_nil _ _ _ _ _ | exact Kd.V_nil _ _ _ _ _ | exact Kd.Q_nil _ _ _ _ _ | exact Kd.S_nil _ _ _ _ _, BB⟩

/-! ### spec_StableSets: function 24 -/
def spec_StableSets.f (k : Nat) (a0 : Int) (a1 : Int) : Option (List Int × Bool) := (spec_knGiven.f a0 a1).bind fun t269 => (if t269 = true then ((spec_knStable.f k a0 a1).bind fun t270 => (some (t270, true))) else (some (([] : List Int), false)))
theorem spec_StableSets.mono : ∀ a0 a1 k, LeO (spec_StableSets.f k a0 a1) (spec_StableSets.f (k + 1) a0 a1) := by
 intro a0 a1 k
 unfold spec_StableSets.f
 repeat' first
   | with_reducible first | exact spec_knStable.mono _ _ _ | exact LeO.refl _ | exact LeO.none _ | refine LeO.ite ?_ ?_ | refine LeO.bind ?_ (fun _ => ?_)
   | exact LeO.none _ | refine LeO.ite ?_ ?_ | refine LeO.bind ?_ (fun _ => ?_)
theorem spec_StableSets.calls (k : Nat) (a0 : Int) (a1 : Int) (r1 : List Int) (r2 : Bool) (w : World) (h : spec_StableSets.f k a0 a1 = some (r1, r2)) :
  Calls Try.prog 24 #[.int .i64 a0, .int .i64 a1] w fun e w' => ∃ v0_ : Value, e = .returned (.tuple #[v0_, .bool r2]) ∧ Kd.R (Kd.int .i64) 3 w' w.heap.size (fun _ => True) v0_ r1 ∧ Below w.heap.size w w' := by
 have HB := Aside0.mk (Below.refl w.heap.size w)
 have H : ((spec_knGiven.f a0 a1).bind fun t269 => (if t269 = true then ((spec_knStable.f k a0 a1).bind fun t270 => (some (t270, true))) else (some (([] : List Int), false)))) = some (r1, r2) := h
 clear h
 obtain ⟨t269, A30, H⟩ := Option.bind_eq_some_iff.mp H
 have A3 := Aside0.mk A30
 clear A30
 by_cases c4 : t269 = true
 ·subst c4
  replace H := IP H
  obtain ⟨t270, A50, H⟩ := Option.bind_eq_some_iff.mp H
  have A5 := Aside0.mk A50
  clear A50
  simp only [Option.some.injEq, Prod.mk.injEq] at H
  obtain ⟨rfl, rfl⟩ := H
  go_enter Try.func24, Try.ntmps24
  go_wp2_with (first | ((with_reducible refine gate_callee (f := 57) rfl ?_); refine goesL_ (some 8) rfl rfl Try.func57 (by kernel_rfl) rfl #[.int .i64 a0, .int .i64 a1] rfl TA ?_; (with_reducible refine (spec_knGiven.calls a0 a1 true _ A3.out).mono ?_); rintro e w' ⟨rfl, ⟨nd, rfl⟩⟩; refine ⟨_, rfl, ?_⟩) | ((with_reducible refine gate_callee (f := 78) rfl ?_); refine goesL_ (some 12) rfl rfl Try.func78 (by kernel_rfl) rfl #[.int .i64 a0, .int .i64 a1] rfl TA ?_; (with_reducible refine (spec_knStable.calls k a0 a1 t270 _ A5.out).mono ?_); rintro e w6 ⟨v271, rfl, ho0, hb⟩; refine ⟨_, rfl, ?_⟩; have n0_ := Aside0.mk (Kd.R_lower ho0 (below_size BB)); have n1_ := Aside0.mk (below_step BB hb); clear HB; have HO272 := n0_; have HB := n1_; clear n0_ n1_; (try clear hb); (try clear hb2); (try clear hk); (try clear hi); (try clear ho0)))
  go_ret2
  exact ⟨_, RE, KR HO272, BB⟩
 ·replace c4 := Bool.eq_false_iff.mpr c4
  subst c4
  replace H := IN H
  simp only [Option.some.injEq, Prod.mk.injEq] at H
  obtain ⟨rfl, rfl⟩ := H
  go_enter Try.func24, Try.ntmps24
  go_wp2_with (first | ((with_reducible refine gate_callee (f := 57) rfl ?_); refine goesL_ (some 8) rfl rfl Try.func57 (by kernel_rfl) rfl #[.int .i64 a0, .int .i64 a1] rfl TA ?_; (with_reducible refine (spec_knGiven.calls a0 a1 false _ A3.out).mono ?_); rintro e w' ⟨rfl, ⟨nd, rfl⟩⟩; refine ⟨_, rfl, ?_⟩))
  go_ret2
  exact ⟨_, RE, by first | exact Kd.R_nil _ _ _ _ _ | exact Kd.N_nil _ _ _ _ _ | exact Kd.V_nil _ _ _ _ _ | exact Kd.Q_nil _ _ _ _ _ | exact Kd.S_nil _ _ _ _ _, BB⟩

end Go.Proofs.Ytemgnbpcchlpiaa.PFnColouringsAreLeast
