-- Written by a program of this session (wip/tools/pp.sh) out of the translation; Lean checks it.
import Derived.Test.YtgpplbaloajgdabPFnExactFullOfMapx0
import Derived.Test.YtgpplbaloajgdabPFnExactFullOfMapx1
import Derived.Test.YtgpplbaloajgdabPFnExactFullOfMapx7
import Derived.Test.YtgpplbaloajgdabPFnExactFullOfMapx17
namespace Go.Proofs.Ytgpplbaloajgdab.PFnExactFullOfMap
open Go.RowKit Go.Proofs.YtgpplbaloajgdabOwn Go.Proofs.YtgpplbaloajgdabW.PrintWords Go.Proofs.YtgpplbaloajgdabW.PrintLast Go.Proofs.YtgpplbaloajgdabW.PrintMore
attribute [local go_sem] max2_int min2_int max_two min_two max_three min_three max_four min_four   -- for this text's walks alone
set_option linter.unusedVariables false
set_option maxHeartbeats 8000000
set_option maxRecDepth 100000
set_option linter.unusedSimpArgs false

/-! ### laws_FnExactFullOfMap: function 4 -/
def laws_FnExactFullOfMap.j0 : Nat → List (List Int) → List (List Int) → Bool → Option (Bool)
 | 0, _, _, _ => none
 | k + 1, x1, x8, x38 => if x38 = true then (some false) else ((laws_toIntSS.f k x1).bind fun t505 => ((laws_eqIntSS.f k x8 t505).bind fun t508 => (if t508 = true then (some true) else (some false))))
def laws_FnExactFullOfMap.f (k : Nat) (a0 : Int) (l1 : List (List Int)) : Option (Bool) := (laws_szIntSS.f k l1 1048576).bind fun t494 => (if t494 < 0 then (some true) else ((laws_toIntSS.f k l1).bind fun t495 => ((spec_FullOfMap.f k a0 t495).bind fun bt498 => ((laws_toIntSS.f k l1).bind fun t500 => ((impl_FullOfMap.f k a0 t500).bind fun bt503 => (if bt503.1 = bt498.1 then (laws_FnExactFullOfMap.j0 k l1 t500 (bt503.2 != bt498.2)) else (laws_FnExactFullOfMap.j0 k l1 t500 true)))))))
theorem laws_FnExactFullOfMap.mono_l : ∀ k, (∀ y0 y1 y2, LeO (laws_FnExactFullOfMap.j0 k y0 y1 y2) (laws_FnExactFullOfMap.j0 (k + 1) y0 y1 y2))
 | 0 => fun _ _ _ r h => by simp [laws_FnExactFullOfMap.j0] at h
 | k + 1 => by
  have ih0 := laws_FnExactFullOfMap.mono_l k
  ·intro y0 y1 y2
   unfold laws_FnExactFullOfMap.j0
   repeat' first
   | with_reducible first | exact ih0 _ _ _ | exact impl_FullOfMap.mono _ _ _ | exact laws_eqIntSS.mono _ _ _ | exact laws_szIntSS.mono _ _ _ | exact laws_toIntSS.mono _ _ | exact spec_FullOfMap.mono _ _ _ | exact LeO.refl _ | exact LeO.none _ | refine LeO.ite ?_ ?_ | refine LeO.bind ?_ (fun _ => ?_)
   | exact LeO.none _ | refine LeO.ite ?_ ?_ | refine LeO.bind ?_ (fun _ => ?_)
theorem laws_FnExactFullOfMap.mono : ∀ a0 a1 k, LeO (laws_FnExactFullOfMap.f k a0 a1) (laws_FnExactFullOfMap.f (k + 1) a0 a1) := by
 intro a0 a1 k
 have ih0 := laws_FnExactFullOfMap.mono_l k
 unfold laws_FnExactFullOfMap.f
 repeat' first
   | with_reducible first | exact ih0 _ _ _ | exact impl_FullOfMap.mono _ _ _ | exact laws_eqIntSS.mono _ _ _ | exact laws_szIntSS.mono _ _ _ | exact laws_toIntSS.mono _ _ | exact spec_FullOfMap.mono _ _ _ | exact LeO.refl _ | exact LeO.none _ | refine LeO.ite ?_ ?_ | refine LeO.bind ?_ (fun _ => ?_)
   | exact LeO.none _ | refine LeO.ite ?_ ?_ | refine LeO.bind ?_ (fun _ => ?_)
theorem laws_FnExactFullOfMap.calls (k : Nat) (a0 : Int) (A1 : Option Addr) (c1 : Nat) (l1 : List (List Int)) (r : Bool) (w : World) (hr1 : Kd.C (Kd.slice 3 (Kd.int .i64)) w A1 l1.length l1) (hc1 : l1.length ≤ c1) (h : laws_FnExactFullOfMap.f k a0 l1 = some r) :
  Calls Try.prog 4 #[.int .i64 a0, .slice A1 l1.length c1] w fun e w' => e = .returned (.bool r) ∧ Below w.heap.size w w' := by
 have HR1 := Aside0.mk hr1
 have HC1 := Aside0.mk hc1
 clear hr1 hc1
 have HB := Aside0.mk (Below.refl w.heap.size w)
 have H : ((laws_szIntSS.f k l1 1048576).bind fun t494 => (if t494 < 0 then (some true) else ((laws_toIntSS.f k l1).bind fun t495 => ((spec_FullOfMap.f k a0 t495).bind fun bt498 => ((laws_toIntSS.f k l1).bind fun t500 => ((impl_FullOfMap.f k a0 t500).bind fun bt503 => (if bt503.1 = bt498.1 then (laws_FnExactFullOfMap.j0 k l1 t500 (bt503.2 != bt498.2)) else (laws_FnExactFullOfMap.j0 k l1 t500 true)))))))) = some r := h
 clear h
 obtain ⟨t494, A30, H⟩ := Option.bind_eq_some_iff.mp H
 have A3 := Aside0.mk A30
 clear A30
 by_cases c4 : t494 < 0
 ·rw [if_pos c4] at H
  have c4b0 : decide (t494 < 0) = true := decide_eq_true c4
  clear c4
  obtain rfl := Option.some.inj H
  go_enter Try.func4, Try.ntmps4
  go_wp2_with (first | ((with_reducible refine gate_callee (f := 11) rfl ?_); refine goesL_ (some 13) rfl rfl Try.func11 (by kernel_rfl) rfl #[.slice A1 l1.length c1, .int .i64 1048576] rfl TA ?_; (with_reducible refine (laws_szIntSS.calls k _ _ l1 1048576 t494 _ ?side1 ?side2 A3.out).mono ?_); (case side1 => exact CW HR1.out); (case side2 => exact HC1.out); rintro e w' ⟨rfl, ⟨nd, rfl⟩⟩; refine ⟨_, rfl, ?_⟩))
  go_ret
  exact ⟨RE, BB⟩
 ·rw [if_neg c4] at H
  have c4b0 : decide (t494 < 0) = false := decide_eq_false c4
  clear c4
  obtain ⟨t495, A50, H⟩ := Option.bind_eq_some_iff.mp H
  have A5 := Aside0.mk A50
  clear A50
  obtain ⟨⟨t498, t499⟩, A60, H⟩ := Option.bind_eq_some_iff.mp H
  replace H : ((laws_toIntSS.f k l1).bind fun t500 => ((impl_FullOfMap.f k a0 t500).bind fun bt503 => (if bt503.1 = t498 then (laws_FnExactFullOfMap.j0 k l1 t500 (bt503.2 != t499)) else (laws_FnExactFullOfMap.j0 k l1 t500 true)))) = some r := H
  have A6 := Aside0.mk A60
  clear A60
  obtain ⟨t500, A70, H⟩ := Option.bind_eq_some_iff.mp H
  have A7 := Aside0.mk A70
  clear A70
  obtain ⟨⟨t503, t504⟩, A80, H⟩ := Option.bind_eq_some_iff.mp H
  replace H : (if t503 = t498 then (laws_FnExactFullOfMap.j0 k l1 t500 (t504 != t499)) else (laws_FnExactFullOfMap.j0 k l1 t500 true)) = some r := H
  have A8 := Aside0.mk A80
  clear A80
  have HC9 := Aside0.mk H
  clear H
  go_enter Try.func4, Try.ntmps4
  go_upto_region 8 with (first | ((with_reducible refine gate_callee (f := 11) rfl ?_); refine goesL_ (some 13) rfl rfl Try.func11 (by kernel_rfl) rfl #[.slice A1 l1.length c1, .int .i64 1048576] rfl TA ?_; (with_reducible refine (laws_szIntSS.calls k _ _ l1 1048576 t494 _ ?side1 ?side2 A3.out).mono ?_); (case side1 => exact CW HR1.out); (case side2 => exact HC1.out); rintro e w' ⟨rfl, ⟨nd, rfl⟩⟩; refine ⟨_, rfl, ?_⟩) | ((with_reducible refine gate_callee (f := 13) rfl ?_); refine goesL_ (some 19) rfl rfl Try.func13 (by kernel_rfl) rfl #[.slice A1 l1.length c1] rfl TA ?_; (with_reducible refine (laws_toIntSS.calls k _ _ l1 t495 _ ?side1 ?side2 A5.out).mono ?_); (case side1 => exact CW HR1.out); (case side2 => exact HC1.out); rintro e w10 ⟨v496, rfl, ho0, hb⟩; refine ⟨_, rfl, ?_⟩; have n0_ := Aside0.mk (Kd.S_lower ho0 (below_size BB)); have n1_ := Aside0.mk (below_step BB hb); clear HB; have HO497 := n0_; have HB := n1_; clear n0_ n1_; (try clear hb); (try clear hb2); (try clear hk); (try clear hi); (try clear ho0); obtain ⟨Ao11, co11, eo11⟩ := Kd.S_slice HO497.out; subst eo11) | ((with_reducible refine gate_callee (f := 12) rfl ?_); refine goesL_ (some 20) rfl rfl Try.func12 (by kernel_rfl) rfl #[.int .i64 a0, .slice Ao11 t495.length co11] rfl TA ?_; (with_reducible refine (spec_FullOfMap.calls k a0 _ _ t495 t498 t499 _ ?side1 ?side2 A6.out).mono ?_); (case side1 => exact CW (Kd.S_reads' HO497.out).2.2); (case side2 => exact (Kd.S_reads' HO497.out).2.1); rintro e w12 ⟨rfl, hb⟩; refine ⟨_, rfl, ?_⟩; have n0_ := Aside0.mk (Kd.S_below (KS HO497) hb); have n1_ := Aside0.mk (below_step BB hb); clear HO497; clear HB; have HO497 := n0_; have HB := n1_; clear n0_ n1_; (try clear hb); (try clear hb2); (try clear hk); (try clear hi)) | ((with_reducible refine gate_callee (f := 13) rfl ?_); refine goesL_ (some 24) rfl rfl Try.func13 (by kernel_rfl) rfl #[.slice A1 l1.length c1] rfl TA ?_; (with_reducible refine (laws_toIntSS.calls k _ _ l1 t500 _ ?side1 ?side2 A7.out).mono ?_); (case side1 => exact CW (Kd.C_below HR1.out HB.out)); (case side2 => exact HC1.out); rintro e w13 ⟨v501, rfl, ho0, hb⟩; refine ⟨_, rfl, ?_⟩; have n0_ := Aside0.mk (Kd.S_elder' (KS HO497) (Kd.S_base ho0) hb); have n1_ := Aside0.mk (Kd.S_lower (Kd.S_new' ho0 (Kd.S_lt (KS HO497))) (below_size BB)); have n2_ := Aside0.mk (below_step BB hb); clear HO497; clear HB; have HO497 := n0_; have HO502 := n1_; have HB := n2_; clear n0_ n1_ n2_; (try clear hb); (try clear hb2); (try clear hk); (try clear hi); (try clear ho0); obtain ⟨Ao14, co14, eo14⟩ := Kd.S_slice HO502.out; subst eo14) | ((with_reducible refine gate_callee (f := 14) rfl ?_); refine goesL_ (some 28) rfl rfl Try.func14 (by kernel_rfl) rfl #[.int .i64 a0, .slice Ao14 t500.length co14] rfl TA ?_; (with_reducible refine (impl_FullOfMap.calls k a0 _ _ t500 t503 t504 _ ?side1 ?side2 A8.out).mono ?_); (case side1 => exact CW (Kd.S_reads' HO502.out).2.2); (case side2 => exact (Kd.S_reads' HO502.out).2.1); rintro e w15 ⟨rfl, hb⟩; refine ⟨_, rfl, ?_⟩; have n0_ := Aside0.mk (Kd.S_below (KS HO497) hb); have n1_ := Aside0.mk (Kd.S_below (KS HO502) hb); have n2_ := Aside0.mk (below_step BB hb); clear HO497; clear HO502; clear HB; have HO497 := n0_; have HO502 := n1_; have HB := n2_; clear n0_ n1_ n2_; (try clear hb); (try clear hb2); (try clear hk); (try clear hi)))
  (try simp only [Act.put, List.setIfInBounds_toArray, List.set_cons_zero, List.set_cons_succ])
  go_cut [38] (fun v38 wc => ∃ (kq : Nat) (x38_8 : Bool), v38 = .bool x38_8 ∧ Aside0 (laws_FnExactFullOfMap.j0 kq l1 t500 x38_8 = some r) ∧ Aside0 (kq ≤ k) ∧ Aside0 (Kd.S (Kd.slice 3 (Kd.int .i64)) 22 wc w.heap.size (fun _ => True) (.slice Ao14 t500.length co14) t500) ∧ Aside0 (Below w.heap.size w wc))
  case first =>
   have H := HC9.out
   clear HC9
   by_cases c16 : t503 = t498
   ·rw [if_pos c16] at H
    have c16b0 : (t503 == t498) = true := beq_iff_eq.mpr c16
    have c16b1 : (t503 != t498) = false := bne_eq_false_iff_eq.mpr c16
    clear c16
    (first | rw [c16b0] | (simp only [i64_w, i32_w]; rw [c16b0]) | skip)
    have H' := Aside0.mk H
    clear H
    go_wp2
    go_meet
    case rel => exact ⟨_, ((t504 != t499)), RF, H', ⟨by first | omega | exact Nat.le_refl _⟩, ⟨by (with_reducible repeat (first | apply Kd.S_alloc | apply Kd.S_drewN | apply Kd.S_drew)); exact Kd.S_mono HO502.out (fun _ hk => trivial)⟩, ⟨BB⟩⟩
   ·rw [if_neg c16] at H
    have c16b0 : (t503 == t498) = false := beq_eq_false_iff_ne.mpr c16
    have c16b1 : (t503 != t498) = true := bne_iff_ne.mpr c16
    (first | rw [c16b0] | (simp only [i64_w, i32_w]; rw [c16b0]) | skip)
    have H' := Aside0.mk H
    clear H
    go_wp2
    go_meet
    case rel => exact ⟨_, (true), RF, H', ⟨by first | omega | exact Nat.le_refl _⟩, ⟨by (with_reducible repeat (first | apply Kd.S_alloc | apply Kd.S_drewN | apply Kd.S_drew)); exact Kd.S_mono HO502.out (fun _ hk => trivial)⟩, ⟨BB⟩⟩
  case rest =>
   clear HC9
   try clear c1
   try clear p2
   try clear c4
   try clear c4b0
   try clear p6
   try clear c11
   try clear c12
   try clear c13
   try clear c14
   try clear c16
   try clear c16b0
   try clear c16b1
   obtain ⟨kq, x38_8, rfl, HA, HJ8, HO_8, HB⟩ := hcut
   cases kq with
   | zero => exact absurd HA.out (by simp [laws_FnExactFullOfMap.j0])
   | succ kj8 =>
    have H := HA.out
    clear HA
    simp only [laws_FnExactFullOfMap.j0] at H
    by_cases c17 : x38_8 = true
    ·subst c17
     replace H := IP H
     obtain rfl := Option.some.inj H
     go_wp2
     go_ret
     exact ⟨RE, BB⟩
    ·replace c17 := Bool.eq_false_iff.mpr c17
     subst c17
     replace H := IN H
     obtain ⟨t505, A180, H⟩ := Option.bind_eq_some_iff.mp H
     have A18 := Aside0.mk A180
     clear A180
     obtain ⟨t508, A190, H⟩ := Option.bind_eq_some_iff.mp H
     have A19 := Aside0.mk A190
     clear A190
     by_cases c20 : t508 = true
     ·subst c20
      replace H := IP H
      obtain rfl := Option.some.inj H
      go_wp2_with (first | ((with_reducible refine gate_callee (f := 13) rfl ?_); refine goesL_ (some 41) rfl rfl Try.func13 (by kernel_rfl) rfl #[.slice A1 l1.length c1] rfl TA ?_; (with_reducible refine (laws_toIntSS.calls kj8 _ _ l1 t505 _ ?side1 ?side2 A18.out).mono ?_); (case side1 => exact CW (Kd.C_below HR1.out HB.out)); (case side2 => exact HC1.out); rintro e w21 ⟨v506, rfl, ho0, hb⟩; refine ⟨_, rfl, ?_⟩; have n0_ := Aside0.mk (Kd.S_elder' (KS HO_8) (Kd.S_base ho0) hb); have n1_ := Aside0.mk (Kd.S_lower (Kd.S_new' ho0 (Kd.S_lt (KS HO_8))) (below_size BB)); have n2_ := Aside0.mk (below_step BB hb); clear HO_8; clear HB; have HO_8 := n0_; have HO507 := n1_; have HB := n2_; clear n0_ n1_ n2_; (try clear hb); (try clear hb2); (try clear hk); (try clear hi); (try clear ho0); obtain ⟨Ao22, co22, eo22⟩ := Kd.S_slice HO507.out; subst eo22) | ((with_reducible refine gate_callee (f := 15) rfl ?_); refine goesL_ (some 42) rfl rfl Try.func15 (by kernel_rfl) rfl #[.slice Ao14 t500.length co14, .slice Ao22 t505.length co22] rfl TA ?_; (with_reducible refine (laws_eqIntSS.calls kj8 _ _ t500 _ _ t505 true _ ?side1 ?side2 ?side3 ?side4 A19.out).mono ?_); (case side1 => exact CW (Kd.S_reads' HO_8.out).2.2); (case side2 => exact (Kd.S_reads' HO_8.out).2.1); (case side3 => exact CW (Kd.S_reads' HO507.out).2.2); (case side4 => exact (Kd.S_reads' HO507.out).2.1); rintro e w' ⟨rfl, ⟨nd, rfl⟩⟩; refine ⟨_, rfl, ?_⟩))
      go_ret
      exact ⟨RE, BB⟩
     ·replace c20 := Bool.eq_false_iff.mpr c20
      subst c20
      replace H := IN H
      obtain rfl := Option.some.inj H
      go_wp2_with (first | ((with_reducible refine gate_callee (f := 13) rfl ?_); refine goesL_ (some 41) rfl rfl Try.func13 (by kernel_rfl) rfl #[.slice A1 l1.length c1] rfl TA ?_; (with_reducible refine (laws_toIntSS.calls kj8 _ _ l1 t505 _ ?side1 ?side2 A18.out).mono ?_); (case side1 => exact CW (Kd.C_below HR1.out HB.out)); (case side2 => exact HC1.out); rintro e w23 ⟨v506, rfl, ho0, hb⟩; refine ⟨_, rfl, ?_⟩; have n0_ := Aside0.mk (Kd.S_elder' (KS HO_8) (Kd.S_base ho0) hb); have n1_ := Aside0.mk (Kd.S_lower (Kd.S_new' ho0 (Kd.S_lt (KS HO_8))) (below_size BB)); have n2_ := Aside0.mk (below_step BB hb); clear HO_8; clear HB; have HO_8 := n0_; have HO507 := n1_; have HB := n2_; clear n0_ n1_ n2_; (try clear hb); (try clear hb2); (try clear hk); (try clear hi); (try clear ho0); obtain ⟨Ao24, co24, eo24⟩ := Kd.S_slice HO507.out; subst eo24) | ((with_reducible refine gate_callee (f := 15) rfl ?_); refine goesL_ (some 42) rfl rfl Try.func15 (by kernel_rfl) rfl #[.slice Ao14 t500.length co14, .slice Ao24 t505.length co24] rfl TA ?_; (with_reducible refine (laws_eqIntSS.calls kj8 _ _ t500 _ _ t505 false _ ?side1 ?side2 ?side3 ?side4 A19.out).mono ?_); (case side1 => exact CW (Kd.S_reads' HO_8.out).2.2); (case side2 => exact (Kd.S_reads' HO_8.out).2.1); (case side3 => exact CW (Kd.S_reads' HO507.out).2.2); (case side4 => exact (Kd.S_reads' HO507.out).2.1); rintro e w' ⟨rfl, ⟨nd, rfl⟩⟩; refine ⟨_, rfl, ?_⟩))
      go_ret
      exact ⟨RE, BB⟩

end Go.Proofs.Ytgpplbaloajgdab.PFnExactFullOfMap
