-- Written by a program of this session (wip/tools/pp.sh) out of the translation; Lean checks it.
import Derived.Test.YtgpplbaloajgdaaPFnExactExitOfx0
import Derived.Test.YtgpplbaloajgdaaPFnExactExitOfx9
namespace Go.Proofs.Ytgpplbaloajgdaa.PFnExactExitOf
open Go.RowKit Go.Proofs.YtgpplbaloajgdaaOwn Go.Proofs.YtgpplbaloajgdaaW.PrintWords Go.Proofs.YtgpplbaloajgdaaW.PrintLast Go.Proofs.YtgpplbaloajgdaaW.PrintMore
attribute [local go_sem] max2_int min2_int max_two min_two max_three min_three max_four min_four   -- for this text's walks alone
set_option linter.unusedVariables false
set_option linter.unusedSimpArgs false

def impl_house_entries_1.f (l0 : List Int) (l1 : List (S42)) : Option (Bool) := if 0 < (l1.length : Int) then (if 0 < (l0.length : Int) then (if 1 < (l0.length : Int) then ((impl_house_isDoor.f ((rd_T42 l1 0).f0) ((rd_T42 l1 0).f1) ((rd_T42 l1 0).f2) ((rd_T42 l1 0).f3) (rd l0 0) (rd l0 1)).bind fun t342 => (some (!t342))) else (none)) else (none)) else (none)
def impl_house_entries_1.T1 : Bool × List (List Nat × List Nat) := (true, [([], []), ([], []), ([1], [1]), ([2], [2]), ([], []), ([4], [4]), ([5], [5]), ([0, 3, 6], [0, 3, 6]), ([7], [7]), ([8, 7, 0, 1, 2, 3, 4, 5, 6, 7, 8], [8])])
def impl_house_entries_1.B1 : List Nat := [0, 0, 2, 6, 0, 16, 48, 127, 255, 511]
theorem impl_house_entries_1.tab1 : rtab .any (opsOf Try.f51 1) = impl_house_entries_1.T1 := by kernel_rfl
theorem impl_house_entries_1.bits1 : waitsOk impl_house_entries_1.T1.2 impl_house_entries_1.B1 = true := by kernel_rfl
set_option maxHeartbeats 8000000 in
set_option maxRecDepth 100000 in
theorem impl_house_entries_1.calls (A0 : Option Addr) (c0 : Nat) (l0 : List Int) (A1 : Option Addr) (c1 : Nat) (l1 : List (S42)) (r : Bool) (w : World) (hr0 : Kd.C (Kd.int .i64) w A0 l0.length l0) (hc0 : l0.length ≤ c0) (hr1 : Kd.C k42 w A1 l1.length l1) (hc1 : l1.length ≤ c1) (h : impl_house_entries_1.f l0 l1 = some r) :
  Calls Try.prog 51 #[.slice A0 l0.length c0, .pointer A1] w fun e w' => e = .returned (.bool r) ∧ Below w.heap.size w w' := by
 have hu42 := Try.underlying42; have HR0 := Aside0.mk hr0; have HC0 := Aside0.mk hc0; clear hr0 hc0; have HR1 := Aside0.mk hr1; have HC1 := Aside0.mk hc1; clear hr1 hc1; have HB := Aside0.mk (Below.refl w.heap.size w); have H : (if 0 < (l1.length : Int) then (if 0 < (l0.length : Int) then (if 1 < (l0.length : Int) then ((impl_house_isDoor.f ((rd_T42 l1 0).f0) ((rd_T42 l1 0).f1) ((rd_T42 l1 0).f2) ((rd_T42 l1 0).f3) (rd l0 0) (rd l0 1)).bind fun t342 => (some (!t342))) else (none)) else (none)) else (none)) = some r := h; clear h
 by_cases c3 : 0 < (l1.length : Int)
 ·rw [if_pos c3] at H
  have c3b0 : decide (0 < (l1.length : Int)) = true := decide_eq_true c3; have c3b1 : decide (0 < l1.length) = true := decide_eq_true (by omega); clear c3
  by_cases c4 : 0 < (l0.length : Int)
  ·rw [if_pos c4] at H
   have c4b0 : decide (0 < (l0.length : Int)) = true := decide_eq_true c4; have c4b1 : decide (0 < l0.length) = true := decide_eq_true (by omega); clear c4
   by_cases c5 : 1 < (l0.length : Int)
   ·rw [if_pos c5] at H
    have c5b0 : decide (1 < (l0.length : Int)) = true := decide_eq_true c5; have c5b1 : decide (1 < l0.length) = true := decide_eq_true (by omega); clear c5; replace H := Option.bind_eq_some_iff.mp H; obtain ⟨t342, A60, H⟩ := H; replace H : (some (!t342)) = some r := H; have A6 := Aside0.mk A60; clear A60; obtain rfl := Option.some.inj H
    go_enter Try.func51, Try.ntmps51
    try go_wp2
    have n0_ := Aside0.mk (below_drew1 HB.out); clear HB; have HB := n0_; clear n0_; have p339 : 0 ≤ (0 : Int) := (by omega); have q339 : 0 < (l1.length : Int) := of_decide_eq_true AS; obtain ⟨ad339, A339_1, c339_1, A339_2, c339_2, A339_3, c339_3, e339, hx339_0, hx339_1, hx339_2, hx339_3, hl339_1, hi339_1, hl339_2, hi339_2, hl339_3, hi339_3⟩ := at_T42 HR1.out 0 p339 q339; have hw339_3 := hx339_3
    (try rw [show ((0 : Int)).toNat = 0 from rfl] at hw339_3)
    (try rw [show 0 * 4 = 0 from rfl] at hw339_3)
    (try rw [Addr.add_zero'] at hw339_3)
    have hw339_2 := hx339_2
    (try rw [show ((0 : Int)).toNat = 0 from rfl] at hw339_2)
    (try rw [show 0 * 4 = 0 from rfl] at hw339_2)
    (try rw [Addr.add_zero'] at hw339_2)
    have hw339_1 := hx339_1
    (try rw [show ((0 : Int)).toNat = 0 from rfl] at hw339_1)
    (try rw [show 0 * 4 = 0 from rfl] at hw339_1)
    (try rw [Addr.add_zero'] at hw339_1)
    have hw339_0 := hx339_0
    (try rw [show ((0 : Int)).toNat = 0 from rfl] at hw339_0)
    (try rw [show 0 * 4 = 0 from rfl] at hw339_0)
    (try rw [Addr.add_zero'] at hw339_0)
    cases e339; have qi339 : (0 < l1.length) = True := eq_true (by omega)
    (try rw [show ((0 : Int)).toNat = 0 from rfl] at hx339_0)
    (try rw [show 0 * 4 = 0 from rfl] at hx339_0)
    (try rw [Addr.add_zero'] at hx339_0)
    (try rw [show ((0 : Int)).toNat = 0 from rfl] at hx339_1)
    (try rw [show 0 * 4 = 0 from rfl] at hx339_1)
    (try rw [Addr.add_zero'] at hx339_1)
    (try rw [show ((0 : Int)).toNat = 0 from rfl] at hx339_2)
    (try rw [show 0 * 4 = 0 from rfl] at hx339_2)
    (try rw [Addr.add_zero'] at hx339_2)
    (try rw [show ((0 : Int)).toNat = 0 from rfl] at hx339_3)
    (try rw [show 0 * 4 = 0 from rfl] at hx339_3)
    (try rw [Addr.add_zero'] at hx339_3)
    replace hx339_0 := (HB.out.cell (World.block_lt_of_cell? w _ hx339_0)).trans hx339_0; replace hx339_1 := (HB.out.cell (World.block_lt_of_cell? w _ hx339_1)).trans hx339_1; replace hx339_2 := (HB.out.cell (World.block_lt_of_cell? w _ hx339_2)).trans hx339_2; replace hx339_3 := (HB.out.cell (World.block_lt_of_cell? w _ hx339_3)).trans hx339_3; have HR339_1 := Aside0.mk hi339_1; have HC339_1 := Aside0.mk hl339_1; clear hi339_1 hl339_1; have HR339_2 := Aside0.mk hi339_2; have HC339_2 := Aside0.mk hl339_2; clear hi339_2 hl339_2; have HR339_3 := Aside0.mk hi339_3; have HC339_3 := Aside0.mk hl339_3; clear hi339_3 hl339_3; replace p339 := eq_true p339; replace q339 := eq_true q339; have p340 : 0 ≤ (0 : Int) := (by omega); have q340 : 0 < (l0.length : Int) := of_decide_eq_true AS; obtain ⟨ad340, e340, hx340_0⟩ := Kd.at_int HR0.out 0 p340 q340; have hw340_0 := hx340_0
    (try rw [show ((0 : Int)).toNat = 0 from rfl] at hw340_0)
    (try rw [show 0 * 1 = 0 from rfl] at hw340_0)
    (try rw [Addr.add_zero'] at hw340_0)
    cases e340; have qi340 : (0 < l0.length) = True := eq_true (by omega)
    (try rw [show ((0 : Int)).toNat = 0 from rfl] at hx340_0)
    (try rw [Addr.add_zero'] at hx340_0)
    replace hx340_0 := (HB.out.cell (World.block_lt_of_cell? w _ hx340_0)).trans hx340_0; replace p340 := eq_true p340; replace q340 := eq_true q340; have p341 : 0 ≤ (1 : Int) := (by omega); have q341 : 1 < (l0.length : Int) := of_decide_eq_true AS; obtain ⟨ad341, e341, hx341_0⟩ := Kd.at_int HR0.out 1 p341 q341; have hw341_0 := hx341_0
    (try rw [show ((1 : Int)).toNat = 1 from rfl] at hw341_0)
    (try rw [show 1 * 1 = 1 from rfl] at hw341_0)
    (try simp only [Nat.reduceMul, Nat.reduceEqDiff, Go.Addr.add, ↓reduceIte] at hw341_0)
    obtain rfl : ad340 = ad341 := (by injection e341)
    (try simp only [show (1 : Int).toNat = 1 from rfl, Nat.reduceMul, Nat.reduceEqDiff, Go.Addr.add, ↓reduceIte] at hx341_0)
    have qi341 : (1 < l0.length) = True := eq_true (by omega)
    (try rw [show ((1 : Int)).toNat = 1 from rfl] at hx341_0)
    replace hx341_0 := (HB.out.cell (World.block_lt_of_cell? w _ hx341_0)).trans hx341_0; replace p341 := eq_true p341; replace q341 := eq_true q341
    refine start_ (n := 10) (S := fun w' => w'.cell? ad339 = some (.int .i64 ((rd_T42 l1 0).f0)) ∧ w'.cell? ⟨ad339.block, ad339.off + 1, none⟩ = some (.slice A339_1 ((rd_T42 l1 0).f1).length c339_1) ∧ w'.cell? ⟨ad339.block, ad339.off + 2, none⟩ = some (.slice A339_2 ((rd_T42 l1 0).f2).length c339_2) ∧ w'.cell? ⟨ad339.block, ad339.off + 3, none⟩ = some (.slice A339_3 ((rd_T42 l1 0).f3).length c339_3) ∧ w'.cell? ad340 = some (.int .i64 (rd l0 0)) ∧ w'.cell? ⟨ad340.block, ad340.off + 1, none⟩ = some (.int .i64 (rd l0 1))) (ds := []) #[false, false, false, false, false, false, false, false, false, false] (by kernel_rfl) rfl rfl ⟨((HB.out.cell (World.block_lt_of_cell? w _ hw339_0)).trans hw339_0), ((HB.out.cell (World.block_lt_of_cell? w _ hw339_1)).trans hw339_1), ((HB.out.cell (World.block_lt_of_cell? w _ hw339_2)).trans hw339_2), ((HB.out.cell (World.block_lt_of_cell? w _ hw339_3)).trans hw339_3), ((HB.out.cell (World.block_lt_of_cell? w _ hw340_0)).trans hw340_0), ((HB.out.cell (World.block_lt_of_cell? w _ hw341_0)).trans hw341_0)⟩ (fun hHeld => ?_); refine with_tabW impl_house_entries_1.tab1 impl_house_entries_1.bits1 (fun HT_ HW_ => ?_)
    generalize w.drew = w7 at HB HR339_1 HR339_2 HR339_3 hx339_0 hx339_1 hx339_2 hx339_3 hx340_0 hx341_0 hHeld ⊢
    refine pure_ (i := 1) (N := some 5) (v := ?_) (a' := ?_) #[false, true, false, false, false, false, false, false, false, false] rfl rfl (any_of HT_.out (by kernel_rfl)) (fun _ _ _ h => h) (Or.inl ⟨by rfl, ?_⟩) ?_ ?_
    rotate_left
    ·intro w'; go_simp; with_reducible rfl
    rotate_left
    ·simp only [Act.put, List.setIfInBounds_toArray, List.set_cons_zero, List.set_cons_succ, i64_w, i32_w]; rfl
    refine pure_ (i := 2) (N := some 6) (v := ?_) (a' := ?_) #[false, true, true, false, false, false, false, false, false, false] rfl rfl (any_of HT_.out (by kernel_rfl)) (fun _ _ _ h => h) (Or.inl ⟨by rfl, ?_⟩) ?_ ?_
    rotate_left
    ·intro w'; go_simp; with_reducible rfl
    rotate_left
    ·simp only [Act.put, List.setIfInBounds_toArray, List.set_cons_zero, List.set_cons_succ, i64_w, i32_w]; rfl
    refine pure_ (i := 4) (N := some 8) (v := ?_) (a' := ?_) #[false, true, true, false, true, false, false, false, false, false] rfl rfl (any_of HT_.out (by kernel_rfl)) (fun _ _ _ h => h) (Or.inl ⟨by rfl, ?_⟩) ?_ ?_
    rotate_left
    ·intro w'; go_simp; with_reducible rfl
    rotate_left
    ·simp only [Act.put, List.setIfInBounds_toArray, List.set_cons_zero, List.set_cons_succ, i64_w, i32_w]; rfl
    refine pure_ (i := 5) (N := some 9) (v := ?_) (a' := ?_) #[false, true, true, false, true, true, false, false, false, false] rfl rfl (any_of HT_.out (by kernel_rfl)) (fun _ _ _ h => h) (Or.inl ⟨by rfl, ?_⟩) ?_ ?_
    rotate_left
    ·intro w'; go_simp; with_reducible rfl
    rotate_left
    ·simp only [Act.put, List.setIfInBounds_toArray, List.set_cons_zero, List.set_cons_succ, i64_w, i32_w]; rfl
    refine take_ (i := 0) (N := some 4) (v := ?_) (a' := ?_) #[true, true, true, false, true, true, false, false, false, false] rfl rfl (take_ofW HT_.out HW_.out (by kernel_rfl)) (fun _ _ _ h => h) (Or.inl ⟨by rfl, ?_⟩) hHeld ?_ ?_
    rotate_left
    ·rintro w' ⟨s0, s1, s2, s3, s4, s5⟩; go_simp; with_reducible rfl
    rotate_left
    ·simp only [Act.put, List.setIfInBounds_toArray, List.set_cons_zero, List.set_cons_succ, i64_w, i32_w]; rfl
    refine take_ (i := 3) (N := some 7) (v := ?_) (a' := ?_) #[true, true, true, true, true, true, false, false, false, false] rfl rfl (take_ofW HT_.out HW_.out (by kernel_rfl)) (fun _ _ _ h => h) (Or.inl ⟨by rfl, ?_⟩) hHeld ?_ ?_
    rotate_left
    ·rintro w' ⟨s0, s1, s2, s3, s4, s5⟩; go_simp; with_reducible rfl
    rotate_left
    ·simp only [Act.put, List.setIfInBounds_toArray, List.set_cons_zero, List.set_cons_succ, i64_w, i32_w]; rfl
    refine take_ (i := 6) (N := some 10) (v := ?_) (a' := ?_) #[true, true, true, true, true, true, true, false, false, false] rfl rfl (take_ofW HT_.out HW_.out (by kernel_rfl)) (fun _ _ _ h => h) (Or.inl ⟨by rfl, ?_⟩) hHeld ?_ ?_
    rotate_left
    ·rintro w' ⟨s0, s1, s2, s3, s4, s5⟩; go_simp; with_reducible rfl
    rotate_left
    ·simp only [Act.put, List.setIfInBounds_toArray, List.set_cons_zero, List.set_cons_succ, i64_w, i32_w]; rfl
    refine one_ (i := 7) (N := some 11) #[true, true, true, true, true, true, true, true, false, false] rfl rfl (one_of HT_.out (by kernel_rfl)) (by decide) (fun K hK => ?_)
    refine goes_ Try.func52 (by kernel_rfl) rfl #[.agg #[.int .i64 ((rd_T42 l1 0).f0), .slice A339_1 ((rd_T42 l1 0).f1).length c339_1, .slice A339_2 ((rd_T42 l1 0).f2).length c339_2, .slice A339_3 ((rd_T42 l1 0).f3).length c339_3], .int .i64 (rd l0 0), .int .i64 (rd l0 1)] (by rfl) rfl rfl TA ?_
    with_reducible refine (impl_house_isDoor.calls ((rd_T42 l1 0).f0) _ _ ((rd_T42 l1 0).f1) _ _ ((rd_T42 l1 0).f2) _ _ ((rd_T42 l1 0).f3) (rd l0 0) (rd l0 1) t342 _ ?side1 ?side2 ?side3 ?side4 ?side5 ?side6 A6.out).mono ?_
    (case side1 => repeat (first | exact (Kd.C_below HR339_1.out HB.out) | (with_reducible refine Kd.C_alloc ?_ _) | (with_reducible refine Kd.C_drewN ?_ _) | (with_reducible refine Kd.C_drew ?_)))
    (case side2 => exact HC339_1.out)
    (case side3 => repeat (first | exact (Kd.C_below HR339_2.out HB.out) | (with_reducible refine Kd.C_alloc ?_ _) | (with_reducible refine Kd.C_drewN ?_ _) | (with_reducible refine Kd.C_drew ?_)))
    (case side4 => exact HC339_2.out)
    (case side5 => repeat (first | exact (Kd.C_below HR339_3.out HB.out) | (with_reducible refine Kd.C_alloc ?_ _) | (with_reducible refine Kd.C_drewN ?_ _) | (with_reducible refine Kd.C_drew ?_)))
    (case side6 => exact HC339_3.out)
    rintro e w8 ⟨rfl, hb⟩
    refine ⟨_, rfl, ?_⟩
    have n0_ := Aside0.mk (below_step BB hb); clear HB; have HB := n0_; clear n0_
    (try clear hb)
    (try clear hb2)
    (try clear hk)
    (try clear hi)
    refine hK.out _ _ ⟨((HB.out.cell (World.block_lt_of_cell? w _ hw339_0)).trans hw339_0), ((HB.out.cell (World.block_lt_of_cell? w _ hw339_1)).trans hw339_1), ((HB.out.cell (World.block_lt_of_cell? w _ hw339_2)).trans hw339_2), ((HB.out.cell (World.block_lt_of_cell? w _ hw339_3)).trans hw339_3), ((HB.out.cell (World.block_lt_of_cell? w _ hw340_0)).trans hw340_0), ((HB.out.cell (World.block_lt_of_cell? w _ hw341_0)).trans hw341_0)⟩ (fun hHeld => ?_)
    clear hK K
    refine norm_ (a' := ?_) ?_ ?_
    rotate_left
    ·show Act.put _ (some 11) _ = _
     simp only [Act.put, List.setIfInBounds_toArray, List.set_cons_zero, List.set_cons_succ, i64_w, i32_w]
     rfl
    refine pure_ (i := 8) (N := some 12) (v := ?_) (a' := ?_) #[true, true, true, true, true, true, true, true, true, false] rfl rfl (any_of HT_.out (by kernel_rfl)) (fun _ _ _ h => h) (Or.inl ⟨by rfl, ?_⟩) ?_ ?_
    rotate_left
    ·intro w'; go_simp; with_reducible rfl
    rotate_left
    ·simp only [Act.put, List.setIfInBounds_toArray, List.set_cons_zero, List.set_cons_succ, i64_w, i32_w]; rfl
    refine pure_ (i := 9) (N := some 3) (v := ?_) (a' := ?_) #[true, true, true, true, true, true, true, true, true, true] rfl rfl (any_of HT_.out (by kernel_rfl)) (fun _ _ _ h => h) (Or.inl ⟨by rfl, ?_⟩) ?_ ?_
    rotate_left
    ·intro w'; go_simp; with_reducible rfl
    rotate_left
    ·simp only [Act.put, List.setIfInBounds_toArray, List.set_cons_zero, List.set_cons_succ, i64_w, i32_w]; rfl
    refine done_ (done_of HT_.out (by kernel_rfl)) ?_
    try go_wp2
    go_ret
    exact ⟨by first | rfl | (simp [errW_none, errW_some] <;> rfl) | (simp [*, errW_none, errW_some] <;> rfl), BB⟩
   ·rw [if_neg c5] at H
    exact absurd H (by simp)
  ·rw [if_neg c4] at H
   exact absurd H (by simp)
 ·rw [if_neg c3] at H
  exact absurd H (by simp)

def impl_house_entries.q (a0 : Int) (l1 : List Int) (l2 : List (List Int)) (l3 : List Int) (x : List Int) : Bool := (impl_house_entries_1.f x [(⟨a0, l1, l2, l3⟩ : S42)]).getD false
def impl_house_entries.f (k : Nat) (a0 : Int) (l1 : List Int) (l2 : List (List Int)) (l3 : List Int) : Option (List (List Int)) := (impl_house_steps.f k a0 l1 l2 l3).bind fun t => if ((t.all fun x => (impl_house_entries_1.f x [(⟨a0, l1, l2, l3⟩ : S42)]).isSome) && decide (t.length ≤ 9223372036854775807)) = true then some (t.filter fun x => !impl_house_entries.q a0 l1 l2 l3 x) else none
theorem impl_house_entries.mono : ∀ a0 a1 a2 a3 k, LeO (impl_house_entries.f k a0 a1 a2 a3) (impl_house_entries.f (k + 1) a0 a1 a2 a3) := by
 intro a0 a1 a2 a3 k
 unfold impl_house_entries.f
 exact LeO.bind (impl_house_steps.mono _ _ _ _ _) (fun _ => LeO.refl _)
theorem impl_house_entries.cl {a0_0 : Int} {A0_1 : Option Addr} {c0_1 : Nat} {l0_1 : List Int} {A0_2 : Option Addr} {c0_2 : Nat} {l0_2 : List (List Int)} {A0_3 : Option Addr} {c0_3 : Nat} {l0_3 : List Int} {w1 w2 : World} {gb : Nat} {ok : Nat → Prop} {v0 : Value} {t : List (List Int)}
  (hX : w1.heap[gb]? = some (.cells #[.int .i64 a0_0, .slice A0_1 l0_1.length c0_1, .slice A0_2 l0_2.length c0_2, .slice A0_3 l0_3.length c0_3] 42 (0, 0))) (hb2 : Below w1.heap.size w1 w2) (hS : Kd.S (Kd.slice 3 (Kd.int .i64)) 22 w2 w1.heap.size ok v0 t)
  (hr1 : Kd.C (Kd.int .i64) w1 A0_1 l0_1.length l0_1) (hc1 : l0_1.length ≤ c0_1) (hr2 : Kd.C (Kd.slice 3 (Kd.int .i64)) w1 A0_2 l0_2.length l0_2) (hc2 : l0_2.length ≤ c0_2) (hr3 : Kd.C (Kd.int .i64) w1 A0_3 l0_3.length l0_3) (hc3 : l0_3.length ≤ c0_3)
  (hall : (t.all fun x => (impl_house_entries_1.f x [(⟨a0_0, l0_1, l0_2, l0_3⟩ : S42)]).isSome) = true) :
  ∀ x ∈ t, ∀ (A : Option Addr) (c : Nat) (W : World), W.os = w2.os → W.tape = w2.tape → W.output = w2.output → Kept w2 W (fun k => some k = v0.ownBlock) → Kd.C (Kd.int .i64) W A x.length x → x.length ≤ c →
   Calls Try.prog 51 (#[.slice A x.length c] ++ #[.pointer (some ⟨gb, 0, none⟩)]) W fun e W' => e = .returned (.bool (impl_house_entries.q a0_0 l0_1 l0_2 l0_3 x)) ∧ Below W.heap.size W W' := by
 intro x hx A c W hos htp hout hK hC hlc
 have hgb : gb < w1.heap.size := blk_lt hX; have hv0 : ∀ q, v0.ownBlock = some q → w1.heap.size ≤ q := fun q hq => Kd.R_base (Kd.S_R hS) q hq
 have hblk : ∀ q, q < w1.heap.size → W.heap[q]? = w1.heap[q]? := fun q hq => (hK.2 q (Nat.lt_of_lt_of_le hq hb2.size) (fun e => by have := hv0 q e.symm; omega)).trans (hb2.block q hq)
 have hBW : Below w1.heap.size w1 W := ⟨hos.trans hb2.os, htp.trans hb2.tape, hout.trans hb2.output, Nat.le_trans hb2.size hK.1, hblk⟩
 have hsome : (impl_house_entries_1.f x [(⟨a0_0, l0_1, l0_2, l0_3⟩ : S42)]) = some (impl_house_entries.q a0_0 l0_1 l0_2 l0_3 x) := by
  have h1 := List.all_eq_true.1 hall x hx
  unfold impl_house_entries.q
  obtain ⟨b, hb⟩ := Option.isSome_iff_exists.1 h1; rw [hb]; rfl
 show Calls Try.prog 51 #[.slice A x.length c, .pointer (some ⟨gb, 0, none⟩)] W _
 exact impl_house_entries_1.calls A c x (some ⟨gb, 0, none⟩) 1 [(⟨a0_0, l0_1, l0_2, l0_3⟩ : S42)] (impl_house_entries.q a0_0 l0_1 l0_2 l0_3 x) W hC hlc
  (Kd.C_box k42 (g := gb) (t := 42) (cs := #[.int .i64 a0_0, .slice A0_1 l0_1.length c0_1, .slice A0_2 l0_2.length c0_2, .slice A0_3 l0_3.length c0_3]) ((hblk gb hgb).trans hX)
   (k42_mk W (⟨a0_0, l0_1, l0_2, l0_3⟩ : S42) hc1 (Kd.C_below hr1 hBW) hc2 (Kd.C_below hr2 hBW) hc3 (Kd.C_below hr3 hBW)))
  (Nat.le_refl _) hsome
set_option maxHeartbeats 8000000 in
set_option maxRecDepth 100000 in
theorem impl_house_entries.calls (k : Nat) (a0_0 : Int) (A0_1 : Option Addr) (c0_1 : Nat) (l0_1 : List Int) (A0_2 : Option Addr) (c0_2 : Nat) (l0_2 : List (List Int)) (A0_3 : Option Addr) (c0_3 : Nat) (l0_3 : List Int) (r : List (List Int)) (w : World) (hr0_1 : Kd.C (Kd.int .i64) w A0_1 l0_1.length l0_1) (hc0_1 : l0_1.length ≤ c0_1) (hr0_2 : Kd.C (Kd.slice 3 (Kd.int .i64)) w A0_2 l0_2.length l0_2) (hc0_2 : l0_2.length ≤ c0_2) (hr0_3 : Kd.C (Kd.int .i64) w A0_3 l0_3.length l0_3) (hc0_3 : l0_3.length ≤ c0_3) (h : impl_house_entries.f k a0_0 l0_1 l0_2 l0_3 = some r) :
  Calls Try.prog 25 #[.agg #[.int .i64 a0_0, .slice A0_1 l0_1.length c0_1, .slice A0_2 l0_2.length c0_2, .slice A0_3 l0_3.length c0_3]] w fun e w' => ∃ v0_ : Value, e = .returned (v0_) ∧ Kd.S (Kd.slice 3 (Kd.int .i64)) 22 w' w.heap.size (fun _ => True) v0_ r ∧ Below w.heap.size w w' := by
 have hu := Try.underlying42; have HR1 := Aside0.mk hr0_1; have HR2 := Aside0.mk hr0_2; have HR3 := Aside0.mk hr0_3; have HC1 := Aside0.mk hc0_1; have HC2 := Aside0.mk hc0_2; have HC3 := Aside0.mk hc0_3; clear hr0_1 hr0_2 hr0_3 hc0_1 hc0_2 hc0_3
 unfold impl_house_entries.f at h
 obtain ⟨t, ht, h2⟩ := Option.bind_eq_some_iff.mp h; clear h; have HT := Aside0.mk ht; clear ht
 by_cases hc : ((t.all fun x => (impl_house_entries_1.f x [(⟨a0_0, l0_1, l0_2, l0_3⟩ : S42)]).isSome) && decide (t.length ≤ 9223372036854775807)) = true
 ·rw [if_pos hc] at h2
  have HRR := Aside0.mk (Option.some.inj h2); have HC := Aside0.mk hc; clear h2 hc; have eg : ∀ args w, (callFunc 51 args).run Try.prog w = .ok (.enter 51 args) w := Go.Proofs.enters_of Try.func51 (by kernel_rfl) rfl; have HEG := Aside0.mk eg; clear eg
  go_enter Try.func25, Try.ntmps25
  go_wp2_with (first
   | ((with_reducible refine gate_dst (N := 1) rfl ?_); refine box_event ?hg (N := 1) ?hd (cs := #[.int .i64 a0_0, .slice A0_1 l0_1.length c0_1, .slice A0_2 l0_2.length c0_2, .slice A0_3 l0_3.length c0_3]) (t := 42) ?hr ?_; (case hd => rfl); (case hg => rfl); (case hr => first | (go_simp; done) | (go_simp; rfl)); intro gb hg w1 hbox hb; have HB1 := Aside0.mk hb; have HX := Aside0.mk hbox; have HG := Aside0.mk hg; clear hb hbox hg; have z0 : w1.cell? ⟨gb, 0, none⟩ = some (.int .i64 a0_0) := (blk_cell HX.out 0).trans rfl; have z1 : w1.cell? ⟨gb, 1, none⟩ = some (.slice A0_1 l0_1.length c0_1) := (blk_cell HX.out 1).trans rfl; have z2 : w1.cell? ⟨gb, 2, none⟩ = some (.slice A0_2 l0_2.length c0_2) := (blk_cell HX.out 2).trans rfl; have z3 : w1.cell? ⟨gb, 3, none⟩ = some (.slice A0_3 l0_3.length c0_3) := (blk_cell HX.out 3).trans rfl)
   | (go_at_call 50; refine (impl_house_steps.calls k a0_0 A0_1 c0_1 l0_1 A0_2 c0_2 l0_2 A0_3 c0_3 l0_3 t w1 (Kd.C_below HR1.out HB1.out) HC1.out (Kd.C_below HR2.out HB1.out) HC2.out (Kd.C_below HR3.out HB1.out) HC3.out HT.out).mono ?_; rintro e w2 ⟨v0, rfl, hS, hb2⟩; have HS := Aside0.mk hS; have HB2 := Aside0.mk hb2; clear hS hb2 z0 z1 z2 z3)
   | (go_at_call 49; refine (deleteS 51 #[.pointer (some ⟨gb, 0, none⟩)] HEG.out (impl_house_entries.q a0_0 l0_1 l0_2 l0_3) HS.out (of_decide_eq_true (Bool.and_eq_true_iff.1 HC.out).2) (impl_house_entries.cl HX.out HB2.out HS.out (Kd.C_below HR1.out HB1.out) HC1.out (Kd.C_below HR2.out HB1.out) HC2.out (Kd.C_below HR3.out HB1.out) HC3.out (Bool.and_eq_true_iff.1 HC.out).1)).mono ?_; rintro e w3 ⟨v1, rfl, hS3, hob, hos, htp, hout, hK⟩; have HS3 := Aside0.mk hS3; have HE := Aside0.mk (And.intro hob (And.intro hos (And.intro htp (And.intro hout hK)))); clear hS3 hob hos htp hout hK))
  go_ret
  have hE := HE.out; have hv0 : ∀ q, v0.ownBlock = some q → w1.heap.size ≤ q := fun q hq => Kd.R_base (Kd.S_R HS.out) q hq
  have h1 := HB1.out.size; have hS3 := Kd.S_lower HS3.out HB1.out.size; rw [HRR.out] at hS3
  refine ⟨v1, rfl, hS3, ?_⟩
  have hK := hE.2.2.2.2
  exact ⟨(hE.2.1.trans HB2.out.os).trans HB1.out.os, (hE.2.2.1.trans HB2.out.tape).trans HB1.out.tape, (hE.2.2.2.1.trans HB2.out.output).trans HB1.out.output, Nat.le_trans h1 (Nat.le_trans HB2.out.size hK.1),
   fun q hq => ((hK.2 q (Nat.lt_of_lt_of_le hq (Nat.le_trans h1 HB2.out.size)) (fun e => by have := hv0 q e.symm; omega)).trans (HB2.out.block q (Nat.lt_of_lt_of_le hq h1))).trans (HB1.out.block q hq)⟩
 ·rw [if_neg hc] at h2
  cases h2

def impl_sorted.f (a0 : Int) (a1 : Int) : Option (List Int) := some (([mn a0 a1, mx a0 a1] : List Int))
set_option maxHeartbeats 8000000 in
set_option maxRecDepth 100000 in
theorem impl_sorted.calls (a0 : Int) (a1 : Int) (r : List Int) (w : World) (h : impl_sorted.f a0 a1 = some r) :
  Calls Try.prog 32 #[.int .i64 a0, .int .i64 a1] w fun e w' => ∃ v0_ : Value, e = .returned (v0_) ∧ Kd.R (Kd.int .i64) 3 w' w.heap.size (fun _ => True) v0_ r ∧ Below w.heap.size w w' := by
 have HB := Aside0.mk (Below.refl w.heap.size w); have H : (some (([mn a0 a1, mx a0 a1] : List Int))) = some r := h; clear h; obtain ⟨ji3, hji3⟩ : ∃ j_ : Int, (mn a0 a1) = j_ := ⟨_, rfl⟩; replace H : (some (([ji3, mx a0 a1] : List Int))) = some r := by first | (rw [hji3] at H; exact H) | (simp only [hji3] at H ⊢; exact H)
 have hji3_ : (if a1 < a0 then a1 else a0) = ji3 := hji3; obtain ⟨ji4, hji4⟩ : ∃ j_ : Int, (mx a0 a1) = j_ := ⟨_, rfl⟩; replace H : (some (([ji3, ji4] : List Int))) = some r := by first | (rw [hji4] at H; exact H) | (simp only [hji4] at H ⊢; exact H)
 have hji4_ : (if a0 < a1 then a1 else a0) = ji4 := hji4; obtain ⟨y343, hy343⟩ : ∃ y_ : List Int, y_ = (([ji3, ji4] : List Int)) := ⟨_, rfl⟩; replace H : (some y343) = some r := by first | (rw [hy343]; with_reducible exact H) | (have H2_ := (Option.bind_some _ _).symm.trans H; rw [hy343]; with_reducible exact H2_) | (have H2_ := (Option.bind_some _ _).symm.trans H; with_reducible exact H2_) | with_reducible exact H | (rw [hy343]; exact H) | exact H
 have Ny343 := Aside0.mk hy343; clear hy343; obtain rfl := Option.some.inj H
 go_enter Try.func32, Try.ntmps32
 go_wp2_with (first | ((with_reducible refine gate_dst (N := 11) rfl ?_); refine Kd.R_lit (Kd.int .i64) _ 3 ?hg (N := 11) ?hd (xs := ([ji3, ji4] : List Int)) (inner := [.int .i64 ji3, .int .i64 ji4]) (ok := fun _ => True) (okp := fun _ => True) ?hr ?hp (fun _ hk => hk) trivial (Below.refl _ _) (Nat.le_refl _) (by simp) ?_; (case hd => rfl); (case hg => rfl); (case hr => first | (go_simp; done) | (go_simp; rfl)); (case hp => exact (Reps.one (show Kd.M (Kd.int .i64) _ _ _ ji3 [.int .i64 ji3] from rfl) (Reps.one (show Kd.M (Kd.int .i64) _ _ _ ji4 [.int .i64 ji4] from rfl) (Reps.none _ _)))); intro v344 w5 ho6 hb hg_ hnew_; clear hg_ hnew_; (first | rw [← Ny343.out] at ho6 | (simp only [Int.reduceToNat] at ho6; rw [← Ny343.out] at ho6)); have n0_ := Aside0.mk (Kd.R_lower ho6 (below_size BB)); have n1_ := Aside0.mk (below_step BB hb); clear HB; have HO345 := n0_; have HB := n1_; clear n0_ n1_; clear hb ho6))
 go_ret
 exact ⟨_, by first | rfl | (simp [errW_none, errW_some] <;> rfl) | (simp only [← hji3, ← hji4]; first | rfl | (simp [errW_none, errW_some] <;> rfl)) | (simp [*, errW_none, errW_some] <;> rfl), KR HO345, BB⟩

def impl_house_isFull.f (a0_0 : Int) (l0_1 : List Int) (l0_2 : List (List Int)) (l0_3 : List Int) (a1 : Int) : Option (Bool) := if 0 ≤ a1 then (if a1 < (l0_2.length : Int) then (if 0 < ((rd_L1 l0_2 a1).length : Int) then (if 0 ≤ (rd (rd_L1 l0_2 a1) 0) then (if (rd (rd_L1 l0_2 a1) 0) < (l0_1.length : Int) then (if 0 ≤ (rd l0_1 (rd (rd_L1 l0_2 a1) 0)) then (if 1 < ((rd_L1 l0_2 a1).length : Int) then (if 0 ≤ (rd (rd_L1 l0_2 a1) 1) then (if (rd (rd_L1 l0_2 a1) 1) < (l0_1.length : Int) then (if 0 ≤ (rd l0_1 (rd (rd_L1 l0_2 a1) 1)) then (if 2 < ((rd_L1 l0_2 a1).length : Int) then (if 0 ≤ (rd (rd_L1 l0_2 a1) 2) then (if (rd (rd_L1 l0_2 a1) 2) < (l0_1.length : Int) then (if 0 ≤ (rd l0_1 (rd (rd_L1 l0_2 a1) 2)) then (some ((Go.bits .or .i64 (Go.bits .or .i64 (shl .i64 1 (rd l0_1 (rd (rd_L1 l0_2 a1) 0))) (shl .i64 1 (rd l0_1 (rd (rd_L1 l0_2 a1) 1)))) (shl .i64 1 (rd l0_1 (rd (rd_L1 l0_2 a1) 2)))) == 7)) else (none)) else (none)) else (none)) else (none)) else (none)) else (none)) else (none)) else (none)) else (none)) else (none)) else (none)) else (none)) else (none)) else (none)
set_option maxHeartbeats 8000000 in
set_option maxRecDepth 100000 in
theorem impl_house_isFull.calls (a0_0 : Int) (A0_1 : Option Addr) (c0_1 : Nat) (l0_1 : List Int) (A0_2 : Option Addr) (c0_2 : Nat) (l0_2 : List (List Int)) (A0_3 : Option Addr) (c0_3 : Nat) (l0_3 : List Int) (a1 : Int) (r : Bool) (w : World) (hr0_1 : Kd.C (Kd.int .i64) w A0_1 l0_1.length l0_1) (hc0_1 : l0_1.length ≤ c0_1) (hr0_2 : Kd.C (Kd.slice 3 (Kd.int .i64)) w A0_2 l0_2.length l0_2) (hc0_2 : l0_2.length ≤ c0_2) (hr0_3 : Kd.C (Kd.int .i64) w A0_3 l0_3.length l0_3) (hc0_3 : l0_3.length ≤ c0_3) (h : impl_house_isFull.f a0_0 l0_1 l0_2 l0_3 a1 = some r) :
  Calls Try.prog 36 #[.agg #[.int .i64 a0_0, .slice A0_1 l0_1.length c0_1, .slice A0_2 l0_2.length c0_2, .slice A0_3 l0_3.length c0_3], .int .i64 a1] w fun e w' => e = .returned (.bool r) ∧ Below w.heap.size w w' := by
 have hu42 := Try.underlying42; have HR0_1 := Aside0.mk hr0_1; have HC0_1 := Aside0.mk hc0_1; clear hr0_1 hc0_1; have HR0_2 := Aside0.mk hr0_2; have HC0_2 := Aside0.mk hc0_2; clear hr0_2 hc0_2; have HR0_3 := Aside0.mk hr0_3; have HC0_3 := Aside0.mk hc0_3; clear hr0_3 hc0_3; have HB := Aside0.mk (Below.refl w.heap.size w)
 have H : (if 0 ≤ a1 then (if a1 < (l0_2.length : Int) then (if 0 < ((rd_L1 l0_2 a1).length : Int) then (if 0 ≤ (rd (rd_L1 l0_2 a1) 0) then (if (rd (rd_L1 l0_2 a1) 0) < (l0_1.length : Int) then (if 0 ≤ (rd l0_1 (rd (rd_L1 l0_2 a1) 0)) then (if 1 < ((rd_L1 l0_2 a1).length : Int) then (if 0 ≤ (rd (rd_L1 l0_2 a1) 1) then (if (rd (rd_L1 l0_2 a1) 1) < (l0_1.length : Int) then (if 0 ≤ (rd l0_1 (rd (rd_L1 l0_2 a1) 1)) then (if 2 < ((rd_L1 l0_2 a1).length : Int) then (if 0 ≤ (rd (rd_L1 l0_2 a1) 2) then (if (rd (rd_L1 l0_2 a1) 2) < (l0_1.length : Int) then (if 0 ≤ (rd l0_1 (rd (rd_L1 l0_2 a1) 2)) then (some ((Go.bits .or .i64 (Go.bits .or .i64 (shl .i64 1 (rd l0_1 (rd (rd_L1 l0_2 a1) 0))) (shl .i64 1 (rd l0_1 (rd (rd_L1 l0_2 a1) 1)))) (shl .i64 1 (rd l0_1 (rd (rd_L1 l0_2 a1) 2)))) == 7)) else (none)) else (none)) else (none)) else (none)) else (none)) else (none)) else (none)) else (none)) else (none)) else (none)) else (none)) else (none)) else (none)) else (none)) = some r := h; clear h
 by_cases c3 : 0 ≤ a1
 ·rw [if_pos c3] at H
  have c3b0 : decide (0 ≤ a1) = true := decide_eq_true c3; clear c3
  by_cases c4 : a1 < (l0_2.length : Int)
  ·rw [if_pos c4] at H
   have c4b0 : decide (a1 < (l0_2.length : Int)) = true := decide_eq_true c4; clear c4
   by_cases c5 : 0 < ((rd_L1 l0_2 a1).length : Int)
   ·rw [if_pos c5] at H
    have c5b0 : decide (0 < ((rd_L1 l0_2 a1).length : Int)) = true := decide_eq_true c5; have c5b1 : decide (0 < (rd_L1 l0_2 a1).length) = true := decide_eq_true (by omega); clear c5
    by_cases c6 : 0 ≤ (rd (rd_L1 l0_2 a1) 0)
    ·rw [if_pos c6] at H
     have c6b0 : decide (0 ≤ (rd (rd_L1 l0_2 a1) 0)) = true := decide_eq_true c6; clear c6
     by_cases c7 : (rd (rd_L1 l0_2 a1) 0) < (l0_1.length : Int)
     ·rw [if_pos c7] at H
      have c7b0 : decide ((rd (rd_L1 l0_2 a1) 0) < (l0_1.length : Int)) = true := decide_eq_true c7; clear c7
      by_cases c8 : 0 ≤ (rd l0_1 (rd (rd_L1 l0_2 a1) 0))
      ·rw [if_pos c8] at H
       have c8b0 := eq_true c8; have c8b1 : decide (0 ≤ (rd l0_1 (rd (rd_L1 l0_2 a1) 0))) = true := decide_eq_true c8; clear c8; obtain ⟨ji9, hji9⟩ : ∃ j_ : Int, (shl .i64 1 (rd l0_1 (rd (rd_L1 l0_2 a1) 0))) = j_ := ⟨_, rfl⟩; replace H : (if 1 < ((rd_L1 l0_2 a1).length : Int) then (if 0 ≤ (rd (rd_L1 l0_2 a1) 1) then (if (rd (rd_L1 l0_2 a1) 1) < (l0_1.length : Int) then (if 0 ≤ (rd l0_1 (rd (rd_L1 l0_2 a1) 1)) then (if 2 < ((rd_L1 l0_2 a1).length : Int) then (if 0 ≤ (rd (rd_L1 l0_2 a1) 2) then (if (rd (rd_L1 l0_2 a1) 2) < (l0_1.length : Int) then (if 0 ≤ (rd l0_1 (rd (rd_L1 l0_2 a1) 2)) then (some ((Go.bits .or .i64 (Go.bits .or .i64 (ji9) (shl .i64 1 (rd l0_1 (rd (rd_L1 l0_2 a1) 1)))) (shl .i64 1 (rd l0_1 (rd (rd_L1 l0_2 a1) 2)))) == 7)) else (none)) else (none)) else (none)) else (none)) else (none)) else (none)) else (none)) else (none)) = some r := by first | (rw [hji9] at H; exact H) | (simp only [hji9] at H ⊢; exact H)
       have hji9_ : (IntKind.i64.wrap (1 * 2 ^ min (rd l0_1 (rd (rd_L1 l0_2 a1) 0)).toNat 64)) = ji9 := hji9; have hji9z : (rd l0_1 (rd (rd_L1 l0_2 a1) 0)) ≤ 64 → (IntKind.i64.wrap (1 * 2 ^ (rd l0_1 (rd (rd_L1 l0_2 a1) 0)).toNat)) = ji9 := shl_small hji9; have hji9u : (IntKind.i64.wrap (2 ^ min (rd l0_1 (rd (rd_L1 l0_2 a1) 0)).toNat 64)) = ji9 := by have h_ := hji9_; rw [Int.one_mul] at h_; exact h_
       have hji9v : (rd l0_1 (rd (rd_L1 l0_2 a1) 0)) ≤ 64 → (IntKind.i64.wrap (2 ^ (rd l0_1 (rd (rd_L1 l0_2 a1) 0)).toNat)) = ji9 := fun hle_ => by have h_ := hji9z hle_; rw [Int.one_mul] at h_; exact h_
       have hji9y : (wrap64 (1 * 2 ^ min (rd l0_1 (rd (rd_L1 l0_2 a1) 0)).toNat 64)) = ji9 := (i64_w _).symm.trans hji9_; have hji9x : (rd l0_1 (rd (rd_L1 l0_2 a1) 0)) ≤ 64 → (wrap64 (1 * 2 ^ (rd l0_1 (rd (rd_L1 l0_2 a1) 0)).toNat)) = ji9 := fun h_ => (i64_w _).symm.trans (hji9z h_)
       by_cases c10 : 1 < ((rd_L1 l0_2 a1).length : Int)
       ·rw [if_pos c10] at H
        have c10b0 : decide (1 < ((rd_L1 l0_2 a1).length : Int)) = true := decide_eq_true c10; have c10b1 : decide (1 < (rd_L1 l0_2 a1).length) = true := decide_eq_true (by omega); clear c10
        by_cases c11 : 0 ≤ (rd (rd_L1 l0_2 a1) 1)
        ·rw [if_pos c11] at H
         have c11b0 : decide (0 ≤ (rd (rd_L1 l0_2 a1) 1)) = true := decide_eq_true c11; clear c11
         by_cases c12 : (rd (rd_L1 l0_2 a1) 1) < (l0_1.length : Int)
         ·rw [if_pos c12] at H
          have c12b0 : decide ((rd (rd_L1 l0_2 a1) 1) < (l0_1.length : Int)) = true := decide_eq_true c12; clear c12
          by_cases c13 : 0 ≤ (rd l0_1 (rd (rd_L1 l0_2 a1) 1))
          ·rw [if_pos c13] at H
           have c13b0 := eq_true c13; have c13b1 : decide (0 ≤ (rd l0_1 (rd (rd_L1 l0_2 a1) 1))) = true := decide_eq_true c13; clear c13; obtain ⟨ji14, hji14⟩ : ∃ j_ : Int, (shl .i64 1 (rd l0_1 (rd (rd_L1 l0_2 a1) 1))) = j_ := ⟨_, rfl⟩; replace H : (if 2 < ((rd_L1 l0_2 a1).length : Int) then (if 0 ≤ (rd (rd_L1 l0_2 a1) 2) then (if (rd (rd_L1 l0_2 a1) 2) < (l0_1.length : Int) then (if 0 ≤ (rd l0_1 (rd (rd_L1 l0_2 a1) 2)) then (some ((Go.bits .or .i64 (Go.bits .or .i64 (ji9) (ji14)) (shl .i64 1 (rd l0_1 (rd (rd_L1 l0_2 a1) 2)))) == 7)) else (none)) else (none)) else (none)) else (none)) = some r := by first | (rw [hji14] at H; exact H) | (simp only [hji14] at H ⊢; exact H)
           have hji14_ : (IntKind.i64.wrap (1 * 2 ^ min (rd l0_1 (rd (rd_L1 l0_2 a1) 1)).toNat 64)) = ji14 := hji14; have hji14z : (rd l0_1 (rd (rd_L1 l0_2 a1) 1)) ≤ 64 → (IntKind.i64.wrap (1 * 2 ^ (rd l0_1 (rd (rd_L1 l0_2 a1) 1)).toNat)) = ji14 := shl_small hji14; have hji14u : (IntKind.i64.wrap (2 ^ min (rd l0_1 (rd (rd_L1 l0_2 a1) 1)).toNat 64)) = ji14 := by have h_ := hji14_; rw [Int.one_mul] at h_; exact h_
           have hji14v : (rd l0_1 (rd (rd_L1 l0_2 a1) 1)) ≤ 64 → (IntKind.i64.wrap (2 ^ (rd l0_1 (rd (rd_L1 l0_2 a1) 1)).toNat)) = ji14 := fun hle_ => by have h_ := hji14z hle_; rw [Int.one_mul] at h_; exact h_
           have hji14y : (wrap64 (1 * 2 ^ min (rd l0_1 (rd (rd_L1 l0_2 a1) 1)).toNat 64)) = ji14 := (i64_w _).symm.trans hji14_; have hji14x : (rd l0_1 (rd (rd_L1 l0_2 a1) 1)) ≤ 64 → (wrap64 (1 * 2 ^ (rd l0_1 (rd (rd_L1 l0_2 a1) 1)).toNat)) = ji14 := fun h_ => (i64_w _).symm.trans (hji14z h_)
           by_cases c15 : 2 < ((rd_L1 l0_2 a1).length : Int)
           ·rw [if_pos c15] at H
            have c15b0 : decide (2 < ((rd_L1 l0_2 a1).length : Int)) = true := decide_eq_true c15; have c15b1 : decide (2 < (rd_L1 l0_2 a1).length) = true := decide_eq_true (by omega); clear c15
            by_cases c16 : 0 ≤ (rd (rd_L1 l0_2 a1) 2)
            ·rw [if_pos c16] at H
             have c16b0 : decide (0 ≤ (rd (rd_L1 l0_2 a1) 2)) = true := decide_eq_true c16; clear c16
             by_cases c17 : (rd (rd_L1 l0_2 a1) 2) < (l0_1.length : Int)
             ·rw [if_pos c17] at H
              have c17b0 : decide ((rd (rd_L1 l0_2 a1) 2) < (l0_1.length : Int)) = true := decide_eq_true c17; clear c17
              by_cases c18 : 0 ≤ (rd l0_1 (rd (rd_L1 l0_2 a1) 2))
              ·rw [if_pos c18] at H
               have c18b0 := eq_true c18; have c18b1 : decide (0 ≤ (rd l0_1 (rd (rd_L1 l0_2 a1) 2))) = true := decide_eq_true c18; clear c18; obtain ⟨ji19, hji19⟩ : ∃ j_ : Int, (shl .i64 1 (rd l0_1 (rd (rd_L1 l0_2 a1) 2))) = j_ := ⟨_, rfl⟩; replace H : (some ((Go.bits .or .i64 (Go.bits .or .i64 (ji9) (ji14)) (ji19)) == 7)) = some r := by first | (rw [hji19] at H; exact H) | (simp only [hji19] at H ⊢; exact H)
               have hji19_ : (IntKind.i64.wrap (1 * 2 ^ min (rd l0_1 (rd (rd_L1 l0_2 a1) 2)).toNat 64)) = ji19 := hji19; have hji19z : (rd l0_1 (rd (rd_L1 l0_2 a1) 2)) ≤ 64 → (IntKind.i64.wrap (1 * 2 ^ (rd l0_1 (rd (rd_L1 l0_2 a1) 2)).toNat)) = ji19 := shl_small hji19; have hji19u : (IntKind.i64.wrap (2 ^ min (rd l0_1 (rd (rd_L1 l0_2 a1) 2)).toNat 64)) = ji19 := by have h_ := hji19_; rw [Int.one_mul] at h_; exact h_
               have hji19v : (rd l0_1 (rd (rd_L1 l0_2 a1) 2)) ≤ 64 → (IntKind.i64.wrap (2 ^ (rd l0_1 (rd (rd_L1 l0_2 a1) 2)).toNat)) = ji19 := fun hle_ => by have h_ := hji19z hle_; rw [Int.one_mul] at h_; exact h_
               have hji19y : (wrap64 (1 * 2 ^ min (rd l0_1 (rd (rd_L1 l0_2 a1) 2)).toNat 64)) = ji19 := (i64_w _).symm.trans hji19_; have hji19x : (rd l0_1 (rd (rd_L1 l0_2 a1) 2)) ≤ 64 → (wrap64 (1 * 2 ^ (rd l0_1 (rd (rd_L1 l0_2 a1) 2)).toNat)) = ji19 := fun h_ => (i64_w _).symm.trans (hji19z h_)
               obtain rfl := Option.some.inj H
               go_enter Try.func36, Try.ntmps36
               go_wp2_with (first | ((with_reducible refine gate_dst (N := 2) rfl ?_); refine box_event ?hg (N := 2) ?hd (cs := #[.int .i64 a0_0, .slice A0_1 l0_1.length c0_1, .slice A0_2 l0_2.length c0_2, .slice A0_3 l0_3.length c0_3]) (t := 42) ?hr ?_; (case hd => rfl); (case hg => rfl); (case hr => first | (go_simp; done) | (go_simp; rfl)); intro gb346 hg w20 hbox hb; have n0_ := Aside0.mk (below_step BB hb); have n1_ := Aside0.mk (hbox); have n2_ := Aside0.mk ((by rw [hg]; exact (below_size BB) : w.heap.size ≤ gb346)); have n3_ := Aside0.mk ((by rw [hg]; exact (below_size BB) : w.heap.size ≤ gb346)); clear HB; have HB := n0_; have BK346 := n1_; have GW346 := n2_; have GE346 := n3_; clear n0_ n1_ n2_ n3_; clear hb hbox hg; have hcz21_0 : w20.cell? ⟨gb346, 0, none⟩ = some (.int .i64 a0_0) := (blk_cell BK346.out 0).trans rfl; have hcz21_1 : w20.cell? ⟨gb346, 1, none⟩ = some (.slice A0_1 l0_1.length c0_1) := (blk_cell BK346.out 1).trans rfl; have hcz21_2 : w20.cell? ⟨gb346, 2, none⟩ = some (.slice A0_2 l0_2.length c0_2) := (blk_cell BK346.out 2).trans rfl; have hcz21_3 : w20.cell? ⟨gb346, 3, none⟩ = some (.slice A0_3 l0_3.length c0_3) := (blk_cell BK346.out 3).trans rfl; have hfz21_0 := blk_frozen BK346.out 0; have hfz21_1 := blk_frozen BK346.out 1; have hfz21_2 := blk_frozen BK346.out 2; have hfz21_3 := blk_frozen BK346.out 3; have p347 : 0 ≤ (a1 : Int) := of_decide_eq_true AS; have q347 : a1 < (l0_2.length : Int) := of_decide_eq_true AS; obtain ⟨ad347, A347_0, c347_0, e347, hx347_0, hl347_0, hi347_0⟩ := at_L1 HR0_2.out a1 p347 q347; cases e347; replace hx347_0 := (HB.out.cell (World.block_lt_of_cell? w _ hx347_0)).trans hx347_0; have HR347_0 := Aside0.mk hi347_0; have HC347_0 := Aside0.mk hl347_0; clear hi347_0 hl347_0; replace p347 := eq_true p347; replace q347 := eq_true q347; have p348 : 0 ≤ (0 : Int) := (by omega); have q348 : 0 < ((rd_L1 l0_2 a1).length : Int) := of_decide_eq_true AS; obtain ⟨ad348, e348, hx348_0⟩ := Kd.at_int HR347_0.out 0 p348 q348; cases e348; have qi348 : (0 < (rd_L1 l0_2 a1).length) = True := eq_true (by omega); (try rw [show ((0 : Int)).toNat = 0 from rfl] at hx348_0); (try rw [Addr.add_zero'] at hx348_0); replace hx348_0 := (HB.out.cell (World.block_lt_of_cell? w _ hx348_0)).trans hx348_0; replace p348 := eq_true p348; replace q348 := eq_true q348; have p349 : 0 ≤ ((rd (rd_L1 l0_2 a1) 0) : Int) := of_decide_eq_true AS; have q349 : (rd (rd_L1 l0_2 a1) 0) < (l0_1.length : Int) := of_decide_eq_true AS; obtain ⟨ad349, e349, hx349_0⟩ := Kd.at_int HR0_1.out (rd (rd_L1 l0_2 a1) 0) p349 q349; cases e349; replace hx349_0 := (HB.out.cell (World.block_lt_of_cell? w _ hx349_0)).trans hx349_0; replace p349 := eq_true p349; replace q349 := eq_true q349; have p350 : 0 ≤ (1 : Int) := (by omega); have q350 : 1 < ((rd_L1 l0_2 a1).length : Int) := of_decide_eq_true AS; obtain ⟨ad350, e350, hx350_0⟩ := Kd.at_int HR347_0.out 1 p350 q350; obtain rfl : ad348 = ad350 := (by injection e350); (try simp only [show (1 : Int).toNat = 1 from rfl, Nat.reduceMul, Nat.reduceEqDiff, Go.Addr.add, ↓reduceIte] at hx350_0); have qi350 : (1 < (rd_L1 l0_2 a1).length) = True := eq_true (by omega); (try rw [show ((1 : Int)).toNat = 1 from rfl] at hx350_0); replace hx350_0 := (HB.out.cell (World.block_lt_of_cell? w _ hx350_0)).trans hx350_0; replace p350 := eq_true p350; replace q350 := eq_true q350; have p351 : 0 ≤ ((rd (rd_L1 l0_2 a1) 1) : Int) := of_decide_eq_true AS; have q351 : (rd (rd_L1 l0_2 a1) 1) < (l0_1.length : Int) := of_decide_eq_true AS; obtain ⟨ad351, e351, hx351_0⟩ := Kd.at_int HR0_1.out (rd (rd_L1 l0_2 a1) 1) p351 q351; obtain rfl : ad349 = ad351 := (by injection e351); replace hx351_0 := (HB.out.cell (World.block_lt_of_cell? w _ hx351_0)).trans hx351_0; replace p351 := eq_true p351; replace q351 := eq_true q351; have p352 : 0 ≤ (2 : Int) := (by omega); have q352 : 2 < ((rd_L1 l0_2 a1).length : Int) := of_decide_eq_true AS; obtain ⟨ad352, e352, hx352_0⟩ := Kd.at_int HR347_0.out 2 p352 q352; obtain rfl : ad348 = ad352 := (by injection e352); (try simp only [show (2 : Int).toNat = 2 from rfl, Nat.reduceMul, Nat.reduceEqDiff, Go.Addr.add, ↓reduceIte] at hx352_0); have qi352 : (2 < (rd_L1 l0_2 a1).length) = True := eq_true (by omega); (try rw [show ((2 : Int)).toNat = 2 from rfl] at hx352_0); replace hx352_0 := (HB.out.cell (World.block_lt_of_cell? w _ hx352_0)).trans hx352_0; replace p352 := eq_true p352; replace q352 := eq_true q352; have p353 : 0 ≤ ((rd (rd_L1 l0_2 a1) 2) : Int) := of_decide_eq_true AS; have q353 : (rd (rd_L1 l0_2 a1) 2) < (l0_1.length : Int) := of_decide_eq_true AS; obtain ⟨ad353, e353, hx353_0⟩ := Kd.at_int HR0_1.out (rd (rd_L1 l0_2 a1) 2) p353 q353; obtain rfl : ad349 = ad353 := (by injection e353); replace hx353_0 := (HB.out.cell (World.block_lt_of_cell? w _ hx353_0)).trans hx353_0; replace p353 := eq_true p353; replace q353 := eq_true q353))
               repeat (go_quiet (first | ((with_reducible refine gate_dst (N := 2) rfl ?_); refine box_event ?hg (N := 2) ?hd (cs := #[.int .i64 a0_0, .slice A0_1 l0_1.length c0_1, .slice A0_2 l0_2.length c0_2, .slice A0_3 l0_3.length c0_3]) (t := 42) ?hr ?_; (case hd => rfl); (case hg => rfl); (case hr => first | (go_simp; done) | (go_simp; rfl)); intro gb346 hg w20 hbox hb; have n0_ := Aside0.mk (below_step BB hb); have n1_ := Aside0.mk (hbox); have n2_ := Aside0.mk ((by rw [hg]; exact (below_size BB) : w.heap.size ≤ gb346)); have n3_ := Aside0.mk ((by rw [hg]; exact (below_size BB) : w.heap.size ≤ gb346)); clear HB; have HB := n0_; have BK346 := n1_; have GW346 := n2_; have GE346 := n3_; clear n0_ n1_ n2_ n3_; clear hb hbox hg; have hcz21_0 : w20.cell? ⟨gb346, 0, none⟩ = some (.int .i64 a0_0) := (blk_cell BK346.out 0).trans rfl; have hcz21_1 : w20.cell? ⟨gb346, 1, none⟩ = some (.slice A0_1 l0_1.length c0_1) := (blk_cell BK346.out 1).trans rfl; have hcz21_2 : w20.cell? ⟨gb346, 2, none⟩ = some (.slice A0_2 l0_2.length c0_2) := (blk_cell BK346.out 2).trans rfl; have hcz21_3 : w20.cell? ⟨gb346, 3, none⟩ = some (.slice A0_3 l0_3.length c0_3) := (blk_cell BK346.out 3).trans rfl; have hfz21_0 := blk_frozen BK346.out 0; have hfz21_1 := blk_frozen BK346.out 1; have hfz21_2 := blk_frozen BK346.out 2; have hfz21_3 := blk_frozen BK346.out 3; have p347 : 0 ≤ (a1 : Int) := of_decide_eq_true AS; have q347 : a1 < (l0_2.length : Int) := of_decide_eq_true AS; obtain ⟨ad347, A347_0, c347_0, e347, hx347_0, hl347_0, hi347_0⟩ := at_L1 HR0_2.out a1 p347 q347; cases e347; replace hx347_0 := (HB.out.cell (World.block_lt_of_cell? w _ hx347_0)).trans hx347_0; have HR347_0 := Aside0.mk hi347_0; have HC347_0 := Aside0.mk hl347_0; clear hi347_0 hl347_0; replace p347 := eq_true p347; replace q347 := eq_true q347; have p348 : 0 ≤ (0 : Int) := (by omega); have q348 : 0 < ((rd_L1 l0_2 a1).length : Int) := of_decide_eq_true AS; obtain ⟨ad348, e348, hx348_0⟩ := Kd.at_int HR347_0.out 0 p348 q348; cases e348; have qi348 : (0 < (rd_L1 l0_2 a1).length) = True := eq_true (by omega); (try rw [show ((0 : Int)).toNat = 0 from rfl] at hx348_0); (try rw [Addr.add_zero'] at hx348_0); replace hx348_0 := (HB.out.cell (World.block_lt_of_cell? w _ hx348_0)).trans hx348_0; replace p348 := eq_true p348; replace q348 := eq_true q348; have p349 : 0 ≤ ((rd (rd_L1 l0_2 a1) 0) : Int) := of_decide_eq_true AS; have q349 : (rd (rd_L1 l0_2 a1) 0) < (l0_1.length : Int) := of_decide_eq_true AS; obtain ⟨ad349, e349, hx349_0⟩ := Kd.at_int HR0_1.out (rd (rd_L1 l0_2 a1) 0) p349 q349; cases e349; replace hx349_0 := (HB.out.cell (World.block_lt_of_cell? w _ hx349_0)).trans hx349_0; replace p349 := eq_true p349; replace q349 := eq_true q349; have p350 : 0 ≤ (1 : Int) := (by omega); have q350 : 1 < ((rd_L1 l0_2 a1).length : Int) := of_decide_eq_true AS; obtain ⟨ad350, e350, hx350_0⟩ := Kd.at_int HR347_0.out 1 p350 q350; obtain rfl : ad348 = ad350 := (by injection e350); (try simp only [show (1 : Int).toNat = 1 from rfl, Nat.reduceMul, Nat.reduceEqDiff, Go.Addr.add, ↓reduceIte] at hx350_0); have qi350 : (1 < (rd_L1 l0_2 a1).length) = True := eq_true (by omega); (try rw [show ((1 : Int)).toNat = 1 from rfl] at hx350_0); replace hx350_0 := (HB.out.cell (World.block_lt_of_cell? w _ hx350_0)).trans hx350_0; replace p350 := eq_true p350; replace q350 := eq_true q350; have p351 : 0 ≤ ((rd (rd_L1 l0_2 a1) 1) : Int) := of_decide_eq_true AS; have q351 : (rd (rd_L1 l0_2 a1) 1) < (l0_1.length : Int) := of_decide_eq_true AS; obtain ⟨ad351, e351, hx351_0⟩ := Kd.at_int HR0_1.out (rd (rd_L1 l0_2 a1) 1) p351 q351; obtain rfl : ad349 = ad351 := (by injection e351); replace hx351_0 := (HB.out.cell (World.block_lt_of_cell? w _ hx351_0)).trans hx351_0; replace p351 := eq_true p351; replace q351 := eq_true q351; have p352 : 0 ≤ (2 : Int) := (by omega); have q352 : 2 < ((rd_L1 l0_2 a1).length : Int) := of_decide_eq_true AS; obtain ⟨ad352, e352, hx352_0⟩ := Kd.at_int HR347_0.out 2 p352 q352; obtain rfl : ad348 = ad352 := (by injection e352); (try simp only [show (2 : Int).toNat = 2 from rfl, Nat.reduceMul, Nat.reduceEqDiff, Go.Addr.add, ↓reduceIte] at hx352_0); have qi352 : (2 < (rd_L1 l0_2 a1).length) = True := eq_true (by omega); (try rw [show ((2 : Int)).toNat = 2 from rfl] at hx352_0); replace hx352_0 := (HB.out.cell (World.block_lt_of_cell? w _ hx352_0)).trans hx352_0; replace p352 := eq_true p352; replace q352 := eq_true q352; have p353 : 0 ≤ ((rd (rd_L1 l0_2 a1) 2) : Int) := of_decide_eq_true AS; have q353 : (rd (rd_L1 l0_2 a1) 2) < (l0_1.length : Int) := of_decide_eq_true AS; obtain ⟨ad353, e353, hx353_0⟩ := Kd.at_int HR0_1.out (rd (rd_L1 l0_2 a1) 2) p353 q353; obtain rfl : ad349 = ad353 := (by injection e353); replace hx353_0 := (HB.out.cell (World.block_lt_of_cell? w _ hx353_0)).trans hx353_0; replace p353 := eq_true p353; replace q353 := eq_true q353)); try go_wp2_with (first | ((with_reducible refine gate_dst (N := 2) rfl ?_); refine box_event ?hg (N := 2) ?hd (cs := #[.int .i64 a0_0, .slice A0_1 l0_1.length c0_1, .slice A0_2 l0_2.length c0_2, .slice A0_3 l0_3.length c0_3]) (t := 42) ?hr ?_; (case hd => rfl); (case hg => rfl); (case hr => first | (go_simp; done) | (go_simp; rfl)); intro gb346 hg w20 hbox hb; have n0_ := Aside0.mk (below_step BB hb); have n1_ := Aside0.mk (hbox); have n2_ := Aside0.mk ((by rw [hg]; exact (below_size BB) : w.heap.size ≤ gb346)); have n3_ := Aside0.mk ((by rw [hg]; exact (below_size BB) : w.heap.size ≤ gb346)); clear HB; have HB := n0_; have BK346 := n1_; have GW346 := n2_; have GE346 := n3_; clear n0_ n1_ n2_ n3_; clear hb hbox hg; have hcz21_0 : w20.cell? ⟨gb346, 0, none⟩ = some (.int .i64 a0_0) := (blk_cell BK346.out 0).trans rfl; have hcz21_1 : w20.cell? ⟨gb346, 1, none⟩ = some (.slice A0_1 l0_1.length c0_1) := (blk_cell BK346.out 1).trans rfl; have hcz21_2 : w20.cell? ⟨gb346, 2, none⟩ = some (.slice A0_2 l0_2.length c0_2) := (blk_cell BK346.out 2).trans rfl; have hcz21_3 : w20.cell? ⟨gb346, 3, none⟩ = some (.slice A0_3 l0_3.length c0_3) := (blk_cell BK346.out 3).trans rfl; have hfz21_0 := blk_frozen BK346.out 0; have hfz21_1 := blk_frozen BK346.out 1; have hfz21_2 := blk_frozen BK346.out 2; have hfz21_3 := blk_frozen BK346.out 3; have p347 : 0 ≤ (a1 : Int) := of_decide_eq_true AS; have q347 : a1 < (l0_2.length : Int) := of_decide_eq_true AS; obtain ⟨ad347, A347_0, c347_0, e347, hx347_0, hl347_0, hi347_0⟩ := at_L1 HR0_2.out a1 p347 q347; cases e347; replace hx347_0 := (HB.out.cell (World.block_lt_of_cell? w _ hx347_0)).trans hx347_0; have HR347_0 := Aside0.mk hi347_0; have HC347_0 := Aside0.mk hl347_0; clear hi347_0 hl347_0; replace p347 := eq_true p347; replace q347 := eq_true q347; have p348 : 0 ≤ (0 : Int) := (by omega); have q348 : 0 < ((rd_L1 l0_2 a1).length : Int) := of_decide_eq_true AS; obtain ⟨ad348, e348, hx348_0⟩ := Kd.at_int HR347_0.out 0 p348 q348; cases e348; have qi348 : (0 < (rd_L1 l0_2 a1).length) = True := eq_true (by omega); (try rw [show ((0 : Int)).toNat = 0 from rfl] at hx348_0); (try rw [Addr.add_zero'] at hx348_0); replace hx348_0 := (HB.out.cell (World.block_lt_of_cell? w _ hx348_0)).trans hx348_0; replace p348 := eq_true p348; replace q348 := eq_true q348; have p349 : 0 ≤ ((rd (rd_L1 l0_2 a1) 0) : Int) := of_decide_eq_true AS; have q349 : (rd (rd_L1 l0_2 a1) 0) < (l0_1.length : Int) := of_decide_eq_true AS; obtain ⟨ad349, e349, hx349_0⟩ := Kd.at_int HR0_1.out (rd (rd_L1 l0_2 a1) 0) p349 q349; cases e349; replace hx349_0 := (HB.out.cell (World.block_lt_of_cell? w _ hx349_0)).trans hx349_0; replace p349 := eq_true p349; replace q349 := eq_true q349; have p350 : 0 ≤ (1 : Int) := (by omega); have q350 : 1 < ((rd_L1 l0_2 a1).length : Int) := of_decide_eq_true AS; obtain ⟨ad350, e350, hx350_0⟩ := Kd.at_int HR347_0.out 1 p350 q350; obtain rfl : ad348 = ad350 := (by injection e350); (try simp only [show (1 : Int).toNat = 1 from rfl, Nat.reduceMul, Nat.reduceEqDiff, Go.Addr.add, ↓reduceIte] at hx350_0); have qi350 : (1 < (rd_L1 l0_2 a1).length) = True := eq_true (by omega); (try rw [show ((1 : Int)).toNat = 1 from rfl] at hx350_0); replace hx350_0 := (HB.out.cell (World.block_lt_of_cell? w _ hx350_0)).trans hx350_0; replace p350 := eq_true p350; replace q350 := eq_true q350; have p351 : 0 ≤ ((rd (rd_L1 l0_2 a1) 1) : Int) := of_decide_eq_true AS; have q351 : (rd (rd_L1 l0_2 a1) 1) < (l0_1.length : Int) := of_decide_eq_true AS; obtain ⟨ad351, e351, hx351_0⟩ := Kd.at_int HR0_1.out (rd (rd_L1 l0_2 a1) 1) p351 q351; obtain rfl : ad349 = ad351 := (by injection e351); replace hx351_0 := (HB.out.cell (World.block_lt_of_cell? w _ hx351_0)).trans hx351_0; replace p351 := eq_true p351; replace q351 := eq_true q351; have p352 : 0 ≤ (2 : Int) := (by omega); have q352 : 2 < ((rd_L1 l0_2 a1).length : Int) := of_decide_eq_true AS; obtain ⟨ad352, e352, hx352_0⟩ := Kd.at_int HR347_0.out 2 p352 q352; obtain rfl : ad348 = ad352 := (by injection e352); (try simp only [show (2 : Int).toNat = 2 from rfl, Nat.reduceMul, Nat.reduceEqDiff, Go.Addr.add, ↓reduceIte] at hx352_0); have qi352 : (2 < (rd_L1 l0_2 a1).length) = True := eq_true (by omega); (try rw [show ((2 : Int)).toNat = 2 from rfl] at hx352_0); replace hx352_0 := (HB.out.cell (World.block_lt_of_cell? w _ hx352_0)).trans hx352_0; replace p352 := eq_true p352; replace q352 := eq_true q352; have p353 : 0 ≤ ((rd (rd_L1 l0_2 a1) 2) : Int) := of_decide_eq_true AS; have q353 : (rd (rd_L1 l0_2 a1) 2) < (l0_1.length : Int) := of_decide_eq_true AS; obtain ⟨ad353, e353, hx353_0⟩ := Kd.at_int HR0_1.out (rd (rd_L1 l0_2 a1) 2) p353 q353; obtain rfl : ad349 = ad353 := (by injection e353); replace hx353_0 := (HB.out.cell (World.block_lt_of_cell? w _ hx353_0)).trans hx353_0; replace p353 := eq_true p353; replace q353 := eq_true q353)))
               go_ret
               exact ⟨by first | rfl | (simp [errW_none, errW_some] <;> rfl) | (simp only [← hji9, ← hji14, ← hji19]; first | rfl | (simp [errW_none, errW_some] <;> rfl)) | (simp [*, errW_none, errW_some] <;> rfl), by repeat (first | (with_reducible first | exact HB.out | apply below_alloc | apply pw_below_drewN | apply below_drew1 | refine below_set ?_ GE346.out) | exact HB.out)⟩
              ·rw [if_neg c18] at H
               exact absurd H (by simp)
             ·rw [if_neg c17] at H
              exact absurd H (by simp)
            ·rw [if_neg c16] at H
             exact absurd H (by simp)
           ·rw [if_neg c15] at H
            exact absurd H (by simp)
          ·rw [if_neg c13] at H
           exact absurd H (by simp)
         ·rw [if_neg c12] at H
          exact absurd H (by simp)
        ·rw [if_neg c11] at H
         exact absurd H (by simp)
       ·rw [if_neg c10] at H
        exact absurd H (by simp)
      ·rw [if_neg c8] at H
       exact absurd H (by simp)
     ·rw [if_neg c7] at H
      exact absurd H (by simp)
    ·rw [if_neg c6] at H
     exact absurd H (by simp)
   ·rw [if_neg c5] at H
    exact absurd H (by simp)
  ·rw [if_neg c4] at H
   exact absurd H (by simp)
 ·rw [if_neg c3] at H
  exact absurd H (by simp)

def slices_Index_int_int.l0 : Nat → List Int → Int → Int → Int → Option (Int)
 | 0, _, _, _, _ => none
 | k + 1, x0, x1, x7, x8 => if x8 < x7 then (if 0 ≤ x8 then (if x8 < (x0.length : Int) then (if x1 = (rd x0 x8) then (some x8) else (slices_Index_int_int.l0 k x0 x1 x7 (wrap64 (x8 + 1)))) else (none)) else (none)) else (some (-1))
def slices_Index_int_int.f (k : Nat) (l0 : List Int) (a1 : Int) : Option (Int) := slices_Index_int_int.l0 k l0 a1 (l0.length : Int) 0
theorem slices_Index_int_int.mono_l : ∀ k, (∀ y0 y1 y2 y3, LeO (slices_Index_int_int.l0 k y0 y1 y2 y3) (slices_Index_int_int.l0 (k + 1) y0 y1 y2 y3))
 | 0 => fun _ _ _ _ r h => by simp [slices_Index_int_int.l0] at h
 | k + 1 => by
  have ih0 := slices_Index_int_int.mono_l k
  ·intro y0 y1 y2 y3
   unfold slices_Index_int_int.l0
   repeat' first
   | (with_reducible exact ih0 _ _ _ _)
   | (with_reducible exact LeO.refl _)
   | (with_reducible exact LeO.none _)
   | (with_reducible refine LeO.ite ?_ ?_)
   | (with_reducible refine LeO.bind ?_ (fun _ => ?_))
   | exact ih0 _ _ _ _
   | exact LeO.none _
   | refine LeO.ite ?_ ?_
   | refine LeO.bind ?_ (fun _ => ?_)
theorem slices_Index_int_int.mono : ∀ a0 a1 k, LeO (slices_Index_int_int.f k a0 a1) (slices_Index_int_int.f (k + 1) a0 a1) := by
 intro a0 a1 k
 have ih0 := slices_Index_int_int.mono_l k
 unfold slices_Index_int_int.f
 repeat' first
   | (with_reducible exact ih0 _ _ _ _)
   | (with_reducible exact LeO.refl _)
   | (with_reducible exact LeO.none _)
   | (with_reducible refine LeO.ite ?_ ?_)
   | (with_reducible refine LeO.bind ?_ (fun _ => ?_))
   | exact ih0 _ _ _ _
   | exact LeO.none _
   | refine LeO.ite ?_ ?_
   | refine LeO.bind ?_ (fun _ => ?_)
set_option maxHeartbeats 8000000 in
set_option maxRecDepth 100000 in
theorem slices_Index_int_int.calls (k : Nat) (A0 : Option Addr) (c0 : Nat) (l0 : List Int) (a1 : Int) (r : Int) (w : World) (hr0 : Kd.C (Kd.int .i64) w A0 l0.length l0) (hc0 : l0.length ≤ c0) (h : slices_Index_int_int.f k l0 a1 = some r) :
  Calls Try.prog 80 #[.slice A0 l0.length c0, .int .i64 a1] w fun e w' => e = .returned (.int .i64 r) ∧ Drawn0 w w' := by
 have HR0 := Aside0.mk hr0; have HC0 := Aside0.mk hc0; clear hr0 hc0; have H : (slices_Index_int_int.l0 k l0 a1 (l0.length : Int) 0) = some r := h; clear h; have H' := Aside0.mk H; clear H
 go_enter Try.func80, Try.ntmps80
 go_wp2
 go_loopg [8] k (fun kq v8 w' => ∃ (x8_1 : Int), v8 = .int .i64 x8_1 ∧ Aside0 (slices_Index_int_int.l0 kq l0 a1 (l0.length : Int) x8_1 = some r) ∧ Aside0 (kq ≤ k) ∧ Drawn0 w w')
 case atStart => exact ⟨(0), RF, H', ⟨Nat.le_refl _⟩, by repeat (first | exact Drawn0.refl _ | apply Drawn0.step)⟩
 case round =>
  clear H'
  try clear p2
  obtain ⟨x8_1, rfl, HA, HK1, ⟨m1, rfl⟩⟩ := hrel; cases gk with
  | zero => exact absurd HA.out (by simp [slices_Index_int_int.l0])
  | succ k1 =>
   have H := HA.out; clear HA
   simp only [slices_Index_int_int.l0] at H
   by_cases c3 : x8_1 < (l0.length : Int)
   ·rw [if_pos c3] at H
    have c3b0 : decide (x8_1 < (l0.length : Int)) = true := decide_eq_true c3; clear c3
    by_cases c4 : 0 ≤ x8_1
    ·rw [if_pos c4] at H
     have c4b0 : decide (0 ≤ x8_1) = true := decide_eq_true c4; clear c4
     by_cases c5 : x8_1 < (l0.length : Int)
     ·rw [if_pos c5] at H
      have c5b0 : decide (x8_1 < (l0.length : Int)) = true := decide_eq_true c5; clear c5
      by_cases c6 : a1 = (rd l0 x8_1)
      ·rw [if_pos c6] at H
       have c6b0 : (a1 == (rd l0 x8_1)) = true := beq_iff_eq.mpr c6; have c6b1 : (a1 != (rd l0 x8_1)) = false := bne_eq_false_iff_eq.mpr c6; clear c6; obtain rfl := Option.some.inj H; have p354 : 0 ≤ (x8_1 : Int) := of_decide_eq_true AS; have q354 : x8_1 < (l0.length : Int) := of_decide_eq_true AS; obtain ⟨ad354, e354, hx354_0⟩ := Kd.at_int HR0.out x8_1 p354 q354; cases e354; replace p354 := eq_true p354; replace q354 := eq_true q354
       go_wp2
       go_ret
       exact ⟨by first | rfl | (simp; done) | (simp [*]; done) | (simp [*, wrap64]; done), by repeat (first | exact Drawn0.refl _ | apply Drawn0.step)⟩
      ·rw [if_neg c6] at H
       have c6b0 : (a1 == (rd l0 x8_1)) = false := beq_eq_false_iff_ne.mpr c6; have c6b1 : (a1 != (rd l0 x8_1)) = true := bne_iff_ne.mpr c6; have H' := Aside0.mk H; clear H; have p354 : 0 ≤ (x8_1 : Int) := of_decide_eq_true AS; have q354 : x8_1 < (l0.length : Int) := of_decide_eq_true AS; obtain ⟨ad354, e354, hx354_0⟩ := Kd.at_int HR0.out x8_1 p354 q354; cases e354; replace p354 := eq_true p354; replace q354 := eq_true q354
       go_wp2
       go_roundg k1
       case measure => have := HK1.out; omega
       case rel => exact ⟨(wrap64 (x8_1 + 1)), RF, H', ⟨by have := HK1.out; omega⟩, by repeat (first | exact Drawn0.refl _ | apply Drawn0.step)⟩
     ·rw [if_neg c5] at H
      exact absurd H (by simp)
    ·rw [if_neg c4] at H
     exact absurd H (by simp)
   ·rw [if_neg c3] at H
    have c3b0 : decide (x8_1 < (l0.length : Int)) = false := decide_eq_false c3; clear c3; obtain rfl := Option.some.inj H
    go_wp2
    go_ret
    exact ⟨by first | rfl | (simp; done) | (simp [*]; done) | (simp [*, wrap64]; done), by repeat (first | exact Drawn0.refl _ | apply Drawn0.step)⟩

def slices_Contains_int_int.f (k : Nat) (l0 : List Int) (a1 : Int) : Option (Bool) := (slices_Index_int_int.f k l0 a1).bind fun t355 => (some (decide (t355 ≥ 0)))
theorem slices_Contains_int_int.mono : ∀ a0 a1 k, LeO (slices_Contains_int_int.f k a0 a1) (slices_Contains_int_int.f (k + 1) a0 a1) := by
 intro a0 a1 k
 unfold slices_Contains_int_int.f
 repeat' first
   | (with_reducible exact slices_Index_int_int.mono _ _ _)
   | (with_reducible exact LeO.refl _)
   | (with_reducible exact LeO.none _)
   | (with_reducible refine LeO.ite ?_ ?_)
   | (with_reducible refine LeO.bind ?_ (fun _ => ?_))
   | exact slices_Index_int_int.mono _ _ _
   | exact LeO.none _
   | refine LeO.ite ?_ ?_
   | refine LeO.bind ?_ (fun _ => ?_)
set_option maxHeartbeats 8000000 in
set_option maxRecDepth 100000 in
theorem slices_Contains_int_int.calls (k : Nat) (A0 : Option Addr) (c0 : Nat) (l0 : List Int) (a1 : Int) (r : Bool) (w : World) (hr0 : Kd.C (Kd.int .i64) w A0 l0.length l0) (hc0 : l0.length ≤ c0) (h : slices_Contains_int_int.f k l0 a1 = some r) :
  Calls Try.prog 79 #[.slice A0 l0.length c0, .int .i64 a1] w fun e w' => e = .returned (.bool r) ∧ Drawn0 w w' := by
 have HR0 := Aside0.mk hr0; have HC0 := Aside0.mk hc0; clear hr0 hc0; have H : ((slices_Index_int_int.f k l0 a1).bind fun t355 => (some (decide (t355 ≥ 0)))) = some r := h; clear h; replace H := Option.bind_eq_some_iff.mp H; obtain ⟨t355, A30, H⟩ := H; replace H : (some (decide (t355 ≥ 0))) = some r := H; have A3 := Aside0.mk A30; clear A30; obtain rfl := Option.some.inj H
 go_enter Try.func79, Try.ntmps79
 go_wp2_with (first | ((with_reducible refine gate_callee (f := 80) rfl ?_); refine goesL_ (some 7) rfl rfl Try.func80 (by kernel_rfl) rfl #[.slice A0 l0.length c0, .int .i64 a1] rfl TA ?_; (with_reducible refine (slices_Index_int_int.calls k _ _ l0 a1 t355 _ ?side1 ?side2 A3.out).mono ?_); (case side1 => repeat (first | exact HR0.out | (with_reducible refine Kd.C_alloc ?_ _) | (with_reducible refine Kd.C_drewN ?_ _) | (with_reducible refine Kd.C_drew ?_))); (case side2 => exact HC0.out); rintro e w' ⟨rfl, ⟨nd, rfl⟩⟩; refine ⟨_, rfl, ?_⟩))
 go_ret
 exact ⟨by first | rfl | (simp; done) | (simp [*]; done) | (simp [*, wrap64]; done), by repeat (first | exact Drawn0.refl _ | apply Drawn0.step)⟩

def impl_with.l0 : Nat → Int → Int → List Int → List (List Int) → Int → Int → Option (List Int)
 | 0, _, _, _, _, _, _ => none
 | k + 1, x1, x2, x7, x11, x12, x13 => if x13 < x12 then (if 0 ≤ x13 then (if x13 < (x11.length : Int) then ((slices_Contains_int_int.f k (rd_L1 x11 x13) x1).bind fun t360 => (if t360 = true then ((slices_Contains_int_int.f k (rd_L1 x11 x13) x2).bind fun t361 => (if t361 = true then (if x7.length < 17592186044416 then (impl_with.l0 k x1 x2 (x7 ++ [x13]) x11 x12 (wrap64 (x13 + 1))) else (none)) else (impl_with.l0 k x1 x2 x7 x11 x12 (wrap64 (x13 + 1))))) else (impl_with.l0 k x1 x2 x7 x11 x12 (wrap64 (x13 + 1))))) else (none)) else (none)) else (some x7)
def impl_with.f (k : Nat) (l0 : List (List Int)) (a1 : Int) (a2 : Int) : Option (List Int) := impl_with.l0 k a1 a2 (([] : List Int)) l0 (l0.length : Int) 0
theorem impl_with.mono_l : ∀ k, (∀ y0 y1 y2 y3 y4 y5, LeO (impl_with.l0 k y0 y1 y2 y3 y4 y5) (impl_with.l0 (k + 1) y0 y1 y2 y3 y4 y5))
 | 0 => fun _ _ _ _ _ _ r h => by simp [impl_with.l0] at h
 | k + 1 => by
  have ih0 := impl_with.mono_l k
  ·intro y0 y1 y2 y3 y4 y5
   unfold impl_with.l0
   repeat' first
   | (with_reducible exact ih0 _ _ _ _ _ _)
   | (with_reducible exact slices_Contains_int_int.mono _ _ _)
   | (with_reducible exact LeO.refl _)
   | (with_reducible exact LeO.none _)
   | (with_reducible refine LeO.ite ?_ ?_)
   | (with_reducible refine LeO.bind ?_ (fun _ => ?_))
   | exact ih0 _ _ _ _ _ _
   | exact slices_Contains_int_int.mono _ _ _
   | exact LeO.none _
   | refine LeO.ite ?_ ?_
   | refine LeO.bind ?_ (fun _ => ?_)
theorem impl_with.mono : ∀ a0 a1 a2 k, LeO (impl_with.f k a0 a1 a2) (impl_with.f (k + 1) a0 a1 a2) := by
 intro a0 a1 a2 k
 have ih0 := impl_with.mono_l k
 unfold impl_with.f
 repeat' first
   | (with_reducible exact ih0 _ _ _ _ _ _)
   | (with_reducible exact slices_Contains_int_int.mono _ _ _)
   | (with_reducible exact LeO.refl _)
   | (with_reducible exact LeO.none _)
   | (with_reducible refine LeO.ite ?_ ?_)
   | (with_reducible refine LeO.bind ?_ (fun _ => ?_))
   | exact ih0 _ _ _ _ _ _
   | exact slices_Contains_int_int.mono _ _ _
   | exact LeO.none _
   | refine LeO.ite ?_ ?_
   | refine LeO.bind ?_ (fun _ => ?_)
set_option maxHeartbeats 8000000 in
set_option maxRecDepth 100000 in
theorem impl_with.calls (k : Nat) (A0 : Option Addr) (c0 : Nat) (l0 : List (List Int)) (a1 : Int) (a2 : Int) (r : List Int) (w : World) (hr0 : Kd.C (Kd.slice 3 (Kd.int .i64)) w A0 l0.length l0) (hc0 : l0.length ≤ c0) (h : impl_with.f k l0 a1 a2 = some r) :
  Calls Try.prog 76 #[.slice A0 l0.length c0, .int .i64 a1, .int .i64 a2] w fun e w' => ∃ v0_ : Value, e = .returned (v0_) ∧ Kd.R (Kd.int .i64) 3 w' w.heap.size (fun _ => True) v0_ r ∧ Below w.heap.size w w' := by
 have HR0 := Aside0.mk hr0; have HC0 := Aside0.mk hc0; clear hr0 hc0; have HB := Aside0.mk (Below.refl w.heap.size w); have H : (impl_with.l0 k a1 a2 (([] : List Int)) l0 (l0.length : Int) 0) = some r := h; clear h; obtain ⟨y356, hy356⟩ : ∃ y_ : List Int, y_ = (([] : List Int)) := ⟨_, rfl⟩; replace H : (impl_with.l0 k a1 a2 y356 l0 (l0.length : Int) 0) = some r := by first | (rw [hy356]; with_reducible exact H) | (have H2_ := (Option.bind_some _ _).symm.trans H; rw [hy356]; with_reducible exact H2_) | (have H2_ := (Option.bind_some _ _).symm.trans H; with_reducible exact H2_) | with_reducible exact H | (rw [hy356]; exact H) | exact H
 have Ny356 := Aside0.mk hy356; clear hy356; have H' := Aside0.mk H; clear H
 go_enter Try.func76, Try.ntmps76
 go_wp2_with (first | ((with_reducible refine gate_dst (N := 10) rfl ?_); refine Kd.R_lit (Kd.int .i64) _ 3 ?hg (N := 10) ?hd (xs := ([] : List Int)) (inner := []) (ok := fun _ => True) (okp := fun _ => True) ?hr ?hp (fun _ hk => hk) trivial (Below.refl _ _) (Nat.le_refl _) (by simp) ?_; (case hd => rfl); (case hg => rfl); (case hr => first | (go_simp; done) | (go_simp; rfl)); (case hp => exact (Reps.none _ _)); intro v357 w4 ho5 hb hg_ hnew_; clear hg_ hnew_; (first | rw [← Ny356.out] at ho5 | (simp only [Int.reduceToNat] at ho5; rw [← Ny356.out] at ho5)); have n0_ := Aside0.mk (Kd.R_lower ho5 (below_size BB)); have n1_ := Aside0.mk (below_step BB hb); clear HB; have HO358 := n0_; have HB := n1_; clear n0_ n1_; clear hb ho5))
 go_loopg [7, 13] k (fun kq v7 v13 w' => ∃ (x7_1 : List Int) (x13_1 : Int), v13 = .int .i64 x13_1 ∧ Aside0 (impl_with.l0 kq a1 a2 x7_1 l0 (l0.length : Int) x13_1 = some r) ∧ Aside0 (kq ≤ k) ∧ Aside0 (Kd.R (Kd.int .i64) 3 w' w.heap.size (fun _ => True) v7 x7_1) ∧ Aside0 (Below w.heap.size w w'))
 case atStart => exact ⟨(y356), (0), RF, H', ⟨Nat.le_refl _⟩, ⟨KR HO358⟩, ⟨BB⟩⟩
 case round =>
  clear H'
  try clear p2
  obtain ⟨x7_1, x13_1, rfl, HA, HK1, HO_7, HB⟩ := hrel; cases gk with
  | zero => exact absurd HA.out (by simp [impl_with.l0])
  | succ k1 =>
   have H := HA.out; clear HA
   simp only [impl_with.l0] at H
   by_cases c6 : x13_1 < (l0.length : Int)
   ·rw [if_pos c6] at H
    have c6b0 : decide (x13_1 < (l0.length : Int)) = true := decide_eq_true c6; clear c6
    by_cases c7 : 0 ≤ x13_1
    ·rw [if_pos c7] at H
     have c7b0 : decide (0 ≤ x13_1) = true := decide_eq_true c7; clear c7
     by_cases c8 : x13_1 < (l0.length : Int)
     ·rw [if_pos c8] at H
      have c8b0 : decide (x13_1 < (l0.length : Int)) = true := decide_eq_true c8; clear c8; replace H := Option.bind_eq_some_iff.mp H; obtain ⟨t360, A90, H⟩ := H; replace H : (if t360 = true then ((slices_Contains_int_int.f k1 (rd_L1 l0 x13_1) a2).bind fun t361 => (if t361 = true then (if x7_1.length < 17592186044416 then (impl_with.l0 k1 a1 a2 (x7_1 ++ [x13_1]) l0 (l0.length : Int) (wrap64 (x13_1 + 1))) else (none)) else (impl_with.l0 k1 a1 a2 x7_1 l0 (l0.length : Int) (wrap64 (x13_1 + 1))))) else (impl_with.l0 k1 a1 a2 x7_1 l0 (l0.length : Int) (wrap64 (x13_1 + 1)))) = some r := H; have A9 := Aside0.mk A90; clear A90
      by_cases c10 : t360 = true
      ·subst c10
       have H1 : ((slices_Contains_int_int.f k1 (rd_L1 l0 x13_1) a2).bind fun t361 => (if t361 = true then (if x7_1.length < 17592186044416 then (impl_with.l0 k1 a1 a2 (x7_1 ++ [x13_1]) l0 (l0.length : Int) (wrap64 (x13_1 + 1))) else (none)) else (impl_with.l0 k1 a1 a2 x7_1 l0 (l0.length : Int) (wrap64 (x13_1 + 1))))) = some r := by rw [if_pos rfl] at H; exact H
       clear H; have H := H1; clear H1; replace H := Option.bind_eq_some_iff.mp H; obtain ⟨t361, A110, H⟩ := H; replace H : (if t361 = true then (if x7_1.length < 17592186044416 then (impl_with.l0 k1 a1 a2 (x7_1 ++ [x13_1]) l0 (l0.length : Int) (wrap64 (x13_1 + 1))) else (none)) else (impl_with.l0 k1 a1 a2 x7_1 l0 (l0.length : Int) (wrap64 (x13_1 + 1)))) = some r := H; have A11 := Aside0.mk A110; clear A110
       by_cases c12 : t361 = true
       ·subst c12
        have H1 : (if x7_1.length < 17592186044416 then (impl_with.l0 k1 a1 a2 (x7_1 ++ [x13_1]) l0 (l0.length : Int) (wrap64 (x13_1 + 1))) else (none)) = some r := by rw [if_pos rfl] at H; exact H
        clear H; have H := H1; clear H1
        by_cases c13 : x7_1.length < 17592186044416
        ·rw [if_pos c13] at H
         have LMc13 := Aside0.mk c13; clear c13; obtain ⟨y362, hy362⟩ : ∃ y_ : List Int, y_ = (x7_1 ++ [x13_1]) := ⟨_, rfl⟩; replace H : (impl_with.l0 k1 a1 a2 y362 l0 (l0.length : Int) (wrap64 (x13_1 + 1))) = some r := by first | (rw [hy362]; with_reducible exact H) | (have H2_ := (Option.bind_some _ _).symm.trans H; rw [hy362]; with_reducible exact H2_) | (have H2_ := (Option.bind_some _ _).symm.trans H; with_reducible exact H2_) | with_reducible exact H | (rw [hy362]; exact H) | exact H
         have Ny362 := Aside0.mk hy362; clear hy362; have H' := Aside0.mk H; clear H; have p359 : 0 ≤ (x13_1 : Int) := of_decide_eq_true AS; have q359 : x13_1 < (l0.length : Int) := of_decide_eq_true AS; obtain ⟨ad359, A359_0, c359_0, e359, hx359_0, hl359_0, hi359_0⟩ := at_L1 HR0.out x13_1 p359 q359; cases e359; replace hx359_0 := (HB.out.cell (World.block_lt_of_cell? w _ hx359_0)).trans hx359_0; have HR359_0 := Aside0.mk hi359_0; have HC359_0 := Aside0.mk hl359_0; clear hi359_0 hl359_0; replace p359 := eq_true p359; replace q359 := eq_true q359
         go_wp2_with (first | ((with_reducible refine gate_callee (f := 79) rfl ?_); refine goesL_ (some 20) rfl rfl Try.func79 (by kernel_rfl) rfl #[.slice A359_0 (rd_L1 l0 x13_1).length c359_0, .int .i64 a1] rfl TA ?_; (with_reducible refine (slices_Contains_int_int.calls k1 _ _ (rd_L1 l0 x13_1) a1 true _ ?side1 ?side2 A9.out).mono ?_); (case side1 => repeat (first | exact (Kd.C_below HR359_0.out HB.out) | (with_reducible refine Kd.C_alloc ?_ _) | (with_reducible refine Kd.C_drewN ?_ _) | (with_reducible refine Kd.C_drew ?_))); (case side2 => exact HC359_0.out); rintro e w' ⟨rfl, ⟨nd, rfl⟩⟩; refine ⟨_, rfl, ?_⟩) | (go_at_call 79; (with_reducible refine (slices_Contains_int_int.calls k1 _ _ (rd_L1 l0 x13_1) a2 true _ ?side1 ?side2 A11.out).mono ?_); (case side1 => repeat (first | exact (Kd.C_below HR359_0.out BB) | (with_reducible refine Kd.C_alloc ?_ _) | (with_reducible refine Kd.C_drewN ?_ _) | (with_reducible refine Kd.C_drew ?_))); (case side2 => exact HC359_0.out); rintro e w' ⟨rfl, ⟨nd, rfl⟩⟩) | ((with_reducible refine gate_builtin (b := .append) (xs := #[.tmp 26, .tmp 28]) rfl ?_); at_builtin; refine Kd.R_append (Kd.int .i64) (w0 := w) w.heap.size rfl (.tmp 26) (.tmp 28) 22 3 (.int .i64 0) 8 rfl Try.underlying22 info3 rfl (by decide) (by omega) u7 x7_1 x13_1 [.int .i64 x13_1] (fun _ => True) (fun _ => False) rfl rfl ?aP (fun _ hk => hk.elim) ?aF ?aO ?aB ?aS ?aL ?_; (case aP => exact rfl); (case aB => exact BB); (case aF => exact (fun _ _ => trivial)); (case aO => exact (KR HO_7)); (case aS => exact (below_size BB)); (case aL => have := LMc13.out; omega); intro v363 w14 ho hb hg hat; rw [← Ny362.out] at ho; have n0_ := Aside0.mk (hb); have n1_ := Aside0.mk (ho); clear HB; clear HO_7; have HB := n0_; have HO364 := n1_; clear n0_ n1_; clear ho hb hg hat))
         go_roundg k1
         case measure => have := HK1.out; omega
         case rel => exact ⟨(y362), (wrap64 (x13_1 + 1)), RF, H', ⟨by have := HK1.out; omega⟩, ⟨KR HO364⟩, ⟨BB⟩⟩
        ·rw [if_neg c13] at H
         exact absurd H (by simp)
       ·replace c12 := Bool.eq_false_iff.mpr c12
        subst c12; have H1 : (impl_with.l0 k1 a1 a2 x7_1 l0 (l0.length : Int) (wrap64 (x13_1 + 1))) = some r := by rw [if_neg (show ¬ (false = true) by decide)] at H; exact H
        clear H; have H := H1; clear H1; have H' := Aside0.mk H; clear H; have p359 : 0 ≤ (x13_1 : Int) := of_decide_eq_true AS; have q359 : x13_1 < (l0.length : Int) := of_decide_eq_true AS; obtain ⟨ad359, A359_0, c359_0, e359, hx359_0, hl359_0, hi359_0⟩ := at_L1 HR0.out x13_1 p359 q359; cases e359; replace hx359_0 := (HB.out.cell (World.block_lt_of_cell? w _ hx359_0)).trans hx359_0; have HR359_0 := Aside0.mk hi359_0; have HC359_0 := Aside0.mk hl359_0; clear hi359_0 hl359_0; replace p359 := eq_true p359; replace q359 := eq_true q359
        go_wp2_with (first | ((with_reducible refine gate_callee (f := 79) rfl ?_); refine goesL_ (some 20) rfl rfl Try.func79 (by kernel_rfl) rfl #[.slice A359_0 (rd_L1 l0 x13_1).length c359_0, .int .i64 a1] rfl TA ?_; (with_reducible refine (slices_Contains_int_int.calls k1 _ _ (rd_L1 l0 x13_1) a1 true _ ?side1 ?side2 A9.out).mono ?_); (case side1 => repeat (first | exact (Kd.C_below HR359_0.out HB.out) | (with_reducible refine Kd.C_alloc ?_ _) | (with_reducible refine Kd.C_drewN ?_ _) | (with_reducible refine Kd.C_drew ?_))); (case side2 => exact HC359_0.out); rintro e w' ⟨rfl, ⟨nd, rfl⟩⟩; refine ⟨_, rfl, ?_⟩) | (go_at_call 79; (with_reducible refine (slices_Contains_int_int.calls k1 _ _ (rd_L1 l0 x13_1) a2 false _ ?side1 ?side2 A11.out).mono ?_); (case side1 => repeat (first | exact (Kd.C_below HR359_0.out BB) | (with_reducible refine Kd.C_alloc ?_ _) | (with_reducible refine Kd.C_drewN ?_ _) | (with_reducible refine Kd.C_drew ?_))); (case side2 => exact HC359_0.out); rintro e w' ⟨rfl, ⟨nd, rfl⟩⟩))
        go_roundg k1
        case measure => have := HK1.out; omega
        case rel => exact ⟨(x7_1), (wrap64 (x13_1 + 1)), RF, H', ⟨by have := HK1.out; omega⟩, ⟨KR HO_7⟩, ⟨BB⟩⟩
      ·replace c10 := Bool.eq_false_iff.mpr c10
       subst c10; have H1 : (impl_with.l0 k1 a1 a2 x7_1 l0 (l0.length : Int) (wrap64 (x13_1 + 1))) = some r := by rw [if_neg (show ¬ (false = true) by decide)] at H; exact H
       clear H; have H := H1; clear H1; have H' := Aside0.mk H; clear H; have p359 : 0 ≤ (x13_1 : Int) := of_decide_eq_true AS; have q359 : x13_1 < (l0.length : Int) := of_decide_eq_true AS; obtain ⟨ad359, A359_0, c359_0, e359, hx359_0, hl359_0, hi359_0⟩ := at_L1 HR0.out x13_1 p359 q359; cases e359; replace hx359_0 := (HB.out.cell (World.block_lt_of_cell? w _ hx359_0)).trans hx359_0; have HR359_0 := Aside0.mk hi359_0; have HC359_0 := Aside0.mk hl359_0; clear hi359_0 hl359_0; replace p359 := eq_true p359; replace q359 := eq_true q359
       go_wp2_with (first | ((with_reducible refine gate_callee (f := 79) rfl ?_); refine goesL_ (some 20) rfl rfl Try.func79 (by kernel_rfl) rfl #[.slice A359_0 (rd_L1 l0 x13_1).length c359_0, .int .i64 a1] rfl TA ?_; (with_reducible refine (slices_Contains_int_int.calls k1 _ _ (rd_L1 l0 x13_1) a1 false _ ?side1 ?side2 A9.out).mono ?_); (case side1 => repeat (first | exact (Kd.C_below HR359_0.out HB.out) | (with_reducible refine Kd.C_alloc ?_ _) | (with_reducible refine Kd.C_drewN ?_ _) | (with_reducible refine Kd.C_drew ?_))); (case side2 => exact HC359_0.out); rintro e w' ⟨rfl, ⟨nd, rfl⟩⟩; refine ⟨_, rfl, ?_⟩))
       go_roundg k1
       case measure => have := HK1.out; omega
       case rel => exact ⟨(x7_1), (wrap64 (x13_1 + 1)), RF, H', ⟨by have := HK1.out; omega⟩, ⟨KR HO_7⟩, ⟨BB⟩⟩
     ·rw [if_neg c8] at H
      exact absurd H (by simp)
    ·rw [if_neg c7] at H
     exact absurd H (by simp)
   ·rw [if_neg c6] at H
    have c6b0 : decide (x13_1 < (l0.length : Int)) = false := decide_eq_false c6; clear c6; obtain rfl := Option.some.inj H
    go_wp2
    go_ret
    exact ⟨_, by first | rfl | (simp [errW_none, errW_some] <;> rfl) | (simp [*, errW_none, errW_some] <;> rfl), KR HO_7, BB⟩

end Go.Proofs.Ytgpplbaloajgdaa.PFnExactExitOf
