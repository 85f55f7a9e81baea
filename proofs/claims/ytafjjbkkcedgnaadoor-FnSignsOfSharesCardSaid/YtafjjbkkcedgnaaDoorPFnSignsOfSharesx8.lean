-- Written by a program of this session (wip/tools/pp.sh) out of the translation; Lean checks it.
import Derived.Test.YtafjjbkkcedgnaaDoorPFnSignsOfSharesx0
import Derived.Test.YtafjjbkkcedgnaaDoorPFnSignsOfSharesx1
import Derived.Test.YtafjjbkkcedgnaaDoorPFnSignsOfSharesx2
import Derived.Test.YtafjjbkkcedgnaaDoorPFnSignsOfSharesx3
import Derived.Test.YtafjjbkkcedgnaaDoorPFnSignsOfSharesx7
namespace Go.Proofs.YtafjjbkkcedgnaaDoor.PFnSignsOfShares
open Go.RowKit Go.Proofs.YtafjjbkkcedgnaaDoorOwn Go.Proofs.YtafjjbkkcedgnaaDoorW.PrintWords Go.Proofs.YtafjjbkkcedgnaaDoorW.PrintLast Go.Proofs.YtafjjbkkcedgnaaDoorW.PrintMore
attribute [local go_sem] max2_int min2_int max_two min_two max_three min_three max_four min_four   -- for this text's walks alone
set_option linter.unusedVariables false
set_option maxHeartbeats 8000000
set_option maxRecDepth 100000
set_option linter.unusedSimpArgs false

/-! ### spec_DrawIsFairSplit: function 17 -/
def spec_DrawIsFairSplit.j0 : Nat → ByteArray → Bool → List Int → Int → Int → Option (ByteArray × List Int)
 | 0, _, _, _, _, _ => none
 | k + 1, x5, x20, x360000, x360001, x360002 => if x20 = true then ((spec_nlFirst.f k x5).bind fun t368 => (some (x5, t368))) else ((spec_l1Cur_cuts.f k x360000 x360001 x360002 x5).bind fun bt371 => (some (x5, bt371.1)))
def spec_DrawIsFairSplit.f (k : Nat) (l0 : List Int) : Option (ByteArray × List Int) := (spec_l1Cur_beads.f k l0 0 0 10).bind fun bt360 => ((spec_nlGood.f k bt360.1).bind fun t363 => (if t363 = true then ((spec_nlEven.f k bt360.1).bind fun t364 => (if t364 = true then ((spec_l1Cur_one.f l0 bt360.2.1 bt360.2.2 2).bind fun bt365 => (spec_DrawIsFairSplit.j0 k bt360.1 bt365.1 l0 bt365.2.1 bt365.2.2)) else (spec_DrawIsFairSplit.j0 k bt360.1 false l0 bt360.2.1 bt360.2.2))) else (spec_DrawIsFairSplit.j0 k bt360.1 false l0 bt360.2.1 bt360.2.2)))
theorem spec_DrawIsFairSplit.mono_l : ∀ k, (∀ y0 y1 y2 y3 y4, LeO (spec_DrawIsFairSplit.j0 k y0 y1 y2 y3 y4) (spec_DrawIsFairSplit.j0 (k + 1) y0 y1 y2 y3 y4))
 | 0 => fun _ _ _ _ _ r h => by simp [spec_DrawIsFairSplit.j0] at h
 | k + 1 => by
  have ih0 := spec_DrawIsFairSplit.mono_l k
  ·intro y0 y1 y2 y3 y4
   unfold spec_DrawIsFairSplit.j0
   repeat' first
   | with_reducible first | exact ih0 _ _ _ _ _ | exact spec_l1Cur_beads.mono _ _ _ _ _ | exact spec_l1Cur_cuts.mono _ _ _ _ _ | exact spec_nlEven.mono _ _ | exact spec_nlFirst.mono _ _ | exact spec_nlGood.mono _ _ | exact LeO.refl _ | exact LeO.none _ | refine LeO.ite ?_ ?_ | refine LeO.bind ?_ (fun _ => ?_)
   | exact LeO.none _ | refine LeO.ite ?_ ?_ | refine LeO.bind ?_ (fun _ => ?_)
theorem spec_DrawIsFairSplit.mono : ∀ a0 k, LeO (spec_DrawIsFairSplit.f k a0) (spec_DrawIsFairSplit.f (k + 1) a0) := by
 intro a0 k
 have ih0 := spec_DrawIsFairSplit.mono_l k
 unfold spec_DrawIsFairSplit.f
 repeat' first
   | with_reducible first | exact ih0 _ _ _ _ _ | exact spec_l1Cur_beads.mono _ _ _ _ _ | exact spec_l1Cur_cuts.mono _ _ _ _ _ | exact spec_nlEven.mono _ _ | exact spec_nlFirst.mono _ _ | exact spec_nlGood.mono _ _ | exact LeO.refl _ | exact LeO.none _ | refine LeO.ite ?_ ?_ | refine LeO.bind ?_ (fun _ => ?_)
   | exact LeO.none _ | refine LeO.ite ?_ ?_ | refine LeO.bind ?_ (fun _ => ?_)
theorem spec_DrawIsFairSplit.calls (k : Nat) (A0 : Option Addr) (c0 : Nat) (l0 : List Int) (r1 : ByteArray) (r2 : List Int) (w : World) (hr0 : Kd.C (Kd.int .u8) w A0 l0.length l0) (hc0 : l0.length ≤ c0) (h : spec_DrawIsFairSplit.f k l0 = some (r1, r2)) :
  Calls Tryd.prog 17 #[.slice A0 l0.length c0] w fun e w' => ∃ v1_ : Value, e = .returned (.tuple #[.string r1, v1_]) ∧ Kd.R (Kd.int .i64) 3 w' w.heap.size (fun _ => True) v1_ r2 ∧ Below w.heap.size w w' := by
 have hu51 := Tryd.underlying51
 have HR0 := Aside0.mk hr0
 have HC0 := Aside0.mk hc0
 clear hr0 hc0
 have HB := Aside0.mk (Below.refl w.heap.size w)
 have H : ((spec_l1Cur_beads.f k l0 0 0 10).bind fun bt360 => ((spec_nlGood.f k bt360.1).bind fun t363 => (if t363 = true then ((spec_nlEven.f k bt360.1).bind fun t364 => (if t364 = true then ((spec_l1Cur_one.f l0 bt360.2.1 bt360.2.2 2).bind fun bt365 => (spec_DrawIsFairSplit.j0 k bt360.1 bt365.1 l0 bt365.2.1 bt365.2.2)) else (spec_DrawIsFairSplit.j0 k bt360.1 false l0 bt360.2.1 bt360.2.2))) else (spec_DrawIsFairSplit.j0 k bt360.1 false l0 bt360.2.1 bt360.2.2)))) = some (r1, r2) := h
 clear h
 obtain ⟨⟨t360, t361, t362⟩, A20, H⟩ := Option.bind_eq_some_iff.mp H
 replace H : ((spec_nlGood.f k t360).bind fun t363 => (if t363 = true then ((spec_nlEven.f k t360).bind fun t364 => (if t364 = true then ((spec_l1Cur_one.f l0 t361 t362 2).bind fun bt365 => (spec_DrawIsFairSplit.j0 k t360 bt365.1 l0 bt365.2.1 bt365.2.2)) else (spec_DrawIsFairSplit.j0 k t360 false l0 t361 t362))) else (spec_DrawIsFairSplit.j0 k t360 false l0 t361 t362))) = some (r1, r2) := H
 have A2 := Aside0.mk A20
 clear A20
 have HC3 := Aside0.mk H
 clear H
 go_enter Tryd.func17, Tryd.ntmps17
 go_upto_region 3 with (first | ((with_reducible refine gate_dst (N := 8) rfl ?_); refine box_event ?hg (N := 8) ?hd (cs := #[.slice A0 l0.length c0, .int .i64 0, .int .u64 0]) (t := 51) ?hr ?_; (case hd => rfl); (case hg => rfl); (case hr => exact GS); intro gb359 hg w4 hbox hb; have n0_ := Aside0.mk (below_step BB hb); have n1_ := Aside0.mk ((by rw [hg]; exact (below_size BB) : w.heap.size ≤ gb359)); have n2_ := Aside0.mk ((by rw [hg]; exact (below_size BB) : w.heap.size ≤ gb359)); have n3_ := Aside0.mk ((show IsS51 w w4 gb359 l0 0 0 from ⟨A0, c0, hbox, (by rw [hg]; exact (below_size BB) : w.heap.size ≤ gb359), HR0.out⟩)); clear HB; have HB := n0_; have GW359 := n1_; have GE359 := n2_; have HI359 := n3_; clear n0_ n1_ n2_ n3_; clear hb hbox hg) | ((with_reducible refine gate_callee (f := 44) rfl ?_); refine goesL_ (some 10) rfl rfl Tryd.func44 (by kernel_rfl) rfl #[.pointer (some ⟨gb359, 0, none⟩), .int .i64 10] rfl TA ?_; (with_reducible refine (spec_l1Cur_beads.calls k gb359 l0 0 0 10 t360 t361 t362 w _ ?side1 ?side2 A2.out).mono ?_); (case side1 => repeat (first | (with_reducible first | exact HI359.out | apply IsS51.alloc | apply IsS51.drewN | apply IsS51.drew | apply IsS51.set_1 | apply IsS51.set_2) | exact HI359.out)); (case side2 => repeat (first | (with_reducible first | exact HB.out | apply below_alloc | apply pw_below_drewN | apply below_drew1 | refine below_set ?_ (IsS51.ge HI359.out)) | exact HB.out)); rintro e w5 ⟨rfl, hi, hb, hk⟩; refine ⟨_, rfl, ?_⟩; have n0_ := Aside0.mk (hb); have n1_ := Aside0.mk (hi); clear HB; clear HI359; have HB := n0_; have HI359 := n1_; clear n0_ n1_; (try clear hb); (try clear hb2); (try clear hk); (try clear hi)))
 (try simp only [Act.put, List.setIfInBounds_toArray, List.set_cons_zero, List.set_cons_succ])
 go_cut [20] (fun v20 wc => ∃ (kq : Nat) (x20_2 : Bool) (x360001_2 : Int) (x360002_2 : Int), v20 = .bool x20_2 ∧ Aside0 (spec_DrawIsFairSplit.j0 kq t360 x20_2 l0 x360001_2 x360002_2 = some (r1, r2)) ∧ Aside0 (kq ≤ k) ∧ Aside0 (IsS51 w wc gb359 l0 x360001_2 x360002_2) ∧ Aside0 (Below w.heap.size w wc))
 case first =>
  have H := HC3.out
  clear HC3
  obtain ⟨t363, A60, H⟩ := Option.bind_eq_some_iff.mp H
  have A6 := Aside0.mk A60
  clear A60
  by_cases c7 : t363 = true
  ·subst c7
   replace H := IP H
   obtain ⟨t364, A80, H⟩ := Option.bind_eq_some_iff.mp H
   have A8 := Aside0.mk A80
   clear A80
   by_cases c9 : t364 = true
   ·subst c9
    replace H := IP H
    obtain ⟨⟨t365, t366, t367⟩, A100, H⟩ := Option.bind_eq_some_iff.mp H
    replace H : (spec_DrawIsFairSplit.j0 k t360 t365 l0 t366 t367) = some (r1, r2) := H
    have A10 := Aside0.mk A100
    clear A100
    have H' := Aside0.mk H
    clear H
    go_wp2_with (first | ((with_reducible refine gate_callee (f := 48) rfl ?_); refine goesL_ (some 12) rfl rfl Tryd.func48 (by kernel_rfl) rfl #[.string t360] rfl TA ?_; (with_reducible refine (spec_nlGood.calls k t360 true _ A6.out).mono ?_); rintro e w' ⟨rfl, ⟨nd, rfl⟩⟩; refine ⟨_, rfl, ?_⟩) | (go_at_call 49; (with_reducible refine (spec_nlEven.calls k t360 true _ A8.out).mono ?_); rintro e w11 ⟨rfl, hb⟩; have n0_ := Aside0.mk (IsS51.below (by repeat (first | (with_reducible first | exact HI359.out | apply IsS51.alloc | apply IsS51.drewN | apply IsS51.drew | apply IsS51.set_1 | apply IsS51.set_2) | exact HI359.out)) hb); have n1_ := Aside0.mk (below_step (by repeat (first | (with_reducible first | exact HB.out | apply below_alloc | apply pw_below_drewN | apply below_drew1 | refine below_set ?_ (IsS51.ge HI359.out)) | exact HB.out)) hb); clear HI359; clear HB; have HI359 := n0_; have HB := n1_; clear n0_ n1_; (try clear hb); (try clear hb2); (try clear hk); (try clear hi)) | (go_at_call 46; (with_reducible refine (spec_l1Cur_one.calls gb359 l0 t361 t362 2 t365 t366 t367 w _ ?side1 ?side2 A10.out).mono ?_); (case side1 => repeat (first | (with_reducible first | exact HI359.out | apply IsS51.alloc | apply IsS51.drewN | apply IsS51.drew | apply IsS51.set_1 | apply IsS51.set_2) | exact HI359.out)); (case side2 => repeat (first | (with_reducible first | exact HB.out | apply below_alloc | apply pw_below_drewN | apply below_drew1 | refine below_set ?_ (IsS51.ge HI359.out)) | exact HB.out)); rintro e w12 ⟨rfl, hi, hb, hk⟩; have n0_ := Aside0.mk (hb); have n1_ := Aside0.mk (hi); clear HB; clear HI359; have HB := n0_; have HI359 := n1_; clear n0_ n1_; (try clear hb); (try clear hb2); (try clear hk); (try clear hi)))
    go_meet
    case rel => exact ⟨_, (t365), (t366), (t367), RF, H', ⟨by first | omega | exact Nat.le_refl _⟩, ⟨by repeat (first | (with_reducible first | exact HI359.out | apply IsS51.alloc | apply IsS51.drewN | apply IsS51.drew | apply IsS51.set_1 | apply IsS51.set_2) | exact HI359.out)⟩, ⟨by repeat (first | (with_reducible first | exact HB.out | apply below_alloc | apply pw_below_drewN | apply below_drew1 | refine below_set ?_ (IsS51.ge HI359.out)) | exact HB.out)⟩⟩
   ·replace c9 := Bool.eq_false_iff.mpr c9
    subst c9
    replace H := IN H
    have H' := Aside0.mk H
    clear H
    go_wp2_with (first | ((with_reducible refine gate_callee (f := 48) rfl ?_); refine goesL_ (some 12) rfl rfl Tryd.func48 (by kernel_rfl) rfl #[.string t360] rfl TA ?_; (with_reducible refine (spec_nlGood.calls k t360 true _ A6.out).mono ?_); rintro e w' ⟨rfl, ⟨nd, rfl⟩⟩; refine ⟨_, rfl, ?_⟩) | (go_at_call 49; (with_reducible refine (spec_nlEven.calls k t360 false _ A8.out).mono ?_); rintro e w13 ⟨rfl, hb⟩; have n0_ := Aside0.mk (IsS51.below (by repeat (first | (with_reducible first | exact HI359.out | apply IsS51.alloc | apply IsS51.drewN | apply IsS51.drew | apply IsS51.set_1 | apply IsS51.set_2) | exact HI359.out)) hb); have n1_ := Aside0.mk (below_step (by repeat (first | (with_reducible first | exact HB.out | apply below_alloc | apply pw_below_drewN | apply below_drew1 | refine below_set ?_ (IsS51.ge HI359.out)) | exact HB.out)) hb); clear HI359; clear HB; have HI359 := n0_; have HB := n1_; clear n0_ n1_; (try clear hb); (try clear hb2); (try clear hk); (try clear hi)))
    go_meet
    case rel => exact ⟨_, (false), (t361), (t362), RF, H', ⟨by first | omega | exact Nat.le_refl _⟩, ⟨by repeat (first | (with_reducible first | exact HI359.out | apply IsS51.alloc | apply IsS51.drewN | apply IsS51.drew | apply IsS51.set_1 | apply IsS51.set_2) | exact HI359.out)⟩, ⟨by repeat (first | (with_reducible first | exact HB.out | apply below_alloc | apply pw_below_drewN | apply below_drew1 | refine below_set ?_ (IsS51.ge HI359.out)) | exact HB.out)⟩⟩
  ·replace c7 := Bool.eq_false_iff.mpr c7
   subst c7
   replace H := IN H
   have H' := Aside0.mk H
   clear H
   go_wp2_with (first | ((with_reducible refine gate_callee (f := 48) rfl ?_); refine goesL_ (some 12) rfl rfl Tryd.func48 (by kernel_rfl) rfl #[.string t360] rfl TA ?_; (with_reducible refine (spec_nlGood.calls k t360 false _ A6.out).mono ?_); rintro e w' ⟨rfl, ⟨nd, rfl⟩⟩; refine ⟨_, rfl, ?_⟩))
   go_meet
   case rel => exact ⟨_, (false), (t361), (t362), RF, H', ⟨by first | omega | exact Nat.le_refl _⟩, ⟨by repeat (first | (with_reducible first | exact HI359.out | apply IsS51.alloc | apply IsS51.drewN | apply IsS51.drew | apply IsS51.set_1 | apply IsS51.set_2) | exact HI359.out)⟩, ⟨by repeat (first | (with_reducible first | exact HB.out | apply below_alloc | apply pw_below_drewN | apply below_drew1 | refine below_set ?_ (IsS51.ge HI359.out)) | exact HB.out)⟩⟩
 case rest =>
  clear HC3
  try clear c1
  try clear p2
  try clear c4
  try clear p6
  try clear c7
  try clear c9
  obtain ⟨kq, x20_2, x360001_2, x360002_2, rfl, HA, HJ2, HI359, HB⟩ := hcut
  cases kq with
  | zero => exact absurd HA.out (by simp [spec_DrawIsFairSplit.j0])
  | succ kj2 =>
   have H := HA.out
   clear HA
   simp only [spec_DrawIsFairSplit.j0] at H
   by_cases c14 : x20_2 = true
   ·subst c14
    replace H := IP H
    obtain ⟨t368, A150, H⟩ := Option.bind_eq_some_iff.mp H
    have A15 := Aside0.mk A150
    clear A150
    simp only [Option.some.injEq, Prod.mk.injEq] at H
    obtain ⟨rfl, rfl⟩ := H
    go_wp2_with (first | ((with_reducible refine gate_callee (f := 50) rfl ?_); refine goesL_ (some 23) rfl rfl Tryd.func50 (by kernel_rfl) rfl #[.string t360] rfl TA ?_; (with_reducible refine (spec_nlFirst.calls kj2 t360 t368 _ A15.out).mono ?_); rintro e w16 ⟨v369, rfl, ho0, hb⟩; refine ⟨_, rfl, ?_⟩; have n0_ := Aside0.mk (Kd.R_lower ho0 (below_size (by repeat (first | (with_reducible first | exact HB.out | apply below_alloc | apply pw_below_drewN | apply below_drew1 | refine below_set ?_ (IsS51.ge HI359.out)) | exact HB.out)))); have n1_ := Aside0.mk (IsS51.below (by repeat (first | (with_reducible first | exact HI359.out | apply IsS51.alloc | apply IsS51.drewN | apply IsS51.drew | apply IsS51.set_1 | apply IsS51.set_2) | exact HI359.out)) hb); have n2_ := Aside0.mk (below_step (by repeat (first | (with_reducible first | exact HB.out | apply below_alloc | apply pw_below_drewN | apply below_drew1 | refine below_set ?_ (IsS51.ge HI359.out)) | exact HB.out)) hb); clear HI359; clear HB; have HO370 := n0_; have HI359 := n1_; have HB := n2_; clear n0_ n1_ n2_; (try clear hb); (try clear hb2); (try clear hk); (try clear hi); (try clear ho0)))
    go_ret2
    exact ⟨_, RE, KR HO370, by repeat (first | (with_reducible first | exact HB.out | apply below_alloc | apply pw_below_drewN | apply below_drew1 | refine below_set ?_ (IsS51.ge HI359.out)) | exact HB.out)⟩
   ·replace c14 := Bool.eq_false_iff.mpr c14
    subst c14
    replace H := IN H
    obtain ⟨⟨t371, t374, t375⟩, A170, H⟩ := Option.bind_eq_some_iff.mp H
    replace H : (some (t360, t371)) = some (r1, r2) := H
    have A17 := Aside0.mk A170
    clear A170
    simp only [Option.some.injEq, Prod.mk.injEq] at H
    obtain ⟨rfl, rfl⟩ := H
    go_wp2_with (first | ((with_reducible refine gate_callee (f := 51) rfl ?_); refine goesL_ (some 27) rfl rfl Tryd.func51 (by kernel_rfl) rfl #[.pointer (some ⟨gb359, 0, none⟩), .string t360] rfl TA ?_; (with_reducible refine (spec_l1Cur_cuts.calls kj2 gb359 l0 x360001_2 x360002_2 t360 t371 t374 t375 w _ ?side1 ?side2 A17.out).mono ?_); (case side1 => repeat (first | (with_reducible first | exact HI359.out | apply IsS51.alloc | apply IsS51.drewN | apply IsS51.drew | apply IsS51.set_1 | apply IsS51.set_2) | exact HI359.out)); (case side2 => repeat (first | (with_reducible first | exact HB.out | apply below_alloc | apply pw_below_drewN | apply below_drew1 | refine below_set ?_ (IsS51.ge HI359.out)) | exact HB.out)); rintro e w18 ⟨v372, rfl, ho0, hi, hb, hk⟩; refine ⟨_, rfl, ?_⟩; have n0_ := Aside0.mk (Kd.R_lower ho0 (below_size (by repeat (first | (with_reducible first | exact HB.out | apply below_alloc | apply pw_below_drewN | apply below_drew1 | refine below_set ?_ (IsS51.ge HI359.out)) | exact HB.out)))); have n1_ := Aside0.mk (hb); have n2_ := Aside0.mk (hi); clear HB; clear HI359; have HO373 := n0_; have HB := n1_; have HI359 := n2_; clear n0_ n1_ n2_; (try clear hb); (try clear hb2); (try clear hk); (try clear hi); (try clear ho0)))
    go_ret2
    exact ⟨_, RE, KR HO373, by repeat (first | (with_reducible first | exact HB.out | apply below_alloc | apply pw_below_drewN | apply below_drew1 | refine below_set ?_ (IsS51.ge HI359.out)) | exact HB.out)⟩

/-! ### spec_IsFairSplit: function 18 -/
def spec_IsFairSplit.f (k : Nat) (a0 : ByteArray) (l1 : List Int) : Option (Bool × Bool) := (spec_nlCuts.f k a0 l1).bind fun t376 => (if t376 = true then ((spec_nlFair.f k a0 l1).bind fun t377 => (some (t377, true))) else (some (false, false)))
theorem spec_IsFairSplit.mono : ∀ a0 a1 k, LeO (spec_IsFairSplit.f k a0 a1) (spec_IsFairSplit.f (k + 1) a0 a1) := by
 intro a0 a1 k
 unfold spec_IsFairSplit.f
 repeat' first
   | with_reducible first | exact spec_nlCuts.mono _ _ _ | exact spec_nlFair.mono _ _ _ | exact LeO.refl _ | exact LeO.none _ | refine LeO.ite ?_ ?_ | refine LeO.bind ?_ (fun _ => ?_)
   | exact LeO.none _ | refine LeO.ite ?_ ?_ | refine LeO.bind ?_ (fun _ => ?_)
theorem spec_IsFairSplit.calls (k : Nat) (a0 : ByteArray) (A1 : Option Addr) (c1 : Nat) (l1 : List Int) (r1 : Bool) (r2 : Bool) (w : World) (hr1 : Kd.C (Kd.int .i64) w A1 l1.length l1) (hc1 : l1.length ≤ c1) (h : spec_IsFairSplit.f k a0 l1 = some (r1, r2)) :
  Calls Tryd.prog 18 #[.string a0, .slice A1 l1.length c1] w fun e w' => e = .returned (.tuple #[.bool r1, .bool r2]) ∧ Below w.heap.size w w' := by
 have HR1 := Aside0.mk hr1
 have HC1 := Aside0.mk hc1
 clear hr1 hc1
 have HB := Aside0.mk (Below.refl w.heap.size w)
 have H : ((spec_nlCuts.f k a0 l1).bind fun t376 => (if t376 = true then ((spec_nlFair.f k a0 l1).bind fun t377 => (some (t377, true))) else (some (false, false)))) = some (r1, r2) := h
 clear h
 obtain ⟨t376, A30, H⟩ := Option.bind_eq_some_iff.mp H
 have A3 := Aside0.mk A30
 clear A30
 by_cases c4 : t376 = true
 ·subst c4
  replace H := IP H
  obtain ⟨t377, A50, H⟩ := Option.bind_eq_some_iff.mp H
  have A5 := Aside0.mk A50
  clear A50
  simp only [Option.some.injEq, Prod.mk.injEq] at H
  obtain ⟨rfl, rfl⟩ := H
  go_enter Tryd.func18, Tryd.ntmps18
  go_wp2_with (first | ((with_reducible refine gate_callee (f := 35) rfl ?_); refine goesL_ (some 8) rfl rfl Tryd.func35 (by kernel_rfl) rfl #[.string a0, .slice A1 l1.length c1] rfl TA ?_; (with_reducible refine (spec_nlCuts.calls k a0 _ _ l1 true _ ?side1 ?side2 A3.out).mono ?_); (case side1 => exact CW HR1.out); (case side2 => exact HC1.out); rintro e w' ⟨rfl, ⟨nd, rfl⟩⟩; refine ⟨_, rfl, ?_⟩) | ((with_reducible refine gate_callee (f := 52) rfl ?_); refine goesL_ (some 12) rfl rfl Tryd.func52 (by kernel_rfl) rfl #[.string a0, .slice A1 l1.length c1] rfl TA ?_; (with_reducible refine (spec_nlFair.calls k a0 _ _ l1 t377 _ ?side1 ?side2 A5.out).mono ?_); (case side1 => exact CW HR1.out); (case side2 => exact HC1.out); rintro e w6 ⟨rfl, hb⟩; refine ⟨_, rfl, ?_⟩; have n0_ := Aside0.mk (below_step BB hb); clear HB; have HB := n0_; clear n0_; (try clear hb); (try clear hb2); (try clear hk); (try clear hi)))
  go_ret2
  exact ⟨RE, BB⟩
 ·replace c4 := Bool.eq_false_iff.mpr c4
  subst c4
  replace H := IN H
  simp only [Option.some.injEq, Prod.mk.injEq] at H
  obtain ⟨rfl, rfl⟩ := H
  go_enter Tryd.func18, Tryd.ntmps18
  go_wp2_with (first | ((with_reducible refine gate_callee (f := 35) rfl ?_); refine goesL_ (some 8) rfl rfl Tryd.func35 (by kernel_rfl) rfl #[.string a0, .slice A1 l1.length c1] rfl TA ?_; (with_reducible refine (spec_nlCuts.calls k a0 _ _ l1 false _ ?side1 ?side2 A3.out).mono ?_); (case side1 => exact CW HR1.out); (case side2 => exact HC1.out); rintro e w' ⟨rfl, ⟨nd, rfl⟩⟩; refine ⟨_, rfl, ?_⟩))
  go_ret2
  exact ⟨RE, BB⟩

end Go.Proofs.YtafjjbkkcedgnaaDoor.PFnSignsOfShares
