-- Written by a program of this session (wip/tools/pp.sh) out of the translation; Lean checks it.
import Derived.Test.YthkdkgbcokpbaaaPFnRentsAreFairx0
import Derived.Test.YthkdkgbcokpbaaaPFnRentsAreFairx1
import Derived.Test.YthkdkgbcokpbaaaPFnRentsAreFairx4
import Derived.Test.YthkdkgbcokpbaaaPFnRentsAreFairx5
import Derived.Test.YthkdkgbcokpbaaaPFnRentsAreFairx9
import Derived.Test.YthkdkgbcokpbaaaPFnRentsAreFairx10
namespace Go.Proofs.Ythkdkgbcokpbaaa.PFnRentsAreFair
open Go.RowKit Go.Proofs.YthkdkgbcokpbaaaOwn Go.Proofs.YthkdkgbcokpbaaaW.PrintWords Go.Proofs.YthkdkgbcokpbaaaW.PrintLast Go.Proofs.YthkdkgbcokpbaaaW.PrintMore
attribute [local go_sem] max2_int min2_int max_two min_two max_three min_three max_four min_four   -- for this text's walks alone
set_option linter.unusedVariables false
set_option maxHeartbeats 8000000
set_option maxRecDepth 100000
set_option linter.unusedSimpArgs false

/-! ### spec_RentEnvy: function 14 -/
def spec_RentEnvy.j0 : Nat → Int → List (List Int) → Int → List Int → Bool → Option (Int × Bool)
 | 0, _, _, _, _, _ => none
 | k + 1, x0, x1, x2, x3, x23 => if x23 = true then (some (0, false)) else ((spec_ckCosts.f k x0 x1 x2).bind fun t420 => ((spec_ckEnvy.f k t420 x3).bind fun t423 => (some (t423, true))))
def spec_RentEnvy.f (k : Nat) (a0 : Int) (l1 : List (List Int)) (a2 : Int) (l3 : List Int) : Option (Int × Bool) := (spec_mePoint.f a0 a2).bind fun t417 => (if t417 = true then ((spec_ckRooms.f k l1).bind fun t418 => (if t418 = true then ((spec_ckShares.f k l3).bind fun t419 => (spec_RentEnvy.j0 k a0 l1 a2 l3 (!t419))) else (spec_RentEnvy.j0 k a0 l1 a2 l3 true))) else (spec_RentEnvy.j0 k a0 l1 a2 l3 true))
theorem spec_RentEnvy.mono_l : ∀ k, (∀ y0 y1 y2 y3 y4, LeO (spec_RentEnvy.j0 k y0 y1 y2 y3 y4) (spec_RentEnvy.j0 (k + 1) y0 y1 y2 y3 y4))
 | 0 => fun _ _ _ _ _ r h => by simp [spec_RentEnvy.j0] at h
 | k + 1 => by
  have ih0 := spec_RentEnvy.mono_l k
  ·intro y0 y1 y2 y3 y4
   unfold spec_RentEnvy.j0
   repeat' first
   | with_reducible first | exact ih0 _ _ _ _ _ | exact spec_ckCosts.mono _ _ _ _ | exact spec_ckEnvy.mono _ _ _ | exact spec_ckRooms.mono _ _ | exact spec_ckShares.mono _ _ | exact LeO.refl _ | exact LeO.none _ | refine LeO.ite ?_ ?_ | refine LeO.bind ?_ (fun _ => ?_)
   | exact LeO.none _ | refine LeO.ite ?_ ?_ | refine LeO.bind ?_ (fun _ => ?_)
theorem spec_RentEnvy.mono : ∀ a0 a1 a2 a3 k, LeO (spec_RentEnvy.f k a0 a1 a2 a3) (spec_RentEnvy.f (k + 1) a0 a1 a2 a3) := by
 intro a0 a1 a2 a3 k
 have ih0 := spec_RentEnvy.mono_l k
 unfold spec_RentEnvy.f
 repeat' first
   | with_reducible first | exact ih0 _ _ _ _ _ | exact spec_ckCosts.mono _ _ _ _ | exact spec_ckEnvy.mono _ _ _ | exact spec_ckRooms.mono _ _ | exact spec_ckShares.mono _ _ | exact LeO.refl _ | exact LeO.none _ | refine LeO.ite ?_ ?_ | refine LeO.bind ?_ (fun _ => ?_)
   | exact LeO.none _ | refine LeO.ite ?_ ?_ | refine LeO.bind ?_ (fun _ => ?_)
theorem spec_RentEnvy.calls (k : Nat) (a0 : Int) (A1 : Option Addr) (c1 : Nat) (l1 : List (List Int)) (a2 : Int) (A3 : Option Addr) (c3 : Nat) (l3 : List Int) (r1 : Int) (r2 : Bool) (w : World) (hr1 : Kd.C (Kd.slice 3 (Kd.int .i64)) w A1 l1.length l1) (hc1 : l1.length ≤ c1) (hr3 : Kd.C (Kd.int .i64) w A3 l3.length l3) (hc3 : l3.length ≤ c3) (h : spec_RentEnvy.f k a0 l1 a2 l3 = some (r1, r2)) :
  Calls Try.prog 14 #[.int .i64 a0, .slice A1 l1.length c1, .int .i64 a2, .slice A3 l3.length c3] w fun e w' => e = .returned (.tuple #[.int .i64 r1, .bool r2]) ∧ Below w.heap.size w w' := by
 have HR1 := Aside0.mk hr1
 have HC1 := Aside0.mk hc1
 clear hr1 hc1
 have HR3 := Aside0.mk hr3
 have HC3 := Aside0.mk hc3
 clear hr3 hc3
 have HB := Aside0.mk (Below.refl w.heap.size w)
 have H : ((spec_mePoint.f a0 a2).bind fun t417 => (if t417 = true then ((spec_ckRooms.f k l1).bind fun t418 => (if t418 = true then ((spec_ckShares.f k l3).bind fun t419 => (spec_RentEnvy.j0 k a0 l1 a2 l3 (!t419))) else (spec_RentEnvy.j0 k a0 l1 a2 l3 true))) else (spec_RentEnvy.j0 k a0 l1 a2 l3 true))) = some (r1, r2) := h
 clear h
 have HC5 := Aside0.mk H
 clear H
 go_enter Try.func14, Try.ntmps14
 go_upto_region 1 with (fail)
 go_cut [23] (fun v23 wc => ∃ (kq : Nat) (x23_4 : Bool), v23 = .bool x23_4 ∧ Aside0 (spec_RentEnvy.j0 kq a0 l1 a2 l3 x23_4 = some (r1, r2)) ∧ Aside0 (kq ≤ k) ∧ Aside0 (Below w.heap.size w wc))
 case first =>
  have H := HC5.out
  clear HC5
  replace H := EA H
  obtain ⟨t417, A6, H⟩ := H
  by_cases c7 : t417 = true
  ·subst c7
   replace H := IP H
   replace H := EA H
   obtain ⟨t418, A8, H⟩ := H
   by_cases c9 : t418 = true
   ·subst c9
    replace H := IP H
    replace H := EA H
    obtain ⟨t419, A10, H⟩ := H
    have H' := Aside0.mk H
    clear H
    go_wp2_with (first | ((with_reducible refine gate_callee (f := 38) rfl ?_); refine goesL_ (some 12) rfl rfl Try.func38 (by kernel_rfl) rfl #[.int .i64 a0, .int .i64 a2] rfl TA ?_; (with_reducible refine (spec_mePoint.calls a0 a2 true _ A6.out).mono ?_); rintro e w' ⟨rfl, ⟨nd, rfl⟩⟩; refine ⟨_, rfl, ?_⟩) | (go_at_call 24; (with_reducible refine (spec_ckRooms.calls k _ _ l1 true _ ?side1 ?side2 A8.out).mono ?_); (case side1 => exact CW (Kd.C_below HR1.out BB)); (case side2 => exact HC1.out); rintro e w' ⟨rfl, ⟨nd, rfl⟩⟩) | (go_at_call 39; (with_reducible refine (spec_ckShares.calls k _ _ l3 t419 _ ?side1 ?side2 A10.out).mono ?_); (case side1 => exact CW (Kd.C_below HR3.out BB)); (case side2 => exact HC3.out); rintro e w11 ⟨rfl, hb⟩; have n0_ := Aside0.mk (below_step BB hb); clear HB; have HB := n0_; clear n0_; (try clear hb); (try clear hb2); (try clear hk); (try clear hi)))
    go_meet
    case rel => exact ⟨_, (!t419), RF, H', ⟨by first | omega | exact Nat.le_refl _⟩, ⟨BB⟩⟩
   ·replace c9 := Bool.eq_false_iff.mpr c9
    subst c9
    replace H := IN H
    have H' := Aside0.mk H
    clear H
    go_wp2_with (first | ((with_reducible refine gate_callee (f := 38) rfl ?_); refine goesL_ (some 12) rfl rfl Try.func38 (by kernel_rfl) rfl #[.int .i64 a0, .int .i64 a2] rfl TA ?_; (with_reducible refine (spec_mePoint.calls a0 a2 true _ A6.out).mono ?_); rintro e w' ⟨rfl, ⟨nd, rfl⟩⟩; refine ⟨_, rfl, ?_⟩) | (go_at_call 24; (with_reducible refine (spec_ckRooms.calls k _ _ l1 false _ ?side1 ?side2 A8.out).mono ?_); (case side1 => exact CW (Kd.C_below HR1.out BB)); (case side2 => exact HC1.out); rintro e w' ⟨rfl, ⟨nd, rfl⟩⟩))
    go_meet
    case rel => exact ⟨_, (true), RF, H', ⟨by first | omega | exact Nat.le_refl _⟩, ⟨BB⟩⟩
  ·replace c7 := Bool.eq_false_iff.mpr c7
   subst c7
   replace H := IN H
   have H' := Aside0.mk H
   clear H
   go_wp2_with (first | ((with_reducible refine gate_callee (f := 38) rfl ?_); refine goesL_ (some 12) rfl rfl Try.func38 (by kernel_rfl) rfl #[.int .i64 a0, .int .i64 a2] rfl TA ?_; (with_reducible refine (spec_mePoint.calls a0 a2 false _ A6.out).mono ?_); rintro e w' ⟨rfl, ⟨nd, rfl⟩⟩; refine ⟨_, rfl, ?_⟩))
   go_meet
   case rel => exact ⟨_, (true), RF, H', ⟨by first | omega | exact Nat.le_refl _⟩, ⟨BB⟩⟩
 case rest =>
  clear HC5
  try clear c1
  try clear p2
  try clear c3
  try clear p6
  try clear c7
  try clear c9
  obtain ⟨kq, x23_4, rfl, HA, HJ4, HB⟩ := hcut
  cases kq with
  | zero => exact absurd HA.out (by simp [spec_RentEnvy.j0])
  | succ kj4 =>
   have H := HA.out
   clear HA
   simp only [spec_RentEnvy.j0] at H
   by_cases c12 : x23_4 = true
   ·subst c12
    replace H := IP H
    simp only [Option.some.injEq, Prod.mk.injEq] at H
    obtain ⟨rfl, rfl⟩ := H
    go_wp2
    go_ret2
    exact ⟨RE, BB⟩
   ·replace c12 := Bool.eq_false_iff.mpr c12
    subst c12
    replace H := IN H
    replace H := EA H
    obtain ⟨t420, A13, H⟩ := H
    replace H := EA H
    obtain ⟨t423, A14, H⟩ := H
    simp only [Option.some.injEq, Prod.mk.injEq] at H
    obtain ⟨rfl, rfl⟩ := H
    go_wp2_with (first | ((with_reducible refine gate_callee (f := 28) rfl ?_); refine goesL_ (some 27) rfl rfl Try.func28 (by kernel_rfl) rfl #[.int .i64 a0, .slice A1 l1.length c1, .int .i64 a2] rfl TA ?_; (with_reducible refine (spec_ckCosts.calls kj4 a0 _ _ l1 a2 t420 _ ?side1 ?side2 A13.out).mono ?_); (case side1 => exact CW (Kd.C_below HR1.out HB.out)); (case side2 => exact HC1.out); rintro e w15 ⟨v421, rfl, ho0, hb⟩; refine ⟨_, rfl, ?_⟩; have n0_ := Aside0.mk (Kd.S_lower ho0 (below_size BB)); have n1_ := Aside0.mk (below_step BB hb); clear HB; have HO422 := n0_; have HB := n1_; clear n0_ n1_; (try clear hb); (try clear hb2); (try clear hk); (try clear hi); (try clear ho0); obtain ⟨Ao16, co16, eo16⟩ := Kd.S_slice HO422.out; subst eo16) | ((with_reducible refine gate_callee (f := 27) rfl ?_); refine goesL_ (some 29) rfl rfl Try.func27 (by kernel_rfl) rfl #[.slice Ao16 t420.length co16, .slice A3 l3.length c3] rfl TA ?_; (with_reducible refine (spec_ckEnvy.calls kj4 _ _ t420 _ _ l3 t423 _ ?side1 ?side2 ?side3 ?side4 A14.out).mono ?_); (case side1 => exact CW (Kd.S_reads' HO422.out).2.2); (case side2 => exact (Kd.S_reads' HO422.out).2.1); (case side3 => exact CW (Kd.C_below HR3.out HB.out)); (case side4 => exact HC3.out); rintro e w' ⟨rfl, ⟨nd, rfl⟩⟩; refine ⟨_, rfl, ?_⟩))
    go_ret2
    exact ⟨RE, BB⟩

/-! ### spec_DrawBestRooms: function 15 -/
def spec_DrawBestRooms.f (k : Nat) (l0 : List Int) : Option ((List (List Int))) := (spec_l1Cur_rooms.f k l0 0 0).bind fun bt425 => (some bt425.1)
theorem spec_DrawBestRooms.mono : ∀ a0 k, LeO (spec_DrawBestRooms.f k a0) (spec_DrawBestRooms.f (k + 1) a0) := by
 intro a0 k
 unfold spec_DrawBestRooms.f
 repeat' first
   | with_reducible first | exact spec_l1Cur_rooms.mono _ _ _ _ | exact LeO.refl _ | exact LeO.none _ | refine LeO.ite ?_ ?_ | refine LeO.bind ?_ (fun _ => ?_)
   | exact LeO.none _ | refine LeO.ite ?_ ?_ | refine LeO.bind ?_ (fun _ => ?_)
theorem spec_DrawBestRooms.calls (k : Nat) (A0 : Option Addr) (c0 : Nat) (l0 : List Int) (r : List (List Int)) (w : World) (hr0 : Kd.C (Kd.int .u8) w A0 l0.length l0) (hc0 : l0.length ≤ c0) (h : spec_DrawBestRooms.f k l0 = some r) :
  Calls Try.prog 15 #[.slice A0 l0.length c0] w fun e w' => ∃ v0_ : Value, e = .returned (v0_) ∧ Kd.S (Kd.slice 3 (Kd.int .i64)) 27 w' w.heap.size (fun _ => True) v0_ r ∧ Below w.heap.size w w' := by
 have hu42 := Try.underlying42
 have HR0 := Aside0.mk hr0
 have HC0 := Aside0.mk hc0
 clear hr0 hc0
 have HB := Aside0.mk (Below.refl w.heap.size w)
 have H : ((spec_l1Cur_rooms.f k l0 0 0).bind fun bt425 => (some bt425.1)) = some r := h
 clear h
 replace H := EA H
 obtain ⟨⟨t425, t428, t429⟩, A2, H⟩ := H
 try dsimp only at H
 obtain rfl := Option.some.inj H
 go_enter Try.func15, Try.ntmps15
 go_wp2_with (first | ((with_reducible refine gate_dst (N := 6) rfl ?_); refine box_event ?hg (N := 6) ?hd (cs := #[.slice A0 l0.length c0, .int .i64 0, .int .u64 0]) (t := 42) ?hr ?_; (case hd => rfl); (case hg => rfl); (case hr => exact GS); intro gb424 hg w3 hbox hb; have n0_ := Aside0.mk (below_step BB hb); have n1_ := Aside0.mk ((by rw [hg]; exact (below_size BB) : w.heap.size ≤ gb424)); have n2_ := Aside0.mk ((by rw [hg]; exact (below_size BB) : w.heap.size ≤ gb424)); have n3_ := Aside0.mk ((show IsS42 w w3 gb424 l0 0 0 from ⟨A0, c0, hbox, (by rw [hg]; exact (below_size BB) : w.heap.size ≤ gb424), HR0.out⟩)); clear HB; have HB := n0_; have GW424 := n1_; have GE424 := n2_; have HI424 := n3_; clear n0_ n1_ n2_ n3_; clear hb hbox hg) | ((with_reducible refine gate_callee (f := 17) rfl ?_); refine goesL_ (some 8) rfl rfl Try.func17 (by kernel_rfl) rfl #[.pointer (some ⟨gb424, 0, none⟩)] rfl TA ?_; (with_reducible refine (spec_l1Cur_rooms.calls k gb424 l0 0 0 t425 t428 t429 w _ ?side1 ?side2 A2.out).mono ?_); (case side1 => repeat (first | (with_reducible first | exact HI424.out | apply IsS42.alloc | apply IsS42.drewN | apply IsS42.drew | apply IsS42.set_1 | apply IsS42.set_2) | exact HI424.out)); (case side2 => repeat (first | (with_reducible first | exact HB.out | apply below_alloc | apply pw_below_drewN | apply below_drew1 | refine below_set ?_ (IsS42.ge HI424.out)) | exact HB.out)); rintro e w4 ⟨v426, rfl, ho0, hi, hb, hk⟩; refine ⟨_, rfl, ?_⟩; have n0_ := Aside0.mk (Kd.S_lower ho0 (below_size (by repeat (first | (with_reducible first | exact HB.out | apply below_alloc | apply pw_below_drewN | apply below_drew1 | refine below_set ?_ (IsS42.ge HI424.out)) | exact HB.out)))); have n1_ := Aside0.mk (hb); have n2_ := Aside0.mk (hi); clear HB; clear HI424; have HO427 := n0_; have HB := n1_; have HI424 := n2_; clear n0_ n1_ n2_; (try clear hb); (try clear hb2); (try clear hk); (try clear hi); (try clear ho0)))
 go_ret
 exact ⟨_, RE, KS HO427, by repeat (first | (with_reducible first | exact HB.out | apply below_alloc | apply pw_below_drewN | apply below_drew1 | refine below_set ?_ (IsS42.ge HI424.out)) | exact HB.out)⟩

end Go.Proofs.Ythkdkgbcokpbaaa.PFnRentsAreFair
