-- Written by a program of this session (wip/tools/pp.sh) out of the translation; Lean checks it.
import Derived.Test.YtafjjbkkcedgnaaDoorPFnHalfWindowsx0
import Derived.Test.YtafjjbkkcedgnaaDoorPFnHalfWindowsx1
namespace Go.Proofs.YtafjjbkkcedgnaaDoor.PFnHalfWindows
open Go.RowKit Go.Proofs.YtafjjbkkcedgnaaDoorOwn Go.Proofs.YtafjjbkkcedgnaaDoorW.PrintWords Go.Proofs.YtafjjbkkcedgnaaDoorW.PrintLast Go.Proofs.YtafjjbkkcedgnaaDoorW.PrintMore
attribute [local go_sem] max2_int min2_int max_two min_two max_three min_three max_four min_four   -- for this text's walks alone
set_option linter.unusedVariables false
set_option maxHeartbeats 8000000
set_option maxRecDepth 100000
set_option linter.unusedSimpArgs false

/-! ### spec_l1Cur_sureBeads: function 71 -/
mutual
def spec_l1Cur_sureBeads.l0 : Nat → Bool → Int → ByteArray → Int → List Int → Int → Int → Option (ByteArray × Int × Int)
 | 0, _, _, _, _, _, _, _ => none
 | k + 1, x2, x7, x8, x9, x1000, x1001, x1002 => if x9 > 0 then ((spec_l1Cur_pick.f x1000 x1001 x1002 x7).bind fun bt129 => (spec_l1Cur_sureBeads.l1 k x2 x7 x8 x9 bt129.1 0 x1000 bt129.2.1 bt129.2.2)) else (some (x8, x1001, x1002))
def spec_l1Cur_sureBeads.l1 : Nat → Bool → Int → ByteArray → Int → Int → Int → List Int → Int → Int → Option (ByteArray × Int × Int)
 | 0, _, _, _, _, _, _, _, _, _ => none
 | k + 1, x2, x7, x8, x9, x10, x11, x1000, x1001, x1002 => if x11 < 2 then (if x2 = true then ((spec_l1Cur_pick.f x1000 x1001 x1002 (wrap64 ((x8.size : Int) + 1))).bind fun bt132 => (if 0 ≤ bt132.1 then (if bt132.1 ≤ (x8.size : Int) then (if 0 ≤ x10 then (if x10 ≤ (wrap64 (x10 + 1)) then (if (wrap64 (x10 + 1)) ≤ 4 then (if (x8.extract 0 (bt132.1 : Int).toNat).size + ((⟨#[97, 98, 99, 100]⟩ : ByteArray).extract (x10 : Int).toNat ((wrap64 (x10 + 1)) : Int).toNat).size ≤ 9223372036854775807 then (if ((x8.extract 0 (bt132.1 : Int).toNat) ++ ((⟨#[97, 98, 99, 100]⟩ : ByteArray).extract (x10 : Int).toNat ((wrap64 (x10 + 1)) : Int).toNat)).size + (x8.extract (bt132.1 : Int).toNat x8.size).size ≤ 9223372036854775807 then (spec_l1Cur_sureBeads.l1 k x2 x7 (((x8.extract 0 (bt132.1 : Int).toNat) ++ ((⟨#[97, 98, 99, 100]⟩ : ByteArray).extract (x10 : Int).toNat ((wrap64 (x10 + 1)) : Int).toNat)) ++ (x8.extract (bt132.1 : Int).toNat x8.size)) x9 x10 (wrap64 (x11 + 1)) x1000 bt132.2.1 bt132.2.2) else (none)) else (none)) else (none)) else (none)) else (none)) else (none)) else (none))) else ((spec_l1Cur_pick.f x1000 x1001 x1002 x7).bind fun bt135 => ((spec_l1Cur_pick.f x1000 bt135.2.1 bt135.2.2 (wrap64 ((x8.size : Int) + 1))).bind fun bt138 => (if 0 ≤ bt138.1 then (if bt138.1 ≤ (x8.size : Int) then (if 0 ≤ bt135.1 then (if bt135.1 ≤ (wrap64 (bt135.1 + 1)) then (if (wrap64 (bt135.1 + 1)) ≤ 4 then (if (x8.extract 0 (bt138.1 : Int).toNat).size + ((⟨#[97, 98, 99, 100]⟩ : ByteArray).extract (bt135.1 : Int).toNat ((wrap64 (bt135.1 + 1)) : Int).toNat).size ≤ 9223372036854775807 then (if ((x8.extract 0 (bt138.1 : Int).toNat) ++ ((⟨#[97, 98, 99, 100]⟩ : ByteArray).extract (bt135.1 : Int).toNat ((wrap64 (bt135.1 + 1)) : Int).toNat)).size + (x8.extract (bt138.1 : Int).toNat x8.size).size ≤ 9223372036854775807 then (spec_l1Cur_sureBeads.l1 k x2 x7 (((x8.extract 0 (bt138.1 : Int).toNat) ++ ((⟨#[97, 98, 99, 100]⟩ : ByteArray).extract (bt135.1 : Int).toNat ((wrap64 (bt135.1 + 1)) : Int).toNat)) ++ (x8.extract (bt138.1 : Int).toNat x8.size)) x9 bt135.1 (wrap64 (x11 + 1)) x1000 bt138.2.1 bt138.2.2) else (none)) else (none)) else (none)) else (none)) else (none)) else (none)) else (none))))) else (spec_l1Cur_sureBeads.l0 k x2 x7 x8 (wrap64 (x9 - 1)) x1000 x1001 x1002)
end
def spec_l1Cur_sureBeads.f (k : Nat) (s0_0 : List Int) (s0_1 : Int) (s0_2 : Int) (a1 : Int) (a2 : Bool) : Option (ByteArray × Int × Int) := (spec_l1Cur_pick.f s0_0 s0_1 s0_2 4).bind fun bt123 => ((spec_l1Cur_pick.f s0_0 bt123.2.1 bt123.2.2 (wrap64 ((wrap64 (Int.tdiv a1 2)) + 1))).bind fun bt126 => (spec_l1Cur_sureBeads.l0 k a2 (wrap64 (1 + bt123.1)) (⟨#[]⟩ : ByteArray) bt126.1 s0_0 bt126.2.1 bt126.2.2))
theorem spec_l1Cur_sureBeads.mono_l : ∀ k, (∀ y0 y1 y2 y3 y4 y5 y6, LeO (spec_l1Cur_sureBeads.l0 k y0 y1 y2 y3 y4 y5 y6) (spec_l1Cur_sureBeads.l0 (k + 1) y0 y1 y2 y3 y4 y5 y6)) ∧ (∀ y0 y1 y2 y3 y4 y5 y6 y7 y8, LeO (spec_l1Cur_sureBeads.l1 k y0 y1 y2 y3 y4 y5 y6 y7 y8) (spec_l1Cur_sureBeads.l1 (k + 1) y0 y1 y2 y3 y4 y5 y6 y7 y8))
 | 0 => ⟨fun _ _ _ _ _ _ _ r h => by simp [spec_l1Cur_sureBeads.l0] at h, fun _ _ _ _ _ _ _ _ _ r h => by simp [spec_l1Cur_sureBeads.l1] at h⟩
 | k + 1 => by
  obtain ⟨ih0, ih1⟩ := spec_l1Cur_sureBeads.mono_l k
  refine ⟨?_, ?_⟩
  ·intro y0 y1 y2 y3 y4 y5 y6
   unfold spec_l1Cur_sureBeads.l0
   repeat' first
   | with_reducible first | exact ih0 _ _ _ _ _ _ _ | exact ih1 _ _ _ _ _ _ _ _ _ | exact LeO.refl _ | exact LeO.none _ | refine LeO.ite ?_ ?_ | refine LeO.bind ?_ (fun _ => ?_)
   | exact LeO.none _ | refine LeO.ite ?_ ?_ | refine LeO.bind ?_ (fun _ => ?_)
  ·intro y0 y1 y2 y3 y4 y5 y6 y7 y8
   unfold spec_l1Cur_sureBeads.l1
   repeat' first
   | with_reducible first | exact ih0 _ _ _ _ _ _ _ | exact ih1 _ _ _ _ _ _ _ _ _ | exact LeO.refl _ | exact LeO.none _ | refine LeO.ite ?_ ?_ | refine LeO.bind ?_ (fun _ => ?_)
   | exact LeO.none _ | refine LeO.ite ?_ ?_ | refine LeO.bind ?_ (fun _ => ?_)
theorem spec_l1Cur_sureBeads.mono : ∀ a0 a1 a2 a3 a4 k, LeO (spec_l1Cur_sureBeads.f k a0 a1 a2 a3 a4) (spec_l1Cur_sureBeads.f (k + 1) a0 a1 a2 a3 a4) := by
 intro a0 a1 a2 a3 a4 k
 obtain ⟨ih0, ih1⟩ := spec_l1Cur_sureBeads.mono_l k
 unfold spec_l1Cur_sureBeads.f
 repeat' first
   | with_reducible first | exact ih0 _ _ _ _ _ _ _ | exact ih1 _ _ _ _ _ _ _ _ _ | exact LeO.refl _ | exact LeO.none _ | refine LeO.ite ?_ ?_ | refine LeO.bind ?_ (fun _ => ?_)
   | exact LeO.none _ | refine LeO.ite ?_ ?_ | refine LeO.bind ?_ (fun _ => ?_)
theorem spec_l1Cur_sureBeads.calls (k : Nat) (g : Nat) (s0_0 : List Int) (s0_1 : Int) (s0_2 : Int) (a1 : Int) (a2 : Bool) (r1 : ByteArray) (r2 : Int) (r3 : Int) (w0 w : World) (hI : IsS51 w0 w g s0_0 s0_1 s0_2) (hB : Below w0.heap.size w0 w) (h : spec_l1Cur_sureBeads.f k s0_0 s0_1 s0_2 a1 a2 = some (r1, r2, r3)) :
  Calls Tryd.prog 71 #[.pointer (some ⟨g, 0, none⟩), .int .i64 a1, .bool a2] w fun e w' => e = .returned (.string r1) ∧ IsS51 w0 w' g s0_0 r2 r3 ∧ Below w0.heap.size w0 w' ∧ KeepBut w w' g none := by
 have HI0 := Aside0.mk hI
 have HK := Aside0.mk (KeepBut.refl w g none)
 have HL := Aside0.mk hB.size
 clear hI
 have HW0 := Aside0.mk hB.size
 have HB := Aside0.mk hB
 clear hB
 have H : ((spec_l1Cur_pick.f s0_0 s0_1 s0_2 4).bind fun bt123 => ((spec_l1Cur_pick.f s0_0 bt123.2.1 bt123.2.2 (wrap64 ((wrap64 (Int.tdiv a1 2)) + 1))).bind fun bt126 => (spec_l1Cur_sureBeads.l0 k a2 (wrap64 (1 + bt123.1)) (⟨#[]⟩ : ByteArray) bt126.1 s0_0 bt126.2.1 bt126.2.2))) = some (r1, r2, r3) := h
 clear h
 obtain ⟨⟨t123, t124, t125⟩, A40, H⟩ := Option.bind_eq_some_iff.mp H
 replace H : ((spec_l1Cur_pick.f s0_0 t124 t125 (wrap64 ((wrap64 (Int.tdiv a1 2)) + 1))).bind fun bt126 => (spec_l1Cur_sureBeads.l0 k a2 (wrap64 (1 + t123)) (⟨#[]⟩ : ByteArray) bt126.1 s0_0 bt126.2.1 bt126.2.2)) = some (r1, r2, r3) := H
 have A4 := Aside0.mk A40
 clear A40
 obtain ⟨⟨t126, t127, t128⟩, A50, H⟩ := Option.bind_eq_some_iff.mp H
 replace H : (spec_l1Cur_sureBeads.l0 k a2 (wrap64 (1 + t123)) (⟨#[]⟩ : ByteArray) t126 s0_0 t127 t128) = some (r1, r2, r3) := H
 have A5 := Aside0.mk A50
 clear A50
 have H' := Aside0.mk H
 clear H
 go_enter Tryd.func71, Tryd.ntmps71
 go_wp2_with (first | (go_at_call 45; (with_reducible refine (spec_l1Cur_pick.calls g s0_0 s0_1 s0_2 4 t123 t124 t125 w0 _ ?side1 ?side2 A4.out).mono ?_); (case side1 => repeat (first | (with_reducible first | exact HI0.out | apply IsS51.alloc | apply IsS51.drewN | apply IsS51.drew | apply IsS51.set_1 | apply IsS51.set_2) | exact HI0.out)); (case side2 => repeat (first | (with_reducible first | exact HB.out | apply below_alloc | apply pw_below_drewN | apply below_drew1 | refine below_set ?_ (IsS51.ge HI0.out)) | exact HB.out)); rintro e w6 ⟨rfl, hi, hb, hk⟩; have n0_ := Aside0.mk (KeepBut.trans (by repeat (first | (with_reducible first | exact HK.out | apply KeepBut.set_ | apply keep_drewN | apply keep_drew | apply keep_alloc) | exact HK.out)) hk (.inl rfl)); have n1_ := Aside0.mk (hb); have n2_ := Aside0.mk (hi); clear HK; clear HB; clear HI0; have HK := n0_; have HB := n1_; have HI0 := n2_; clear n0_ n1_ n2_; (try clear hb); (try clear hb2); (try clear hk); (try clear hi)) | (go_at_call 45; (with_reducible refine (spec_l1Cur_pick.calls g s0_0 t124 t125 (wrap64 ((wrap64 (Int.tdiv a1 2)) + 1)) t126 t127 t128 w0 _ ?side1 ?side2 A5.out).mono ?_); (case side1 => repeat (first | (with_reducible first | exact HI0.out | apply IsS51.alloc | apply IsS51.drewN | apply IsS51.drew | apply IsS51.set_1 | apply IsS51.set_2) | exact HI0.out)); (case side2 => repeat (first | (with_reducible first | exact HB.out | apply below_alloc | apply pw_below_drewN | apply below_drew1 | refine below_set ?_ (IsS51.ge HI0.out)) | exact HB.out)); rintro e w7 ⟨rfl, hi, hb, hk⟩; have n0_ := Aside0.mk (KeepBut.trans (by repeat (first | (with_reducible first | exact HK.out | apply KeepBut.set_ | apply keep_drewN | apply keep_drew | apply keep_alloc) | exact HK.out)) hk (.inl rfl)); have n1_ := Aside0.mk (hb); have n2_ := Aside0.mk (hi); clear HK; clear HB; clear HI0; have HK := n0_; have HB := n1_; have HI0 := n2_; clear n0_ n1_ n2_; (try clear hb); (try clear hb2); (try clear hk); (try clear hi)))
 repeat (go_quiet (first | (go_at_call 45; (with_reducible refine (spec_l1Cur_pick.calls g s0_0 s0_1 s0_2 4 t123 t124 t125 w0 _ ?side1 ?side2 A4.out).mono ?_); (case side1 => repeat (first | (with_reducible first | exact HI0.out | apply IsS51.alloc | apply IsS51.drewN | apply IsS51.drew | apply IsS51.set_1 | apply IsS51.set_2) | exact HI0.out)); (case side2 => repeat (first | (with_reducible first | exact HB.out | apply below_alloc | apply pw_below_drewN | apply below_drew1 | refine below_set ?_ (IsS51.ge HI0.out)) | exact HB.out)); rintro e w6 ⟨rfl, hi, hb, hk⟩; have n0_ := Aside0.mk (KeepBut.trans (by repeat (first | (with_reducible first | exact HK.out | apply KeepBut.set_ | apply keep_drewN | apply keep_drew | apply keep_alloc) | exact HK.out)) hk (.inl rfl)); have n1_ := Aside0.mk (hb); have n2_ := Aside0.mk (hi); clear HK; clear HB; clear HI0; have HK := n0_; have HB := n1_; have HI0 := n2_; clear n0_ n1_ n2_; (try clear hb); (try clear hb2); (try clear hk); (try clear hi)) | (go_at_call 45; (with_reducible refine (spec_l1Cur_pick.calls g s0_0 t124 t125 (wrap64 ((wrap64 (Int.tdiv a1 2)) + 1)) t126 t127 t128 w0 _ ?side1 ?side2 A5.out).mono ?_); (case side1 => repeat (first | (with_reducible first | exact HI0.out | apply IsS51.alloc | apply IsS51.drewN | apply IsS51.drew | apply IsS51.set_1 | apply IsS51.set_2) | exact HI0.out)); (case side2 => repeat (first | (with_reducible first | exact HB.out | apply below_alloc | apply pw_below_drewN | apply below_drew1 | refine below_set ?_ (IsS51.ge HI0.out)) | exact HB.out)); rintro e w7 ⟨rfl, hi, hb, hk⟩; have n0_ := Aside0.mk (KeepBut.trans (by repeat (first | (with_reducible first | exact HK.out | apply KeepBut.set_ | apply keep_drewN | apply keep_drew | apply keep_alloc) | exact HK.out)) hk (.inl rfl)); have n1_ := Aside0.mk (hb); have n2_ := Aside0.mk (hi); clear HK; clear HB; clear HI0; have HK := n0_; have HB := n1_; have HI0 := n2_; clear n0_ n1_ n2_; (try clear hb); (try clear hb2); (try clear hk); (try clear hi))); try go_wp2_with (first | (go_at_call 45; (with_reducible refine (spec_l1Cur_pick.calls g s0_0 s0_1 s0_2 4 t123 t124 t125 w0 _ ?side1 ?side2 A4.out).mono ?_); (case side1 => repeat (first | (with_reducible first | exact HI0.out | apply IsS51.alloc | apply IsS51.drewN | apply IsS51.drew | apply IsS51.set_1 | apply IsS51.set_2) | exact HI0.out)); (case side2 => repeat (first | (with_reducible first | exact HB.out | apply below_alloc | apply pw_below_drewN | apply below_drew1 | refine below_set ?_ (IsS51.ge HI0.out)) | exact HB.out)); rintro e w6 ⟨rfl, hi, hb, hk⟩; have n0_ := Aside0.mk (KeepBut.trans (by repeat (first | (with_reducible first | exact HK.out | apply KeepBut.set_ | apply keep_drewN | apply keep_drew | apply keep_alloc) | exact HK.out)) hk (.inl rfl)); have n1_ := Aside0.mk (hb); have n2_ := Aside0.mk (hi); clear HK; clear HB; clear HI0; have HK := n0_; have HB := n1_; have HI0 := n2_; clear n0_ n1_ n2_; (try clear hb); (try clear hb2); (try clear hk); (try clear hi)) | (go_at_call 45; (with_reducible refine (spec_l1Cur_pick.calls g s0_0 t124 t125 (wrap64 ((wrap64 (Int.tdiv a1 2)) + 1)) t126 t127 t128 w0 _ ?side1 ?side2 A5.out).mono ?_); (case side1 => repeat (first | (with_reducible first | exact HI0.out | apply IsS51.alloc | apply IsS51.drewN | apply IsS51.drew | apply IsS51.set_1 | apply IsS51.set_2) | exact HI0.out)); (case side2 => repeat (first | (with_reducible first | exact HB.out | apply below_alloc | apply pw_below_drewN | apply below_drew1 | refine below_set ?_ (IsS51.ge HI0.out)) | exact HB.out)); rintro e w7 ⟨rfl, hi, hb, hk⟩; have n0_ := Aside0.mk (KeepBut.trans (by repeat (first | (with_reducible first | exact HK.out | apply KeepBut.set_ | apply keep_drewN | apply keep_drew | apply keep_alloc) | exact HK.out)) hk (.inl rfl)); have n1_ := Aside0.mk (hb); have n2_ := Aside0.mk (hi); clear HK; clear HB; clear HI0; have HK := n0_; have HB := n1_; have HI0 := n2_; clear n0_ n1_ n2_; (try clear hb); (try clear hb2); (try clear hk); (try clear hi))))
 go_loopg [8, 9] k (fun kq v8 v9 w' => ∃ (x8_1 : ByteArray) (x9_1 : Int) (x1001_1 : Int) (x1002_1 : Int), v8 = .string x8_1 ∧ v9 = .int .i64 x9_1 ∧ Aside0 (spec_l1Cur_sureBeads.l0 kq a2 (wrap64 (1 + t123)) x8_1 x9_1 s0_0 x1001_1 x1002_1 = some (r1, r2, r3)) ∧ Aside0 (kq ≤ k) ∧ Aside0 (IsS51 w0 w' g s0_0 x1001_1 x1002_1) ∧ Aside0 (KeepBut w w' g none) ∧ Aside0 (Below w0.heap.size w0 w'))
 case atStart => exact ⟨((⟨#[]⟩ : ByteArray)), (t126), (t127), (t128), RF, RF, H', ⟨Nat.le_refl _⟩, ⟨by repeat (first | (with_reducible first | exact HI0.out | apply IsS51.alloc | apply IsS51.drewN | apply IsS51.drew | apply IsS51.set_1 | apply IsS51.set_2) | exact HI0.out)⟩, ⟨by repeat (first | (with_reducible first | exact HK.out | apply KeepBut.set_ | apply keep_drewN | apply keep_drew | apply keep_alloc) | exact HK.out)⟩, ⟨by repeat (first | (with_reducible first | exact HB.out | apply below_alloc | apply pw_below_drewN | apply below_drew1 | refine below_set ?_ (IsS51.ge HI0.out)) | exact HB.out)⟩⟩
 case round =>
  clear H'
  try clear p2
  try clear p6
  try clear c7
  obtain ⟨x8_1, x9_1, x1001_1, x1002_1, rfl, rfl, HA, HK1, HI0, HK, HB⟩ := hrel
  cases gk with
  | zero => exact absurd HA.out (by simp [spec_l1Cur_sureBeads.l0])
  | succ k1 =>
   have H := HA.out
   clear HA
   simp only [spec_l1Cur_sureBeads.l0] at H
   by_cases c8 : x9_1 > 0
   ·rw [if_pos c8] at H
    have c8b0 : decide (0 < x9_1) = true := decide_eq_true c8
    clear c8
    obtain ⟨⟨t129, t130, t131⟩, A90, H⟩ := Option.bind_eq_some_iff.mp H
    replace H : (spec_l1Cur_sureBeads.l1 k1 a2 (wrap64 (1 + t123)) x8_1 x9_1 t129 0 s0_0 t130 t131) = some (r1, r2, r3) := H
    have A9 := Aside0.mk A90
    clear A90
    have H' := Aside0.mk H
    clear H
    go_wp2_with (first | (go_at_call 45; (with_reducible refine (spec_l1Cur_pick.calls g s0_0 x1001_1 x1002_1 (wrap64 (1 + t123)) t129 t130 t131 w0 _ ?side1 ?side2 A9.out).mono ?_); (case side1 => repeat (first | (with_reducible first | exact HI0.out | apply IsS51.alloc | apply IsS51.drewN | apply IsS51.drew | apply IsS51.set_1 | apply IsS51.set_2) | exact HI0.out)); (case side2 => repeat (first | (with_reducible first | exact HB.out | apply below_alloc | apply pw_below_drewN | apply below_drew1 | refine below_set ?_ (IsS51.ge HI0.out)) | exact HB.out)); rintro e w10 ⟨rfl, hi, hb, hk⟩; have n0_ := Aside0.mk (KeepBut.trans (by repeat (first | (with_reducible first | exact HK.out | apply KeepBut.set_ | apply keep_drewN | apply keep_drew | apply keep_alloc) | exact HK.out)) hk (.inl rfl)); have n1_ := Aside0.mk (hb); have n2_ := Aside0.mk (hi); clear HK; clear HB; clear HI0; have HK := n0_; have HB := n1_; have HI0 := n2_; clear n0_ n1_ n2_; (try clear hb); (try clear hb2); (try clear hk); (try clear hi)))
    repeat (go_quiet (first | (go_at_call 45; (with_reducible refine (spec_l1Cur_pick.calls g s0_0 x1001_1 x1002_1 (wrap64 (1 + t123)) t129 t130 t131 w0 _ ?side1 ?side2 A9.out).mono ?_); (case side1 => repeat (first | (with_reducible first | exact HI0.out | apply IsS51.alloc | apply IsS51.drewN | apply IsS51.drew | apply IsS51.set_1 | apply IsS51.set_2) | exact HI0.out)); (case side2 => repeat (first | (with_reducible first | exact HB.out | apply below_alloc | apply pw_below_drewN | apply below_drew1 | refine below_set ?_ (IsS51.ge HI0.out)) | exact HB.out)); rintro e w10 ⟨rfl, hi, hb, hk⟩; have n0_ := Aside0.mk (KeepBut.trans (by repeat (first | (with_reducible first | exact HK.out | apply KeepBut.set_ | apply keep_drewN | apply keep_drew | apply keep_alloc) | exact HK.out)) hk (.inl rfl)); have n1_ := Aside0.mk (hb); have n2_ := Aside0.mk (hi); clear HK; clear HB; clear HI0; have HK := n0_; have HB := n1_; have HI0 := n2_; clear n0_ n1_ n2_; (try clear hb); (try clear hb2); (try clear hk); (try clear hi))); try go_wp2_with (first | (go_at_call 45; (with_reducible refine (spec_l1Cur_pick.calls g s0_0 x1001_1 x1002_1 (wrap64 (1 + t123)) t129 t130 t131 w0 _ ?side1 ?side2 A9.out).mono ?_); (case side1 => repeat (first | (with_reducible first | exact HI0.out | apply IsS51.alloc | apply IsS51.drewN | apply IsS51.drew | apply IsS51.set_1 | apply IsS51.set_2) | exact HI0.out)); (case side2 => repeat (first | (with_reducible first | exact HB.out | apply below_alloc | apply pw_below_drewN | apply below_drew1 | refine below_set ?_ (IsS51.ge HI0.out)) | exact HB.out)); rintro e w10 ⟨rfl, hi, hb, hk⟩; have n0_ := Aside0.mk (KeepBut.trans (by repeat (first | (with_reducible first | exact HK.out | apply KeepBut.set_ | apply keep_drewN | apply keep_drew | apply keep_alloc) | exact HK.out)) hk (.inl rfl)); have n1_ := Aside0.mk (hb); have n2_ := Aside0.mk (hi); clear HK; clear HB; clear HI0; have HK := n0_; have HB := n1_; have HI0 := n2_; clear n0_ n1_ n2_; (try clear hb); (try clear hb2); (try clear hk); (try clear hi))))
    go_loopg [8, 10, 11] k1 (fun kq v8 v10 v11 w' => ∃ (x8_2 : ByteArray) (x10_2 : Int) (x11_2 : Int) (x1001_2 : Int) (x1002_2 : Int), v8 = .string x8_2 ∧ v10 = .int .i64 x10_2 ∧ v11 = .int .i64 x11_2 ∧ Aside0 (spec_l1Cur_sureBeads.l1 kq a2 (wrap64 (1 + t123)) x8_2 x9_1 x10_2 x11_2 s0_0 x1001_2 x1002_2 = some (r1, r2, r3)) ∧ Aside0 (kq ≤ k1) ∧ Aside0 (IsS51 w0 w' g s0_0 x1001_2 x1002_2) ∧ Aside0 (KeepBut w w' g none) ∧ Aside0 (Below w0.heap.size w0 w'))
    case atStart => exact ⟨(x8_1), (t129), (0), (t130), (t131), RF, RF, RF, H', ⟨Nat.le_refl _⟩, ⟨by repeat (first | (with_reducible first | exact HI0.out | apply IsS51.alloc | apply IsS51.drewN | apply IsS51.drew | apply IsS51.set_1 | apply IsS51.set_2) | exact HI0.out)⟩, ⟨by repeat (first | (with_reducible first | exact HK.out | apply KeepBut.set_ | apply keep_drewN | apply keep_drew | apply keep_alloc) | exact HK.out)⟩, ⟨by repeat (first | (with_reducible first | exact HB.out | apply below_alloc | apply pw_below_drewN | apply below_drew1 | refine below_set ?_ (IsS51.ge HI0.out)) | exact HB.out)⟩⟩
    case round =>
     clear H'
     try clear p2
     try clear p6
     try clear c7
     try clear c8
     try clear c8b0
     try clear p2
     try clear p6
     obtain ⟨x8_2, x10_2, x11_2, x1001_2, x1002_2, rfl, rfl, rfl, HA, HK2, HI0, HK, HB⟩ := hrel
     cases gk with
     | zero => exact absurd HA.out (by simp [spec_l1Cur_sureBeads.l1])
     | succ k2 =>
      have H := HA.out
      clear HA
      simp only [spec_l1Cur_sureBeads.l1] at H
      by_cases c11 : x11_2 < 2
      ·rw [if_pos c11] at H
       have c11b0 : decide (x11_2 < 2) = true := decide_eq_true c11
       clear c11
       by_cases c12 : a2 = true
       ·subst c12
        replace H := IP H
        obtain ⟨⟨t132, t133, t134⟩, A130, H⟩ := Option.bind_eq_some_iff.mp H
        replace H : (if 0 ≤ t132 then (if t132 ≤ (x8_2.size : Int) then (if 0 ≤ x10_2 then (if x10_2 ≤ (wrap64 (x10_2 + 1)) then (if (wrap64 (x10_2 + 1)) ≤ 4 then (if (x8_2.extract 0 (t132 : Int).toNat).size + ((⟨#[97, 98, 99, 100]⟩ : ByteArray).extract (x10_2 : Int).toNat ((wrap64 (x10_2 + 1)) : Int).toNat).size ≤ 9223372036854775807 then (if ((x8_2.extract 0 (t132 : Int).toNat) ++ ((⟨#[97, 98, 99, 100]⟩ : ByteArray).extract (x10_2 : Int).toNat ((wrap64 (x10_2 + 1)) : Int).toNat)).size + (x8_2.extract (t132 : Int).toNat x8_2.size).size ≤ 9223372036854775807 then (spec_l1Cur_sureBeads.l1 k2 true (wrap64 (1 + t123)) (((x8_2.extract 0 (t132 : Int).toNat) ++ ((⟨#[97, 98, 99, 100]⟩ : ByteArray).extract (x10_2 : Int).toNat ((wrap64 (x10_2 + 1)) : Int).toNat)) ++ (x8_2.extract (t132 : Int).toNat x8_2.size)) x9_1 x10_2 (wrap64 (x11_2 + 1)) s0_0 t133 t134) else (none)) else (none)) else (none)) else (none)) else (none)) else (none)) else (none)) = some (r1, r2, r3) := H
        have A13 := Aside0.mk A130
        clear A130
        by_cases c14 : 0 ≤ t132
        ·rw [if_pos c14] at H
         have c14b0 := eq_true c14
         have c14b1 : decide (0 ≤ t132) = true := decide_eq_true c14
         clear c14
         by_cases c15 : t132 ≤ (x8_2.size : Int)
         ·rw [if_pos c15] at H
          have c15b0 := eq_true c15
          have c15b1 : decide (t132 ≤ (x8_2.size : Int)) = true := decide_eq_true c15
          clear c15
          by_cases c16 : 0 ≤ x10_2
          ·rw [if_pos c16] at H
           have c16b0 := eq_true c16
           have c16b1 : decide (0 ≤ x10_2) = true := decide_eq_true c16
           clear c16
           by_cases c17 : x10_2 ≤ (wrap64 (x10_2 + 1))
           ·rw [if_pos c17] at H
            have c17b0 := eq_true c17
            have c17b1 : decide (x10_2 ≤ (wrap64 (x10_2 + 1))) = true := decide_eq_true c17
            by_cases c18 : (wrap64 (x10_2 + 1)) ≤ 4
            ·rw [if_pos c18] at H
             have c18b0 := eq_true c18
             have c18b1 : decide ((wrap64 (x10_2 + 1)) ≤ 4) = true := decide_eq_true c18
             by_cases c19 : (x8_2.extract 0 (t132 : Int).toNat).size + ((⟨#[97, 98, 99, 100]⟩ : ByteArray).extract (x10_2 : Int).toNat ((wrap64 (x10_2 + 1)) : Int).toNat).size ≤ 9223372036854775807
             ·rw [if_pos c19] at H
              have c19b0 := eq_true c19
              have c19b1 : decide ((x8_2.extract 0 (t132 : Int).toNat).size + ((⟨#[97, 98, 99, 100]⟩ : ByteArray).extract (x10_2 : Int).toNat ((wrap64 (x10_2 + 1)) : Int).toNat).size ≤ 9223372036854775807) = true := decide_eq_true c19
              try have c19b2 : (9223372036854775807 < (x8_2.extract 0 (t132 : Int).toNat).size + ((⟨#[97, 98, 99, 100]⟩ : ByteArray).extract (x10_2 : Int).toNat ((wrap64 (x10_2 + 1)) : Int).toNat).size) = False := eq_false (Nat.not_lt.2 c19)
              have c20b0 := eq_true (of_decide_eq_true AS : 0 ≤ t132)
              have c21b0 := eq_true (of_decide_eq_true AS : t132 ≤ (x8_2.size : Int))
              by_cases c22 : ((x8_2.extract 0 (t132 : Int).toNat) ++ ((⟨#[97, 98, 99, 100]⟩ : ByteArray).extract (x10_2 : Int).toNat ((wrap64 (x10_2 + 1)) : Int).toNat)).size + (x8_2.extract (t132 : Int).toNat x8_2.size).size ≤ 9223372036854775807
              ·rw [if_pos c22] at H
               have c22b0 := eq_true c22
               have c22b1 : decide (((x8_2.extract 0 (t132 : Int).toNat) ++ ((⟨#[97, 98, 99, 100]⟩ : ByteArray).extract (x10_2 : Int).toNat ((wrap64 (x10_2 + 1)) : Int).toNat)).size + (x8_2.extract (t132 : Int).toNat x8_2.size).size ≤ 9223372036854775807) = true := decide_eq_true c22
               try have c22b2 : (9223372036854775807 < ((x8_2.extract 0 (t132 : Int).toNat) ++ ((⟨#[97, 98, 99, 100]⟩ : ByteArray).extract (x10_2 : Int).toNat ((wrap64 (x10_2 + 1)) : Int).toNat)).size + (x8_2.extract (t132 : Int).toNat x8_2.size).size) = False := eq_false (Nat.not_lt.2 c22)
               have H' := Aside0.mk H
               clear H
               go_wp2_with (first | (go_at_call 45; (with_reducible refine (spec_l1Cur_pick.calls g s0_0 x1001_2 x1002_2 (wrap64 ((x8_2.size : Int) + 1)) t132 t133 t134 w0 _ ?side1 ?side2 A13.out).mono ?_); (case side1 => repeat (first | (with_reducible first | exact HI0.out | apply IsS51.alloc | apply IsS51.drewN | apply IsS51.drew | apply IsS51.set_1 | apply IsS51.set_2) | exact HI0.out)); (case side2 => repeat (first | (with_reducible first | exact HB.out | apply below_alloc | apply pw_below_drewN | apply below_drew1 | refine below_set ?_ (IsS51.ge HI0.out)) | exact HB.out)); rintro e w23 ⟨rfl, hi, hb, hk⟩; have n0_ := Aside0.mk (KeepBut.trans (by repeat (first | (with_reducible first | exact HK.out | apply KeepBut.set_ | apply keep_drewN | apply keep_drew | apply keep_alloc) | exact HK.out)) hk (.inl rfl)); have n1_ := Aside0.mk (hb); have n2_ := Aside0.mk (hi); clear HK; clear HB; clear HI0; have HK := n0_; have HB := n1_; have HI0 := n2_; clear n0_ n1_ n2_; (try clear hb); (try clear hb2); (try clear hk); (try clear hi)))
               repeat (go_quiet (first | (go_at_call 45; (with_reducible refine (spec_l1Cur_pick.calls g s0_0 x1001_2 x1002_2 (wrap64 ((x8_2.size : Int) + 1)) t132 t133 t134 w0 _ ?side1 ?side2 A13.out).mono ?_); (case side1 => repeat (first | (with_reducible first | exact HI0.out | apply IsS51.alloc | apply IsS51.drewN | apply IsS51.drew | apply IsS51.set_1 | apply IsS51.set_2) | exact HI0.out)); (case side2 => repeat (first | (with_reducible first | exact HB.out | apply below_alloc | apply pw_below_drewN | apply below_drew1 | refine below_set ?_ (IsS51.ge HI0.out)) | exact HB.out)); rintro e w23 ⟨rfl, hi, hb, hk⟩; have n0_ := Aside0.mk (KeepBut.trans (by repeat (first | (with_reducible first | exact HK.out | apply KeepBut.set_ | apply keep_drewN | apply keep_drew | apply keep_alloc) | exact HK.out)) hk (.inl rfl)); have n1_ := Aside0.mk (hb); have n2_ := Aside0.mk (hi); clear HK; clear HB; clear HI0; have HK := n0_; have HB := n1_; have HI0 := n2_; clear n0_ n1_ n2_; (try clear hb); (try clear hb2); (try clear hk); (try clear hi))); try go_wp2_with (first | (go_at_call 45; (with_reducible refine (spec_l1Cur_pick.calls g s0_0 x1001_2 x1002_2 (wrap64 ((x8_2.size : Int) + 1)) t132 t133 t134 w0 _ ?side1 ?side2 A13.out).mono ?_); (case side1 => repeat (first | (with_reducible first | exact HI0.out | apply IsS51.alloc | apply IsS51.drewN | apply IsS51.drew | apply IsS51.set_1 | apply IsS51.set_2) | exact HI0.out)); (case side2 => repeat (first | (with_reducible first | exact HB.out | apply below_alloc | apply pw_below_drewN | apply below_drew1 | refine below_set ?_ (IsS51.ge HI0.out)) | exact HB.out)); rintro e w23 ⟨rfl, hi, hb, hk⟩; have n0_ := Aside0.mk (KeepBut.trans (by repeat (first | (with_reducible first | exact HK.out | apply KeepBut.set_ | apply keep_drewN | apply keep_drew | apply keep_alloc) | exact HK.out)) hk (.inl rfl)); have n1_ := Aside0.mk (hb); have n2_ := Aside0.mk (hi); clear HK; clear HB; clear HI0; have HK := n0_; have HB := n1_; have HI0 := n2_; clear n0_ n1_ n2_; (try clear hb); (try clear hb2); (try clear hk); (try clear hi))))
               go_roundg k2
               case measure => have := HK1.out; have := HK2.out; omega
               case rel => exact ⟨(((x8_2.extract 0 (t132 : Int).toNat) ++ ((⟨#[97, 98, 99, 100]⟩ : ByteArray).extract (x10_2 : Int).toNat ((wrap64 (x10_2 + 1)) : Int).toNat)) ++ (x8_2.extract (t132 : Int).toNat x8_2.size)), (x10_2), (wrap64 (x11_2 + 1)), (t133), (t134), RF, RF, RF, H', ⟨by have := HK1.out; have := HK2.out; omega⟩, ⟨by repeat (first | (with_reducible first | exact HI0.out | apply IsS51.alloc | apply IsS51.drewN | apply IsS51.drew | apply IsS51.set_1 | apply IsS51.set_2) | exact HI0.out)⟩, ⟨by repeat (first | (with_reducible first | exact HK.out | apply KeepBut.set_ | apply keep_drewN | apply keep_drew | apply keep_alloc) | exact HK.out)⟩, ⟨by repeat (first | (with_reducible first | exact HB.out | apply below_alloc | apply pw_below_drewN | apply below_drew1 | refine below_set ?_ (IsS51.ge HI0.out)) | exact HB.out)⟩⟩
              ·rw [if_neg c22] at H
               cases H
             ·rw [if_neg c19] at H
              cases H
            ·rw [if_neg c18] at H
             cases H
           ·rw [if_neg c17] at H
            cases H
          ·rw [if_neg c16] at H
           cases H
         ·rw [if_neg c15] at H
          cases H
        ·rw [if_neg c14] at H
         cases H
       ·replace c12 := Bool.eq_false_iff.mpr c12
        subst c12
        replace H := IN H
        obtain ⟨⟨t135, t136, t137⟩, A240, H⟩ := Option.bind_eq_some_iff.mp H
        replace H : ((spec_l1Cur_pick.f s0_0 t136 t137 (wrap64 ((x8_2.size : Int) + 1))).bind fun bt138 => (if 0 ≤ bt138.1 then (if bt138.1 ≤ (x8_2.size : Int) then (if 0 ≤ t135 then (if t135 ≤ (wrap64 (t135 + 1)) then (if (wrap64 (t135 + 1)) ≤ 4 then (if (x8_2.extract 0 (bt138.1 : Int).toNat).size + ((⟨#[97, 98, 99, 100]⟩ : ByteArray).extract (t135 : Int).toNat ((wrap64 (t135 + 1)) : Int).toNat).size ≤ 9223372036854775807 then (if ((x8_2.extract 0 (bt138.1 : Int).toNat) ++ ((⟨#[97, 98, 99, 100]⟩ : ByteArray).extract (t135 : Int).toNat ((wrap64 (t135 + 1)) : Int).toNat)).size + (x8_2.extract (bt138.1 : Int).toNat x8_2.size).size ≤ 9223372036854775807 then (spec_l1Cur_sureBeads.l1 k2 false (wrap64 (1 + t123)) (((x8_2.extract 0 (bt138.1 : Int).toNat) ++ ((⟨#[97, 98, 99, 100]⟩ : ByteArray).extract (t135 : Int).toNat ((wrap64 (t135 + 1)) : Int).toNat)) ++ (x8_2.extract (bt138.1 : Int).toNat x8_2.size)) x9_1 t135 (wrap64 (x11_2 + 1)) s0_0 bt138.2.1 bt138.2.2) else (none)) else (none)) else (none)) else (none)) else (none)) else (none)) else (none))) = some (r1, r2, r3) := H
        have A24 := Aside0.mk A240
        clear A240
        obtain ⟨⟨t138, t139, t140⟩, A250, H⟩ := Option.bind_eq_some_iff.mp H
        replace H : (if 0 ≤ t138 then (if t138 ≤ (x8_2.size : Int) then (if 0 ≤ t135 then (if t135 ≤ (wrap64 (t135 + 1)) then (if (wrap64 (t135 + 1)) ≤ 4 then (if (x8_2.extract 0 (t138 : Int).toNat).size + ((⟨#[97, 98, 99, 100]⟩ : ByteArray).extract (t135 : Int).toNat ((wrap64 (t135 + 1)) : Int).toNat).size ≤ 9223372036854775807 then (if ((x8_2.extract 0 (t138 : Int).toNat) ++ ((⟨#[97, 98, 99, 100]⟩ : ByteArray).extract (t135 : Int).toNat ((wrap64 (t135 + 1)) : Int).toNat)).size + (x8_2.extract (t138 : Int).toNat x8_2.size).size ≤ 9223372036854775807 then (spec_l1Cur_sureBeads.l1 k2 false (wrap64 (1 + t123)) (((x8_2.extract 0 (t138 : Int).toNat) ++ ((⟨#[97, 98, 99, 100]⟩ : ByteArray).extract (t135 : Int).toNat ((wrap64 (t135 + 1)) : Int).toNat)) ++ (x8_2.extract (t138 : Int).toNat x8_2.size)) x9_1 t135 (wrap64 (x11_2 + 1)) s0_0 t139 t140) else (none)) else (none)) else (none)) else (none)) else (none)) else (none)) else (none)) = some (r1, r2, r3) := H
        have A25 := Aside0.mk A250
        clear A250
        by_cases c26 : 0 ≤ t138
        ·rw [if_pos c26] at H
         have c26b0 := eq_true c26
         have c26b1 : decide (0 ≤ t138) = true := decide_eq_true c26
         clear c26
         by_cases c27 : t138 ≤ (x8_2.size : Int)
         ·rw [if_pos c27] at H
          have c27b0 := eq_true c27
          have c27b1 : decide (t138 ≤ (x8_2.size : Int)) = true := decide_eq_true c27
          clear c27
          by_cases c28 : 0 ≤ t135
          ·rw [if_pos c28] at H
           have c28b0 := eq_true c28
           have c28b1 : decide (0 ≤ t135) = true := decide_eq_true c28
           clear c28
           by_cases c29 : t135 ≤ (wrap64 (t135 + 1))
           ·rw [if_pos c29] at H
            have c29b0 := eq_true c29
            have c29b1 : decide (t135 ≤ (wrap64 (t135 + 1))) = true := decide_eq_true c29
            by_cases c30 : (wrap64 (t135 + 1)) ≤ 4
            ·rw [if_pos c30] at H
             have c30b0 := eq_true c30
             have c30b1 : decide ((wrap64 (t135 + 1)) ≤ 4) = true := decide_eq_true c30
             by_cases c31 : (x8_2.extract 0 (t138 : Int).toNat).size + ((⟨#[97, 98, 99, 100]⟩ : ByteArray).extract (t135 : Int).toNat ((wrap64 (t135 + 1)) : Int).toNat).size ≤ 9223372036854775807
             ·rw [if_pos c31] at H
              have c31b0 := eq_true c31
              have c31b1 : decide ((x8_2.extract 0 (t138 : Int).toNat).size + ((⟨#[97, 98, 99, 100]⟩ : ByteArray).extract (t135 : Int).toNat ((wrap64 (t135 + 1)) : Int).toNat).size ≤ 9223372036854775807) = true := decide_eq_true c31
              try have c31b2 : (9223372036854775807 < (x8_2.extract 0 (t138 : Int).toNat).size + ((⟨#[97, 98, 99, 100]⟩ : ByteArray).extract (t135 : Int).toNat ((wrap64 (t135 + 1)) : Int).toNat).size) = False := eq_false (Nat.not_lt.2 c31)
              have c32b0 := eq_true (of_decide_eq_true AS : 0 ≤ t138)
              have c33b0 := eq_true (of_decide_eq_true AS : t138 ≤ (x8_2.size : Int))
              by_cases c34 : ((x8_2.extract 0 (t138 : Int).toNat) ++ ((⟨#[97, 98, 99, 100]⟩ : ByteArray).extract (t135 : Int).toNat ((wrap64 (t135 + 1)) : Int).toNat)).size + (x8_2.extract (t138 : Int).toNat x8_2.size).size ≤ 9223372036854775807
              ·rw [if_pos c34] at H
               have c34b0 := eq_true c34
               have c34b1 : decide (((x8_2.extract 0 (t138 : Int).toNat) ++ ((⟨#[97, 98, 99, 100]⟩ : ByteArray).extract (t135 : Int).toNat ((wrap64 (t135 + 1)) : Int).toNat)).size + (x8_2.extract (t138 : Int).toNat x8_2.size).size ≤ 9223372036854775807) = true := decide_eq_true c34
               try have c34b2 : (9223372036854775807 < ((x8_2.extract 0 (t138 : Int).toNat) ++ ((⟨#[97, 98, 99, 100]⟩ : ByteArray).extract (t135 : Int).toNat ((wrap64 (t135 + 1)) : Int).toNat)).size + (x8_2.extract (t138 : Int).toNat x8_2.size).size) = False := eq_false (Nat.not_lt.2 c34)
               have H' := Aside0.mk H
               clear H
               go_wp2_with (first | (go_at_call 45; (with_reducible refine (spec_l1Cur_pick.calls g s0_0 x1001_2 x1002_2 (wrap64 (1 + t123)) t135 t136 t137 w0 _ ?side1 ?side2 A24.out).mono ?_); (case side1 => repeat (first | (with_reducible first | exact HI0.out | apply IsS51.alloc | apply IsS51.drewN | apply IsS51.drew | apply IsS51.set_1 | apply IsS51.set_2) | exact HI0.out)); (case side2 => repeat (first | (with_reducible first | exact HB.out | apply below_alloc | apply pw_below_drewN | apply below_drew1 | refine below_set ?_ (IsS51.ge HI0.out)) | exact HB.out)); rintro e w35 ⟨rfl, hi, hb, hk⟩; have n0_ := Aside0.mk (KeepBut.trans (by repeat (first | (with_reducible first | exact HK.out | apply KeepBut.set_ | apply keep_drewN | apply keep_drew | apply keep_alloc) | exact HK.out)) hk (.inl rfl)); have n1_ := Aside0.mk (hb); have n2_ := Aside0.mk (hi); clear HK; clear HB; clear HI0; have HK := n0_; have HB := n1_; have HI0 := n2_; clear n0_ n1_ n2_; (try clear hb); (try clear hb2); (try clear hk); (try clear hi)) | (go_at_call 45; (with_reducible refine (spec_l1Cur_pick.calls g s0_0 t136 t137 (wrap64 ((x8_2.size : Int) + 1)) t138 t139 t140 w0 _ ?side1 ?side2 A25.out).mono ?_); (case side1 => repeat (first | (with_reducible first | exact HI0.out | apply IsS51.alloc | apply IsS51.drewN | apply IsS51.drew | apply IsS51.set_1 | apply IsS51.set_2) | exact HI0.out)); (case side2 => repeat (first | (with_reducible first | exact HB.out | apply below_alloc | apply pw_below_drewN | apply below_drew1 | refine below_set ?_ (IsS51.ge HI0.out)) | exact HB.out)); rintro e w36 ⟨rfl, hi, hb, hk⟩; have n0_ := Aside0.mk (KeepBut.trans (by repeat (first | (with_reducible first | exact HK.out | apply KeepBut.set_ | apply keep_drewN | apply keep_drew | apply keep_alloc) | exact HK.out)) hk (.inl rfl)); have n1_ := Aside0.mk (hb); have n2_ := Aside0.mk (hi); clear HK; clear HB; clear HI0; have HK := n0_; have HB := n1_; have HI0 := n2_; clear n0_ n1_ n2_; (try clear hb); (try clear hb2); (try clear hk); (try clear hi)))
               repeat (go_quiet (first | (go_at_call 45; (with_reducible refine (spec_l1Cur_pick.calls g s0_0 x1001_2 x1002_2 (wrap64 (1 + t123)) t135 t136 t137 w0 _ ?side1 ?side2 A24.out).mono ?_); (case side1 => repeat (first | (with_reducible first | exact HI0.out | apply IsS51.alloc | apply IsS51.drewN | apply IsS51.drew | apply IsS51.set_1 | apply IsS51.set_2) | exact HI0.out)); (case side2 => repeat (first | (with_reducible first | exact HB.out | apply below_alloc | apply pw_below_drewN | apply below_drew1 | refine below_set ?_ (IsS51.ge HI0.out)) | exact HB.out)); rintro e w35 ⟨rfl, hi, hb, hk⟩; have n0_ := Aside0.mk (KeepBut.trans (by repeat (first | (with_reducible first | exact HK.out | apply KeepBut.set_ | apply keep_drewN | apply keep_drew | apply keep_alloc) | exact HK.out)) hk (.inl rfl)); have n1_ := Aside0.mk (hb); have n2_ := Aside0.mk (hi); clear HK; clear HB; clear HI0; have HK := n0_; have HB := n1_; have HI0 := n2_; clear n0_ n1_ n2_; (try clear hb); (try clear hb2); (try clear hk); (try clear hi)) | (go_at_call 45; (with_reducible refine (spec_l1Cur_pick.calls g s0_0 t136 t137 (wrap64 ((x8_2.size : Int) + 1)) t138 t139 t140 w0 _ ?side1 ?side2 A25.out).mono ?_); (case side1 => repeat (first | (with_reducible first | exact HI0.out | apply IsS51.alloc | apply IsS51.drewN | apply IsS51.drew | apply IsS51.set_1 | apply IsS51.set_2) | exact HI0.out)); (case side2 => repeat (first | (with_reducible first | exact HB.out | apply below_alloc | apply pw_below_drewN | apply below_drew1 | refine below_set ?_ (IsS51.ge HI0.out)) | exact HB.out)); rintro e w36 ⟨rfl, hi, hb, hk⟩; have n0_ := Aside0.mk (KeepBut.trans (by repeat (first | (with_reducible first | exact HK.out | apply KeepBut.set_ | apply keep_drewN | apply keep_drew | apply keep_alloc) | exact HK.out)) hk (.inl rfl)); have n1_ := Aside0.mk (hb); have n2_ := Aside0.mk (hi); clear HK; clear HB; clear HI0; have HK := n0_; have HB := n1_; have HI0 := n2_; clear n0_ n1_ n2_; (try clear hb); (try clear hb2); (try clear hk); (try clear hi))); try go_wp2_with (first | (go_at_call 45; (with_reducible refine (spec_l1Cur_pick.calls g s0_0 x1001_2 x1002_2 (wrap64 (1 + t123)) t135 t136 t137 w0 _ ?side1 ?side2 A24.out).mono ?_); (case side1 => repeat (first | (with_reducible first | exact HI0.out | apply IsS51.alloc | apply IsS51.drewN | apply IsS51.drew | apply IsS51.set_1 | apply IsS51.set_2) | exact HI0.out)); (case side2 => repeat (first | (with_reducible first | exact HB.out | apply below_alloc | apply pw_below_drewN | apply below_drew1 | refine below_set ?_ (IsS51.ge HI0.out)) | exact HB.out)); rintro e w35 ⟨rfl, hi, hb, hk⟩; have n0_ := Aside0.mk (KeepBut.trans (by repeat (first | (with_reducible first | exact HK.out | apply KeepBut.set_ | apply keep_drewN | apply keep_drew | apply keep_alloc) | exact HK.out)) hk (.inl rfl)); have n1_ := Aside0.mk (hb); have n2_ := Aside0.mk (hi); clear HK; clear HB; clear HI0; have HK := n0_; have HB := n1_; have HI0 := n2_; clear n0_ n1_ n2_; (try clear hb); (try clear hb2); (try clear hk); (try clear hi)) | (go_at_call 45; (with_reducible refine (spec_l1Cur_pick.calls g s0_0 t136 t137 (wrap64 ((x8_2.size : Int) + 1)) t138 t139 t140 w0 _ ?side1 ?side2 A25.out).mono ?_); (case side1 => repeat (first | (with_reducible first | exact HI0.out | apply IsS51.alloc | apply IsS51.drewN | apply IsS51.drew | apply IsS51.set_1 | apply IsS51.set_2) | exact HI0.out)); (case side2 => repeat (first | (with_reducible first | exact HB.out | apply below_alloc | apply pw_below_drewN | apply below_drew1 | refine below_set ?_ (IsS51.ge HI0.out)) | exact HB.out)); rintro e w36 ⟨rfl, hi, hb, hk⟩; have n0_ := Aside0.mk (KeepBut.trans (by repeat (first | (with_reducible first | exact HK.out | apply KeepBut.set_ | apply keep_drewN | apply keep_drew | apply keep_alloc) | exact HK.out)) hk (.inl rfl)); have n1_ := Aside0.mk (hb); have n2_ := Aside0.mk (hi); clear HK; clear HB; clear HI0; have HK := n0_; have HB := n1_; have HI0 := n2_; clear n0_ n1_ n2_; (try clear hb); (try clear hb2); (try clear hk); (try clear hi))))
               go_roundg k2
               case measure => have := HK1.out; have := HK2.out; omega
               case rel => exact ⟨(((x8_2.extract 0 (t138 : Int).toNat) ++ ((⟨#[97, 98, 99, 100]⟩ : ByteArray).extract (t135 : Int).toNat ((wrap64 (t135 + 1)) : Int).toNat)) ++ (x8_2.extract (t138 : Int).toNat x8_2.size)), (t135), (wrap64 (x11_2 + 1)), (t139), (t140), RF, RF, RF, H', ⟨by have := HK1.out; have := HK2.out; omega⟩, ⟨by repeat (first | (with_reducible first | exact HI0.out | apply IsS51.alloc | apply IsS51.drewN | apply IsS51.drew | apply IsS51.set_1 | apply IsS51.set_2) | exact HI0.out)⟩, ⟨by repeat (first | (with_reducible first | exact HK.out | apply KeepBut.set_ | apply keep_drewN | apply keep_drew | apply keep_alloc) | exact HK.out)⟩, ⟨by repeat (first | (with_reducible first | exact HB.out | apply below_alloc | apply pw_below_drewN | apply below_drew1 | refine below_set ?_ (IsS51.ge HI0.out)) | exact HB.out)⟩⟩
              ·rw [if_neg c34] at H
               cases H
             ·rw [if_neg c31] at H
              cases H
            ·rw [if_neg c30] at H
             cases H
           ·rw [if_neg c29] at H
            cases H
          ·rw [if_neg c28] at H
           cases H
         ·rw [if_neg c27] at H
          cases H
        ·rw [if_neg c26] at H
         cases H
      ·rw [if_neg c11] at H
       have c11b0 : decide (x11_2 < 2) = false := decide_eq_false c11
       clear c11
       have H' := Aside0.mk H
       clear H
       go_wp2
       repeat (go_quiet (fail); try go_wp2)
       go_roundg k2
       case measure => have := HK1.out; have := HK2.out; omega
       case rel => exact ⟨(x8_2), (wrap64 (x9_1 - 1)), (x1001_2), (x1002_2), RF, RF, H', ⟨by have := HK1.out; have := HK2.out; omega⟩, ⟨by repeat (first | (with_reducible first | exact HI0.out | apply IsS51.alloc | apply IsS51.drewN | apply IsS51.drew | apply IsS51.set_1 | apply IsS51.set_2) | exact HI0.out)⟩, ⟨by repeat (first | (with_reducible first | exact HK.out | apply KeepBut.set_ | apply keep_drewN | apply keep_drew | apply keep_alloc) | exact HK.out)⟩, ⟨by repeat (first | (with_reducible first | exact HB.out | apply below_alloc | apply pw_below_drewN | apply below_drew1 | refine below_set ?_ (IsS51.ge HI0.out)) | exact HB.out)⟩⟩
   ·rw [if_neg c8] at H
    have c8b0 : decide (0 < x9_1) = false := decide_eq_false c8
    clear c8
    simp only [Option.some.injEq, Prod.mk.injEq] at H
    obtain ⟨rfl, rfl, rfl⟩ := H
    go_wp2
    repeat (go_quiet (fail); try go_wp2)
    go_ret
    exact ⟨RE, by repeat (first | (with_reducible first | exact HI0.out | apply IsS51.alloc | apply IsS51.drewN | apply IsS51.drew | apply IsS51.set_1 | apply IsS51.set_2) | exact HI0.out), by repeat (first | (with_reducible first | exact HB.out | apply below_alloc | apply pw_below_drewN | apply below_drew1 | refine below_set ?_ (IsS51.ge HI0.out)) | exact HB.out), by repeat (first | (with_reducible first | exact HK.out | apply KeepBut.set_ | apply keep_drewN | apply keep_drew | apply keep_alloc) | exact HK.out)⟩

/-! ### spec_l1Cur_of: function 72 -/
def spec_l1Cur_of.f (s0_0 : List Int) (s0_1 : Int) (s0_2 : Int) (l1 : List ByteArray) : Option (ByteArray × Int × Int) := (spec_l1Cur_pick.f s0_0 s0_1 s0_2 (l1.length : Int)).bind fun bt141 => (if 0 ≤ bt141.1 then (if bt141.1 < (l1.length : Int) then (some (rdOf ByteArray.empty l1 bt141.1, bt141.2.1, bt141.2.2)) else (none)) else (none))
theorem spec_l1Cur_of.calls (g : Nat) (s0_0 : List Int) (s0_1 : Int) (s0_2 : Int) (A1 : Option Addr) (c1 : Nat) (l1 : List ByteArray) (r1 : ByteArray) (r2 : Int) (r3 : Int) (w0 w : World) (hI : IsS51 w0 w g s0_0 s0_1 s0_2) (hB : Below w0.heap.size w0 w) (hr1 : Kd.C Kd.string w A1 l1.length l1) (hc1 : l1.length ≤ c1) (hf1 : ∀ ad, A1 = some ad → 0 < l1.length → ad.block ≠ g) (h : spec_l1Cur_of.f s0_0 s0_1 s0_2 l1 = some (r1, r2, r3)) :
  Calls Tryd.prog 72 #[.pointer (some ⟨g, 0, none⟩), .slice A1 l1.length c1] w fun e w' => e = .returned (.string r1) ∧ IsS51 w0 w' g s0_0 r2 r3 ∧ Below w0.heap.size w0 w' ∧ KeepBut w w' g none := by
 have HR1 := Aside0.mk hr1
 have HC1 := Aside0.mk hc1
 clear hr1 hc1
 have HI0 := Aside0.mk hI
 have HK := Aside0.mk (KeepBut.refl w g none)
 have HL := Aside0.mk hB.size
 clear hI
 have HW0 := Aside0.mk hB.size
 have HB := Aside0.mk hB
 clear hB
 have H : ((spec_l1Cur_pick.f s0_0 s0_1 s0_2 (l1.length : Int)).bind fun bt141 => (if 0 ≤ bt141.1 then (if bt141.1 < (l1.length : Int) then (some (rdOf ByteArray.empty l1 bt141.1, bt141.2.1, bt141.2.2)) else (none)) else (none))) = some (r1, r2, r3) := h
 clear h
 obtain ⟨⟨t141, t142, t143⟩, A30, H⟩ := Option.bind_eq_some_iff.mp H
 replace H : (if 0 ≤ t141 then (if t141 < (l1.length : Int) then (some (rdOf ByteArray.empty l1 t141, t142, t143)) else (none)) else (none)) = some (r1, r2, r3) := H
 have A3 := Aside0.mk A30
 clear A30
 by_cases c4 : 0 ≤ t141
 ·rw [if_pos c4] at H
  have c4b0 : decide (0 ≤ t141) = true := decide_eq_true c4
  clear c4
  by_cases c5 : t141 < (l1.length : Int)
  ·rw [if_pos c5] at H
   have c5b0 : decide (t141 < (l1.length : Int)) = true := decide_eq_true c5
   clear c5
   simp only [Option.some.injEq, Prod.mk.injEq] at H
   obtain ⟨rfl, rfl, rfl⟩ := H
   go_enter Tryd.func72, Tryd.ntmps72
   go_wp2_with (first | ((with_reducible refine gate_callee (f := 45) rfl ?_); refine goesL_ (some 9) rfl rfl Tryd.func45 (by kernel_rfl) rfl #[.pointer (some ⟨g, 0, none⟩), .int .i64 (l1.length : Int)] rfl TA ?_; (with_reducible refine (spec_l1Cur_pick.calls g s0_0 s0_1 s0_2 (l1.length : Int) t141 t142 t143 w0 _ ?side1 ?side2 A3.out).mono ?_); (case side1 => repeat (first | (with_reducible first | exact HI0.out | apply IsS51.alloc | apply IsS51.drewN | apply IsS51.drew | apply IsS51.set_1 | apply IsS51.set_2) | exact HI0.out)); (case side2 => repeat (first | (with_reducible first | exact HB.out | apply below_alloc | apply pw_below_drewN | apply below_drew1 | refine below_set ?_ (IsS51.ge HI0.out)) | exact HB.out)); rintro e w6 ⟨rfl, hi, hb, hk⟩; refine ⟨_, rfl, ?_⟩; have n0_ := Aside0.mk (KeepBut.trans (by repeat (first | (with_reducible first | exact HK.out | apply KeepBut.set_ | apply keep_drewN | apply keep_drew | apply keep_alloc) | exact HK.out)) hk (.inl rfl)); have n1_ := Aside0.mk (hb); have n2_ := Aside0.mk (hi); clear HK; clear HB; clear HI0; have HK := n0_; have HB := n1_; have HI0 := n2_; clear n0_ n1_ n2_; (try clear hb); (try clear hb2); (try clear hk); (try clear hi); have p144 : 0 ≤ (t141 : Int) := of_decide_eq_true AS; have q144 : t141 < (l1.length : Int) := of_decide_eq_true AS; obtain ⟨ad144, e144, hx144_0⟩ := Kd.at_string HR1.out t141 p144 q144; cases e144; replace hx144_0 := keep_cell HK.out hx144_0 (by first | (rw [add_block]; exact hf1 _ rfl (by omega)) | exact hf1 _ rfl (by omega) | exact hf1 ad144 rfl (by omega)); replace p144 := eq_true p144; replace q144 := eq_true q144))
   go_ret
   exact ⟨RE, by repeat (first | (with_reducible first | exact HI0.out | apply IsS51.alloc | apply IsS51.drewN | apply IsS51.drew | apply IsS51.set_1 | apply IsS51.set_2) | exact HI0.out), by repeat (first | (with_reducible first | exact HB.out | apply below_alloc | apply pw_below_drewN | apply below_drew1 | refine below_set ?_ (IsS51.ge HI0.out)) | exact HB.out), by repeat (first | (with_reducible first | exact HK.out | apply KeepBut.set_ | apply keep_drewN | apply keep_drew | apply keep_alloc) | exact HK.out)⟩
  ·rw [if_neg c5] at H
   cases H
 ·rw [if_neg c4] at H
  cases H

/-! ### spec_l1Cur_beads: function 44 -/
def spec_l1Cur_beads.l0 : Nat → ByteArray → List Int → Int → Int → Option (ByteArray × Int × Int)
 | 0, _, _, _, _ => none
 | k + 1, x5, x1000, x1001, x1002 => (spec_l1Cur_pick.f x1000 x1001 x1002 2).bind fun bt160 => (if (x5.size : Int) < (wrap64 (16 + bt160.1)) then (if x5.size + 1 ≤ 9223372036854775807 then (spec_l1Cur_beads.l0 k (x5 ++ (⟨#[97]⟩ : ByteArray)) x1000 bt160.2.1 bt160.2.2) else (none)) else (some (x5, bt160.2.1, bt160.2.2)))
def spec_l1Cur_beads.f (k : Nat) (s0_0 : List Int) (s0_1 : Int) (s0_2 : Int) (a1 : Int) : Option (ByteArray × Int × Int) := (spec_l1Cur_one.f s0_0 s0_1 s0_2 5).bind fun bt145 => ((spec_l1Cur_sureBeads.f k s0_0 bt145.2.1 bt145.2.2 a1 (!bt145.1)).bind fun bt148 => ((spec_l1Cur_pick.f s0_0 bt148.2.1 bt148.2.2 20).bind fun bt151 => (if bt151.1 = 0 then ((spec_l1Cur_of.f s0_0 bt151.2.1 bt151.2.2 (([(⟨#[101]⟩ : ByteArray), (⟨#[65]⟩ : ByteArray), (⟨#[48]⟩ : ByteArray), (⟨#[97]⟩ : ByteArray)] : List ByteArray))).bind fun bt157 => (if bt148.1.size + bt157.1.size ≤ 9223372036854775807 then (some (bt148.1 ++ bt157.1, bt157.2.1, bt157.2.2)) else (none))) else (if bt151.1 = 1 then (spec_l1Cur_beads.l0 k bt148.1 s0_0 bt151.2.1 bt151.2.2) else (some (bt148.1, bt151.2.1, bt151.2.2))))))
theorem spec_l1Cur_beads.mono_l : ∀ k, (∀ y0 y1 y2 y3, LeO (spec_l1Cur_beads.l0 k y0 y1 y2 y3) (spec_l1Cur_beads.l0 (k + 1) y0 y1 y2 y3))
 | 0 => fun _ _ _ _ r h => by simp [spec_l1Cur_beads.l0] at h
 | k + 1 => by
  have ih0 := spec_l1Cur_beads.mono_l k
  ·intro y0 y1 y2 y3
   unfold spec_l1Cur_beads.l0
   repeat' first
   | with_reducible first | exact ih0 _ _ _ _ | exact spec_l1Cur_sureBeads.mono _ _ _ _ _ _ | exact LeO.refl _ | exact LeO.none _ | refine LeO.ite ?_ ?_ | refine LeO.bind ?_ (fun _ => ?_)
   | exact LeO.none _ | refine LeO.ite ?_ ?_ | refine LeO.bind ?_ (fun _ => ?_)
theorem spec_l1Cur_beads.mono : ∀ a0 a1 a2 a3 k, LeO (spec_l1Cur_beads.f k a0 a1 a2 a3) (spec_l1Cur_beads.f (k + 1) a0 a1 a2 a3) := by
 intro a0 a1 a2 a3 k
 have ih0 := spec_l1Cur_beads.mono_l k
 unfold spec_l1Cur_beads.f
 repeat' first
   | with_reducible first | exact ih0 _ _ _ _ | exact spec_l1Cur_sureBeads.mono _ _ _ _ _ _ | exact LeO.refl _ | exact LeO.none _ | refine LeO.ite ?_ ?_ | refine LeO.bind ?_ (fun _ => ?_)
   | exact LeO.none _ | refine LeO.ite ?_ ?_ | refine LeO.bind ?_ (fun _ => ?_)
theorem spec_l1Cur_beads.calls (k : Nat) (g : Nat) (s0_0 : List Int) (s0_1 : Int) (s0_2 : Int) (a1 : Int) (r1 : ByteArray) (r2 : Int) (r3 : Int) (w0 w : World) (hI : IsS51 w0 w g s0_0 s0_1 s0_2) (hB : Below w0.heap.size w0 w) (h : spec_l1Cur_beads.f k s0_0 s0_1 s0_2 a1 = some (r1, r2, r3)) :
  Calls Tryd.prog 44 #[.pointer (some ⟨g, 0, none⟩), .int .i64 a1] w fun e w' => e = .returned (.string r1) ∧ IsS51 w0 w' g s0_0 r2 r3 ∧ Below w0.heap.size w0 w' ∧ KeepBut w w' g none := by
 have HI0 := Aside0.mk hI
 have HK := Aside0.mk (KeepBut.refl w g none)
 have HL := Aside0.mk hB.size
 clear hI
 have HW0 := Aside0.mk hB.size
 have HB := Aside0.mk hB
 clear hB
 have H : ((spec_l1Cur_one.f s0_0 s0_1 s0_2 5).bind fun bt145 => ((spec_l1Cur_sureBeads.f k s0_0 bt145.2.1 bt145.2.2 a1 (!bt145.1)).bind fun bt148 => ((spec_l1Cur_pick.f s0_0 bt148.2.1 bt148.2.2 20).bind fun bt151 => (if bt151.1 = 0 then ((spec_l1Cur_of.f s0_0 bt151.2.1 bt151.2.2 (([(⟨#[101]⟩ : ByteArray), (⟨#[65]⟩ : ByteArray), (⟨#[48]⟩ : ByteArray), (⟨#[97]⟩ : ByteArray)] : List ByteArray))).bind fun bt157 => (if bt148.1.size + bt157.1.size ≤ 9223372036854775807 then (some (bt148.1 ++ bt157.1, bt157.2.1, bt157.2.2)) else (none))) else (if bt151.1 = 1 then (spec_l1Cur_beads.l0 k bt148.1 s0_0 bt151.2.1 bt151.2.2) else (some (bt148.1, bt151.2.1, bt151.2.2))))))) = some (r1, r2, r3) := h
 clear h
 obtain ⟨⟨t145, t146, t147⟩, A30, H⟩ := Option.bind_eq_some_iff.mp H
 replace H : ((spec_l1Cur_sureBeads.f k s0_0 t146 t147 a1 (!t145)).bind fun bt148 => ((spec_l1Cur_pick.f s0_0 bt148.2.1 bt148.2.2 20).bind fun bt151 => (if bt151.1 = 0 then ((spec_l1Cur_of.f s0_0 bt151.2.1 bt151.2.2 (([(⟨#[101]⟩ : ByteArray), (⟨#[65]⟩ : ByteArray), (⟨#[48]⟩ : ByteArray), (⟨#[97]⟩ : ByteArray)] : List ByteArray))).bind fun bt157 => (if bt148.1.size + bt157.1.size ≤ 9223372036854775807 then (some (bt148.1 ++ bt157.1, bt157.2.1, bt157.2.2)) else (none))) else (if bt151.1 = 1 then (spec_l1Cur_beads.l0 k bt148.1 s0_0 bt151.2.1 bt151.2.2) else (some (bt148.1, bt151.2.1, bt151.2.2)))))) = some (r1, r2, r3) := H
 have A3 := Aside0.mk A30
 clear A30
 obtain ⟨⟨t148, t149, t150⟩, A40, H⟩ := Option.bind_eq_some_iff.mp H
 replace H : ((spec_l1Cur_pick.f s0_0 t149 t150 20).bind fun bt151 => (if bt151.1 = 0 then ((spec_l1Cur_of.f s0_0 bt151.2.1 bt151.2.2 (([(⟨#[101]⟩ : ByteArray), (⟨#[65]⟩ : ByteArray), (⟨#[48]⟩ : ByteArray), (⟨#[97]⟩ : ByteArray)] : List ByteArray))).bind fun bt157 => (if t148.size + bt157.1.size ≤ 9223372036854775807 then (some (t148 ++ bt157.1, bt157.2.1, bt157.2.2)) else (none))) else (if bt151.1 = 1 then (spec_l1Cur_beads.l0 k t148 s0_0 bt151.2.1 bt151.2.2) else (some (t148, bt151.2.1, bt151.2.2))))) = some (r1, r2, r3) := H
 have A4 := Aside0.mk A40
 clear A40
 obtain ⟨⟨t151, t152, t153⟩, A50, H⟩ := Option.bind_eq_some_iff.mp H
 replace H : (if t151 = 0 then ((spec_l1Cur_of.f s0_0 t152 t153 (([(⟨#[101]⟩ : ByteArray), (⟨#[65]⟩ : ByteArray), (⟨#[48]⟩ : ByteArray), (⟨#[97]⟩ : ByteArray)] : List ByteArray))).bind fun bt157 => (if t148.size + bt157.1.size ≤ 9223372036854775807 then (some (t148 ++ bt157.1, bt157.2.1, bt157.2.2)) else (none))) else (if t151 = 1 then (spec_l1Cur_beads.l0 k t148 s0_0 t152 t153) else (some (t148, t152, t153)))) = some (r1, r2, r3) := H
 have A5 := Aside0.mk A50
 clear A50
 by_cases c6 : t151 = 0
 ·rw [if_pos c6] at H
  have c6b0 : (t151 == 0) = true := beq_iff_eq.mpr c6
  have c6b1 : (t151 != 0) = false := bne_eq_false_iff_eq.mpr c6
  clear c6
  obtain ⟨y154, hy154⟩ : ∃ y_ : List ByteArray, y_ = (([(⟨#[101]⟩ : ByteArray), (⟨#[65]⟩ : ByteArray), (⟨#[48]⟩ : ByteArray), (⟨#[97]⟩ : ByteArray)] : List ByteArray)) := ⟨_, rfl⟩
  replace H : ((spec_l1Cur_of.f s0_0 t152 t153 y154).bind fun bt157 => (if t148.size + bt157.1.size ≤ 9223372036854775807 then (some (t148 ++ bt157.1, bt157.2.1, bt157.2.2)) else (none))) = some (r1, r2, r3) := HY H hy154
  have Ny154 := Aside0.mk hy154
  clear hy154
  obtain ⟨⟨t157, t158, t159⟩, A70, H⟩ := Option.bind_eq_some_iff.mp H
  replace H : (if t148.size + t157.size ≤ 9223372036854775807 then (some (t148 ++ t157, t158, t159)) else (none)) = some (r1, r2, r3) := H
  have A7 := Aside0.mk A70
  clear A70
  by_cases c8 : t148.size + t157.size ≤ 9223372036854775807
  ·rw [if_pos c8] at H
   have c8b0 := eq_true c8
   have c8b1 : decide (t148.size + t157.size ≤ 9223372036854775807) = true := decide_eq_true c8
   try have c8b2 : (9223372036854775807 < t148.size + t157.size) = False := eq_false (Nat.not_lt.2 c8)
   simp only [Option.some.injEq, Prod.mk.injEq] at H
   obtain ⟨rfl, rfl, rfl⟩ := H
   go_enter Tryd.func44, Tryd.ntmps44
   go_wp2_with (first | ((with_reducible refine gate_callee (f := 46) rfl ?_); refine goesL_ (some 9) rfl rfl Tryd.func46 (by kernel_rfl) rfl #[.pointer (some ⟨g, 0, none⟩), .int .i64 5] rfl TA ?_; (with_reducible refine (spec_l1Cur_one.calls g s0_0 s0_1 s0_2 5 t145 t146 t147 w0 _ ?side1 ?side2 A3.out).mono ?_); (case side1 => repeat (first | (with_reducible first | exact HI0.out | apply IsS51.alloc | apply IsS51.drewN | apply IsS51.drew | apply IsS51.set_1 | apply IsS51.set_2) | exact HI0.out)); (case side2 => repeat (first | (with_reducible first | exact HB.out | apply below_alloc | apply pw_below_drewN | apply below_drew1 | refine below_set ?_ (IsS51.ge HI0.out)) | exact HB.out)); rintro e w9 ⟨rfl, hi, hb, hk⟩; refine ⟨_, rfl, ?_⟩; have n0_ := Aside0.mk (KeepBut.trans (by repeat (first | (with_reducible first | exact HK.out | apply KeepBut.set_ | apply keep_drewN | apply keep_drew | apply keep_alloc) | exact HK.out)) hk (.inl rfl)); have n1_ := Aside0.mk (hb); have n2_ := Aside0.mk (hi); clear HK; clear HB; clear HI0; have HK := n0_; have HB := n1_; have HI0 := n2_; clear n0_ n1_ n2_; (try clear hb); (try clear hb2); (try clear hk); (try clear hi)) | ((with_reducible refine gate_callee (f := 71) rfl ?_); refine goesL_ (some 11) rfl rfl Tryd.func71 (by kernel_rfl) rfl #[.pointer (some ⟨g, 0, none⟩), .int .i64 a1, .bool (!t145)] rfl TA ?_; (with_reducible refine (spec_l1Cur_sureBeads.calls k g s0_0 t146 t147 a1 (!t145) t148 t149 t150 w0 _ ?side1 ?side2 A4.out).mono ?_); (case side1 => repeat (first | (with_reducible first | exact HI0.out | apply IsS51.alloc | apply IsS51.drewN | apply IsS51.drew | apply IsS51.set_1 | apply IsS51.set_2) | exact HI0.out)); (case side2 => repeat (first | (with_reducible first | exact HB.out | apply below_alloc | apply pw_below_drewN | apply below_drew1 | refine below_set ?_ (IsS51.ge HI0.out)) | exact HB.out)); rintro e w10 ⟨rfl, hi, hb, hk⟩; refine ⟨_, rfl, ?_⟩; have n0_ := Aside0.mk (KeepBut.trans (by repeat (first | (with_reducible first | exact HK.out | apply KeepBut.set_ | apply keep_drewN | apply keep_drew | apply keep_alloc) | exact HK.out)) hk (.inl rfl)); have n1_ := Aside0.mk (hb); have n2_ := Aside0.mk (hi); clear HK; clear HB; clear HI0; have HK := n0_; have HB := n1_; have HI0 := n2_; clear n0_ n1_ n2_; (try clear hb); (try clear hb2); (try clear hk); (try clear hi)) | ((with_reducible refine gate_callee (f := 45) rfl ?_); refine goesL_ (some 13) rfl rfl Tryd.func45 (by kernel_rfl) rfl #[.pointer (some ⟨g, 0, none⟩), .int .i64 20] rfl TA ?_; (with_reducible refine (spec_l1Cur_pick.calls g s0_0 t149 t150 20 t151 t152 t153 w0 _ ?side1 ?side2 A5.out).mono ?_); (case side1 => repeat (first | (with_reducible first | exact HI0.out | apply IsS51.alloc | apply IsS51.drewN | apply IsS51.drew | apply IsS51.set_1 | apply IsS51.set_2) | exact HI0.out)); (case side2 => repeat (first | (with_reducible first | exact HB.out | apply below_alloc | apply pw_below_drewN | apply below_drew1 | refine below_set ?_ (IsS51.ge HI0.out)) | exact HB.out)); rintro e w11 ⟨rfl, hi, hb, hk⟩; refine ⟨_, rfl, ?_⟩; have n0_ := Aside0.mk (KeepBut.trans (by repeat (first | (with_reducible first | exact HK.out | apply KeepBut.set_ | apply keep_drewN | apply keep_drew | apply keep_alloc) | exact HK.out)) hk (.inl rfl)); have n1_ := Aside0.mk (hb); have n2_ := Aside0.mk (hi); clear HK; clear HB; clear HI0; have HK := n0_; have HB := n1_; have HI0 := n2_; clear n0_ n1_ n2_; (try clear hb); (try clear hb2); (try clear hk); (try clear hi)) | ((with_reducible refine gate_dst (N := 18) rfl ?_); refine Kd.R_lit Kd.string _ 9 ?hg (N := 18) ?hd (xs := ([(⟨#[101]⟩ : ByteArray), (⟨#[65]⟩ : ByteArray), (⟨#[48]⟩ : ByteArray), (⟨#[97]⟩ : ByteArray)] : List ByteArray)) (inner := [.string (⟨#[101]⟩ : ByteArray), .string (⟨#[65]⟩ : ByteArray), .string (⟨#[48]⟩ : ByteArray), .string (⟨#[97]⟩ : ByteArray)]) (ok := fun _ => True) (okp := fun _ => True) ?hr ?hp (fun _ hk => hk) trivial (Below.refl _ _) (Nat.le_refl _) (by simp) ?_; (case hd => rfl); (case hg => rfl); (case hr => exact GS); (case hp => exact (Reps.one (show Kd.M Kd.string _ _ _ (⟨#[101]⟩ : ByteArray) [.string (⟨#[101]⟩ : ByteArray)] from rfl) (Reps.one (show Kd.M Kd.string _ _ _ (⟨#[65]⟩ : ByteArray) [.string (⟨#[65]⟩ : ByteArray)] from rfl) (Reps.one (show Kd.M Kd.string _ _ _ (⟨#[48]⟩ : ByteArray) [.string (⟨#[48]⟩ : ByteArray)] from rfl) (Reps.one (show Kd.M Kd.string _ _ _ (⟨#[97]⟩ : ByteArray) [.string (⟨#[97]⟩ : ByteArray)] from rfl) (Reps.none _ _)))))); intro v155 w12 ho13 hb hg_ hnew_; clear hg_ hnew_; (first | rw [← Ny154.out] at ho13 | (simp only [Int.reduceToNat] at ho13; rw [← Ny154.out] at ho13)); have n0_ := Aside0.mk (Kd.R_lower ho13 (keep_size (w := w) (g := g) (row := none) (by repeat (first | (with_reducible first | exact HK.out | apply KeepBut.set_ | apply keep_drewN | apply keep_drew | apply keep_alloc) | exact HK.out)))); have n1_ := Aside0.mk (IsS51.below (by repeat (first | (with_reducible first | exact HI0.out | apply IsS51.alloc | apply IsS51.drewN | apply IsS51.drew | apply IsS51.set_1 | apply IsS51.set_2) | exact HI0.out)) hb); have n2_ := Aside0.mk (KeepBut.trans (by repeat (first | (with_reducible first | exact HK.out | apply KeepBut.set_ | apply keep_drewN | apply keep_drew | apply keep_alloc) | exact HK.out)) (KeepBut.of_below hb g none) (.inl rfl)); have n3_ := Aside0.mk (below_step (by repeat (first | (with_reducible first | exact HB.out | apply below_alloc | apply pw_below_drewN | apply below_drew1 | refine below_set ?_ (IsS51.ge HI0.out)) | exact HB.out)) hb); clear HI0; clear HK; clear HB; have HO156 := n0_; have HI0 := n1_; have HK := n2_; have HB := n3_; clear n0_ n1_ n2_ n3_; clear hb ho13; obtain ⟨Ao14, co14, eo14⟩ := Kd.R_slice HO156.out; subst eo14) | ((with_reducible refine gate_callee (f := 72) rfl ?_); refine goesL_ (some 19) rfl rfl Tryd.func72 (by kernel_rfl) rfl #[.pointer (some ⟨g, 0, none⟩), .slice Ao14 y154.length co14] rfl TA ?_; (with_reducible refine (spec_l1Cur_of.calls g s0_0 t152 t153 _ _ y154 t157 t158 t159 w0 _ ?side1 ?side2 ?side3 ?side4 ?side5 A7.out).mono ?_); (case side1 => repeat (first | (with_reducible first | exact HI0.out | apply IsS51.alloc | apply IsS51.drewN | apply IsS51.drew | apply IsS51.set_1 | apply IsS51.set_2) | exact HI0.out)); (case side2 => repeat (first | (with_reducible first | exact HB.out | apply below_alloc | apply pw_below_drewN | apply below_drew1 | refine below_set ?_ (IsS51.ge HI0.out)) | exact HB.out)); (case side3 => exact CW (Kd.R_reads' HO156.out).2.2); (case side4 => exact (Kd.R_reads' HO156.out).2.1); (case side5 => exact far_slice (IsS51.own_ne HI0.out HO156.out (by decide))); rintro e w15 ⟨rfl, hi, hb, hk⟩; refine ⟨_, rfl, ?_⟩; have n0_ := Aside0.mk (Kd.R_mono (Kd.R_keep (IsS51.apart (show IsS51 w0 _ g s0_0 t152 t153 from by repeat (first | (with_reducible first | exact HI0.out | apply IsS51.alloc | apply IsS51.drewN | apply IsS51.drew | apply IsS51.set_1 | apply IsS51.set_2) | exact HI0.out)) (KR HO156) (by decide)) hk (fun _ h => h.2)) (fun _ h => h.1)); have n1_ := Aside0.mk (KeepBut.trans (by repeat (first | (with_reducible first | exact HK.out | apply KeepBut.set_ | apply keep_drewN | apply keep_drew | apply keep_alloc) | exact HK.out)) hk (.inl rfl)); have n2_ := Aside0.mk (hb); have n3_ := Aside0.mk (hi); clear HO156; clear HK; clear HB; clear HI0; have HO156 := n0_; have HK := n1_; have HB := n2_; have HI0 := n3_; clear n0_ n1_ n2_ n3_; (try clear hb); (try clear hb2); (try clear hk); (try clear hi)))
   go_ret
   exact ⟨RE, by repeat (first | (with_reducible first | exact HI0.out | apply IsS51.alloc | apply IsS51.drewN | apply IsS51.drew | apply IsS51.set_1 | apply IsS51.set_2) | exact HI0.out), by repeat (first | (with_reducible first | exact HB.out | apply below_alloc | apply pw_below_drewN | apply below_drew1 | refine below_set ?_ (IsS51.ge HI0.out)) | exact HB.out), by repeat (first | (with_reducible first | exact HK.out | apply KeepBut.set_ | apply keep_drewN | apply keep_drew | apply keep_alloc) | exact HK.out)⟩
  ·rw [if_neg c8] at H
   cases H
 ·rw [if_neg c6] at H
  have c6b0 : (t151 == 0) = false := beq_eq_false_iff_ne.mpr c6
  have c6b1 : (t151 != 0) = true := bne_iff_ne.mpr c6
  by_cases c16 : t151 = 1
  ·rw [if_pos c16] at H
   have c16b0 : (t151 == 1) = true := beq_iff_eq.mpr c16
   have c16b1 : (t151 != 1) = false := bne_eq_false_iff_eq.mpr c16
   clear c16
   have H' := Aside0.mk H
   clear H
   go_enter Tryd.func44, Tryd.ntmps44
   go_wp2_with (first | ((with_reducible refine gate_callee (f := 46) rfl ?_); refine goesL_ (some 9) rfl rfl Tryd.func46 (by kernel_rfl) rfl #[.pointer (some ⟨g, 0, none⟩), .int .i64 5] rfl TA ?_; (with_reducible refine (spec_l1Cur_one.calls g s0_0 s0_1 s0_2 5 t145 t146 t147 w0 _ ?side1 ?side2 A3.out).mono ?_); (case side1 => repeat (first | (with_reducible first | exact HI0.out | apply IsS51.alloc | apply IsS51.drewN | apply IsS51.drew | apply IsS51.set_1 | apply IsS51.set_2) | exact HI0.out)); (case side2 => repeat (first | (with_reducible first | exact HB.out | apply below_alloc | apply pw_below_drewN | apply below_drew1 | refine below_set ?_ (IsS51.ge HI0.out)) | exact HB.out)); rintro e w17 ⟨rfl, hi, hb, hk⟩; refine ⟨_, rfl, ?_⟩; have n0_ := Aside0.mk (KeepBut.trans (by repeat (first | (with_reducible first | exact HK.out | apply KeepBut.set_ | apply keep_drewN | apply keep_drew | apply keep_alloc) | exact HK.out)) hk (.inl rfl)); have n1_ := Aside0.mk (hb); have n2_ := Aside0.mk (hi); clear HK; clear HB; clear HI0; have HK := n0_; have HB := n1_; have HI0 := n2_; clear n0_ n1_ n2_; (try clear hb); (try clear hb2); (try clear hk); (try clear hi)) | ((with_reducible refine gate_callee (f := 71) rfl ?_); refine goesL_ (some 11) rfl rfl Tryd.func71 (by kernel_rfl) rfl #[.pointer (some ⟨g, 0, none⟩), .int .i64 a1, .bool (!t145)] rfl TA ?_; (with_reducible refine (spec_l1Cur_sureBeads.calls k g s0_0 t146 t147 a1 (!t145) t148 t149 t150 w0 _ ?side1 ?side2 A4.out).mono ?_); (case side1 => repeat (first | (with_reducible first | exact HI0.out | apply IsS51.alloc | apply IsS51.drewN | apply IsS51.drew | apply IsS51.set_1 | apply IsS51.set_2) | exact HI0.out)); (case side2 => repeat (first | (with_reducible first | exact HB.out | apply below_alloc | apply pw_below_drewN | apply below_drew1 | refine below_set ?_ (IsS51.ge HI0.out)) | exact HB.out)); rintro e w18 ⟨rfl, hi, hb, hk⟩; refine ⟨_, rfl, ?_⟩; have n0_ := Aside0.mk (KeepBut.trans (by repeat (first | (with_reducible first | exact HK.out | apply KeepBut.set_ | apply keep_drewN | apply keep_drew | apply keep_alloc) | exact HK.out)) hk (.inl rfl)); have n1_ := Aside0.mk (hb); have n2_ := Aside0.mk (hi); clear HK; clear HB; clear HI0; have HK := n0_; have HB := n1_; have HI0 := n2_; clear n0_ n1_ n2_; (try clear hb); (try clear hb2); (try clear hk); (try clear hi)) | ((with_reducible refine gate_callee (f := 45) rfl ?_); refine goesL_ (some 13) rfl rfl Tryd.func45 (by kernel_rfl) rfl #[.pointer (some ⟨g, 0, none⟩), .int .i64 20] rfl TA ?_; (with_reducible refine (spec_l1Cur_pick.calls g s0_0 t149 t150 20 t151 t152 t153 w0 _ ?side1 ?side2 A5.out).mono ?_); (case side1 => repeat (first | (with_reducible first | exact HI0.out | apply IsS51.alloc | apply IsS51.drewN | apply IsS51.drew | apply IsS51.set_1 | apply IsS51.set_2) | exact HI0.out)); (case side2 => repeat (first | (with_reducible first | exact HB.out | apply below_alloc | apply pw_below_drewN | apply below_drew1 | refine below_set ?_ (IsS51.ge HI0.out)) | exact HB.out)); rintro e w19 ⟨rfl, hi, hb, hk⟩; refine ⟨_, rfl, ?_⟩; have n0_ := Aside0.mk (KeepBut.trans (by repeat (first | (with_reducible first | exact HK.out | apply KeepBut.set_ | apply keep_drewN | apply keep_drew | apply keep_alloc) | exact HK.out)) hk (.inl rfl)); have n1_ := Aside0.mk (hb); have n2_ := Aside0.mk (hi); clear HK; clear HB; clear HI0; have HK := n0_; have HB := n1_; have HI0 := n2_; clear n0_ n1_ n2_; (try clear hb); (try clear hb2); (try clear hk); (try clear hi)))
   go_loopg [5] k (fun kq v5 w' => ∃ (x5_1 : ByteArray) (x1001_1 : Int) (x1002_1 : Int), v5 = .string x5_1 ∧ Aside0 (spec_l1Cur_beads.l0 kq x5_1 s0_0 x1001_1 x1002_1 = some (r1, r2, r3)) ∧ Aside0 (kq ≤ k) ∧ Aside0 (IsS51 w0 w' g s0_0 x1001_1 x1002_1) ∧ Aside0 (KeepBut w w' g none) ∧ Aside0 (Below w0.heap.size w0 w'))
   case atStart => exact ⟨(t148), (t152), (t153), RF, H', ⟨Nat.le_refl _⟩, ⟨by repeat (first | (with_reducible first | exact HI0.out | apply IsS51.alloc | apply IsS51.drewN | apply IsS51.drew | apply IsS51.set_1 | apply IsS51.set_2) | exact HI0.out)⟩, ⟨by repeat (first | (with_reducible first | exact HK.out | apply KeepBut.set_ | apply keep_drewN | apply keep_drew | apply keep_alloc) | exact HK.out)⟩, ⟨by repeat (first | (with_reducible first | exact HB.out | apply below_alloc | apply pw_below_drewN | apply below_drew1 | refine below_set ?_ (IsS51.ge HI0.out)) | exact HB.out)⟩⟩
   case round =>
    clear H'
    try clear c1
    try clear p2
    try clear c4
    try clear c6
    try clear c6b0
    try clear c6b1
    try clear p6
    try clear c7
    try clear c8
    try clear c8b0
    try clear c8b1
    try clear c8b2
    try clear c16
    try clear c16b0
    try clear c16b1
    obtain ⟨x5_1, x1001_1, x1002_1, rfl, HA, HK1, HI0, HK, HB⟩ := hrel
    cases gk with
    | zero => exact absurd HA.out (by simp [spec_l1Cur_beads.l0])
    | succ k1 =>
     have H := HA.out
     clear HA
     simp only [spec_l1Cur_beads.l0] at H
     obtain ⟨⟨t160, t161, t162⟩, A200, H⟩ := Option.bind_eq_some_iff.mp H
     replace H : (if (x5_1.size : Int) < (wrap64 (16 + t160)) then (if x5_1.size + 1 ≤ 9223372036854775807 then (spec_l1Cur_beads.l0 k1 (x5_1 ++ (⟨#[97]⟩ : ByteArray)) s0_0 t161 t162) else (none)) else (some (x5_1, t161, t162))) = some (r1, r2, r3) := H
     have A20 := Aside0.mk A200
     clear A200
     by_cases c21 : (x5_1.size : Int) < (wrap64 (16 + t160))
     ·rw [if_pos c21] at H
      have c21b0 : decide ((x5_1.size : Int) < (wrap64 (16 + t160))) = true := decide_eq_true c21
      clear c21
      by_cases c22 : x5_1.size + 1 ≤ 9223372036854775807
      ·rw [if_pos c22] at H
       have c22b0 := eq_true c22
       have c22b1 : decide (x5_1.size + 1 ≤ 9223372036854775807) = true := decide_eq_true c22
       try have c22b2 : (9223372036854775807 < x5_1.size + 1) = False := eq_false (Nat.not_lt.2 c22)
       have H' := Aside0.mk H
       clear H
       go_wp2_with (first | ((with_reducible refine gate_callee (f := 45) rfl ?_); refine goesL_ (some 26) rfl rfl Tryd.func45 (by kernel_rfl) rfl #[.pointer (some ⟨g, 0, none⟩), .int .i64 2] rfl TA ?_; (with_reducible refine (spec_l1Cur_pick.calls g s0_0 x1001_1 x1002_1 2 t160 t161 t162 w0 _ ?side1 ?side2 A20.out).mono ?_); (case side1 => repeat (first | (with_reducible first | exact HI0.out | apply IsS51.alloc | apply IsS51.drewN | apply IsS51.drew | apply IsS51.set_1 | apply IsS51.set_2) | exact HI0.out)); (case side2 => repeat (first | (with_reducible first | exact HB.out | apply below_alloc | apply pw_below_drewN | apply below_drew1 | refine below_set ?_ (IsS51.ge HI0.out)) | exact HB.out)); rintro e w23 ⟨rfl, hi, hb, hk⟩; refine ⟨_, rfl, ?_⟩; have n0_ := Aside0.mk (KeepBut.trans (by repeat (first | (with_reducible first | exact HK.out | apply KeepBut.set_ | apply keep_drewN | apply keep_drew | apply keep_alloc) | exact HK.out)) hk (.inl rfl)); have n1_ := Aside0.mk (hb); have n2_ := Aside0.mk (hi); clear HK; clear HB; clear HI0; have HK := n0_; have HB := n1_; have HI0 := n2_; clear n0_ n1_ n2_; (try clear hb); (try clear hb2); (try clear hk); (try clear hi)))
       go_roundg k1
       case measure => have := HK1.out; omega
       case rel => exact ⟨(x5_1 ++ (⟨#[97]⟩ : ByteArray)), (t161), (t162), RF, H', ⟨by have := HK1.out; omega⟩, ⟨by repeat (first | (with_reducible first | exact HI0.out | apply IsS51.alloc | apply IsS51.drewN | apply IsS51.drew | apply IsS51.set_1 | apply IsS51.set_2) | exact HI0.out)⟩, ⟨by repeat (first | (with_reducible first | exact HK.out | apply KeepBut.set_ | apply keep_drewN | apply keep_drew | apply keep_alloc) | exact HK.out)⟩, ⟨by repeat (first | (with_reducible first | exact HB.out | apply below_alloc | apply pw_below_drewN | apply below_drew1 | refine below_set ?_ (IsS51.ge HI0.out)) | exact HB.out)⟩⟩
      ·rw [if_neg c22] at H
       cases H
     ·rw [if_neg c21] at H
      have c21b0 : decide ((x5_1.size : Int) < (wrap64 (16 + t160))) = false := decide_eq_false c21
      clear c21
      simp only [Option.some.injEq, Prod.mk.injEq] at H
      obtain ⟨rfl, rfl, rfl⟩ := H
      go_wp2_with (first | ((with_reducible refine gate_callee (f := 45) rfl ?_); refine goesL_ (some 26) rfl rfl Tryd.func45 (by kernel_rfl) rfl #[.pointer (some ⟨g, 0, none⟩), .int .i64 2] rfl TA ?_; (with_reducible refine (spec_l1Cur_pick.calls g s0_0 x1001_1 x1002_1 2 t160 t161 t162 w0 _ ?side1 ?side2 A20.out).mono ?_); (case side1 => repeat (first | (with_reducible first | exact HI0.out | apply IsS51.alloc | apply IsS51.drewN | apply IsS51.drew | apply IsS51.set_1 | apply IsS51.set_2) | exact HI0.out)); (case side2 => repeat (first | (with_reducible first | exact HB.out | apply below_alloc | apply pw_below_drewN | apply below_drew1 | refine below_set ?_ (IsS51.ge HI0.out)) | exact HB.out)); rintro e w24 ⟨rfl, hi, hb, hk⟩; refine ⟨_, rfl, ?_⟩; have n0_ := Aside0.mk (KeepBut.trans (by repeat (first | (with_reducible first | exact HK.out | apply KeepBut.set_ | apply keep_drewN | apply keep_drew | apply keep_alloc) | exact HK.out)) hk (.inl rfl)); have n1_ := Aside0.mk (hb); have n2_ := Aside0.mk (hi); clear HK; clear HB; clear HI0; have HK := n0_; have HB := n1_; have HI0 := n2_; clear n0_ n1_ n2_; (try clear hb); (try clear hb2); (try clear hk); (try clear hi)))
      go_ret
      exact ⟨RE, by repeat (first | (with_reducible first | exact HI0.out | apply IsS51.alloc | apply IsS51.drewN | apply IsS51.drew | apply IsS51.set_1 | apply IsS51.set_2) | exact HI0.out), by repeat (first | (with_reducible first | exact HB.out | apply below_alloc | apply pw_below_drewN | apply below_drew1 | refine below_set ?_ (IsS51.ge HI0.out)) | exact HB.out), by repeat (first | (with_reducible first | exact HK.out | apply KeepBut.set_ | apply keep_drewN | apply keep_drew | apply keep_alloc) | exact HK.out)⟩
  ·rw [if_neg c16] at H
   have c16b0 : (t151 == 1) = false := beq_eq_false_iff_ne.mpr c16
   have c16b1 : (t151 != 1) = true := bne_iff_ne.mpr c16
   simp only [Option.some.injEq, Prod.mk.injEq] at H
   obtain ⟨rfl, rfl, rfl⟩ := H
   go_enter Tryd.func44, Tryd.ntmps44
   go_wp2_with (first | ((with_reducible refine gate_callee (f := 46) rfl ?_); refine goesL_ (some 9) rfl rfl Tryd.func46 (by kernel_rfl) rfl #[.pointer (some ⟨g, 0, none⟩), .int .i64 5] rfl TA ?_; (with_reducible refine (spec_l1Cur_one.calls g s0_0 s0_1 s0_2 5 t145 t146 t147 w0 _ ?side1 ?side2 A3.out).mono ?_); (case side1 => repeat (first | (with_reducible first | exact HI0.out | apply IsS51.alloc | apply IsS51.drewN | apply IsS51.drew | apply IsS51.set_1 | apply IsS51.set_2) | exact HI0.out)); (case side2 => repeat (first | (with_reducible first | exact HB.out | apply below_alloc | apply pw_below_drewN | apply below_drew1 | refine below_set ?_ (IsS51.ge HI0.out)) | exact HB.out)); rintro e w25 ⟨rfl, hi, hb, hk⟩; refine ⟨_, rfl, ?_⟩; have n0_ := Aside0.mk (KeepBut.trans (by repeat (first | (with_reducible first | exact HK.out | apply KeepBut.set_ | apply keep_drewN | apply keep_drew | apply keep_alloc) | exact HK.out)) hk (.inl rfl)); have n1_ := Aside0.mk (hb); have n2_ := Aside0.mk (hi); clear HK; clear HB; clear HI0; have HK := n0_; have HB := n1_; have HI0 := n2_; clear n0_ n1_ n2_; (try clear hb); (try clear hb2); (try clear hk); (try clear hi)) | ((with_reducible refine gate_callee (f := 71) rfl ?_); refine goesL_ (some 11) rfl rfl Tryd.func71 (by kernel_rfl) rfl #[.pointer (some ⟨g, 0, none⟩), .int .i64 a1, .bool (!t145)] rfl TA ?_; (with_reducible refine (spec_l1Cur_sureBeads.calls k g s0_0 t146 t147 a1 (!t145) t148 t149 t150 w0 _ ?side1 ?side2 A4.out).mono ?_); (case side1 => repeat (first | (with_reducible first | exact HI0.out | apply IsS51.alloc | apply IsS51.drewN | apply IsS51.drew | apply IsS51.set_1 | apply IsS51.set_2) | exact HI0.out)); (case side2 => repeat (first | (with_reducible first | exact HB.out | apply below_alloc | apply pw_below_drewN | apply below_drew1 | refine below_set ?_ (IsS51.ge HI0.out)) | exact HB.out)); rintro e w26 ⟨rfl, hi, hb, hk⟩; refine ⟨_, rfl, ?_⟩; have n0_ := Aside0.mk (KeepBut.trans (by repeat (first | (with_reducible first | exact HK.out | apply KeepBut.set_ | apply keep_drewN | apply keep_drew | apply keep_alloc) | exact HK.out)) hk (.inl rfl)); have n1_ := Aside0.mk (hb); have n2_ := Aside0.mk (hi); clear HK; clear HB; clear HI0; have HK := n0_; have HB := n1_; have HI0 := n2_; clear n0_ n1_ n2_; (try clear hb); (try clear hb2); (try clear hk); (try clear hi)) | ((with_reducible refine gate_callee (f := 45) rfl ?_); refine goesL_ (some 13) rfl rfl Tryd.func45 (by kernel_rfl) rfl #[.pointer (some ⟨g, 0, none⟩), .int .i64 20] rfl TA ?_; (with_reducible refine (spec_l1Cur_pick.calls g s0_0 t149 t150 20 t151 t152 t153 w0 _ ?side1 ?side2 A5.out).mono ?_); (case side1 => repeat (first | (with_reducible first | exact HI0.out | apply IsS51.alloc | apply IsS51.drewN | apply IsS51.drew | apply IsS51.set_1 | apply IsS51.set_2) | exact HI0.out)); (case side2 => repeat (first | (with_reducible first | exact HB.out | apply below_alloc | apply pw_below_drewN | apply below_drew1 | refine below_set ?_ (IsS51.ge HI0.out)) | exact HB.out)); rintro e w27 ⟨rfl, hi, hb, hk⟩; refine ⟨_, rfl, ?_⟩; have n0_ := Aside0.mk (KeepBut.trans (by repeat (first | (with_reducible first | exact HK.out | apply KeepBut.set_ | apply keep_drewN | apply keep_drew | apply keep_alloc) | exact HK.out)) hk (.inl rfl)); have n1_ := Aside0.mk (hb); have n2_ := Aside0.mk (hi); clear HK; clear HB; clear HI0; have HK := n0_; have HB := n1_; have HI0 := n2_; clear n0_ n1_ n2_; (try clear hb); (try clear hb2); (try clear hk); (try clear hi)))
   go_ret
   exact ⟨RE, by repeat (first | (with_reducible first | exact HI0.out | apply IsS51.alloc | apply IsS51.drewN | apply IsS51.drew | apply IsS51.set_1 | apply IsS51.set_2) | exact HI0.out), by repeat (first | (with_reducible first | exact HB.out | apply below_alloc | apply pw_below_drewN | apply below_drew1 | refine below_set ?_ (IsS51.ge HI0.out)) | exact HB.out), by repeat (first | (with_reducible first | exact HK.out | apply KeepBut.set_ | apply keep_drewN | apply keep_drew | apply keep_alloc) | exact HK.out)⟩

/-! ### spec_DrawHalfWindow: function 19 -/
def spec_DrawHalfWindow.l0 : Nat → ByteArray → ByteArray → Int → Option (ByteArray)
 | 0, _, _, _ => none
 | k + 1, x4, x5, x6 => if x6 < (x4.size : Int) then (if 0 ≤ x6 then (if (bt x4 x6) = 99 then (if x5.size + 1 ≤ 9223372036854775807 then (spec_DrawHalfWindow.l0 k x4 (x5 ++ (⟨#[98]⟩ : ByteArray)) (wrap64 (x6 + 1))) else (none)) else (if (bt x4 x6) = 100 then (if x5.size + 1 ≤ 9223372036854775807 then (spec_DrawHalfWindow.l0 k x4 (x5 ++ (⟨#[98]⟩ : ByteArray)) (wrap64 (x6 + 1))) else (none)) else (if x6 ≤ (wrap64 (x6 + 1)) then (if (wrap64 (x6 + 1)) ≤ (x4.size : Int) then (if x5.size + (x4.extract (x6 : Int).toNat ((wrap64 (x6 + 1)) : Int).toNat).size ≤ 9223372036854775807 then (spec_DrawHalfWindow.l0 k x4 (x5 ++ (x4.extract (x6 : Int).toNat ((wrap64 (x6 + 1)) : Int).toNat)) (wrap64 (x6 + 1))) else (none)) else (none)) else (none)))) else (none)) else (some x5)
def spec_DrawHalfWindow.f (k : Nat) (l0 : List Int) : Option (ByteArray) := (spec_l1Cur_beads.f k l0 0 0 16).bind fun bt164 => ((spec_l1Cur_one.f l0 bt164.2.1 bt164.2.2 2).bind fun bt167 => (if bt167.1 = true then (some bt164.1) else (spec_DrawHalfWindow.l0 k bt164.1 (⟨#[]⟩ : ByteArray) 0)))
theorem spec_DrawHalfWindow.mono_l : ∀ k, (∀ y0 y1 y2, LeO (spec_DrawHalfWindow.l0 k y0 y1 y2) (spec_DrawHalfWindow.l0 (k + 1) y0 y1 y2))
 | 0 => fun _ _ _ r h => by simp [spec_DrawHalfWindow.l0] at h
 | k + 1 => by
  have ih0 := spec_DrawHalfWindow.mono_l k
  ·intro y0 y1 y2
   unfold spec_DrawHalfWindow.l0
   repeat' first
   | with_reducible first | exact ih0 _ _ _ | exact spec_l1Cur_beads.mono _ _ _ _ _ | exact LeO.refl _ | exact LeO.none _ | refine LeO.ite ?_ ?_ | refine LeO.bind ?_ (fun _ => ?_)
   | exact LeO.none _ | refine LeO.ite ?_ ?_ | refine LeO.bind ?_ (fun _ => ?_)
theorem spec_DrawHalfWindow.mono : ∀ a0 k, LeO (spec_DrawHalfWindow.f k a0) (spec_DrawHalfWindow.f (k + 1) a0) := by
 intro a0 k
 have ih0 := spec_DrawHalfWindow.mono_l k
 unfold spec_DrawHalfWindow.f
 repeat' first
   | with_reducible first | exact ih0 _ _ _ | exact spec_l1Cur_beads.mono _ _ _ _ _ | exact LeO.refl _ | exact LeO.none _ | refine LeO.ite ?_ ?_ | refine LeO.bind ?_ (fun _ => ?_)
   | exact LeO.none _ | refine LeO.ite ?_ ?_ | refine LeO.bind ?_ (fun _ => ?_)
theorem spec_DrawHalfWindow.calls (k : Nat) (A0 : Option Addr) (c0 : Nat) (l0 : List Int) (r : ByteArray) (w : World) (hr0 : Kd.C (Kd.int .u8) w A0 l0.length l0) (hc0 : l0.length ≤ c0) (h : spec_DrawHalfWindow.f k l0 = some r) :
  Calls Tryd.prog 19 #[.slice A0 l0.length c0] w fun e w' => e = .returned (.string r) ∧ Below w.heap.size w w' := by
 have hu51 := Tryd.underlying51
 have HR0 := Aside0.mk hr0
 have HC0 := Aside0.mk hc0
 clear hr0 hc0
 have HB := Aside0.mk (Below.refl w.heap.size w)
 have H : ((spec_l1Cur_beads.f k l0 0 0 16).bind fun bt164 => ((spec_l1Cur_one.f l0 bt164.2.1 bt164.2.2 2).bind fun bt167 => (if bt167.1 = true then (some bt164.1) else (spec_DrawHalfWindow.l0 k bt164.1 (⟨#[]⟩ : ByteArray) 0)))) = some r := h
 clear h
 obtain ⟨⟨t164, t165, t166⟩, A20, H⟩ := Option.bind_eq_some_iff.mp H
 replace H : ((spec_l1Cur_one.f l0 t165 t166 2).bind fun bt167 => (if bt167.1 = true then (some t164) else (spec_DrawHalfWindow.l0 k t164 (⟨#[]⟩ : ByteArray) 0))) = some r := H
 have A2 := Aside0.mk A20
 clear A20
 obtain ⟨⟨t167, t168, t169⟩, A30, H⟩ := Option.bind_eq_some_iff.mp H
 replace H : (if t167 = true then (some t164) else (spec_DrawHalfWindow.l0 k t164 (⟨#[]⟩ : ByteArray) 0)) = some r := H
 have A3 := Aside0.mk A30
 clear A30
 by_cases c4 : t167 = true
 ·subst c4
  replace H := IP H
  obtain rfl := Option.some.inj H
  go_enter Tryd.func19, Tryd.ntmps19
  go_wp2_with (first | ((with_reducible refine gate_dst (N := 9) rfl ?_); refine box_event ?hg (N := 9) ?hd (cs := #[.slice A0 l0.length c0, .int .i64 0, .int .u64 0]) (t := 51) ?hr ?_; (case hd => rfl); (case hg => rfl); (case hr => exact GS); intro gb163 hg w5 hbox hb; have n0_ := Aside0.mk (below_step BB hb); have n1_ := Aside0.mk ((by rw [hg]; exact (below_size BB) : w.heap.size ≤ gb163)); have n2_ := Aside0.mk ((by rw [hg]; exact (below_size BB) : w.heap.size ≤ gb163)); have n3_ := Aside0.mk ((show IsS51 w w5 gb163 l0 0 0 from ⟨A0, c0, hbox, (by rw [hg]; exact (below_size BB) : w.heap.size ≤ gb163), HR0.out⟩)); clear HB; have HB := n0_; have GW163 := n1_; have GE163 := n2_; have HI163 := n3_; clear n0_ n1_ n2_ n3_; clear hb hbox hg) | ((with_reducible refine gate_callee (f := 44) rfl ?_); refine goesL_ (some 11) rfl rfl Tryd.func44 (by kernel_rfl) rfl #[.pointer (some ⟨gb163, 0, none⟩), .int .i64 16] rfl TA ?_; (with_reducible refine (spec_l1Cur_beads.calls k gb163 l0 0 0 16 t164 t165 t166 w _ ?side1 ?side2 A2.out).mono ?_); (case side1 => repeat (first | (with_reducible first | exact HI163.out | apply IsS51.alloc | apply IsS51.drewN | apply IsS51.drew | apply IsS51.set_1 | apply IsS51.set_2) | exact HI163.out)); (case side2 => repeat (first | (with_reducible first | exact HB.out | apply below_alloc | apply pw_below_drewN | apply below_drew1 | refine below_set ?_ (IsS51.ge HI163.out)) | exact HB.out)); rintro e w6 ⟨rfl, hi, hb, hk⟩; refine ⟨_, rfl, ?_⟩; have n0_ := Aside0.mk (hb); have n1_ := Aside0.mk (hi); clear HB; clear HI163; have HB := n0_; have HI163 := n1_; clear n0_ n1_; (try clear hb); (try clear hb2); (try clear hk); (try clear hi)) | ((with_reducible refine gate_callee (f := 46) rfl ?_); refine goesL_ (some 13) rfl rfl Tryd.func46 (by kernel_rfl) rfl #[.pointer (some ⟨gb163, 0, none⟩), .int .i64 2] rfl TA ?_; (with_reducible refine (spec_l1Cur_one.calls gb163 l0 t165 t166 2 true t168 t169 w _ ?side1 ?side2 A3.out).mono ?_); (case side1 => repeat (first | (with_reducible first | exact HI163.out | apply IsS51.alloc | apply IsS51.drewN | apply IsS51.drew | apply IsS51.set_1 | apply IsS51.set_2) | exact HI163.out)); (case side2 => repeat (first | (with_reducible first | exact HB.out | apply below_alloc | apply pw_below_drewN | apply below_drew1 | refine below_set ?_ (IsS51.ge HI163.out)) | exact HB.out)); rintro e w7 ⟨rfl, hi, hb, hk⟩; refine ⟨_, rfl, ?_⟩; have n0_ := Aside0.mk (hb); have n1_ := Aside0.mk (hi); clear HB; clear HI163; have HB := n0_; have HI163 := n1_; clear n0_ n1_; (try clear hb); (try clear hb2); (try clear hk); (try clear hi)))
  go_ret
  exact ⟨RE, by repeat (first | (with_reducible first | exact HB.out | apply below_alloc | apply pw_below_drewN | apply below_drew1 | refine below_set ?_ (IsS51.ge HI163.out)) | exact HB.out)⟩
 ·replace c4 := Bool.eq_false_iff.mpr c4
  subst c4
  replace H := IN H
  have H' := Aside0.mk H
  clear H
  go_enter Tryd.func19, Tryd.ntmps19
  go_wp2_with (first | ((with_reducible refine gate_dst (N := 9) rfl ?_); refine box_event ?hg (N := 9) ?hd (cs := #[.slice A0 l0.length c0, .int .i64 0, .int .u64 0]) (t := 51) ?hr ?_; (case hd => rfl); (case hg => rfl); (case hr => exact GS); intro gb163 hg w8 hbox hb; have n0_ := Aside0.mk (below_step BB hb); have n1_ := Aside0.mk ((by rw [hg]; exact (below_size BB) : w.heap.size ≤ gb163)); have n2_ := Aside0.mk ((by rw [hg]; exact (below_size BB) : w.heap.size ≤ gb163)); have n3_ := Aside0.mk ((show IsS51 w w8 gb163 l0 0 0 from ⟨A0, c0, hbox, (by rw [hg]; exact (below_size BB) : w.heap.size ≤ gb163), HR0.out⟩)); clear HB; have HB := n0_; have GW163 := n1_; have GE163 := n2_; have HI163 := n3_; clear n0_ n1_ n2_ n3_; clear hb hbox hg) | ((with_reducible refine gate_callee (f := 44) rfl ?_); refine goesL_ (some 11) rfl rfl Tryd.func44 (by kernel_rfl) rfl #[.pointer (some ⟨gb163, 0, none⟩), .int .i64 16] rfl TA ?_; (with_reducible refine (spec_l1Cur_beads.calls k gb163 l0 0 0 16 t164 t165 t166 w _ ?side1 ?side2 A2.out).mono ?_); (case side1 => repeat (first | (with_reducible first | exact HI163.out | apply IsS51.alloc | apply IsS51.drewN | apply IsS51.drew | apply IsS51.set_1 | apply IsS51.set_2) | exact HI163.out)); (case side2 => repeat (first | (with_reducible first | exact HB.out | apply below_alloc | apply pw_below_drewN | apply below_drew1 | refine below_set ?_ (IsS51.ge HI163.out)) | exact HB.out)); rintro e w9 ⟨rfl, hi, hb, hk⟩; refine ⟨_, rfl, ?_⟩; have n0_ := Aside0.mk (hb); have n1_ := Aside0.mk (hi); clear HB; clear HI163; have HB := n0_; have HI163 := n1_; clear n0_ n1_; (try clear hb); (try clear hb2); (try clear hk); (try clear hi)) | ((with_reducible refine gate_callee (f := 46) rfl ?_); refine goesL_ (some 13) rfl rfl Tryd.func46 (by kernel_rfl) rfl #[.pointer (some ⟨gb163, 0, none⟩), .int .i64 2] rfl TA ?_; (with_reducible refine (spec_l1Cur_one.calls gb163 l0 t165 t166 2 false t168 t169 w _ ?side1 ?side2 A3.out).mono ?_); (case side1 => repeat (first | (with_reducible first | exact HI163.out | apply IsS51.alloc | apply IsS51.drewN | apply IsS51.drew | apply IsS51.set_1 | apply IsS51.set_2) | exact HI163.out)); (case side2 => repeat (first | (with_reducible first | exact HB.out | apply below_alloc | apply pw_below_drewN | apply below_drew1 | refine below_set ?_ (IsS51.ge HI163.out)) | exact HB.out)); rintro e w10 ⟨rfl, hi, hb, hk⟩; refine ⟨_, rfl, ?_⟩; have n0_ := Aside0.mk (hb); have n1_ := Aside0.mk (hi); clear HB; clear HI163; have HB := n0_; have HI163 := n1_; clear n0_ n1_; (try clear hb); (try clear hb2); (try clear hk); (try clear hi)))
  go_loopg [5, 6] k (fun kq v5 v6 w' => ∃ (x5_1 : ByteArray) (x6_1 : Int), v5 = .string x5_1 ∧ v6 = .int .i64 x6_1 ∧ Aside0 (spec_DrawHalfWindow.l0 kq t164 x5_1 x6_1 = some r) ∧ Aside0 (kq ≤ k) ∧ Aside0 (Below w.heap.size w w'))
  case atStart => exact ⟨((⟨#[]⟩ : ByteArray)), (0), RF, RF, H', ⟨Nat.le_refl _⟩, ⟨by repeat (first | (with_reducible first | exact HB.out | apply below_alloc | apply pw_below_drewN | apply below_drew1 | refine below_set ?_ (IsS51.ge HI163.out)) | exact HB.out)⟩⟩
  case round =>
   clear H'
   try clear c1
   try clear p2
   try clear c4
   try clear p6
   obtain ⟨x5_1, x6_1, rfl, rfl, HA, HK1, HB⟩ := hrel
   cases gk with
   | zero => exact absurd HA.out (by simp [spec_DrawHalfWindow.l0])
   | succ k1 =>
    have H := HA.out
    clear HA
    simp only [spec_DrawHalfWindow.l0] at H
    by_cases c11 : x6_1 < (t164.size : Int)
    ·rw [if_pos c11] at H
     have c11b0 : decide (x6_1 < (t164.size : Int)) = true := decide_eq_true c11
     clear c11
     by_cases c12 : 0 ≤ x6_1
     ·rw [if_pos c12] at H
      have c12b0 : decide (0 ≤ x6_1) = true := decide_eq_true c12
      clear c12
      by_cases c14 : (bt t164 x6_1) = 99
      ·rw [if_pos c14] at H
       have c14b0 : ((bt t164 x6_1) == 99) = true := beq_iff_eq.mpr c14
       have c14b1 : ((bt t164 x6_1) != 99) = false := bne_eq_false_iff_eq.mpr c14
       clear c14
       by_cases c15 : x5_1.size + 1 ≤ 9223372036854775807
       ·rw [if_pos c15] at H
        have c15b0 := eq_true c15
        have c15b1 : decide (x5_1.size + 1 ≤ 9223372036854775807) = true := decide_eq_true c15
        try have c15b2 : (9223372036854775807 < x5_1.size + 1) = False := eq_false (Nat.not_lt.2 c15)
        have H' := Aside0.mk H
        clear H
        have p13 : 0 ≤ (x6_1 : Int) := of_decide_eq_true AS
        have q13 : x6_1 < (t164.size : Int) := of_decide_eq_true AS
        have hx13 := bt_at t164 x6_1
        replace p13 := eq_true p13
        replace q13 := eq_true q13
        go_wp2
        go_roundg k1
        case measure => have := HK1.out; omega
        case rel => exact ⟨(x5_1 ++ (⟨#[98]⟩ : ByteArray)), (wrap64 (x6_1 + 1)), RF, RF, H', ⟨by have := HK1.out; omega⟩, ⟨BB⟩⟩
       ·rw [if_neg c15] at H
        cases H
      ·rw [if_neg c14] at H
       have c14b0 : ((bt t164 x6_1) == 99) = false := beq_eq_false_iff_ne.mpr c14
       have c14b1 : ((bt t164 x6_1) != 99) = true := bne_iff_ne.mpr c14
       by_cases c17 : (bt t164 x6_1) = 100
       ·rw [if_pos c17] at H
        have c17b0 : ((bt t164 x6_1) == 100) = true := beq_iff_eq.mpr c17
        have c17b1 : ((bt t164 x6_1) != 100) = false := bne_eq_false_iff_eq.mpr c17
        clear c17
        by_cases c18 : x5_1.size + 1 ≤ 9223372036854775807
        ·rw [if_pos c18] at H
         have c18b0 := eq_true c18
         have c18b1 : decide (x5_1.size + 1 ≤ 9223372036854775807) = true := decide_eq_true c18
         try have c18b2 : (9223372036854775807 < x5_1.size + 1) = False := eq_false (Nat.not_lt.2 c18)
         have H' := Aside0.mk H
         clear H
         have p13 : 0 ≤ (x6_1 : Int) := of_decide_eq_true AS
         have q13 : x6_1 < (t164.size : Int) := of_decide_eq_true AS
         have hx13 := bt_at t164 x6_1
         replace p13 := eq_true p13
         replace q13 := eq_true q13
         have p16 : 0 ≤ (x6_1 : Int) := of_decide_eq_true AS
         have q16 : x6_1 < (t164.size : Int) := of_decide_eq_true AS
         have hx16 := bt_at t164 x6_1
         replace p16 := eq_true p16
         replace q16 := eq_true q16
         go_wp2
         go_roundg k1
         case measure => have := HK1.out; omega
         case rel => exact ⟨(x5_1 ++ (⟨#[98]⟩ : ByteArray)), (wrap64 (x6_1 + 1)), RF, RF, H', ⟨by have := HK1.out; omega⟩, ⟨BB⟩⟩
        ·rw [if_neg c18] at H
         cases H
       ·rw [if_neg c17] at H
        have c17b0 : ((bt t164 x6_1) == 100) = false := beq_eq_false_iff_ne.mpr c17
        have c17b1 : ((bt t164 x6_1) != 100) = true := bne_iff_ne.mpr c17
        have c19b0 := eq_true (of_decide_eq_true AS : 0 ≤ x6_1)
        by_cases c20 : x6_1 ≤ (wrap64 (x6_1 + 1))
        ·rw [if_pos c20] at H
         have c20b0 := eq_true c20
         have c20b1 : decide (x6_1 ≤ (wrap64 (x6_1 + 1))) = true := decide_eq_true c20
         by_cases c21 : (wrap64 (x6_1 + 1)) ≤ (t164.size : Int)
         ·rw [if_pos c21] at H
          have c21b0 := eq_true c21
          have c21b1 : decide ((wrap64 (x6_1 + 1)) ≤ (t164.size : Int)) = true := decide_eq_true c21
          by_cases c22 : x5_1.size + (t164.extract (x6_1 : Int).toNat ((wrap64 (x6_1 + 1)) : Int).toNat).size ≤ 9223372036854775807
          ·rw [if_pos c22] at H
           have c22b0 := eq_true c22
           have c22b1 : decide (x5_1.size + (t164.extract (x6_1 : Int).toNat ((wrap64 (x6_1 + 1)) : Int).toNat).size ≤ 9223372036854775807) = true := decide_eq_true c22
           try have c22b2 : (9223372036854775807 < x5_1.size + (t164.extract (x6_1 : Int).toNat ((wrap64 (x6_1 + 1)) : Int).toNat).size) = False := eq_false (Nat.not_lt.2 c22)
           have H' := Aside0.mk H
           clear H
           have p13 : 0 ≤ (x6_1 : Int) := of_decide_eq_true AS
           have q13 : x6_1 < (t164.size : Int) := of_decide_eq_true AS
           have hx13 := bt_at t164 x6_1
           replace p13 := eq_true p13
           replace q13 := eq_true q13
           have p16 : 0 ≤ (x6_1 : Int) := of_decide_eq_true AS
           have q16 : x6_1 < (t164.size : Int) := of_decide_eq_true AS
           have hx16 := bt_at t164 x6_1
           replace p16 := eq_true p16
           replace q16 := eq_true q16
           go_wp2
           go_roundg k1
           case measure => have := HK1.out; omega
           case rel => exact ⟨(x5_1 ++ (t164.extract (x6_1 : Int).toNat ((wrap64 (x6_1 + 1)) : Int).toNat)), (wrap64 (x6_1 + 1)), RF, RF, H', ⟨by have := HK1.out; omega⟩, ⟨BB⟩⟩
          ·rw [if_neg c22] at H
           cases H
         ·rw [if_neg c21] at H
          cases H
        ·rw [if_neg c20] at H
         cases H
     ·rw [if_neg c12] at H
      cases H
    ·rw [if_neg c11] at H
     have c11b0 : decide (x6_1 < (t164.size : Int)) = false := decide_eq_false c11
     clear c11
     obtain rfl := Option.some.inj H
     go_wp2
     go_ret
     exact ⟨RE, BB⟩

-- NOT PRINTED: function 69 (slices_IndexFunc_int_int_69)

-- NOT PRINTED: function 39 (slices_ContainsFunc_int_int)

/-! ### impl_kinds_1: function 76 -/
def impl_kinds_1.f (a0 : Int) : Option (Bool) := some (decide (a0 > 0))
theorem impl_kinds_1.calls (a0 : Int) (r : Bool) (w : World) (h : impl_kinds_1.f a0 = some r) :
  Calls Tryd.prog 76 #[.int .i64 a0] w fun e w' => e = .returned (.bool r) ∧ Drawn0 w w' := by
 have H : (some (decide (a0 > 0))) = some r := h
 clear h
 obtain rfl := Option.some.inj H
 go_enter Tryd.func76, Tryd.ntmps76
 go_wp2
 go_ret
 exact ⟨RF, DR⟩

/-! ### impl_kinds: function 53 (given) -/
def impl_kinds.f (k : Nat) (a0 : ByteArray) : Option Int := (impl_counts.f k a0).bind fun t => if 0 < t.length then some (wrap64 (4 - ((t.filter fun x => !decide (0 < x)).length : Int))) else none
theorem impl_kinds.mono : ∀ a0 k, LeO (impl_kinds.f k a0) (impl_kinds.f (k + 1) a0) := by
 intro a0 k
 unfold impl_kinds.f
 exact LeO.bind (impl_counts.mono _ _) (fun _ => LeO.refl _)
set_option maxHeartbeats 4000000 in
set_option maxRecDepth 100000 in
theorem impl_kinds.calls (k : Nat) (a0 : ByteArray) (r : Int) (w : World) (h : impl_kinds.f k a0 = some r) :
  Calls Tryd.prog 53 #[.string a0] w fun e w' => e = .returned (.int .i64 r) ∧ Below w.heap.size w w' := by
 unfold impl_kinds.f at h
 obtain ⟨t, ht, h2⟩ := Option.bind_eq_some_iff.mp h
 clear h
 have HT := Aside0.mk ht
 clear ht
 by_cases hc : 0 < t.length
 ·rw [if_pos hc] at h2
  have HRR := Aside0.mk (Option.some.inj h2)
  have HC := Aside0.mk hc
  clear h2 hc
  have eg : ∀ args w, (callFunc 76 args).run Tryd.prog w = .ok (.enter 76 args) w := Go.Proofs.enters_of Tryd.func76 (by kernel_rfl) rfl
  have HEG := Aside0.mk eg
  clear eg
  have hcl : ∀ (x : Int) (W : World), Calls Tryd.prog 76 (#[.int .i64 x] ++ #[]) W fun e W' => e = .returned (.bool (decide (0 < x))) ∧ ∃ n, W' = W.drewN n := fun x W => (impl_kinds_1.calls x (decide (0 < x)) W rfl).mono (fun e W' hh => ⟨hh.1, hh.2.out⟩)
  have HCL := Aside0.mk hcl
  clear hcl
  go_enter Tryd.func53, Tryd.ntmps53
  go_wp2_with (first
   | (go_at_call 43; refine (impl_counts.calls k a0 t w HT.out).mono ?_; rintro e w1 ⟨v0, rfl, hS, hb⟩; have HS := Aside0.mk hS; have HB1 := Aside0.mk hb; clear hS hb)
   | (go_at_call 75; refine (deleteI 76 #[] HEG.out (fun x => decide (0 < x)) HS.out HC.out (fun x W _ _ _ _ => HCL.out x W)).mono ?_; rintro e w2 ⟨v1, rfl, hS2, hob, hos, htp, hout, hK⟩; have HS2 := Aside0.mk hS2; have HE := Aside0.mk (And.intro hob (And.intro hos (And.intro htp (And.intro hout hK)))); clear hob hos htp hout hK; obtain ⟨A1, c1, hv1⟩ := Kd.R_slice hS2; clear hS2; subst hv1))
  go_ret
  have hE := HE.out
  have hv0 : ∀ q, v0.ownBlock = some q → w.heap.size ≤ q := fun q hq => Kd.R_base HS.out q hq
  refine ⟨by rw [← HRR.out]; rfl, ?_⟩
  exact ⟨hE.2.1.trans HB1.out.os, hE.2.2.1.trans HB1.out.tape, hE.2.2.2.1.trans HB1.out.output, Nat.le_trans HB1.out.size hE.2.2.2.2.1, fun q hq => (hE.2.2.2.2.2 q (Nat.lt_of_lt_of_le hq HB1.out.size) (fun e => by have := hv0 q e.symm; omega)).trans (HB1.out.block q hq)⟩
 ·rw [if_neg hc] at h2
  cases h2

/-! ### impl_window: function 55 (given) -/
def impl_window.f (a0 : ByteArray) (a1 : Int) (a2 : Int) : Option (ByteArray) := if (decide (a0.size + a0.size ≤ 9223372036854775807) && decide (0 ≤ a1) && decide (a1 ≤ wrap64 (a1 + a2)) && decide (wrap64 (a1 + a2) ≤ ((a0 ++ a0).size : Int))) = true then some ((a0 ++ a0).extract a1.toNat (wrap64 (a1 + a2)).toNat) else none
set_option maxHeartbeats 4000000 in
set_option maxRecDepth 100000 in
theorem impl_window.calls (a0 : ByteArray) (a1 a2 : Int) (r : ByteArray) (w : World) (h : impl_window.f a0 a1 a2 = some r) :
  Calls Tryd.prog 55 #[.string a0, .int .i64 a1, .int .i64 a2] w fun e w' => e = .returned (.string r) ∧ Drawn0 w w' := by
 unfold impl_window.f at h
 split at h
 ·rename_i hc
  simp only [Bool.and_eq_true, decide_eq_true_eq] at hc
  obtain ⟨⟨⟨h1, h2⟩, h3⟩, h4⟩ := hc
  cases h
  have sl : ∀ w : World, (Instr.slice 9 (.string (a0 ++ a0)) (some (.int .i64 a1)) (some (.int .i64 (wrap64 (a1 + a2)))) none).run Tryd.prog w = .ok (.string ((a0 ++ a0).extract a1.toNat (wrap64 (a1 + a2)).toNat)) w := fun w => by
   exact Go.run_slice_string w 9 (a0 ++ a0) .i64 .i64 a1 (wrap64 (a1 + a2)) Tryd.underlying9 h2 h3 h4
  go_enter Tryd.func55, Tryd.ntmps55
  go_wp2
  go_ret
  exact ⟨rfl, by repeat (first | exact Drawn0.refl _ | apply Drawn0.step)⟩
 ·cases h

/-! ### impl_HalfWindow_1: function 54 -/
def impl_HalfWindow_1.f (a0 : Int) : Option (Bool) := some ((Int.tmod a0 2) != 0)
theorem impl_HalfWindow_1.calls (a0 : Int) (r : Bool) (w : World) (h : impl_HalfWindow_1.f a0 = some r) :
  Calls Tryd.prog 54 #[.int .i64 a0] w fun e w' => e = .returned (.bool r) ∧ Drawn0 w w' := by
 have H : (some ((Int.tmod a0 2) != 0)) = some r := h
 clear h
 obtain rfl := Option.some.inj H
 go_enter Tryd.func54, Tryd.ntmps54
 go_wp2
 go_ret
 exact ⟨RF, DR⟩

end Go.Proofs.YtafjjbkkcedgnaaDoor.PFnHalfWindows
