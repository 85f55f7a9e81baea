-- Written by a program of this session (wip/tools/pp.sh) out of the translation; Lean checks it.
import Derived.Test.YtlhilhimpbfllabDoorPFnExactRenameBeadsx0
import Derived.Test.YtlhilhimpbfllabDoorPFnExactRenameBeadsx1
namespace Go.Proofs.YtlhilhimpbfllabDoor.PFnExactRenameBeads
open Go.RowKit Go.Proofs.YtlhilhimpbfllabDoorOwn Go.Proofs.YtlhilhimpbfllabDoorW.PrintWords Go.Proofs.YtlhilhimpbfllabDoorW.PrintLast Go.Proofs.YtlhilhimpbfllabDoorW.PrintMore
attribute [local go_sem] max2_int min2_int max_two min_two max_three min_three max_four min_four   -- for this text's walks alone
set_option linter.unusedVariables false
set_option linter.unusedSimpArgs false

/-! ### spec_RenameBeads: function 16 -/
mutual
def spec_RenameBeads.j0 : Nat → ByteArray → List Int → Bool → Option (ByteArray × Bool)
  | 0, _, _, _ => none
  | k + 1, x0, x1, x23 => if x23 = true then (some ((⟨#[]⟩ : ByteArray), false)) else (spec_RenameBeads.l0 k x0 x1 x1 (x1.length : Int) 0)
def spec_RenameBeads.l0 : Nat → ByteArray → List Int → List Int → Int → Int → Option (ByteArray × Bool)
  | 0, _, _, _, _, _ => none
  | k + 1, x0, x1, x24, x25, x26 => if x26 < x25 then (if 0 ≤ x26 then (if x26 < (x24.length : Int) then (if x26 ≤ (x1.length : Int) then ((spec_l1Has.f k (x1.take (x26 : Int).toNat) (rd x24 x26)).bind fun t110 => (if t110 = true then (some ((⟨#[]⟩ : ByteArray), false)) else (spec_RenameBeads.l0 k x0 x1 x24 x25 (wrap64 (x26 + 1))))) else (none)) else (none)) else (none)) else (spec_RenameBeads.l1 k x0 x1 (⟨#[]⟩ : ByteArray) 0)
def spec_RenameBeads.l1 : Nat → ByteArray → List Int → ByteArray → Int → Option (ByteArray × Bool)
  | 0, _, _, _, _ => none
  | k + 1, x0, x1, x8, x9 => if x9 < (x0.size : Int) then (if 0 ≤ x9 then (if 0 ≤ (((bt x0 x9) - 97) % 256) then (if (((bt x0 x9) - 97) % 256) < (x1.length : Int) then (if 0 ≤ (rd x1 (((bt x0 x9) - 97) % 256)) then (if (rd x1 (((bt x0 x9) - 97) % 256)) ≤ (wrap64 ((rd x1 (((bt x0 x9) - 97) % 256)) + 1)) then (if (wrap64 ((rd x1 (((bt x0 x9) - 97) % 256)) + 1)) ≤ 4 then (if x8.size + ((⟨#[97, 98, 99, 100]⟩ : ByteArray).extract ((rd x1 (((bt x0 x9) - 97) % 256)) : Int).toNat ((wrap64 ((rd x1 (((bt x0 x9) - 97) % 256)) + 1)) : Int).toNat).size ≤ 9223372036854775807 then (spec_RenameBeads.l1 k x0 x1 (x8 ++ ((⟨#[97, 98, 99, 100]⟩ : ByteArray).extract ((rd x1 (((bt x0 x9) - 97) % 256)) : Int).toNat ((wrap64 ((rd x1 (((bt x0 x9) - 97) % 256)) + 1)) : Int).toNat)) (wrap64 (x9 + 1))) else (none)) else (none)) else (none)) else (none)) else (none)) else (none)) else (none)) else (some (x8, true))
end
def spec_RenameBeads.f (k : Nat) (a0 : ByteArray) (l1 : List Int) : Option (ByteArray × Bool) := (spec_nlGood.f k a0).bind fun t106 => (if t106 = true then (if (l1.length : Int) = 4 then ((spec_l1All.f k l1 0 3).bind fun t107 => (spec_RenameBeads.j0 k a0 l1 (!t107))) else (spec_RenameBeads.j0 k a0 l1 true)) else (spec_RenameBeads.j0 k a0 l1 true))
theorem spec_RenameBeads.mono_l : ∀ k, (∀ y0 y1 y2, LeO (spec_RenameBeads.j0 k y0 y1 y2) (spec_RenameBeads.j0 (k + 1) y0 y1 y2)) ∧ (∀ y0 y1 y2 y3 y4, LeO (spec_RenameBeads.l0 k y0 y1 y2 y3 y4) (spec_RenameBeads.l0 (k + 1) y0 y1 y2 y3 y4)) ∧ (∀ y0 y1 y2 y3, LeO (spec_RenameBeads.l1 k y0 y1 y2 y3) (spec_RenameBeads.l1 (k + 1) y0 y1 y2 y3))
  | 0 => ⟨fun _ _ _ r h => by simp [spec_RenameBeads.j0] at h, fun _ _ _ _ _ r h => by simp [spec_RenameBeads.l0] at h, fun _ _ _ _ r h => by simp [spec_RenameBeads.l1] at h⟩
  | k + 1 => by
    obtain ⟨ih0, ih1, ih2⟩ := spec_RenameBeads.mono_l k
    refine ⟨?_, ?_, ?_⟩
    · intro y0 y1 y2
      unfold spec_RenameBeads.j0
      repeat' first
      | (with_reducible exact ih0 _ _ _)
      | (with_reducible exact ih1 _ _ _ _ _)
      | (with_reducible exact ih2 _ _ _ _)
      | (with_reducible exact spec_l1All.mono _ _ _ _)
      | (with_reducible exact spec_l1Has.mono _ _ _)
      | (with_reducible exact spec_nlGood.mono _ _)
      | (with_reducible exact LeO.refl _)
      | (with_reducible exact LeO.none _)
      | (with_reducible refine LeO.ite ?_ ?_)
      | (with_reducible refine LeO.bind ?_ (fun _ => ?_))
      | exact ih0 _ _ _
      | exact ih1 _ _ _ _ _
      | exact ih2 _ _ _ _
      | exact spec_l1All.mono _ _ _ _
      | exact spec_l1Has.mono _ _ _
      | exact spec_nlGood.mono _ _
      | exact LeO.none _
      | refine LeO.ite ?_ ?_
      | refine LeO.bind ?_ (fun _ => ?_)
    · intro y0 y1 y2 y3 y4
      unfold spec_RenameBeads.l0
      repeat' first
      | (with_reducible exact ih0 _ _ _)
      | (with_reducible exact ih1 _ _ _ _ _)
      | (with_reducible exact ih2 _ _ _ _)
      | (with_reducible exact spec_l1All.mono _ _ _ _)
      | (with_reducible exact spec_l1Has.mono _ _ _)
      | (with_reducible exact spec_nlGood.mono _ _)
      | (with_reducible exact LeO.refl _)
      | (with_reducible exact LeO.none _)
      | (with_reducible refine LeO.ite ?_ ?_)
      | (with_reducible refine LeO.bind ?_ (fun _ => ?_))
      | exact ih0 _ _ _
      | exact ih1 _ _ _ _ _
      | exact ih2 _ _ _ _
      | exact spec_l1All.mono _ _ _ _
      | exact spec_l1Has.mono _ _ _
      | exact spec_nlGood.mono _ _
      | exact LeO.none _
      | refine LeO.ite ?_ ?_
      | refine LeO.bind ?_ (fun _ => ?_)
    · intro y0 y1 y2 y3
      unfold spec_RenameBeads.l1
      repeat' first
      | (with_reducible exact ih0 _ _ _)
      | (with_reducible exact ih1 _ _ _ _ _)
      | (with_reducible exact ih2 _ _ _ _)
      | (with_reducible exact spec_l1All.mono _ _ _ _)
      | (with_reducible exact spec_l1Has.mono _ _ _)
      | (with_reducible exact spec_nlGood.mono _ _)
      | (with_reducible exact LeO.refl _)
      | (with_reducible exact LeO.none _)
      | (with_reducible refine LeO.ite ?_ ?_)
      | (with_reducible refine LeO.bind ?_ (fun _ => ?_))
      | exact ih0 _ _ _
      | exact ih1 _ _ _ _ _
      | exact ih2 _ _ _ _
      | exact spec_l1All.mono _ _ _ _
      | exact spec_l1Has.mono _ _ _
      | exact spec_nlGood.mono _ _
      | exact LeO.none _
      | refine LeO.ite ?_ ?_
      | refine LeO.bind ?_ (fun _ => ?_)
theorem spec_RenameBeads.mono : ∀ a0 a1 k, LeO (spec_RenameBeads.f k a0 a1) (spec_RenameBeads.f (k + 1) a0 a1) := by
  intro a0 a1 k
  obtain ⟨ih0, ih1, ih2⟩ := spec_RenameBeads.mono_l k
  unfold spec_RenameBeads.f
  repeat' first
      | (with_reducible exact ih0 _ _ _)
      | (with_reducible exact ih1 _ _ _ _ _)
      | (with_reducible exact ih2 _ _ _ _)
      | (with_reducible exact spec_l1All.mono _ _ _ _)
      | (with_reducible exact spec_l1Has.mono _ _ _)
      | (with_reducible exact spec_nlGood.mono _ _)
      | (with_reducible exact LeO.refl _)
      | (with_reducible exact LeO.none _)
      | (with_reducible refine LeO.ite ?_ ?_)
      | (with_reducible refine LeO.bind ?_ (fun _ => ?_))
      | exact ih0 _ _ _
      | exact ih1 _ _ _ _ _
      | exact ih2 _ _ _ _
      | exact spec_l1All.mono _ _ _ _
      | exact spec_l1Has.mono _ _ _
      | exact spec_nlGood.mono _ _
      | exact LeO.none _
      | refine LeO.ite ?_ ?_
      | refine LeO.bind ?_ (fun _ => ?_)
set_option maxHeartbeats 8000000 in
set_option maxRecDepth 100000 in
theorem spec_RenameBeads.calls (k : Nat) (a0 : ByteArray) (A1 : Option Addr) (c1 : Nat) (l1 : List Int) (r1 : ByteArray) (r2 : Bool) (w : World) (hr1 : Kd.C (Kd.int .i64) w A1 l1.length l1) (hc1 : l1.length ≤ c1) (h : spec_RenameBeads.f k a0 l1 = some (r1, r2)) :
    Calls Tryd.prog 16 #[.string a0, .slice A1 l1.length c1] w fun e w' => e = .returned (.tuple #[.string r1, .bool r2]) ∧ Drawn0 w w' := by
  have HR1 := Aside0.mk hr1
  have HC1 := Aside0.mk hc1
  clear hr1 hc1
  have H : ((spec_nlGood.f k a0).bind fun t106 => (if t106 = true then (if (l1.length : Int) = 4 then ((spec_l1All.f k l1 0 3).bind fun t107 => (spec_RenameBeads.j0 k a0 l1 (!t107))) else (spec_RenameBeads.j0 k a0 l1 true)) else (spec_RenameBeads.j0 k a0 l1 true))) = some (r1, r2) := h
  clear h
  have HC3 := Aside0.mk H
  clear H
  go_enter Tryd.func16, Tryd.ntmps16
  go_upto_region 1 with (fail)
  go_cut [23] (fun v23 wc => ∃ (kq : Nat) (x23_2 : Bool), v23 = .bool x23_2 ∧ Aside0 (spec_RenameBeads.j0 kq a0 l1 x23_2 = some (r1, r2)) ∧ Aside0 (kq ≤ k) ∧ Drawn0 w wc)
  case first =>
    have H := HC3.out
    clear HC3
    replace H := Option.bind_eq_some_iff.mp H
    obtain ⟨t106, A40, H⟩ := H
    replace H : (if t106 = true then (if (l1.length : Int) = 4 then ((spec_l1All.f k l1 0 3).bind fun t107 => (spec_RenameBeads.j0 k a0 l1 (!t107))) else (spec_RenameBeads.j0 k a0 l1 true)) else (spec_RenameBeads.j0 k a0 l1 true)) = some (r1, r2) := H
    have A4 := Aside0.mk A40
    clear A40
    by_cases c5 : t106 = true
    · subst c5
      have H1 : (if (l1.length : Int) = 4 then ((spec_l1All.f k l1 0 3).bind fun t107 => (spec_RenameBeads.j0 k a0 l1 (!t107))) else (spec_RenameBeads.j0 k a0 l1 true)) = some (r1, r2) := by rw [if_pos rfl] at H; exact H
      clear H
      have H := H1
      clear H1
      by_cases c6 : (l1.length : Int) = 4
      · rw [if_pos c6] at H
        have c6b0 : ((l1.length : Int) == 4) = true := beq_iff_eq.mpr c6
        have c6b1 : ((l1.length : Int) != 4) = false := bne_eq_false_iff_eq.mpr c6
        clear c6
        (first | rw [c6b0] | (simp only [i64_w, i32_w]; rw [c6b0]) | skip)
        replace H := Option.bind_eq_some_iff.mp H
        obtain ⟨t107, A70, H⟩ := H
        replace H : (spec_RenameBeads.j0 k a0 l1 (!t107)) = some (r1, r2) := H
        have A7 := Aside0.mk A70
        clear A70
        have H' := Aside0.mk H
        clear H
        go_wp2_with (first | ((with_reducible refine gate_callee (f := 19) rfl ?_); refine goesL_ (some 12) rfl rfl Tryd.func19 (by kernel_rfl) rfl #[.string a0] rfl (by (try simp only [List.map_toArray, List.map_cons, List.map_nil]); first | done | rfl | (simp only [List.length_drop, List.length_take]; rfl)) ?_; (with_reducible refine (spec_nlGood.calls k a0 true _ A4.out).mono ?_); rintro e w' ⟨rfl, ⟨nd, rfl⟩⟩; refine ⟨_, rfl, ?_⟩) | (go_at_call 32; (with_reducible refine (spec_l1All.calls k _ _ l1 0 3 t107 _ ?side1 ?side2 A7.out).mono ?_); (case side1 => repeat (first | exact HR1.out | (with_reducible refine Kd.C_alloc ?_ _) | (with_reducible refine Kd.C_drewN ?_ _) | (with_reducible refine Kd.C_drew ?_))); (case side2 => exact HC1.out); rintro e w' ⟨rfl, ⟨nd, rfl⟩⟩))
        go_meet
        case rel => exact ⟨_, (!t107), (by first | rfl | (simp; done) | (simp [*]; done) | (simp [*, wrap64]; done)), H', ⟨by first | omega | exact Nat.le_refl _⟩, by repeat (first | exact Drawn0.refl _ | apply Drawn0.step)⟩
      · rw [if_neg c6] at H
        have c6b0 : ((l1.length : Int) == 4) = false := beq_eq_false_iff_ne.mpr c6
        have c6b1 : ((l1.length : Int) != 4) = true := bne_iff_ne.mpr c6
        (first | rw [c6b0] | (simp only [i64_w, i32_w]; rw [c6b0]) | skip)
        have H' := Aside0.mk H
        clear H
        go_wp2_with (first | ((with_reducible refine gate_callee (f := 19) rfl ?_); refine goesL_ (some 12) rfl rfl Tryd.func19 (by kernel_rfl) rfl #[.string a0] rfl (by (try simp only [List.map_toArray, List.map_cons, List.map_nil]); first | done | rfl | (simp only [List.length_drop, List.length_take]; rfl)) ?_; (with_reducible refine (spec_nlGood.calls k a0 true _ A4.out).mono ?_); rintro e w' ⟨rfl, ⟨nd, rfl⟩⟩; refine ⟨_, rfl, ?_⟩))
        go_meet
        case rel => exact ⟨_, (true), (by first | rfl | (simp; done) | (simp [*]; done) | (simp [*, wrap64]; done)), H', ⟨by first | omega | exact Nat.le_refl _⟩, by repeat (first | exact Drawn0.refl _ | apply Drawn0.step)⟩
    · replace c5 := Bool.eq_false_iff.mpr c5
      subst c5
      have H1 : (spec_RenameBeads.j0 k a0 l1 true) = some (r1, r2) := by rw [if_neg (show ¬ (false = true) by decide)] at H; exact H
      clear H
      have H := H1
      clear H1
      have H' := Aside0.mk H
      clear H
      go_wp2_with (first | ((with_reducible refine gate_callee (f := 19) rfl ?_); refine goesL_ (some 12) rfl rfl Tryd.func19 (by kernel_rfl) rfl #[.string a0] rfl (by (try simp only [List.map_toArray, List.map_cons, List.map_nil]); first | done | rfl | (simp only [List.length_drop, List.length_take]; rfl)) ?_; (with_reducible refine (spec_nlGood.calls k a0 false _ A4.out).mono ?_); rintro e w' ⟨rfl, ⟨nd, rfl⟩⟩; refine ⟨_, rfl, ?_⟩))
      go_meet
      case rel => exact ⟨_, (true), (by first | rfl | (simp; done) | (simp [*]; done) | (simp [*, wrap64]; done)), H', ⟨by first | omega | exact Nat.le_refl _⟩, by repeat (first | exact Drawn0.refl _ | apply Drawn0.step)⟩
  case rest =>
    clear HC3
    try clear c1
    try clear p2
    try clear c5
    try clear c6
    try clear c6b0
    try clear c6b1
    try clear p6
    obtain ⟨kq, x23_2, rfl, HA, HJ2, ⟨mc2, rfl⟩⟩ := hcut
    cases kq with
    | zero => exact absurd HA.out (by simp [spec_RenameBeads.j0])
    | succ kj2 =>
      have H := HA.out
      clear HA
      simp only [spec_RenameBeads.j0] at H
      by_cases c8 : x23_2 = true
      · subst c8
        have H1 : (some ((⟨#[]⟩ : ByteArray), false)) = some (r1, r2) := by rw [if_pos rfl] at H; exact H
        clear H
        have H := H1
        clear H1
        simp only [Option.some.injEq, Prod.mk.injEq] at H
        obtain ⟨rfl, rfl⟩ := H
        go_wp2
        go_ret2
        exact ⟨by first | rfl | (simp; done) | (simp [*]; done) | (simp [*, wrap64]; done), by repeat (first | exact Drawn0.refl _ | apply Drawn0.step)⟩
      · replace c8 := Bool.eq_false_iff.mpr c8
        subst c8
        have H1 : (spec_RenameBeads.l0 kj2 a0 l1 l1 (l1.length : Int) 0) = some (r1, r2) := by rw [if_neg (show ¬ (false = true) by decide)] at H; exact H
        clear H
        have H := H1
        clear H1
        have H' := Aside0.mk H
        clear H
        go_wp2
        go_loopg [26] kj2 (fun kq v26 w' => ∃ (x26_2 : Int), v26 = .int .i64 x26_2 ∧ Aside0 (spec_RenameBeads.l0 kq a0 l1 l1 (l1.length : Int) x26_2 = some (r1, r2)) ∧ Aside0 (kq ≤ kj2) ∧ Drawn0 w w')
        case atStart => exact ⟨(0), (by first | rfl | (simp; done) | (simp [*]; done) | (simp [*, wrap64]; done)), H', ⟨Nat.le_refl _⟩, by repeat (first | exact Drawn0.refl _ | apply Drawn0.step)⟩
        case round =>
          clear H'
          try clear c1
          try clear c2
          try clear p2
          try clear c5
          try clear c6
          try clear c6b0
          try clear c6b1
          try clear p6
          try clear c8
          try clear p2
          try clear p6
          obtain ⟨x26_2, rfl, HA, HK2, ⟨m2, rfl⟩⟩ := hrel
          cases gk with
          | zero => exact absurd HA.out (by simp [spec_RenameBeads.l0])
          | succ k2 =>
            have H := HA.out
            clear HA
            simp only [spec_RenameBeads.l0] at H
            by_cases c9 : x26_2 < (l1.length : Int)
            · rw [if_pos c9] at H
              have c9b0 : decide (x26_2 < (l1.length : Int)) = true := decide_eq_true c9
              clear c9
              by_cases c10 : 0 ≤ x26_2
              · rw [if_pos c10] at H
                have c10b0 : decide (0 ≤ x26_2) = true := decide_eq_true c10
                clear c10
                by_cases c11 : x26_2 < (l1.length : Int)
                · rw [if_pos c11] at H
                  have c11b0 : decide (x26_2 < (l1.length : Int)) = true := decide_eq_true c11
                  clear c11
                  have c12b0 := eq_true (of_decide_eq_true (by first | (with_reducible assumption) | assumption) : 0 ≤ x26_2)
                  by_cases c13 : x26_2 ≤ (l1.length : Int)
                  · rw [if_pos c13] at H
                    have c13b0 := eq_true c13
                    have c13b1 : decide (x26_2 ≤ (l1.length : Int)) = true := decide_eq_true c13
                    clear c13
                    replace H := Option.bind_eq_some_iff.mp H
                    obtain ⟨t110, A140, H⟩ := H
                    replace H : (if t110 = true then (some ((⟨#[]⟩ : ByteArray), false)) else (spec_RenameBeads.l0 k2 a0 l1 l1 (l1.length : Int) (wrap64 (x26_2 + 1)))) = some (r1, r2) := H
                    have A14 := Aside0.mk A140
                    clear A140
                    by_cases c15 : t110 = true
                    · subst c15
                      have H1 : (some ((⟨#[]⟩ : ByteArray), false)) = some (r1, r2) := by rw [if_pos rfl] at H; exact H
                      clear H
                      have H := H1
                      clear H1
                      simp only [Option.some.injEq, Prod.mk.injEq] at H
                      obtain ⟨rfl, rfl⟩ := H
                      have p108 : 0 ≤ (x26_2 : Int) := of_decide_eq_true (by first | (with_reducible assumption) | assumption)
                      have q108 : x26_2 < (l1.length : Int) := of_decide_eq_true (by first | (with_reducible assumption) | assumption)
                      obtain ⟨ad108, e108, hx108_0⟩ := Kd.at_int HR1.out x26_2 p108 q108
                      cases e108
                      replace p108 := eq_true p108
                      replace q108 := eq_true q108
                      obtain ⟨i016, hi016, _, hsz16, _⟩ := info_parts info3
                      obtain ⟨hcut16, hA16, hC16⟩ := print_take_of (P := Tryd.prog) (Value.int .i64) 0 22 3 .i64 Tryd.underlying22 hi016 hsz16 (some ad108) c1 l1 x26_2 (of_decide_eq_true (by first | (with_reducible assumption) | assumption)) (of_decide_eq_true (by first | (with_reducible assumption) | assumption)) HC1.out
                      have HR109 := Aside0.mk (Kd.C_of_reads (h1 := fun _ => rfl) (hA16 _ (Kd.reads_of_C HR1.out)))
                      have HC109 := Aside0.mk hC16
                      clear hA16 hC16 hi016 hsz16
                      go_wp2_with (first | ((with_reducible refine gate_callee (f := 33) rfl ?_); refine goesL_ (some 35) rfl rfl Tryd.func33 (by kernel_rfl) rfl #[.slice (some ad108) (l1.take (x26_2 : Int).toNat).length c1, .int .i64 (rd l1 x26_2)] rfl (by (try simp only [List.map_toArray, List.map_cons, List.map_nil]); first | done | (rw [show (l1.take (x26_2 : Int).toNat).length = x26_2.toNat from (by rw [List.length_take]; have h_ : (x26_2 : Int) ≤ (l1.length : Int) := of_decide_eq_true (by first | (with_reducible assumption) | assumption); omega)] <;> rfl) | rfl | (simp only [List.length_drop, List.length_take]; rfl)) ?_; (with_reducible refine (spec_l1Has.calls k2 _ _ (l1.take (x26_2 : Int).toNat) (rd l1 x26_2) true _ ?side1 ?side2 A14.out).mono ?_); (case side1 => repeat (first | exact HR109.out | (with_reducible refine Kd.C_alloc ?_ _) | (with_reducible refine Kd.C_drewN ?_ _) | (with_reducible refine Kd.C_drew ?_))); (case side2 => exact HC109.out); rintro e w' ⟨rfl, ⟨nd, rfl⟩⟩; refine ⟨_, rfl, ?_⟩))
                      go_ret2
                      exact ⟨by first | rfl | (simp; done) | (simp [*]; done) | (simp [*, wrap64]; done), by repeat (first | exact Drawn0.refl _ | apply Drawn0.step)⟩
                    · replace c15 := Bool.eq_false_iff.mpr c15
                      subst c15
                      have H1 : (spec_RenameBeads.l0 k2 a0 l1 l1 (l1.length : Int) (wrap64 (x26_2 + 1))) = some (r1, r2) := by rw [if_neg (show ¬ (false = true) by decide)] at H; exact H
                      clear H
                      have H := H1
                      clear H1
                      have H' := Aside0.mk H
                      clear H
                      have p108 : 0 ≤ (x26_2 : Int) := of_decide_eq_true (by first | (with_reducible assumption) | assumption)
                      have q108 : x26_2 < (l1.length : Int) := of_decide_eq_true (by first | (with_reducible assumption) | assumption)
                      obtain ⟨ad108, e108, hx108_0⟩ := Kd.at_int HR1.out x26_2 p108 q108
                      cases e108
                      replace p108 := eq_true p108
                      replace q108 := eq_true q108
                      obtain ⟨i017, hi017, _, hsz17, _⟩ := info_parts info3
                      obtain ⟨hcut17, hA17, hC17⟩ := print_take_of (P := Tryd.prog) (Value.int .i64) 0 22 3 .i64 Tryd.underlying22 hi017 hsz17 (some ad108) c1 l1 x26_2 (of_decide_eq_true (by first | (with_reducible assumption) | assumption)) (of_decide_eq_true (by first | (with_reducible assumption) | assumption)) HC1.out
                      have HR109 := Aside0.mk (Kd.C_of_reads (h1 := fun _ => rfl) (hA17 _ (Kd.reads_of_C HR1.out)))
                      have HC109 := Aside0.mk hC17
                      clear hA17 hC17 hi017 hsz17
                      go_wp2_with (first | ((with_reducible refine gate_callee (f := 33) rfl ?_); refine goesL_ (some 35) rfl rfl Tryd.func33 (by kernel_rfl) rfl #[.slice (some ad108) (l1.take (x26_2 : Int).toNat).length c1, .int .i64 (rd l1 x26_2)] rfl (by (try simp only [List.map_toArray, List.map_cons, List.map_nil]); first | done | (rw [show (l1.take (x26_2 : Int).toNat).length = x26_2.toNat from (by rw [List.length_take]; have h_ : (x26_2 : Int) ≤ (l1.length : Int) := of_decide_eq_true (by first | (with_reducible assumption) | assumption); omega)] <;> rfl) | rfl | (simp only [List.length_drop, List.length_take]; rfl)) ?_; (with_reducible refine (spec_l1Has.calls k2 _ _ (l1.take (x26_2 : Int).toNat) (rd l1 x26_2) false _ ?side1 ?side2 A14.out).mono ?_); (case side1 => repeat (first | exact HR109.out | (with_reducible refine Kd.C_alloc ?_ _) | (with_reducible refine Kd.C_drewN ?_ _) | (with_reducible refine Kd.C_drew ?_))); (case side2 => exact HC109.out); rintro e w' ⟨rfl, ⟨nd, rfl⟩⟩; refine ⟨_, rfl, ?_⟩))
                      go_roundg k2
                      case measure => have := HJ2.out; have := HK2.out; omega
                      case rel => exact ⟨(wrap64 (x26_2 + 1)), (by first | rfl | (simp; done) | (simp [*]; done) | (simp [*, wrap64]; done)), H', ⟨by have := HJ2.out; have := HK2.out; omega⟩, by repeat (first | exact Drawn0.refl _ | apply Drawn0.step)⟩
                  · rw [if_neg c13] at H
                    exact absurd H (by simp)
                · rw [if_neg c11] at H
                  exact absurd H (by simp)
              · rw [if_neg c10] at H
                exact absurd H (by simp)
            · rw [if_neg c9] at H
              have c9b0 : decide (x26_2 < (l1.length : Int)) = false := decide_eq_false c9
              clear c9
              have H' := Aside0.mk H
              clear H
              go_wp2
              go_loopg [8, 9] k2 (fun kq v8 v9 w' => ∃ (x8_3 : ByteArray) (x9_3 : Int), v8 = .string x8_3 ∧ v9 = .int .i64 x9_3 ∧ Aside0 (spec_RenameBeads.l1 kq a0 l1 x8_3 x9_3 = some (r1, r2)) ∧ Aside0 (kq ≤ k2) ∧ Drawn0 w w')
              case atStart => exact ⟨((⟨#[]⟩ : ByteArray)), (0), (by first | rfl | (simp; done) | (simp [*]; done) | (simp [*, wrap64]; done)), (by first | rfl | (simp; done) | (simp [*]; done) | (simp [*, wrap64]; done)), H', ⟨Nat.le_refl _⟩, by repeat (first | exact Drawn0.refl _ | apply Drawn0.step)⟩
              case round =>
                clear H'
                try clear c1
                try clear p1
                try clear q1
                try clear hx1
                try clear c2
                try clear p2
                try clear c3
                try clear c5
                try clear c6
                try clear c6b0
                try clear c6b1
                try clear p6
                try clear c8
                try clear c9
                try clear c9b0
                try clear c10
                try clear c10b0
                try clear p10
                try clear q10
                try clear hx10
                try clear c11
                try clear c11b0
                try clear c12
                try clear c12b0
                try clear c13
                try clear c13b0
                try clear c13b1
                try clear c15
                try clear c16
                try clear hx108_0
                try clear p108
                try clear p2
                try clear p6
                try clear q108
                obtain ⟨x8_3, x9_3, rfl, rfl, HA, HK3, ⟨m3, rfl⟩⟩ := hrel
                cases gk with
                | zero => exact absurd HA.out (by simp [spec_RenameBeads.l1])
                | succ k3 =>
                  have H := HA.out
                  clear HA
                  simp only [spec_RenameBeads.l1] at H
                  by_cases c18 : x9_3 < (a0.size : Int)
                  · rw [if_pos c18] at H
                    have c18b0 : decide (x9_3 < (a0.size : Int)) = true := decide_eq_true c18
                    clear c18
                    by_cases c19 : 0 ≤ x9_3
                    · rw [if_pos c19] at H
                      have c19b0 : decide (0 ≤ x9_3) = true := decide_eq_true c19
                      clear c19
                      obtain ⟨ji21, hji21⟩ : ∃ j_ : Int, (((bt a0 x9_3) - 97) % 256) = j_ := ⟨_, rfl⟩
                      replace H : (if 0 ≤ (ji21) then (if (ji21) < (l1.length : Int) then (if 0 ≤ (rd l1 (ji21)) then (if (rd l1 (ji21)) ≤ (wrap64 ((rd l1 (ji21)) + 1)) then (if (wrap64 ((rd l1 (ji21)) + 1)) ≤ 4 then (if x8_3.size + ((⟨#[97, 98, 99, 100]⟩ : ByteArray).extract ((rd l1 (ji21)) : Int).toNat ((wrap64 ((rd l1 (ji21)) + 1)) : Int).toNat).size ≤ 9223372036854775807 then (spec_RenameBeads.l1 k3 a0 l1 (x8_3 ++ ((⟨#[97, 98, 99, 100]⟩ : ByteArray).extract ((rd l1 (ji21)) : Int).toNat ((wrap64 ((rd l1 (ji21)) + 1)) : Int).toNat)) (wrap64 (x9_3 + 1))) else (none)) else (none)) else (none)) else (none)) else (none)) else (none)) = some (r1, r2) := by first | (rw [hji21] at H; exact H) | (simp only [hji21] at H ⊢; exact H)
                      by_cases c22 : 0 ≤ (ji21)
                      · rw [if_pos c22] at H
                        have c22b0 : decide (0 ≤ (ji21)) = true := decide_eq_true c22
                        clear c22
                        by_cases c23 : (ji21) < (l1.length : Int)
                        · rw [if_pos c23] at H
                          have c23b0 : decide ((ji21) < (l1.length : Int)) = true := decide_eq_true c23
                          clear c23
                          by_cases c24 : 0 ≤ (rd l1 (ji21))
                          · rw [if_pos c24] at H
                            have c24b0 := eq_true c24
                            have c24b1 : decide (0 ≤ (rd l1 (ji21))) = true := decide_eq_true c24
                            clear c24
                            by_cases c25 : (rd l1 (ji21)) ≤ (wrap64 ((rd l1 (ji21)) + 1))
                            · rw [if_pos c25] at H
                              have c25b0 := eq_true c25
                              have c25b1 : decide ((rd l1 (ji21)) ≤ (wrap64 ((rd l1 (ji21)) + 1))) = true := decide_eq_true c25
                              by_cases c26 : (wrap64 ((rd l1 (ji21)) + 1)) ≤ 4
                              · rw [if_pos c26] at H
                                have c26b0 := eq_true c26
                                have c26b1 : decide ((wrap64 ((rd l1 (ji21)) + 1)) ≤ 4) = true := decide_eq_true c26
                                by_cases c27 : x8_3.size + ((⟨#[97, 98, 99, 100]⟩ : ByteArray).extract ((rd l1 (ji21)) : Int).toNat ((wrap64 ((rd l1 (ji21)) + 1)) : Int).toNat).size ≤ 9223372036854775807
                                · rw [if_pos c27] at H
                                  have c27b0 := eq_true c27
                                  have c27b1 : decide (x8_3.size + ((⟨#[97, 98, 99, 100]⟩ : ByteArray).extract ((rd l1 (ji21)) : Int).toNat ((wrap64 ((rd l1 (ji21)) + 1)) : Int).toNat).size ≤ 9223372036854775807) = true := decide_eq_true c27
                                  try have c27b2 : (9223372036854775807 < x8_3.size + ((⟨#[97, 98, 99, 100]⟩ : ByteArray).extract ((rd l1 (ji21)) : Int).toNat ((wrap64 ((rd l1 (ji21)) + 1)) : Int).toNat).size) = False := eq_false (Nat.not_lt.2 c27)
                                  have H' := Aside0.mk H
                                  clear H
                                  have p20 : 0 ≤ (x9_3 : Int) := of_decide_eq_true (by first | (with_reducible assumption) | assumption)
                                  have q20 : x9_3 < (a0.size : Int) := of_decide_eq_true (by first | (with_reducible assumption) | assumption)
                                  have hx20 := bt_at a0 x9_3
                                  replace p20 := eq_true p20
                                  replace q20 := eq_true q20
                                  have p111 : 0 ≤ ((ji21) : Int) := of_decide_eq_true (by first | (with_reducible assumption) | assumption)
                                  have q111 : (ji21) < (l1.length : Int) := of_decide_eq_true (by first | (with_reducible assumption) | assumption)
                                  obtain ⟨ad111, e111, hx111_0⟩ := Kd.at_int HR1.out (ji21) p111 q111
                                  cases e111
                                  replace p111 := eq_true p111
                                  replace q111 := eq_true q111
                                  go_wp2
                                  go_roundg k3
                                  case measure => have := HJ2.out; have := HK2.out; have := HK3.out; omega
                                  case rel => exact ⟨(x8_3 ++ ((⟨#[97, 98, 99, 100]⟩ : ByteArray).extract ((rd l1 (ji21)) : Int).toNat ((wrap64 ((rd l1 (ji21)) + 1)) : Int).toNat)), (wrap64 (x9_3 + 1)), (by first | rfl | (simp; done) | (simp only [← hji21] <;> (first | rfl | simp)) | (simp [*]; done) | (simp [*, wrap64]; done)), (by first | rfl | (simp; done) | (simp [*]; done) | (simp [*, wrap64]; done)), H', ⟨by have := HJ2.out; have := HK2.out; have := HK3.out; omega⟩, by repeat (first | exact Drawn0.refl _ | apply Drawn0.step)⟩
                                · rw [if_neg c27] at H
                                  exact absurd H (by simp)
                              · rw [if_neg c26] at H
                                exact absurd H (by simp)
                            · rw [if_neg c25] at H
                              exact absurd H (by simp)
                          · rw [if_neg c24] at H
                            exact absurd H (by simp)
                        · rw [if_neg c23] at H
                          exact absurd H (by simp)
                      · rw [if_neg c22] at H
                        exact absurd H (by simp)
                    · rw [if_neg c19] at H
                      exact absurd H (by simp)
                  · rw [if_neg c18] at H
                    have c18b0 : decide (x9_3 < (a0.size : Int)) = false := decide_eq_false c18
                    clear c18
                    simp only [Option.some.injEq, Prod.mk.injEq] at H
                    obtain ⟨rfl, rfl⟩ := H
                    go_wp2
                    go_ret2
                    exact ⟨by first | rfl | (simp; done) | (simp [*]; done) | (simp [*, wrap64]; done), by repeat (first | exact Drawn0.refl _ | apply Drawn0.step)⟩

/-! ### laws_toIntS: function 17 -/
def laws_toIntS.l0 : Nat → List Int → List Int → Int → Option (List Int)
  | 0, _, _, _ => none
  | k + 1, x0, x3, x4 => if x4 < (x0.length : Int) then (if 0 ≤ x4 then (if x4 < (x3.length : Int) then (laws_toIntS.l0 k x0 (x3.set (x4 : Int).toNat (rd x0 x4)) (wrap64 (x4 + 1))) else (none)) else (none)) else (some x3)
def laws_toIntS.f (k : Nat) (l0 : List Int) : Option (List Int) := if 0 ≤ (l0.length : Int) then (if ((l0.length : Int) : Int).toNat ≤ 35184372088832 then (laws_toIntS.l0 k l0 (List.replicate ((l0.length : Int) : Int).toNat 0) 0) else (none)) else (none)
theorem laws_toIntS.mono_l : ∀ k, (∀ y0 y1 y2, LeO (laws_toIntS.l0 k y0 y1 y2) (laws_toIntS.l0 (k + 1) y0 y1 y2))
  | 0 => fun _ _ _ r h => by simp [laws_toIntS.l0] at h
  | k + 1 => by
    have ih0 := laws_toIntS.mono_l k
    · intro y0 y1 y2
      unfold laws_toIntS.l0
      repeat' first
      | (with_reducible exact ih0 _ _ _)
      | (with_reducible exact LeO.refl _)
      | (with_reducible exact LeO.none _)
      | (with_reducible refine LeO.ite ?_ ?_)
      | (with_reducible refine LeO.bind ?_ (fun _ => ?_))
      | exact ih0 _ _ _
      | exact LeO.none _
      | refine LeO.ite ?_ ?_
      | refine LeO.bind ?_ (fun _ => ?_)
theorem laws_toIntS.mono : ∀ a0 k, LeO (laws_toIntS.f k a0) (laws_toIntS.f (k + 1) a0) := by
  intro a0 k
  have ih0 := laws_toIntS.mono_l k
  unfold laws_toIntS.f
  repeat' first
      | (with_reducible exact ih0 _ _ _)
      | (with_reducible exact LeO.refl _)
      | (with_reducible exact LeO.none _)
      | (with_reducible refine LeO.ite ?_ ?_)
      | (with_reducible refine LeO.bind ?_ (fun _ => ?_))
      | exact ih0 _ _ _
      | exact LeO.none _
      | refine LeO.ite ?_ ?_
      | refine LeO.bind ?_ (fun _ => ?_)
set_option maxHeartbeats 8000000 in
set_option maxRecDepth 100000 in
theorem laws_toIntS.calls (k : Nat) (A0 : Option Addr) (c0 : Nat) (l0 : List Int) (r : List Int) (w : World) (hr0 : Kd.C (Kd.int .i64) w A0 l0.length l0) (hc0 : l0.length ≤ c0) (h : laws_toIntS.f k l0 = some r) :
    Calls Tryd.prog 17 #[.slice A0 l0.length c0] w fun e w' => ∃ v0_ : Value, e = .returned (v0_) ∧ Kd.R (Kd.int .i64) 3 w' w.heap.size (fun _ => True) v0_ r ∧ Below w.heap.size w w' := by
  have HR0 := Aside0.mk hr0
  have HC0 := Aside0.mk hc0
  clear hr0 hc0
  have HB := Aside0.mk (Below.refl w.heap.size w)
  have H : (if 0 ≤ (l0.length : Int) then (if ((l0.length : Int) : Int).toNat ≤ 35184372088832 then (laws_toIntS.l0 k l0 (List.replicate ((l0.length : Int) : Int).toNat 0) 0) else (none)) else (none)) = some r := h
  clear h
  by_cases c2 : 0 ≤ (l0.length : Int)
  · rw [if_pos c2] at H
    have c2b0 := eq_true c2
    have c2b1 : decide (0 ≤ (l0.length : Int)) = true := decide_eq_true c2
    clear c2
    by_cases c3 : ((l0.length : Int) : Int).toNat ≤ 35184372088832
    · rw [if_pos c3] at H
      have c3b0 := eq_true c3
      have c3b1 : decide (((l0.length : Int) : Int).toNat ≤ 35184372088832) = true := decide_eq_true c3
      clear c3
      obtain ⟨y112, hy112⟩ : ∃ y_ : List Int, y_ = (List.replicate ((l0.length : Int) : Int).toNat 0) := ⟨_, rfl⟩
      replace H : (laws_toIntS.l0 k l0 y112 0) = some r := by first | (rw [hy112]; with_reducible exact H) | (have H2_ := (Option.bind_some _ _).symm.trans H; rw [hy112]; with_reducible exact H2_) | (have H2_ := (Option.bind_some _ _).symm.trans H; with_reducible exact H2_) | with_reducible exact H | (rw [hy112]; exact H) | exact H
      have Ny112 := Aside0.mk hy112
      clear hy112
      have H' := Aside0.mk H
      clear H
      go_enter Tryd.func17, Tryd.ntmps17
      go_wp2_with (first | ((with_reducible refine gate_dst (N := 7) rfl ?_); refine Kd.R_make (Kd.int .i64) _ 3 rfl (N := 7) rfl 22 _ _ rfl (l0.length : Int) rfl rfl Tryd.underlying22 (.int .i64 0) 8 info3 rfl (by decide) (by omega) 0 (ok := fun _ => True) (okp := fun _ => True) rfl (fun _ hk => hk) trivial (of_decide_eq_true (by first | (with_reducible assumption) | assumption)) (Nat.le_trans (Nat.mul_le_mul_right _ (of_decide_eq_true (by first | (with_reducible assumption) | assumption) : (l0.length : Int).toNat ≤ 35184372088832)) (by omega)) (Below.refl _ _) (Nat.le_refl _) ?_; intro v113 w4 ho5 hb hg_ hnew_; clear hg_ hnew_; (first | rw [← Ny112.out] at ho5 | (simp only [Int.reduceToNat] at ho5; rw [← Ny112.out] at ho5)); have n0_ := Aside0.mk (Kd.R_lower ho5 (below_size (by repeat (first | (with_reducible first | exact HB.out | apply below_alloc | apply pw_below_drewN | apply below_drew1) | exact HB.out)))); have n1_ := Aside0.mk (below_step (by repeat (first | (with_reducible first | exact HB.out | apply below_alloc | apply pw_below_drewN | apply below_drew1) | exact HB.out)) hb); clear HB; have HO114 := n0_; have HB := n1_; clear n0_ n1_; clear hb ho5))
      go_loopg [4] k (fun kq v4 w' => ∃ (x3_1 : List Int) (x4_1 : Int), v4 = .int .i64 x4_1 ∧ Aside0 (laws_toIntS.l0 kq l0 x3_1 x4_1 = some r) ∧ Aside0 (kq ≤ k) ∧ Aside0 (Kd.R (Kd.int .i64) 3 w' w.heap.size (fun _ => True) v113 x3_1) ∧ Aside0 (Below w.heap.size w w'))
      case atStart => exact ⟨(y112), (0), (by first | rfl | (simp; done) | (simp [*]; done) | (simp [*, wrap64]; done)), H', ⟨Nat.le_refl _⟩, ⟨by (with_reducible repeat (first | apply Kd.R_alloc | apply Kd.R_drewN | apply Kd.R_drew)); exact HO114.out⟩, ⟨by repeat (first | (with_reducible first | exact HB.out | apply below_alloc | apply pw_below_drewN | apply below_drew1) | exact HB.out)⟩⟩
      case round =>
        clear H'
        try clear c1
        try clear c2
        try clear c2b0
        try clear c2b1
        try clear p2
        try clear c3
        try clear c3b0
        try clear c3b1
        obtain ⟨x3_1, x4_1, rfl, HA, HK1, HO_3, HB⟩ := hrel
        cases gk with
        | zero => exact absurd HA.out (by simp [laws_toIntS.l0])
        | succ k1 =>
          have H := HA.out
          clear HA
          simp only [laws_toIntS.l0] at H
          by_cases c6 : x4_1 < (l0.length : Int)
          · rw [if_pos c6] at H
            have c6b0 : decide (x4_1 < (l0.length : Int)) = true := decide_eq_true c6
            clear c6
            by_cases c7 : 0 ≤ x4_1
            · rw [if_pos c7] at H
              have c7b0 : decide (0 ≤ x4_1) = true := decide_eq_true c7
              clear c7
              by_cases c8 : x4_1 < (x3_1.length : Int)
              · rw [if_pos c8] at H
                have c8b0 : decide (x4_1 < (x3_1.length : Int)) = true := decide_eq_true c8
                clear c8
                obtain ⟨y116, hy116⟩ : ∃ y_ : List Int, y_ = (x3_1.set (x4_1 : Int).toNat (rd l0 x4_1)) := ⟨_, rfl⟩
                replace H : (laws_toIntS.l0 k1 l0 y116 (wrap64 (x4_1 + 1))) = some r := by first | (rw [hy116]; with_reducible exact H) | (have H2_ := (Option.bind_some _ _).symm.trans H; rw [hy116]; with_reducible exact H2_) | (have H2_ := (Option.bind_some _ _).symm.trans H; with_reducible exact H2_) | with_reducible exact H | (rw [hy116]; exact H) | exact H
                have Ny116 := Aside0.mk hy116
                clear hy116
                have H' := Aside0.mk H
                clear H
                have p115 : 0 ≤ (x4_1 : Int) := of_decide_eq_true (by first | (with_reducible assumption) | assumption)
                have q115 : x4_1 < (l0.length : Int) := of_decide_eq_true (by first | (with_reducible assumption) | assumption)
                obtain ⟨ad115, e115, hx115_0⟩ := Kd.at_int HR0.out x4_1 p115 q115
                cases e115
                replace hx115_0 := (HB.out.cell (World.block_lt_of_cell? w _ hx115_0)).trans hx115_0
                replace p115 := eq_true p115
                replace q115 := eq_true q115
                have p9 : 0 ≤ (x4_1 : Int) := of_decide_eq_true (by first | (with_reducible assumption) | assumption)
                have q9 : (x4_1 : Int) < ((x3_1.length : Int) : Int) := of_decide_eq_true (by first | (with_reducible assumption) | assumption)
                obtain ⟨go9, co9, eo9, gb9, gl9, cl9, HG9⟩ := Kd.R_form HO_3.out (by omega)
                (first | cases eo9 | (injection eo9 with ea_ en_ ec_; (first | subst ea_ | (injection ea_ with ea_; subst ea_)); subst ec_; clear en_))
                have GB9 := Aside0.mk gb9
                have GG9 := Aside0.mk HG9
                clear gb9 gl9 HG9
                obtain ⟨hx9_0, hf9_0⟩ := Kd.R_celln 0 HO_3.out (x4_1 : Int) p9 q9
                replace p9 := eq_true p9
                replace q9 := eq_true q9
                have HP10 := Kd.R_putg HO_3.out (x4_1 : Int) (rd l0 x4_1)
                go_wp2_with (first | ((with_reducible refine gate_store (t := 3) (p := 20) rfl ?_); refine store_event (t := 3) (p := 20) (v := ?vo_w11) (w1 := (wr.setCell ⟨go9, (x4_1 : Int).toNat, none⟩ (.int .i64 (rd l0 x4_1)))) ?hg ?ho ?hn ?hr ?_; (case ho => rfl); (case hg => rfl); (case hn => rfl); (case hr => first | (go_simp; done) | (go_simp; rfl)); intro w11 hw; have hg : wr.grownBy w11 (some go9) := (by rw [hw]; exact HP10.2); have hp_ : Kd.R (Kd.int .i64) 3 w11 w.heap.size (fun _ => True) (.slice (some ⟨go9, 0, none⟩) x3_1.length co9) y116 := (by rw [hw, Ny116.out]; exact HP10.1); clear HP10; have n0_ := Aside0.mk (hp_); have n1_ := Aside0.mk ((by rw [hw]; exact below_set (HB.out) GB9.out : Below w.heap.size w w11)); clear HO_3; clear HB; have HO_3 := n0_; have HB := n1_; clear n0_ n1_; clear hg hw hp_))
                go_roundg k1
                case measure => have := HK1.out; omega
                case rel => exact ⟨(y116), (wrap64 (x4_1 + 1)), (by first | rfl | (simp; done) | (simp [*]; done) | (simp [*, wrap64]; done)), H', ⟨by have := HK1.out; omega⟩, ⟨by (with_reducible repeat (first | apply Kd.R_alloc | apply Kd.R_drewN | apply Kd.R_drew)); exact HO_3.out⟩, ⟨by repeat (first | (with_reducible first | exact HB.out | apply below_alloc | apply pw_below_drewN | apply below_drew1) | exact HB.out)⟩⟩
              · rw [if_neg c8] at H
                exact absurd H (by simp)
            · rw [if_neg c7] at H
              exact absurd H (by simp)
          · rw [if_neg c6] at H
            have c6b0 : decide (x4_1 < (l0.length : Int)) = false := decide_eq_false c6
            clear c6
            obtain rfl := Option.some.inj H
            go_wp2
            go_ret
            exact ⟨_, by first | rfl | (simp [errW_none, errW_some] <;> rfl) | (simp [*, errW_none, errW_some] <;> rfl), by (with_reducible repeat (first | apply Kd.R_alloc | apply Kd.R_drewN | apply Kd.R_drew)); exact HO_3.out, by repeat (first | (with_reducible first | exact HB.out | apply below_alloc | apply pw_below_drewN | apply below_drew1) | exact HB.out)⟩
    · rw [if_neg c3] at H
      exact absurd H (by simp)
  · rw [if_neg c2] at H
    exact absurd H (by simp)

/-! ### strings_Trim: function 37 (given) -/
def strings_Trim.f (s : ByteArray) (cut : ByteArray) : Option ByteArray := if (decide (s.size ≤ 9223372036854775807) && (decide (cut.size < 4294967281) && cut.data.toList.all fun b => decide (b.toNat < 128))) = true then some ⟨(Go.Lib.trimS s.data.toList cut.data.toList).toArray⟩ else none
theorem strings_Trim.calls (s cut r : ByteArray) (w : World) (h : strings_Trim.f s cut = some r) :
    Calls Tryd.prog 37 #[.string s, .string cut] w fun e w' => e = .returned (.string r) ∧ Below w.heap.size w w' := by
  unfold strings_Trim.f at h
  split at h
  · rename_i hc
    obtain ⟨h1, h2⟩ := Bool.and_eq_true_iff.1 hc
    obtain ⟨h3, h4⟩ := Bool.and_eq_true_iff.1 h2
    cases h
    exact Go.Proofs.Any.strings_Trim_laid Go.Proofs.Tryd.lays160 (by kernel_rfl) s cut w (of_decide_eq_true h1) (of_decide_eq_true h3) (Go.Proofs.ascii_of_all h4)
  · cases h

/-! ### impl_IsNecklace: function 22 -/
def impl_IsNecklace.f (a0 : ByteArray) : Option (Bool) := if (a0.size : Int) ≤ 16 then ((strings_Trim.f a0 (⟨#[97, 98, 99, 100]⟩ : ByteArray)).bind fun t117 => (some (t117.toList == ([] : List UInt8)))) else (some false)
set_option maxHeartbeats 8000000 in
set_option maxRecDepth 100000 in
theorem impl_IsNecklace.calls (a0 : ByteArray) (r : Bool) (w : World) (h : impl_IsNecklace.f a0 = some r) :
    Calls Tryd.prog 22 #[.string a0] w fun e w' => e = .returned (.bool r) ∧ Below w.heap.size w w' := by
  have HB := Aside0.mk (Below.refl w.heap.size w)
  have H : (if (a0.size : Int) ≤ 16 then ((strings_Trim.f a0 (⟨#[97, 98, 99, 100]⟩ : ByteArray)).bind fun t117 => (some (t117.toList == ([] : List UInt8)))) else (some false)) = some r := h
  clear h
  by_cases c2 : (a0.size : Int) ≤ 16
  · rw [if_pos c2] at H
    have c2b0 : decide ((a0.size : Int) ≤ 16) = true := decide_eq_true c2
    have c2b1 : decide (a0.size ≤ 16) = true := decide_eq_true (by omega)
    clear c2
    replace H := Option.bind_eq_some_iff.mp H
    obtain ⟨t117, A30, H⟩ := H
    replace H : (some (t117.toList == ([] : List UInt8))) = some r := H
    have A3 := Aside0.mk A30
    clear A30
    obtain rfl := Option.some.inj H
    go_enter Tryd.func22, Tryd.ntmps22
    go_wp2_with (first | (go_at_call 37; (with_reducible refine (strings_Trim.calls a0 (⟨#[97, 98, 99, 100]⟩ : ByteArray) t117 _ A3.out).mono ?_); rintro e w4 ⟨rfl, hb⟩; have n0_ := Aside0.mk (below_step (by repeat (first | (with_reducible first | exact HB.out | apply below_alloc | apply pw_below_drewN | apply below_drew1) | exact HB.out)) hb); clear HB; have HB := n0_; clear n0_; (try clear hb); (try clear hb2); (try clear hk); (try clear hi)))
    go_ret
    exact ⟨by first | rfl | (simp [errW_none, errW_some] <;> rfl) | (simp [*, errW_none, errW_some] <;> rfl), by repeat (first | (with_reducible first | exact HB.out | apply below_alloc | apply pw_below_drewN | apply below_drew1) | exact HB.out)⟩
  · rw [if_neg c2] at H
    have c2b0 : decide ((a0.size : Int) ≤ 16) = false := decide_eq_false c2
    have c2b1 : decide (a0.size ≤ 16) = false := decide_eq_false (by omega)
    clear c2
    obtain rfl := Option.some.inj H
    go_enter Tryd.func22, Tryd.ntmps22
    go_wp2
    go_ret
    exact ⟨by first | rfl | (simp [errW_none, errW_some] <;> rfl) | (simp [*, errW_none, errW_some] <;> rfl), by repeat (first | (with_reducible first | exact HB.out | apply below_alloc | apply pw_below_drewN | apply below_drew1) | exact HB.out)⟩

/-! ### impl_RenameBeads: function 18 (given) -/
/-- The bead that takes a bead's place. -/
def renB (l : List Int) (b : UInt8) : UInt8 := UInt8.ofNat (97 + (rd l ((b.toNat : Int) - 97)).toNat)
def impl_RenameBeads.f (a0 : ByteArray) (l1 : List Int) : Option (ByteArray × Bool) :=
  if l1.length ≤ 1099511627776 then (impl_IsNecklace.f a0).bind fun t =>
    if t = true then
      (if (l1.mergeSort fun x y => decide (x ≤ y)) = [0, 1, 2, 3] then
        (if a0.size ≤ 9223372036854775807 ∧ (a0.data.toList.all fun b => decide (97 ≤ b.toNat ∧ b.toNat < 101)) = true then some (⟨(a0.data.toList.map (renB l1)).toArray⟩, true) else none)
      else some ((⟨#[]⟩ : ByteArray), false))
    else some ((⟨#[]⟩ : ByteArray), false)
  else none
theorem below_kept {w w1 w2 : World} {v : Value} (hb : Below w.heap.size w w1) (hbase : ∀ q, v.ownBlock = some q → w.heap.size ≤ q) (hos : w2.os = w1.os) (htp : w2.tape = w1.tape) (hout : w2.output = w1.output) (hK : Kept w1 w2 (fun k => some k = v.ownBlock)) : Below w.heap.size w w2 :=
  ⟨hos.trans hb.os, htp.trans hb.tape, hout.trans hb.output, Nat.le_trans hb.size hK.1, fun q hq => (hK.2 q (Nat.lt_of_lt_of_le hq hb.size) (fun e => by have := hbase q e.symm; omega)).trans (hb.block q hq)⟩
def encU (b : UInt8) : Value := .int .u8 (b.toNat : Int)
theorem bytes_holds (w : World) (e : TypeId) (s : ByteArray) : Go.Sort.Holds encU (Go.Lib.bytesWorld w e s) w.heap.size 0 s.data.toList.toArray := by
  intro j hj
  have hj' : j < s.size := by simpa using hj
  have hl : j < s.data.toList.length := by simpa using hj
  refine ⟨?_, ?_⟩
  · rw [Nat.zero_add, Go.Lib.bytesWorld_cell w e s j hj']
    have : s.data.toList.toArray[j]! = s.data.toList.getD j 0 := by
      rw [List.getD_eq_getElem?_getD, List.getElem?_eq_getElem hl, getElem!_pos s.data.toList.toArray j hj]; simp
    rw [this]; rfl
  · have h := Go.Lib.bytesWorld_at_new w e s
    have hc : s.size ≤ (Go.Lib.bytesCells w e s).size := by simp [Go.Lib.bytesCells]
    rw [Nat.zero_add]
    unfold World.frozen?
    rw [h]
    simp
    omega
theorem sw_set {w0 W : World} {blk off : Nat} {dk : Array UInt8} (h : SW encU w0 blk off dk W) (hblk : blk < w0.heap.size) (i : Nat) (x : UInt8) (hi : i < dk.size) : SW encU w0 blk off (dk.setIfInBounds i x) (W.setCell ⟨blk, off + i, none⟩ (encU x)) := by
  obtain ⟨n, os, rfl⟩ := h
  refine ⟨n, os, ?_⟩
  unfold sortWorld
  rw [← Go.Sort.putRow_grow encU (Go.Sort.ahead w0 n) os blk off dk hblk, Go.Sort.putRow_set encU _ blk off dk i x hi, Go.Sort.putRow_grow encU (Go.Sort.ahead w0 n) os blk off _ hblk]
theorem sw_below {w w1 W : World} {e : TypeId} {s : ByteArray} {dk : Array UInt8} (hb : Below w.heap.size w w1) (h : SW encU (Go.Lib.bytesWorld w1 e s) w1.heap.size 0 dk W) : Below w.heap.size w W := by
  obtain ⟨n, os, rfl⟩ := h
  have hs := hb.size
  have hsz : (Go.Lib.bytesWorld w1 e s).heap.size = w1.heap.size + 1 := Go.Lib.bytesWorld_size w1 e s
  refine ⟨hb.os, hb.tape, hb.output, ?_, fun k hk => ?_⟩
  · unfold sortWorld
    rw [Go.Sort.size_grow, Go.Sort.size_putRow]
    show w.heap.size ≤ (Go.Lib.bytesWorld w1 e s).heap.size + _
    omega
  · have h1 : (sortWorld encU (Go.Lib.bytesWorld w1 e s) w1.heap.size 0 n dk os).heap[k]? = (Go.Lib.bytesWorld w1 e s).heap[k]? := by
      unfold sortWorld
      rw [Go.Sort.heap_grow_old _ os (by rw [Go.Sort.size_putRow]; show k < (Go.Lib.bytesWorld w1 e s).heap.size; omega)]
      unfold Go.Sort.putRow Go.Sort.mapBlock
      simp [Go.Sort.ahead, Array.getElem?_modify, show w1.heap.size ≠ k by omega]
    rw [h1, Go.Lib.bytesWorld_at_old w1 e s k (by omega)]
    exact hb.block k hk
/-- The bytes of a round. -/
def ren (l : List Int) (s : List UInt8) (i : Nat) : List UInt8 := (s.take i).map (renB l) ++ s.drop i
theorem ren_len (l : List Int) (s : List UInt8) (i : Nat) (h : i ≤ s.length) : (ren l s i).length = s.length := by unfold ren; simp; omega
theorem ren_at (l : List Int) (s : List UInt8) (i : Nat) (b : UInt8) (h : s[i]? = some b) : (ren l s i).toArray[i]! = b := by
  obtain ⟨h1, h2⟩ := List.getElem?_eq_some_iff.1 h
  have hl : i < (ren l s i).length := by rw [ren_len l s i (by omega)]; exact h1
  rw [getElem!_pos (ren l s i).toArray i (by simpa using hl)]
  have h3 : (ren l s i)[i]? = some b := by
    unfold ren
    rw [List.getElem?_append_right (by simp; omega)]
    simp [Nat.min_eq_left (Nat.le_of_lt h1), h]
  exact Option.some.inj ((List.getElem?_eq_getElem hl).symm.trans h3)
theorem ren_next (l : List Int) (s : List UInt8) (i : Nat) (b : UInt8) (h : s[i]? = some b) : (ren l s i).toArray.setIfInBounds i (renB l b) = (ren l s (i + 1)).toArray := by
  obtain ⟨h1, h2⟩ := List.getElem?_eq_some_iff.1 h
  apply Array.ext'
  rw [Array.toList_setIfInBounds]
  show (ren l s i).set i (renB l b) = ren l s (i + 1)
  unfold ren
  have hk : ((s.take i).map (renB l)).length = i := by simp; omega
  rw [List.set_append_right _ _ (by omega), hk, Nat.sub_self, List.drop_eq_getElem_cons h1, h2, List.set_cons_zero, List.take_add_one, h, List.map_append, List.append_assoc]
  rfl
theorem ren_back {w1 W : World} {l : List Int} {s : ByteArray} (h : SW encU (Go.Lib.bytesWorld w1 5 s) w1.heap.size 0 (ren l s.data.toList s.size).toArray W) :
    (convert 45 9 (.slice (some ⟨w1.heap.size, 0, none⟩) s.size (grownCap w1 s.size 0 5))).run Tryd.prog W = .ok (.string ⟨(s.data.toList.map (renB l)).toArray⟩) W := by
  have z0 : s.data.toList.length = s.size := Array.length_toList
  have e : ren l s.data.toList s.size = s.data.toList.map (renB l) := by
    unfold ren
    rw [List.take_of_length_le (by omega), List.drop_eq_nil_of_le (by omega), List.append_nil]
  rw [e] at h
  have z : (s.data.toList.map (renB l)).length = s.size := by rw [List.length_map]; exact z0
  have hlt : w1.heap.size < (Go.Lib.bytesWorld w1 5 s).heap.size := by rw [Go.Lib.bytesWorld_size]; omega
  have hH := SW.holds h hlt (bytes_holds w1 5 s) (by simp)
  have h2 := run_convert_bytes_back (P := Tryd.prog) W 45 9 5 ⟨w1.heap.size, 0, none⟩ (grownCap w1 s.size 0 5) (s.data.toList.map (renB l)) Tryd.underlying45 Tryd.underlying5 Tryd.underlying9 (fun j hj => by
    rw [add_at]
    have := (hH j (by simpa using hj)).1
    rw [this, getElem!_pos (s.data.toList.map (renB l)).toArray j (by simpa using hj)]
    simp [encU])
  rw [z] at h2
  exact h2
set_option maxHeartbeats 4000000 in
set_option maxRecDepth 100000 in
theorem impl_RenameBeads.calls (a0 : ByteArray) (A1 : Option Addr) (c1 : Nat) (l1 : List Int) (r1 : ByteArray) (r2 : Bool) (w : World) (hr1 : Kd.C (Kd.int .i64) w A1 l1.length l1) (hc1 : l1.length ≤ c1) (h : impl_RenameBeads.f a0 l1 = some (r1, r2)) :
    Calls Tryd.prog 18 #[.string a0, .slice A1 l1.length c1] w fun e w' => e = .returned (.tuple #[.string r1, .bool r2]) ∧ Below w.heap.size w w' := by
  unfold impl_RenameBeads.f at h
  split at h
  · rename_i hbig
    obtain ⟨t, ht, h2⟩ := Option.bind_eq_some_iff.mp h
    clear h
    have HT := Aside0.mk ht
    have HR1 := Aside0.mk hr1
    have HBIG := Aside0.mk hbig
    clear ht
    cases t with
    | false =>
      rw [if_neg (by decide)] at h2
      obtain ⟨rfl, rfl⟩ := Prod.mk.injEq .. ▸ Option.some.inj h2
      clear hr1 hbig h2
      go_enter Tryd.func18, Tryd.ntmps18
      go_wp2_with (first
        | (go_at_call 34; refine (cloneI HR1.out HBIG.out).mono ?_; rintro e w1 ⟨v0, rfl, hS, hb⟩; have HS := Aside0.mk hS; have HB1 := Aside0.mk hb; clear hS hb)
        | (go_at_call 35; refine (sortI HS.out HBIG.out).mono ?_; rintro e w2 ⟨rfl, hS2, hos, htp, hout, hK⟩; have HS2 := Aside0.mk hS2; have HB2 := Aside0.mk (below_kept HB1.out (fun q hq => Kd.R_base HS.out q hq) hos htp hout hK); clear hS2 hos htp hout hK)
        | (go_at_call 22; refine (impl_IsNecklace.calls a0 false w2 HT.out).mono ?_; rintro e w3 ⟨rfl, hb⟩; have HB3 := Aside0.mk (HB2.out.trans (hb.mono HB2.out.size)); clear hb))
      go_ret2
      exact ⟨rfl, HB3.out⟩
    | true =>
      rw [if_pos rfl] at h2
      by_cases hm : (l1.mergeSort fun x y => decide (x ≤ y)) = [0, 1, 2, 3]
      · rw [if_pos hm] at h2
        split at h2
        · rename_i hc
          obtain ⟨rfl, rfl⟩ := Prod.mk.injEq .. ▸ Option.some.inj h2
          have hlen : l1.length = 4 := by have := congrArg List.length hm; simpa using this
          have hrange : ∀ k : Nat, k < 4 → ∃ x : Int, l1[k]? = some x ∧ rd l1 (k : Int) = x ∧ 0 ≤ x ∧ x ≤ 3 := fun k hk => by
            have hlt : k < l1.length := by omega
            refine ⟨l1[k], List.getElem?_eq_getElem hlt, ?_, ?_⟩
            · unfold rd; rw [Int.toNat_natCast, List.getD_eq_getElem?_getD, List.getElem?_eq_getElem hlt]; rfl
            · have h3 : l1[k] ∈ (l1.mergeSort fun x y => decide (x ≤ y)) := List.mem_mergeSort.2 (List.getElem_mem hlt)
              rw [hm] at h3
              simp at h3
              omega
          obtain ⟨b1, o1, hA, hcn⟩ := readsI hr1 (by omega)
          subst hA
          have hd : decide ((l1.mergeSort fun x y => decide (x ≤ y)) = [0, 1, 2, 3]) = true := decide_eq_true hm
          have HD := Aside0.mk hd
          have HN := Aside0.mk hcn
          have HRG := Aside0.mk hrange
          have HC := Aside0.mk hc
          have z0 : a0.data.toList.length = a0.size := Array.length_toList
          have Z0 := Aside0.mk z0
          clear hr1 hbig h2 hd hm hcn hrange hc z0 hlen
          have conv := fun w : World => Go.Lib.run_convert_string_bytes w 9 45 5 a0 Tryd.underlying9 Tryd.underlying45 Tryd.underlying5
          go_enter Tryd.func18, Tryd.ntmps18
          go_wp2_with (first
            | (go_at_call 34; refine (cloneI HR1.out HBIG.out).mono ?_; rintro e w1 ⟨v0, rfl, hS, hb⟩; have HS := Aside0.mk hS; have HB1 := Aside0.mk hb; clear hS hb)
            | (go_at_call 35; refine (sortI HS.out HBIG.out).mono ?_; rintro e w2 ⟨rfl, hS2, hos, htp, hout, hK⟩; obtain ⟨A2, c2, hv2⟩ := Kd.R_slice hS2; have HS2 := Aside0.mk hS2; have HB2 := Aside0.mk (below_kept HB1.out (fun q hq => Kd.R_base HS.out q hq) hos htp hout hK); clear hS2 hos htp hout hK; subst hv2)
            | (go_at_call 22; refine (impl_IsNecklace.calls a0 true w2 HT.out).mono ?_; rintro e w3 ⟨rfl, hb⟩; have HB4 := Aside0.mk hb; have HB3 := Aside0.mk (HB2.out.trans (hb.mono HB2.out.size)); clear hb)
            | (go_at_call 36; refine (equal_four HS2.out HB4.out HD.out).mono ?_; rintro e w4 ⟨rfl, hb⟩; have HB5 := Aside0.mk (HB3.out.trans (hb.mono HB3.out.size)); clear hb))
          go_loopg [8, 26] a0.size (fun gg _ s26 wr => ∃ i : Nat, s26 = .int .i64 i ∧ i ≤ a0.size ∧ a0.size - i ≤ gg ∧ Aside0 (SW encU (Go.Lib.bytesWorld w4 5 a0) w4.heap.size 0 (ren l1 a0.data.toList i).toArray wr))
          case atStart => exact ⟨0, rfl, Nat.zero_le _, by omega, Aside0.mk (SW.start (bytes_holds w4 5 a0))⟩
          case round =>
            obtain ⟨i, rfl, hi, hgg, hsw⟩ := hrel
            by_cases hlt : i < a0.size
            · have hltz : (i : Int) < (a0.size : Int) := by omega
              have hblk : w4.heap.size < (Go.Lib.bytesWorld w4 5 a0).heap.size := by rw [Go.Lib.bytesWorld_size]; omega
              obtain ⟨b, hg⟩ : ∃ b, a0.data.toList[i]? = some b := ⟨_, List.getElem?_eq_getElem (by rw [Z0.out]; exact hlt)⟩
              obtain ⟨k, hk4, hbk⟩ : ∃ k : Nat, k < 4 ∧ b.toNat = 97 + k := by
                have := of_decide_eq_true (List.all_eq_true.1 HC.out.2 b (List.mem_of_getElem? hg))
                exact ⟨b.toNat - 97, by omega, by omega⟩
              obtain ⟨x, hx1, hx2, hx3, hx4⟩ := HRG.out k hk4
              have hds : (ren l1 a0.data.toList i).toArray.size = a0.size := by simp [ren_len l1 a0.data.toList i (by rw [Z0.out]; exact hi), Z0.out]
              obtain ⟨ci, fi⟩ := SW.holds hsw.out hblk (bytes_holds w4 5 a0) (by rw [hds]; simp [Z0.out]) i (by rw [hds]; exact hlt)
              rw [ren_at l1 a0.data.toList i b hg, Nat.zero_add] at ci
              rw [Nat.zero_add] at fi
              have hu : encU b = .int .u8 (97 + (k : Int)) := by unfold encU; rw [hbk]; rfl
              rw [hu] at ci
              have cn : wr.cell? ⟨b1, o1 + k, none⟩ = some (.int .i64 x) := ((sw_below HB5.out hsw.out).cell (cell_lt (HN.out k x hx1))).trans (HN.out k x hx1)
              have hk1 : (97 + (k : Int) - 97) % 256 = (k : Int) := by omega
              have hk2 : (k : Int) % 256 = (k : Int) := by omega
              have hk0 : 0 ≤ (k : Int) := by omega
              have hk3 : (k : Int) < (l1.length : Int) := by have := (List.getElem?_eq_some_iff.1 hx1).1; omega
              have HG := Aside0.mk hg
              have HBK := Aside0.mk hbk
              have HX2 := Aside0.mk hx2
              clear hg hbk hx1 hx2 hu
              have hv : encU (renB l1 b) = .int .u8 (97 + x) := by
                unfold encU renB
                rw [HBK.out, show (((97 + k : Nat) : Int) - 97) = (k : Int) by omega, HX2.out]
                have e9 : (UInt8.ofNat (97 + x.toNat)).toNat = 97 + x.toNat := by
                  rw [UInt8.toNat_ofNat']; omega
                rw [e9]
                congr 1
                omega
              have h5 := sw_set hsw.out hblk i (renB l1 b) (by rw [hds]; exact hlt)
              rw [ren_next l1 a0.data.toList i b HG.out, Nat.zero_add, hv] at h5
              have H5 := Aside0.mk h5
              clear h5 hv
              go_wp2
              go_roundg (a0.size - (i + 1))
              case measure => omega
              case rel =>
                have hw : wrap64 ((i : Int) + 1) = ((i + 1 : Nat) : Int) := by
                  have := HC.out.1
                  unfold wrap64
                  omega
                exact ⟨i + 1, by rw [hw], hlt, Nat.le_refl _, Aside0.mk (by first | exact H5.out | exact SW.drewN H5.out _)⟩
            · have hie : i = a0.size := by omega
              subst hie
              have hltz : ¬ (a0.size : Int) < (a0.size : Int) := by omega
              have back := ren_back hsw.out
              go_wp2
              go_ret2
              exact ⟨rfl, sw_below HB5.out hsw.out⟩
        · cases h2
      · rw [if_neg hm] at h2
        obtain ⟨rfl, rfl⟩ := Prod.mk.injEq .. ▸ Option.some.inj h2
        have hd : decide ((l1.mergeSort fun x y => decide (x ≤ y)) = [0, 1, 2, 3]) = false := decide_eq_false hm
        have HD := Aside0.mk hd
        clear hr1 hbig h2 hd hm
        go_enter Tryd.func18, Tryd.ntmps18
        go_wp2_with (first
          | (go_at_call 34; refine (cloneI HR1.out HBIG.out).mono ?_; rintro e w1 ⟨v0, rfl, hS, hb⟩; have HS := Aside0.mk hS; have HB1 := Aside0.mk hb; clear hS hb)
          | (go_at_call 35; refine (sortI HS.out HBIG.out).mono ?_; rintro e w2 ⟨rfl, hS2, hos, htp, hout, hK⟩; obtain ⟨A2, c2, hv2⟩ := Kd.R_slice hS2; have HS2 := Aside0.mk hS2; have HB2 := Aside0.mk (below_kept HB1.out (fun q hq => Kd.R_base HS.out q hq) hos htp hout hK); clear hS2 hos htp hout hK; subst hv2)
          | (go_at_call 22; refine (impl_IsNecklace.calls a0 true w2 HT.out).mono ?_; rintro e w3 ⟨rfl, hb⟩; have HB4 := Aside0.mk hb; have HB3 := Aside0.mk (HB2.out.trans (hb.mono HB2.out.size)); clear hb)
          | (go_at_call 36; refine (equal_four HS2.out HB4.out HD.out).mono ?_; rintro e w4 ⟨rfl, hb⟩; have HB5 := Aside0.mk (HB3.out.trans (hb.mono HB3.out.size)); clear hb))
        go_ret2
        exact ⟨rfl, HB5.out⟩
  · cases h

end Go.Proofs.YtlhilhimpbfllabDoor.PFnExactRenameBeads
