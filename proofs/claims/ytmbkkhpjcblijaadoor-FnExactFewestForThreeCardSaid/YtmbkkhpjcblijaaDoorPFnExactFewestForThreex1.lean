-- Written by a program of this session (wip/tools/pp.sh) out of the translation; Lean checks it.
import Derived.Test.YtmbkkhpjcblijaaDoorPFnExactFewestForThreex0
namespace Go.Proofs.YtmbkkhpjcblijaaDoor.PFnExactFewestForThree
open Go.RowKit Go.Proofs.YtmbkkhpjcblijaaDoorOwn Go.Proofs.YtmbkkhpjcblijaaDoorW.PrintWords Go.Proofs.YtmbkkhpjcblijaaDoorW.PrintLast Go.Proofs.YtmbkkhpjcblijaaDoorW.PrintMore
attribute [local go_sem] max2_int min2_int max_two min_two max_three min_three max_four min_four   -- for this text's walks alone
set_option linter.unusedVariables false
set_option linter.unusedSimpArgs false

/-! ### spec_nlGood: function 15 -/
def spec_nlGood.l0 : Nat → ByteArray → Int → Option (Bool)
  | 0, _, _ => none
  | k + 1, x0, x3 => if x3 < (x0.size : Int) then (if 0 ≤ x3 then (if (bt x0 x3) < 97 then (some false) else (if (((bt x0 x3) - 97) % 256) ≥ 4 then (some false) else (spec_nlGood.l0 k x0 (wrap64 (x3 + 1))))) else (none)) else (some true)
def spec_nlGood.f (k : Nat) (a0 : ByteArray) : Option (Bool) := if (a0.size : Int) > 16 then (some false) else (spec_nlGood.l0 k a0 0)
theorem spec_nlGood.mono_l : ∀ k, (∀ y0 y1, LeO (spec_nlGood.l0 k y0 y1) (spec_nlGood.l0 (k + 1) y0 y1))
  | 0 => fun _ _ r h => by simp [spec_nlGood.l0] at h
  | k + 1 => by
    have ih0 := spec_nlGood.mono_l k
    · intro y0 y1
      unfold spec_nlGood.l0
      repeat' first
      | (with_reducible exact ih0 _ _)
      | (with_reducible exact LeO.refl _)
      | (with_reducible exact LeO.none _)
      | (with_reducible refine LeO.ite ?_ ?_)
      | (with_reducible refine LeO.bind ?_ (fun _ => ?_))
      | exact ih0 _ _
      | exact LeO.none _
      | refine LeO.ite ?_ ?_
      | refine LeO.bind ?_ (fun _ => ?_)
theorem spec_nlGood.mono : ∀ a0 k, LeO (spec_nlGood.f k a0) (spec_nlGood.f (k + 1) a0) := by
  intro a0 k
  have ih0 := spec_nlGood.mono_l k
  unfold spec_nlGood.f
  repeat' first
      | (with_reducible exact ih0 _ _)
      | (with_reducible exact LeO.refl _)
      | (with_reducible exact LeO.none _)
      | (with_reducible refine LeO.ite ?_ ?_)
      | (with_reducible refine LeO.bind ?_ (fun _ => ?_))
      | exact ih0 _ _
      | exact LeO.none _
      | refine LeO.ite ?_ ?_
      | refine LeO.bind ?_ (fun _ => ?_)
set_option maxHeartbeats 8000000 in
set_option maxRecDepth 100000 in
theorem spec_nlGood.calls (k : Nat) (a0 : ByteArray) (r : Bool) (w : World) (h : spec_nlGood.f k a0 = some r) :
    Calls Tryd.prog 15 #[.string a0] w fun e w' => e = .returned (.bool r) ∧ Drawn0 w w' := by
  have H : (if (a0.size : Int) > 16 then (some false) else (spec_nlGood.l0 k a0 0)) = some r := h
  clear h
  by_cases c2 : (a0.size : Int) > 16
  · rw [if_pos c2] at H
    have c2b0 : decide (16 < (a0.size : Int)) = true := decide_eq_true c2
    have c2b1 : decide (16 < a0.size) = true := decide_eq_true (by omega)
    clear c2
    obtain rfl := Option.some.inj H
    go_enter Tryd.func15, Tryd.ntmps15
    go_wp2
    go_ret
    exact ⟨by first | rfl | (simp; done) | (simp [*]; done) | (simp [*, wrap64]; done), by repeat (first | exact Drawn0.refl _ | apply Drawn0.step)⟩
  · rw [if_neg c2] at H
    have c2b0 : decide (16 < (a0.size : Int)) = false := decide_eq_false c2
    have c2b1 : decide (16 < a0.size) = false := decide_eq_false (by omega)
    clear c2
    have H' := Aside0.mk H
    clear H
    go_enter Tryd.func15, Tryd.ntmps15
    go_wp2
    go_loopg [3] k (fun kq v3 w' => ∃ (x3_1 : Int), v3 = .int .i64 x3_1 ∧ Aside0 (spec_nlGood.l0 kq a0 x3_1 = some r) ∧ Aside0 (kq ≤ k) ∧ Drawn0 w w')
    case atStart => exact ⟨(0), (by first | rfl | (simp; done) | (simp [*]; done) | (simp [*, wrap64]; done)), H', ⟨Nat.le_refl _⟩, by repeat (first | exact Drawn0.refl _ | apply Drawn0.step)⟩
    case round =>
      clear H'
      try clear c1
      try clear c2
      try clear c2b0
      try clear c2b1
      try clear p2
      obtain ⟨x3_1, rfl, HA, HK1, ⟨m1, rfl⟩⟩ := hrel
      cases gk with
      | zero => exact absurd HA.out (by simp [spec_nlGood.l0])
      | succ k1 =>
        have H := HA.out
        clear HA
        simp only [spec_nlGood.l0] at H
        by_cases c3 : x3_1 < (a0.size : Int)
        · rw [if_pos c3] at H
          have c3b0 : decide (x3_1 < (a0.size : Int)) = true := decide_eq_true c3
          clear c3
          by_cases c4 : 0 ≤ x3_1
          · rw [if_pos c4] at H
            have c4b0 : decide (0 ≤ x3_1) = true := decide_eq_true c4
            clear c4
            by_cases c6 : (bt a0 x3_1) < 97
            · rw [if_pos c6] at H
              have c6b0 : decide ((bt a0 x3_1) < 97) = true := decide_eq_true c6
              clear c6
              obtain rfl := Option.some.inj H
              have p5 : 0 ≤ (x3_1 : Int) := of_decide_eq_true (by first | (with_reducible assumption) | assumption)
              have q5 : x3_1 < (a0.size : Int) := of_decide_eq_true (by first | (with_reducible assumption) | assumption)
              have hx5 := bt_at a0 x3_1
              replace p5 := eq_true p5
              replace q5 := eq_true q5
              go_wp2
              go_ret
              exact ⟨by first | rfl | (simp; done) | (simp [*]; done) | (simp [*, wrap64]; done), by repeat (first | exact Drawn0.refl _ | apply Drawn0.step)⟩
            · rw [if_neg c6] at H
              have c6b0 : decide ((bt a0 x3_1) < 97) = false := decide_eq_false c6
              clear c6
              by_cases c8 : (((bt a0 x3_1) - 97) % 256) ≥ 4
              · rw [if_pos c8] at H
                have c8b0 : decide (4 ≤ (((bt a0 x3_1) - 97) % 256)) = true := decide_eq_true c8
                clear c8
                obtain rfl := Option.some.inj H
                have p5 : 0 ≤ (x3_1 : Int) := of_decide_eq_true (by first | (with_reducible assumption) | assumption)
                have q5 : x3_1 < (a0.size : Int) := of_decide_eq_true (by first | (with_reducible assumption) | assumption)
                have hx5 := bt_at a0 x3_1
                replace p5 := eq_true p5
                replace q5 := eq_true q5
                have p7 : 0 ≤ (x3_1 : Int) := of_decide_eq_true (by first | (with_reducible assumption) | assumption)
                have q7 : x3_1 < (a0.size : Int) := of_decide_eq_true (by first | (with_reducible assumption) | assumption)
                have hx7 := bt_at a0 x3_1
                replace p7 := eq_true p7
                replace q7 := eq_true q7
                go_wp2
                go_ret
                exact ⟨by first | rfl | (simp; done) | (simp [*]; done) | (simp [*, wrap64]; done), by repeat (first | exact Drawn0.refl _ | apply Drawn0.step)⟩
              · rw [if_neg c8] at H
                have c8b0 : decide (4 ≤ (((bt a0 x3_1) - 97) % 256)) = false := decide_eq_false c8
                clear c8
                have H' := Aside0.mk H
                clear H
                have p5 : 0 ≤ (x3_1 : Int) := of_decide_eq_true (by first | (with_reducible assumption) | assumption)
                have q5 : x3_1 < (a0.size : Int) := of_decide_eq_true (by first | (with_reducible assumption) | assumption)
                have hx5 := bt_at a0 x3_1
                replace p5 := eq_true p5
                replace q5 := eq_true q5
                have p7 : 0 ≤ (x3_1 : Int) := of_decide_eq_true (by first | (with_reducible assumption) | assumption)
                have q7 : x3_1 < (a0.size : Int) := of_decide_eq_true (by first | (with_reducible assumption) | assumption)
                have hx7 := bt_at a0 x3_1
                replace p7 := eq_true p7
                replace q7 := eq_true q7
                go_wp2
                go_roundg k1
                case measure => have := HK1.out; omega
                case rel => exact ⟨(wrap64 (x3_1 + 1)), (by first | rfl | (simp; done) | (simp [*]; done) | (simp [*, wrap64]; done)), H', ⟨by have := HK1.out; omega⟩, by repeat (first | exact Drawn0.refl _ | apply Drawn0.step)⟩
          · rw [if_neg c4] at H
            exact absurd H (by simp)
        · rw [if_neg c3] at H
          have c3b0 : decide (x3_1 < (a0.size : Int)) = false := decide_eq_false c3
          clear c3
          obtain rfl := Option.some.inj H
          go_wp2
          go_ret
          exact ⟨by first | rfl | (simp; done) | (simp [*]; done) | (simp [*, wrap64]; done), by repeat (first | exact Drawn0.refl _ | apply Drawn0.step)⟩

/-! ### spec_nlCounts: function 16 -/
def spec_nlCounts.l0 : Nat → ByteArray → List Int → Int → Option (List Int)
  | 0, _, _, _ => none
  | k + 1, x0, x3, x4 => if x4 < (x0.size : Int) then (if 0 ≤ x4 then (if 0 ≤ (((bt x0 x4) - 97) % 256) then (if (((bt x0 x4) - 97) % 256) < (x3.length : Int) then (spec_nlCounts.l0 k x0 (x3.set ((((bt x0 x4) - 97) % 256) : Int).toNat (wrap64 ((rd x3 (((bt x0 x4) - 97) % 256)) + 1))) (wrap64 (x4 + 1))) else (none)) else (none)) else (none)) else (some x3)
def spec_nlCounts.f (k : Nat) (a0 : ByteArray) : Option (List Int) := if 4 ≤ 35184372088832 then (spec_nlCounts.l0 k a0 (List.replicate 4 0) 0) else (none)
theorem spec_nlCounts.mono_l : ∀ k, (∀ y0 y1 y2, LeO (spec_nlCounts.l0 k y0 y1 y2) (spec_nlCounts.l0 (k + 1) y0 y1 y2))
  | 0 => fun _ _ _ r h => by simp [spec_nlCounts.l0] at h
  | k + 1 => by
    have ih0 := spec_nlCounts.mono_l k
    · intro y0 y1 y2
      unfold spec_nlCounts.l0
      repeat' first
      | (with_reducible exact ih0 _ _ _)
      | (with_reducible exact LeO.refl _)
      | (with_reducible exact LeO.none _)
      | (with_reducible refine LeO.ite ?_ ?_)
      | (with_reducible refine LeO.bind ?_ (fun _ => ?_))
      | exact ih0 _ _ _
      | exact LeO.none _
      | refine LeO.ite ?_ ?_
      | refine LeO.bind ?_ (fun _ => ?_)
theorem spec_nlCounts.mono : ∀ a0 k, LeO (spec_nlCounts.f k a0) (spec_nlCounts.f (k + 1) a0) := by
  intro a0 k
  have ih0 := spec_nlCounts.mono_l k
  unfold spec_nlCounts.f
  repeat' first
      | (with_reducible exact ih0 _ _ _)
      | (with_reducible exact LeO.refl _)
      | (with_reducible exact LeO.none _)
      | (with_reducible refine LeO.ite ?_ ?_)
      | (with_reducible refine LeO.bind ?_ (fun _ => ?_))
      | exact ih0 _ _ _
      | exact LeO.none _
      | refine LeO.ite ?_ ?_
      | refine LeO.bind ?_ (fun _ => ?_)
set_option maxHeartbeats 8000000 in
set_option maxRecDepth 100000 in
theorem spec_nlCounts.calls (k : Nat) (a0 : ByteArray) (r : List Int) (w : World) (h : spec_nlCounts.f k a0 = some r) :
    Calls Tryd.prog 16 #[.string a0] w fun e w' => ∃ v0_ : Value, e = .returned (v0_) ∧ Kd.R (Kd.int .i64) 3 w' w.heap.size (fun _ => True) v0_ r ∧ Below w.heap.size w w' := by
  have HB := Aside0.mk (Below.refl w.heap.size w)
  have H : (if 4 ≤ 35184372088832 then (spec_nlCounts.l0 k a0 (List.replicate 4 0) 0) else (none)) = some r := h
  clear h
  by_cases c2 : 4 ≤ 35184372088832
  · rw [if_pos c2] at H
    have c2b0 := eq_true c2
    have c2b1 : decide (4 ≤ 35184372088832) = true := decide_eq_true c2
    clear c2
    obtain ⟨y101, hy101⟩ : ∃ y_ : List Int, y_ = (List.replicate 4 0) := ⟨_, rfl⟩
    replace H : (spec_nlCounts.l0 k a0 y101 0) = some r := by first | (rw [hy101]; with_reducible exact H) | (have H2_ := (Option.bind_some _ _).symm.trans H; rw [hy101]; with_reducible exact H2_) | (have H2_ := (Option.bind_some _ _).symm.trans H; with_reducible exact H2_) | with_reducible exact H | (rw [hy101]; exact H) | exact H
    have Ny101 := Aside0.mk hy101
    clear hy101
    have H' := Aside0.mk H
    clear H
    go_enter Tryd.func16, Tryd.ntmps16
    go_wp2_with (first | ((with_reducible refine gate_dst (N := 5) rfl ?_); refine Kd.R_make (Kd.int .i64) _ 3 rfl (N := 5) rfl 25 _ _ rfl 4 rfl rfl Tryd.underlying25 (.int .i64 0) 8 info3 rfl (by decide) (by omega) 0 (ok := fun _ => True) (okp := fun _ => True) rfl (fun _ hk => hk) trivial (by omega) (by omega) (Below.refl _ _) (Nat.le_refl _) ?_; intro v102 w3 ho4 hb hg_ hnew_; clear hg_ hnew_; (first | rw [← Ny101.out] at ho4 | (simp only [Int.reduceToNat] at ho4; rw [← Ny101.out] at ho4)); have n0_ := Aside0.mk (Kd.R_lower ho4 (below_size (by repeat (first | (with_reducible first | exact HB.out | apply below_alloc | apply pw_below_drewN | apply below_drew1) | exact HB.out)))); have n1_ := Aside0.mk (below_step (by repeat (first | (with_reducible first | exact HB.out | apply below_alloc | apply pw_below_drewN | apply below_drew1) | exact HB.out)) hb); clear HB; have HO103 := n0_; have HB := n1_; clear n0_ n1_; clear hb ho4))
    go_loopg [4] k (fun kq v4 w' => ∃ (x3_1 : List Int) (x4_1 : Int), v4 = .int .i64 x4_1 ∧ Aside0 (spec_nlCounts.l0 kq a0 x3_1 x4_1 = some r) ∧ Aside0 (kq ≤ k) ∧ Aside0 (Kd.R (Kd.int .i64) 3 w' w.heap.size (fun _ => True) v102 x3_1) ∧ Aside0 (Below w.heap.size w w'))
    case atStart => exact ⟨(y101), (0), (by first | rfl | (simp; done) | (simp [*]; done) | (simp [*, wrap64]; done)), H', ⟨Nat.le_refl _⟩, ⟨by (with_reducible repeat (first | apply Kd.R_alloc | apply Kd.R_drewN | apply Kd.R_drew)); exact HO103.out⟩, ⟨by repeat (first | (with_reducible first | exact HB.out | apply below_alloc | apply pw_below_drewN | apply below_drew1) | exact HB.out)⟩⟩
    case round =>
      clear H'
      try clear c1
      try clear c2
      try clear c2b0
      try clear c2b1
      try clear p2
      obtain ⟨x3_1, x4_1, rfl, HA, HK1, HO_3, HB⟩ := hrel
      cases gk with
      | zero => exact absurd HA.out (by simp [spec_nlCounts.l0])
      | succ k1 =>
        have H := HA.out
        clear HA
        simp only [spec_nlCounts.l0] at H
        by_cases c5 : x4_1 < (a0.size : Int)
        · rw [if_pos c5] at H
          have c5b0 : decide (x4_1 < (a0.size : Int)) = true := decide_eq_true c5
          clear c5
          by_cases c6 : 0 ≤ x4_1
          · rw [if_pos c6] at H
            have c6b0 : decide (0 ≤ x4_1) = true := decide_eq_true c6
            clear c6
            obtain ⟨ji8, hji8⟩ : ∃ j_ : Int, (((bt a0 x4_1) - 97) % 256) = j_ := ⟨_, rfl⟩
            replace H : (if 0 ≤ (ji8) then (if (ji8) < (x3_1.length : Int) then (spec_nlCounts.l0 k1 a0 (x3_1.set ((ji8) : Int).toNat (wrap64 ((rd x3_1 (ji8)) + 1))) (wrap64 (x4_1 + 1))) else (none)) else (none)) = some r := by first | (rw [hji8] at H; exact H) | (simp only [hji8] at H ⊢; exact H)
            by_cases c9 : 0 ≤ (ji8)
            · rw [if_pos c9] at H
              have c9b0 : decide (0 ≤ (ji8)) = true := decide_eq_true c9
              clear c9
              by_cases c10 : (ji8) < (x3_1.length : Int)
              · rw [if_pos c10] at H
                have c10b0 : decide ((ji8) < (x3_1.length : Int)) = true := decide_eq_true c10
                clear c10
                obtain ⟨y105, hy105⟩ : ∃ y_ : List Int, y_ = (x3_1.set ((ji8) : Int).toNat (wrap64 ((rd x3_1 (ji8)) + 1))) := ⟨_, rfl⟩
                replace H : (spec_nlCounts.l0 k1 a0 y105 (wrap64 (x4_1 + 1))) = some r := by first | (rw [hy105]; with_reducible exact H) | (have H2_ := (Option.bind_some _ _).symm.trans H; rw [hy105]; with_reducible exact H2_) | (have H2_ := (Option.bind_some _ _).symm.trans H; with_reducible exact H2_) | with_reducible exact H | (rw [hy105]; exact H) | exact H
                have Ny105 := Aside0.mk hy105
                clear hy105
                have H' := Aside0.mk H
                clear H
                have p7 : 0 ≤ (x4_1 : Int) := of_decide_eq_true (by first | (with_reducible assumption) | assumption)
                have q7 : x4_1 < (a0.size : Int) := of_decide_eq_true (by first | (with_reducible assumption) | assumption)
                have hx7 := bt_at a0 x4_1
                replace p7 := eq_true p7
                replace q7 := eq_true q7
                obtain ⟨Ao12, co12, eo12⟩ := Kd.R_slice HO_3.out
                subst eo12
                have p104 : 0 ≤ ((ji8) : Int) := of_decide_eq_true (by first | (with_reducible assumption) | assumption)
                have q104 : (ji8) < (x3_1.length : Int) := of_decide_eq_true (by first | (with_reducible assumption) | assumption)
                obtain ⟨ad104, e104, hx104_0⟩ := Kd.at_int (Kd.R_reads' HO_3.out).2.2 (ji8) p104 q104
                cases e104
                replace p104 := eq_true p104
                replace q104 := eq_true q104
                have p11 : 0 ≤ ((ji8) : Int) := of_decide_eq_true (by first | (with_reducible assumption) | assumption)
                have q11 : ((ji8) : Int) < ((x3_1.length : Int) : Int) := of_decide_eq_true (by first | (with_reducible assumption) | assumption)
                obtain ⟨go11, co11, eo11, gb11, gl11, cl11, HG11⟩ := Kd.R_form HO_3.out (by omega)
                (first | cases eo11 | (injection eo11 with ea_ en_ ec_; (first | subst ea_ | (injection ea_ with ea_; subst ea_)); subst ec_; clear en_))
                have GB11 := Aside0.mk gb11
                have GG11 := Aside0.mk HG11
                clear gb11 gl11 HG11
                (first | simp only [add_plain] at hx104_0 | skip)
                obtain ⟨hx11_0, hf11_0⟩ := Kd.R_celln 0 HO_3.out ((ji8) : Int) p11 q11
                replace p11 := eq_true p11
                replace q11 := eq_true q11
                have HP13 := Kd.R_putg HO_3.out ((ji8) : Int) (wrap64 ((rd x3_1 (ji8)) + 1))
                go_wp2_with (first | ((with_reducible refine gate_store (t := 3) (p := 21) rfl ?_); refine store_event (t := 3) (p := 21) (v := ?vo_w14) (w1 := (wr.setCell ⟨go11, ((ji8) : Int).toNat, none⟩ (.int .i64 (wrap64 ((rd x3_1 (ji8)) + 1))))) ?hg ?ho ?hn ?hr ?_; (case ho => rfl); (case hg => rfl); (case hn => rfl); (case hr => first | (go_simp; done) | (go_simp; rfl)); intro w14 hw; have hg : wr.grownBy w14 (some go11) := (by rw [hw]; exact HP13.2); have hp_ : Kd.R (Kd.int .i64) 3 w14 w.heap.size (fun _ => True) (.slice (some ⟨go11, 0, none⟩) x3_1.length co12) y105 := (by rw [hw, Ny105.out]; exact HP13.1); clear HP13; have n0_ := Aside0.mk (hp_); have n1_ := Aside0.mk ((by rw [hw]; exact below_set (HB.out) GB11.out : Below w.heap.size w w14)); clear HO_3; clear HB; have HO_3 := n0_; have HB := n1_; clear n0_ n1_; clear hg hw hp_))
                go_roundg k1
                case measure => have := HK1.out; omega
                case rel => exact ⟨(y105), (wrap64 (x4_1 + 1)), (by first | rfl | (simp; done) | (simp [*]; done) | (simp [*, wrap64]; done)), H', ⟨by have := HK1.out; omega⟩, ⟨by (with_reducible repeat (first | apply Kd.R_alloc | apply Kd.R_drewN | apply Kd.R_drew)); exact HO_3.out⟩, ⟨by repeat (first | (with_reducible first | exact HB.out | apply below_alloc | apply pw_below_drewN | apply below_drew1) | exact HB.out)⟩⟩
              · rw [if_neg c10] at H
                exact absurd H (by simp)
            · rw [if_neg c9] at H
              exact absurd H (by simp)
          · rw [if_neg c6] at H
            exact absurd H (by simp)
        · rw [if_neg c5] at H
          have c5b0 : decide (x4_1 < (a0.size : Int)) = false := decide_eq_false c5
          clear c5
          obtain rfl := Option.some.inj H
          go_wp2
          go_ret
          exact ⟨_, by first | rfl | (simp [errW_none, errW_some] <;> rfl) | (simp [*, errW_none, errW_some] <;> rfl), by (with_reducible repeat (first | apply Kd.R_alloc | apply Kd.R_drewN | apply Kd.R_drew)); exact HO_3.out, by repeat (first | (with_reducible first | exact HB.out | apply below_alloc | apply pw_below_drewN | apply below_drew1) | exact HB.out)⟩
  · rw [if_neg c2] at H
    exact absurd H (by simp)

/-! ### spec_FewestForThree: function 6 (given) -/
def badThird (cs : List Int) : Bool := cs.any fun x => Int.tmod x 3 != 0
def spec_FewestForThree.g (a0 : ByteArray) (cs : List Int) : Option (Int × Bool) := if goodThree a0 cs = true then some (if badThird cs = true then (0, false) else (nl a0.size (ksOf a0) 0 (thirds cs), true)) else none
def spec_FewestForThree.f (k : Nat) (a0 : ByteArray) : Option (Int × Bool) := (spec_nlGood.f k a0).bind fun t => if t = true then (if (a0.size : Int) > 9 then some (0, false) else (spec_nlCounts.f k a0).bind fun cs => spec_FewestForThree.g a0 cs) else some (0, false)
theorem spec_FewestForThree.mono : ∀ a0 k, LeO (spec_FewestForThree.f k a0) (spec_FewestForThree.f (k + 1) a0) := by
  intro a0 k
  unfold spec_FewestForThree.f
  exact LeO.bind (spec_nlGood.mono _ _) (fun _ => LeO.ite (LeO.ite (LeO.refl _) (LeO.bind (spec_nlCounts.mono _ _) (fun _ => LeO.refl _))) (LeO.refl _))
theorem bad_at {cs : List Int} {i : Nat} {x : Int} (h : cs[i]? = some x) (hm : ¬ Int.tmod x 3 = 0) : badThird cs = true := by
  unfold badThird
  exact List.any_eq_true.2 ⟨x, List.mem_of_getElem? h, bne_iff_ne.2 hm⟩
theorem bad_none {cs : List Int} (h4 : cs.length = 4) (hv : ∀ k : Nat, k < 4 → cs[k]? = some (rd cs (k : Int))) (h : ∀ j : Nat, j < 4 → Int.tmod (rd cs (j : Int)) 3 = 0) : badThird cs = false := by
  unfold badThird
  rw [List.any_eq_false]
  intro x hx
  obtain ⟨j, hj, e⟩ := List.getElem_of_mem hx
  have h1 := hv j (by omega)
  rw [List.getElem?_eq_getElem hj] at h1
  have h2 : x = rd cs (j : Int) := by rw [← e]; exact Option.some.inj h1
  rw [h2, h j (by omega)]
  decide
set_option maxHeartbeats 4000000 in
set_option maxRecDepth 100000 in
theorem spec_FewestForThree.calls (k : Nat) (a0 : ByteArray) (r1 : Int) (r2 : Bool) (w : World) (h : spec_FewestForThree.f k a0 = some (r1, r2)) :
    Calls Tryd.prog 6 #[.string a0] w fun e w' => e = .returned (.tuple #[.int .i64 r1, .bool r2]) ∧ Below w.heap.size w w' := by
  unfold spec_FewestForThree.f at h
  obtain ⟨t, ht, H⟩ := Option.bind_eq_some_iff.mp h
  clear h
  have HT := Aside0.mk ht
  clear ht
  cases t with
  | false =>
    rw [if_neg (by decide)] at H
    obtain ⟨rfl, rfl⟩ := Prod.mk.injEq .. ▸ Option.some.inj H
    clear H
    go_enter Tryd.func6, Tryd.ntmps6
    go_wp2_with (first
      | (go_at_call 15; refine (spec_nlGood.calls k a0 false _ HT.out).mono ?_; rintro e w1 ⟨rfl, ⟨nd, rfl⟩⟩))
    go_ret2
    exact ⟨rfl, pw_below_drewN (Below.refl _ _) _⟩
  | true =>
    rw [if_pos rfl] at H
    by_cases h9 : (a0.size : Int) > 9
    · rw [if_pos h9] at H
      obtain ⟨rfl, rfl⟩ := Prod.mk.injEq .. ▸ Option.some.inj H
      clear H
      go_enter Tryd.func6, Tryd.ntmps6
      go_wp2_with (first
        | (go_at_call 15; refine (spec_nlGood.calls k a0 true _ HT.out).mono ?_; rintro e w1 ⟨rfl, ⟨nd, rfl⟩⟩))
      go_ret2
      exact ⟨rfl, pw_below_drewN (Below.refl _ _) _⟩
    · rw [if_neg h9] at H
      obtain ⟨cs, hcs, H2⟩ := Option.bind_eq_some_iff.mp H
      clear H
      have HCS := Aside0.mk hcs
      clear hcs
      unfold spec_FewestForThree.g at H2
      by_cases hg : goodThree a0 cs = true
      · rw [if_pos hg] at H2
        have HRR := Aside0.mk (Option.some.inj H2)
        clear H2
        have HG := Aside0.mk hg
        have HLEN := Aside0.mk (good_parts hg).2.2.1
        have hi1 : (Tryd.prog.info? 3).map (fun i => (i.zero, i.size, i.bytes)) = some (some (.int .i64 0), 1, 8) := by kernel_rfl
        have hi2 : (Tryd.prog.info? 25).map (fun i => (i.zero, i.size, i.bytes)) = some (some (.slice none 0 0), 1, 24) := by kernel_rfl
        have HI1 := Aside0.mk hi1
        have HI2 := Aside0.mk hi2
        clear hg hi1 hi2
        go_enter Tryd.func6, Tryd.ntmps6
        go_wp2_with (first
          | (go_at_call 15; refine (spec_nlGood.calls k a0 true _ HT.out).mono ?_; rintro e w1 ⟨rfl, ⟨nd, rfl⟩⟩))
        go_loopg [4, 5] 3 (fun gg s4 s5 wr => ∃ (p : Nat) (v : Value) (bk cp : Nat → Nat), s4 = v ∧ s5 = .int .i64 p ∧ p ≤ 3 ∧ 3 - p ≤ gg ∧ Aside0 (Lst w wr v p bk cp (thirds cs)) ∧ Aside0 (0 < p → badThird cs = false))
        case atStart => exact ⟨0, _, fun _ => 0, fun _ => 0, rfl, rfl, by omega, by omega, Aside0.mk (Lst.start (by first | exact Below.refl _ _ | exact pw_below_drewN (Below.refl _ _) _)), Aside0.mk (fun h => absurd h (Nat.lt_irrefl 0))⟩
        case round =>
          obtain ⟨p, v, bk, cp, rfl, rfl, hp, hgg, hL, hnb⟩ := hrel
          by_cases hlt : p < 3
          · have hz : ((p : Int) < 3) = True := eq_true (by omega)
            have hnext := wrap_nat (i := p) (by omega)
            have HGG := Aside0.mk hgg
            have HP := Aside0.mk hlt
            have HN := Aside0.mk hnext
            clear hgg hp hlt
            go_wp2_with (first
              | (go_at_call 16; refine (spec_nlCounts.calls k a0 cs _ HCS.out).mono ?_; rintro e w5 ⟨v1, rfl, hR, hb⟩; obtain ⟨b, ccap, cur, rfl, hlo, hblk, _, _, _, hc⟩ := ownI hR (by rw [HLEN.out]; omega); have HB5 := Aside0.mk hb; have HBLK := Aside0.mk hblk; have HCC := Aside0.mk hc; rw [HLEN.out]; clear hb hR hc hlo hblk))
            go_loopg [6, 24] 4 (fun g2 s6 s24 wi => ∃ (i : Nat) (u : Value), s6 = u ∧ s24 = .int .i64 i ∧ i ≤ 4 ∧ 4 - i ≤ g2 ∧ Aside0 (wi.ownsRow w5.heap.size 3 1 u (tk cs i).length (nums .i64 (tk cs i))) ∧ Aside0 (Below w5.heap.size w5 wi) ∧ Aside0 (∀ j : Nat, j < i → Int.tmod (rd cs (j : Int)) 3 = 0))
            case atStart => exact ⟨0, _, rfl, rfl, by omega, by omega, Aside0.mk (World.ownsRow_nil _ _ _ _), Aside0.mk (by first | exact Below.refl _ _ | exact pw_below_drewN (Below.refl _ _) _), Aside0.mk (fun j hj => absurd hj (Nat.not_lt_zero j))⟩
            case round =>
              obtain ⟨i, u, rfl, rfl, hi, hg2, hO, hB, hM⟩ := hrel
              by_cases hil : i < 4
              · have hy : ((i : Int) < 4) = True := eq_true (by omega)
                have hy0 : (0 ≤ (i : Int)) = True := eq_true (by omega)
                have hnext2 := wrap_nat (i := i) (by omega)
                have hr := good_at HG.out hil
                have cC : wr.cell? ⟨b, i, none⟩ = some (.int .i64 (rd cs (i : Int))) := by
                  refine (hB.out.cell (p := ⟨b, i, none⟩) (blk_lt HBLK.out)).trans ?_
                  rw [blk_cell HBLK.out i]
                  exact HCC.out i _ hr.1
                have hq := wrap_tdiv hr.2.1 hr.2.2
                have HV := Aside0.mk hr.1
                have HG2 := Aside0.mk hg2
                have HI := Aside0.mk hil
                have HN2 := Aside0.mk hnext2
                clear hr hg2 hi hil
                by_cases hm : Int.tmod (rd cs (i : Int)) 3 = 0
                · have HMM := Aside0.mk hm
                  have hbytes : ((tk cs i).length + 1) * 8 ≤ 140737488355328 := by rw [tk_len (by rw [HLEN.out]; have := HI.out; omega)]; have := HI.out; omega
                  have HBY := Aside0.mk hbytes
                  clear hbytes
                  go_wp2_with (first
                    | ((with_reducible refine gate_builtin (b := .append) (xs := #[.tmp 31, .tmp 34]) rfl ?_); at_builtin; refine print_append_num (w0 := w5) w5.heap.size rfl (.tmp 31) (.tmp 34) 25 3 .i64 8 rfl Tryd.underlying25 HI1.out (by decide) _ (tk cs i) (Int.tdiv (rd cs (i : Int)) 3) rfl rfl hO.out hB.out hB.out.size HBY.out ?_; intro u7 w7 ho7 hb7 _ _; have HO7 := Aside0.mk ho7; have HB7 := Aside0.mk hb7; clear ho7 hb7))
                  go_roundg (4 - (i + 1))
                  case measure => exact meas4 HI.out HG2.out
                  case rel => exact ⟨i + 1, u7, rfl, by first | rfl | rw [HN2.out], HI.out, Nat.le_refl _, Aside0.mk (by rw [← tk_succ HV.out]; exact HO7.out), Aside0.mk HB7.out, Aside0.mk (fun j hj => by rcases Nat.lt_or_ge j i with h3 | h3; exact hM.out j h3; have e : j = i := Nat.le_antisymm (Nat.lt_succ_iff.1 hj) h3; rw [e]; exact HMM.out)⟩
                · have hbad := bad_at HV.out hm
                  have hm2 : (Int.tmod (rd cs (i : Int)) 3 != 0) = true := bne_iff_ne.2 hm
                  have hR := HRR.out
                  rw [if_pos hbad] at hR
                  obtain ⟨rfl, rfl⟩ := Prod.mk.inj hR
                  clear hR
                  go_wp2
                  go_ret2
                  exact ⟨rfl, ((hL.out.below.trans (HB5.out.mono hL.out.below.size))).trans (hB.out.mono (Nat.le_trans hL.out.below.size HB5.out.size))⟩
              · have hi4 : i = 4 := by omega
                subst hi4
                obtain ⟨g, cap, cur2, rfl, hglo, hgb, hgc⟩ := row_form (p := p) hO.out HLEN.out (fun k hk => (good_at HG.out hk).1)
                have hL2 := hL.out.kept (HB5.out.trans (hB.out.mono HB5.out.size))
                have HL2 := Aside0.mk hL2
                have HGB := Aside0.mk hgb
                have HGC := Aside0.mk hgc
                have HGL := Aside0.mk hglo
                have hbytes : ((rowVs bk cp p).length + 1) * 24 ≤ 140737488355328 := by rw [rowVs_len]; have := HP.out; omega
                have HBY := Aside0.mk hbytes
                clear hL2 hgb hgc hglo hbytes hi hg2 hil
                go_wp2_with (first
                  | ((with_reducible refine gate_builtin (b := .append) (xs := #[.tmp 37, .tmp 39]) rfl ?_); at_builtin; refine print_append (w0 := w) w.heap.size rfl (.tmp 37) (.tmp 39) 30 25 (.slice none 0 0) 24 rfl Tryd.underlying30 HI2.out rfl (by decide) _ (rowVs bk cp p) (.slice (some ⟨g, 0, none⟩) 4 cap) rfl rfl rfl HL2.out.own HL2.out.below HL2.out.below.size HBY.out ?_; intro v7 w7 ho7 hb7 hgr7 hat7; have HO7 := Aside0.mk ho7; have HB7 := Aside0.mk hb7; have HGR := Aside0.mk hgr7; have HAT := Aside0.mk hat7; clear ho7 hb7 hgr7 hat7))
                go_roundg (3 - (p + 1))
                case measure => exact meas3 HP.out HGG.out
                case rel => exact ⟨p + 1, v7, putAt bk p g, putAt cp p cap, rfl, by first | rfl | rw [HN.out], HP.out, Nat.le_refl _, Aside0.mk (hL.out.push (HB5.out.trans (hB.out.mono HB5.out.size)) (Nat.le_trans HB5.out.size HGL.out) HGB.out HGC.out HO7.out HB7.out HGR.out HAT.out), Aside0.mk (fun _ => bad_none HLEN.out (fun k hk => (good_at HG.out hk).1) hM.out)⟩
          · have hp3 : p = 3 := by omega
            subst hp3
            obtain ⟨lb, cap, rfl, hne, hleft⟩ := hL.out.full
            have hth := nlThree_calls a0 (ksOf a0) good_len (by have := (good_parts HG.out).1; omega) (good_ks HG.out) lb 0 cap bk cp hne a0.size 0 (by omega) 0 (thirds cs) wr hL.out.some3.full (thirds_range HG.out) hleft
            rw [List.drop_zero] at hth
            have HTH := Aside0.mk hth
            have hR := HRR.out
            rw [hnb.out (by omega), if_neg (by decide)] at hR
            obtain ⟨rfl, rfl⟩ := Prod.mk.inj hR
            clear hp hgg hlt hth hne hleft hR
            go_wp2_with (first
              | (go_at_call 17; refine HTH.out.mono ?_; rintro e w6 ⟨rfl, hb6⟩; have HB6 := Aside0.mk hb6; clear hb6))
            go_ret2
            exact ⟨rfl, hL.out.below.trans (HB6.out.mono hL.out.below.size)⟩
      · rw [if_neg hg] at H2; cases H2

/-! ### strings_Trim: function 27 (given) -/
def strings_Trim.f (s : ByteArray) (cut : ByteArray) : Option ByteArray := if (decide (s.size ≤ 9223372036854775807) && (decide (cut.size < 4294967281) && cut.data.toList.all fun b => decide (b.toNat < 128))) = true then some ⟨(Go.Lib.trimS s.data.toList cut.data.toList).toArray⟩ else none
theorem strings_Trim.calls (s cut r : ByteArray) (w : World) (h : strings_Trim.f s cut = some r) :
    Calls Tryd.prog 27 #[.string s, .string cut] w fun e w' => e = .returned (.string r) ∧ Below w.heap.size w w' := by
  unfold strings_Trim.f at h
  split at h
  · rename_i hc
    obtain ⟨h1, h2⟩ := Bool.and_eq_true_iff.1 hc
    obtain ⟨h3, h4⟩ := Bool.and_eq_true_iff.1 h2
    cases h
    exact Go.Proofs.Any.strings_Trim_laid Go.Proofs.Tryd.lays160 (by kernel_rfl) s cut w (of_decide_eq_true h1) (of_decide_eq_true h3) (Go.Proofs.ascii_of_all h4)
  · cases h

/-! ### impl_IsNecklace: function 18 -/
def impl_IsNecklace.f (a0 : ByteArray) : Option (Bool) := if (a0.size : Int) ≤ 16 then ((strings_Trim.f a0 (⟨#[97, 98, 99, 100]⟩ : ByteArray)).bind fun t106 => (some (t106.toList == ([] : List UInt8)))) else (some false)
set_option maxHeartbeats 8000000 in
set_option maxRecDepth 100000 in
theorem impl_IsNecklace.calls (a0 : ByteArray) (r : Bool) (w : World) (h : impl_IsNecklace.f a0 = some r) :
    Calls Tryd.prog 18 #[.string a0] w fun e w' => e = .returned (.bool r) ∧ Below w.heap.size w w' := by
  have HB := Aside0.mk (Below.refl w.heap.size w)
  have H : (if (a0.size : Int) ≤ 16 then ((strings_Trim.f a0 (⟨#[97, 98, 99, 100]⟩ : ByteArray)).bind fun t106 => (some (t106.toList == ([] : List UInt8)))) else (some false)) = some r := h
  clear h
  by_cases c2 : (a0.size : Int) ≤ 16
  · rw [if_pos c2] at H
    have c2b0 : decide ((a0.size : Int) ≤ 16) = true := decide_eq_true c2
    have c2b1 : decide (a0.size ≤ 16) = true := decide_eq_true (by omega)
    clear c2
    replace H := Option.bind_eq_some_iff.mp H
    obtain ⟨t106, A30, H⟩ := H
    replace H : (some (t106.toList == ([] : List UInt8))) = some r := H
    have A3 := Aside0.mk A30
    clear A30
    obtain rfl := Option.some.inj H
    go_enter Tryd.func18, Tryd.ntmps18
    go_wp2_with (first | (go_at_call 27; (with_reducible refine (strings_Trim.calls a0 (⟨#[97, 98, 99, 100]⟩ : ByteArray) t106 _ A3.out).mono ?_); rintro e w4 ⟨rfl, hb⟩; have n0_ := Aside0.mk (below_step (by repeat (first | (with_reducible first | exact HB.out | apply below_alloc | apply pw_below_drewN | apply below_drew1) | exact HB.out)) hb); clear HB; have HB := n0_; clear n0_; (try clear hb); (try clear hb2); (try clear hk); (try clear hi)))
    go_ret
    exact ⟨by first | rfl | (simp [errW_none, errW_some] <;> rfl) | (simp [*, errW_none, errW_some] <;> rfl), by repeat (first | (with_reducible first | exact HB.out | apply below_alloc | apply pw_below_drewN | apply below_drew1) | exact HB.out)⟩
  · rw [if_neg c2] at H
    have c2b0 : decide ((a0.size : Int) ≤ 16) = false := decide_eq_false c2
    have c2b1 : decide (a0.size ≤ 16) = false := decide_eq_false (by omega)
    clear c2
    obtain rfl := Option.some.inj H
    go_enter Tryd.func18, Tryd.ntmps18
    go_wp2
    go_ret
    exact ⟨by first | rfl | (simp [errW_none, errW_some] <;> rfl) | (simp [*, errW_none, errW_some] <;> rfl), by repeat (first | (with_reducible first | exact HB.out | apply below_alloc | apply pw_below_drewN | apply below_drew1) | exact HB.out)⟩

-- NOT PRINTED: function 28 (slices_IndexFunc_int_int)

-- NOT PRINTED: function 19 (slices_ContainsFunc_int_int)

/-! ### impl_counts: function 20 -/
def impl_counts.l0 : Nat → ByteArray → List Int → Int → Int → Option (List Int)
  | 0, _, _, _, _ => none
  | k + 1, x0, x3, x7, x8 => if x8 < x7 then (if 0 ≤ x8 then (if x8 < (x0.size : Int) then (if 0 ≤ (((bt x0 x8) - 97) % 256) then (if (((bt x0 x8) - 97) % 256) < (x3.length : Int) then (impl_counts.l0 k x0 (x3.set ((((bt x0 x8) - 97) % 256) : Int).toNat (wrap64 ((rd x3 (((bt x0 x8) - 97) % 256)) + 1))) x7 (wrap64 (x8 + 1))) else (none)) else (none)) else (none)) else (none)) else (some x3)
def impl_counts.f (k : Nat) (a0 : ByteArray) : Option (List Int) := if 4 ≤ 35184372088832 then (impl_counts.l0 k a0 (List.replicate 4 0) (a0.size : Int) 0) else (none)
theorem impl_counts.mono_l : ∀ k, (∀ y0 y1 y2 y3, LeO (impl_counts.l0 k y0 y1 y2 y3) (impl_counts.l0 (k + 1) y0 y1 y2 y3))
  | 0 => fun _ _ _ _ r h => by simp [impl_counts.l0] at h
  | k + 1 => by
    have ih0 := impl_counts.mono_l k
    · intro y0 y1 y2 y3
      unfold impl_counts.l0
      repeat' first
      | (with_reducible exact ih0 _ _ _ _)
      | (with_reducible exact LeO.refl _)
      | (with_reducible exact LeO.none _)
      | (with_reducible refine LeO.ite ?_ ?_)
      | (with_reducible refine LeO.bind ?_ (fun _ => ?_))
      | exact ih0 _ _ _ _
      | exact LeO.none _
      | refine LeO.ite ?_ ?_
      | refine LeO.bind ?_ (fun _ => ?_)
theorem impl_counts.mono : ∀ a0 k, LeO (impl_counts.f k a0) (impl_counts.f (k + 1) a0) := by
  intro a0 k
  have ih0 := impl_counts.mono_l k
  unfold impl_counts.f
  repeat' first
      | (with_reducible exact ih0 _ _ _ _)
      | (with_reducible exact LeO.refl _)
      | (with_reducible exact LeO.none _)
      | (with_reducible refine LeO.ite ?_ ?_)
      | (with_reducible refine LeO.bind ?_ (fun _ => ?_))
      | exact ih0 _ _ _ _
      | exact LeO.none _
      | refine LeO.ite ?_ ?_
      | refine LeO.bind ?_ (fun _ => ?_)
set_option maxHeartbeats 8000000 in
set_option maxRecDepth 100000 in
theorem impl_counts.calls (k : Nat) (a0 : ByteArray) (r : List Int) (w : World) (h : impl_counts.f k a0 = some r) :
    Calls Tryd.prog 20 #[.string a0] w fun e w' => ∃ v0_ : Value, e = .returned (v0_) ∧ Kd.R (Kd.int .i64) 3 w' w.heap.size (fun _ => True) v0_ r ∧ Below w.heap.size w w' := by
  have HB := Aside0.mk (Below.refl w.heap.size w)
  have H : (if 4 ≤ 35184372088832 then (impl_counts.l0 k a0 (List.replicate 4 0) (a0.size : Int) 0) else (none)) = some r := h
  clear h
  by_cases c2 : 4 ≤ 35184372088832
  · rw [if_pos c2] at H
    have c2b0 := eq_true c2
    have c2b1 : decide (4 ≤ 35184372088832) = true := decide_eq_true c2
    clear c2
    obtain ⟨y107, hy107⟩ : ∃ y_ : List Int, y_ = (List.replicate 4 0) := ⟨_, rfl⟩
    replace H : (impl_counts.l0 k a0 y107 (a0.size : Int) 0) = some r := by first | (rw [hy107]; with_reducible exact H) | (have H2_ := (Option.bind_some _ _).symm.trans H; rw [hy107]; with_reducible exact H2_) | (have H2_ := (Option.bind_some _ _).symm.trans H; with_reducible exact H2_) | with_reducible exact H | (rw [hy107]; exact H) | exact H
    have Ny107 := Aside0.mk hy107
    clear hy107
    have H' := Aside0.mk H
    clear H
    go_enter Tryd.func20, Tryd.ntmps20
    go_wp2_with (first | ((with_reducible refine gate_dst (N := 5) rfl ?_); refine Kd.R_make (Kd.int .i64) _ 3 rfl (N := 5) rfl 25 _ _ rfl 4 rfl rfl Tryd.underlying25 (.int .i64 0) 8 info3 rfl (by decide) (by omega) 0 (ok := fun _ => True) (okp := fun _ => True) rfl (fun _ hk => hk) trivial (by omega) (by omega) (Below.refl _ _) (Nat.le_refl _) ?_; intro v108 w3 ho4 hb hg_ hnew_; clear hg_ hnew_; (first | rw [← Ny107.out] at ho4 | (simp only [Int.reduceToNat] at ho4; rw [← Ny107.out] at ho4)); have n0_ := Aside0.mk (Kd.R_lower ho4 (below_size (by repeat (first | (with_reducible first | exact HB.out | apply below_alloc | apply pw_below_drewN | apply below_drew1) | exact HB.out)))); have n1_ := Aside0.mk (below_step (by repeat (first | (with_reducible first | exact HB.out | apply below_alloc | apply pw_below_drewN | apply below_drew1) | exact HB.out)) hb); clear HB; have HO109 := n0_; have HB := n1_; clear n0_ n1_; clear hb ho4))
    go_loopg [8] k (fun kq v8 w' => ∃ (x3_1 : List Int) (x8_1 : Int), v8 = .int .i64 x8_1 ∧ Aside0 (impl_counts.l0 kq a0 x3_1 (a0.size : Int) x8_1 = some r) ∧ Aside0 (kq ≤ k) ∧ Aside0 (Kd.R (Kd.int .i64) 3 w' w.heap.size (fun _ => True) v108 x3_1) ∧ Aside0 (Below w.heap.size w w'))
    case atStart => exact ⟨(y107), (0), (by first | rfl | (simp; done) | (simp [*]; done) | (simp [*, wrap64]; done)), H', ⟨Nat.le_refl _⟩, ⟨by (with_reducible repeat (first | apply Kd.R_alloc | apply Kd.R_drewN | apply Kd.R_drew)); exact HO109.out⟩, ⟨by repeat (first | (with_reducible first | exact HB.out | apply below_alloc | apply pw_below_drewN | apply below_drew1) | exact HB.out)⟩⟩
    case round =>
      clear H'
      try clear c2
      try clear c2b0
      try clear c2b1
      try clear p2
      obtain ⟨x3_1, x8_1, rfl, HA, HK1, HO_3, HB⟩ := hrel
      cases gk with
      | zero => exact absurd HA.out (by simp [impl_counts.l0])
      | succ k1 =>
        have H := HA.out
        clear HA
        simp only [impl_counts.l0] at H
        by_cases c5 : x8_1 < (a0.size : Int)
        · rw [if_pos c5] at H
          have c5b0 : decide (x8_1 < (a0.size : Int)) = true := decide_eq_true c5
          clear c5
          by_cases c6 : 0 ≤ x8_1
          · rw [if_pos c6] at H
            have c6b0 : decide (0 ≤ x8_1) = true := decide_eq_true c6
            clear c6
            by_cases c7 : x8_1 < (a0.size : Int)
            · rw [if_pos c7] at H
              have c7b0 : decide (x8_1 < (a0.size : Int)) = true := decide_eq_true c7
              clear c7
              obtain ⟨ji9, hji9⟩ : ∃ j_ : Int, (((bt a0 x8_1) - 97) % 256) = j_ := ⟨_, rfl⟩
              replace H : (if 0 ≤ (ji9) then (if (ji9) < (x3_1.length : Int) then (impl_counts.l0 k1 a0 (x3_1.set ((ji9) : Int).toNat (wrap64 ((rd x3_1 (ji9)) + 1))) (a0.size : Int) (wrap64 (x8_1 + 1))) else (none)) else (none)) = some r := by first | (rw [hji9] at H; exact H) | (simp only [hji9] at H ⊢; exact H)
              by_cases c10 : 0 ≤ (ji9)
              · rw [if_pos c10] at H
                have c10b0 : decide (0 ≤ (ji9)) = true := decide_eq_true c10
                clear c10
                by_cases c11 : (ji9) < (x3_1.length : Int)
                · rw [if_pos c11] at H
                  have c11b0 : decide ((ji9) < (x3_1.length : Int)) = true := decide_eq_true c11
                  clear c11
                  obtain ⟨y111, hy111⟩ : ∃ y_ : List Int, y_ = (x3_1.set ((ji9) : Int).toNat (wrap64 ((rd x3_1 (ji9)) + 1))) := ⟨_, rfl⟩
                  replace H : (impl_counts.l0 k1 a0 y111 (a0.size : Int) (wrap64 (x8_1 + 1))) = some r := by first | (rw [hy111]; with_reducible exact H) | (have H2_ := (Option.bind_some _ _).symm.trans H; rw [hy111]; with_reducible exact H2_) | (have H2_ := (Option.bind_some _ _).symm.trans H; with_reducible exact H2_) | with_reducible exact H | (rw [hy111]; exact H) | exact H
                  have Ny111 := Aside0.mk hy111
                  clear hy111
                  have H' := Aside0.mk H
                  clear H
                  have p8 : 0 ≤ (x8_1 : Int) := of_decide_eq_true (by first | (with_reducible assumption) | assumption)
                  have q8 : x8_1 < (a0.size : Int) := of_decide_eq_true (by first | (with_reducible assumption) | assumption)
                  have hx8 := bt_at a0 x8_1
                  replace p8 := eq_true p8
                  replace q8 := eq_true q8
                  obtain ⟨Ao13, co13, eo13⟩ := Kd.R_slice HO_3.out
                  subst eo13
                  have p110 : 0 ≤ ((ji9) : Int) := of_decide_eq_true (by first | (with_reducible assumption) | assumption)
                  have q110 : (ji9) < (x3_1.length : Int) := of_decide_eq_true (by first | (with_reducible assumption) | assumption)
                  obtain ⟨ad110, e110, hx110_0⟩ := Kd.at_int (Kd.R_reads' HO_3.out).2.2 (ji9) p110 q110
                  cases e110
                  replace p110 := eq_true p110
                  replace q110 := eq_true q110
                  have p12 : 0 ≤ ((ji9) : Int) := of_decide_eq_true (by first | (with_reducible assumption) | assumption)
                  have q12 : ((ji9) : Int) < ((x3_1.length : Int) : Int) := of_decide_eq_true (by first | (with_reducible assumption) | assumption)
                  obtain ⟨go12, co12, eo12, gb12, gl12, cl12, HG12⟩ := Kd.R_form HO_3.out (by omega)
                  (first | cases eo12 | (injection eo12 with ea_ en_ ec_; (first | subst ea_ | (injection ea_ with ea_; subst ea_)); subst ec_; clear en_))
                  have GB12 := Aside0.mk gb12
                  have GG12 := Aside0.mk HG12
                  clear gb12 gl12 HG12
                  (first | simp only [add_plain] at hx110_0 | skip)
                  obtain ⟨hx12_0, hf12_0⟩ := Kd.R_celln 0 HO_3.out ((ji9) : Int) p12 q12
                  replace p12 := eq_true p12
                  replace q12 := eq_true q12
                  have HP14 := Kd.R_putg HO_3.out ((ji9) : Int) (wrap64 ((rd x3_1 (ji9)) + 1))
                  go_wp2_with (first | ((with_reducible refine gate_store (t := 3) (p := 19) rfl ?_); refine store_event (t := 3) (p := 19) (v := ?vo_w15) (w1 := (wr.setCell ⟨go12, ((ji9) : Int).toNat, none⟩ (.int .i64 (wrap64 ((rd x3_1 (ji9)) + 1))))) ?hg ?ho ?hn ?hr ?_; (case ho => rfl); (case hg => rfl); (case hn => rfl); (case hr => first | (go_simp; done) | (go_simp; rfl)); intro w15 hw; have hg : wr.grownBy w15 (some go12) := (by rw [hw]; exact HP14.2); have hp_ : Kd.R (Kd.int .i64) 3 w15 w.heap.size (fun _ => True) (.slice (some ⟨go12, 0, none⟩) x3_1.length co13) y111 := (by rw [hw, Ny111.out]; exact HP14.1); clear HP14; have n0_ := Aside0.mk (hp_); have n1_ := Aside0.mk ((by rw [hw]; exact below_set (HB.out) GB12.out : Below w.heap.size w w15)); clear HO_3; clear HB; have HO_3 := n0_; have HB := n1_; clear n0_ n1_; clear hg hw hp_))
                  go_roundg k1
                  case measure => have := HK1.out; omega
                  case rel => exact ⟨(y111), (wrap64 (x8_1 + 1)), (by first | rfl | (simp; done) | (simp [*]; done) | (simp [*, wrap64]; done)), H', ⟨by have := HK1.out; omega⟩, ⟨by (with_reducible repeat (first | apply Kd.R_alloc | apply Kd.R_drewN | apply Kd.R_drew)); exact HO_3.out⟩, ⟨by repeat (first | (with_reducible first | exact HB.out | apply below_alloc | apply pw_below_drewN | apply below_drew1) | exact HB.out)⟩⟩
                · rw [if_neg c11] at H
                  exact absurd H (by simp)
              · rw [if_neg c10] at H
                exact absurd H (by simp)
            · rw [if_neg c7] at H
              exact absurd H (by simp)
          · rw [if_neg c6] at H
            exact absurd H (by simp)
        · rw [if_neg c5] at H
          have c5b0 : decide (x8_1 < (a0.size : Int)) = false := decide_eq_false c5
          clear c5
          obtain rfl := Option.some.inj H
          go_wp2
          go_ret
          exact ⟨_, by first | rfl | (simp [errW_none, errW_some] <;> rfl) | (simp [*, errW_none, errW_some] <;> rfl), by (with_reducible repeat (first | apply Kd.R_alloc | apply Kd.R_drewN | apply Kd.R_drew)); exact HO_3.out, by repeat (first | (with_reducible first | exact HB.out | apply below_alloc | apply pw_below_drewN | apply below_drew1) | exact HB.out)⟩
  · rw [if_neg c2] at H
    exact absurd H (by simp)

/-! ### impl_FewestForThree_1: function 21 -/
def impl_FewestForThree_1.f (a0 : Int) : Option (Bool) := some ((Int.tmod a0 3) != 0)
set_option maxHeartbeats 8000000 in
set_option maxRecDepth 100000 in
theorem impl_FewestForThree_1.calls (a0 : Int) (r : Bool) (w : World) (h : impl_FewestForThree_1.f a0 = some r) :
    Calls Tryd.prog 21 #[.int .i64 a0] w fun e w' => e = .returned (.bool r) ∧ Drawn0 w w' := by
  have H : (some ((Int.tmod a0 3) != 0)) = some r := h
  clear h
  obtain rfl := Option.some.inj H
  go_enter Tryd.func21, Tryd.ntmps21
  go_wp2
  go_ret
  exact ⟨by first | rfl | (simp; done) | (simp [*]; done) | (simp [*, wrap64]; done), by repeat (first | exact Drawn0.refl _ | apply Drawn0.step)⟩

/-! ### slices_IndexFunc_int_int__impl_FewestForThree_1: function 28 -/
def slices_IndexFunc_int_int__impl_FewestForThree_1.l0 : Nat → List Int → Int → Int → Option (Int)
  | 0, _, _, _ => none
  | k + 1, x0, x7, x8 => if x8 < x7 then (if 0 ≤ x8 then (if x8 < (x0.length : Int) then ((impl_FewestForThree_1.f (rd x0 x8)).bind fun t113 => (if t113 = true then (some x8) else (slices_IndexFunc_int_int__impl_FewestForThree_1.l0 k x0 x7 (wrap64 (x8 + 1))))) else (none)) else (none)) else (some (-1))
def slices_IndexFunc_int_int__impl_FewestForThree_1.f (k : Nat) (l0 : List Int)  : Option (Int) := slices_IndexFunc_int_int__impl_FewestForThree_1.l0 k l0 (l0.length : Int) 0
theorem slices_IndexFunc_int_int__impl_FewestForThree_1.mono_l : ∀ k, (∀ y0 y1 y2, LeO (slices_IndexFunc_int_int__impl_FewestForThree_1.l0 k y0 y1 y2) (slices_IndexFunc_int_int__impl_FewestForThree_1.l0 (k + 1) y0 y1 y2))
  | 0 => fun _ _ _ r h => by simp [slices_IndexFunc_int_int__impl_FewestForThree_1.l0] at h
  | k + 1 => by
    have ih0 := slices_IndexFunc_int_int__impl_FewestForThree_1.mono_l k
    · intro y0 y1 y2
      unfold slices_IndexFunc_int_int__impl_FewestForThree_1.l0
      repeat' first
      | (with_reducible exact ih0 _ _ _)
      | (with_reducible exact LeO.refl _)
      | (with_reducible exact LeO.none _)
      | (with_reducible refine LeO.ite ?_ ?_)
      | (with_reducible refine LeO.bind ?_ (fun _ => ?_))
      | exact ih0 _ _ _
      | exact LeO.none _
      | refine LeO.ite ?_ ?_
      | refine LeO.bind ?_ (fun _ => ?_)
theorem slices_IndexFunc_int_int__impl_FewestForThree_1.mono : ∀ a0 k, LeO (slices_IndexFunc_int_int__impl_FewestForThree_1.f k a0) (slices_IndexFunc_int_int__impl_FewestForThree_1.f (k + 1) a0) := by
  intro a0 k
  have ih0 := slices_IndexFunc_int_int__impl_FewestForThree_1.mono_l k
  unfold slices_IndexFunc_int_int__impl_FewestForThree_1.f
  repeat' first
      | (with_reducible exact ih0 _ _ _)
      | (with_reducible exact LeO.refl _)
      | (with_reducible exact LeO.none _)
      | (with_reducible refine LeO.ite ?_ ?_)
      | (with_reducible refine LeO.bind ?_ (fun _ => ?_))
      | exact ih0 _ _ _
      | exact LeO.none _
      | refine LeO.ite ?_ ?_
      | refine LeO.bind ?_ (fun _ => ?_)
set_option maxHeartbeats 8000000 in
set_option maxRecDepth 100000 in
theorem slices_IndexFunc_int_int__impl_FewestForThree_1.calls (k : Nat) (A0 : Option Addr) (c0 : Nat) (l0 : List Int)  (r : Int) (w : World) (hr0 : Kd.C (Kd.int .i64) w A0 l0.length l0) (hc0 : l0.length ≤ c0) (h : slices_IndexFunc_int_int__impl_FewestForThree_1.f k l0 = some r) :
    Calls Tryd.prog 28 #[.slice A0 l0.length c0, .func (.func 21) #[] #[]] w fun e w' => e = .returned (.int .i64 r) ∧ Drawn0 w w' := by
  have HR0 := Aside0.mk hr0
  have HC0 := Aside0.mk hc0
  clear hr0 hc0
  have H : (slices_IndexFunc_int_int__impl_FewestForThree_1.l0 k l0 (l0.length : Int) 0) = some r := h
  clear h
  have H' := Aside0.mk H
  clear H
  go_enter Tryd.func28, Tryd.ntmps28
  go_wp2
  go_loopg [8] k (fun kq v8 w' => ∃ (x8_1 : Int), v8 = .int .i64 x8_1 ∧ Aside0 (slices_IndexFunc_int_int__impl_FewestForThree_1.l0 kq l0 (l0.length : Int) x8_1 = some r) ∧ Aside0 (kq ≤ k) ∧ Drawn0 w w')
  case atStart => exact ⟨(0), (by first | rfl | (simp; done) | (simp [*]; done) | (simp [*, wrap64]; done)), H', ⟨Nat.le_refl _⟩, by repeat (first | exact Drawn0.refl _ | apply Drawn0.step)⟩
  case round =>
    clear H'
    try clear c2
    try clear p2
    obtain ⟨x8_1, rfl, HA, HK1, ⟨m1, rfl⟩⟩ := hrel
    cases gk with
    | zero => exact absurd HA.out (by simp [slices_IndexFunc_int_int__impl_FewestForThree_1.l0])
    | succ k1 =>
      have H := HA.out
      clear HA
      simp only [slices_IndexFunc_int_int__impl_FewestForThree_1.l0] at H
      by_cases c3 : x8_1 < (l0.length : Int)
      · rw [if_pos c3] at H
        have c3b0 : decide (x8_1 < (l0.length : Int)) = true := decide_eq_true c3
        clear c3
        by_cases c4 : 0 ≤ x8_1
        · rw [if_pos c4] at H
          have c4b0 : decide (0 ≤ x8_1) = true := decide_eq_true c4
          clear c4
          by_cases c5 : x8_1 < (l0.length : Int)
          · rw [if_pos c5] at H
            have c5b0 : decide (x8_1 < (l0.length : Int)) = true := decide_eq_true c5
            clear c5
            replace H := Option.bind_eq_some_iff.mp H
            obtain ⟨t113, A60, H⟩ := H
            replace H : (if t113 = true then (some x8_1) else (slices_IndexFunc_int_int__impl_FewestForThree_1.l0 k1 l0 (l0.length : Int) (wrap64 (x8_1 + 1)))) = some r := H
            have A6 := Aside0.mk A60
            clear A60
            by_cases c7 : t113 = true
            · subst c7
              have H1 : (some x8_1) = some r := by rw [if_pos rfl] at H; exact H
              clear H
              have H := H1
              clear H1
              obtain rfl := Option.some.inj H
              have p112 : 0 ≤ (x8_1 : Int) := of_decide_eq_true (by first | (with_reducible assumption) | assumption)
              have q112 : x8_1 < (l0.length : Int) := of_decide_eq_true (by first | (with_reducible assumption) | assumption)
              obtain ⟨ad112, e112, hx112_0⟩ := Kd.at_int HR0.out x8_1 p112 q112
              cases e112
              replace p112 := eq_true p112
              replace q112 := eq_true q112
              go_wp2_with (first | (go_at_call 21; (with_reducible refine (impl_FewestForThree_1.calls (rd l0 x8_1) true _ A6.out).mono ?_); rintro e w' ⟨rfl, ⟨nd, rfl⟩⟩))
              go_ret
              exact ⟨by first | rfl | (simp; done) | (simp [*]; done) | (simp [*, wrap64]; done), by repeat (first | exact Drawn0.refl _ | apply Drawn0.step)⟩
            · replace c7 := Bool.eq_false_iff.mpr c7
              subst c7
              have H1 : (slices_IndexFunc_int_int__impl_FewestForThree_1.l0 k1 l0 (l0.length : Int) (wrap64 (x8_1 + 1))) = some r := by rw [if_neg (show ¬ (false = true) by decide)] at H; exact H
              clear H
              have H := H1
              clear H1
              have H' := Aside0.mk H
              clear H
              have p112 : 0 ≤ (x8_1 : Int) := of_decide_eq_true (by first | (with_reducible assumption) | assumption)
              have q112 : x8_1 < (l0.length : Int) := of_decide_eq_true (by first | (with_reducible assumption) | assumption)
              obtain ⟨ad112, e112, hx112_0⟩ := Kd.at_int HR0.out x8_1 p112 q112
              cases e112
              replace p112 := eq_true p112
              replace q112 := eq_true q112
              go_wp2_with (first | (go_at_call 21; (with_reducible refine (impl_FewestForThree_1.calls (rd l0 x8_1) false _ A6.out).mono ?_); rintro e w' ⟨rfl, ⟨nd, rfl⟩⟩))
              go_roundg k1
              case measure => have := HK1.out; omega
              case rel => exact ⟨(wrap64 (x8_1 + 1)), (by first | rfl | (simp; done) | (simp [*]; done) | (simp [*, wrap64]; done)), H', ⟨by have := HK1.out; omega⟩, by repeat (first | exact Drawn0.refl _ | apply Drawn0.step)⟩
          · rw [if_neg c5] at H
            exact absurd H (by simp)
        · rw [if_neg c4] at H
          exact absurd H (by simp)
      · rw [if_neg c3] at H
        have c3b0 : decide (x8_1 < (l0.length : Int)) = false := decide_eq_false c3
        clear c3
        obtain rfl := Option.some.inj H
        go_wp2
        go_ret
        exact ⟨by first | rfl | (simp; done) | (simp [*]; done) | (simp [*, wrap64]; done), by repeat (first | exact Drawn0.refl _ | apply Drawn0.step)⟩

/-! ### slices_ContainsFunc_int_int__impl_FewestForThree_1: function 19 -/
def slices_ContainsFunc_int_int__impl_FewestForThree_1.f (k : Nat) (l0 : List Int)  : Option (Bool) := (slices_IndexFunc_int_int__impl_FewestForThree_1.f k l0).bind fun t114 => (some (decide (t114 ≥ 0)))
theorem slices_ContainsFunc_int_int__impl_FewestForThree_1.mono : ∀ a0 k, LeO (slices_ContainsFunc_int_int__impl_FewestForThree_1.f k a0) (slices_ContainsFunc_int_int__impl_FewestForThree_1.f (k + 1) a0) := by
  intro a0 k
  unfold slices_ContainsFunc_int_int__impl_FewestForThree_1.f
  repeat' first
      | (with_reducible exact slices_IndexFunc_int_int__impl_FewestForThree_1.mono _ _)
      | (with_reducible exact LeO.refl _)
      | (with_reducible exact LeO.none _)
      | (with_reducible refine LeO.ite ?_ ?_)
      | (with_reducible refine LeO.bind ?_ (fun _ => ?_))
      | exact slices_IndexFunc_int_int__impl_FewestForThree_1.mono _ _
      | exact LeO.none _
      | refine LeO.ite ?_ ?_
      | refine LeO.bind ?_ (fun _ => ?_)
set_option maxHeartbeats 8000000 in
set_option maxRecDepth 100000 in
theorem slices_ContainsFunc_int_int__impl_FewestForThree_1.calls (k : Nat) (A0 : Option Addr) (c0 : Nat) (l0 : List Int)  (r : Bool) (w : World) (hr0 : Kd.C (Kd.int .i64) w A0 l0.length l0) (hc0 : l0.length ≤ c0) (h : slices_ContainsFunc_int_int__impl_FewestForThree_1.f k l0 = some r) :
    Calls Tryd.prog 19 #[.slice A0 l0.length c0, .func (.func 21) #[] #[]] w fun e w' => e = .returned (.bool r) ∧ Drawn0 w w' := by
  have HR0 := Aside0.mk hr0
  have HC0 := Aside0.mk hc0
  clear hr0 hc0
  have H : ((slices_IndexFunc_int_int__impl_FewestForThree_1.f k l0).bind fun t114 => (some (decide (t114 ≥ 0)))) = some r := h
  clear h
  replace H := Option.bind_eq_some_iff.mp H
  obtain ⟨t114, A30, H⟩ := H
  replace H : (some (decide (t114 ≥ 0))) = some r := H
  have A3 := Aside0.mk A30
  clear A30
  obtain rfl := Option.some.inj H
  go_enter Tryd.func19, Tryd.ntmps19
  go_wp2_with (first | ((with_reducible refine gate_callee (f := 28) rfl ?_); refine goesL_ (some 7) rfl rfl Tryd.func28 (by kernel_rfl) rfl #[.slice A0 l0.length c0, .func (.func 21) #[] #[]] rfl (by (try simp only [List.map_toArray, List.map_cons, List.map_nil]); first | done | rfl | (simp only [List.length_drop, List.length_take]; rfl)) ?_; (with_reducible refine (slices_IndexFunc_int_int__impl_FewestForThree_1.calls k _ _ l0  t114 _ ?side1 ?side2 A3.out).mono ?_); (case side1 => repeat (first | exact HR0.out | (with_reducible refine Kd.C_alloc ?_ _) | (with_reducible refine Kd.C_drewN ?_ _) | (with_reducible refine Kd.C_drew ?_))); (case side2 => exact HC0.out); rintro e w' ⟨rfl, ⟨nd, rfl⟩⟩; refine ⟨_, rfl, ?_⟩))
  go_ret
  exact ⟨by first | rfl | (simp; done) | (simp [*]; done) | (simp [*, wrap64]; done), by repeat (first | exact Drawn0.refl _ | apply Drawn0.step)⟩

end Go.Proofs.YtmbkkhpjcblijaaDoor.PFnExactFewestForThree
