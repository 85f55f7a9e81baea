-- Written by a program of this session (wip/tools/pp.sh) out of the translation; Lean checks it.
import Derived.Test.YtmbkkhpjcblijaaDoorPFnExactFewestCutsx0
import Derived.Test.YtmbkkhpjcblijaaDoorPFnExactFewestCutsx2
import Derived.Test.YtmbkkhpjcblijaaDoorPFnExactFewestCutsx3
namespace Go.Proofs.YtmbkkhpjcblijaaDoor.PFnExactFewestCuts
open Go.RowKit Go.Proofs.YtmbkkhpjcblijaaDoorOwn Go.Proofs.YtmbkkhpjcblijaaDoorW.PrintWords Go.Proofs.YtmbkkhpjcblijaaDoorW.PrintLast Go.Proofs.YtmbkkhpjcblijaaDoorW.PrintMore
attribute [local go_sem] max2_int min2_int max_two min_two max_three min_three max_four min_four   -- for this text's walks alone
set_option linter.unusedVariables false
set_option linter.unusedSimpArgs false

/-! ### impl_isFair: function 43 -/
def impl_isFair.l0 : Nat → List Int → List Int → Int → Int → Option (Bool)
  | 0, _, _, _, _ => none
  | k + 1, x6, x14, x15, x16 => if x16 < x15 then (if 0 ≤ x16 then (if x16 < (x14.length : Int) then (if x16 < (x6.length : Int) then (if (wrap64 (2 * (rd x6 x16))) = (rd x14 x16) then (impl_isFair.l0 k x6 x14 x15 (wrap64 (x16 + 1))) else (some false)) else (none)) else (none)) else (none)) else (some true)
def impl_isFair.f (k : Nat) (a0 : ByteArray) (l1 : List Int) : Option (Bool) := (impl_counts.f k a0).bind fun t192 => ((impl_shares.f k a0 l1).bind fun t195 => (impl_isFair.l0 k t195 t192 (t192.length : Int) 0))
theorem impl_isFair.mono_l : ∀ k, (∀ y0 y1 y2 y3, LeO (impl_isFair.l0 k y0 y1 y2 y3) (impl_isFair.l0 (k + 1) y0 y1 y2 y3))
  | 0 => fun _ _ _ _ r h => by simp [impl_isFair.l0] at h
  | k + 1 => by
    have ih0 := impl_isFair.mono_l k
    · intro y0 y1 y2 y3
      unfold impl_isFair.l0
      repeat' first
      | (with_reducible exact ih0 _ _ _ _)
      | (with_reducible exact impl_counts.mono _ _)
      | (with_reducible exact impl_shares.mono _ _ _)
      | (with_reducible exact LeO.refl _)
      | (with_reducible exact LeO.none _)
      | (with_reducible refine LeO.ite ?_ ?_)
      | (with_reducible refine LeO.bind ?_ (fun _ => ?_))
      | exact ih0 _ _ _ _
      | exact impl_counts.mono _ _
      | exact impl_shares.mono _ _ _
      | exact LeO.none _
      | refine LeO.ite ?_ ?_
      | refine LeO.bind ?_ (fun _ => ?_)
theorem impl_isFair.mono : ∀ a0 a1 k, LeO (impl_isFair.f k a0 a1) (impl_isFair.f (k + 1) a0 a1) := by
  intro a0 a1 k
  have ih0 := impl_isFair.mono_l k
  unfold impl_isFair.f
  repeat' first
      | (with_reducible exact ih0 _ _ _ _)
      | (with_reducible exact impl_counts.mono _ _)
      | (with_reducible exact impl_shares.mono _ _ _)
      | (with_reducible exact LeO.refl _)
      | (with_reducible exact LeO.none _)
      | (with_reducible refine LeO.ite ?_ ?_)
      | (with_reducible refine LeO.bind ?_ (fun _ => ?_))
      | exact ih0 _ _ _ _
      | exact impl_counts.mono _ _
      | exact impl_shares.mono _ _ _
      | exact LeO.none _
      | refine LeO.ite ?_ ?_
      | refine LeO.bind ?_ (fun _ => ?_)
set_option maxHeartbeats 8000000 in
set_option maxRecDepth 100000 in
theorem impl_isFair.calls (k : Nat) (a0 : ByteArray) (A1 : Option Addr) (c1 : Nat) (l1 : List Int) (r : Bool) (w : World) (hr1 : Kd.C (Kd.int .i64) w A1 l1.length l1) (hc1 : l1.length ≤ c1) (h : impl_isFair.f k a0 l1 = some r) :
    Calls Tryd.prog 43 #[.string a0, .slice A1 l1.length c1] w fun e w' => e = .returned (.bool r) ∧ Below w.heap.size w w' := by
  have HR1 := Aside0.mk hr1
  have HC1 := Aside0.mk hc1
  clear hr1 hc1
  have HB := Aside0.mk (Below.refl w.heap.size w)
  have H : ((impl_counts.f k a0).bind fun t192 => ((impl_shares.f k a0 l1).bind fun t195 => (impl_isFair.l0 k t195 t192 (t192.length : Int) 0))) = some r := h
  clear h
  replace H := Option.bind_eq_some_iff.mp H
  obtain ⟨t192, A30, H⟩ := H
  replace H : ((impl_shares.f k a0 l1).bind fun t195 => (impl_isFair.l0 k t195 t192 (t192.length : Int) 0)) = some r := H
  have A3 := Aside0.mk A30
  clear A30
  replace H := Option.bind_eq_some_iff.mp H
  obtain ⟨t195, A40, H⟩ := H
  replace H : (impl_isFair.l0 k t195 t192 (t192.length : Int) 0) = some r := H
  have A4 := Aside0.mk A40
  clear A40
  have H' := Aside0.mk H
  clear H
  go_enter Tryd.func43, Tryd.ntmps43
  go_wp2_with (first | ((with_reducible refine gate_callee (f := 20) rfl ?_); refine goesL_ (some 10) rfl rfl Tryd.func20 (by kernel_rfl) rfl #[.string a0] rfl (by (try simp only [List.map_toArray, List.map_cons, List.map_nil]); first | done | rfl | (simp only [List.length_drop, List.length_take]; rfl)) ?_; (with_reducible refine (impl_counts.calls k a0 t192 _ A3.out).mono ?_); rintro e w5 ⟨v193, rfl, ho0, hb⟩; refine ⟨_, rfl, ?_⟩; have n0_ := Aside0.mk (Kd.R_lower ho0 (below_size (by repeat (first | (with_reducible first | exact HB.out | apply below_alloc | apply pw_below_drewN | apply below_drew1) | exact HB.out)))); have n1_ := Aside0.mk (below_step (by repeat (first | (with_reducible first | exact HB.out | apply below_alloc | apply pw_below_drewN | apply below_drew1) | exact HB.out)) hb); clear HB; have HO194 := n0_; have HB := n1_; clear n0_ n1_; (try clear hb); (try clear hb2); (try clear hk); (try clear hi); (try clear ho0)) | ((with_reducible refine gate_callee (f := 50) rfl ?_); refine goesL_ (some 13) rfl rfl Tryd.func50 (by kernel_rfl) rfl #[.string a0, .slice A1 l1.length c1] rfl (by (try simp only [List.map_toArray, List.map_cons, List.map_nil]); first | done | rfl | (simp only [List.length_drop, List.length_take]; rfl)) ?_; (with_reducible refine (impl_shares.calls k a0 _ _ l1 t195 _ ?side1 ?side2 A4.out).mono ?_); (case side1 => repeat (first | exact (Kd.C_below HR1.out HB.out) | (with_reducible refine Kd.C_alloc ?_ _) | (with_reducible refine Kd.C_drewN ?_ _) | (with_reducible refine Kd.C_drew ?_))); (case side2 => exact HC1.out); rintro e w6 ⟨v196, rfl, ho0, hb⟩; refine ⟨_, rfl, ?_⟩; have n0_ := Aside0.mk (Kd.R_elder' (by (with_reducible repeat (first | apply Kd.R_alloc | apply Kd.R_drewN | apply Kd.R_drew)); exact HO194.out) (Kd.R_base ho0) hb); have n1_ := Aside0.mk (Kd.R_lower (Kd.R_new' ho0 (Kd.R_lt (by (with_reducible repeat (first | apply Kd.R_alloc | apply Kd.R_drewN | apply Kd.R_drew)); exact HO194.out))) (below_size (by repeat (first | (with_reducible first | exact HB.out | apply below_alloc | apply pw_below_drewN | apply below_drew1) | exact HB.out)))); have n2_ := Aside0.mk (below_step (by repeat (first | (with_reducible first | exact HB.out | apply below_alloc | apply pw_below_drewN | apply below_drew1) | exact HB.out)) hb); clear HO194; clear HB; have HO194 := n0_; have HO197 := n1_; have HB := n2_; clear n0_ n1_ n2_; (try clear hb); (try clear hb2); (try clear hk); (try clear hi); (try clear ho0); obtain ⟨Ao7, co7, eo7⟩ := Kd.R_slice HO194.out; subst eo7))
  go_loopg [16] k (fun kq v16 w' => ∃ (x16_1 : Int), v16 = .int .i64 x16_1 ∧ Aside0 (impl_isFair.l0 kq t195 t192 (t192.length : Int) x16_1 = some r) ∧ Aside0 (kq ≤ k) ∧ Aside0 (Kd.R (Kd.int .i64) 3 w' w.heap.size (fun k_ => some k_ ≠ ((.slice Ao7 t192.length co7) : Value).ownBlock) v196 t195) ∧ Aside0 (Kd.R (Kd.int .i64) 3 w' w.heap.size (fun k_ => some k_ ≠ (v196 : Value).ownBlock) (.slice Ao7 t192.length co7) t192) ∧ Aside0 (Below w.heap.size w w'))
  case atStart => exact ⟨(0), (by first | rfl | (simp; done) | (simp [*]; done) | (simp [*, wrap64]; done)), H', ⟨Nat.le_refl _⟩, ⟨by (with_reducible repeat (first | apply Kd.R_alloc | apply Kd.R_drewN | apply Kd.R_drew)); exact Kd.R_mono HO197.out (fun _ hk => hk.2)⟩, ⟨by (with_reducible repeat (first | apply Kd.R_alloc | apply Kd.R_drewN | apply Kd.R_drew)); exact Kd.R_mono HO194.out (fun _ hk => hk.2)⟩, ⟨by repeat (first | (with_reducible first | exact HB.out | apply below_alloc | apply pw_below_drewN | apply below_drew1) | exact HB.out)⟩⟩
  case round =>
    clear H'
    try clear c1
    try clear c2
    try clear p2
    try clear c4
    try clear c5
    try clear p6
    obtain ⟨x16_1, rfl, HA, HK1, HO_6, HO_14, HB⟩ := hrel
    cases gk with
    | zero => exact absurd HA.out (by simp [impl_isFair.l0])
    | succ k1 =>
      have H := HA.out
      clear HA
      simp only [impl_isFair.l0] at H
      by_cases c8 : x16_1 < (t192.length : Int)
      · rw [if_pos c8] at H
        have c8b0 : decide (x16_1 < (t192.length : Int)) = true := decide_eq_true c8
        clear c8
        by_cases c9 : 0 ≤ x16_1
        · rw [if_pos c9] at H
          have c9b0 : decide (0 ≤ x16_1) = true := decide_eq_true c9
          clear c9
          by_cases c10 : x16_1 < (t192.length : Int)
          · rw [if_pos c10] at H
            have c10b0 : decide (x16_1 < (t192.length : Int)) = true := decide_eq_true c10
            clear c10
            by_cases c11 : x16_1 < (t195.length : Int)
            · rw [if_pos c11] at H
              have c11b0 : decide (x16_1 < (t195.length : Int)) = true := decide_eq_true c11
              clear c11
              by_cases c12 : (wrap64 (2 * (rd t195 x16_1))) = (rd t192 x16_1)
              · rw [if_pos c12] at H
                have c12b0 : ((wrap64 (2 * (rd t195 x16_1))) == (rd t192 x16_1)) = true := beq_iff_eq.mpr c12
                have c12b1 : ((wrap64 (2 * (rd t195 x16_1))) != (rd t192 x16_1)) = false := bne_eq_false_iff_eq.mpr c12
                clear c12
                have H' := Aside0.mk H
                clear H
                have p198 : 0 ≤ (x16_1 : Int) := of_decide_eq_true (by first | (with_reducible assumption) | assumption)
                have q198 : x16_1 < (t192.length : Int) := of_decide_eq_true (by first | (with_reducible assumption) | assumption)
                obtain ⟨ad198, e198, hx198_0⟩ := Kd.at_int (Kd.R_reads' HO_14.out).2.2 x16_1 p198 q198
                cases e198
                replace p198 := eq_true p198
                replace q198 := eq_true q198
                obtain ⟨Ao13, co13, eo13⟩ := Kd.R_slice HO_6.out
                subst eo13
                have p199 : 0 ≤ (x16_1 : Int) := of_decide_eq_true (by first | (with_reducible assumption) | assumption)
                have q199 : x16_1 < (t195.length : Int) := of_decide_eq_true (by first | (with_reducible assumption) | assumption)
                obtain ⟨ad199, e199, hx199_0⟩ := Kd.at_int (Kd.R_reads' HO_6.out).2.2 x16_1 p199 q199
                cases e199
                replace p199 := eq_true p199
                replace q199 := eq_true q199
                go_wp2
                go_roundg k1
                case measure => have := HK1.out; omega
                case rel => exact ⟨(wrap64 (x16_1 + 1)), (by first | rfl | (simp; done) | (simp [*]; done) | (simp [*, wrap64]; done)), H', ⟨by have := HK1.out; omega⟩, ⟨by (with_reducible repeat (first | apply Kd.R_alloc | apply Kd.R_drewN | apply Kd.R_drew)); exact HO_6.out⟩, ⟨by (with_reducible repeat (first | apply Kd.R_alloc | apply Kd.R_drewN | apply Kd.R_drew)); exact HO_14.out⟩, ⟨by repeat (first | (with_reducible first | exact HB.out | apply below_alloc | apply pw_below_drewN | apply below_drew1) | exact HB.out)⟩⟩
              · rw [if_neg c12] at H
                have c12b0 : ((wrap64 (2 * (rd t195 x16_1))) == (rd t192 x16_1)) = false := beq_eq_false_iff_ne.mpr c12
                have c12b1 : ((wrap64 (2 * (rd t195 x16_1))) != (rd t192 x16_1)) = true := bne_iff_ne.mpr c12
                obtain rfl := Option.some.inj H
                have p198 : 0 ≤ (x16_1 : Int) := of_decide_eq_true (by first | (with_reducible assumption) | assumption)
                have q198 : x16_1 < (t192.length : Int) := of_decide_eq_true (by first | (with_reducible assumption) | assumption)
                obtain ⟨ad198, e198, hx198_0⟩ := Kd.at_int (Kd.R_reads' HO_14.out).2.2 x16_1 p198 q198
                cases e198
                replace p198 := eq_true p198
                replace q198 := eq_true q198
                obtain ⟨Ao14, co14, eo14⟩ := Kd.R_slice HO_6.out
                subst eo14
                have p199 : 0 ≤ (x16_1 : Int) := of_decide_eq_true (by first | (with_reducible assumption) | assumption)
                have q199 : x16_1 < (t195.length : Int) := of_decide_eq_true (by first | (with_reducible assumption) | assumption)
                obtain ⟨ad199, e199, hx199_0⟩ := Kd.at_int (Kd.R_reads' HO_6.out).2.2 x16_1 p199 q199
                cases e199
                replace p199 := eq_true p199
                replace q199 := eq_true q199
                go_wp2
                go_ret
                exact ⟨by first | rfl | (simp [errW_none, errW_some] <;> rfl) | (simp [*, errW_none, errW_some] <;> rfl), by repeat (first | (with_reducible first | exact HB.out | apply below_alloc | apply pw_below_drewN | apply below_drew1) | exact HB.out)⟩
            · rw [if_neg c11] at H
              exact absurd H (by simp)
          · rw [if_neg c10] at H
            exact absurd H (by simp)
        · rw [if_neg c9] at H
          exact absurd H (by simp)
      · rw [if_neg c8] at H
        have c8b0 : decide (x16_1 < (t192.length : Int)) = false := decide_eq_false c8
        clear c8
        obtain rfl := Option.some.inj H
        go_wp2
        go_ret
        exact ⟨by first | rfl | (simp [errW_none, errW_some] <;> rfl) | (simp [*, errW_none, errW_some] <;> rfl), by repeat (first | (with_reducible first | exact HB.out | apply below_alloc | apply pw_below_drewN | apply below_drew1) | exact HB.out)⟩

/-! ### impl_fairCuts_1: function 42 -/
def impl_fairCuts_1.f (k : Nat) (l0 : List Int) (l1 : List ByteArray) : Option (Bool) := if 0 < (l1.length : Int) then ((impl_isFair.f k (rdOf ByteArray.empty l1 0) l0).bind fun t201 => (some (!t201))) else (none)
theorem impl_fairCuts_1.mono : ∀ a0 a1 k, LeO (impl_fairCuts_1.f k a0 a1) (impl_fairCuts_1.f (k + 1) a0 a1) := by
  intro a0 a1 k
  unfold impl_fairCuts_1.f
  repeat' first
      | (with_reducible exact impl_isFair.mono _ _ _)
      | (with_reducible exact LeO.refl _)
      | (with_reducible exact LeO.none _)
      | (with_reducible refine LeO.ite ?_ ?_)
      | (with_reducible refine LeO.bind ?_ (fun _ => ?_))
      | exact impl_isFair.mono _ _ _
      | exact LeO.none _
      | refine LeO.ite ?_ ?_
      | refine LeO.bind ?_ (fun _ => ?_)
set_option maxHeartbeats 8000000 in
set_option maxRecDepth 100000 in
theorem impl_fairCuts_1.calls (k : Nat) (A0 : Option Addr) (c0 : Nat) (l0 : List Int) (A1 : Option Addr) (c1 : Nat) (l1 : List ByteArray) (r : Bool) (w : World) (hr0 : Kd.C (Kd.int .i64) w A0 l0.length l0) (hc0 : l0.length ≤ c0) (hr1 : Kd.C Kd.string w A1 l1.length l1) (hc1 : l1.length ≤ c1) (h : impl_fairCuts_1.f k l0 l1 = some r) :
    Calls Tryd.prog 42 #[.slice A0 l0.length c0, .pointer A1] w fun e w' => e = .returned (.bool r) ∧ Below w.heap.size w w' := by
  have HR0 := Aside0.mk hr0
  have HC0 := Aside0.mk hc0
  clear hr0 hc0
  have HR1 := Aside0.mk hr1
  have HC1 := Aside0.mk hc1
  clear hr1 hc1
  have HB := Aside0.mk (Below.refl w.heap.size w)
  have H : (if 0 < (l1.length : Int) then ((impl_isFair.f k (rdOf ByteArray.empty l1 0) l0).bind fun t201 => (some (!t201))) else (none)) = some r := h
  clear h
  by_cases c3 : 0 < (l1.length : Int)
  · rw [if_pos c3] at H
    have c3b0 : decide (0 < (l1.length : Int)) = true := decide_eq_true c3
    have c3b1 : decide (0 < l1.length) = true := decide_eq_true (by omega)
    have c3b2 : (0 < l1.length) := by omega
    clear c3
    replace H := Option.bind_eq_some_iff.mp H
    obtain ⟨t201, A40, H⟩ := H
    replace H : (some (!t201)) = some r := H
    have A4 := Aside0.mk A40
    clear A40
    obtain rfl := Option.some.inj H
    have p200 : 0 ≤ (0 : Int) := (by omega)
    have q200 : 0 < (l1.length : Int) := of_decide_eq_true (by first | (with_reducible assumption) | assumption)
    obtain ⟨ad200, e200, hx200_0⟩ := Kd.at_string HR1.out 0 p200 q200
    cases e200
    have qi200 : (0 < l1.length) = True := eq_true (by omega)
    (try rw [show ((0 : Int)).toNat = 0 from rfl] at hx200_0)
    (try rw [Addr.add_zero'] at hx200_0)
    replace p200 := eq_true p200
    replace q200 := eq_true q200
    go_enter Tryd.func42, Tryd.ntmps42
    go_wp2_with (first | ((with_reducible refine gate_callee (f := 43) rfl ?_); refine goesL_ (some 6) rfl rfl Tryd.func43 (by kernel_rfl) rfl #[.string (rdOf ByteArray.empty l1 0), .slice A0 l0.length c0] rfl (by (try simp only [List.map_toArray, List.map_cons, List.map_nil]); first | done | rfl | (simp only [List.length_drop, List.length_take]; rfl)) ?_; (with_reducible refine (impl_isFair.calls k (rdOf ByteArray.empty l1 0) _ _ l0 t201 _ ?side1 ?side2 A4.out).mono ?_); (case side1 => repeat (first | exact HR0.out | (with_reducible refine Kd.C_alloc ?_ _) | (with_reducible refine Kd.C_drewN ?_ _) | (with_reducible refine Kd.C_drew ?_))); (case side2 => exact HC0.out); rintro e w5 ⟨rfl, hb⟩; refine ⟨_, rfl, ?_⟩; have n0_ := Aside0.mk (below_step (by repeat (first | (with_reducible first | exact HB.out | apply below_alloc | apply pw_below_drewN | apply below_drew1) | exact HB.out)) hb); clear HB; have HB := n0_; clear n0_; (try clear hb); (try clear hb2); (try clear hk); (try clear hi)))
    go_ret
    exact ⟨by first | rfl | (simp [errW_none, errW_some] <;> rfl) | (simp [*, errW_none, errW_some] <;> rfl), by repeat (first | (with_reducible first | exact HB.out | apply below_alloc | apply pw_below_drewN | apply below_drew1) | exact HB.out)⟩
  · rw [if_neg c3] at H
    exact absurd H (by simp)

/-! ### impl_fairCuts: function 30 (given) -/
def impl_fairCuts.q (k : Nat) (s : ByteArray) (x : List Int) : Bool := (impl_fairCuts_1.f k x [s]).getD false
def impl_fairCuts.f (k : Nat) (a0 : ByteArray) (a1 : Int) : Option (List (List Int)) := (impl_choices.f k (a0.size : Int) a1 1).bind fun t => if ((t.all fun x => (impl_fairCuts_1.f k x [a0]).isSome) && decide (t.length ≤ 9223372036854775807)) = true then some (t.filter fun x => !impl_fairCuts.q k a0 x) else none
theorem below_kept {w w1 w2 : World} {v : Value} (hb : Below w.heap.size w w1) (hbase : ∀ q, v.ownBlock = some q → w.heap.size ≤ q) (hos : w2.os = w1.os) (htp : w2.tape = w1.tape) (hout : w2.output = w1.output) (hK : Kept w1 w2 (fun k => some k = v.ownBlock)) : Below w.heap.size w w2 :=
  ⟨hos.trans hb.os, htp.trans hb.tape, hout.trans hb.output, Nat.le_trans hb.size hK.1, fun q hq => (hK.2 q (Nat.lt_of_lt_of_le hq hb.size) (fun e => by have := hbase q e.symm; omega)).trans (hb.block q hq)⟩
theorem impl_fairCuts.mono : ∀ a0 a1 k, LeO (impl_fairCuts.f k a0 a1) (impl_fairCuts.f (k + 1) a0 a1) := by
  intro a0 a1 k
  unfold impl_fairCuts.f
  refine LeO.bind (impl_choices.mono _ _ _ _) (fun t r h => ?_)
  split at h
  · rename_i hc
    obtain ⟨h1, h2⟩ := Bool.and_eq_true_iff.1 hc
    have hx : ∀ x ∈ t, ∃ v, impl_fairCuts_1.f k x [a0] = some v ∧ impl_fairCuts_1.f (k + 1) x [a0] = some v := fun x hx => by
      obtain ⟨v, hv⟩ := Option.isSome_iff_exists.1 (List.all_eq_true.1 h1 x hx)
      exact ⟨v, hv, impl_fairCuts_1.mono _ _ _ _ hv⟩
    rw [if_pos]
    · rw [← h]
      congr 1
      refine List.filter_congr fun x hx' => ?_
      obtain ⟨v, e1, e2⟩ := hx x hx'
      unfold impl_fairCuts.q
      rw [e1, e2]
    · rw [h2, Bool.and_true]
      exact List.all_eq_true.2 fun x hx' => by
        obtain ⟨v, e1, e2⟩ := hx x hx'
        rw [e2]; rfl
  · cases h
theorem impl_fairCuts.cl (k : Nat) (a0 : ByteArray) {w1 w2 : World} {gb : Nat} {ok : Nat → Prop} {v0 : Value} {t : List (List Int)} (hx : w1.heap[gb]? = some (.cells #[.string a0] 9 (0, 0))) (hb2 : Below w1.heap.size w1 w2)
    (hS : Kd.R (Kd.slice 3 (Kd.int .i64)) 25 w2 w1.heap.size ok v0 t) (hall : (t.all fun x => (impl_fairCuts_1.f k x [a0]).isSome) = true) :
    ∀ x ∈ t, ∀ (A : Option Addr) (c : Nat) (W : World), W.os = w2.os → W.tape = w2.tape → W.output = w2.output → Kept w2 W (fun k => some k = v0.ownBlock) → Kd.C (Kd.int .i64) W A x.length x → x.length ≤ c →
      Calls Tryd.prog 42 (#[.slice A x.length c] ++ #[.pointer (some ⟨gb, 0, none⟩)]) W fun e W' => e = .returned (.bool (impl_fairCuts.q k a0 x)) ∧ Below W.heap.size W W' := by
  intro x hx' A c W hos htp hout hK hC hlc
  have hgb : gb < w1.heap.size := blk_lt hx
  have hv0 : ∀ q, v0.ownBlock = some q → w1.heap.size ≤ q := fun q hq => Kd.R_base hS q hq
  have hW : W.heap[gb]? = w1.heap[gb]? := (hK.2 gb (Nat.lt_of_lt_of_le hgb hb2.size) (fun e => by have := hv0 gb e.symm; omega)).trans (hb2.block gb hgb)
  have hsome : impl_fairCuts_1.f k x [a0] = some (impl_fairCuts.q k a0 x) := by
    obtain ⟨v, hv⟩ := Option.isSome_iff_exists.1 (List.all_eq_true.1 hall x hx')
    unfold impl_fairCuts.q
    rw [hv]; rfl
  exact impl_fairCuts_1.calls k A c x (some ⟨gb, 0, none⟩) 1 [a0] (impl_fairCuts.q k a0 x) W hC hlc (Kd.C_box Kd.string (g := gb) (t := 9) (cs := #[.string a0]) (hW.trans hx) rfl) (Nat.le_refl _) hsome
set_option maxHeartbeats 8000000 in
set_option maxRecDepth 100000 in
theorem impl_fairCuts.calls (k : Nat) (a0 : ByteArray) (a1 : Int) (r : List (List Int)) (w : World) (h : impl_fairCuts.f k a0 a1 = some r) :
    Calls Tryd.prog 30 #[.string a0, .int .i64 a1] w fun e w' => ∃ (A : Option Addr) (c : Nat), e = .returned (.slice A r.length c) ∧ (∀ x q, r = x :: q → ∃ (b : Nat) (u : Value), A = some ⟨b, 0, none⟩ ∧ w'.cell? ⟨b, 0, none⟩ = some u ∧ Kd.R (Kd.int .i64) 3 w' w.heap.size (fun _ => True) u x) ∧ Below w.heap.size w w' := by
  unfold impl_fairCuts.f at h
  obtain ⟨t, ht, h2⟩ := Option.bind_eq_some_iff.mp h
  clear h
  have HT := Aside0.mk ht
  clear ht
  by_cases hc : ((t.all fun x => (impl_fairCuts_1.f k x [a0]).isSome) && decide (t.length ≤ 9223372036854775807)) = true
  · rw [if_pos hc] at h2
    have HRR := Aside0.mk (Option.some.inj h2)
    have HC := Aside0.mk hc
    clear h2 hc
    have eg : ∀ args w, (callFunc 42 args).run Tryd.prog w = .ok (.enter 42 args) w := Go.Proofs.enters_of Tryd.func42 (by kernel_rfl) rfl
    have HEG := Aside0.mk eg
    clear eg
    go_enter Tryd.func30, Tryd.ntmps30
    go_wp2_with (first
      | ((with_reducible refine gate_dst (N := 2) rfl ?_); refine box_event ?hg (N := 2) ?hd (cs := #[.string a0]) (t := 9) ?hr ?_; (case hd => rfl); (case hg => rfl); (case hr => first | (go_simp; done) | (go_simp; rfl)); intro gb hg w1 hbox hb; have HB1 := Aside0.mk hb; have HX := Aside0.mk hbox; have HG := Aside0.mk hg; clear hb hbox hg; have z0 : w1.cell? ⟨gb, 0, none⟩ = some (.string a0) := (blk_cell HX.out 0).trans rfl)
      | (go_at_call 41; refine (impl_choices.calls k (a0.size : Int) a1 1 t w1 HT.out).mono ?_; rintro e w2 ⟨v0, rfl, hS, hb2⟩; have HS := Aside0.mk (Kd.S_R hS); have HB2 := Aside0.mk hb2; clear hS hb2)
      | (go_at_call 40; refine (deleteF 42 #[.pointer (some ⟨gb, 0, none⟩)] HEG.out (impl_fairCuts.q k a0) HS.out (of_decide_eq_true (Bool.and_eq_true_iff.1 HC.out).2) (impl_fairCuts.cl k a0 HX.out HB2.out HS.out (Bool.and_eq_true_iff.1 HC.out).1)).mono ?_; rintro e w3 ⟨A3, c3, rfl, hos, htp, hout, hK, hfirst⟩; have HE := Aside0.mk (And.intro hos (And.intro htp (And.intro hout hK))); have HF := Aside0.mk hfirst; clear hos htp hout hK hfirst))
    go_ret
    have hE := HE.out
    have hv0 : ∀ q, v0.ownBlock = some q → w1.heap.size ≤ q := fun q hq => Kd.R_base HS.out q hq
    have h1 := HB1.out.size
    have hb2 : Below w.heap.size w w2 := HB1.out.trans (HB2.out.mono HB1.out.size)
    rw [← HRR.out]
    refine ⟨A3, c3, rfl, fun x q hx => ?_, below_kept hb2 (fun q hq => Nat.le_trans h1 (hv0 q hq)) hE.1 hE.2.1 hE.2.2.1 hE.2.2.2⟩
    obtain ⟨b, u, e1, e2, e3⟩ := HF.out x q hx
    exact ⟨b, u, e1, e2, Kd.R_mono (Kd.R_lower e3 h1) (fun _ _ => trivial)⟩
  · rw [if_neg hc] at h2
    cases h2

/-! ### impl_leastSplit: function 25 (given) -/
def impl_leastSplit.l0 : Nat → ByteArray → Int → Option (List Int × Bool)
  | 0, _, _ => none
  | k + 1, a0, x => if x < 5 then ((impl_fairCuts.f k a0 x).bind fun t => if 0 < t.length then some (t.headD [], true) else impl_leastSplit.l0 k a0 (wrap64 (x + 1))) else some ([], false)
def impl_leastSplit.f (k : Nat) (a0 : ByteArray) : Option (List Int × Bool) := impl_leastSplit.l0 k a0 0
theorem impl_leastSplit.mono_l : ∀ k a0 x, LeO (impl_leastSplit.l0 k a0 x) (impl_leastSplit.l0 (k + 1) a0 x)
  | 0, _, _ => fun r h => by simp [impl_leastSplit.l0] at h
  | k + 1, a0, x => by
    unfold impl_leastSplit.l0
    exact LeO.ite (LeO.bind (impl_fairCuts.mono _ _ _) (fun _ => LeO.ite (LeO.refl _) (impl_leastSplit.mono_l k a0 _))) (LeO.refl _)
theorem impl_leastSplit.mono : ∀ a0 k, LeO (impl_leastSplit.f k a0) (impl_leastSplit.f (k + 1) a0) := fun a0 k => impl_leastSplit.mono_l k a0 0
theorem cons_of_pos {α : Type} {t : List α} (h : 0 < t.length) (z : α) : ∃ q, t = t.headD z :: q := by
  cases t with
  | nil => cases h
  | cons x q => exact ⟨q, rfl⟩
set_option maxHeartbeats 8000000 in
set_option maxRecDepth 100000 in
theorem impl_leastSplit.calls (k : Nat) (a0 : ByteArray) (r1 : List Int) (r2 : Bool) (w : World) (h : impl_leastSplit.f k a0 = some (r1, r2)) :
    Calls Tryd.prog 25 #[.string a0] w fun e w' => ∃ v0_ : Value, e = .returned (.tuple #[v0_, .bool r2]) ∧ Kd.R (Kd.int .i64) 3 w' w.heap.size (fun _ => True) v0_ r1 ∧ Below w.heap.size w w' := by
  unfold impl_leastSplit.f at h
  have H' := Aside0.mk h
  clear h
  go_enter Tryd.func25, Tryd.ntmps25
  go_wp2
  go_loopg [6] k (fun kq v6 w' => ∃ x : Int, v6 = .int .i64 x ∧ Aside0 (impl_leastSplit.l0 kq a0 x = some (r1, r2)) ∧ Aside0 (kq ≤ k) ∧ Aside0 (Below w.heap.size w w'))
  case atStart => exact ⟨0, rfl, H', ⟨Nat.le_refl _⟩, ⟨Below.refl _ _⟩⟩
  case round =>
    clear H'
    obtain ⟨x, rfl, HA, HK, HB⟩ := hrel
    cases gk with
    | zero => exact absurd HA.out (by simp [impl_leastSplit.l0])
    | succ k1 =>
      have H := HA.out
      clear HA
      simp only [impl_leastSplit.l0] at H
      by_cases c : x < 5
      · rw [if_pos c] at H
        have cb : decide (x < 5) = true := decide_eq_true c
        clear c
        obtain ⟨t, ht, H⟩ := Option.bind_eq_some_iff.mp H
        have HT := Aside0.mk ht
        clear ht
        by_cases d : 0 < t.length
        · rw [if_pos d] at H
          obtain ⟨rfl, rfl⟩ := Prod.mk.injEq .. ▸ Option.some.inj H
          obtain ⟨q, hq⟩ := cons_of_pos d []
          have HQ := Aside0.mk hq
          have d1 : decide (0 < t.length) = true := decide_eq_true d
          have d2 : decide ((0 : Int) < (t.length : Int)) = true := decide_eq_true (by omega)
          have d3 : ((0 : Int) < (t.length : Int)) = True := eq_true (by omega)
          have d4 : (0 < t.length) = True := eq_true d
          clear H hq d
          go_wp2_with (first
            | (go_at_call 30; refine (impl_fairCuts.calls k1 a0 x t wr HT.out).mono ?_; rintro e w3 ⟨A3, c3, rfl, hf, hb⟩; obtain ⟨b3, u3, rfl, hc3, hu3⟩ := hf _ _ HQ.out; have HU := Aside0.mk hu3; have HB3 := Aside0.mk hb; clear hf hb hu3))
          go_ret2
          exact ⟨_, rfl, Kd.R_lower HU.out HB.out.size, HB.out.trans (HB3.out.mono HB.out.size)⟩
        · rw [if_neg d] at H
          have HH := Aside0.mk H
          have e0 : t.length = 0 := Nat.eq_zero_of_not_pos d
          have d1 : decide (0 < t.length) = false := decide_eq_false d
          have d2 : decide ((0 : Int) < (t.length : Int)) = false := decide_eq_false (by omega)
          clear H e0 d
          go_wp2_with (first
            | (go_at_call 30; refine (impl_fairCuts.calls k1 a0 x t wr HT.out).mono ?_; rintro e w3 ⟨A3, c3, rfl, hf, hb⟩; have HB3 := Aside0.mk (HB.out.trans (hb.mono HB.out.size)); clear hf hb))
          go_roundg k1
          case measure => have := HK.out; omega
          case rel => exact ⟨wrap64 (x + 1), by first | rfl | (simp; done), HH, ⟨by have := HK.out; omega⟩, HB3⟩
      · rw [if_neg c] at H
        have cb : decide (x < 5) = false := decide_eq_false c
        obtain ⟨rfl, rfl⟩ := Prod.mk.injEq .. ▸ Option.some.inj H
        clear c H
        go_wp2
        go_ret2
        exact ⟨_, rfl, Kd.R_nil _ _ _ _ _, HB.out⟩

/-! ### impl_FewestCuts: function 9 -/
def impl_FewestCuts.f (k : Nat) (a0 : ByteArray) : Option (Int × Bool) := (impl_IsNecklace.f a0).bind fun t202 => (if t202 = true then ((impl_leastSplit.f k a0).bind fun bt203 => (some ((bt203.1.length : Int), bt203.2))) else (some (0, false)))
theorem impl_FewestCuts.mono : ∀ a0 k, LeO (impl_FewestCuts.f k a0) (impl_FewestCuts.f (k + 1) a0) := by
  intro a0 k
  unfold impl_FewestCuts.f
  repeat' first
      | (with_reducible exact impl_leastSplit.mono _ _)
      | (with_reducible exact LeO.refl _)
      | (with_reducible exact LeO.none _)
      | (with_reducible refine LeO.ite ?_ ?_)
      | (with_reducible refine LeO.bind ?_ (fun _ => ?_))
      | exact impl_leastSplit.mono _ _
      | exact LeO.none _
      | refine LeO.ite ?_ ?_
      | refine LeO.bind ?_ (fun _ => ?_)
set_option maxHeartbeats 8000000 in
set_option maxRecDepth 100000 in
theorem impl_FewestCuts.calls (k : Nat) (a0 : ByteArray) (r1 : Int) (r2 : Bool) (w : World) (h : impl_FewestCuts.f k a0 = some (r1, r2)) :
    Calls Tryd.prog 9 #[.string a0] w fun e w' => e = .returned (.tuple #[.int .i64 r1, .bool r2]) ∧ Below w.heap.size w w' := by
  have HB := Aside0.mk (Below.refl w.heap.size w)
  have H : ((impl_IsNecklace.f a0).bind fun t202 => (if t202 = true then ((impl_leastSplit.f k a0).bind fun bt203 => (some ((bt203.1.length : Int), bt203.2))) else (some (0, false)))) = some (r1, r2) := h
  clear h
  replace H := Option.bind_eq_some_iff.mp H
  obtain ⟨t202, A20, H⟩ := H
  replace H : (if t202 = true then ((impl_leastSplit.f k a0).bind fun bt203 => (some ((bt203.1.length : Int), bt203.2))) else (some (0, false))) = some (r1, r2) := H
  have A2 := Aside0.mk A20
  clear A20
  by_cases c3 : t202 = true
  · subst c3
    have H1 : ((impl_leastSplit.f k a0).bind fun bt203 => (some ((bt203.1.length : Int), bt203.2))) = some (r1, r2) := by rw [if_pos rfl] at H; exact H
    clear H
    have H := H1
    clear H1
    replace H := Option.bind_eq_some_iff.mp H
    obtain ⟨⟨t203, t204⟩, A40, H⟩ := H
    replace H : (some ((t203.length : Int), t204)) = some (r1, r2) := H
    have A4 := Aside0.mk A40
    clear A40
    simp only [Option.some.injEq, Prod.mk.injEq] at H
    obtain ⟨rfl, rfl⟩ := H
    go_enter Tryd.func9, Tryd.ntmps9
    go_wp2_with (first | ((with_reducible refine gate_callee (f := 18) rfl ?_); refine goesL_ (some 7) rfl rfl Tryd.func18 (by kernel_rfl) rfl #[.string a0] rfl (by (try simp only [List.map_toArray, List.map_cons, List.map_nil]); first | done | rfl | (simp only [List.length_drop, List.length_take]; rfl)) ?_; (with_reducible refine (impl_IsNecklace.calls a0 true _ A2.out).mono ?_); rintro e w5 ⟨rfl, hb⟩; refine ⟨_, rfl, ?_⟩; have n0_ := Aside0.mk (below_step (by repeat (first | (with_reducible first | exact HB.out | apply below_alloc | apply pw_below_drewN | apply below_drew1) | exact HB.out)) hb); clear HB; have HB := n0_; clear n0_; (try clear hb); (try clear hb2); (try clear hk); (try clear hi)) | ((with_reducible refine gate_callee (f := 25) rfl ?_); refine goesL_ (some 11) rfl rfl Tryd.func25 (by kernel_rfl) rfl #[.string a0] rfl (by (try simp only [List.map_toArray, List.map_cons, List.map_nil]); first | done | rfl | (simp only [List.length_drop, List.length_take]; rfl)) ?_; (with_reducible refine (impl_leastSplit.calls k a0 t203 t204 _ A4.out).mono ?_); rintro e w6 ⟨v205, rfl, ho0, hb⟩; refine ⟨_, rfl, ?_⟩; have n0_ := Aside0.mk (Kd.R_lower ho0 (below_size (by repeat (first | (with_reducible first | exact HB.out | apply below_alloc | apply pw_below_drewN | apply below_drew1) | exact HB.out)))); have n1_ := Aside0.mk (below_step (by repeat (first | (with_reducible first | exact HB.out | apply below_alloc | apply pw_below_drewN | apply below_drew1) | exact HB.out)) hb); clear HB; have HO206 := n0_; have HB := n1_; clear n0_ n1_; (try clear hb); (try clear hb2); (try clear hk); (try clear hi); (try clear ho0); obtain ⟨Ao7, co7, eo7⟩ := Kd.R_slice HO206.out; subst eo7))
    go_ret2
    exact ⟨by first | rfl | (simp [errW_none, errW_some] <;> rfl) | (simp [*, errW_none, errW_some] <;> rfl), by repeat (first | (with_reducible first | exact HB.out | apply below_alloc | apply pw_below_drewN | apply below_drew1) | exact HB.out)⟩
  · replace c3 := Bool.eq_false_iff.mpr c3
    subst c3
    have H1 : (some (0, false)) = some (r1, r2) := by rw [if_neg (show ¬ (false = true) by decide)] at H; exact H
    clear H
    have H := H1
    clear H1
    simp only [Option.some.injEq, Prod.mk.injEq] at H
    obtain ⟨rfl, rfl⟩ := H
    go_enter Tryd.func9, Tryd.ntmps9
    go_wp2_with (first | ((with_reducible refine gate_callee (f := 18) rfl ?_); refine goesL_ (some 7) rfl rfl Tryd.func18 (by kernel_rfl) rfl #[.string a0] rfl (by (try simp only [List.map_toArray, List.map_cons, List.map_nil]); first | done | rfl | (simp only [List.length_drop, List.length_take]; rfl)) ?_; (with_reducible refine (impl_IsNecklace.calls a0 false _ A2.out).mono ?_); rintro e w8 ⟨rfl, hb⟩; refine ⟨_, rfl, ?_⟩; have n0_ := Aside0.mk (below_step (by repeat (first | (with_reducible first | exact HB.out | apply below_alloc | apply pw_below_drewN | apply below_drew1) | exact HB.out)) hb); clear HB; have HB := n0_; clear n0_; (try clear hb); (try clear hb2); (try clear hk); (try clear hi)))
    go_ret2
    exact ⟨by first | rfl | (simp [errW_none, errW_some] <;> rfl) | (simp [*, errW_none, errW_some] <;> rfl), by repeat (first | (with_reducible first | exact HB.out | apply below_alloc | apply pw_below_drewN | apply below_drew1) | exact HB.out)⟩

/-! ### laws_FnExactFewestCuts: function 4 -/
def laws_FnExactFewestCuts.f (k : Nat) (a0 : ByteArray) : Option (Bool) := if (a0.size : Int) > 1048576 then (some true) else ((spec_FewestCuts.f k a0).bind fun bt207 => ((impl_FewestCuts.f k a0).bind fun bt209 => (if bt209.1 = bt207.1 then (if (bt209.2 != bt207.2) = true then (some false) else (some true)) else (some false))))
theorem laws_FnExactFewestCuts.mono : ∀ a0 k, LeO (laws_FnExactFewestCuts.f k a0) (laws_FnExactFewestCuts.f (k + 1) a0) := by
  intro a0 k
  unfold laws_FnExactFewestCuts.f
  repeat' first
      | (with_reducible exact impl_FewestCuts.mono _ _)
      | (with_reducible exact spec_FewestCuts.mono _ _)
      | (with_reducible exact LeO.refl _)
      | (with_reducible exact LeO.none _)
      | (with_reducible refine LeO.ite ?_ ?_)
      | (with_reducible refine LeO.bind ?_ (fun _ => ?_))
      | exact impl_FewestCuts.mono _ _
      | exact spec_FewestCuts.mono _ _
      | exact LeO.none _
      | refine LeO.ite ?_ ?_
      | refine LeO.bind ?_ (fun _ => ?_)
set_option maxHeartbeats 8000000 in
set_option maxRecDepth 100000 in
theorem laws_FnExactFewestCuts.calls (k : Nat) (a0 : ByteArray) (r : Bool) (w : World) (h : laws_FnExactFewestCuts.f k a0 = some r) :
    Calls Tryd.prog 4 #[.string a0] w fun e w' => e = .returned (.bool r) ∧ Below w.heap.size w w' := by
  have HB := Aside0.mk (Below.refl w.heap.size w)
  have H : (if (a0.size : Int) > 1048576 then (some true) else ((spec_FewestCuts.f k a0).bind fun bt207 => ((impl_FewestCuts.f k a0).bind fun bt209 => (if bt209.1 = bt207.1 then (if (bt209.2 != bt207.2) = true then (some false) else (some true)) else (some false))))) = some r := h
  clear h
  by_cases c2 : (a0.size : Int) > 1048576
  · rw [if_pos c2] at H
    have c2b0 : decide (1048576 < (a0.size : Int)) = true := decide_eq_true c2
    have c2b1 : decide (1048576 < a0.size) = true := decide_eq_true (by omega)
    have c2b2 : (1048576 < a0.size) := by omega
    clear c2
    obtain rfl := Option.some.inj H
    go_enter Tryd.func4, Tryd.ntmps4
    go_wp2
    go_ret
    exact ⟨by first | rfl | (simp [errW_none, errW_some] <;> rfl) | (simp [*, errW_none, errW_some] <;> rfl), by repeat (first | (with_reducible first | exact HB.out | apply below_alloc | apply pw_below_drewN | apply below_drew1) | exact HB.out)⟩
  · rw [if_neg c2] at H
    have c2b0 : decide (1048576 < (a0.size : Int)) = false := decide_eq_false c2
    have c2b1 : decide (1048576 < a0.size) = false := decide_eq_false (by omega)
    have c2b2 : ¬ (1048576 < a0.size) := by omega
    clear c2
    replace H := Option.bind_eq_some_iff.mp H
    obtain ⟨⟨t207, t208⟩, A30, H⟩ := H
    replace H : ((impl_FewestCuts.f k a0).bind fun bt209 => (if bt209.1 = t207 then (if (bt209.2 != t208) = true then (some false) else (some true)) else (some false))) = some r := H
    have A3 := Aside0.mk A30
    clear A30
    replace H := Option.bind_eq_some_iff.mp H
    obtain ⟨⟨t209, t210⟩, A40, H⟩ := H
    replace H : (if t209 = t207 then (if (t210 != t208) = true then (some false) else (some true)) else (some false)) = some r := H
    have A4 := Aside0.mk A40
    clear A40
    by_cases c5 : t209 = t207
    · rw [if_pos c5] at H
      have c5b0 : (t209 == t207) = true := beq_iff_eq.mpr c5
      have c5b1 : (t209 != t207) = false := bne_eq_false_iff_eq.mpr c5
      clear c5
      by_cases c6 : (t210 != t208) = true
      · rw [if_pos c6] at H
        have c6b0 : (t210 != t208) = true := c6
        (try (have c6b1 : decide (t210 = t208) = false := by simpa using c6))
        (try (have c6b2 : (t210 == t208) = false := by simpa using c6))
        (try (have c6b3 : ¬ (t210 = t208) := by simpa using c6))
        clear c6
        obtain rfl := Option.some.inj H
        go_enter Tryd.func4, Tryd.ntmps4
        go_wp2_with (first | ((with_reducible refine gate_callee (f := 8) rfl ?_); refine goesL_ (some 12) rfl rfl Tryd.func8 (by kernel_rfl) rfl #[.string a0] rfl (by (try simp only [List.map_toArray, List.map_cons, List.map_nil]); first | done | rfl | (simp only [List.length_drop, List.length_take]; rfl)) ?_; (with_reducible refine (spec_FewestCuts.calls k a0 t207 t208 _ A3.out).mono ?_); rintro e w7 ⟨rfl, hb⟩; refine ⟨_, rfl, ?_⟩; have n0_ := Aside0.mk (below_step (by repeat (first | (with_reducible first | exact HB.out | apply below_alloc | apply pw_below_drewN | apply below_drew1) | exact HB.out)) hb); clear HB; have HB := n0_; clear n0_; (try clear hb); (try clear hb2); (try clear hk); (try clear hi)) | ((with_reducible refine gate_callee (f := 9) rfl ?_); refine goesL_ (some 17) rfl rfl Tryd.func9 (by kernel_rfl) rfl #[.string a0] rfl (by (try simp only [List.map_toArray, List.map_cons, List.map_nil]); first | done | rfl | (simp only [List.length_drop, List.length_take]; rfl)) ?_; (with_reducible refine (impl_FewestCuts.calls k a0 t209 t210 _ A4.out).mono ?_); rintro e w8 ⟨rfl, hb⟩; refine ⟨_, rfl, ?_⟩; have n0_ := Aside0.mk (below_step (by repeat (first | (with_reducible first | exact HB.out | apply below_alloc | apply pw_below_drewN | apply below_drew1) | exact HB.out)) hb); clear HB; have HB := n0_; clear n0_; (try clear hb); (try clear hb2); (try clear hk); (try clear hi)))
        go_ret
        exact ⟨by first | rfl | (simp [errW_none, errW_some] <;> rfl) | (simp [*, errW_none, errW_some] <;> rfl), by repeat (first | (with_reducible first | exact HB.out | apply below_alloc | apply pw_below_drewN | apply below_drew1) | exact HB.out)⟩
      · rw [if_neg c6] at H
        have c6b0 : (t210 != t208) = false := by simpa using c6
        (try (have c6b1 : decide (t210 = t208) = true := by simpa using c6))
        (try (have c6b2 : (t210 == t208) = true := by simpa using c6))
        clear c6
        obtain rfl := Option.some.inj H
        go_enter Tryd.func4, Tryd.ntmps4
        go_wp2_with (first | ((with_reducible refine gate_callee (f := 8) rfl ?_); refine goesL_ (some 12) rfl rfl Tryd.func8 (by kernel_rfl) rfl #[.string a0] rfl (by (try simp only [List.map_toArray, List.map_cons, List.map_nil]); first | done | rfl | (simp only [List.length_drop, List.length_take]; rfl)) ?_; (with_reducible refine (spec_FewestCuts.calls k a0 t207 t208 _ A3.out).mono ?_); rintro e w9 ⟨rfl, hb⟩; refine ⟨_, rfl, ?_⟩; have n0_ := Aside0.mk (below_step (by repeat (first | (with_reducible first | exact HB.out | apply below_alloc | apply pw_below_drewN | apply below_drew1) | exact HB.out)) hb); clear HB; have HB := n0_; clear n0_; (try clear hb); (try clear hb2); (try clear hk); (try clear hi)) | ((with_reducible refine gate_callee (f := 9) rfl ?_); refine goesL_ (some 17) rfl rfl Tryd.func9 (by kernel_rfl) rfl #[.string a0] rfl (by (try simp only [List.map_toArray, List.map_cons, List.map_nil]); first | done | rfl | (simp only [List.length_drop, List.length_take]; rfl)) ?_; (with_reducible refine (impl_FewestCuts.calls k a0 t209 t210 _ A4.out).mono ?_); rintro e w10 ⟨rfl, hb⟩; refine ⟨_, rfl, ?_⟩; have n0_ := Aside0.mk (below_step (by repeat (first | (with_reducible first | exact HB.out | apply below_alloc | apply pw_below_drewN | apply below_drew1) | exact HB.out)) hb); clear HB; have HB := n0_; clear n0_; (try clear hb); (try clear hb2); (try clear hk); (try clear hi)))
        go_ret
        exact ⟨by first | rfl | (simp [errW_none, errW_some] <;> rfl) | (simp [*, errW_none, errW_some] <;> rfl), by repeat (first | (with_reducible first | exact HB.out | apply below_alloc | apply pw_below_drewN | apply below_drew1) | exact HB.out)⟩
    · rw [if_neg c5] at H
      have c5b0 : (t209 == t207) = false := beq_eq_false_iff_ne.mpr c5
      have c5b1 : (t209 != t207) = true := bne_iff_ne.mpr c5
      obtain rfl := Option.some.inj H
      go_enter Tryd.func4, Tryd.ntmps4
      go_wp2_with (first | ((with_reducible refine gate_callee (f := 8) rfl ?_); refine goesL_ (some 12) rfl rfl Tryd.func8 (by kernel_rfl) rfl #[.string a0] rfl (by (try simp only [List.map_toArray, List.map_cons, List.map_nil]); first | done | rfl | (simp only [List.length_drop, List.length_take]; rfl)) ?_; (with_reducible refine (spec_FewestCuts.calls k a0 t207 t208 _ A3.out).mono ?_); rintro e w11 ⟨rfl, hb⟩; refine ⟨_, rfl, ?_⟩; have n0_ := Aside0.mk (below_step (by repeat (first | (with_reducible first | exact HB.out | apply below_alloc | apply pw_below_drewN | apply below_drew1) | exact HB.out)) hb); clear HB; have HB := n0_; clear n0_; (try clear hb); (try clear hb2); (try clear hk); (try clear hi)) | ((with_reducible refine gate_callee (f := 9) rfl ?_); refine goesL_ (some 17) rfl rfl Tryd.func9 (by kernel_rfl) rfl #[.string a0] rfl (by (try simp only [List.map_toArray, List.map_cons, List.map_nil]); first | done | rfl | (simp only [List.length_drop, List.length_take]; rfl)) ?_; (with_reducible refine (impl_FewestCuts.calls k a0 t209 t210 _ A4.out).mono ?_); rintro e w12 ⟨rfl, hb⟩; refine ⟨_, rfl, ?_⟩; have n0_ := Aside0.mk (below_step (by repeat (first | (with_reducible first | exact HB.out | apply below_alloc | apply pw_below_drewN | apply below_drew1) | exact HB.out)) hb); clear HB; have HB := n0_; clear n0_; (try clear hb); (try clear hb2); (try clear hk); (try clear hi)))
      go_ret
      exact ⟨by first | rfl | (simp [errW_none, errW_some] <;> rfl) | (simp [*, errW_none, errW_some] <;> rfl), by repeat (first | (with_reducible first | exact HB.out | apply below_alloc | apply pw_below_drewN | apply below_drew1) | exact HB.out)⟩

/-- THE ONE PURE STATEMENT of laws_FnExactFewestCuts: yours. -/
def laws_FnExactFewestCuts.Pure : Prop := ∀ (a0 : ByteArray), a0.size ≤ 140737488351232 → ∃ k, laws_FnExactFewestCuts.f k a0 = some true
theorem laws_FnExactFewestCuts.walk (P : laws_FnExactFewestCuts.Pure) (a0 : ByteArray) (w : World) (w0 : a0.size ≤ 140737488351232) :
    Calls Tryd.prog 4 #[.string a0] w fun e w' => e = .returned (.bool true) ∧ Below w.heap.size w w' := by
  obtain ⟨k, h⟩ := P a0 w0
  refine (laws_FnExactFewestCuts.calls k a0 true w h).mono ?_
  rintro e w' ⟨rfl, hd⟩
  exact ⟨rfl, hd⟩

end Go.Proofs.YtmbkkhpjcblijaaDoor.PFnExactFewestCuts
