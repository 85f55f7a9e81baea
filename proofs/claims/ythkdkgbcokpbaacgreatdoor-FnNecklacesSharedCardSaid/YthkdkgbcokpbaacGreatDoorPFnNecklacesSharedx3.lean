-- Written by a program of this session (wip/tools/pp.sh) out of the translation; Lean checks it.
import Derived.Test.YthkdkgbcokpbaacGreatDoorPFnNecklacesSharedx0
import Derived.Test.YthkdkgbcokpbaacGreatDoorPFnNecklacesSharedx2
namespace Go.Proofs.YthkdkgbcokpbaacGreatDoor.PFnNecklacesShared
open Go.RowKit Go.Proofs.YthkdkgbcokpbaacGreatDoorOwn Go.Proofs.YthkdkgbcokpbaacGreatDoorW.PrintWords Go.Proofs.YthkdkgbcokpbaacGreatDoorW.PrintLast Go.Proofs.YthkdkgbcokpbaacGreatDoorW.PrintMore
attribute [local go_sem] max2_int min2_int max_two min_two max_three min_three max_four min_four   -- for this text's walks alone
set_option linter.unusedVariables false
set_option maxHeartbeats 8000000
set_option maxRecDepth 100000
set_option linter.unusedSimpArgs false

/-! ### impl_isFair: function 42 -/
def impl_isFair.l0 : Nat → List Int → List Int → Int → Int → Option (Bool)
 | 0, _, _, _, _ => none
 | k + 1, x6, x14, x15, x16 => if x16 < x15 then (if 0 ≤ x16 then (if x16 < (x14.length : Int) then (if x16 < (x6.length : Int) then (if (wrap64 (2 * (rd x6 x16))) = (rd x14 x16) then (impl_isFair.l0 k x6 x14 x15 (wrap64 (x16 + 1))) else (some false)) else (none)) else (none)) else (none)) else (some true)
def impl_isFair.f (k : Nat) (a0 : ByteArray) (l1 : List Int) : Option (Bool) := (impl_counts.f k a0).bind fun t183 => ((impl_shares.f k a0 l1).bind fun t186 => (impl_isFair.l0 k t186 t183 (t183.length : Int) 0))
theorem impl_isFair.mono_l : ∀ k, (∀ y0 y1 y2 y3, LeO (impl_isFair.l0 k y0 y1 y2 y3) (impl_isFair.l0 (k + 1) y0 y1 y2 y3))
 | 0 => fun _ _ _ _ r h => by simp [impl_isFair.l0] at h
 | k + 1 => by
  have ih0 := impl_isFair.mono_l k
  ·intro y0 y1 y2 y3
   unfold impl_isFair.l0
   repeat' first
   | with_reducible first | exact ih0 _ _ _ _ | exact impl_counts.mono _ _ | exact impl_shares.mono _ _ _ | exact LeO.refl _ | exact LeO.none _ | refine LeO.ite ?_ ?_ | refine LeO.bind ?_ (fun _ => ?_)
   | exact LeO.none _ | refine LeO.ite ?_ ?_ | refine LeO.bind ?_ (fun _ => ?_)
theorem impl_isFair.mono : ∀ a0 a1 k, LeO (impl_isFair.f k a0 a1) (impl_isFair.f (k + 1) a0 a1) := by
 intro a0 a1 k
 have ih0 := impl_isFair.mono_l k
 unfold impl_isFair.f
 repeat' first
   | with_reducible first | exact ih0 _ _ _ _ | exact impl_counts.mono _ _ | exact impl_shares.mono _ _ _ | exact LeO.refl _ | exact LeO.none _ | refine LeO.ite ?_ ?_ | refine LeO.bind ?_ (fun _ => ?_)
   | exact LeO.none _ | refine LeO.ite ?_ ?_ | refine LeO.bind ?_ (fun _ => ?_)
theorem impl_isFair.calls (k : Nat) (a0 : ByteArray) (A1 : Option Addr) (c1 : Nat) (l1 : List Int) (r : Bool) (w : World) (hr1 : Kd.C (Kd.int .i64) w A1 l1.length l1) (hc1 : l1.length ≤ c1) (h : impl_isFair.f k a0 l1 = some r) :
  Calls Tryz.prog 42 #[.string a0, .slice A1 l1.length c1] w fun e w' => e = .returned (.bool r) ∧ Below w.heap.size w w' := by
 have HR1 := Aside0.mk hr1
 have HC1 := Aside0.mk hc1
 clear hr1 hc1
 have HB := Aside0.mk (Below.refl w.heap.size w)
 have H : ((impl_counts.f k a0).bind fun t183 => ((impl_shares.f k a0 l1).bind fun t186 => (impl_isFair.l0 k t186 t183 (t183.length : Int) 0))) = some r := h
 clear h
 replace H := EA H
 obtain ⟨t183, A3, H⟩ := H
 replace H := EA H
 obtain ⟨t186, A4, H⟩ := H
 have H' := Aside0.mk H
 clear H
 go_enter Tryz.func42, Tryz.ntmps42
 go_wp2_with (first | ((with_reducible refine gate_callee (f := 36) rfl ?_); refine goesL_ (some 10) rfl rfl Tryz.func36 (by kernel_rfl) rfl #[.string a0] rfl TA ?_; (with_reducible refine (impl_counts.calls k a0 t183 _ A3.out).mono ?_); rintro e w5 ⟨v184, rfl, ho0, hb⟩; refine ⟨_, rfl, ?_⟩; have n0_ := Aside0.mk (Kd.R_lower ho0 (below_size BB)); have n1_ := Aside0.mk (below_step BB hb); clear HB; have HO185 := n0_; have HB := n1_; clear n0_ n1_; (try clear hb); (try clear hb2); (try clear hk); (try clear hi); (try clear ho0)) | ((with_reducible refine gate_callee (f := 69) rfl ?_); refine goesL_ (some 13) rfl rfl Tryz.func69 (by kernel_rfl) rfl #[.string a0, .slice A1 l1.length c1] rfl TA ?_; (with_reducible refine (impl_shares.calls k a0 _ _ l1 t186 _ ?side1 ?side2 A4.out).mono ?_); (case side1 => exact CW (Kd.C_below HR1.out HB.out)); (case side2 => exact HC1.out); rintro e w6 ⟨v187, rfl, ho0, hb⟩; refine ⟨_, rfl, ?_⟩; have n0_ := Aside0.mk (Kd.R_elder' (KR HO185) (Kd.R_base ho0) hb); have n1_ := Aside0.mk (Kd.R_lower (Kd.R_new' ho0 (Kd.R_lt (KR HO185))) (below_size BB)); have n2_ := Aside0.mk (below_step BB hb); clear HO185; clear HB; have HO185 := n0_; have HO188 := n1_; have HB := n2_; clear n0_ n1_ n2_; (try clear hb); (try clear hb2); (try clear hk); (try clear hi); (try clear ho0); obtain ⟨Ao7, co7, eo7⟩ := Kd.R_slice HO185.out; subst eo7))
 go_loopg [16] k (fun kq v16 w' => ∃ (x16_1 : Int), v16 = .int .i64 x16_1 ∧ Aside0 (impl_isFair.l0 kq t186 t183 (t183.length : Int) x16_1 = some r) ∧ Aside0 (kq ≤ k) ∧ Aside0 (Kd.R (Kd.int .i64) 3 w' w.heap.size (fun k_ => some k_ ≠ ((.slice Ao7 t183.length co7) : Value).ownBlock) v187 t186) ∧ Aside0 (Kd.R (Kd.int .i64) 3 w' w.heap.size (fun k_ => some k_ ≠ (v187 : Value).ownBlock) (.slice Ao7 t183.length co7) t183) ∧ Aside0 (Below w.heap.size w w'))
 case atStart => exact ⟨(0), RF, H', ⟨Nat.le_refl _⟩, ⟨by (with_reducible repeat (first | apply Kd.R_alloc | apply Kd.R_drewN | apply Kd.R_drew)); exact Kd.R_mono HO188.out (fun _ hk => hk.2)⟩, ⟨by (with_reducible repeat (first | apply Kd.R_alloc | apply Kd.R_drewN | apply Kd.R_drew)); exact Kd.R_mono HO185.out (fun _ hk => hk.2)⟩, ⟨BB⟩⟩
 case round =>
  clear H'
  try clear c1
  try clear p2
  try clear c3
  try clear c4
  try clear c6
  try clear p6
  obtain ⟨x16_1, rfl, HA, HK1, HO_6, HO_14, HB⟩ := hrel
  cases gk with
  | zero => exact absurd HA.out (by simp [impl_isFair.l0])
  | succ k1 =>
   have H := HA.out
   clear HA
   simp only [impl_isFair.l0] at H
   by_cases c8 : x16_1 < (t183.length : Int)
   ·rw [if_pos c8] at H
    have c8b0 : decide (x16_1 < (t183.length : Int)) = true := decide_eq_true c8
    clear c8
    by_cases c9 : 0 ≤ x16_1
    ·rw [if_pos c9] at H
     have c9b0 : decide (0 ≤ x16_1) = true := decide_eq_true c9
     clear c9
     by_cases c10 : x16_1 < (t183.length : Int)
     ·rw [if_pos c10] at H
      have c10b0 : decide (x16_1 < (t183.length : Int)) = true := decide_eq_true c10
      clear c10
      by_cases c11 : x16_1 < (t186.length : Int)
      ·rw [if_pos c11] at H
       have c11b0 : decide (x16_1 < (t186.length : Int)) = true := decide_eq_true c11
       clear c11
       by_cases c12 : (wrap64 (2 * (rd t186 x16_1))) = (rd t183 x16_1)
       ·rw [if_pos c12] at H
        have c12b0 : ((wrap64 (2 * (rd t186 x16_1))) == (rd t183 x16_1)) = true := beq_iff_eq.mpr c12
        have c12b1 : ((wrap64 (2 * (rd t186 x16_1))) != (rd t183 x16_1)) = false := bne_eq_false_iff_eq.mpr c12
        clear c12
        have H' := Aside0.mk H
        clear H
        have p189 : 0 ≤ (x16_1 : Int) := of_decide_eq_true AS
        have q189 : x16_1 < (t183.length : Int) := of_decide_eq_true AS
        obtain ⟨ad189, e189, hx189_0⟩ := Kd.at_int (Kd.R_reads' HO_14.out).2.2 x16_1 p189 q189
        cases e189
        replace p189 := eq_true p189
        replace q189 := eq_true q189
        obtain ⟨Ao13, co13, eo13⟩ := Kd.R_slice HO_6.out
        subst eo13
        have p190 : 0 ≤ (x16_1 : Int) := of_decide_eq_true AS
        have q190 : x16_1 < (t186.length : Int) := of_decide_eq_true AS
        obtain ⟨ad190, e190, hx190_0⟩ := Kd.at_int (Kd.R_reads' HO_6.out).2.2 x16_1 p190 q190
        cases e190
        replace p190 := eq_true p190
        replace q190 := eq_true q190
        go_wp2
        go_roundg k1
        case measure => have := HK1.out; omega
        case rel => exact ⟨(wrap64 (x16_1 + 1)), RF, H', ⟨by have := HK1.out; omega⟩, ⟨KR HO_6⟩, ⟨KR HO_14⟩, ⟨BB⟩⟩
       ·rw [if_neg c12] at H
        have c12b0 : ((wrap64 (2 * (rd t186 x16_1))) == (rd t183 x16_1)) = false := beq_eq_false_iff_ne.mpr c12
        have c12b1 : ((wrap64 (2 * (rd t186 x16_1))) != (rd t183 x16_1)) = true := bne_iff_ne.mpr c12
        obtain rfl := Option.some.inj H
        have p189 : 0 ≤ (x16_1 : Int) := of_decide_eq_true AS
        have q189 : x16_1 < (t183.length : Int) := of_decide_eq_true AS
        obtain ⟨ad189, e189, hx189_0⟩ := Kd.at_int (Kd.R_reads' HO_14.out).2.2 x16_1 p189 q189
        cases e189
        replace p189 := eq_true p189
        replace q189 := eq_true q189
        obtain ⟨Ao14, co14, eo14⟩ := Kd.R_slice HO_6.out
        subst eo14
        have p190 : 0 ≤ (x16_1 : Int) := of_decide_eq_true AS
        have q190 : x16_1 < (t186.length : Int) := of_decide_eq_true AS
        obtain ⟨ad190, e190, hx190_0⟩ := Kd.at_int (Kd.R_reads' HO_6.out).2.2 x16_1 p190 q190
        cases e190
        replace p190 := eq_true p190
        replace q190 := eq_true q190
        go_wp2
        go_ret
        exact ⟨RE, BB⟩
      ·rw [if_neg c11] at H
       cases H
     ·rw [if_neg c10] at H
      cases H
    ·rw [if_neg c9] at H
     cases H
   ·rw [if_neg c8] at H
    have c8b0 : decide (x16_1 < (t183.length : Int)) = false := decide_eq_false c8
    clear c8
    obtain rfl := Option.some.inj H
    go_wp2
    go_ret
    exact ⟨RE, BB⟩

/-! ### impl_fairCuts_1: function 74 -/
def impl_fairCuts_1.f (k : Nat) (l0 : List Int) (l1 : List ByteArray) : Option (Bool) := if 0 < (l1.length : Int) then ((impl_isFair.f k (rdOf ByteArray.empty l1 0) l0).bind fun t192 => (some (!t192))) else (none)
theorem impl_fairCuts_1.mono : ∀ a0 a1 k, LeO (impl_fairCuts_1.f k a0 a1) (impl_fairCuts_1.f (k + 1) a0 a1) := by
 intro a0 a1 k
 unfold impl_fairCuts_1.f
 repeat' first
   | with_reducible first | exact impl_isFair.mono _ _ _ | exact LeO.refl _ | exact LeO.none _ | refine LeO.ite ?_ ?_ | refine LeO.bind ?_ (fun _ => ?_)
   | exact LeO.none _ | refine LeO.ite ?_ ?_ | refine LeO.bind ?_ (fun _ => ?_)
theorem impl_fairCuts_1.calls (k : Nat) (A0 : Option Addr) (c0 : Nat) (l0 : List Int) (A1 : Option Addr) (c1 : Nat) (l1 : List ByteArray) (r : Bool) (w : World) (hr0 : Kd.C (Kd.int .i64) w A0 l0.length l0) (hc0 : l0.length ≤ c0) (hr1 : Kd.C Kd.string w A1 l1.length l1) (hc1 : l1.length ≤ c1) (h : impl_fairCuts_1.f k l0 l1 = some r) :
  Calls Tryz.prog 74 #[.slice A0 l0.length c0, .pointer A1] w fun e w' => e = .returned (.bool r) ∧ Below w.heap.size w w' := by
 have HR0 := Aside0.mk hr0
 have HC0 := Aside0.mk hc0
 clear hr0 hc0
 have HR1 := Aside0.mk hr1
 have HC1 := Aside0.mk hc1
 clear hr1 hc1
 have HB := Aside0.mk (Below.refl w.heap.size w)
 have H : (if 0 < (l1.length : Int) then ((impl_isFair.f k (rdOf ByteArray.empty l1 0) l0).bind fun t192 => (some (!t192))) else (none)) = some r := h
 clear h
 by_cases c3 : 0 < (l1.length : Int)
 ·rw [if_pos c3] at H
  have c3b0 : decide (0 < (l1.length : Int)) = true := decide_eq_true c3
  have c3b1 : decide (0 < l1.length) = true := decide_eq_true (by omega)
  clear c3
  replace H := EA H
  obtain ⟨t192, A4, H⟩ := H
  obtain rfl := Option.some.inj H
  have p191 : 0 ≤ (0 : Int) := (by omega)
  have q191 : 0 < (l1.length : Int) := of_decide_eq_true AS
  obtain ⟨ad191, e191, hx191_0⟩ := Kd.at_string HR1.out 0 p191 q191
  cases e191
  have qi191 : (0 < l1.length) = True := eq_true (by omega)
  (try rw [show ((0 : Int)).toNat = 0 from rfl] at hx191_0)
  (try rw [Addr.add_zero'] at hx191_0)
  replace p191 := eq_true p191
  replace q191 := eq_true q191
  go_enter Tryz.func74, Tryz.ntmps74
  go_wp2_with (first | ((with_reducible refine gate_callee (f := 42) rfl ?_); refine goesL_ (some 6) rfl rfl Tryz.func42 (by kernel_rfl) rfl #[.string (rdOf ByteArray.empty l1 0), .slice A0 l0.length c0] rfl TA ?_; (with_reducible refine (impl_isFair.calls k (rdOf ByteArray.empty l1 0) _ _ l0 t192 _ ?side1 ?side2 A4.out).mono ?_); (case side1 => exact CW HR0.out); (case side2 => exact HC0.out); rintro e w5 ⟨rfl, hb⟩; refine ⟨_, rfl, ?_⟩; have n0_ := Aside0.mk (below_step BB hb); clear HB; have HB := n0_; clear n0_; (try clear hb); (try clear hb2); (try clear hk); (try clear hi)))
  go_ret
  exact ⟨RE, BB⟩
 ·rw [if_neg c3] at H
  cases H

/-! ### impl_fairCuts: function 48 (given) -/
def impl_fairCuts.q (k : Nat) (s : ByteArray) (x : List Int) : Bool := (impl_fairCuts_1.f k x [s]).getD false
def impl_fairCuts.f (k : Nat) (a0 : ByteArray) (a1 : Int) : Option (List (List Int)) := (impl_choices.f k (a0.size : Int) a1 1).bind fun t => if ((t.all fun x => (impl_fairCuts_1.f k x [a0]).isSome) && decide (t.length ≤ 9223372036854775807)) = true then some (t.filter fun x => !impl_fairCuts.q k a0 x) else none
theorem below_kept {w w1 w2 : World} {v : Value} (hb : Below w.heap.size w w1) (hbase : ∀ q, v.ownBlock = some q → w.heap.size ≤ q) (hos : w2.os = w1.os) (htp : w2.tape = w1.tape) (hout : w2.output = w1.output) (hK : Kept w1 w2 (fun k => some k = v.ownBlock)) : Below w.heap.size w w2 :=
 ⟨hos.trans hb.os, htp.trans hb.tape, hout.trans hb.output, Nat.le_trans hb.size hK.1, fun q hq => (hK.2 q (Nat.lt_of_lt_of_le hq hb.size) (fun e => by have := hbase q e.symm; omega)).trans (hb.block q hq)⟩
theorem impl_fairCuts.mono : ∀ a0 a1 k, LeO (impl_fairCuts.f k a0 a1) (impl_fairCuts.f (k + 1) a0 a1) := by
 intro a0 a1 k
 unfold impl_fairCuts.f
 refine LeO.bind (impl_choices.mono _ _ _ _) (fun t r h => ?_)
 split at h
 ·rename_i hc
  obtain ⟨h1, h2⟩ := Bool.and_eq_true_iff.1 hc
  have hx : ∀ x ∈ t, ∃ v, impl_fairCuts_1.f k x [a0] = some v ∧ impl_fairCuts_1.f (k + 1) x [a0] = some v := fun x hx => by
   obtain ⟨v, hv⟩ := Option.isSome_iff_exists.1 (List.all_eq_true.1 h1 x hx)
   exact ⟨v, hv, impl_fairCuts_1.mono _ _ _ _ hv⟩
  rw [if_pos]
  ·rw [← h]
   congr 1
   refine List.filter_congr fun x hx' => ?_
   obtain ⟨v, e1, e2⟩ := hx x hx'
   unfold impl_fairCuts.q
   rw [e1, e2]
  ·rw [h2, Bool.and_true]
   exact List.all_eq_true.2 fun x hx' => by
    obtain ⟨v, e1, e2⟩ := hx x hx'
    rw [e2]; rfl
 ·cases h
theorem impl_fairCuts.cl (k : Nat) (a0 : ByteArray) {w1 w2 : World} {gb : Nat} {ok : Nat → Prop} {v0 : Value} {t : List (List Int)} (hx : w1.heap[gb]? = some (.cells #[.string a0] 9 (0, 0))) (hb2 : Below w1.heap.size w1 w2)
  (hS : Kd.R (Kd.slice 3 (Kd.int .i64)) 25 w2 w1.heap.size ok v0 t) (hall : (t.all fun x => (impl_fairCuts_1.f k x [a0]).isSome) = true) :
  ∀ x ∈ t, ∀ (A : Option Addr) (c : Nat) (W : World), W.os = w2.os → W.tape = w2.tape → W.output = w2.output → Kept w2 W (fun k => some k = v0.ownBlock) → Kd.C (Kd.int .i64) W A x.length x → x.length ≤ c →
   Calls Tryz.prog 74 (#[.slice A x.length c] ++ #[.pointer (some ⟨gb, 0, none⟩)]) W fun e W' => e = .returned (.bool (impl_fairCuts.q k a0 x)) ∧ Below W.heap.size W W' := by
 intro x hx' A c W hos htp hout hK hC hlc
 have hgb : gb < w1.heap.size := blk_lt hx
 have hv0 : ∀ q, v0.ownBlock = some q → w1.heap.size ≤ q := fun q hq => Kd.R_base hS q hq
 have hW : W.heap[gb]? = w1.heap[gb]? := (hK.2 gb (Nat.lt_of_lt_of_le hgb hb2.size) (fun e => by have := hv0 gb e.symm; omega)).trans (hb2.block gb hgb)
 have hsome : impl_fairCuts_1.f k x [a0] = some (impl_fairCuts.q k a0 x) := by
  obtain ⟨v, hv⟩ := Option.isSome_iff_exists.1 (List.all_eq_true.1 hall x hx')
  unfold impl_fairCuts.q
  rw [hv]; rfl
 exact impl_fairCuts_1.calls k A c x (some ⟨gb, 0, none⟩) 1 [a0] (impl_fairCuts.q k a0 x) W hC hlc (Kd.C_box Kd.string (g := gb) (t := 9) (cs := #[.string a0]) (hW.trans hx) rfl) (Nat.le_refl _) hsome
theorem impl_fairCuts.calls (k : Nat) (a0 : ByteArray) (a1 : Int) (r : List (List Int)) (w : World) (h : impl_fairCuts.f k a0 a1 = some r) :
  Calls Tryz.prog 48 #[.string a0, .int .i64 a1] w fun e w' => ∃ (A : Option Addr) (c : Nat), e = .returned (.slice A r.length c) ∧ (∀ x q, r = x :: q → ∃ (b : Nat) (u : Value), A = some ⟨b, 0, none⟩ ∧ w'.cell? ⟨b, 0, none⟩ = some u ∧ Kd.R (Kd.int .i64) 3 w' w.heap.size (fun _ => True) u x) ∧ Below w.heap.size w w' := by
 unfold impl_fairCuts.f at h
 obtain ⟨t, ht, h2⟩ := Option.bind_eq_some_iff.mp h
 clear h
 have HT := Aside0.mk ht
 clear ht
 by_cases hc : ((t.all fun x => (impl_fairCuts_1.f k x [a0]).isSome) && decide (t.length ≤ 9223372036854775807)) = true
 ·rw [if_pos hc] at h2
  have HRR := Aside0.mk (Option.some.inj h2)
  have HC := Aside0.mk hc
  clear h2 hc
  have eg : ∀ args w, (callFunc 74 args).run Tryz.prog w = .ok (.enter 74 args) w := Go.Proofs.enters_of Tryz.func74 (by kernel_rfl) rfl
  have HEG := Aside0.mk eg
  clear eg
  go_enter Tryz.func48, Tryz.ntmps48
  go_wp2_with (first
   | ((with_reducible refine gate_dst (N := 2) rfl ?_); refine box_event ?hg (N := 2) ?hd (cs := #[.string a0]) (t := 9) ?hr ?_; (case hd => rfl); (case hg => rfl); (case hr => exact GS); intro gb hg w1 hbox hb; have HB1 := Aside0.mk hb; have HX := Aside0.mk hbox; have HG := Aside0.mk hg; clear hb hbox hg; have z0 : w1.cell? ⟨gb, 0, none⟩ = some (.string a0) := (blk_cell HX.out 0).trans rfl)
   | (go_at_call 73; refine (impl_choices.calls k (a0.size : Int) a1 1 t w1 HT.out).mono ?_; rintro e w2 ⟨v0, rfl, hS, hb2⟩; have HS := Aside0.mk (Kd.S_R hS); have HB2 := Aside0.mk hb2; clear hS hb2)
   | (go_at_call 72; refine (deleteF 74 #[.pointer (some ⟨gb, 0, none⟩)] HEG.out (impl_fairCuts.q k a0) HS.out (of_decide_eq_true (Bool.and_eq_true_iff.1 HC.out).2) (impl_fairCuts.cl k a0 HX.out HB2.out HS.out (Bool.and_eq_true_iff.1 HC.out).1)).mono ?_; rintro e w3 ⟨A3, c3, rfl, hos, htp, hout, hK, hfirst⟩; have HE := Aside0.mk (And.intro hos (And.intro htp (And.intro hout hK))); have HF := Aside0.mk hfirst; clear hos htp hout hK hfirst))
  go_ret
  have hE := HE.out
  have hv0 : ∀ q, v0.ownBlock = some q → w1.heap.size ≤ q := fun q hq => Kd.R_base HS.out q hq
  have h1 := HB1.out.size
  have hb2 : Below w.heap.size w w2 := HB1.out.trans (HB2.out.mono HB1.out.size)
  rw [← HRR.out]
  refine ⟨A3, c3, rfl, fun x q hx => ?_, below_kept hb2 (fun q hq => Nat.le_trans h1 (hv0 q hq)) hE.1 hE.2.1 hE.2.2.1 hE.2.2.2⟩
  obtain ⟨b, u, e1, e2, e3⟩ := HF.out x q hx
  exact ⟨b, u, e1, e2, Kd.R_mono (Kd.R_lower e3 h1) (fun _ _ => trivial)⟩
 ·rw [if_neg hc] at h2
  cases h2

/-! ### impl_leastSplit: function 32 (given) -/
def impl_leastSplit.l0 : Nat → ByteArray → Int → Option (List Int × Bool)
 | 0, _, _ => none
 | k + 1, a0, x => if x < 5 then ((impl_fairCuts.f k a0 x).bind fun t => if 0 < t.length then some (t.headD [], true) else impl_leastSplit.l0 k a0 (wrap64 (x + 1))) else some ([], false)
def impl_leastSplit.f (k : Nat) (a0 : ByteArray) : Option (List Int × Bool) := impl_leastSplit.l0 k a0 0
theorem impl_leastSplit.mono_l : ∀ k a0 x, LeO (impl_leastSplit.l0 k a0 x) (impl_leastSplit.l0 (k + 1) a0 x)
 | 0, _, _ => fun r h => by simp [impl_leastSplit.l0] at h
 | k + 1, a0, x => by
  unfold impl_leastSplit.l0
  exact LeO.ite (LeO.bind (impl_fairCuts.mono _ _ _) (fun _ => LeO.ite (LeO.refl _) (impl_leastSplit.mono_l k a0 _))) (LeO.refl _)
theorem impl_leastSplit.mono : ∀ a0 k, LeO (impl_leastSplit.f k a0) (impl_leastSplit.f (k + 1) a0) := fun a0 k => impl_leastSplit.mono_l k a0 0
theorem cons_of_pos {α : Type} {t : List α} (h : 0 < t.length) (z : α) : ∃ q, t = t.headD z :: q := by
 cases t with
 | nil => cases h
 | cons x q => exact ⟨q, rfl⟩
theorem impl_leastSplit.calls (k : Nat) (a0 : ByteArray) (r1 : List Int) (r2 : Bool) (w : World) (h : impl_leastSplit.f k a0 = some (r1, r2)) :
  Calls Tryz.prog 32 #[.string a0] w fun e w' => ∃ v0_ : Value, e = .returned (.tuple #[v0_, .bool r2]) ∧ Kd.R (Kd.int .i64) 3 w' w.heap.size (fun _ => True) v0_ r1 ∧ Below w.heap.size w w' := by
 unfold impl_leastSplit.f at h
 have H' := Aside0.mk h
 clear h
 go_enter Tryz.func32, Tryz.ntmps32
 go_wp2
 go_loopg [6] k (fun kq v6 w' => ∃ x : Int, v6 = .int .i64 x ∧ Aside0 (impl_leastSplit.l0 kq a0 x = some (r1, r2)) ∧ Aside0 (kq ≤ k) ∧ Aside0 (Below w.heap.size w w'))
 case atStart => exact ⟨0, rfl, H', ⟨Nat.le_refl _⟩, ⟨Below.refl _ _⟩⟩
 case round =>
  clear H'
  obtain ⟨x, rfl, HA, HK, HB⟩ := hrel
  cases gk with
  | zero => exact absurd HA.out (by simp [impl_leastSplit.l0])
  | succ k1 =>
   have H := HA.out
   clear HA
   simp only [impl_leastSplit.l0] at H
   by_cases c : x < 5
   ·rw [if_pos c] at H
    have cb : decide (x < 5) = true := decide_eq_true c
    clear c
    obtain ⟨t, ht, H⟩ := Option.bind_eq_some_iff.mp H
    have HT := Aside0.mk ht
    clear ht
    by_cases d : 0 < t.length
    ·rw [if_pos d] at H
     obtain ⟨rfl, rfl⟩ := Prod.mk.injEq .. ▸ Option.some.inj H
     obtain ⟨q, hq⟩ := cons_of_pos d []
     have HQ := Aside0.mk hq
     have d1 : decide (0 < t.length) = true := decide_eq_true d
     have d2 : decide ((0 : Int) < (t.length : Int)) = true := decide_eq_true (by omega)
     have d3 : ((0 : Int) < (t.length : Int)) = True := eq_true (by omega)
     have d4 : (0 < t.length) = True := eq_true d
     clear H hq d
     go_wp2_with (first
      | (go_at_call 48; refine (impl_fairCuts.calls k1 a0 x t wr HT.out).mono ?_; rintro e w3 ⟨A3, c3, rfl, hf, hb⟩; obtain ⟨b3, u3, rfl, hc3, hu3⟩ := hf _ _ HQ.out; have HU := Aside0.mk hu3; have HB3 := Aside0.mk hb; clear hf hb hu3))
     go_ret2
     exact ⟨_, rfl, Kd.R_lower HU.out HB.out.size, HB.out.trans (HB3.out.mono HB.out.size)⟩
    ·rw [if_neg d] at H
     have HH := Aside0.mk H
     have e0 : t.length = 0 := Nat.eq_zero_of_not_pos d
     have d1 : decide (0 < t.length) = false := decide_eq_false d
     have d2 : decide ((0 : Int) < (t.length : Int)) = false := decide_eq_false (by omega)
     clear H e0 d
     go_wp2_with (first
      | (go_at_call 48; refine (impl_fairCuts.calls k1 a0 x t wr HT.out).mono ?_; rintro e w3 ⟨A3, c3, rfl, hf, hb⟩; have HB3 := Aside0.mk (HB.out.trans (hb.mono HB.out.size)); clear hf hb))
     go_roundg k1
     case measure => have := HK.out; omega
     case rel => exact ⟨wrap64 (x + 1), by first | rfl | (simp; done), HH, ⟨by have := HK.out; omega⟩, HB3⟩
   ·rw [if_neg c] at H
    have cb : decide (x < 5) = false := decide_eq_false c
    obtain ⟨rfl, rfl⟩ := Prod.mk.injEq .. ▸ Option.some.inj H
    clear c H
    go_wp2
    go_ret2
    exact ⟨_, rfl, Kd.R_nil _ _ _ _ _, HB.out⟩

/-! ### impl_FirstSplit: function 6 -/
def impl_FirstSplit.f (k : Nat) (a0 : ByteArray) : Option (List Int × Bool) := (impl_IsNecklace.f a0).bind fun t193 => (if t193 = true then ((impl_leastSplit.f k a0).bind fun bt194 => (some (bt194.1, bt194.2))) else (some (([] : List Int), false)))
theorem impl_FirstSplit.mono : ∀ a0 k, LeO (impl_FirstSplit.f k a0) (impl_FirstSplit.f (k + 1) a0) := by
 intro a0 k
 unfold impl_FirstSplit.f
 repeat' first
   | with_reducible first | exact impl_leastSplit.mono _ _ | exact LeO.refl _ | exact LeO.none _ | refine LeO.ite ?_ ?_ | refine LeO.bind ?_ (fun _ => ?_)
   | exact LeO.none _ | refine LeO.ite ?_ ?_ | refine LeO.bind ?_ (fun _ => ?_)
theorem impl_FirstSplit.calls (k : Nat) (a0 : ByteArray) (r1 : List Int) (r2 : Bool) (w : World) (h : impl_FirstSplit.f k a0 = some (r1, r2)) :
  Calls Tryz.prog 6 #[.string a0] w fun e w' => ∃ v0_ : Value, e = .returned (.tuple #[v0_, .bool r2]) ∧ Kd.R (Kd.int .i64) 3 w' w.heap.size (fun _ => True) v0_ r1 ∧ Below w.heap.size w w' := by
 have HB := Aside0.mk (Below.refl w.heap.size w)
 have H : ((impl_IsNecklace.f a0).bind fun t193 => (if t193 = true then ((impl_leastSplit.f k a0).bind fun bt194 => (some (bt194.1, bt194.2))) else (some (([] : List Int), false)))) = some (r1, r2) := h
 clear h
 replace H := EA H
 obtain ⟨t193, A2, H⟩ := H
 by_cases c3 : t193 = true
 ·subst c3
  replace H := IP H
  replace H := EA H
  obtain ⟨⟨t194, t195⟩, A4, H⟩ := H
  try dsimp only at H
  simp only [Option.some.injEq, Prod.mk.injEq] at H
  obtain ⟨rfl, rfl⟩ := H
  go_enter Tryz.func6, Tryz.ntmps6
  go_wp2_with (first | ((with_reducible refine gate_callee (f := 15) rfl ?_); refine goesL_ (some 5) rfl rfl Tryz.func15 (by kernel_rfl) rfl #[.string a0] rfl TA ?_; (with_reducible refine (impl_IsNecklace.calls a0 true _ A2.out).mono ?_); rintro e w5 ⟨rfl, hb⟩; refine ⟨_, rfl, ?_⟩; have n0_ := Aside0.mk (below_step BB hb); clear HB; have HB := n0_; clear n0_; (try clear hb); (try clear hb2); (try clear hk); (try clear hi)) | ((with_reducible refine gate_callee (f := 32) rfl ?_); refine goesL_ (some 8) rfl rfl Tryz.func32 (by kernel_rfl) rfl #[.string a0] rfl TA ?_; (with_reducible refine (impl_leastSplit.calls k a0 t194 t195 _ A4.out).mono ?_); rintro e w6 ⟨v196, rfl, ho0, hb⟩; refine ⟨_, rfl, ?_⟩; have n0_ := Aside0.mk (Kd.R_lower ho0 (below_size BB)); have n1_ := Aside0.mk (below_step BB hb); clear HB; have HO197 := n0_; have HB := n1_; clear n0_ n1_; (try clear hb); (try clear hb2); (try clear hk); (try clear hi); (try clear ho0)))
  go_ret2
  exact ⟨_, RE, KR HO197, BB⟩
 ·replace c3 := Bool.eq_false_iff.mpr c3
  subst c3
  replace H := IN H
  simp only [Option.some.injEq, Prod.mk.injEq] at H
  obtain ⟨rfl, rfl⟩ := H
  go_enter Tryz.func6, Tryz.ntmps6
  go_wp2_with (first | ((with_reducible refine gate_callee (f := 15) rfl ?_); refine goesL_ (some 5) rfl rfl Tryz.func15 (by kernel_rfl) rfl #[.string a0] rfl TA ?_; (with_reducible refine (impl_IsNecklace.calls a0 false _ A2.out).mono ?_); rintro e w7 ⟨rfl, hb⟩; refine ⟨_, rfl, ?_⟩; have n0_ := Aside0.mk (below_step BB hb); clear HB; have HB := n0_; clear n0_; (try clear hb); (try clear hb2); (try clear hk); (try clear hi)))
  go_ret2
  exact ⟨_, RE, by first | exact Kd.R_nil _ _ _ _ _ | exact Kd.N_nil _ _ _ _ _ | exact Kd.V_nil _ _ _ _ _ | exact Kd.Q_nil _ _ _ _ _ | exact Kd.S_nil _ _ _ _ _, BB⟩

/-! ### spec_nlGood: function 33 -/
def spec_nlGood.l0 : Nat → ByteArray → Int → Option (Bool)
 | 0, _, _ => none
 | k + 1, x0, x3 => if x3 < (x0.size : Int) then (if 0 ≤ x3 then (if (bt x0 x3) < 97 then (some false) else (if (((bt x0 x3) - 97) % 256) ≥ 4 then (some false) else (spec_nlGood.l0 k x0 (wrap64 (x3 + 1))))) else (none)) else (some true)
def spec_nlGood.f (k : Nat) (a0 : ByteArray) : Option (Bool) := if (a0.size : Int) > 16 then (some false) else (spec_nlGood.l0 k a0 0)
theorem spec_nlGood.mono_l : ∀ k, (∀ y0 y1, LeO (spec_nlGood.l0 k y0 y1) (spec_nlGood.l0 (k + 1) y0 y1))
 | 0 => fun _ _ r h => by simp [spec_nlGood.l0] at h
 | k + 1 => by
  have ih0 := spec_nlGood.mono_l k
  ·intro y0 y1
   unfold spec_nlGood.l0
   repeat' first
   | with_reducible first | exact ih0 _ _ | exact LeO.refl _ | exact LeO.none _ | refine LeO.ite ?_ ?_ | refine LeO.bind ?_ (fun _ => ?_)
   | exact LeO.none _ | refine LeO.ite ?_ ?_ | refine LeO.bind ?_ (fun _ => ?_)
theorem spec_nlGood.mono : ∀ a0 k, LeO (spec_nlGood.f k a0) (spec_nlGood.f (k + 1) a0) := by
 intro a0 k
 have ih0 := spec_nlGood.mono_l k
 unfold spec_nlGood.f
 repeat' first
   | with_reducible first | exact ih0 _ _ | exact LeO.refl _ | exact LeO.none _ | refine LeO.ite ?_ ?_ | refine LeO.bind ?_ (fun _ => ?_)
   | exact LeO.none _ | refine LeO.ite ?_ ?_ | refine LeO.bind ?_ (fun _ => ?_)
theorem spec_nlGood.calls (k : Nat) (a0 : ByteArray) (r : Bool) (w : World) (h : spec_nlGood.f k a0 = some r) :
  Calls Tryz.prog 33 #[.string a0] w fun e w' => e = .returned (.bool r) ∧ Drawn0 w w' := by
 have H : (if (a0.size : Int) > 16 then (some false) else (spec_nlGood.l0 k a0 0)) = some r := h
 clear h
 by_cases c2 : (a0.size : Int) > 16
 ·rw [if_pos c2] at H
  have c2b0 : decide (16 < (a0.size : Int)) = true := decide_eq_true c2
  have c2b1 : decide (16 < a0.size) = true := decide_eq_true (by omega)
  clear c2
  obtain rfl := Option.some.inj H
  go_enter Tryz.func33, Tryz.ntmps33
  go_wp2
  go_ret
  exact ⟨RF, DR⟩
 ·rw [if_neg c2] at H
  have c2b0 : decide (16 < (a0.size : Int)) = false := decide_eq_false c2
  have c2b1 : decide (16 < a0.size) = false := decide_eq_false (by omega)
  clear c2
  have H' := Aside0.mk H
  clear H
  go_enter Tryz.func33, Tryz.ntmps33
  go_wp2
  go_loopg [3] k (fun kq v3 w' => ∃ (x3_1 : Int), v3 = .int .i64 x3_1 ∧ Aside0 (spec_nlGood.l0 kq a0 x3_1 = some r) ∧ Aside0 (kq ≤ k) ∧ Drawn0 w w')
  case atStart => exact ⟨(0), RF, H', ⟨Nat.le_refl _⟩, by repeat (first | exact Drawn0.refl _ | apply Drawn0.step)⟩
  case round =>
   clear H'
   try clear c2
   try clear c2b0
   try clear c2b1
   try clear p2
   obtain ⟨x3_1, rfl, HA, HK1, ⟨m1, rfl⟩⟩ := hrel
   cases gk with
   | zero => exact absurd HA.out (by simp [spec_nlGood.l0])
   | succ k1 =>
    have H := HA.out
    clear HA
    simp only [spec_nlGood.l0] at H
    by_cases c3 : x3_1 < (a0.size : Int)
    ·rw [if_pos c3] at H
     have c3b0 : decide (x3_1 < (a0.size : Int)) = true := decide_eq_true c3
     clear c3
     by_cases c4 : 0 ≤ x3_1
     ·rw [if_pos c4] at H
      have c4b0 : decide (0 ≤ x3_1) = true := decide_eq_true c4
      clear c4
      by_cases c6 : (bt a0 x3_1) < 97
      ·rw [if_pos c6] at H
       have c6b0 : decide ((bt a0 x3_1) < 97) = true := decide_eq_true c6
       clear c6
       obtain rfl := Option.some.inj H
       have p5 : 0 ≤ (x3_1 : Int) := of_decide_eq_true AS
       have q5 : x3_1 < (a0.size : Int) := of_decide_eq_true AS
       have hx5 := bt_at a0 x3_1
       replace p5 := eq_true p5
       replace q5 := eq_true q5
       go_wp2
       go_ret
       exact ⟨RF, DR⟩
      ·rw [if_neg c6] at H
       have c6b0 : decide ((bt a0 x3_1) < 97) = false := decide_eq_false c6
       clear c6
       by_cases c8 : (((bt a0 x3_1) - 97) % 256) ≥ 4
       ·rw [if_pos c8] at H
        have c8b0 : decide (4 ≤ (((bt a0 x3_1) - 97) % 256)) = true := decide_eq_true c8
        clear c8
        obtain rfl := Option.some.inj H
        have p5 : 0 ≤ (x3_1 : Int) := of_decide_eq_true AS
        have q5 : x3_1 < (a0.size : Int) := of_decide_eq_true AS
        have hx5 := bt_at a0 x3_1
        replace p5 := eq_true p5
        replace q5 := eq_true q5
        have p7 : 0 ≤ (x3_1 : Int) := of_decide_eq_true AS
        have q7 : x3_1 < (a0.size : Int) := of_decide_eq_true AS
        have hx7 := bt_at a0 x3_1
        replace p7 := eq_true p7
        replace q7 := eq_true q7
        go_wp2
        go_ret
        exact ⟨RF, DR⟩
       ·rw [if_neg c8] at H
        have c8b0 : decide (4 ≤ (((bt a0 x3_1) - 97) % 256)) = false := decide_eq_false c8
        clear c8
        have H' := Aside0.mk H
        clear H
        have p5 : 0 ≤ (x3_1 : Int) := of_decide_eq_true AS
        have q5 : x3_1 < (a0.size : Int) := of_decide_eq_true AS
        have hx5 := bt_at a0 x3_1
        replace p5 := eq_true p5
        replace q5 := eq_true q5
        have p7 : 0 ≤ (x3_1 : Int) := of_decide_eq_true AS
        have q7 : x3_1 < (a0.size : Int) := of_decide_eq_true AS
        have hx7 := bt_at a0 x3_1
        replace p7 := eq_true p7
        replace q7 := eq_true q7
        go_wp2
        go_roundg k1
        case measure => have := HK1.out; omega
        case rel => exact ⟨(wrap64 (x3_1 + 1)), RF, H', ⟨by have := HK1.out; omega⟩, by repeat (first | exact Drawn0.refl _ | apply Drawn0.step)⟩
     ·rw [if_neg c4] at H
      cases H
    ·rw [if_neg c3] at H
     have c3b0 : decide (x3_1 < (a0.size : Int)) = false := decide_eq_false c3
     clear c3
     obtain rfl := Option.some.inj H
     go_wp2
     go_ret
     exact ⟨RF, DR⟩

/-! ### spec_nlCounts: function 37 -/
def spec_nlCounts.l0 : Nat → ByteArray → List Int → Int → Option (List Int)
 | 0, _, _, _ => none
 | k + 1, x0, x3, x4 => if x4 < (x0.size : Int) then (if 0 ≤ x4 then (if 0 ≤ (((bt x0 x4) - 97) % 256) then (if (((bt x0 x4) - 97) % 256) < (x3.length : Int) then (spec_nlCounts.l0 k x0 (x3.set ((((bt x0 x4) - 97) % 256) : Int).toNat (wrap64 ((rd x3 (((bt x0 x4) - 97) % 256)) + 1))) (wrap64 (x4 + 1))) else (none)) else (none)) else (none)) else (some x3)
def spec_nlCounts.f (k : Nat) (a0 : ByteArray) : Option (List Int) := if 4 ≤ 35184372088832 then (spec_nlCounts.l0 k a0 (List.replicate 4 0) 0) else (none)
theorem spec_nlCounts.mono_l : ∀ k, (∀ y0 y1 y2, LeO (spec_nlCounts.l0 k y0 y1 y2) (spec_nlCounts.l0 (k + 1) y0 y1 y2))
 | 0 => fun _ _ _ r h => by simp [spec_nlCounts.l0] at h
 | k + 1 => by
  have ih0 := spec_nlCounts.mono_l k
  ·intro y0 y1 y2
   unfold spec_nlCounts.l0
   repeat' first
   | with_reducible first | exact ih0 _ _ _ | exact LeO.refl _ | exact LeO.none _ | refine LeO.ite ?_ ?_ | refine LeO.bind ?_ (fun _ => ?_)
   | exact LeO.none _ | refine LeO.ite ?_ ?_ | refine LeO.bind ?_ (fun _ => ?_)
theorem spec_nlCounts.mono : ∀ a0 k, LeO (spec_nlCounts.f k a0) (spec_nlCounts.f (k + 1) a0) := by
 intro a0 k
 have ih0 := spec_nlCounts.mono_l k
 unfold spec_nlCounts.f
 repeat' first
   | with_reducible first | exact ih0 _ _ _ | exact LeO.refl _ | exact LeO.none _ | refine LeO.ite ?_ ?_ | refine LeO.bind ?_ (fun _ => ?_)
   | exact LeO.none _ | refine LeO.ite ?_ ?_ | refine LeO.bind ?_ (fun _ => ?_)
theorem spec_nlCounts.calls (k : Nat) (a0 : ByteArray) (r : List Int) (w : World) (h : spec_nlCounts.f k a0 = some r) :
  Calls Tryz.prog 37 #[.string a0] w fun e w' => ∃ v0_ : Value, e = .returned (v0_) ∧ Kd.R (Kd.int .i64) 3 w' w.heap.size (fun _ => True) v0_ r ∧ Below w.heap.size w w' := by
 have HB := Aside0.mk (Below.refl w.heap.size w)
 have H : (if 4 ≤ 35184372088832 then (spec_nlCounts.l0 k a0 (List.replicate 4 0) 0) else (none)) = some r := h
 clear h
 by_cases c2 : 4 ≤ 35184372088832
 ·rw [if_pos c2] at H
  have c2b0 := eq_true c2
  have c2b1 : decide (4 ≤ 35184372088832) = true := decide_eq_true c2
  clear c2
  obtain ⟨y198, hy198⟩ : ∃ y_ : List Int, y_ = (List.replicate 4 0) := ⟨_, rfl⟩
  replace H : (spec_nlCounts.l0 k a0 y198 0) = some r := HY H hy198
  have Ny198 := Aside0.mk hy198
  clear hy198
  have H' := Aside0.mk H
  clear H
  go_enter Tryz.func37, Tryz.ntmps37
  go_wp2_with (first | ((with_reducible refine gate_dst (N := 5) rfl ?_); refine Kd.R_make (Kd.int .i64) _ 3 rfl (N := 5) rfl 25 _ _ rfl 4 rfl rfl Tryz.underlying25 (.int .i64 0) 8 info3 rfl (by decide) (by omega) 0 (ok := fun _ => True) (okp := fun _ => True) rfl (fun _ hk => hk) trivial (by omega) (by omega) (Below.refl _ _) (Nat.le_refl _) ?_; intro v199 w3 ho4 hb hg_ hnew_; clear hg_ hnew_; (first | rw [← Ny198.out] at ho4 | (simp only [Int.reduceToNat] at ho4; rw [← Ny198.out] at ho4)); have n0_ := Aside0.mk (Kd.R_lower ho4 (below_size BB)); have n1_ := Aside0.mk (below_step BB hb); clear HB; have HO200 := n0_; have HB := n1_; clear n0_ n1_; clear hb ho4))
  go_loopg [4] k (fun kq v4 w' => ∃ (x3_1 : List Int) (x4_1 : Int), v4 = .int .i64 x4_1 ∧ Aside0 (spec_nlCounts.l0 kq a0 x3_1 x4_1 = some r) ∧ Aside0 (kq ≤ k) ∧ Aside0 (Kd.R (Kd.int .i64) 3 w' w.heap.size (fun _ => True) v199 x3_1) ∧ Aside0 (Below w.heap.size w w'))
  case atStart => exact ⟨(y198), (0), RF, H', ⟨Nat.le_refl _⟩, ⟨KR HO200⟩, ⟨BB⟩⟩
  case round =>
   clear H'
   try clear c2
   try clear c2b0
   try clear c2b1
   try clear p2
   try clear c3
   obtain ⟨x3_1, x4_1, rfl, HA, HK1, HO_3, HB⟩ := hrel
   cases gk with
   | zero => exact absurd HA.out (by simp [spec_nlCounts.l0])
   | succ k1 =>
    have H := HA.out
    clear HA
    simp only [spec_nlCounts.l0] at H
    by_cases c5 : x4_1 < (a0.size : Int)
    ·rw [if_pos c5] at H
     have c5b0 : decide (x4_1 < (a0.size : Int)) = true := decide_eq_true c5
     clear c5
     by_cases c6 : 0 ≤ x4_1
     ·rw [if_pos c6] at H
      have c6b0 : decide (0 ≤ x4_1) = true := decide_eq_true c6
      clear c6
      obtain ⟨ji8, hji8⟩ : ∃ j_ : Int, (((bt a0 x4_1) - 97) % 256) = j_ := ⟨_, rfl⟩
      replace H : (if 0 ≤ (ji8) then (if (ji8) < (x3_1.length : Int) then (spec_nlCounts.l0 k1 a0 (x3_1.set ((ji8) : Int).toNat (wrap64 ((rd x3_1 (ji8)) + 1))) (wrap64 (x4_1 + 1))) else (none)) else (none)) = some r := by first | (rw [hji8] at H; exact H) | (simp only [hji8] at H ⊢; exact H)
      by_cases c9 : 0 ≤ (ji8)
      ·rw [if_pos c9] at H
       have c9b0 : decide (0 ≤ (ji8)) = true := decide_eq_true c9
       clear c9
       by_cases c10 : (ji8) < (x3_1.length : Int)
       ·rw [if_pos c10] at H
        have c10b0 : decide ((ji8) < (x3_1.length : Int)) = true := decide_eq_true c10
        clear c10
        obtain ⟨y202, hy202⟩ : ∃ y_ : List Int, y_ = (x3_1.set ((ji8) : Int).toNat (wrap64 ((rd x3_1 (ji8)) + 1))) := ⟨_, rfl⟩
        replace H : (spec_nlCounts.l0 k1 a0 y202 (wrap64 (x4_1 + 1))) = some r := HY H hy202
        have Ny202 := Aside0.mk hy202
        clear hy202
        have H' := Aside0.mk H
        clear H
        have p7 : 0 ≤ (x4_1 : Int) := of_decide_eq_true AS
        have q7 : x4_1 < (a0.size : Int) := of_decide_eq_true AS
        have hx7 := bt_at a0 x4_1
        replace p7 := eq_true p7
        replace q7 := eq_true q7
        obtain ⟨Ao12, co12, eo12⟩ := Kd.R_slice HO_3.out
        subst eo12
        have p201 : 0 ≤ ((ji8) : Int) := of_decide_eq_true AS
        have q201 : (ji8) < (x3_1.length : Int) := of_decide_eq_true AS
        obtain ⟨ad201, e201, hx201_0⟩ := Kd.at_int (Kd.R_reads' HO_3.out).2.2 (ji8) p201 q201
        cases e201
        replace p201 := eq_true p201
        replace q201 := eq_true q201
        have p11 : 0 ≤ ((ji8) : Int) := of_decide_eq_true AS
        have q11 : ((ji8) : Int) < ((x3_1.length : Int) : Int) := of_decide_eq_true AS
        obtain ⟨go11, co11, eo11, gb11, gl11, cl11, HG11⟩ := Kd.R_form HO_3.out (by omega)
        (first | cases eo11 | (injection eo11 with ea_ en_ ec_; (first | subst ea_ | (injection ea_ with ea_; subst ea_)); subst ec_; clear en_))
        have GB11 := Aside0.mk gb11
        have GG11 := Aside0.mk HG11
        clear gb11 gl11 HG11
        (first | simp only [add_plain] at hx201_0 | skip)
        obtain ⟨hx11_0, hf11_0⟩ := Kd.R_celln 0 HO_3.out ((ji8) : Int) p11 q11
        replace p11 := eq_true p11
        replace q11 := eq_true q11
        have HP13 := Kd.R_putg HO_3.out ((ji8) : Int) (wrap64 ((rd x3_1 (ji8)) + 1))
        go_wp2_with (first | ((with_reducible refine gate_store (t := 3) (p := 21) rfl ?_); refine store_event (t := 3) (p := 21) (v := ?vo_w14) (w1 := (wr.setCell ⟨go11, ((ji8) : Int).toNat, none⟩ (.int .i64 (wrap64 ((rd x3_1 (ji8)) + 1))))) ?hg ?ho ?hn ?hr ?_; (case ho => rfl); (case hg => rfl); (case hn => rfl); (case hr => exact GS); intro w14 hw; have hg : wr.grownBy w14 (some go11) := (by rw [hw]; exact HP13.2); have hp_ : Kd.R (Kd.int .i64) 3 w14 w.heap.size (fun _ => True) (.slice (some ⟨go11, 0, none⟩) x3_1.length co12) y202 := (by rw [hw, Ny202.out]; exact HP13.1); clear HP13; have n0_ := Aside0.mk (hp_); have n1_ := Aside0.mk ((by rw [hw]; exact below_set (HB.out) GB11.out : Below w.heap.size w w14)); clear HO_3; clear HB; have HO_3 := n0_; have HB := n1_; clear n0_ n1_; clear hg hw hp_))
        go_roundg k1
        case measure => have := HK1.out; omega
        case rel => exact ⟨(y202), (wrap64 (x4_1 + 1)), RF, H', ⟨by have := HK1.out; omega⟩, ⟨KR HO_3⟩, ⟨BB⟩⟩
       ·rw [if_neg c10] at H
        cases H
      ·rw [if_neg c9] at H
       cases H
     ·rw [if_neg c6] at H
      cases H
    ·rw [if_neg c5] at H
     have c5b0 : decide (x4_1 < (a0.size : Int)) = false := decide_eq_false c5
     clear c5
     obtain rfl := Option.some.inj H
     go_wp2
     go_ret
     exact ⟨_, RE, KR HO_3, BB⟩
 ·rw [if_neg c2] at H
  cases H

/-! ### spec_nlEven: function 34 -/
def spec_nlEven.l0 : Nat → List Int → Int → Int → Option (Bool)
 | 0, _, _, _ => none
 | k + 1, x6, x7, x8 => if x8 < x7 then (if 0 ≤ x8 then (if x8 < (x6.length : Int) then (if (Int.tmod (rd x6 x8) 2) = 1 then (some false) else (spec_nlEven.l0 k x6 x7 (wrap64 (x8 + 1)))) else (none)) else (none)) else (some true)
def spec_nlEven.f (k : Nat) (a0 : ByteArray) : Option (Bool) := (spec_nlCounts.f k a0).bind fun t203 => (spec_nlEven.l0 k t203 (t203.length : Int) 0)
theorem spec_nlEven.mono_l : ∀ k, (∀ y0 y1 y2, LeO (spec_nlEven.l0 k y0 y1 y2) (spec_nlEven.l0 (k + 1) y0 y1 y2))
 | 0 => fun _ _ _ r h => by simp [spec_nlEven.l0] at h
 | k + 1 => by
  have ih0 := spec_nlEven.mono_l k
  ·intro y0 y1 y2
   unfold spec_nlEven.l0
   repeat' first
   | with_reducible first | exact ih0 _ _ _ | exact spec_nlCounts.mono _ _ | exact LeO.refl _ | exact LeO.none _ | refine LeO.ite ?_ ?_ | refine LeO.bind ?_ (fun _ => ?_)
   | exact LeO.none _ | refine LeO.ite ?_ ?_ | refine LeO.bind ?_ (fun _ => ?_)
theorem spec_nlEven.mono : ∀ a0 k, LeO (spec_nlEven.f k a0) (spec_nlEven.f (k + 1) a0) := by
 intro a0 k
 have ih0 := spec_nlEven.mono_l k
 unfold spec_nlEven.f
 repeat' first
   | with_reducible first | exact ih0 _ _ _ | exact spec_nlCounts.mono _ _ | exact LeO.refl _ | exact LeO.none _ | refine LeO.ite ?_ ?_ | refine LeO.bind ?_ (fun _ => ?_)
   | exact LeO.none _ | refine LeO.ite ?_ ?_ | refine LeO.bind ?_ (fun _ => ?_)
theorem spec_nlEven.calls (k : Nat) (a0 : ByteArray) (r : Bool) (w : World) (h : spec_nlEven.f k a0 = some r) :
  Calls Tryz.prog 34 #[.string a0] w fun e w' => e = .returned (.bool r) ∧ Below w.heap.size w w' := by
 have HB := Aside0.mk (Below.refl w.heap.size w)
 have H : ((spec_nlCounts.f k a0).bind fun t203 => (spec_nlEven.l0 k t203 (t203.length : Int) 0)) = some r := h
 clear h
 replace H := EA H
 obtain ⟨t203, A2, H⟩ := H
 have H' := Aside0.mk H
 clear H
 go_enter Tryz.func34, Tryz.ntmps34
 go_wp2_with (first | ((with_reducible refine gate_callee (f := 37) rfl ?_); refine goesL_ (some 6) rfl rfl Tryz.func37 (by kernel_rfl) rfl #[.string a0] rfl TA ?_; (with_reducible refine (spec_nlCounts.calls k a0 t203 _ A2.out).mono ?_); rintro e w3 ⟨v204, rfl, ho0, hb⟩; refine ⟨_, rfl, ?_⟩; have n0_ := Aside0.mk (Kd.R_lower ho0 (below_size BB)); have n1_ := Aside0.mk (below_step BB hb); clear HB; have HO205 := n0_; have HB := n1_; clear n0_ n1_; (try clear hb); (try clear hb2); (try clear hk); (try clear hi); (try clear ho0); obtain ⟨Ao4, co4, eo4⟩ := Kd.R_slice HO205.out; subst eo4))
 go_loopg [8] k (fun kq v8 w' => ∃ (x8_1 : Int), v8 = .int .i64 x8_1 ∧ Aside0 (spec_nlEven.l0 kq t203 (t203.length : Int) x8_1 = some r) ∧ Aside0 (kq ≤ k) ∧ Aside0 (Kd.R (Kd.int .i64) 3 w' w.heap.size (fun _ => True) (.slice Ao4 t203.length co4) t203) ∧ Aside0 (Below w.heap.size w w'))
 case atStart => exact ⟨(0), RF, H', ⟨Nat.le_refl _⟩, ⟨KR HO205⟩, ⟨BB⟩⟩
 case round =>
  clear H'
  try clear p2
  try clear c3
  obtain ⟨x8_1, rfl, HA, HK1, HO_6, HB⟩ := hrel
  cases gk with
  | zero => exact absurd HA.out (by simp [spec_nlEven.l0])
  | succ k1 =>
   have H := HA.out
   clear HA
   simp only [spec_nlEven.l0] at H
   by_cases c5 : x8_1 < (t203.length : Int)
   ·rw [if_pos c5] at H
    have c5b0 : decide (x8_1 < (t203.length : Int)) = true := decide_eq_true c5
    clear c5
    by_cases c6 : 0 ≤ x8_1
    ·rw [if_pos c6] at H
     have c6b0 : decide (0 ≤ x8_1) = true := decide_eq_true c6
     clear c6
     by_cases c7 : x8_1 < (t203.length : Int)
     ·rw [if_pos c7] at H
      have c7b0 : decide (x8_1 < (t203.length : Int)) = true := decide_eq_true c7
      clear c7
      by_cases c8 : (Int.tmod (rd t203 x8_1) 2) = 1
      ·rw [if_pos c8] at H
       have c8b0 : ((Int.tmod (rd t203 x8_1) 2) == 1) = true := beq_iff_eq.mpr c8
       have c8b1 : ((Int.tmod (rd t203 x8_1) 2) != 1) = false := bne_eq_false_iff_eq.mpr c8
       clear c8
       obtain rfl := Option.some.inj H
       have p206 : 0 ≤ (x8_1 : Int) := of_decide_eq_true AS
       have q206 : x8_1 < (t203.length : Int) := of_decide_eq_true AS
       obtain ⟨ad206, e206, hx206_0⟩ := Kd.at_int (Kd.R_reads' HO_6.out).2.2 x8_1 p206 q206
       cases e206
       replace p206 := eq_true p206
       replace q206 := eq_true q206
       go_wp2
       go_ret
       exact ⟨RE, BB⟩
      ·rw [if_neg c8] at H
       have c8b0 : ((Int.tmod (rd t203 x8_1) 2) == 1) = false := beq_eq_false_iff_ne.mpr c8
       have c8b1 : ((Int.tmod (rd t203 x8_1) 2) != 1) = true := bne_iff_ne.mpr c8
       have H' := Aside0.mk H
       clear H
       have p206 : 0 ≤ (x8_1 : Int) := of_decide_eq_true AS
       have q206 : x8_1 < (t203.length : Int) := of_decide_eq_true AS
       obtain ⟨ad206, e206, hx206_0⟩ := Kd.at_int (Kd.R_reads' HO_6.out).2.2 x8_1 p206 q206
       cases e206
       replace p206 := eq_true p206
       replace q206 := eq_true q206
       go_wp2
       go_roundg k1
       case measure => have := HK1.out; omega
       case rel => exact ⟨(wrap64 (x8_1 + 1)), RF, H', ⟨by have := HK1.out; omega⟩, ⟨KR HO_6⟩, ⟨BB⟩⟩
     ·rw [if_neg c7] at H
      cases H
    ·rw [if_neg c6] at H
     cases H
   ·rw [if_neg c5] at H
    have c5b0 : decide (x8_1 < (t203.length : Int)) = false := decide_eq_false c5
    clear c5
    obtain rfl := Option.some.inj H
    go_wp2
    go_ret
    exact ⟨RE, BB⟩

end Go.Proofs.YthkdkgbcokpbaacGreatDoor.PFnNecklacesShared
