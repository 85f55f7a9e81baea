-- Written by a program of this session (wip/tools/pp.sh) out of the translation; Lean checks it.
import Derived.Test.YtafjjbkkcedgnaaDoorPFnHalfWindowsx0
import Derived.Test.YtafjjbkkcedgnaaDoorPFnHalfWindowsx1
import Derived.Test.YtafjjbkkcedgnaaDoorPFnHalfWindowsx2
import Derived.Test.YtafjjbkkcedgnaaDoorPFnHalfWindowsx3
import Derived.Test.YtafjjbkkcedgnaaDoorPFnHalfWindowsx4
import Derived.Test.YtafjjbkkcedgnaaDoorPFnHalfWindowsx5
namespace Go.Proofs.YtafjjbkkcedgnaaDoor.PFnHalfWindows
open Go.RowKit Go.Proofs.YtafjjbkkcedgnaaDoorOwn Go.Proofs.YtafjjbkkcedgnaaDoorW.PrintWords Go.Proofs.YtafjjbkkcedgnaaDoorW.PrintLast Go.Proofs.YtafjjbkkcedgnaaDoorW.PrintMore
attribute [local go_sem] max2_int min2_int max_two min_two max_three min_three max_four min_four   -- for this text's walks alone
set_option linter.unusedVariables false
set_option maxHeartbeats 8000000
set_option maxRecDepth 100000
set_option linter.unusedSimpArgs false

/-! ### impl_fairCuts_1: function 90 -/
def impl_fairCuts_1.f (k : Nat) (l0 : List Int) (l1 : List ByteArray) : Option (Bool) := if 0 < (l1.length : Int) then ((impl_isFair.f k (rdOf ByteArray.empty l1 0) l0).bind fun t255 => (some (!t255))) else (none)
theorem impl_fairCuts_1.mono : ∀ a0 a1 k, LeO (impl_fairCuts_1.f k a0 a1) (impl_fairCuts_1.f (k + 1) a0 a1) := by
 intro a0 a1 k
 unfold impl_fairCuts_1.f
 repeat' first
   | with_reducible first | exact impl_isFair.mono _ _ _ | exact LeO.refl _ | exact LeO.none _ | refine LeO.ite ?_ ?_ | refine LeO.bind ?_ (fun _ => ?_)
   | exact LeO.none _ | refine LeO.ite ?_ ?_ | refine LeO.bind ?_ (fun _ => ?_)
theorem impl_fairCuts_1.calls (k : Nat) (A0 : Option Addr) (c0 : Nat) (l0 : List Int) (A1 : Option Addr) (c1 : Nat) (l1 : List ByteArray) (r : Bool) (w : World) (hr0 : Kd.C (Kd.int .i64) w A0 l0.length l0) (hc0 : l0.length ≤ c0) (hr1 : Kd.C Kd.string w A1 l1.length l1) (hc1 : l1.length ≤ c1) (h : impl_fairCuts_1.f k l0 l1 = some r) :
  Calls Tryd.prog 90 #[.slice A0 l0.length c0, .pointer A1] w fun e w' => e = .returned (.bool r) ∧ Below w.heap.size w w' := by
 have HR0 := Aside0.mk hr0
 have HC0 := Aside0.mk hc0
 clear hr0 hc0
 have HR1 := Aside0.mk hr1
 have HC1 := Aside0.mk hc1
 clear hr1 hc1
 have HB := Aside0.mk (Below.refl w.heap.size w)
 have H : (if 0 < (l1.length : Int) then ((impl_isFair.f k (rdOf ByteArray.empty l1 0) l0).bind fun t255 => (some (!t255))) else (none)) = some r := h
 clear h
 by_cases c3 : 0 < (l1.length : Int)
 ·rw [if_pos c3] at H
  have c3b0 : decide (0 < (l1.length : Int)) = true := decide_eq_true c3
  have c3b1 : decide (0 < l1.length) = true := decide_eq_true (by omega)
  clear c3
  obtain ⟨t255, A40, H⟩ := Option.bind_eq_some_iff.mp H
  have A4 := Aside0.mk A40
  clear A40
  obtain rfl := Option.some.inj H
  have p254 : 0 ≤ (0 : Int) := (by omega)
  have q254 : 0 < (l1.length : Int) := of_decide_eq_true AS
  obtain ⟨ad254, e254, hx254_0⟩ := Kd.at_string HR1.out 0 p254 q254
  cases e254
  have qi254 : (0 < l1.length) = True := eq_true (by omega)
  (try rw [show ((0 : Int)).toNat = 0 from rfl] at hx254_0)
  (try rw [Addr.add_zero'] at hx254_0)
  replace p254 := eq_true p254
  replace q254 := eq_true q254
  go_enter Tryd.func90, Tryd.ntmps90
  go_wp2_with (first | ((with_reducible refine gate_callee (f := 42) rfl ?_); refine goesL_ (some 6) rfl rfl Tryd.func42 (by kernel_rfl) rfl #[.string (rdOf ByteArray.empty l1 0), .slice A0 l0.length c0] rfl TA ?_; (with_reducible refine (impl_isFair.calls k (rdOf ByteArray.empty l1 0) _ _ l0 t255 _ ?side1 ?side2 A4.out).mono ?_); (case side1 => exact CW HR0.out); (case side2 => exact HC0.out); rintro e w5 ⟨rfl, hb⟩; refine ⟨_, rfl, ?_⟩; have n0_ := Aside0.mk (below_step BB hb); clear HB; have HB := n0_; clear n0_; (try clear hb); (try clear hb2); (try clear hk); (try clear hi)))
  go_ret
  exact ⟨RE, BB⟩
 ·rw [if_neg c3] at H
  cases H

/-! ### impl_fairCuts: function 77 (given) -/
def impl_fairCuts.q (k : Nat) (s : ByteArray) (x : List Int) : Bool := (impl_fairCuts_1.f k x [s]).getD false
def impl_fairCuts.f (k : Nat) (a0 : ByteArray) (a1 : Int) : Option (List (List Int)) := (impl_choices.f k (a0.size : Int) a1 1).bind fun t => if ((t.all fun x => (impl_fairCuts_1.f k x [a0]).isSome) && decide (t.length ≤ 9223372036854775807)) = true then some (t.filter fun x => !impl_fairCuts.q k a0 x) else none
theorem below_kept {w w1 w2 : World} {v : Value} (hb : Below w.heap.size w w1) (hbase : ∀ q, v.ownBlock = some q → w.heap.size ≤ q) (hos : w2.os = w1.os) (htp : w2.tape = w1.tape) (hout : w2.output = w1.output) (hK : Kept w1 w2 (fun k => some k = v.ownBlock)) : Below w.heap.size w w2 :=
 ⟨hos.trans hb.os, htp.trans hb.tape, hout.trans hb.output, Nat.le_trans hb.size hK.1, fun q hq => (hK.2 q (Nat.lt_of_lt_of_le hq hb.size) (fun e => by have := hbase q e.symm; omega)).trans (hb.block q hq)⟩
theorem impl_fairCuts.mono : ∀ a0 a1 k, LeO (impl_fairCuts.f k a0 a1) (impl_fairCuts.f (k + 1) a0 a1) := by
 intro a0 a1 k
 unfold impl_fairCuts.f
 refine LeO.bind (impl_choices.mono _ _ _ _) (fun t r h => ?_)
 split at h
 ·rename_i hc
  obtain ⟨h1, h2⟩ := Bool.and_eq_true_iff.1 hc
  have hx : ∀ x ∈ t, ∃ v, impl_fairCuts_1.f k x [a0] = some v ∧ impl_fairCuts_1.f (k + 1) x [a0] = some v := fun x hx => by
   obtain ⟨v, hv⟩ := Option.isSome_iff_exists.1 (List.all_eq_true.1 h1 x hx)
   exact ⟨v, hv, impl_fairCuts_1.mono _ _ _ _ hv⟩
  rw [if_pos]
  ·rw [← h]
   congr 1
   refine List.filter_congr fun x hx' => ?_
   obtain ⟨v, e1, e2⟩ := hx x hx'
   unfold impl_fairCuts.q
   rw [e1, e2]
  ·rw [h2, Bool.and_true]
   exact List.all_eq_true.2 fun x hx' => by
    obtain ⟨v, e1, e2⟩ := hx x hx'
    rw [e2]; rfl
 ·cases h
theorem impl_fairCuts.cl (k : Nat) (a0 : ByteArray) {w1 w2 : World} {gb : Nat} {ok : Nat → Prop} {v0 : Value} {t : List (List Int)} (hx : w1.heap[gb]? = some (.cells #[.string a0] 9 (0, 0))) (hb2 : Below w1.heap.size w1 w2)
  (hS : Kd.R (Kd.slice 3 (Kd.int .i64)) 24 w2 w1.heap.size ok v0 t) (hall : (t.all fun x => (impl_fairCuts_1.f k x [a0]).isSome) = true) :
  ∀ x ∈ t, ∀ (A : Option Addr) (c : Nat) (W : World), W.os = w2.os → W.tape = w2.tape → W.output = w2.output → Kept w2 W (fun k => some k = v0.ownBlock) → Kd.C (Kd.int .i64) W A x.length x → x.length ≤ c →
   Calls Tryd.prog 90 (#[.slice A x.length c] ++ #[.pointer (some ⟨gb, 0, none⟩)]) W fun e W' => e = .returned (.bool (impl_fairCuts.q k a0 x)) ∧ Below W.heap.size W W' := by
 intro x hx' A c W hos htp hout hK hC hlc
 have hgb : gb < w1.heap.size := blk_lt hx
 have hv0 : ∀ q, v0.ownBlock = some q → w1.heap.size ≤ q := fun q hq => Kd.R_base hS q hq
 have hW : W.heap[gb]? = w1.heap[gb]? := (hK.2 gb (Nat.lt_of_lt_of_le hgb hb2.size) (fun e => by have := hv0 gb e.symm; omega)).trans (hb2.block gb hgb)
 have hsome : impl_fairCuts_1.f k x [a0] = some (impl_fairCuts.q k a0 x) := by
  obtain ⟨v, hv⟩ := Option.isSome_iff_exists.1 (List.all_eq_true.1 hall x hx')
  unfold impl_fairCuts.q
  rw [hv]; rfl
 exact impl_fairCuts_1.calls k A c x (some ⟨gb, 0, none⟩) 1 [a0] (impl_fairCuts.q k a0 x) W hC hlc (Kd.C_box Kd.string (g := gb) (t := 9) (cs := #[.string a0]) (hW.trans hx) rfl) (Nat.le_refl _) hsome
theorem impl_fairCuts.calls (k : Nat) (a0 : ByteArray) (a1 : Int) (r : List (List Int)) (w : World) (h : impl_fairCuts.f k a0 a1 = some r) :
  Calls Tryd.prog 77 #[.string a0, .int .i64 a1] w fun e w' => ∃ (A : Option Addr) (c : Nat), e = .returned (.slice A r.length c) ∧ (∀ x q, r = x :: q → ∃ (b : Nat) (u : Value), A = some ⟨b, 0, none⟩ ∧ w'.cell? ⟨b, 0, none⟩ = some u ∧ Kd.R (Kd.int .i64) 3 w' w.heap.size (fun _ => True) u x) ∧ Below w.heap.size w w' := by
 unfold impl_fairCuts.f at h
 obtain ⟨t, ht, h2⟩ := Option.bind_eq_some_iff.mp h
 clear h
 have HT := Aside0.mk ht
 clear ht
 by_cases hc : ((t.all fun x => (impl_fairCuts_1.f k x [a0]).isSome) && decide (t.length ≤ 9223372036854775807)) = true
 ·rw [if_pos hc] at h2
  have HRR := Aside0.mk (Option.some.inj h2)
  have HC := Aside0.mk hc
  clear h2 hc
  have eg : ∀ args w, (callFunc 90 args).run Tryd.prog w = .ok (.enter 90 args) w := Go.Proofs.enters_of Tryd.func90 (by kernel_rfl) rfl
  have HEG := Aside0.mk eg
  clear eg
  go_enter Tryd.func77, Tryd.ntmps77
  go_wp2_with (first
   | ((with_reducible refine gate_dst (N := 2) rfl ?_); refine box_event ?hg (N := 2) ?hd (cs := #[.string a0]) (t := 9) ?hr ?_; (case hd => rfl); (case hg => rfl); (case hr => exact GS); intro gb hg w1 hbox hb; have HB1 := Aside0.mk hb; have HX := Aside0.mk hbox; have HG := Aside0.mk hg; clear hb hbox hg; have z0 : w1.cell? ⟨gb, 0, none⟩ = some (.string a0) := (blk_cell HX.out 0).trans rfl)
   | (go_at_call 89; refine (impl_choices.calls k (a0.size : Int) a1 1 t w1 HT.out).mono ?_; rintro e w2 ⟨v0, rfl, hS, hb2⟩; have HS := Aside0.mk (Kd.S_R hS); have HB2 := Aside0.mk hb2; clear hS hb2)
   | (go_at_call 88; refine (deleteF 90 #[.pointer (some ⟨gb, 0, none⟩)] HEG.out (impl_fairCuts.q k a0) HS.out (of_decide_eq_true (Bool.and_eq_true_iff.1 HC.out).2) (impl_fairCuts.cl k a0 HX.out HB2.out HS.out (Bool.and_eq_true_iff.1 HC.out).1)).mono ?_; rintro e w3 ⟨A3, c3, rfl, hos, htp, hout, hK, hfirst⟩; have HE := Aside0.mk (And.intro hos (And.intro htp (And.intro hout hK))); have HF := Aside0.mk hfirst; clear hos htp hout hK hfirst))
  go_ret
  have hE := HE.out
  have hv0 : ∀ q, v0.ownBlock = some q → w1.heap.size ≤ q := fun q hq => Kd.R_base HS.out q hq
  have h1 := HB1.out.size
  have hb2 : Below w.heap.size w w2 := HB1.out.trans (HB2.out.mono HB1.out.size)
  rw [← HRR.out]
  refine ⟨A3, c3, rfl, fun x q hx => ?_, below_kept hb2 (fun q hq => Nat.le_trans h1 (hv0 q hq)) hE.1 hE.2.1 hE.2.2.1 hE.2.2.2⟩
  obtain ⟨b, u, e1, e2, e3⟩ := HF.out x q hx
  exact ⟨b, u, e1, e2, Kd.R_mono (Kd.R_lower e3 h1) (fun _ _ => trivial)⟩
 ·rw [if_neg hc] at h2
  cases h2

/-! ### impl_leastSplit: function 59 (given) -/
def impl_leastSplit.l0 : Nat → ByteArray → Int → Option (List Int × Bool)
 | 0, _, _ => none
 | k + 1, a0, x => if x < 5 then ((impl_fairCuts.f k a0 x).bind fun t => if 0 < t.length then some (t.headD [], true) else impl_leastSplit.l0 k a0 (wrap64 (x + 1))) else some ([], false)
def impl_leastSplit.f (k : Nat) (a0 : ByteArray) : Option (List Int × Bool) := impl_leastSplit.l0 k a0 0
theorem impl_leastSplit.mono_l : ∀ k a0 x, LeO (impl_leastSplit.l0 k a0 x) (impl_leastSplit.l0 (k + 1) a0 x)
 | 0, _, _ => fun r h => by simp [impl_leastSplit.l0] at h
 | k + 1, a0, x => by
  unfold impl_leastSplit.l0
  exact LeO.ite (LeO.bind (impl_fairCuts.mono _ _ _) (fun _ => LeO.ite (LeO.refl _) (impl_leastSplit.mono_l k a0 _))) (LeO.refl _)
theorem impl_leastSplit.mono : ∀ a0 k, LeO (impl_leastSplit.f k a0) (impl_leastSplit.f (k + 1) a0) := fun a0 k => impl_leastSplit.mono_l k a0 0
theorem cons_of_pos {α : Type} {t : List α} (h : 0 < t.length) (z : α) : ∃ q, t = t.headD z :: q := by
 cases t with
 | nil => cases h
 | cons x q => exact ⟨q, rfl⟩
theorem impl_leastSplit.calls (k : Nat) (a0 : ByteArray) (r1 : List Int) (r2 : Bool) (w : World) (h : impl_leastSplit.f k a0 = some (r1, r2)) :
  Calls Tryd.prog 59 #[.string a0] w fun e w' => ∃ v0_ : Value, e = .returned (.tuple #[v0_, .bool r2]) ∧ Kd.R (Kd.int .i64) 3 w' w.heap.size (fun _ => True) v0_ r1 ∧ Below w.heap.size w w' := by
 unfold impl_leastSplit.f at h
 have H' := Aside0.mk h
 clear h
 go_enter Tryd.func59, Tryd.ntmps59
 go_wp2
 go_loopg [6] k (fun kq v6 w' => ∃ x : Int, v6 = .int .i64 x ∧ Aside0 (impl_leastSplit.l0 kq a0 x = some (r1, r2)) ∧ Aside0 (kq ≤ k) ∧ Aside0 (Below w.heap.size w w'))
 case atStart => exact ⟨0, rfl, H', ⟨Nat.le_refl _⟩, ⟨Below.refl _ _⟩⟩
 case round =>
  clear H'
  obtain ⟨x, rfl, HA, HK, HB⟩ := hrel
  cases gk with
  | zero => exact absurd HA.out (by simp [impl_leastSplit.l0])
  | succ k1 =>
   have H := HA.out
   clear HA
   simp only [impl_leastSplit.l0] at H
   by_cases c : x < 5
   ·rw [if_pos c] at H
    have cb : decide (x < 5) = true := decide_eq_true c
    clear c
    obtain ⟨t, ht, H⟩ := Option.bind_eq_some_iff.mp H
    have HT := Aside0.mk ht
    clear ht
    by_cases d : 0 < t.length
    ·rw [if_pos d] at H
     obtain ⟨rfl, rfl⟩ := Prod.mk.injEq .. ▸ Option.some.inj H
     obtain ⟨q, hq⟩ := cons_of_pos d []
     have HQ := Aside0.mk hq
     have d1 : decide (0 < t.length) = true := decide_eq_true d
     have d2 : decide ((0 : Int) < (t.length : Int)) = true := decide_eq_true (by omega)
     have d3 : ((0 : Int) < (t.length : Int)) = True := eq_true (by omega)
     have d4 : (0 < t.length) = True := eq_true d
     clear H hq d
     go_wp2_with (first
      | (go_at_call 77; refine (impl_fairCuts.calls k1 a0 x t wr HT.out).mono ?_; rintro e w3 ⟨A3, c3, rfl, hf, hb⟩; obtain ⟨b3, u3, rfl, hc3, hu3⟩ := hf _ _ HQ.out; have HU := Aside0.mk hu3; have HB3 := Aside0.mk hb; clear hf hb hu3))
     go_ret2
     exact ⟨_, rfl, Kd.R_lower HU.out HB.out.size, HB.out.trans (HB3.out.mono HB.out.size)⟩
    ·rw [if_neg d] at H
     have HH := Aside0.mk H
     have e0 : t.length = 0 := Nat.eq_zero_of_not_pos d
     have d1 : decide (0 < t.length) = false := decide_eq_false d
     have d2 : decide ((0 : Int) < (t.length : Int)) = false := decide_eq_false (by omega)
     clear H e0 d
     go_wp2_with (first
      | (go_at_call 77; refine (impl_fairCuts.calls k1 a0 x t wr HT.out).mono ?_; rintro e w3 ⟨A3, c3, rfl, hf, hb⟩; have HB3 := Aside0.mk (HB.out.trans (hb.mono HB.out.size)); clear hf hb))
     go_roundg k1
     case measure => have := HK.out; omega
     case rel => exact ⟨wrap64 (x + 1), by first | rfl | (simp; done), HH, ⟨by have := HK.out; omega⟩, HB3⟩
   ·rw [if_neg c] at H
    have cb : decide (x < 5) = false := decide_eq_false c
    obtain ⟨rfl, rfl⟩ := Prod.mk.injEq .. ▸ Option.some.inj H
    clear c H
    go_wp2
    go_ret2
    exact ⟨_, rfl, Kd.R_nil _ _ _ _ _, HB.out⟩

/-! ### impl_FewestCuts: function 23 -/
def impl_FewestCuts.f (k : Nat) (a0 : ByteArray) : Option (Int × Bool) := (impl_IsNecklace.f a0).bind fun t256 => (if t256 = true then ((impl_leastSplit.f k a0).bind fun bt257 => (some ((bt257.1.length : Int), bt257.2))) else (some (0, false)))
theorem impl_FewestCuts.mono : ∀ a0 k, LeO (impl_FewestCuts.f k a0) (impl_FewestCuts.f (k + 1) a0) := by
 intro a0 k
 unfold impl_FewestCuts.f
 repeat' first
   | with_reducible first | exact impl_leastSplit.mono _ _ | exact LeO.refl _ | exact LeO.none _ | refine LeO.ite ?_ ?_ | refine LeO.bind ?_ (fun _ => ?_)
   | exact LeO.none _ | refine LeO.ite ?_ ?_ | refine LeO.bind ?_ (fun _ => ?_)
theorem impl_FewestCuts.calls (k : Nat) (a0 : ByteArray) (r1 : Int) (r2 : Bool) (w : World) (h : impl_FewestCuts.f k a0 = some (r1, r2)) :
  Calls Tryd.prog 23 #[.string a0] w fun e w' => e = .returned (.tuple #[.int .i64 r1, .bool r2]) ∧ Below w.heap.size w w' := by
 have HB := Aside0.mk (Below.refl w.heap.size w)
 have H : ((impl_IsNecklace.f a0).bind fun t256 => (if t256 = true then ((impl_leastSplit.f k a0).bind fun bt257 => (some ((bt257.1.length : Int), bt257.2))) else (some (0, false)))) = some (r1, r2) := h
 clear h
 obtain ⟨t256, A20, H⟩ := Option.bind_eq_some_iff.mp H
 have A2 := Aside0.mk A20
 clear A20
 by_cases c3 : t256 = true
 ·subst c3
  replace H := IP H
  obtain ⟨⟨t257, t258⟩, A40, H⟩ := Option.bind_eq_some_iff.mp H
  replace H : (some ((t257.length : Int), t258)) = some (r1, r2) := H
  have A4 := Aside0.mk A40
  clear A40
  simp only [Option.some.injEq, Prod.mk.injEq] at H
  obtain ⟨rfl, rfl⟩ := H
  go_enter Tryd.func23, Tryd.ntmps23
  go_wp2_with (first | ((with_reducible refine gate_callee (f := 41) rfl ?_); refine goesL_ (some 7) rfl rfl Tryd.func41 (by kernel_rfl) rfl #[.string a0] rfl TA ?_; (with_reducible refine (impl_IsNecklace.calls a0 true _ A2.out).mono ?_); rintro e w5 ⟨rfl, hb⟩; refine ⟨_, rfl, ?_⟩; have n0_ := Aside0.mk (below_step BB hb); clear HB; have HB := n0_; clear n0_; (try clear hb); (try clear hb2); (try clear hk); (try clear hi)) | ((with_reducible refine gate_callee (f := 59) rfl ?_); refine goesL_ (some 11) rfl rfl Tryd.func59 (by kernel_rfl) rfl #[.string a0] rfl TA ?_; (with_reducible refine (impl_leastSplit.calls k a0 t257 t258 _ A4.out).mono ?_); rintro e w6 ⟨v259, rfl, ho0, hb⟩; refine ⟨_, rfl, ?_⟩; have n0_ := Aside0.mk (Kd.R_lower ho0 (below_size BB)); have n1_ := Aside0.mk (below_step BB hb); clear HB; have HO260 := n0_; have HB := n1_; clear n0_ n1_; (try clear hb); (try clear hb2); (try clear hk); (try clear hi); (try clear ho0); obtain ⟨Ao7, co7, eo7⟩ := Kd.R_slice HO260.out; subst eo7))
  go_ret2
  exact ⟨RE, BB⟩
 ·replace c3 := Bool.eq_false_iff.mpr c3
  subst c3
  replace H := IN H
  simp only [Option.some.injEq, Prod.mk.injEq] at H
  obtain ⟨rfl, rfl⟩ := H
  go_enter Tryd.func23, Tryd.ntmps23
  go_wp2_with (first | ((with_reducible refine gate_callee (f := 41) rfl ?_); refine goesL_ (some 7) rfl rfl Tryd.func41 (by kernel_rfl) rfl #[.string a0] rfl TA ?_; (with_reducible refine (impl_IsNecklace.calls a0 false _ A2.out).mono ?_); rintro e w8 ⟨rfl, hb⟩; refine ⟨_, rfl, ?_⟩; have n0_ := Aside0.mk (below_step BB hb); clear HB; have HB := n0_; clear n0_; (try clear hb); (try clear hb2); (try clear hk); (try clear hi)))
  go_ret2
  exact ⟨RE, BB⟩

/-! ### impl_in: function 60 -/
def impl_in.f (a0 : Int) (a1 : Int) (a2 : Int) : Option (Bool) := if a1 ≤ a0 then (some (decide (a0 ≤ a2))) else (some false)
theorem impl_in.calls (a0 : Int) (a1 : Int) (a2 : Int) (r : Bool) (w : World) (h : impl_in.f a0 a1 a2 = some r) :
  Calls Tryd.prog 60 #[.int .i64 a0, .int .i64 a1, .int .i64 a2] w fun e w' => e = .returned (.bool r) ∧ Drawn0 w w' := by
 have H : (if a1 ≤ a0 then (some (decide (a0 ≤ a2))) else (some false)) = some r := h
 clear h
 by_cases c4 : a1 ≤ a0
 ·rw [if_pos c4] at H
  have c4b0 : decide (a1 ≤ a0) = true := decide_eq_true c4
  clear c4
  obtain rfl := Option.some.inj H
  go_enter Tryd.func60, Tryd.ntmps60
  go_wp2
  go_ret
  exact ⟨RF, DR⟩
 ·rw [if_neg c4] at H
  have c4b0 : decide (a1 ≤ a0) = false := decide_eq_false c4
  clear c4
  obtain rfl := Option.some.inj H
  go_enter Tryd.func60, Tryd.ntmps60
  go_wp2
  go_ret
  exact ⟨RF, DR⟩

/-! ### impl_WindowCounts: function 24 -/
def impl_WindowCounts.j0 : Nat → ByteArray → Int → Int → Bool → Option (List Int × Bool)
 | 0, _, _, _, _ => none
 | k + 1, x0, x1, x2, x25 => if x25 = true then (some (([] : List Int), false)) else ((impl_window.f x0 x1 x2).bind fun t264 => ((impl_counts.f k t264).bind fun t265 => (some (t265, true))))
def impl_WindowCounts.f (k : Nat) (a0 : ByteArray) (a1 : Int) (a2 : Int) : Option (List Int × Bool) := (impl_IsNecklace.f a0).bind fun t261 => (if t261 = true then ((impl_in.f a1 0 (wrap64 ((a0.size : Int) - 1))).bind fun t262 => (if t262 = true then ((impl_in.f a2 0 (a0.size : Int)).bind fun t263 => (impl_WindowCounts.j0 k a0 a1 a2 (!t263))) else (impl_WindowCounts.j0 k a0 a1 a2 true))) else (impl_WindowCounts.j0 k a0 a1 a2 true))
theorem impl_WindowCounts.mono_l : ∀ k, (∀ y0 y1 y2 y3, LeO (impl_WindowCounts.j0 k y0 y1 y2 y3) (impl_WindowCounts.j0 (k + 1) y0 y1 y2 y3))
 | 0 => fun _ _ _ _ r h => by simp [impl_WindowCounts.j0] at h
 | k + 1 => by
  have ih0 := impl_WindowCounts.mono_l k
  ·intro y0 y1 y2 y3
   unfold impl_WindowCounts.j0
   repeat' first
   | with_reducible first | exact ih0 _ _ _ _ | exact impl_counts.mono _ _ | exact LeO.refl _ | exact LeO.none _ | refine LeO.ite ?_ ?_ | refine LeO.bind ?_ (fun _ => ?_)
   | exact LeO.none _ | refine LeO.ite ?_ ?_ | refine LeO.bind ?_ (fun _ => ?_)
theorem impl_WindowCounts.mono : ∀ a0 a1 a2 k, LeO (impl_WindowCounts.f k a0 a1 a2) (impl_WindowCounts.f (k + 1) a0 a1 a2) := by
 intro a0 a1 a2 k
 have ih0 := impl_WindowCounts.mono_l k
 unfold impl_WindowCounts.f
 repeat' first
   | with_reducible first | exact ih0 _ _ _ _ | exact impl_counts.mono _ _ | exact LeO.refl _ | exact LeO.none _ | refine LeO.ite ?_ ?_ | refine LeO.bind ?_ (fun _ => ?_)
   | exact LeO.none _ | refine LeO.ite ?_ ?_ | refine LeO.bind ?_ (fun _ => ?_)
theorem impl_WindowCounts.calls (k : Nat) (a0 : ByteArray) (a1 : Int) (a2 : Int) (r1 : List Int) (r2 : Bool) (w : World) (h : impl_WindowCounts.f k a0 a1 a2 = some (r1, r2)) :
  Calls Tryd.prog 24 #[.string a0, .int .i64 a1, .int .i64 a2] w fun e w' => ∃ v0_ : Value, e = .returned (.tuple #[v0_, .bool r2]) ∧ Kd.R (Kd.int .i64) 3 w' w.heap.size (fun _ => True) v0_ r1 ∧ Below w.heap.size w w' := by
 have HB := Aside0.mk (Below.refl w.heap.size w)
 have H : ((impl_IsNecklace.f a0).bind fun t261 => (if t261 = true then ((impl_in.f a1 0 (wrap64 ((a0.size : Int) - 1))).bind fun t262 => (if t262 = true then ((impl_in.f a2 0 (a0.size : Int)).bind fun t263 => (impl_WindowCounts.j0 k a0 a1 a2 (!t263))) else (impl_WindowCounts.j0 k a0 a1 a2 true))) else (impl_WindowCounts.j0 k a0 a1 a2 true))) = some (r1, r2) := h
 clear h
 have HC4 := Aside0.mk H
 clear H
 go_enter Tryd.func24, Tryd.ntmps24
 go_upto_region 1 with (fail)
 go_cut [25] (fun v25 wc => ∃ (kq : Nat) (x25_3 : Bool), v25 = .bool x25_3 ∧ Aside0 (impl_WindowCounts.j0 kq a0 a1 a2 x25_3 = some (r1, r2)) ∧ Aside0 (kq ≤ k) ∧ Aside0 (Below w.heap.size w wc))
 case first =>
  have H := HC4.out
  clear HC4
  obtain ⟨t261, A50, H⟩ := Option.bind_eq_some_iff.mp H
  have A5 := Aside0.mk A50
  clear A50
  by_cases c6 : t261 = true
  ·subst c6
   replace H := IP H
   obtain ⟨t262, A70, H⟩ := Option.bind_eq_some_iff.mp H
   have A7 := Aside0.mk A70
   clear A70
   by_cases c8 : t262 = true
   ·subst c8
    replace H := IP H
    obtain ⟨t263, A90, H⟩ := Option.bind_eq_some_iff.mp H
    have A9 := Aside0.mk A90
    clear A90
    have H' := Aside0.mk H
    clear H
    go_wp2_with (first | ((with_reducible refine gate_callee (f := 41) rfl ?_); refine goesL_ (some 9) rfl rfl Tryd.func41 (by kernel_rfl) rfl #[.string a0] rfl TA ?_; (with_reducible refine (impl_IsNecklace.calls a0 true _ A5.out).mono ?_); rintro e w10 ⟨rfl, hb⟩; refine ⟨_, rfl, ?_⟩; have n0_ := Aside0.mk (below_step BB hb); clear HB; have HB := n0_; clear n0_; (try clear hb); (try clear hb2); (try clear hk); (try clear hi)) | (go_at_call 60; (with_reducible refine (impl_in.calls a1 0 (wrap64 ((a0.size : Int) - 1)) true _ A7.out).mono ?_); rintro e w' ⟨rfl, ⟨nd, rfl⟩⟩) | (go_at_call 60; (with_reducible refine (impl_in.calls a2 0 (a0.size : Int) t263 _ A9.out).mono ?_); rintro e w' ⟨rfl, ⟨nd, rfl⟩⟩))
    go_meet
    case rel => exact ⟨_, (!t263), RF, H', ⟨by first | omega | exact Nat.le_refl _⟩, ⟨BB⟩⟩
   ·replace c8 := Bool.eq_false_iff.mpr c8
    subst c8
    replace H := IN H
    have H' := Aside0.mk H
    clear H
    go_wp2_with (first | ((with_reducible refine gate_callee (f := 41) rfl ?_); refine goesL_ (some 9) rfl rfl Tryd.func41 (by kernel_rfl) rfl #[.string a0] rfl TA ?_; (with_reducible refine (impl_IsNecklace.calls a0 true _ A5.out).mono ?_); rintro e w11 ⟨rfl, hb⟩; refine ⟨_, rfl, ?_⟩; have n0_ := Aside0.mk (below_step BB hb); clear HB; have HB := n0_; clear n0_; (try clear hb); (try clear hb2); (try clear hk); (try clear hi)) | (go_at_call 60; (with_reducible refine (impl_in.calls a1 0 (wrap64 ((a0.size : Int) - 1)) false _ A7.out).mono ?_); rintro e w' ⟨rfl, ⟨nd, rfl⟩⟩))
    go_meet
    case rel => exact ⟨_, (true), RF, H', ⟨by first | omega | exact Nat.le_refl _⟩, ⟨BB⟩⟩
  ·replace c6 := Bool.eq_false_iff.mpr c6
   subst c6
   replace H := IN H
   have H' := Aside0.mk H
   clear H
   go_wp2_with (first | ((with_reducible refine gate_callee (f := 41) rfl ?_); refine goesL_ (some 9) rfl rfl Tryd.func41 (by kernel_rfl) rfl #[.string a0] rfl TA ?_; (with_reducible refine (impl_IsNecklace.calls a0 false _ A5.out).mono ?_); rintro e w12 ⟨rfl, hb⟩; refine ⟨_, rfl, ?_⟩; have n0_ := Aside0.mk (below_step BB hb); clear HB; have HB := n0_; clear n0_; (try clear hb); (try clear hb2); (try clear hk); (try clear hi)))
   go_meet
   case rel => exact ⟨_, (true), RF, H', ⟨by first | omega | exact Nat.le_refl _⟩, ⟨BB⟩⟩
 case rest =>
  clear HC4
  try clear c2
  try clear p2
  try clear c4
  try clear c6
  try clear p6
  try clear c8
  obtain ⟨kq, x25_3, rfl, HA, HJ3, HB⟩ := hcut
  cases kq with
  | zero => exact absurd HA.out (by simp [impl_WindowCounts.j0])
  | succ kj3 =>
   have H := HA.out
   clear HA
   simp only [impl_WindowCounts.j0] at H
   by_cases c13 : x25_3 = true
   ·subst c13
    replace H := IP H
    simp only [Option.some.injEq, Prod.mk.injEq] at H
    obtain ⟨rfl, rfl⟩ := H
    go_wp2
    go_ret2
    exact ⟨_, RE, by first | exact Kd.R_nil _ _ _ _ _ | exact Kd.N_nil _ _ _ _ _ | exact Kd.V_nil _ _ _ _ _ | exact Kd.Q_nil _ _ _ _ _ | exact Kd.S_nil _ _ _ _ _, BB⟩
   ·replace c13 := Bool.eq_false_iff.mpr c13
    subst c13
    replace H := IN H
    obtain ⟨t264, A140, H⟩ := Option.bind_eq_some_iff.mp H
    have A14 := Aside0.mk A140
    clear A140
    obtain ⟨t265, A150, H⟩ := Option.bind_eq_some_iff.mp H
    have A15 := Aside0.mk A150
    clear A150
    simp only [Option.some.injEq, Prod.mk.injEq] at H
    obtain ⟨rfl, rfl⟩ := H
    go_wp2_with (first | ((with_reducible refine gate_callee (f := 55) rfl ?_); refine goesL_ (some 29) rfl rfl Tryd.func55 (by kernel_rfl) rfl #[.string a0, .int .i64 a1, .int .i64 a2] rfl TA ?_; (with_reducible refine (impl_window.calls a0 a1 a2 t264 _ A14.out).mono ?_); rintro e w' ⟨rfl, ⟨nd, rfl⟩⟩; refine ⟨_, rfl, ?_⟩) | ((with_reducible refine gate_callee (f := 43) rfl ?_); refine goesL_ (some 30) rfl rfl Tryd.func43 (by kernel_rfl) rfl #[.string t264] rfl TA ?_; (with_reducible refine (impl_counts.calls kj3 t264 t265 _ A15.out).mono ?_); rintro e w16 ⟨v266, rfl, ho0, hb⟩; refine ⟨_, rfl, ?_⟩; have n0_ := Aside0.mk (Kd.R_lower ho0 (below_size BB)); have n1_ := Aside0.mk (below_step BB hb); clear HB; have HO267 := n0_; have HB := n1_; clear n0_ n1_; (try clear hb); (try clear hb2); (try clear hk); (try clear hi); (try clear ho0)))
    go_ret2
    exact ⟨_, RE, KR HO267, BB⟩

/-! ### spec_DrawWindowCounts: function 25 -/
def spec_DrawWindowCounts.f (k : Nat) (l0 : List Int) : Option (ByteArray × Int × Int) := (spec_l1Cur_beads.f k l0 0 0 14).bind fun bt269 => ((spec_l1Cur_pick.f l0 bt269.2.1 bt269.2.2 (wrap64 ((bt269.1.size : Int) + 1))).bind fun bt272 => ((spec_l1Cur_pick.f l0 bt272.2.1 bt272.2.2 9).bind fun bt275 => ((spec_l1Cur_pick.f l0 bt275.2.1 bt275.2.2 (wrap64 ((bt269.1.size : Int) + 2))).bind fun bt278 => ((spec_l1Cur_pick.f l0 bt278.2.1 bt278.2.2 9).bind fun bt281 => (some (bt269.1, wrap64 (bt272.1 - (wrap64 (Int.tdiv bt275.1 8))), wrap64 (bt278.1 - (wrap64 (Int.tdiv bt281.1 8)))))))))
theorem spec_DrawWindowCounts.mono : ∀ a0 k, LeO (spec_DrawWindowCounts.f k a0) (spec_DrawWindowCounts.f (k + 1) a0) := by
 intro a0 k
 unfold spec_DrawWindowCounts.f
 repeat' first
   | with_reducible first | exact spec_l1Cur_beads.mono _ _ _ _ _ | exact LeO.refl _ | exact LeO.none _ | refine LeO.ite ?_ ?_ | refine LeO.bind ?_ (fun _ => ?_)
   | exact LeO.none _ | refine LeO.ite ?_ ?_ | refine LeO.bind ?_ (fun _ => ?_)
theorem spec_DrawWindowCounts.calls (k : Nat) (A0 : Option Addr) (c0 : Nat) (l0 : List Int) (r1 : ByteArray) (r2 : Int) (r3 : Int) (w : World) (hr0 : Kd.C (Kd.int .u8) w A0 l0.length l0) (hc0 : l0.length ≤ c0) (h : spec_DrawWindowCounts.f k l0 = some (r1, r2, r3)) :
  Calls Tryd.prog 25 #[.slice A0 l0.length c0] w fun e w' => e = .returned (.tuple #[.string r1, .int .i64 r2, .int .i64 r3]) ∧ Below w.heap.size w w' := by
 have hu51 := Tryd.underlying51
 have HR0 := Aside0.mk hr0
 have HC0 := Aside0.mk hc0
 clear hr0 hc0
 have HB := Aside0.mk (Below.refl w.heap.size w)
 have H : ((spec_l1Cur_beads.f k l0 0 0 14).bind fun bt269 => ((spec_l1Cur_pick.f l0 bt269.2.1 bt269.2.2 (wrap64 ((bt269.1.size : Int) + 1))).bind fun bt272 => ((spec_l1Cur_pick.f l0 bt272.2.1 bt272.2.2 9).bind fun bt275 => ((spec_l1Cur_pick.f l0 bt275.2.1 bt275.2.2 (wrap64 ((bt269.1.size : Int) + 2))).bind fun bt278 => ((spec_l1Cur_pick.f l0 bt278.2.1 bt278.2.2 9).bind fun bt281 => (some (bt269.1, wrap64 (bt272.1 - (wrap64 (Int.tdiv bt275.1 8))), wrap64 (bt278.1 - (wrap64 (Int.tdiv bt281.1 8)))))))))) = some (r1, r2, r3) := h
 clear h
 obtain ⟨⟨t269, t270, t271⟩, A20, H⟩ := Option.bind_eq_some_iff.mp H
 replace H : ((spec_l1Cur_pick.f l0 t270 t271 (wrap64 ((t269.size : Int) + 1))).bind fun bt272 => ((spec_l1Cur_pick.f l0 bt272.2.1 bt272.2.2 9).bind fun bt275 => ((spec_l1Cur_pick.f l0 bt275.2.1 bt275.2.2 (wrap64 ((t269.size : Int) + 2))).bind fun bt278 => ((spec_l1Cur_pick.f l0 bt278.2.1 bt278.2.2 9).bind fun bt281 => (some (t269, wrap64 (bt272.1 - (wrap64 (Int.tdiv bt275.1 8))), wrap64 (bt278.1 - (wrap64 (Int.tdiv bt281.1 8))))))))) = some (r1, r2, r3) := H
 have A2 := Aside0.mk A20
 clear A20
 obtain ⟨⟨t272, t273, t274⟩, A30, H⟩ := Option.bind_eq_some_iff.mp H
 replace H : ((spec_l1Cur_pick.f l0 t273 t274 9).bind fun bt275 => ((spec_l1Cur_pick.f l0 bt275.2.1 bt275.2.2 (wrap64 ((t269.size : Int) + 2))).bind fun bt278 => ((spec_l1Cur_pick.f l0 bt278.2.1 bt278.2.2 9).bind fun bt281 => (some (t269, wrap64 (t272 - (wrap64 (Int.tdiv bt275.1 8))), wrap64 (bt278.1 - (wrap64 (Int.tdiv bt281.1 8)))))))) = some (r1, r2, r3) := H
 have A3 := Aside0.mk A30
 clear A30
 obtain ⟨⟨t275, t276, t277⟩, A40, H⟩ := Option.bind_eq_some_iff.mp H
 replace H : ((spec_l1Cur_pick.f l0 t276 t277 (wrap64 ((t269.size : Int) + 2))).bind fun bt278 => ((spec_l1Cur_pick.f l0 bt278.2.1 bt278.2.2 9).bind fun bt281 => (some (t269, wrap64 (t272 - (wrap64 (Int.tdiv t275 8))), wrap64 (bt278.1 - (wrap64 (Int.tdiv bt281.1 8))))))) = some (r1, r2, r3) := H
 have A4 := Aside0.mk A40
 clear A40
 obtain ⟨⟨t278, t279, t280⟩, A50, H⟩ := Option.bind_eq_some_iff.mp H
 replace H : ((spec_l1Cur_pick.f l0 t279 t280 9).bind fun bt281 => (some (t269, wrap64 (t272 - (wrap64 (Int.tdiv t275 8))), wrap64 (t278 - (wrap64 (Int.tdiv bt281.1 8)))))) = some (r1, r2, r3) := H
 have A5 := Aside0.mk A50
 clear A50
 obtain ⟨⟨t281, t282, t283⟩, A60, H⟩ := Option.bind_eq_some_iff.mp H
 replace H : (some (t269, wrap64 (t272 - (wrap64 (Int.tdiv t275 8))), wrap64 (t278 - (wrap64 (Int.tdiv t281 8))))) = some (r1, r2, r3) := H
 have A6 := Aside0.mk A60
 clear A60
 simp only [Option.some.injEq, Prod.mk.injEq] at H
 obtain ⟨rfl, rfl, rfl⟩ := H
 go_enter Tryd.func25, Tryd.ntmps25
 go_wp2_with (first | ((with_reducible refine gate_dst (N := 9) rfl ?_); refine box_event ?hg (N := 9) ?hd (cs := #[.slice A0 l0.length c0, .int .i64 0, .int .u64 0]) (t := 51) ?hr ?_; (case hd => rfl); (case hg => rfl); (case hr => exact GS); intro gb268 hg w7 hbox hb; have n0_ := Aside0.mk (below_step BB hb); have n1_ := Aside0.mk ((by rw [hg]; exact (below_size BB) : w.heap.size ≤ gb268)); have n2_ := Aside0.mk ((by rw [hg]; exact (below_size BB) : w.heap.size ≤ gb268)); have n3_ := Aside0.mk ((show IsS51 w w7 gb268 l0 0 0 from ⟨A0, c0, hbox, (by rw [hg]; exact (below_size BB) : w.heap.size ≤ gb268), HR0.out⟩)); clear HB; have HB := n0_; have GW268 := n1_; have GE268 := n2_; have HI268 := n3_; clear n0_ n1_ n2_ n3_; clear hb hbox hg) | ((with_reducible refine gate_callee (f := 44) rfl ?_); refine goesL_ (some 11) rfl rfl Tryd.func44 (by kernel_rfl) rfl #[.pointer (some ⟨gb268, 0, none⟩), .int .i64 14] rfl TA ?_; (with_reducible refine (spec_l1Cur_beads.calls k gb268 l0 0 0 14 t269 t270 t271 w _ ?side1 ?side2 A2.out).mono ?_); (case side1 => repeat (first | (with_reducible first | exact HI268.out | apply IsS51.alloc | apply IsS51.drewN | apply IsS51.drew | apply IsS51.set_1 | apply IsS51.set_2) | exact HI268.out)); (case side2 => repeat (first | (with_reducible first | exact HB.out | apply below_alloc | apply pw_below_drewN | apply below_drew1 | refine below_set ?_ (IsS51.ge HI268.out)) | exact HB.out)); rintro e w8 ⟨rfl, hi, hb, hk⟩; refine ⟨_, rfl, ?_⟩; have n0_ := Aside0.mk (hb); have n1_ := Aside0.mk (hi); clear HB; clear HI268; have HB := n0_; have HI268 := n1_; clear n0_ n1_; (try clear hb); (try clear hb2); (try clear hk); (try clear hi)) | ((with_reducible refine gate_callee (f := 45) rfl ?_); refine goesL_ (some 17) rfl rfl Tryd.func45 (by kernel_rfl) rfl #[.pointer (some ⟨gb268, 0, none⟩), .int .i64 (wrap64 ((t269.size : Int) + 1))] rfl TA ?_; (with_reducible refine (spec_l1Cur_pick.calls gb268 l0 t270 t271 (wrap64 ((t269.size : Int) + 1)) t272 t273 t274 w _ ?side1 ?side2 A3.out).mono ?_); (case side1 => repeat (first | (with_reducible first | exact HI268.out | apply IsS51.alloc | apply IsS51.drewN | apply IsS51.drew | apply IsS51.set_1 | apply IsS51.set_2) | exact HI268.out)); (case side2 => repeat (first | (with_reducible first | exact HB.out | apply below_alloc | apply pw_below_drewN | apply below_drew1 | refine below_set ?_ (IsS51.ge HI268.out)) | exact HB.out)); rintro e w9 ⟨rfl, hi, hb, hk⟩; refine ⟨_, rfl, ?_⟩; have n0_ := Aside0.mk (hb); have n1_ := Aside0.mk (hi); clear HB; clear HI268; have HB := n0_; have HI268 := n1_; clear n0_ n1_; (try clear hb); (try clear hb2); (try clear hk); (try clear hi)) | ((with_reducible refine gate_callee (f := 45) rfl ?_); refine goesL_ (some 19) rfl rfl Tryd.func45 (by kernel_rfl) rfl #[.pointer (some ⟨gb268, 0, none⟩), .int .i64 9] rfl TA ?_; (with_reducible refine (spec_l1Cur_pick.calls gb268 l0 t273 t274 9 t275 t276 t277 w _ ?side1 ?side2 A4.out).mono ?_); (case side1 => repeat (first | (with_reducible first | exact HI268.out | apply IsS51.alloc | apply IsS51.drewN | apply IsS51.drew | apply IsS51.set_1 | apply IsS51.set_2) | exact HI268.out)); (case side2 => repeat (first | (with_reducible first | exact HB.out | apply below_alloc | apply pw_below_drewN | apply below_drew1 | refine below_set ?_ (IsS51.ge HI268.out)) | exact HB.out)); rintro e w10 ⟨rfl, hi, hb, hk⟩; refine ⟨_, rfl, ?_⟩; have n0_ := Aside0.mk (hb); have n1_ := Aside0.mk (hi); clear HB; clear HI268; have HB := n0_; have HI268 := n1_; clear n0_ n1_; (try clear hb); (try clear hb2); (try clear hk); (try clear hi)) | ((with_reducible refine gate_callee (f := 45) rfl ?_); refine goesL_ (some 26) rfl rfl Tryd.func45 (by kernel_rfl) rfl #[.pointer (some ⟨gb268, 0, none⟩), .int .i64 (wrap64 ((t269.size : Int) + 2))] rfl TA ?_; (with_reducible refine (spec_l1Cur_pick.calls gb268 l0 t276 t277 (wrap64 ((t269.size : Int) + 2)) t278 t279 t280 w _ ?side1 ?side2 A5.out).mono ?_); (case side1 => repeat (first | (with_reducible first | exact HI268.out | apply IsS51.alloc | apply IsS51.drewN | apply IsS51.drew | apply IsS51.set_1 | apply IsS51.set_2) | exact HI268.out)); (case side2 => repeat (first | (with_reducible first | exact HB.out | apply below_alloc | apply pw_below_drewN | apply below_drew1 | refine below_set ?_ (IsS51.ge HI268.out)) | exact HB.out)); rintro e w11 ⟨rfl, hi, hb, hk⟩; refine ⟨_, rfl, ?_⟩; have n0_ := Aside0.mk (hb); have n1_ := Aside0.mk (hi); clear HB; clear HI268; have HB := n0_; have HI268 := n1_; clear n0_ n1_; (try clear hb); (try clear hb2); (try clear hk); (try clear hi)) | ((with_reducible refine gate_callee (f := 45) rfl ?_); refine goesL_ (some 28) rfl rfl Tryd.func45 (by kernel_rfl) rfl #[.pointer (some ⟨gb268, 0, none⟩), .int .i64 9] rfl TA ?_; (with_reducible refine (spec_l1Cur_pick.calls gb268 l0 t279 t280 9 t281 t282 t283 w _ ?side1 ?side2 A6.out).mono ?_); (case side1 => repeat (first | (with_reducible first | exact HI268.out | apply IsS51.alloc | apply IsS51.drewN | apply IsS51.drew | apply IsS51.set_1 | apply IsS51.set_2) | exact HI268.out)); (case side2 => repeat (first | (with_reducible first | exact HB.out | apply below_alloc | apply pw_below_drewN | apply below_drew1 | refine below_set ?_ (IsS51.ge HI268.out)) | exact HB.out)); rintro e w12 ⟨rfl, hi, hb, hk⟩; refine ⟨_, rfl, ?_⟩; have n0_ := Aside0.mk (hb); have n1_ := Aside0.mk (hi); clear HB; clear HI268; have HB := n0_; have HI268 := n1_; clear n0_ n1_; (try clear hb); (try clear hb2); (try clear hk); (try clear hi)))
 go_ret3
 exact ⟨RE, by repeat (first | (with_reducible first | exact HB.out | apply below_alloc | apply pw_below_drewN | apply below_drew1 | refine below_set ?_ (IsS51.ge HI268.out)) | exact HB.out)⟩

/-! ### spec_l1In: function 61 -/
def spec_l1In.f (a0 : Int) (a1 : Int) (a2 : Int) : Option (Bool) := if a0 ≥ a1 then (some (decide (a0 ≤ a2))) else (some false)
theorem spec_l1In.calls (a0 : Int) (a1 : Int) (a2 : Int) (r : Bool) (w : World) (h : spec_l1In.f a0 a1 a2 = some r) :
  Calls Tryd.prog 61 #[.int .i64 a0, .int .i64 a1, .int .i64 a2] w fun e w' => e = .returned (.bool r) ∧ Drawn0 w w' := by
 have H : (if a0 ≥ a1 then (some (decide (a0 ≤ a2))) else (some false)) = some r := h
 clear h
 by_cases c4 : a0 ≥ a1
 ·rw [if_pos c4] at H
  have c4b0 : decide (a1 ≤ a0) = true := decide_eq_true c4
  clear c4
  obtain rfl := Option.some.inj H
  go_enter Tryd.func61, Tryd.ntmps61
  go_wp2
  go_ret
  exact ⟨RF, DR⟩
 ·rw [if_neg c4] at H
  have c4b0 : decide (a1 ≤ a0) = false := decide_eq_false c4
  clear c4
  obtain rfl := Option.some.inj H
  go_enter Tryd.func61, Tryd.ntmps61
  go_wp2
  go_ret
  exact ⟨RF, DR⟩

/-! ### spec_WindowCounts: function 26 -/
def spec_WindowCounts.f (k : Nat) (a0 : ByteArray) (a1 : Int) (a2 : Int) : Option (List Int × Bool) := (spec_nlGood.f k a0).bind fun t284 => (if t284 = true then ((spec_l1In.f a1 0 (wrap64 ((a0.size : Int) - 1))).bind fun t285 => (if t285 = true then ((spec_l1In.f a2 0 (a0.size : Int)).bind fun t286 => (if t286 = true then ((spec_nlWindow.f k a0 a1 a2).bind fun t287 => (some (t287, true))) else (some (([] : List Int), false)))) else (some (([] : List Int), false)))) else (some (([] : List Int), false)))
theorem spec_WindowCounts.mono : ∀ a0 a1 a2 k, LeO (spec_WindowCounts.f k a0 a1 a2) (spec_WindowCounts.f (k + 1) a0 a1 a2) := by
 intro a0 a1 a2 k
 unfold spec_WindowCounts.f
 repeat' first
   | with_reducible first | exact spec_nlGood.mono _ _ | exact spec_nlWindow.mono _ _ _ _ | exact LeO.refl _ | exact LeO.none _ | refine LeO.ite ?_ ?_ | refine LeO.bind ?_ (fun _ => ?_)
   | exact LeO.none _ | refine LeO.ite ?_ ?_ | refine LeO.bind ?_ (fun _ => ?_)
theorem spec_WindowCounts.calls (k : Nat) (a0 : ByteArray) (a1 : Int) (a2 : Int) (r1 : List Int) (r2 : Bool) (w : World) (h : spec_WindowCounts.f k a0 a1 a2 = some (r1, r2)) :
  Calls Tryd.prog 26 #[.string a0, .int .i64 a1, .int .i64 a2] w fun e w' => ∃ v0_ : Value, e = .returned (.tuple #[v0_, .bool r2]) ∧ Kd.R (Kd.int .i64) 3 w' w.heap.size (fun _ => True) v0_ r1 ∧ Below w.heap.size w w' := by
 have HB := Aside0.mk (Below.refl w.heap.size w)
 have H : ((spec_nlGood.f k a0).bind fun t284 => (if t284 = true then ((spec_l1In.f a1 0 (wrap64 ((a0.size : Int) - 1))).bind fun t285 => (if t285 = true then ((spec_l1In.f a2 0 (a0.size : Int)).bind fun t286 => (if t286 = true then ((spec_nlWindow.f k a0 a1 a2).bind fun t287 => (some (t287, true))) else (some (([] : List Int), false)))) else (some (([] : List Int), false)))) else (some (([] : List Int), false)))) = some (r1, r2) := h
 clear h
 obtain ⟨t284, A40, H⟩ := Option.bind_eq_some_iff.mp H
 have A4 := Aside0.mk A40
 clear A40
 by_cases c5 : t284 = true
 ·subst c5
  replace H := IP H
  obtain ⟨t285, A60, H⟩ := Option.bind_eq_some_iff.mp H
  have A6 := Aside0.mk A60
  clear A60
  by_cases c7 : t285 = true
  ·subst c7
   replace H := IP H
   obtain ⟨t286, A80, H⟩ := Option.bind_eq_some_iff.mp H
   have A8 := Aside0.mk A80
   clear A80
   by_cases c9 : t286 = true
   ·subst c9
    replace H := IP H
    obtain ⟨t287, A100, H⟩ := Option.bind_eq_some_iff.mp H
    have A10 := Aside0.mk A100
    clear A100
    simp only [Option.some.injEq, Prod.mk.injEq] at H
    obtain ⟨rfl, rfl⟩ := H
    go_enter Tryd.func26, Tryd.ntmps26
    go_wp2_with (first | ((with_reducible refine gate_callee (f := 48) rfl ?_); refine goesL_ (some 9) rfl rfl Tryd.func48 (by kernel_rfl) rfl #[.string a0] rfl TA ?_; (with_reducible refine (spec_nlGood.calls k a0 true _ A4.out).mono ?_); rintro e w' ⟨rfl, ⟨nd, rfl⟩⟩; refine ⟨_, rfl, ?_⟩) | (go_at_call 61; (with_reducible refine (spec_l1In.calls a1 0 (wrap64 ((a0.size : Int) - 1)) true _ A6.out).mono ?_); rintro e w' ⟨rfl, ⟨nd, rfl⟩⟩) | (go_at_call 61; (with_reducible refine (spec_l1In.calls a2 0 (a0.size : Int) true _ A8.out).mono ?_); rintro e w' ⟨rfl, ⟨nd, rfl⟩⟩) | ((with_reducible refine gate_callee (f := 58) rfl ?_); refine goesL_ (some 29) rfl rfl Tryd.func58 (by kernel_rfl) rfl #[.string a0, .int .i64 a1, .int .i64 a2] rfl TA ?_; (with_reducible refine (spec_nlWindow.calls k a0 a1 a2 t287 _ A10.out).mono ?_); rintro e w11 ⟨v288, rfl, ho0, hb⟩; refine ⟨_, rfl, ?_⟩; have n0_ := Aside0.mk (Kd.R_lower ho0 (below_size BB)); have n1_ := Aside0.mk (below_step BB hb); clear HB; have HO289 := n0_; have HB := n1_; clear n0_ n1_; (try clear hb); (try clear hb2); (try clear hk); (try clear hi); (try clear ho0)))
    go_ret2
    exact ⟨_, RE, KR HO289, BB⟩
   ·replace c9 := Bool.eq_false_iff.mpr c9
    subst c9
    replace H := IN H
    simp only [Option.some.injEq, Prod.mk.injEq] at H
    obtain ⟨rfl, rfl⟩ := H
    go_enter Tryd.func26, Tryd.ntmps26
    go_wp2_with (first | ((with_reducible refine gate_callee (f := 48) rfl ?_); refine goesL_ (some 9) rfl rfl Tryd.func48 (by kernel_rfl) rfl #[.string a0] rfl TA ?_; (with_reducible refine (spec_nlGood.calls k a0 true _ A4.out).mono ?_); rintro e w' ⟨rfl, ⟨nd, rfl⟩⟩; refine ⟨_, rfl, ?_⟩) | (go_at_call 61; (with_reducible refine (spec_l1In.calls a1 0 (wrap64 ((a0.size : Int) - 1)) true _ A6.out).mono ?_); rintro e w' ⟨rfl, ⟨nd, rfl⟩⟩) | (go_at_call 61; (with_reducible refine (spec_l1In.calls a2 0 (a0.size : Int) false _ A8.out).mono ?_); rintro e w' ⟨rfl, ⟨nd, rfl⟩⟩))
    go_ret2
    exact ⟨_, RE, by first | exact Kd.R_nil _ _ _ _ _ | exact Kd.N_nil _ _ _ _ _ | exact Kd.V_nil _ _ _ _ _ | exact Kd.Q_nil _ _ _ _ _ | exact Kd.S_nil _ _ _ _ _, BB⟩
  ·replace c7 := Bool.eq_false_iff.mpr c7
   subst c7
   replace H := IN H
   simp only [Option.some.injEq, Prod.mk.injEq] at H
   obtain ⟨rfl, rfl⟩ := H
   go_enter Tryd.func26, Tryd.ntmps26
   go_wp2_with (first | ((with_reducible refine gate_callee (f := 48) rfl ?_); refine goesL_ (some 9) rfl rfl Tryd.func48 (by kernel_rfl) rfl #[.string a0] rfl TA ?_; (with_reducible refine (spec_nlGood.calls k a0 true _ A4.out).mono ?_); rintro e w' ⟨rfl, ⟨nd, rfl⟩⟩; refine ⟨_, rfl, ?_⟩) | (go_at_call 61; (with_reducible refine (spec_l1In.calls a1 0 (wrap64 ((a0.size : Int) - 1)) false _ A6.out).mono ?_); rintro e w' ⟨rfl, ⟨nd, rfl⟩⟩))
   go_ret2
   exact ⟨_, RE, by first | exact Kd.R_nil _ _ _ _ _ | exact Kd.N_nil _ _ _ _ _ | exact Kd.V_nil _ _ _ _ _ | exact Kd.Q_nil _ _ _ _ _ | exact Kd.S_nil _ _ _ _ _, BB⟩
 ·replace c5 := Bool.eq_false_iff.mpr c5
  subst c5
  replace H := IN H
  simp only [Option.some.injEq, Prod.mk.injEq] at H
  obtain ⟨rfl, rfl⟩ := H
  go_enter Tryd.func26, Tryd.ntmps26
  go_wp2_with (first | ((with_reducible refine gate_callee (f := 48) rfl ?_); refine goesL_ (some 9) rfl rfl Tryd.func48 (by kernel_rfl) rfl #[.string a0] rfl TA ?_; (with_reducible refine (spec_nlGood.calls k a0 false _ A4.out).mono ?_); rintro e w' ⟨rfl, ⟨nd, rfl⟩⟩; refine ⟨_, rfl, ?_⟩))
  go_ret2
  exact ⟨_, RE, by first | exact Kd.R_nil _ _ _ _ _ | exact Kd.N_nil _ _ _ _ _ | exact Kd.V_nil _ _ _ _ _ | exact Kd.Q_nil _ _ _ _ _ | exact Kd.S_nil _ _ _ _ _, BB⟩

/-! ### laws_zSum: function 27 -/
def laws_zSum.l0 : Nat → Int → List Int → Int → Int → Option (Int)
 | 0, _, _, _, _ => none
 | k + 1, x3, x6, x7, x8 => if x8 < x7 then (if 0 ≤ x8 then (if x8 < (x6.length : Int) then (laws_zSum.l0 k (wrap64 (x3 + (rd x6 x8))) x6 x7 (wrap64 (x8 + 1))) else (none)) else (none)) else (some x3)
def laws_zSum.f (k : Nat) (l0 : List Int) : Option (Int) := laws_zSum.l0 k 0 l0 (l0.length : Int) 0
theorem laws_zSum.mono_l : ∀ k, (∀ y0 y1 y2 y3, LeO (laws_zSum.l0 k y0 y1 y2 y3) (laws_zSum.l0 (k + 1) y0 y1 y2 y3))
 | 0 => fun _ _ _ _ r h => by simp [laws_zSum.l0] at h
 | k + 1 => by
  have ih0 := laws_zSum.mono_l k
  ·intro y0 y1 y2 y3
   unfold laws_zSum.l0
   repeat' first
   | with_reducible first | exact ih0 _ _ _ _ | exact LeO.refl _ | exact LeO.none _ | refine LeO.ite ?_ ?_ | refine LeO.bind ?_ (fun _ => ?_)
   | exact LeO.none _ | refine LeO.ite ?_ ?_ | refine LeO.bind ?_ (fun _ => ?_)
theorem laws_zSum.mono : ∀ a0 k, LeO (laws_zSum.f k a0) (laws_zSum.f (k + 1) a0) := by
 intro a0 k
 have ih0 := laws_zSum.mono_l k
 unfold laws_zSum.f
 repeat' first
   | with_reducible first | exact ih0 _ _ _ _ | exact LeO.refl _ | exact LeO.none _ | refine LeO.ite ?_ ?_ | refine LeO.bind ?_ (fun _ => ?_)
   | exact LeO.none _ | refine LeO.ite ?_ ?_ | refine LeO.bind ?_ (fun _ => ?_)
theorem laws_zSum.calls (k : Nat) (A0 : Option Addr) (c0 : Nat) (l0 : List Int) (r : Int) (w : World) (hr0 : Kd.C (Kd.int .i64) w A0 l0.length l0) (hc0 : l0.length ≤ c0) (h : laws_zSum.f k l0 = some r) :
  Calls Tryd.prog 27 #[.slice A0 l0.length c0] w fun e w' => e = .returned (.int .i64 r) ∧ Drawn0 w w' := by
 have HR0 := Aside0.mk hr0
 have HC0 := Aside0.mk hc0
 clear hr0 hc0
 have H : (laws_zSum.l0 k 0 l0 (l0.length : Int) 0) = some r := h
 clear h
 have H' := Aside0.mk H
 clear H
 go_enter Tryd.func27, Tryd.ntmps27
 go_wp2
 go_loopg [3, 8] k (fun kq v3 v8 w' => ∃ (x3_1 : Int) (x8_1 : Int), v3 = .int .i64 x3_1 ∧ v8 = .int .i64 x8_1 ∧ Aside0 (laws_zSum.l0 kq x3_1 l0 (l0.length : Int) x8_1 = some r) ∧ Aside0 (kq ≤ k) ∧ Drawn0 w w')
 case atStart => exact ⟨(0), (0), RF, RF, H', ⟨Nat.le_refl _⟩, by repeat (first | exact Drawn0.refl _ | apply Drawn0.step)⟩
 case round =>
  clear H'
  obtain ⟨x3_1, x8_1, rfl, rfl, HA, HK1, ⟨m1, rfl⟩⟩ := hrel
  cases gk with
  | zero => exact absurd HA.out (by simp [laws_zSum.l0])
  | succ k1 =>
   have H := HA.out
   clear HA
   simp only [laws_zSum.l0] at H
   by_cases c2 : x8_1 < (l0.length : Int)
   ·rw [if_pos c2] at H
    have c2b0 : decide (x8_1 < (l0.length : Int)) = true := decide_eq_true c2
    clear c2
    by_cases c3 : 0 ≤ x8_1
    ·rw [if_pos c3] at H
     have c3b0 : decide (0 ≤ x8_1) = true := decide_eq_true c3
     clear c3
     by_cases c4 : x8_1 < (l0.length : Int)
     ·rw [if_pos c4] at H
      have c4b0 : decide (x8_1 < (l0.length : Int)) = true := decide_eq_true c4
      clear c4
      have H' := Aside0.mk H
      clear H
      have p290 : 0 ≤ (x8_1 : Int) := of_decide_eq_true AS
      have q290 : x8_1 < (l0.length : Int) := of_decide_eq_true AS
      obtain ⟨ad290, e290, hx290_0⟩ := Kd.at_int HR0.out x8_1 p290 q290
      cases e290
      replace p290 := eq_true p290
      replace q290 := eq_true q290
      go_wp2
      go_roundg k1
      case measure => have := HK1.out; omega
      case rel => exact ⟨(wrap64 (x3_1 + (rd l0 x8_1))), (wrap64 (x8_1 + 1)), RF, RF, H', ⟨by have := HK1.out; omega⟩, by repeat (first | exact Drawn0.refl _ | apply Drawn0.step)⟩
     ·rw [if_neg c4] at H
      cases H
    ·rw [if_neg c3] at H
     cases H
   ·rw [if_neg c2] at H
    have c2b0 : decide (x8_1 < (l0.length : Int)) = false := decide_eq_false c2
    clear c2
    obtain rfl := Option.some.inj H
    go_wp2
    go_ret
    exact ⟨RF, DR⟩

end Go.Proofs.YtafjjbkkcedgnaaDoor.PFnHalfWindows
