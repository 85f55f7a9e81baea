-- Written by a program of this session (wip/tools/pp.sh) out of the translation; Lean checks it.
import Derived.Test.YtamecophbbgefaaDoorPFnExactCountSplitsx0
import Derived.Test.YtamecophbbgefaaDoorPFnExactCountSplitsx2
import Derived.Test.YtamecophbbgefaaDoorPFnExactCountSplitsx3
namespace Go.Proofs.YtamecophbbgefaaDoor.PFnExactCountSplits
open Go.RowKit Go.Proofs.YtamecophbbgefaaDoorOwn Go.Proofs.YtamecophbbgefaaDoorW.PrintWords Go.Proofs.YtamecophbbgefaaDoorW.PrintLast Go.Proofs.YtamecophbbgefaaDoorW.PrintMore
attribute [local go_sem] max2_int min2_int max_two min_two max_three min_three max_four min_four   -- for this text's walks alone
set_option linter.unusedVariables false
set_option linter.unusedSimpArgs false

/-! ### impl_CountSplits: function 5 (given) -/
def impl_fairCuts.q (k : Nat) (s : ByteArray) (x : List Int) : Bool := (impl_fairCuts_1.f k x [s]).getD false
def impl_fairCuts.f (k : Nat) (a0 : ByteArray) (a1 : Int) : Option (List (List Int)) := (impl_choices.f k (a0.size : Int) a1 1).bind fun t => if ((t.all fun x => (impl_fairCuts_1.f k x [a0]).isSome) && decide (t.length ≤ 9223372036854775807)) = true then some (t.filter fun x => !impl_fairCuts.q k a0 x) else none
theorem below_kept {w w1 w2 : World} {v : Value} (hb : Below w.heap.size w w1) (hbase : ∀ q, v.ownBlock = some q → w.heap.size ≤ q) (hos : w2.os = w1.os) (htp : w2.tape = w1.tape) (hout : w2.output = w1.output) (hK : Kept w1 w2 (fun k => some k = v.ownBlock)) : Below w.heap.size w w2 :=
  ⟨hos.trans hb.os, htp.trans hb.tape, hout.trans hb.output, Nat.le_trans hb.size hK.1, fun q hq => (hK.2 q (Nat.lt_of_lt_of_le hq hb.size) (fun e => by have := hbase q e.symm; omega)).trans (hb.block q hq)⟩
theorem impl_fairCuts.mono : ∀ a0 a1 k, LeO (impl_fairCuts.f k a0 a1) (impl_fairCuts.f (k + 1) a0 a1) := by
  intro a0 a1 k
  unfold impl_fairCuts.f
  refine LeO.bind (impl_choices.mono _ _ _ _) (fun t r h => ?_)
  split at h
  · rename_i hc
    obtain ⟨h1, h2⟩ := Bool.and_eq_true_iff.1 hc
    have hx : ∀ x ∈ t, ∃ v, impl_fairCuts_1.f k x [a0] = some v ∧ impl_fairCuts_1.f (k + 1) x [a0] = some v := fun x hx => by
      obtain ⟨v, hv⟩ := Option.isSome_iff_exists.1 (List.all_eq_true.1 h1 x hx)
      exact ⟨v, hv, impl_fairCuts_1.mono _ _ _ _ hv⟩
    rw [if_pos]
    · rw [← h]
      congr 1
      refine List.filter_congr fun x hx' => ?_
      obtain ⟨v, e1, e2⟩ := hx x hx'
      unfold impl_fairCuts.q
      rw [e1, e2]
    · rw [h2, Bool.and_true]
      exact List.all_eq_true.2 fun x hx' => by
        obtain ⟨v, e1, e2⟩ := hx x hx'
        rw [e2]; rfl
  · cases h
theorem impl_fairCuts.cl (k : Nat) (a0 : ByteArray) {w1 w2 : World} {gb : Nat} {ok : Nat → Prop} {v0 : Value} {t : List (List Int)} (hx : w1.heap[gb]? = some (.cells #[.string a0] 9 (0, 0))) (hb2 : Below w1.heap.size w1 w2)
    (hS : Kd.N (Kd.slice 3 (Kd.int .i64)) 27 w2 w1.heap.size ok v0 t) (hall : (t.all fun x => (impl_fairCuts_1.f k x [a0]).isSome) = true) :
    ∀ x ∈ t, ∀ (A : Option Addr) (c : Nat) (W : World), W.os = w2.os → W.tape = w2.tape → W.output = w2.output → Kept w2 W (fun k => some k = v0.ownBlock) → Kd.C (Kd.int .i64) W A x.length x → x.length ≤ c →
      Calls Tryd.prog 17 (#[.slice A x.length c] ++ #[.pointer (some ⟨gb, 0, none⟩)]) W fun e W' => e = .returned (.bool (impl_fairCuts.q k a0 x)) ∧ Below W.heap.size W W' := by
  intro x hx' A c W hos htp hout hK hC hlc
  have hgb : gb < w1.heap.size := blk_lt hx
  have hv0 : ∀ q, v0.ownBlock = some q → w1.heap.size ≤ q := fun q hq => Kd.N_base hS q hq
  have hW : W.heap[gb]? = w1.heap[gb]? := (hK.2 gb (Nat.lt_of_lt_of_le hgb hb2.size) (fun e => by have := hv0 gb e.symm; omega)).trans (hb2.block gb hgb)
  have hsome : impl_fairCuts_1.f k x [a0] = some (impl_fairCuts.q k a0 x) := by
    obtain ⟨v, hv⟩ := Option.isSome_iff_exists.1 (List.all_eq_true.1 hall x hx')
    unfold impl_fairCuts.q
    rw [hv]; rfl
  exact impl_fairCuts_1.calls k A c x (some ⟨gb, 0, none⟩) 1 [a0] (impl_fairCuts.q k a0 x) W hC hlc (Kd.C_box Kd.string (g := gb) (t := 9) (cs := #[.string a0]) (hW.trans hx) rfl) (Nat.le_refl _) hsome
set_option maxHeartbeats 8000000 in
set_option maxRecDepth 100000 in
theorem impl_fairCuts.calls (k : Nat) (a0 : ByteArray) (a1 : Int) (r : List (List Int)) (w : World) (h : impl_fairCuts.f k a0 a1 = some r) :
    Calls Tryd.prog 11 #[.string a0, .int .i64 a1] w fun e w' => ∃ (A : Option Addr) (c : Nat), e = .returned (.slice A r.length c) ∧ Below w.heap.size w w' := by
  unfold impl_fairCuts.f at h
  obtain ⟨t, ht, h2⟩ := Option.bind_eq_some_iff.mp h
  clear h
  have HT := Aside0.mk ht
  clear ht
  by_cases hc : ((t.all fun x => (impl_fairCuts_1.f k x [a0]).isSome) && decide (t.length ≤ 9223372036854775807)) = true
  · rw [if_pos hc] at h2
    have HRR := Aside0.mk (Option.some.inj h2)
    have HC := Aside0.mk hc
    clear h2 hc
    have eg : ∀ args w, (callFunc 17 args).run Tryd.prog w = .ok (.enter 17 args) w := Go.Proofs.enters_of Tryd.func17 (by kernel_rfl) rfl
    have HEG := Aside0.mk eg
    clear eg
    go_enter Tryd.func11, Tryd.ntmps11
    go_wp2_with (first
      | ((with_reducible refine gate_dst (N := 2) rfl ?_); refine box_event ?hg (N := 2) ?hd (cs := #[.string a0]) (t := 9) ?hr ?_; (case hd => rfl); (case hg => rfl); (case hr => first | (go_simp; done) | (go_simp; rfl)); intro gb hg w1 hbox hb; have HB1 := Aside0.mk hb; have HX := Aside0.mk hbox; have HG := Aside0.mk hg; clear hb hbox hg; have z0 : w1.cell? ⟨gb, 0, none⟩ = some (.string a0) := (blk_cell HX.out 0).trans rfl)
      | (go_at_call 16; refine (impl_choices.calls k (a0.size : Int) a1 1 t w1 HT.out).mono ?_; rintro e w2 ⟨v0, rfl, hS, hb2⟩; have HS := Aside0.mk hS; have HB2 := Aside0.mk hb2; clear hS hb2)
      | (go_at_call 15; refine (deleteN 17 #[.pointer (some ⟨gb, 0, none⟩)] HEG.out (impl_fairCuts.q k a0) HS.out (of_decide_eq_true (Bool.and_eq_true_iff.1 HC.out).2) (impl_fairCuts.cl k a0 HX.out HB2.out HS.out (Bool.and_eq_true_iff.1 HC.out).1)).mono ?_; rintro e w3 ⟨A3, c3, rfl, hos, htp, hout, hK⟩; have HE := Aside0.mk (And.intro hos (And.intro htp (And.intro hout hK))); clear hos htp hout hK))
    go_ret
    have hE := HE.out
    have hv0 : ∀ q, v0.ownBlock = some q → w1.heap.size ≤ q := fun q hq => Kd.N_base HS.out q hq
    have h1 := HB1.out.size
    have hb2 : Below w.heap.size w w2 := HB1.out.trans (HB2.out.mono HB1.out.size)
    rw [← HRR.out]
    exact ⟨A3, c3, rfl, below_kept hb2 (fun q hq => Nat.le_trans h1 (hv0 q hq)) hE.1 hE.2.1 hE.2.2.1 hE.2.2.2⟩
  · rw [if_neg hc] at h2
    cases h2
def impl_CountSplits.f (k : Nat) (a0 : ByteArray) (a1 : Int) : Option (Int × Bool) := (impl_IsNecklace.f a0).bind fun t217 => (if t217 = true then ((impl_in.f a1 0 4).bind fun t218 => (if t218 = true then ((impl_fairCuts.f k a0 a1).bind fun t219 => (some ((t219.length : Int), true))) else (some (0, false)))) else (some (0, false)))
theorem impl_CountSplits.mono : ∀ a0 a1 k, LeO (impl_CountSplits.f k a0 a1) (impl_CountSplits.f (k + 1) a0 a1) := by
  intro a0 a1 k
  unfold impl_CountSplits.f
  refine LeO.bind (LeO.refl _) (fun _ => LeO.ite (LeO.bind (LeO.refl _) (fun _ => LeO.ite (LeO.bind (impl_fairCuts.mono _ _ _) (fun _ => LeO.refl _)) (LeO.refl _))) (LeO.refl _))
set_option maxHeartbeats 4000000 in
set_option maxRecDepth 100000 in
theorem impl_CountSplits.calls (k : Nat) (a0 : ByteArray) (a1 : Int) (r1 : Int) (r2 : Bool) (w : World) (h : impl_CountSplits.f k a0 a1 = some (r1, r2)) :
    Calls Tryd.prog 5 #[.string a0, .int .i64 a1] w fun e w' => e = .returned (.tuple #[.int .i64 r1, .bool r2]) ∧ Below w.heap.size w w' := by
  unfold impl_CountSplits.f at h
  obtain ⟨t217, A30, H⟩ := Option.bind_eq_some_iff.mp h
  clear h
  have A3 := Aside0.mk A30
  clear A30
  cases t217 with
  | false =>
    rw [if_neg (by decide)] at H
    obtain ⟨rfl, rfl⟩ := Prod.mk.injEq .. ▸ Option.some.inj H
    clear H
    go_enter Tryd.func5, Tryd.ntmps5
    go_wp2_with (first
        | (go_at_call 9; refine (impl_IsNecklace.calls a0 false w A3.out).mono ?_; rintro e w1 ⟨rfl, hb⟩; have HB1 := Aside0.mk hb; clear hb))
    go_ret2
    exact ⟨rfl, HB1.out⟩
  | true =>
    rw [if_pos rfl] at H
    obtain ⟨t218, A50, H⟩ := Option.bind_eq_some_iff.mp H
    have A5 := Aside0.mk A50
    clear A50
    cases t218 with
    | false =>
      rw [if_neg (by decide)] at H
      obtain ⟨rfl, rfl⟩ := Prod.mk.injEq .. ▸ Option.some.inj H
      clear H
      go_enter Tryd.func5, Tryd.ntmps5
      go_wp2_with (first
        | (go_at_call 9; refine (impl_IsNecklace.calls a0 true w A3.out).mono ?_; rintro e w1 ⟨rfl, hb⟩; have HB1 := Aside0.mk hb; clear hb)
        | (go_at_call 10; refine (impl_in.calls a1 0 4 false w1 A5.out).mono ?_; rintro e w2 ⟨rfl, hb⟩; have HB2 := Aside0.mk (HB1.out.trans (hb.below.mono HB1.out.size)); clear hb))
      go_ret2
      exact ⟨rfl, HB2.out⟩
    | true =>
      rw [if_pos rfl] at H
      obtain ⟨t219, A70, H⟩ := Option.bind_eq_some_iff.mp H
      have A7 := Aside0.mk A70
      clear A70
      obtain ⟨rfl, rfl⟩ := Prod.mk.injEq .. ▸ Option.some.inj H
      clear H
      go_enter Tryd.func5, Tryd.ntmps5
      go_wp2_with (first
        | (go_at_call 9; refine (impl_IsNecklace.calls a0 true w A3.out).mono ?_; rintro e w1 ⟨rfl, hb⟩; have HB1 := Aside0.mk hb; clear hb)
        | (go_at_call 10; refine (impl_in.calls a1 0 4 true w1 A5.out).mono ?_; rintro e w2 ⟨rfl, hb⟩; have HB2 := Aside0.mk (HB1.out.trans (hb.below.mono HB1.out.size)); clear hb)
        | (go_at_call 11; refine (impl_fairCuts.calls k a0 a1 t219 w2 A7.out).mono ?_; rintro e w3 ⟨A9, c9, rfl, hb⟩; have HB3 := Aside0.mk (HB2.out.trans (hb.mono HB2.out.size)); clear hb))
      go_ret2
      exact ⟨rfl, HB3.out⟩

/-! ### laws_FnExactCountSplits: function 3 -/
def laws_FnExactCountSplits.f (k : Nat) (a0 : ByteArray) (a1 : Int) : Option (Bool) := if (a0.size : Int) > 1048576 then (some true) else ((spec_CountSplits.f k a0 a1).bind fun bt217 => ((impl_CountSplits.f k a0 a1).bind fun bt219 => (if bt219.1 = bt217.1 then (if (bt219.2 != bt217.2) = true then (some false) else (some true)) else (some false))))
theorem laws_FnExactCountSplits.mono : ∀ a0 a1 k, LeO (laws_FnExactCountSplits.f k a0 a1) (laws_FnExactCountSplits.f (k + 1) a0 a1) := by
  intro a0 a1 k
  unfold laws_FnExactCountSplits.f
  repeat' first
      | (with_reducible exact impl_CountSplits.mono _ _ _)
      | (with_reducible exact spec_CountSplits.mono _ _ _)
      | (with_reducible exact LeO.refl _)
      | (with_reducible exact LeO.none _)
      | (with_reducible refine LeO.ite ?_ ?_)
      | (with_reducible refine LeO.bind ?_ (fun _ => ?_))
      | exact impl_CountSplits.mono _ _ _
      | exact spec_CountSplits.mono _ _ _
      | exact LeO.none _
      | refine LeO.ite ?_ ?_
      | refine LeO.bind ?_ (fun _ => ?_)
set_option maxHeartbeats 8000000 in
set_option maxRecDepth 100000 in
theorem laws_FnExactCountSplits.calls (k : Nat) (a0 : ByteArray) (a1 : Int) (r : Bool) (w : World) (h : laws_FnExactCountSplits.f k a0 a1 = some r) :
    Calls Tryd.prog 3 #[.string a0, .int .i64 a1] w fun e w' => e = .returned (.bool r) ∧ Below w.heap.size w w' := by
  have HB := Aside0.mk (Below.refl w.heap.size w)
  have H : (if (a0.size : Int) > 1048576 then (some true) else ((spec_CountSplits.f k a0 a1).bind fun bt217 => ((impl_CountSplits.f k a0 a1).bind fun bt219 => (if bt219.1 = bt217.1 then (if (bt219.2 != bt217.2) = true then (some false) else (some true)) else (some false))))) = some r := h
  clear h
  by_cases c3 : (a0.size : Int) > 1048576
  · rw [if_pos c3] at H
    have c3b0 : decide (1048576 < (a0.size : Int)) = true := decide_eq_true c3
    have c3b1 : decide (1048576 < a0.size) = true := decide_eq_true (by omega)
    have c3b2 : (1048576 < a0.size) := by omega
    clear c3
    obtain rfl := Option.some.inj H
    go_enter Tryd.func3, Tryd.ntmps3
    go_wp2
    go_ret
    exact ⟨by first | rfl | (simp [errW_none, errW_some] <;> rfl) | (simp [*, errW_none, errW_some] <;> rfl), by repeat (first | (with_reducible first | exact HB.out | apply below_alloc | apply pw_below_drewN | apply below_drew1) | exact HB.out)⟩
  · rw [if_neg c3] at H
    have c3b0 : decide (1048576 < (a0.size : Int)) = false := decide_eq_false c3
    have c3b1 : decide (1048576 < a0.size) = false := decide_eq_false (by omega)
    have c3b2 : ¬ (1048576 < a0.size) := by omega
    clear c3
    replace H := Option.bind_eq_some_iff.mp H
    obtain ⟨⟨t217, t218⟩, A40, H⟩ := H
    replace H : ((impl_CountSplits.f k a0 a1).bind fun bt219 => (if bt219.1 = t217 then (if (bt219.2 != t218) = true then (some false) else (some true)) else (some false))) = some r := H
    have A4 := Aside0.mk A40
    clear A40
    replace H := Option.bind_eq_some_iff.mp H
    obtain ⟨⟨t219, t220⟩, A50, H⟩ := H
    replace H : (if t219 = t217 then (if (t220 != t218) = true then (some false) else (some true)) else (some false)) = some r := H
    have A5 := Aside0.mk A50
    clear A50
    by_cases c6 : t219 = t217
    · rw [if_pos c6] at H
      have c6b0 : (t219 == t217) = true := beq_iff_eq.mpr c6
      have c6b1 : (t219 != t217) = false := bne_eq_false_iff_eq.mpr c6
      clear c6
      by_cases c7 : (t220 != t218) = true
      · rw [if_pos c7] at H
        have c7b0 : (t220 != t218) = true := c7
        (try (have c7b1 : decide (t220 = t218) = false := by simpa using c7))
        (try (have c7b2 : (t220 == t218) = false := by simpa using c7))
        (try (have c7b3 : ¬ (t220 = t218) := by simpa using c7))
        clear c7
        obtain rfl := Option.some.inj H
        go_enter Tryd.func3, Tryd.ntmps3
        go_wp2_with (first | ((with_reducible refine gate_callee (f := 4) rfl ?_); refine goesL_ (some 15) rfl rfl Tryd.func4 (by kernel_rfl) rfl #[.string a0, .int .i64 a1] rfl (by (try simp only [List.map_toArray, List.map_cons, List.map_nil]); first | done | rfl | (simp only [List.length_drop, List.length_take]; rfl)) ?_; (with_reducible refine (spec_CountSplits.calls k a0 a1 t217 t218 _ A4.out).mono ?_); rintro e w8 ⟨rfl, hb⟩; refine ⟨_, rfl, ?_⟩; have n0_ := Aside0.mk (below_step (by repeat (first | (with_reducible first | exact HB.out | apply below_alloc | apply pw_below_drewN | apply below_drew1) | exact HB.out)) hb); clear HB; have HB := n0_; clear n0_; (try clear hb); (try clear hb2); (try clear hk); (try clear hi)) | ((with_reducible refine gate_callee (f := 5) rfl ?_); refine goesL_ (some 21) rfl rfl Tryd.func5 (by kernel_rfl) rfl #[.string a0, .int .i64 a1] rfl (by (try simp only [List.map_toArray, List.map_cons, List.map_nil]); first | done | rfl | (simp only [List.length_drop, List.length_take]; rfl)) ?_; (with_reducible refine (impl_CountSplits.calls k a0 a1 t219 t220 _ A5.out).mono ?_); rintro e w9 ⟨rfl, hb⟩; refine ⟨_, rfl, ?_⟩; have n0_ := Aside0.mk (below_step (by repeat (first | (with_reducible first | exact HB.out | apply below_alloc | apply pw_below_drewN | apply below_drew1) | exact HB.out)) hb); clear HB; have HB := n0_; clear n0_; (try clear hb); (try clear hb2); (try clear hk); (try clear hi)))
        go_ret
        exact ⟨by first | rfl | (simp [errW_none, errW_some] <;> rfl) | (simp [*, errW_none, errW_some] <;> rfl), by repeat (first | (with_reducible first | exact HB.out | apply below_alloc | apply pw_below_drewN | apply below_drew1) | exact HB.out)⟩
      · rw [if_neg c7] at H
        have c7b0 : (t220 != t218) = false := by simpa using c7
        (try (have c7b1 : decide (t220 = t218) = true := by simpa using c7))
        (try (have c7b2 : (t220 == t218) = true := by simpa using c7))
        clear c7
        obtain rfl := Option.some.inj H
        go_enter Tryd.func3, Tryd.ntmps3
        go_wp2_with (first | ((with_reducible refine gate_callee (f := 4) rfl ?_); refine goesL_ (some 15) rfl rfl Tryd.func4 (by kernel_rfl) rfl #[.string a0, .int .i64 a1] rfl (by (try simp only [List.map_toArray, List.map_cons, List.map_nil]); first | done | rfl | (simp only [List.length_drop, List.length_take]; rfl)) ?_; (with_reducible refine (spec_CountSplits.calls k a0 a1 t217 t218 _ A4.out).mono ?_); rintro e w10 ⟨rfl, hb⟩; refine ⟨_, rfl, ?_⟩; have n0_ := Aside0.mk (below_step (by repeat (first | (with_reducible first | exact HB.out | apply below_alloc | apply pw_below_drewN | apply below_drew1) | exact HB.out)) hb); clear HB; have HB := n0_; clear n0_; (try clear hb); (try clear hb2); (try clear hk); (try clear hi)) | ((with_reducible refine gate_callee (f := 5) rfl ?_); refine goesL_ (some 21) rfl rfl Tryd.func5 (by kernel_rfl) rfl #[.string a0, .int .i64 a1] rfl (by (try simp only [List.map_toArray, List.map_cons, List.map_nil]); first | done | rfl | (simp only [List.length_drop, List.length_take]; rfl)) ?_; (with_reducible refine (impl_CountSplits.calls k a0 a1 t219 t220 _ A5.out).mono ?_); rintro e w11 ⟨rfl, hb⟩; refine ⟨_, rfl, ?_⟩; have n0_ := Aside0.mk (below_step (by repeat (first | (with_reducible first | exact HB.out | apply below_alloc | apply pw_below_drewN | apply below_drew1) | exact HB.out)) hb); clear HB; have HB := n0_; clear n0_; (try clear hb); (try clear hb2); (try clear hk); (try clear hi)))
        go_ret
        exact ⟨by first | rfl | (simp [errW_none, errW_some] <;> rfl) | (simp [*, errW_none, errW_some] <;> rfl), by repeat (first | (with_reducible first | exact HB.out | apply below_alloc | apply pw_below_drewN | apply below_drew1) | exact HB.out)⟩
    · rw [if_neg c6] at H
      have c6b0 : (t219 == t217) = false := beq_eq_false_iff_ne.mpr c6
      have c6b1 : (t219 != t217) = true := bne_iff_ne.mpr c6
      obtain rfl := Option.some.inj H
      go_enter Tryd.func3, Tryd.ntmps3
      go_wp2_with (first | ((with_reducible refine gate_callee (f := 4) rfl ?_); refine goesL_ (some 15) rfl rfl Tryd.func4 (by kernel_rfl) rfl #[.string a0, .int .i64 a1] rfl (by (try simp only [List.map_toArray, List.map_cons, List.map_nil]); first | done | rfl | (simp only [List.length_drop, List.length_take]; rfl)) ?_; (with_reducible refine (spec_CountSplits.calls k a0 a1 t217 t218 _ A4.out).mono ?_); rintro e w12 ⟨rfl, hb⟩; refine ⟨_, rfl, ?_⟩; have n0_ := Aside0.mk (below_step (by repeat (first | (with_reducible first | exact HB.out | apply below_alloc | apply pw_below_drewN | apply below_drew1) | exact HB.out)) hb); clear HB; have HB := n0_; clear n0_; (try clear hb); (try clear hb2); (try clear hk); (try clear hi)) | ((with_reducible refine gate_callee (f := 5) rfl ?_); refine goesL_ (some 21) rfl rfl Tryd.func5 (by kernel_rfl) rfl #[.string a0, .int .i64 a1] rfl (by (try simp only [List.map_toArray, List.map_cons, List.map_nil]); first | done | rfl | (simp only [List.length_drop, List.length_take]; rfl)) ?_; (with_reducible refine (impl_CountSplits.calls k a0 a1 t219 t220 _ A5.out).mono ?_); rintro e w13 ⟨rfl, hb⟩; refine ⟨_, rfl, ?_⟩; have n0_ := Aside0.mk (below_step (by repeat (first | (with_reducible first | exact HB.out | apply below_alloc | apply pw_below_drewN | apply below_drew1) | exact HB.out)) hb); clear HB; have HB := n0_; clear n0_; (try clear hb); (try clear hb2); (try clear hk); (try clear hi)))
      go_ret
      exact ⟨by first | rfl | (simp [errW_none, errW_some] <;> rfl) | (simp [*, errW_none, errW_some] <;> rfl), by repeat (first | (with_reducible first | exact HB.out | apply below_alloc | apply pw_below_drewN | apply below_drew1) | exact HB.out)⟩

/-- THE ONE PURE STATEMENT of laws_FnExactCountSplits: yours. -/
def laws_FnExactCountSplits.Pure : Prop := ∀ (a0 : ByteArray) (a1 : Int), a0.size ≤ 140737488351232 → (Lit.int .i64 a1).wf = true → ∃ k, laws_FnExactCountSplits.f k a0 a1 = some true
theorem laws_FnExactCountSplits.walk (P : laws_FnExactCountSplits.Pure) (a0 : ByteArray) (a1 : Int) (w : World) (w0 : a0.size ≤ 140737488351232) (w1 : (Lit.int .i64 a1).wf = true) :
    Calls Tryd.prog 3 #[.string a0, .int .i64 a1] w fun e w' => e = .returned (.bool true) ∧ Below w.heap.size w w' := by
  obtain ⟨k, h⟩ := P a0 a1 w0 w1
  refine (laws_FnExactCountSplits.calls k a0 a1 true w h).mono ?_
  rintro e w' ⟨rfl, hd⟩
  exact ⟨rfl, hd⟩

end Go.Proofs.YtamecophbbgefaaDoor.PFnExactCountSplits
