-- Written by a program of this session (wip/tools/pp.sh) out of the translation; Lean checks it.
import Derived.Test.YtmbkkhpjcblijaaDoorPFnExactFewestForThreex0
import Derived.Test.YtmbkkhpjcblijaaDoorPFnExactFewestForThreex1
namespace Go.Proofs.YtmbkkhpjcblijaaDoor.PFnExactFewestForThree
open Go.RowKit Go.Proofs.YtmbkkhpjcblijaaDoorOwn Go.Proofs.YtmbkkhpjcblijaaDoorW.PrintWords Go.Proofs.YtmbkkhpjcblijaaDoorW.PrintLast Go.Proofs.YtmbkkhpjcblijaaDoorW.PrintMore
attribute [local go_sem] max2_int min2_int max_two min_two max_three min_three max_four min_four   -- for this text's walks alone
set_option linter.unusedVariables false
set_option linter.unusedSimpArgs false

/-! ### impl_FewestForThree: function 7 (given) -/
def impl_FewestForThree.g (k : Nat) (a0 : ByteArray) (cs : List Int) : Option (Int × Bool) := (slices_ContainsFunc_int_int__impl_FewestForThree_1.f k cs).bind fun b => if b = true then some (0, false) else if goodThree a0 cs = true then some (nl a0.size (ksOf a0) 0 (thirds cs), true) else none
def impl_FewestForThree.f (k : Nat) (a0 : ByteArray) : Option (Int × Bool) := (impl_IsNecklace.f a0).bind fun t => if t = true then (if (a0.size : Int) > 9 then some (0, false) else (impl_counts.f k a0).bind fun cs => impl_FewestForThree.g k a0 cs) else some (0, false)
theorem impl_FewestForThree.mono : ∀ a0 k, LeO (impl_FewestForThree.f k a0) (impl_FewestForThree.f (k + 1) a0) := by
  intro a0 k
  unfold impl_FewestForThree.f impl_FewestForThree.g
  exact LeO.bind (LeO.refl _) (fun _ => LeO.ite (LeO.ite (LeO.refl _) (LeO.bind (impl_counts.mono _ _) (fun _ => LeO.bind (slices_ContainsFunc_int_int__impl_FewestForThree_1.mono _ _) (fun _ => LeO.refl _)))) (LeO.refl _))
set_option maxHeartbeats 4000000 in
set_option maxRecDepth 100000 in
theorem impl_FewestForThree.calls (k : Nat) (a0 : ByteArray) (r1 : Int) (r2 : Bool) (w : World) (h : impl_FewestForThree.f k a0 = some (r1, r2)) :
    Calls Tryd.prog 7 #[.string a0] w fun e w' => e = .returned (.tuple #[.int .i64 r1, .bool r2]) ∧ Below w.heap.size w w' := by
  unfold impl_FewestForThree.f at h
  obtain ⟨t, ht, H⟩ := Option.bind_eq_some_iff.mp h
  clear h
  have HT := Aside0.mk ht
  clear ht
  cases t with
  | false =>
    rw [if_neg (by decide)] at H
    obtain ⟨rfl, rfl⟩ := Prod.mk.injEq .. ▸ Option.some.inj H
    clear H
    go_enter Tryd.func7, Tryd.ntmps7
    go_wp2_with (first
      | (go_at_call 18; refine (impl_IsNecklace.calls a0 false _ HT.out).mono ?_; rintro e w1 ⟨rfl, hb⟩; have HB1 := Aside0.mk hb; clear hb))
    go_ret2
    exact ⟨rfl, HB1.out⟩
  | true =>
    rw [if_pos rfl] at H
    by_cases h9 : (a0.size : Int) > 9
    · rw [if_pos h9] at H
      obtain ⟨rfl, rfl⟩ := Prod.mk.injEq .. ▸ Option.some.inj H
      clear H
      go_enter Tryd.func7, Tryd.ntmps7
      go_wp2_with (first
        | (go_at_call 18; refine (impl_IsNecklace.calls a0 true _ HT.out).mono ?_; rintro e w1 ⟨rfl, hb⟩; have HB1 := Aside0.mk hb; clear hb))
      go_ret2
      exact ⟨rfl, HB1.out⟩
    · rw [if_neg h9] at H
      obtain ⟨cs, hcs, H2⟩ := Option.bind_eq_some_iff.mp H
      clear H
      have HCS := Aside0.mk hcs
      clear hcs
      unfold impl_FewestForThree.g at H2
      obtain ⟨b, hb, H3⟩ := Option.bind_eq_some_iff.mp H2
      clear H2
      have HBB := Aside0.mk hb
      clear hb
      cases b with
      | true =>
        rw [if_pos rfl] at H3
        obtain ⟨rfl, rfl⟩ := Prod.mk.injEq .. ▸ Option.some.inj H3
        clear H3
        go_enter Tryd.func7, Tryd.ntmps7
        go_wp2_with (first
          | (go_at_call 18; refine (impl_IsNecklace.calls a0 true _ HT.out).mono ?_; rintro e w1 ⟨rfl, hb⟩; have HB1 := Aside0.mk hb; clear hb)
          | (go_at_call 20; refine (impl_counts.calls k a0 cs _ HCS.out).mono ?_; rintro e w2 ⟨v0, rfl, hR, hb⟩; have HB2 := Aside0.mk (HB1.out.trans (hb.mono HB1.out.size)); obtain ⟨A0, c0, rfl, hc0, hC⟩ := Kd.R_reads hR; have HC := Aside0.mk hC; have HC0 := Aside0.mk hc0; clear hb hR hC hc0)
          | (go_at_call 19; refine (slices_ContainsFunc_int_int__impl_FewestForThree_1.calls k A0 c0 cs true _ HC.out HC0.out HBB.out).mono ?_; rintro e w3 ⟨rfl, ⟨nd, rfl⟩⟩))
        go_ret2
        exact ⟨rfl, by first | exact HB2.out | exact pw_below_drewN HB2.out _⟩
      | false =>
        rw [if_neg (by decide)] at H3
        by_cases hg : goodThree a0 cs = true
        · rw [if_pos hg] at H3
          obtain ⟨rfl, rfl⟩ := Prod.mk.injEq .. ▸ Option.some.inj H3
          clear H3
          have HG := Aside0.mk hg
          have hlen : (cs.length : Int) = 4 := by rw [(good_parts hg).2.2.1]; rfl
          have HLEN := Aside0.mk (good_parts hg).2.2.1
          have hcf : ∀ A0 c0 W, Kd.C (Kd.int .i64) W A0 cs.length cs → cs.length ≤ c0 → Calls Tryd.prog 19 #[.slice A0 4 c0, .func (.func 21) #[] #[]] W fun e w' => e = .returned (.bool false) ∧ Drawn0 W w' := fun A0 c0 W h1 h2 => by
            have := slices_ContainsFunc_int_int__impl_FewestForThree_1.calls k A0 c0 cs false W h1 h2 HBB.out
            rw [HLEN.out] at this
            exact this
          have HCF := Aside0.mk hcf
          clear hg hlen hcf
          go_enter Tryd.func7, Tryd.ntmps7
          go_wp2_with (first
            | (go_at_call 18; refine (impl_IsNecklace.calls a0 true _ HT.out).mono ?_; rintro e w1 ⟨rfl, hb⟩; have HB1 := Aside0.mk hb; clear hb)
            | (go_at_call 20; refine (impl_counts.calls k a0 cs _ HCS.out).mono ?_; rintro e w2 ⟨v0, rfl, hR, hb⟩; have HB2 := Aside0.mk (HB1.out.trans (hb.mono HB1.out.size)); obtain ⟨A0, c0, rfl, hc0, hC⟩ := Kd.R_reads hR; have HC := Aside0.mk hC; have HC0 := Aside0.mk hc0; rw [HLEN.out]; clear hb hR hC hc0)
            | (go_at_call 19; refine (HCF.out A0 c0 _ HC.out HC0.out).mono ?_; rintro e w3 ⟨rfl, ⟨nd, rfl⟩⟩)
            | ((with_reducible refine gate_dst (N := 4) rfl ?_); refine box_event ?hg (N := 4) ?hd (cs := #[.slice none 0 0, .slice none 0 0, .slice none 0 0]) (t := 35) ?hr ?_; (case hd => rfl); (case hg => rfl); (case hr => first | (go_simp; done) | (go_simp; rfl)); intro gb hg w4 hbox hb; have HBX := Aside0.mk hb; have HX := Aside0.mk hbox; have HGB := Aside0.mk hg; clear hb hbox hg; have z0 := ((blk_cell HX.out 0).trans rfl : w4.cell? ⟨gb, 0, none⟩ = some (.slice none 0 0)); have z1 := ((blk_cell HX.out 1).trans rfl : w4.cell? ⟨gb, 1, none⟩ = some (.slice none 0 0)); have z2 := ((blk_cell HX.out 2).trans rfl : w4.cell? ⟨gb, 2, none⟩ = some (.slice none 0 0)); have f0 := frozen_no (i := 0) HX.out; have f1 := frozen_no (i := 1) HX.out; have f2 := frozen_no (i := 2) HX.out))
          have hstart : ∀ W : World, W = _ → Arr w W gb 0 (fun _ => 0) (fun _ => 0) (thirds cs) := fun W hW => hW ▸ Arr.start (below_setCell (below_setCell (below_setCell ((pw_below_drewN HB2.out nd).trans (HBX.out.mono HB2.out.size)) (by rw [HGB.out]; exact HB2.out.size)) (by rw [HGB.out]; exact HB2.out.size)) (by rw [HGB.out]; exact HB2.out.size)) (by rw [HGB.out]; exact HB2.out.size) (set_at (set_at (set_at HX.out 0 (.slice none 0 0)) 1 (.slice none 0 0)) 2 (.slice none 0 0))
          have HST := Aside0.mk hstart
          clear hstart z0 z1 z2 f0 f1 f2
          go_loopg [21] 3 (fun gg s21 wr => ∃ p : Nat, s21 = .int .i64 p ∧ p ≤ 3 ∧ 3 - p ≤ gg ∧ ∃ bk cp, Aside0 (Arr w wr gb p bk cp (thirds cs)))
          case atStart => exact ⟨0, rfl, by omega, by omega, _, _, Aside0.mk (by first | exact HST.out _ rfl | exact (HST.out _ rfl).drewN _)⟩
          case round =>
            obtain ⟨p, rfl, hp, hgg, bk, cp, hA⟩ := hrel
            by_cases hlt : p < 3
            · have hz : ((p : Int) < 3) = True := eq_true (by omega)
              have hz0 : (0 ≤ (p : Int)) = True := eq_true (by omega)
              have hnext := wrap_nat (i := p) (by omega)
              have HGG := Aside0.mk hgg
              have HP := Aside0.mk hlt
              have HN := Aside0.mk hnext
              clear hgg hp hlt
              go_wp2_with (first
                | (go_at_call 20; refine (impl_counts.calls k a0 cs _ HCS.out).mono ?_; rintro e w5 ⟨v1, rfl, hR, hb⟩; obtain ⟨b, cap, cur, rfl, hlo, hblk, _, _, _, hc⟩ := ownI hR (by rw [HLEN.out]; omega); have HLO := Aside0.mk hlo; have HB5 := Aside0.mk hb; have HK := Aside0.mk (hA.out.kept hb); have cB := HK.out.cell HP.out; have fB := frozen_no (i := p) HK.out.box; have hM := hA.out.enter (cap := cap) HP.out hb hlo hblk (fun j hj => hc j _ (good_at HG.out hj).1); rw [HLEN.out]; have HM := Aside0.mk hM; have cM := hM.boxcell HP.out; clear hb hR hc hlo hblk hM))
              go_loopg [32] 4 (fun g2 s32 wi => ∃ i : Nat, s32 = .int .i64 i ∧ i ≤ 4 ∧ 4 - i ≤ g2 ∧ Aside0 (Mid w wi gb p b i cap bk cp cs))
              case atStart => exact ⟨0, rfl, by omega, by omega, Aside0.mk (by first | exact HM.out | exact HM.out.drewN _)⟩
              case round =>
                obtain ⟨i, rfl, hi, hg2, hMi⟩ := hrel
                by_cases hil : i < 4
                · have hy : ((i : Int) < 4) = True := eq_true (by omega)
                  have hy0 : (0 ≤ (i : Int)) = True := eq_true (by omega)
                  have hnext2 := wrap_nat (i := i) (by omega)
                  have cM := hMi.out.boxcell HP.out
                  have cC := hMi.out.cell hil
                  have fC := hMi.out.thawed
                  have hS := hMi.out.step hil
                  have hr := good_at HG.out hil
                  have hq := wrap_tdiv hr.2.1 hr.2.2
                  have HS := Aside0.mk hS
                  have HG2 := Aside0.mk hg2
                  have HI := Aside0.mk hil
                  have HN2 := Aside0.mk hnext2
                  clear hS hr hg2 hi hil
                  go_wp2
                  go_roundg (4 - (i + 1))
                  case measure => exact meas4 HI.out HG2.out
                  case rel => exact ⟨i + 1, by first | rfl | rw [HN2.out], HI.out, Nat.le_refl _, Aside0.mk (by first | exact HS.out | exact HS.out.drewN _)⟩
                · have hi4 : i = 4 := by omega
                  subst hi4
                  have hD := Aside0.mk hMi.out.done
                  clear hi hg2 hil
                  go_wp2
                  go_roundg (3 - (p + 1))
                  case measure => exact meas3 HP.out HGG.out
                  case rel => exact ⟨p + 1, by first | rfl | rw [HN.out], HP.out, Nat.le_refl _, _, _, Aside0.mk (by first | exact hD.out | exact hD.out.drewN _)⟩
            · have hp3 : p = 3 := by omega
              subst hp3
              have hF := Aside0.mk hA.out.full
              have hA3 := Aside0.mk hA.out.some3.full
              have hsh := sharing_calls a0 (ksOf a0) good_len (by have := (good_parts HG.out).1; omega) (good_ks HG.out) bk cp a0.size 0 (by omega) 0 (-1) (thirds cs) wr (.inl ⟨rfl, rfl⟩) hA.out.some3.full (thirds_range HG.out)
              rw [List.drop_zero] at hsh
              unfold agg3 at hsh
              have HSH := Aside0.mk hsh
              have z0 := ((blk_cell hF.out 0).trans rfl : wr.cell? ⟨gb, 0, none⟩ = some (.slice (some ⟨bk 0, 0, none⟩) 4 (cp 0)))
              have z1 := ((blk_cell hF.out 1).trans rfl : wr.cell? ⟨gb, 1, none⟩ = some (.slice (some ⟨bk 1, 0, none⟩) 4 (cp 1)))
              have z2 := ((blk_cell hF.out 2).trans rfl : wr.cell? ⟨gb, 2, none⟩ = some (.slice (some ⟨bk 2, 0, none⟩) 4 (cp 2)))
              clear hp hgg hlt hsh
              go_wp2_with (first
                | (go_at_call 22; refine HSH.out.mono ?_; rintro e w6 ⟨rfl, hb6⟩; have HB6 := Aside0.mk hb6; clear hb6))
              go_ret2
              exact ⟨rfl, hA.out.below.trans (HB6.out.mono hA.out.below.size)⟩
        · rw [if_neg hg] at H3; cases H3

/-! ### laws_FnExactFewestForThree: function 3 -/
def laws_FnExactFewestForThree.f (k : Nat) (a0 : ByteArray) : Option (Bool) := if (a0.size : Int) > 1048576 then (some true) else ((spec_FewestForThree.f k a0).bind fun bt115 => ((impl_FewestForThree.f k a0).bind fun bt117 => (if bt117.1 = bt115.1 then (if (bt117.2 != bt115.2) = true then (some false) else (some true)) else (some false))))
theorem laws_FnExactFewestForThree.mono : ∀ a0 k, LeO (laws_FnExactFewestForThree.f k a0) (laws_FnExactFewestForThree.f (k + 1) a0) := by
  intro a0 k
  unfold laws_FnExactFewestForThree.f
  repeat' first
      | (with_reducible exact impl_FewestForThree.mono _ _)
      | (with_reducible exact spec_FewestForThree.mono _ _)
      | (with_reducible exact LeO.refl _)
      | (with_reducible exact LeO.none _)
      | (with_reducible refine LeO.ite ?_ ?_)
      | (with_reducible refine LeO.bind ?_ (fun _ => ?_))
      | exact impl_FewestForThree.mono _ _
      | exact spec_FewestForThree.mono _ _
      | exact LeO.none _
      | refine LeO.ite ?_ ?_
      | refine LeO.bind ?_ (fun _ => ?_)
set_option maxHeartbeats 8000000 in
set_option maxRecDepth 100000 in
theorem laws_FnExactFewestForThree.calls (k : Nat) (a0 : ByteArray) (r : Bool) (w : World) (h : laws_FnExactFewestForThree.f k a0 = some r) :
    Calls Tryd.prog 3 #[.string a0] w fun e w' => e = .returned (.bool r) ∧ Below w.heap.size w w' := by
  have HB := Aside0.mk (Below.refl w.heap.size w)
  have H : (if (a0.size : Int) > 1048576 then (some true) else ((spec_FewestForThree.f k a0).bind fun bt115 => ((impl_FewestForThree.f k a0).bind fun bt117 => (if bt117.1 = bt115.1 then (if (bt117.2 != bt115.2) = true then (some false) else (some true)) else (some false))))) = some r := h
  clear h
  by_cases c2 : (a0.size : Int) > 1048576
  · rw [if_pos c2] at H
    have c2b0 : decide (1048576 < (a0.size : Int)) = true := decide_eq_true c2
    have c2b1 : decide (1048576 < a0.size) = true := decide_eq_true (by omega)
    clear c2
    obtain rfl := Option.some.inj H
    go_enter Tryd.func3, Tryd.ntmps3
    go_wp2
    go_ret
    exact ⟨by first | rfl | (simp [errW_none, errW_some] <;> rfl) | (simp [*, errW_none, errW_some] <;> rfl), by repeat (first | (with_reducible first | exact HB.out | apply below_alloc | apply pw_below_drewN | apply below_drew1) | exact HB.out)⟩
  · rw [if_neg c2] at H
    have c2b0 : decide (1048576 < (a0.size : Int)) = false := decide_eq_false c2
    have c2b1 : decide (1048576 < a0.size) = false := decide_eq_false (by omega)
    clear c2
    replace H := Option.bind_eq_some_iff.mp H
    obtain ⟨⟨t115, t116⟩, A30, H⟩ := H
    replace H : ((impl_FewestForThree.f k a0).bind fun bt117 => (if bt117.1 = t115 then (if (bt117.2 != t116) = true then (some false) else (some true)) else (some false))) = some r := H
    have A3 := Aside0.mk A30
    clear A30
    replace H := Option.bind_eq_some_iff.mp H
    obtain ⟨⟨t117, t118⟩, A40, H⟩ := H
    replace H : (if t117 = t115 then (if (t118 != t116) = true then (some false) else (some true)) else (some false)) = some r := H
    have A4 := Aside0.mk A40
    clear A40
    by_cases c5 : t117 = t115
    · rw [if_pos c5] at H
      have c5b0 : (t117 == t115) = true := beq_iff_eq.mpr c5
      have c5b1 : (t117 != t115) = false := bne_eq_false_iff_eq.mpr c5
      clear c5
      by_cases c6 : (t118 != t116) = true
      · rw [if_pos c6] at H
        have c6b0 : (t118 != t116) = true := c6
        (try (have c6b1 : decide (t118 = t116) = false := by simpa using c6))
        (try (have c6b2 : (t118 == t116) = false := by simpa using c6))
        (try (have c6b3 : ¬ (t118 = t116) := by simpa using c6))
        clear c6
        obtain rfl := Option.some.inj H
        go_enter Tryd.func3, Tryd.ntmps3
        go_wp2_with (first | ((with_reducible refine gate_callee (f := 6) rfl ?_); refine goesL_ (some 12) rfl rfl Tryd.func6 (by kernel_rfl) rfl #[.string a0] rfl (by (try simp only [List.map_toArray, List.map_cons, List.map_nil]); first | done | rfl | (simp only [List.length_drop, List.length_take]; rfl)) ?_; (with_reducible refine (spec_FewestForThree.calls k a0 t115 t116 _ A3.out).mono ?_); rintro e w7 ⟨rfl, hb⟩; refine ⟨_, rfl, ?_⟩; have n0_ := Aside0.mk (below_step (by repeat (first | (with_reducible first | exact HB.out | apply below_alloc | apply pw_below_drewN | apply below_drew1) | exact HB.out)) hb); clear HB; have HB := n0_; clear n0_; (try clear hb); (try clear hb2); (try clear hk); (try clear hi)) | ((with_reducible refine gate_callee (f := 7) rfl ?_); refine goesL_ (some 17) rfl rfl Tryd.func7 (by kernel_rfl) rfl #[.string a0] rfl (by (try simp only [List.map_toArray, List.map_cons, List.map_nil]); first | done | rfl | (simp only [List.length_drop, List.length_take]; rfl)) ?_; (with_reducible refine (impl_FewestForThree.calls k a0 t117 t118 _ A4.out).mono ?_); rintro e w8 ⟨rfl, hb⟩; refine ⟨_, rfl, ?_⟩; have n0_ := Aside0.mk (below_step (by repeat (first | (with_reducible first | exact HB.out | apply below_alloc | apply pw_below_drewN | apply below_drew1) | exact HB.out)) hb); clear HB; have HB := n0_; clear n0_; (try clear hb); (try clear hb2); (try clear hk); (try clear hi)))
        go_ret
        exact ⟨by first | rfl | (simp [errW_none, errW_some] <;> rfl) | (simp [*, errW_none, errW_some] <;> rfl), by repeat (first | (with_reducible first | exact HB.out | apply below_alloc | apply pw_below_drewN | apply below_drew1) | exact HB.out)⟩
      · rw [if_neg c6] at H
        have c6b0 : (t118 != t116) = false := by simpa using c6
        (try (have c6b1 : decide (t118 = t116) = true := by simpa using c6))
        (try (have c6b2 : (t118 == t116) = true := by simpa using c6))
        clear c6
        obtain rfl := Option.some.inj H
        go_enter Tryd.func3, Tryd.ntmps3
        go_wp2_with (first | ((with_reducible refine gate_callee (f := 6) rfl ?_); refine goesL_ (some 12) rfl rfl Tryd.func6 (by kernel_rfl) rfl #[.string a0] rfl (by (try simp only [List.map_toArray, List.map_cons, List.map_nil]); first | done | rfl | (simp only [List.length_drop, List.length_take]; rfl)) ?_; (with_reducible refine (spec_FewestForThree.calls k a0 t115 t116 _ A3.out).mono ?_); rintro e w9 ⟨rfl, hb⟩; refine ⟨_, rfl, ?_⟩; have n0_ := Aside0.mk (below_step (by repeat (first | (with_reducible first | exact HB.out | apply below_alloc | apply pw_below_drewN | apply below_drew1) | exact HB.out)) hb); clear HB; have HB := n0_; clear n0_; (try clear hb); (try clear hb2); (try clear hk); (try clear hi)) | ((with_reducible refine gate_callee (f := 7) rfl ?_); refine goesL_ (some 17) rfl rfl Tryd.func7 (by kernel_rfl) rfl #[.string a0] rfl (by (try simp only [List.map_toArray, List.map_cons, List.map_nil]); first | done | rfl | (simp only [List.length_drop, List.length_take]; rfl)) ?_; (with_reducible refine (impl_FewestForThree.calls k a0 t117 t118 _ A4.out).mono ?_); rintro e w10 ⟨rfl, hb⟩; refine ⟨_, rfl, ?_⟩; have n0_ := Aside0.mk (below_step (by repeat (first | (with_reducible first | exact HB.out | apply below_alloc | apply pw_below_drewN | apply below_drew1) | exact HB.out)) hb); clear HB; have HB := n0_; clear n0_; (try clear hb); (try clear hb2); (try clear hk); (try clear hi)))
        go_ret
        exact ⟨by first | rfl | (simp [errW_none, errW_some] <;> rfl) | (simp [*, errW_none, errW_some] <;> rfl), by repeat (first | (with_reducible first | exact HB.out | apply below_alloc | apply pw_below_drewN | apply below_drew1) | exact HB.out)⟩
    · rw [if_neg c5] at H
      have c5b0 : (t117 == t115) = false := beq_eq_false_iff_ne.mpr c5
      have c5b1 : (t117 != t115) = true := bne_iff_ne.mpr c5
      obtain rfl := Option.some.inj H
      go_enter Tryd.func3, Tryd.ntmps3
      go_wp2_with (first | ((with_reducible refine gate_callee (f := 6) rfl ?_); refine goesL_ (some 12) rfl rfl Tryd.func6 (by kernel_rfl) rfl #[.string a0] rfl (by (try simp only [List.map_toArray, List.map_cons, List.map_nil]); first | done | rfl | (simp only [List.length_drop, List.length_take]; rfl)) ?_; (with_reducible refine (spec_FewestForThree.calls k a0 t115 t116 _ A3.out).mono ?_); rintro e w11 ⟨rfl, hb⟩; refine ⟨_, rfl, ?_⟩; have n0_ := Aside0.mk (below_step (by repeat (first | (with_reducible first | exact HB.out | apply below_alloc | apply pw_below_drewN | apply below_drew1) | exact HB.out)) hb); clear HB; have HB := n0_; clear n0_; (try clear hb); (try clear hb2); (try clear hk); (try clear hi)) | ((with_reducible refine gate_callee (f := 7) rfl ?_); refine goesL_ (some 17) rfl rfl Tryd.func7 (by kernel_rfl) rfl #[.string a0] rfl (by (try simp only [List.map_toArray, List.map_cons, List.map_nil]); first | done | rfl | (simp only [List.length_drop, List.length_take]; rfl)) ?_; (with_reducible refine (impl_FewestForThree.calls k a0 t117 t118 _ A4.out).mono ?_); rintro e w12 ⟨rfl, hb⟩; refine ⟨_, rfl, ?_⟩; have n0_ := Aside0.mk (below_step (by repeat (first | (with_reducible first | exact HB.out | apply below_alloc | apply pw_below_drewN | apply below_drew1) | exact HB.out)) hb); clear HB; have HB := n0_; clear n0_; (try clear hb); (try clear hb2); (try clear hk); (try clear hi)))
      go_ret
      exact ⟨by first | rfl | (simp [errW_none, errW_some] <;> rfl) | (simp [*, errW_none, errW_some] <;> rfl), by repeat (first | (with_reducible first | exact HB.out | apply below_alloc | apply pw_below_drewN | apply below_drew1) | exact HB.out)⟩

/-- THE ONE PURE STATEMENT of laws_FnExactFewestForThree: yours. -/
def laws_FnExactFewestForThree.Pure : Prop := ∀ (a0 : ByteArray), a0.size ≤ 140737488351232 → ∃ k, laws_FnExactFewestForThree.f k a0 = some true
theorem laws_FnExactFewestForThree.walk (P : laws_FnExactFewestForThree.Pure) (a0 : ByteArray) (w : World) (w0 : a0.size ≤ 140737488351232) :
    Calls Tryd.prog 3 #[.string a0] w fun e w' => e = .returned (.bool true) ∧ Below w.heap.size w w' := by
  obtain ⟨k, h⟩ := P a0 w0
  refine (laws_FnExactFewestForThree.calls k a0 true w h).mono ?_
  rintro e w' ⟨rfl, hd⟩
  exact ⟨rfl, hd⟩

end Go.Proofs.YtmbkkhpjcblijaaDoor.PFnExactFewestForThree
