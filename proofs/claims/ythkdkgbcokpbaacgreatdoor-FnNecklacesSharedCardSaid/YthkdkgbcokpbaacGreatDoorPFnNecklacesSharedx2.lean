-- Written by a program of this session (wip/tools/pp.sh) out of the translation; Lean checks it.
import Derived.Test.YthkdkgbcokpbaacGreatDoorPFnNecklacesSharedx0
import Derived.Test.YthkdkgbcokpbaacGreatDoorPFnNecklacesSharedx1
namespace Go.Proofs.YthkdkgbcokpbaacGreatDoor.PFnNecklacesShared
open Go.RowKit Go.Proofs.YthkdkgbcokpbaacGreatDoorOwn Go.Proofs.YthkdkgbcokpbaacGreatDoorW.PrintWords Go.Proofs.YthkdkgbcokpbaacGreatDoorW.PrintLast Go.Proofs.YthkdkgbcokpbaacGreatDoorW.PrintMore
attribute [local go_sem] max2_int min2_int max_two min_two max_three min_three max_four min_four   -- for this text's walks alone
set_option linter.unusedVariables false
set_option maxHeartbeats 8000000
set_option maxRecDepth 100000
set_option linter.unusedSimpArgs false

/-! ### impl_IsNecklace: function 15 -/
def impl_IsNecklace.f (a0 : ByteArray) : Option (Bool) := if (a0.size : Int) ≤ 16 then ((strings_Trim.f a0 (⟨#[97, 98, 99, 100]⟩ : ByteArray)).bind fun t156 => (some (t156.toList == ([] : List UInt8)))) else (some false)
theorem impl_IsNecklace.calls (a0 : ByteArray) (r : Bool) (w : World) (h : impl_IsNecklace.f a0 = some r) :
  Calls Tryz.prog 15 #[.string a0] w fun e w' => e = .returned (.bool r) ∧ Below w.heap.size w w' := by
 have HB := Aside0.mk (Below.refl w.heap.size w)
 have H : (if (a0.size : Int) ≤ 16 then ((strings_Trim.f a0 (⟨#[97, 98, 99, 100]⟩ : ByteArray)).bind fun t156 => (some (t156.toList == ([] : List UInt8)))) else (some false)) = some r := h
 clear h
 by_cases c2 : (a0.size : Int) ≤ 16
 ·rw [if_pos c2] at H
  have c2b0 : decide ((a0.size : Int) ≤ 16) = true := decide_eq_true c2
  have c2b1 : decide (a0.size ≤ 16) = true := decide_eq_true (by omega)
  clear c2
  replace H := EA H
  obtain ⟨t156, A3, H⟩ := H
  obtain rfl := Option.some.inj H
  go_enter Tryz.func15, Tryz.ntmps15
  go_wp2_with (first | (go_at_call 40; (with_reducible refine (strings_Trim.calls a0 (⟨#[97, 98, 99, 100]⟩ : ByteArray) t156 _ A3.out).mono ?_); rintro e w4 ⟨rfl, hb⟩; have n0_ := Aside0.mk (below_step BB hb); clear HB; have HB := n0_; clear n0_; (try clear hb); (try clear hb2); (try clear hk); (try clear hi)))
  go_ret
  exact ⟨RE, BB⟩
 ·rw [if_neg c2] at H
  have c2b0 : decide ((a0.size : Int) ≤ 16) = false := decide_eq_false c2
  have c2b1 : decide (a0.size ≤ 16) = false := decide_eq_false (by omega)
  clear c2
  obtain rfl := Option.some.inj H
  go_enter Tryz.func15, Tryz.ntmps15
  go_wp2
  go_ret
  exact ⟨RE, BB⟩

/-! ### impl_choices: function 73 (given) -/
theorem impl_choices.i1 : (Tryz.prog.info? 3).map (fun i => (i.zero, i.size, i.bytes)) = some (some (.int .i64 0), 1, 8) := by kernel_rfl
theorem impl_choices.i2 : (Tryz.prog.info? 25).map (fun i => (i.zero, i.size, i.bytes)) = some (some (.slice none 0 0), 1, 24) := by kernel_rfl
theorem one_made {W : World} {base : Nat} {v : Value} {xs : List Int} (h : Kd.R (Kd.int .i64) 3 W base (fun _ => True) v xs) : ∀ (j : Nat) (x : List Int), [xs][j]? = some x → (Kd.slice 3 (Kd.int .i64)).M W base (fun _ => j = 0) x (([v].drop (j * (Kd.slice 3 (Kd.int .i64)).sz)).take (Kd.slice 3 (Kd.int .i64)).sz)
 | 0, x, e => by
  have e2 : xs = x := by simpa using e
  subst e2
  exact ⟨v, rfl, Kd.R_mono h (fun _ _ => rfl)⟩
 | j + 1, x, e => by simp at e
mutual
def impl_choices.l0 : Nat → Int → Int → List (List Int) → Int → Option ((List (List Int)))
 | 0, _, _, _, _ => none
 | k + 1, x0, x1, x7, x8 => if x8 < x0 then ((impl_choices.f k x0 (wrap64 (x1 - 1)) (wrap64 (x8 + 1))).bind fun t175 => (impl_choices.l1 k x0 x1 x7 x8 t175 (t175.length : Int) 0)) else (some x7)
def impl_choices.l1 : Nat → Int → Int → List (List Int) → Int → List (List Int) → Int → Int → Option ((List (List Int)))
 | 0, _, _, _, _, _, _, _ => none
 | k + 1, x0, x1, x7, x8, x27, x28, x29 => if x29 < x28 then (if 0 ≤ x29 then (if x29 < (x27.length : Int) then ((some (([x8] : List Int) : List Int)).bind fun y179 => (if y179.length + (rd_L3 x27 x29).length < 17592186044416 then (if x7.length < 5864062014805 then (impl_choices.l1 k x0 x1 (x7 ++ [(y179 ++ (rd_L3 x27 x29))]) x8 x27 x28 (wrap64 (x29 + 1))) else (none)) else (none))) else (none)) else (none)) else (impl_choices.l0 k x0 x1 x7 (wrap64 (x8 + 1)))
def impl_choices.f : Nat → Int → Int → Int → Option ((List (List Int)))
 | 0, _, _, _ => none
 | k + 1, a0, a1, a2 => if a1 = 0 then (some (([(([] : List Int))] : List (List Int)))) else (impl_choices.l0 k a0 a1 (([] : List (List Int))) a2)
end
theorem impl_choices.mono_l : ∀ k, (∀ y0 y1 y2, LeO (impl_choices.f k y0 y1 y2) (impl_choices.f (k + 1) y0 y1 y2)) ∧ (∀ y0 y1 y2 y3, LeO (impl_choices.l0 k y0 y1 y2 y3) (impl_choices.l0 (k + 1) y0 y1 y2 y3)) ∧ (∀ y0 y1 y2 y3 y4 y5 y6, LeO (impl_choices.l1 k y0 y1 y2 y3 y4 y5 y6) (impl_choices.l1 (k + 1) y0 y1 y2 y3 y4 y5 y6))
 | 0 => ⟨fun _ _ _ r h => by simp [impl_choices.f] at h, fun _ _ _ _ r h => by simp [impl_choices.l0] at h, fun _ _ _ _ _ _ _ r h => by simp [impl_choices.l1] at h⟩
 | k + 1 => by
  obtain ⟨ih0, ih1, ih2⟩ := impl_choices.mono_l k
  refine ⟨?_, ?_, ?_⟩
  ·intro y0 y1 y2
   unfold impl_choices.f
   repeat' first
   | with_reducible first | exact ih0 _ _ _ | exact ih1 _ _ _ _ | exact ih2 _ _ _ _ _ _ _ | exact LeO.refl _ | exact LeO.none _ | refine LeO.ite ?_ ?_ | refine LeO.bind ?_ (fun _ => ?_)
   | exact LeO.none _ | refine LeO.ite ?_ ?_ | refine LeO.bind ?_ (fun _ => ?_)
  ·intro y0 y1 y2 y3
   unfold impl_choices.l0
   repeat' first
   | with_reducible first | exact ih0 _ _ _ | exact ih1 _ _ _ _ | exact ih2 _ _ _ _ _ _ _ | exact LeO.refl _ | exact LeO.none _ | refine LeO.ite ?_ ?_ | refine LeO.bind ?_ (fun _ => ?_)
   | exact LeO.none _ | refine LeO.ite ?_ ?_ | refine LeO.bind ?_ (fun _ => ?_)
  ·intro y0 y1 y2 y3 y4 y5 y6
   unfold impl_choices.l1
   repeat' first
   | with_reducible first | exact ih0 _ _ _ | exact ih1 _ _ _ _ | exact ih2 _ _ _ _ _ _ _ | exact LeO.refl _ | exact LeO.none _ | refine LeO.ite ?_ ?_ | refine LeO.bind ?_ (fun _ => ?_)
   | exact LeO.none _ | refine LeO.ite ?_ ?_ | refine LeO.bind ?_ (fun _ => ?_)
theorem impl_choices.mono : ∀ a0 a1 a2 k, LeO (impl_choices.f k a0 a1 a2) (impl_choices.f (k + 1) a0 a1 a2) := by
 intro a0 a1 a2 k
 obtain ⟨ih0, ih1, ih2⟩ := impl_choices.mono_l k
 exact ih0 a0 a1 a2
theorem impl_choices.calls (k : Nat) : ∀ (a0 : Int) (a1 : Int) (a2 : Int) (r : List (List Int)) (w : World) (h : impl_choices.f k a0 a1 a2 = some r),
  Calls Tryz.prog 73 #[.int .i64 a0, .int .i64 a1, .int .i64 a2] w fun e w' => ∃ v0_ : Value, e = .returned (v0_) ∧ Kd.S (Kd.slice 3 (Kd.int .i64)) 25 w' w.heap.size (fun _ => True) v0_ r ∧ Below w.heap.size w w' := by
 induction k using Nat.strongRecOn with
 | _ k ih =>
 intro a0 a1 a2 r w h
 cases k with
 | zero => exact absurd h (by simp [impl_choices.f])
 | succ k =>
 simp only [impl_choices.f] at h
 have HB := Aside0.mk (Below.refl w.heap.size w)
 have H : (if a1 = 0 then (some (([(([] : List Int))] : List (List Int)))) else (impl_choices.l0 k a0 a1 (([] : List (List Int))) a2)) = some r := h
 clear h
 by_cases c4 : a1 = 0
 ·rw [if_pos c4] at H
  have c4b0 : (a1 == 0) = true := beq_iff_eq.mpr c4
  have c4b1 : (a1 != 0) = false := bne_eq_false_iff_eq.mpr c4
  clear c4
  obtain ⟨y166, hy166⟩ : ∃ y_ : List Int, y_ = (([] : List Int)) := ⟨_, rfl⟩
  replace H : (some (([y166] : List (List Int)))) = some r := HY H hy166
  have Ny166 := Aside0.mk hy166
  clear hy166
  obtain ⟨y169, hy169⟩ : ∃ y_ : List (List Int), y_ = (([y166] : List (List Int))) := ⟨_, rfl⟩
  replace H : (some y169) = some r := HY H hy169
  have Ny169 := Aside0.mk hy169
  clear hy169
  obtain rfl := Option.some.inj H
  go_enter Tryz.func73, Tryz.ntmps73
  go_wp2_with (first | ((with_reducible refine gate_dst (N := 13) rfl ?_); refine Kd.R_lit (Kd.int .i64) _ 3 ?hg (N := 13) ?hd (xs := ([] : List Int)) (inner := []) (ok := fun _ => True) (okp := fun _ => True) ?hr ?hp (fun _ hk => hk) trivial (Below.refl _ _) (Nat.le_refl _) (by simp) ?_; (case hd => rfl); (case hg => rfl); (case hr => exact GS); (case hp => exact (Reps.none _ _)); intro v167 w5 ho6 hb hg_ hnew_; clear hg_ hnew_; (first | rw [← Ny166.out] at ho6 | (simp only [Int.reduceToNat] at ho6; rw [← Ny166.out] at ho6)); have n0_ := Aside0.mk (Kd.R_lower ho6 (below_size BB)); have n1_ := Aside0.mk (below_step BB hb); clear HB; have HO168 := n0_; have HB := n1_; clear n0_ n1_; clear hb ho6; obtain ⟨Ao7, co7, eo7⟩ := Kd.R_slice HO168.out; subst eo7) | ((with_reducible refine gate_dst (N := 14) rfl ?_); refine Kd.S_lits (w0 := w) (Kd.slice 3 (Kd.int .i64)) w.heap.size 25 ?hg (N := 14) ?hd (xs := ([y166] : List (List Int))) (inner := [.slice Ao7 y166.length co7]) (ok := fun _ => True) (fun j _ => j = 0) ?hr rfl ?hp (fun i j _ h1 h2 => h1.trans h2.symm) (fun _ _ _ => trivial) trivial HB.out (below_size HB.out) (by simp) ?_; (case hd => rfl); (case hg => rfl); (case hr => exact GS); (case hp => exact one_made HO168.out); intro v170 w8 ho9 hb hg_ hnew_; clear hg_ hnew_; rw [← Ny169.out] at ho9; have HO171 := Aside0.mk ho9; clear HB; have HB := Aside0.mk hb; clear hb ho9))
  go_ret
  exact ⟨_, RE, by (with_reducible repeat (first | apply Kd.S_alloc | apply Kd.S_drewN | apply Kd.S_drew)); exact Kd.S_mono HO171.out (fun _ hk => trivial), BB⟩
 ·rw [if_neg c4] at H
  have c4b0 : (a1 == 0) = false := beq_eq_false_iff_ne.mpr c4
  have c4b1 : (a1 != 0) = true := bne_iff_ne.mpr c4
  obtain ⟨y172, hy172⟩ : ∃ y_ : List (List Int), y_ = (([] : List (List Int))) := ⟨_, rfl⟩
  replace H : (impl_choices.l0 k a0 a1 y172 a2) = some r := HY H hy172
  have Ny172 := Aside0.mk hy172
  clear hy172
  have H' := Aside0.mk H
  clear H
  go_enter Tryz.func73, Tryz.ntmps73
  go_wp2_with (first | ((with_reducible refine gate_dst (N := 15) rfl ?_); refine Kd.S_lit (Kd.slice 3 (Kd.int .i64)) _ 25 ?hg (N := 15) ?hd (xs := ([] : List (List Int))) (inner := []) (ok := fun _ => True) (okp := fun _ => True) ?hr ?hp (fun _ hk => hk) trivial (Below.refl _ _) (Nat.le_refl _) (by simp) ?_; (case hd => rfl); (case hg => rfl); (case hr => exact GS); (case hp => exact (Reps.none _ _)); intro v173 w10 ho11 hb hg_ hnew_; clear hg_ hnew_; (first | rw [← Ny172.out] at ho11 | (simp only [Int.reduceToNat] at ho11; rw [← Ny172.out] at ho11)); have n0_ := Aside0.mk (Kd.S_lower ho11 (below_size BB)); have n1_ := Aside0.mk (below_step BB hb); clear HB; have HO174 := n0_; have HB := n1_; clear n0_ n1_; clear hb ho11))
  go_loopg [7, 8] k (fun kq v7 v8 w' => ∃ (x7_1 : List (List Int)) (x8_1 : Int), v8 = .int .i64 x8_1 ∧ Aside0 (impl_choices.l0 kq a0 a1 x7_1 x8_1 = some r) ∧ Aside0 (kq ≤ k) ∧ Aside0 (Kd.S (Kd.slice 3 (Kd.int .i64)) 25 w' w.heap.size (fun _ => True) v7 x7_1) ∧ Aside0 (Below w.heap.size w w'))
  case atStart => exact ⟨(y172), (a2), RF, H', ⟨Nat.le_refl _⟩, ⟨KS HO174⟩, ⟨BB⟩⟩
  case round =>
   clear H'
   try clear p2
   try clear c4
   try clear c4b0
   try clear c4b1
   try clear p6
   obtain ⟨x7_1, x8_1, rfl, HA, HK1, HO_7, HB⟩ := hrel
   cases gk with
   | zero => exact absurd HA.out (by simp [impl_choices.l0])
   | succ k1 =>
    have H := HA.out
    clear HA
    simp only [impl_choices.l0] at H
    by_cases c12 : x8_1 < a0
    ·rw [if_pos c12] at H
     have c12b0 : decide (x8_1 < a0) = true := decide_eq_true c12
     clear c12
     replace H := EA H
     obtain ⟨t175, A13, H⟩ := H
     have H' := Aside0.mk H
     clear H
     go_wp2_with (first | ((with_reducible refine gate_callee (f := 73) rfl ?_); refine goesL_ (some 27) rfl rfl Tryz.func73 (by kernel_rfl) rfl #[.int .i64 a0, .int .i64 (wrap64 (a1 - 1)), .int .i64 (wrap64 (x8_1 + 1))] rfl TA ?_; (with_reducible refine (ih k1 (by have := HK1.out; omega) a0 (wrap64 (a1 - 1)) (wrap64 (x8_1 + 1)) t175 _ A13.out).mono ?_); rintro e w14 ⟨v176, rfl, ho0, hb⟩; refine ⟨_, rfl, ?_⟩; have n0_ := Aside0.mk (Kd.S_elder' (KS HO_7) (Kd.S_base ho0) hb); have n1_ := Aside0.mk (Kd.S_lower (Kd.S_new' ho0 (Kd.S_lt (KS HO_7))) (below_size BB)); have n2_ := Aside0.mk (below_step BB hb); clear HO_7; clear HB; have HO_7 := n0_; have HO177 := n1_; have HB := n2_; clear n0_ n1_ n2_; (try clear hb); (try clear hb2); (try clear hk); (try clear hi); (try clear ho0); obtain ⟨Ao15, co15, eo15⟩ := Kd.S_slice HO177.out; subst eo15))
     go_loopg [7, 29] k1 (fun kq v7 v29 w' => ∃ (x7_2 : List (List Int)) (x29_2 : Int), v29 = .int .i64 x29_2 ∧ Aside0 (impl_choices.l1 kq a0 a1 x7_2 x8_1 t175 (t175.length : Int) x29_2 = some r) ∧ Aside0 (kq ≤ k1) ∧ Aside0 (Kd.S (Kd.slice 3 (Kd.int .i64)) 25 w' w.heap.size (fun k_ => some k_ ≠ ((.slice Ao15 t175.length co15) : Value).ownBlock) v7 x7_2) ∧ Aside0 (Kd.S (Kd.slice 3 (Kd.int .i64)) 25 w' w.heap.size (fun k_ => some k_ ≠ (v7 : Value).ownBlock) (.slice Ao15 t175.length co15) t175) ∧ Aside0 (Below w.heap.size w w'))
     case atStart => exact ⟨(x7_1), (0), RF, H', ⟨Nat.le_refl _⟩, ⟨by (with_reducible repeat (first | apply Kd.S_alloc | apply Kd.S_drewN | apply Kd.S_drew)); exact Kd.S_mono HO_7.out (fun _ hk => hk.2)⟩, ⟨by (with_reducible repeat (first | apply Kd.S_alloc | apply Kd.S_drewN | apply Kd.S_drew)); exact Kd.S_mono HO177.out (fun _ hk => hk.2)⟩, ⟨BB⟩⟩
     case round =>
      clear H'
      try clear c1
      try clear p2
      try clear c4
      try clear c4b0
      try clear c4b1
      try clear p6
      try clear c12
      try clear c12b0
      try clear p2
      try clear p6
      obtain ⟨x7_2, x29_2, rfl, HA, HK2, HO_7, HO_27, HB⟩ := hrel
      cases gk with
      | zero => exact absurd HA.out (by simp [impl_choices.l1])
      | succ k2 =>
       have H := HA.out
       clear HA
       simp only [impl_choices.l1] at H
       by_cases c16 : x29_2 < (t175.length : Int)
       ·rw [if_pos c16] at H
        have c16b0 : decide (x29_2 < (t175.length : Int)) = true := decide_eq_true c16
        clear c16
        by_cases c17 : 0 ≤ x29_2
        ·rw [if_pos c17] at H
         have c17b0 : decide (0 ≤ x29_2) = true := decide_eq_true c17
         clear c17
         by_cases c18 : x29_2 < (t175.length : Int)
         ·rw [if_pos c18] at H
          have c18b0 : decide (x29_2 < (t175.length : Int)) = true := decide_eq_true c18
          clear c18
          obtain ⟨y179, hy179⟩ : ∃ y_ : List Int, y_ = (([x8_1] : List Int)) := ⟨_, rfl⟩
          replace H : (if y179.length + (rd_L3 t175 x29_2).length < 17592186044416 then (if x7_2.length < 5864062014805 then (impl_choices.l1 k2 a0 a1 (x7_2 ++ [(y179 ++ (rd_L3 t175 x29_2))]) x8_1 t175 (t175.length : Int) (wrap64 (x29_2 + 1))) else (none)) else (none)) = some r := HY H hy179
          have Ny179 := Aside0.mk hy179
          clear hy179
          by_cases c19 : y179.length + (rd_L3 t175 x29_2).length < 17592186044416
          ·rw [if_pos c19] at H
           have LMc19 := Aside0.mk c19
           clear c19
           obtain ⟨y182, hy182⟩ : ∃ y_ : List Int, y_ = (y179 ++ (rd_L3 t175 x29_2)) := ⟨_, rfl⟩
           replace H : (if x7_2.length < 5864062014805 then (impl_choices.l1 k2 a0 a1 (x7_2 ++ [y182]) x8_1 t175 (t175.length : Int) (wrap64 (x29_2 + 1))) else (none)) = some r := HY H hy182
           have Ny182 := Aside0.mk hy182
           clear hy182
           by_cases c20 : x7_2.length < 5864062014805
           ·rw [if_pos c20] at H
            have LMc20 := Aside0.mk c20
            clear c20
            obtain ⟨y185, hy185⟩ : ∃ y_ : List (List Int), y_ = (x7_2 ++ [y182]) := ⟨_, rfl⟩
            replace H : (impl_choices.l1 k2 a0 a1 y185 x8_1 t175 (t175.length : Int) (wrap64 (x29_2 + 1))) = some r := HY H hy185
            have Ny185 := Aside0.mk hy185
            clear hy185
            have H' := Aside0.mk H
            clear H
            have p178 : 0 ≤ (x29_2 : Int) := of_decide_eq_true AS
            have q178 : x29_2 < (t175.length : Int) := of_decide_eq_true AS
            obtain ⟨ad178, A178_0, c178_0, e178, hx178_0, hl178_0, hi178_0⟩ := at_L3 (Kd.S_reads' HO_27.out).2.2 x29_2 p178 q178
            cases e178
            obtain ⟨ce178, hce178, hMe178, hcc178⟩ := Kd.S_get HO_27.out [] x29_2 p178 (by first | exact q178 | exact of_decide_eq_true AS | (have e_ := (Kd.S_reads' HO_27.out).1; omega))
            obtain ⟨ve178_0, rfl, ge178_0⟩ := hMe178
            have hv178_0 := hcc178 0 _ rfl
            rw [Nat.add_zero, show ((Kd.slice 3 (Kd.int .i64))).sz = 1 from rfl, Nat.mul_one] at hv178_0
            replace hv178_0 := Option.some.inj (hv178_0.symm.trans hx178_0)
            rw [hv178_0] at ge178_0
            have HL178_0 := Aside0.mk (show Kd.R (Kd.int .i64) 3 _ _ _ _ (rd_L3 t175 x29_2) from ge178_0)
            clear hv178_0 ge178_0
            clear hcc178 hce178
            have HR178_0 := Aside0.mk hi178_0
            have HC178_0 := Aside0.mk hl178_0
            clear hi178_0 hl178_0
            replace p178 := eq_true p178
            replace q178 := eq_true q178
            go_wp2_with (first | ((with_reducible refine gate_dst (N := 35) rfl ?_); refine Kd.R_lit (Kd.int .i64) _ 3 ?hg (N := 35) ?hd (xs := ([x8_1] : List Int)) (inner := [.int .i64 x8_1]) (ok := fun _ => True) (okp := fun _ => True) ?hr ?hp (fun _ hk => hk) trivial (Below.refl _ _) (Nat.le_refl _) (by simp) ?_; (case hd => rfl); (case hg => rfl); (case hr => exact GS); (case hp => exact (Reps.one (show Kd.M (Kd.int .i64) _ _ _ x8_1 [.int .i64 x8_1] from rfl) (Reps.none _ _))); intro v180 w21 ho22 hb hg_ hnew_; clear hg_ hnew_; (first | rw [← Ny179.out] at ho22 | (simp only [Int.reduceToNat] at ho22; rw [← Ny179.out] at ho22)); have n0_ := Aside0.mk (Kd.S_elder' (KS HO_7) (Kd.R_base ho22) hb); have n1_ := Aside0.mk (Kd.S_elder' (KS HO_27) (Kd.R_base ho22) hb); have n2_ := Aside0.mk (Kd.R_elder' (KR HL178_0) (Kd.R_base ho22) hb); have n3_ := Aside0.mk (Kd.R_lower (Kd.R_new' ho22 (Kd.R_lt (KR HL178_0))) (below_size BB)); have n4_ := Aside0.mk (Kd.C_below (by repeat (first | (with_reducible exact HR178_0.out) | (with_reducible refine Kd.C_drewN ?_ _) | (with_reducible refine Kd.C_drew ?_) | (with_reducible refine Kd.C_alloc ?_ _) | exact HR178_0.out)) hb); have n5_ := Aside0.mk (below_step BB hb); clear HO_7; clear HO_27; clear HL178_0; clear HR178_0; clear HB; have HO_7 := n0_; have HO_27 := n1_; have HL178_0 := n2_; have HO181 := n3_; have HR178_0 := n4_; have HB := n5_; clear n0_ n1_ n2_ n3_ n4_ n5_; clear hb ho22) | ((with_reducible refine gate_builtin (b := .append) (xs := #[.tmp 35, .tmp 36]) rfl ?_); at_builtin; refine Kd.R_append_rows (Kd.int .i64) (w0 := w) w.heap.size rfl (.tmp 35) (.tmp 36) 25 3 (.int .i64 0) 8 rfl Tryz.underlying25 impl_choices.i1 rfl (by decide) (by omega) v180 y179 (rd_L3 t175 x29_2) _ _ _ (fun k_ => some k_ ≠ (.slice A178_0 (rd_L3 t175 x29_2).length c178_0 : Value).ownBlock) (fun _ => False) rfl rfl ?aO ?aR (fun _ _ h => h) (fun _ h => h.elim) ?aF ?aB ?aS ?aL ?_; (case aR => exact CW (by repeat (first | (with_reducible exact HR178_0.out) | (with_reducible refine Kd.C_drewN ?_ _) | (with_reducible refine Kd.C_drew ?_) | (with_reducible refine Kd.C_alloc ?_ _) | exact HR178_0.out))); (case aB => exact BB); (case aF => exact (fun k_ hk => Kd.fresh' (Kd.R_lt (KR HL178_0)) k_ hk)); (case aO => exact (by (with_reducible repeat (first | apply Kd.R_alloc | apply Kd.R_drewN | apply Kd.R_drew)); exact Kd.R_mono HO181.out (fun _ hk => hk.2))); (case aS => exact (below_size BB)); (case aL => have := LMc19.out; omega); intro v183 w23 ho hb hg hat; rw [← Ny182.out] at ho; have n0_ := Aside0.mk (Kd.S_after (ok := (fun k_ => some k_ ≠ (.slice (some ad178) t175.length co15 : Value).ownBlock)) (KS HO_7) hg hat); have n1_ := Aside0.mk (Kd.S_after (ok := (fun k_ => some k_ ≠ (u7 : Value).ownBlock)) (KS HO_27) hg hat); have n2_ := Aside0.mk (Kd.R_after (ok := (fun k_ => some k_ ≠ (u7 : Value).ownBlock ∧ some k_ ≠ (.slice (some ad178) t175.length co15 : Value).ownBlock)) (KR HL178_0) hg hat); have n3_ := Aside0.mk (hb); have n4_ := Aside0.mk (ho); clear HO_7; clear HO_27; clear HL178_0; clear HB; clear HO181; have HO_7 := n0_; have HO_27 := n1_; have HL178_0 := n2_; have HB := n3_; have HO184 := n4_; clear n0_ n1_ n2_ n3_ n4_; clear ho hb hg hat; obtain ⟨Ao25, co25, eo25⟩ := Kd.R_slice HO184.out; subst eo25) | ((with_reducible refine gate_builtin (b := .append) (xs := #[.tmp 33, .tmp 38]) rfl ?_); at_builtin; refine Kd.S_append (Kd.slice 3 (Kd.int .i64)) (w0 := w) w.heap.size rfl (.tmp 33) (.tmp 38) 53 25 (.slice none 0 0) 24 rfl Tryz.underlying53 impl_choices.i2 rfl (by decide) (by omega) u7 x7_2 y182 [.slice Ao25 y182.length co25] (fun k_ => some k_ ≠ (.slice (some ad178) t175.length co15 : Value).ownBlock) (fun k_ => some k_ = (.slice Ao25 y182.length co25 : Value).ownBlock) rfl rfl ?aP (fun k_ hk_ => ((Kd.R_mono (ok' := fun k_ => ((fun k_ => some k_ ≠ (.slice (some ad178) t175.length co15 : Value).ownBlock)) k_ ∧ some k_ ≠ (u7 : Value).ownBlock) (Kd.R_apart' (Kd.R_apart' (HO184.out) (Kd.S_typed HO_27.out) (by decide)) (Kd.S_typed HO_7.out) (by decide)) (fun k_ hk => ⟨hk.1.2, hk.2⟩))).1 k_ hk_.symm) ?aF ?aO ?aB ?aS ?aL ?_; (case aP => exact Kd.M_row (Kd.R_mono (Kd.R_tight rfl (Kd.R_mono (ok' := fun k_ => ((fun k_ => some k_ ≠ (.slice (some ad178) t175.length co15 : Value).ownBlock)) k_ ∧ some k_ ≠ (u7 : Value).ownBlock) (Kd.R_apart' (Kd.R_apart' (HO184.out) (Kd.S_typed HO_27.out) (by decide)) (Kd.S_typed HO_7.out) (by decide)) (fun k_ hk => ⟨hk.1.2, hk.2⟩))) (fun _ h_ => h_))); (case aB => exact BB); (case aF => exact (fun k_ hk => Kd.fresh' (Kd.S_lt (KS HO_27)) k_ hk)); (case aO => exact (by (with_reducible repeat (first | apply Kd.S_alloc | apply Kd.S_drewN | apply Kd.S_drew)); exact Kd.S_mono HO_7.out (fun k_ hk => ⟨hk.1, fun e_ => hk.2 e_⟩))); (case aS => exact (below_size BB)); (case aL => have := LMc20.out; omega); intro v186 w24 ho hb hg hat; rw [← Ny185.out] at ho; have n0_ := Aside0.mk (Kd.S_after (ok := (fun k_ => some k_ ≠ (.slice Ao25 y182.length co25 : Value).ownBlock)) (by (with_reducible repeat (first | apply Kd.S_alloc | apply Kd.S_drewN | apply Kd.S_drew)); exact Kd.S_mono HO_27.out (fun _ hk => ⟨hk.2, hk.1⟩)) hg hat); have n1_ := Aside0.mk (Kd.R_after (ok := (fun k_ => some k_ ≠ (.slice (some ad178) t175.length co15 : Value).ownBlock ∧ some k_ ≠ (.slice Ao25 y182.length co25 : Value).ownBlock)) (by (with_reducible repeat (first | apply Kd.R_alloc | apply Kd.R_drewN | apply Kd.R_drew)); exact Kd.R_mono HL178_0.out (fun _ hk => ⟨⟨hk.1.2, hk.2⟩, hk.1.1⟩)) hg hat); have n2_ := Aside0.mk (hb); have n3_ := Aside0.mk (ho); clear HO_27; clear HL178_0; clear HB; clear HO_7; clear HO184; have HO_27 := n0_; have HL178_0 := n1_; have HB := n2_; have HO187 := n3_; clear n0_ n1_ n2_ n3_; clear ho hb hg hat))
            go_roundg k2
            case measure => have := HK1.out; have := HK2.out; omega
            case rel => exact ⟨(y185), (wrap64 (x29_2 + 1)), RF, H', ⟨by have := HK1.out; have := HK2.out; omega⟩, ⟨KS HO187⟩, ⟨by (with_reducible repeat (first | apply Kd.S_alloc | apply Kd.S_drewN | apply Kd.S_drew)); exact Kd.S_mono HO_27.out (fun _ hk => hk.2)⟩, ⟨BB⟩⟩
           ·rw [if_neg c20] at H
            cases H
          ·rw [if_neg c19] at H
           cases H
         ·rw [if_neg c18] at H
          cases H
        ·rw [if_neg c17] at H
         cases H
       ·rw [if_neg c16] at H
        have c16b0 : decide (x29_2 < (t175.length : Int)) = false := decide_eq_false c16
        try (have c16bl := c16b0; rw [hl178_0] at c16bl)
        clear c16
        have H' := Aside0.mk H
        clear H
        go_wp2
        go_roundg k2
        case measure => have := HK1.out; have := HK2.out; omega
        case rel => exact ⟨(x7_2), (wrap64 (x8_1 + 1)), RF, H', ⟨by have := HK1.out; have := HK2.out; omega⟩, ⟨by (with_reducible repeat (first | apply Kd.S_alloc | apply Kd.S_drewN | apply Kd.S_drew)); exact Kd.S_mono HO_7.out (fun _ hk => trivial)⟩, ⟨BB⟩⟩
    ·rw [if_neg c12] at H
     have c12b0 : decide (x8_1 < a0) = false := decide_eq_false c12
     clear c12
     obtain rfl := Option.some.inj H
     go_wp2
     go_ret
     exact ⟨_, RE, KS HO_7, BB⟩

/-! ### impl_counts: function 36 -/
def impl_counts.l0 : Nat → ByteArray → List Int → Int → Int → Option (List Int)
 | 0, _, _, _, _ => none
 | k + 1, x0, x3, x7, x8 => if x8 < x7 then (if 0 ≤ x8 then (if x8 < (x0.size : Int) then (if 0 ≤ (((bt x0 x8) - 97) % 256) then (if (((bt x0 x8) - 97) % 256) < (x3.length : Int) then (impl_counts.l0 k x0 (x3.set ((((bt x0 x8) - 97) % 256) : Int).toNat (wrap64 ((rd x3 (((bt x0 x8) - 97) % 256)) + 1))) x7 (wrap64 (x8 + 1))) else (none)) else (none)) else (none)) else (none)) else (some x3)
def impl_counts.f (k : Nat) (a0 : ByteArray) : Option (List Int) := if 4 ≤ 35184372088832 then (impl_counts.l0 k a0 (List.replicate 4 0) (a0.size : Int) 0) else (none)
theorem impl_counts.mono_l : ∀ k, (∀ y0 y1 y2 y3, LeO (impl_counts.l0 k y0 y1 y2 y3) (impl_counts.l0 (k + 1) y0 y1 y2 y3))
 | 0 => fun _ _ _ _ r h => by simp [impl_counts.l0] at h
 | k + 1 => by
  have ih0 := impl_counts.mono_l k
  ·intro y0 y1 y2 y3
   unfold impl_counts.l0
   repeat' first
   | with_reducible first | exact ih0 _ _ _ _ | exact LeO.refl _ | exact LeO.none _ | refine LeO.ite ?_ ?_ | refine LeO.bind ?_ (fun _ => ?_)
   | exact LeO.none _ | refine LeO.ite ?_ ?_ | refine LeO.bind ?_ (fun _ => ?_)
theorem impl_counts.mono : ∀ a0 k, LeO (impl_counts.f k a0) (impl_counts.f (k + 1) a0) := by
 intro a0 k
 have ih0 := impl_counts.mono_l k
 unfold impl_counts.f
 repeat' first
   | with_reducible first | exact ih0 _ _ _ _ | exact LeO.refl _ | exact LeO.none _ | refine LeO.ite ?_ ?_ | refine LeO.bind ?_ (fun _ => ?_)
   | exact LeO.none _ | refine LeO.ite ?_ ?_ | refine LeO.bind ?_ (fun _ => ?_)
theorem impl_counts.calls (k : Nat) (a0 : ByteArray) (r : List Int) (w : World) (h : impl_counts.f k a0 = some r) :
  Calls Tryz.prog 36 #[.string a0] w fun e w' => ∃ v0_ : Value, e = .returned (v0_) ∧ Kd.R (Kd.int .i64) 3 w' w.heap.size (fun _ => True) v0_ r ∧ Below w.heap.size w w' := by
 have HB := Aside0.mk (Below.refl w.heap.size w)
 have H : (if 4 ≤ 35184372088832 then (impl_counts.l0 k a0 (List.replicate 4 0) (a0.size : Int) 0) else (none)) = some r := h
 clear h
 by_cases c2 : 4 ≤ 35184372088832
 ·rw [if_pos c2] at H
  have c2b0 := eq_true c2
  have c2b1 : decide (4 ≤ 35184372088832) = true := decide_eq_true c2
  clear c2
  obtain ⟨y157, hy157⟩ : ∃ y_ : List Int, y_ = (List.replicate 4 0) := ⟨_, rfl⟩
  replace H : (impl_counts.l0 k a0 y157 (a0.size : Int) 0) = some r := HY H hy157
  have Ny157 := Aside0.mk hy157
  clear hy157
  have H' := Aside0.mk H
  clear H
  go_enter Tryz.func36, Tryz.ntmps36
  go_wp2_with (first | ((with_reducible refine gate_dst (N := 5) rfl ?_); refine Kd.R_make (Kd.int .i64) _ 3 rfl (N := 5) rfl 25 _ _ rfl 4 rfl rfl Tryz.underlying25 (.int .i64 0) 8 info3 rfl (by decide) (by omega) 0 (ok := fun _ => True) (okp := fun _ => True) rfl (fun _ hk => hk) trivial (by omega) (by omega) (Below.refl _ _) (Nat.le_refl _) ?_; intro v158 w3 ho4 hb hg_ hnew_; clear hg_ hnew_; (first | rw [← Ny157.out] at ho4 | (simp only [Int.reduceToNat] at ho4; rw [← Ny157.out] at ho4)); have n0_ := Aside0.mk (Kd.R_lower ho4 (below_size BB)); have n1_ := Aside0.mk (below_step BB hb); clear HB; have HO159 := n0_; have HB := n1_; clear n0_ n1_; clear hb ho4))
  go_loopg [8] k (fun kq v8 w' => ∃ (x3_1 : List Int) (x8_1 : Int), v8 = .int .i64 x8_1 ∧ Aside0 (impl_counts.l0 kq a0 x3_1 (a0.size : Int) x8_1 = some r) ∧ Aside0 (kq ≤ k) ∧ Aside0 (Kd.R (Kd.int .i64) 3 w' w.heap.size (fun _ => True) v158 x3_1) ∧ Aside0 (Below w.heap.size w w'))
  case atStart => exact ⟨(y157), (0), RF, H', ⟨Nat.le_refl _⟩, ⟨KR HO159⟩, ⟨BB⟩⟩
  case round =>
   clear H'
   try clear c2
   try clear c2b0
   try clear c2b1
   try clear p2
   try clear c3
   obtain ⟨x3_1, x8_1, rfl, HA, HK1, HO_3, HB⟩ := hrel
   cases gk with
   | zero => exact absurd HA.out (by simp [impl_counts.l0])
   | succ k1 =>
    have H := HA.out
    clear HA
    simp only [impl_counts.l0] at H
    by_cases c5 : x8_1 < (a0.size : Int)
    ·rw [if_pos c5] at H
     have c5b0 : decide (x8_1 < (a0.size : Int)) = true := decide_eq_true c5
     clear c5
     by_cases c6 : 0 ≤ x8_1
     ·rw [if_pos c6] at H
      have c6b0 : decide (0 ≤ x8_1) = true := decide_eq_true c6
      clear c6
      by_cases c7 : x8_1 < (a0.size : Int)
      ·rw [if_pos c7] at H
       have c7b0 : decide (x8_1 < (a0.size : Int)) = true := decide_eq_true c7
       clear c7
       obtain ⟨ji9, hji9⟩ : ∃ j_ : Int, (((bt a0 x8_1) - 97) % 256) = j_ := ⟨_, rfl⟩
       replace H : (if 0 ≤ (ji9) then (if (ji9) < (x3_1.length : Int) then (impl_counts.l0 k1 a0 (x3_1.set ((ji9) : Int).toNat (wrap64 ((rd x3_1 (ji9)) + 1))) (a0.size : Int) (wrap64 (x8_1 + 1))) else (none)) else (none)) = some r := by first | (rw [hji9] at H; exact H) | (simp only [hji9] at H ⊢; exact H)
       by_cases c10 : 0 ≤ (ji9)
       ·rw [if_pos c10] at H
        have c10b0 : decide (0 ≤ (ji9)) = true := decide_eq_true c10
        clear c10
        by_cases c11 : (ji9) < (x3_1.length : Int)
        ·rw [if_pos c11] at H
         have c11b0 : decide ((ji9) < (x3_1.length : Int)) = true := decide_eq_true c11
         clear c11
         obtain ⟨y161, hy161⟩ : ∃ y_ : List Int, y_ = (x3_1.set ((ji9) : Int).toNat (wrap64 ((rd x3_1 (ji9)) + 1))) := ⟨_, rfl⟩
         replace H : (impl_counts.l0 k1 a0 y161 (a0.size : Int) (wrap64 (x8_1 + 1))) = some r := HY H hy161
         have Ny161 := Aside0.mk hy161
         clear hy161
         have H' := Aside0.mk H
         clear H
         have p8 : 0 ≤ (x8_1 : Int) := of_decide_eq_true AS
         have q8 : x8_1 < (a0.size : Int) := of_decide_eq_true AS
         have hx8 := bt_at a0 x8_1
         replace p8 := eq_true p8
         replace q8 := eq_true q8
         obtain ⟨Ao13, co13, eo13⟩ := Kd.R_slice HO_3.out
         subst eo13
         have p160 : 0 ≤ ((ji9) : Int) := of_decide_eq_true AS
         have q160 : (ji9) < (x3_1.length : Int) := of_decide_eq_true AS
         obtain ⟨ad160, e160, hx160_0⟩ := Kd.at_int (Kd.R_reads' HO_3.out).2.2 (ji9) p160 q160
         cases e160
         replace p160 := eq_true p160
         replace q160 := eq_true q160
         have p12 : 0 ≤ ((ji9) : Int) := of_decide_eq_true AS
         have q12 : ((ji9) : Int) < ((x3_1.length : Int) : Int) := of_decide_eq_true AS
         obtain ⟨go12, co12, eo12, gb12, gl12, cl12, HG12⟩ := Kd.R_form HO_3.out (by omega)
         (first | cases eo12 | (injection eo12 with ea_ en_ ec_; (first | subst ea_ | (injection ea_ with ea_; subst ea_)); subst ec_; clear en_))
         have GB12 := Aside0.mk gb12
         have GG12 := Aside0.mk HG12
         clear gb12 gl12 HG12
         (first | simp only [add_plain] at hx160_0 | skip)
         obtain ⟨hx12_0, hf12_0⟩ := Kd.R_celln 0 HO_3.out ((ji9) : Int) p12 q12
         replace p12 := eq_true p12
         replace q12 := eq_true q12
         have HP14 := Kd.R_putg HO_3.out ((ji9) : Int) (wrap64 ((rd x3_1 (ji9)) + 1))
         go_wp2_with (first | ((with_reducible refine gate_store (t := 3) (p := 19) rfl ?_); refine store_event (t := 3) (p := 19) (v := ?vo_w15) (w1 := (wr.setCell ⟨go12, ((ji9) : Int).toNat, none⟩ (.int .i64 (wrap64 ((rd x3_1 (ji9)) + 1))))) ?hg ?ho ?hn ?hr ?_; (case ho => rfl); (case hg => rfl); (case hn => rfl); (case hr => exact GS); intro w15 hw; have hg : wr.grownBy w15 (some go12) := (by rw [hw]; exact HP14.2); have hp_ : Kd.R (Kd.int .i64) 3 w15 w.heap.size (fun _ => True) (.slice (some ⟨go12, 0, none⟩) x3_1.length co13) y161 := (by rw [hw, Ny161.out]; exact HP14.1); clear HP14; have n0_ := Aside0.mk (hp_); have n1_ := Aside0.mk ((by rw [hw]; exact below_set (HB.out) GB12.out : Below w.heap.size w w15)); clear HO_3; clear HB; have HO_3 := n0_; have HB := n1_; clear n0_ n1_; clear hg hw hp_))
         go_roundg k1
         case measure => have := HK1.out; omega
         case rel => exact ⟨(y161), (wrap64 (x8_1 + 1)), RF, H', ⟨by have := HK1.out; omega⟩, ⟨KR HO_3⟩, ⟨BB⟩⟩
        ·rw [if_neg c11] at H
         cases H
       ·rw [if_neg c10] at H
        cases H
      ·rw [if_neg c7] at H
       cases H
     ·rw [if_neg c6] at H
      cases H
    ·rw [if_neg c5] at H
     have c5b0 : decide (x8_1 < (a0.size : Int)) = false := decide_eq_false c5
     clear c5
     obtain rfl := Option.some.inj H
     go_wp2
     go_ret
     exact ⟨_, RE, KR HO_3, BB⟩
 ·rw [if_neg c2] at H
  cases H

/-! ### slices_Index_int_int: function 128 -/
def slices_Index_int_int.l0 : Nat → List Int → Int → Int → Int → Option (Int)
 | 0, _, _, _, _ => none
 | k + 1, x0, x1, x7, x8 => if x8 < x7 then (if 0 ≤ x8 then (if x8 < (x0.length : Int) then (if x1 = (rd x0 x8) then (some x8) else (slices_Index_int_int.l0 k x0 x1 x7 (wrap64 (x8 + 1)))) else (none)) else (none)) else (some (-1))
def slices_Index_int_int.f (k : Nat) (l0 : List Int) (a1 : Int) : Option (Int) := slices_Index_int_int.l0 k l0 a1 (l0.length : Int) 0
theorem slices_Index_int_int.mono_l : ∀ k, (∀ y0 y1 y2 y3, LeO (slices_Index_int_int.l0 k y0 y1 y2 y3) (slices_Index_int_int.l0 (k + 1) y0 y1 y2 y3))
 | 0 => fun _ _ _ _ r h => by simp [slices_Index_int_int.l0] at h
 | k + 1 => by
  have ih0 := slices_Index_int_int.mono_l k
  ·intro y0 y1 y2 y3
   unfold slices_Index_int_int.l0
   repeat' first
   | with_reducible first | exact ih0 _ _ _ _ | exact LeO.refl _ | exact LeO.none _ | refine LeO.ite ?_ ?_ | refine LeO.bind ?_ (fun _ => ?_)
   | exact LeO.none _ | refine LeO.ite ?_ ?_ | refine LeO.bind ?_ (fun _ => ?_)
theorem slices_Index_int_int.mono : ∀ a0 a1 k, LeO (slices_Index_int_int.f k a0 a1) (slices_Index_int_int.f (k + 1) a0 a1) := by
 intro a0 a1 k
 have ih0 := slices_Index_int_int.mono_l k
 unfold slices_Index_int_int.f
 repeat' first
   | with_reducible first | exact ih0 _ _ _ _ | exact LeO.refl _ | exact LeO.none _ | refine LeO.ite ?_ ?_ | refine LeO.bind ?_ (fun _ => ?_)
   | exact LeO.none _ | refine LeO.ite ?_ ?_ | refine LeO.bind ?_ (fun _ => ?_)
theorem slices_Index_int_int.calls (k : Nat) (A0 : Option Addr) (c0 : Nat) (l0 : List Int) (a1 : Int) (r : Int) (w : World) (hr0 : Kd.C (Kd.int .i64) w A0 l0.length l0) (hc0 : l0.length ≤ c0) (h : slices_Index_int_int.f k l0 a1 = some r) :
  Calls Tryz.prog 128 #[.slice A0 l0.length c0, .int .i64 a1] w fun e w' => e = .returned (.int .i64 r) ∧ Drawn0 w w' := by
 have HR0 := Aside0.mk hr0
 have HC0 := Aside0.mk hc0
 clear hr0 hc0
 have H : (slices_Index_int_int.l0 k l0 a1 (l0.length : Int) 0) = some r := h
 clear h
 have H' := Aside0.mk H
 clear H
 go_enter Tryz.func128, Tryz.ntmps128
 go_wp2
 go_loopg [8] k (fun kq v8 w' => ∃ (x8_1 : Int), v8 = .int .i64 x8_1 ∧ Aside0 (slices_Index_int_int.l0 kq l0 a1 (l0.length : Int) x8_1 = some r) ∧ Aside0 (kq ≤ k) ∧ Drawn0 w w')
 case atStart => exact ⟨(0), RF, H', ⟨Nat.le_refl _⟩, by repeat (first | exact Drawn0.refl _ | apply Drawn0.step)⟩
 case round =>
  clear H'
  try clear c1
  try clear p2
  obtain ⟨x8_1, rfl, HA, HK1, ⟨m1, rfl⟩⟩ := hrel
  cases gk with
  | zero => exact absurd HA.out (by simp [slices_Index_int_int.l0])
  | succ k1 =>
   have H := HA.out
   clear HA
   simp only [slices_Index_int_int.l0] at H
   by_cases c3 : x8_1 < (l0.length : Int)
   ·rw [if_pos c3] at H
    have c3b0 : decide (x8_1 < (l0.length : Int)) = true := decide_eq_true c3
    clear c3
    by_cases c4 : 0 ≤ x8_1
    ·rw [if_pos c4] at H
     have c4b0 : decide (0 ≤ x8_1) = true := decide_eq_true c4
     clear c4
     by_cases c5 : x8_1 < (l0.length : Int)
     ·rw [if_pos c5] at H
      have c5b0 : decide (x8_1 < (l0.length : Int)) = true := decide_eq_true c5
      clear c5
      by_cases c6 : a1 = (rd l0 x8_1)
      ·rw [if_pos c6] at H
       have c6b0 : (a1 == (rd l0 x8_1)) = true := beq_iff_eq.mpr c6
       have c6b1 : (a1 != (rd l0 x8_1)) = false := bne_eq_false_iff_eq.mpr c6
       clear c6
       obtain rfl := Option.some.inj H
       have p162 : 0 ≤ (x8_1 : Int) := of_decide_eq_true AS
       have q162 : x8_1 < (l0.length : Int) := of_decide_eq_true AS
       obtain ⟨ad162, e162, hx162_0⟩ := Kd.at_int HR0.out x8_1 p162 q162
       cases e162
       replace p162 := eq_true p162
       replace q162 := eq_true q162
       go_wp2
       go_ret
       exact ⟨RF, DR⟩
      ·rw [if_neg c6] at H
       have c6b0 : (a1 == (rd l0 x8_1)) = false := beq_eq_false_iff_ne.mpr c6
       have c6b1 : (a1 != (rd l0 x8_1)) = true := bne_iff_ne.mpr c6
       have H' := Aside0.mk H
       clear H
       have p162 : 0 ≤ (x8_1 : Int) := of_decide_eq_true AS
       have q162 : x8_1 < (l0.length : Int) := of_decide_eq_true AS
       obtain ⟨ad162, e162, hx162_0⟩ := Kd.at_int HR0.out x8_1 p162 q162
       cases e162
       replace p162 := eq_true p162
       replace q162 := eq_true q162
       go_wp2
       go_roundg k1
       case measure => have := HK1.out; omega
       case rel => exact ⟨(wrap64 (x8_1 + 1)), RF, H', ⟨by have := HK1.out; omega⟩, by repeat (first | exact Drawn0.refl _ | apply Drawn0.step)⟩
     ·rw [if_neg c5] at H
      cases H
    ·rw [if_neg c4] at H
     cases H
   ·rw [if_neg c3] at H
    have c3b0 : decide (x8_1 < (l0.length : Int)) = false := decide_eq_false c3
    clear c3
    obtain rfl := Option.some.inj H
    go_wp2
    go_ret
    exact ⟨RF, DR⟩

/-! ### slices_Contains_int_int: function 114 -/
def slices_Contains_int_int.f (k : Nat) (l0 : List Int) (a1 : Int) : Option (Bool) := (slices_Index_int_int.f k l0 a1).bind fun t163 => (some (decide (t163 ≥ 0)))
theorem slices_Contains_int_int.mono : ∀ a0 a1 k, LeO (slices_Contains_int_int.f k a0 a1) (slices_Contains_int_int.f (k + 1) a0 a1) := by
 intro a0 a1 k
 unfold slices_Contains_int_int.f
 repeat' first
   | with_reducible first | exact slices_Index_int_int.mono _ _ _ | exact LeO.refl _ | exact LeO.none _ | refine LeO.ite ?_ ?_ | refine LeO.bind ?_ (fun _ => ?_)
   | exact LeO.none _ | refine LeO.ite ?_ ?_ | refine LeO.bind ?_ (fun _ => ?_)
theorem slices_Contains_int_int.calls (k : Nat) (A0 : Option Addr) (c0 : Nat) (l0 : List Int) (a1 : Int) (r : Bool) (w : World) (hr0 : Kd.C (Kd.int .i64) w A0 l0.length l0) (hc0 : l0.length ≤ c0) (h : slices_Contains_int_int.f k l0 a1 = some r) :
  Calls Tryz.prog 114 #[.slice A0 l0.length c0, .int .i64 a1] w fun e w' => e = .returned (.bool r) ∧ Drawn0 w w' := by
 have HR0 := Aside0.mk hr0
 have HC0 := Aside0.mk hc0
 clear hr0 hc0
 have H : ((slices_Index_int_int.f k l0 a1).bind fun t163 => (some (decide (t163 ≥ 0)))) = some r := h
 clear h
 replace H := EA H
 obtain ⟨t163, A3, H⟩ := H
 obtain rfl := Option.some.inj H
 go_enter Tryz.func114, Tryz.ntmps114
 go_wp2_with (first | ((with_reducible refine gate_callee (f := 128) rfl ?_); refine goesL_ (some 7) rfl rfl Tryz.func128 (by kernel_rfl) rfl #[.slice A0 l0.length c0, .int .i64 a1] rfl TA ?_; (with_reducible refine (slices_Index_int_int.calls k _ _ l0 a1 t163 _ ?side1 ?side2 A3.out).mono ?_); (case side1 => exact CW HR0.out); (case side2 => exact HC0.out); rintro e w' ⟨rfl, ⟨nd, rfl⟩⟩; refine ⟨_, rfl, ?_⟩))
 go_ret
 exact ⟨RF, DR⟩

/-! ### impl_signs: function 92 -/
def impl_signs.l0 : Nat → List Int → List Int → Int → Int → Int → Option (List Int)
 | 0, _, _, _, _, _ => none
 | k + 1, x1, x5, x6, x10, x11 => if x11 < x10 then ((slices_Contains_int_int.f k x1 x11).bind fun t167 => (if t167 = true then (if x5.length < 17592186044416 then (impl_signs.l0 k x1 (x5 ++ [wrap64 (-x6)]) (wrap64 (-x6)) x10 (wrap64 (x11 + 1))) else (none)) else (if x5.length < 17592186044416 then (impl_signs.l0 k x1 (x5 ++ [x6]) x6 x10 (wrap64 (x11 + 1))) else (none)))) else (some x5)
def impl_signs.f (k : Nat) (a0 : ByteArray) (l1 : List Int) : Option (List Int) := impl_signs.l0 k l1 (([] : List Int)) 1 (a0.size : Int) 0
theorem impl_signs.mono_l : ∀ k, (∀ y0 y1 y2 y3 y4, LeO (impl_signs.l0 k y0 y1 y2 y3 y4) (impl_signs.l0 (k + 1) y0 y1 y2 y3 y4))
 | 0 => fun _ _ _ _ _ r h => by simp [impl_signs.l0] at h
 | k + 1 => by
  have ih0 := impl_signs.mono_l k
  ·intro y0 y1 y2 y3 y4
   unfold impl_signs.l0
   repeat' first
   | with_reducible first | exact ih0 _ _ _ _ _ | exact slices_Contains_int_int.mono _ _ _ | exact LeO.refl _ | exact LeO.none _ | refine LeO.ite ?_ ?_ | refine LeO.bind ?_ (fun _ => ?_)
   | exact LeO.none _ | refine LeO.ite ?_ ?_ | refine LeO.bind ?_ (fun _ => ?_)
theorem impl_signs.mono : ∀ a0 a1 k, LeO (impl_signs.f k a0 a1) (impl_signs.f (k + 1) a0 a1) := by
 intro a0 a1 k
 have ih0 := impl_signs.mono_l k
 unfold impl_signs.f
 repeat' first
   | with_reducible first | exact ih0 _ _ _ _ _ | exact slices_Contains_int_int.mono _ _ _ | exact LeO.refl _ | exact LeO.none _ | refine LeO.ite ?_ ?_ | refine LeO.bind ?_ (fun _ => ?_)
   | exact LeO.none _ | refine LeO.ite ?_ ?_ | refine LeO.bind ?_ (fun _ => ?_)
theorem impl_signs.calls (k : Nat) (a0 : ByteArray) (A1 : Option Addr) (c1 : Nat) (l1 : List Int) (r : List Int) (w : World) (hr1 : Kd.C (Kd.int .i64) w A1 l1.length l1) (hc1 : l1.length ≤ c1) (h : impl_signs.f k a0 l1 = some r) :
  Calls Tryz.prog 92 #[.string a0, .slice A1 l1.length c1] w fun e w' => ∃ v0_ : Value, e = .returned (v0_) ∧ Kd.R (Kd.int .i64) 3 w' w.heap.size (fun _ => True) v0_ r ∧ Below w.heap.size w w' := by
 have HR1 := Aside0.mk hr1
 have HC1 := Aside0.mk hc1
 clear hr1 hc1
 have HB := Aside0.mk (Below.refl w.heap.size w)
 have H : (impl_signs.l0 k l1 (([] : List Int)) 1 (a0.size : Int) 0) = some r := h
 clear h
 obtain ⟨y164, hy164⟩ : ∃ y_ : List Int, y_ = (([] : List Int)) := ⟨_, rfl⟩
 replace H : (impl_signs.l0 k l1 y164 1 (a0.size : Int) 0) = some r := HY H hy164
 have Ny164 := Aside0.mk hy164
 clear hy164
 have H' := Aside0.mk H
 clear H
 go_enter Tryz.func92, Tryz.ntmps92
 go_wp2_with (first | ((with_reducible refine gate_dst (N := 8) rfl ?_); refine Kd.R_lit (Kd.int .i64) _ 3 ?hg (N := 8) ?hd (xs := ([] : List Int)) (inner := []) (ok := fun _ => True) (okp := fun _ => True) ?hr ?hp (fun _ hk => hk) trivial (Below.refl _ _) (Nat.le_refl _) (by simp) ?_; (case hd => rfl); (case hg => rfl); (case hr => exact GS); (case hp => exact (Reps.none _ _)); intro v165 w3 ho4 hb hg_ hnew_; clear hg_ hnew_; (first | rw [← Ny164.out] at ho4 | (simp only [Int.reduceToNat] at ho4; rw [← Ny164.out] at ho4)); have n0_ := Aside0.mk (Kd.R_lower ho4 (below_size BB)); have n1_ := Aside0.mk (below_step BB hb); clear HB; have HO166 := n0_; have HB := n1_; clear n0_ n1_; clear hb ho4))
 go_loopg [5, 6, 11] k (fun kq v5 v6 v11 w' => ∃ (x5_1 : List Int) (x6_1 : Int) (x11_1 : Int), v6 = .int .i64 x6_1 ∧ v11 = .int .i64 x11_1 ∧ Aside0 (impl_signs.l0 kq l1 x5_1 x6_1 (a0.size : Int) x11_1 = some r) ∧ Aside0 (kq ≤ k) ∧ Aside0 (Kd.R (Kd.int .i64) 3 w' w.heap.size (fun _ => True) v5 x5_1) ∧ Aside0 (Below w.heap.size w w'))
 case atStart => exact ⟨(y164), (1), (0), RF, RF, H', ⟨Nat.le_refl _⟩, ⟨KR HO166⟩, ⟨BB⟩⟩
 case round =>
  clear H'
  try clear c1
  try clear p2
  obtain ⟨x5_1, x6_1, x11_1, rfl, rfl, HA, HK1, HO_5, HB⟩ := hrel
  cases gk with
  | zero => exact absurd HA.out (by simp [impl_signs.l0])
  | succ k1 =>
   have H := HA.out
   clear HA
   simp only [impl_signs.l0] at H
   by_cases c5 : x11_1 < (a0.size : Int)
   ·rw [if_pos c5] at H
    have c5b0 : decide (x11_1 < (a0.size : Int)) = true := decide_eq_true c5
    clear c5
    replace H := EA H
    obtain ⟨t167, A6, H⟩ := H
    by_cases c7 : t167 = true
    ·subst c7
     replace H := IP H
     by_cases c8 : x5_1.length < 17592186044416
     ·rw [if_pos c8] at H
      have LMc8 := Aside0.mk c8
      clear c8
      obtain ⟨y168, hy168⟩ : ∃ y_ : List Int, y_ = (x5_1 ++ [wrap64 (-x6_1)]) := ⟨_, rfl⟩
      replace H : (impl_signs.l0 k1 l1 y168 (wrap64 (-x6_1)) (a0.size : Int) (wrap64 (x11_1 + 1))) = some r := HY H hy168
      have Ny168 := Aside0.mk hy168
      clear hy168
      have H' := Aside0.mk H
      clear H
      go_wp2_with (first | ((with_reducible refine gate_callee (f := 114) rfl ?_); refine goesL_ (some 16) rfl rfl Tryz.func114 (by kernel_rfl) rfl #[.slice A1 l1.length c1, .int .i64 x11_1] rfl TA ?_; (with_reducible refine (slices_Contains_int_int.calls k1 _ _ l1 x11_1 true _ ?side1 ?side2 A6.out).mono ?_); (case side1 => exact CW (Kd.C_below HR1.out HB.out)); (case side2 => exact HC1.out); rintro e w' ⟨rfl, ⟨nd, rfl⟩⟩; refine ⟨_, rfl, ?_⟩) | ((with_reducible refine gate_builtin (b := .append) (xs := #[.tmp 19, .tmp 21]) rfl ?_); at_builtin; refine Kd.R_append (Kd.int .i64) (w0 := w) w.heap.size rfl (.tmp 19) (.tmp 21) 25 3 (.int .i64 0) 8 rfl Tryz.underlying25 info3 rfl (by decide) (by omega) u5 x5_1 (wrap64 (-x6_1)) [.int .i64 (wrap64 (-x6_1))] (fun _ => True) (fun _ => False) rfl rfl ?aP (fun _ hk => hk.elim) ?aF ?aO ?aB ?aS ?aL ?_; (case aP => exact rfl); (case aB => exact BB); (case aF => exact (fun _ _ => trivial)); (case aO => exact (KR HO_5)); (case aS => exact (below_size BB)); (case aL => have := LMc8.out; omega); intro v169 w9 ho hb hg hat; rw [← Ny168.out] at ho; have n0_ := Aside0.mk (hb); have n1_ := Aside0.mk (ho); clear HB; clear HO_5; have HB := n0_; have HO170 := n1_; clear n0_ n1_; clear ho hb hg hat))
      go_roundg k1
      case measure => have := HK1.out; omega
      case rel => exact ⟨(y168), (wrap64 (-x6_1)), (wrap64 (x11_1 + 1)), RF, RF, H', ⟨by have := HK1.out; omega⟩, ⟨KR HO170⟩, ⟨BB⟩⟩
     ·rw [if_neg c8] at H
      cases H
    ·replace c7 := Bool.eq_false_iff.mpr c7
     subst c7
     replace H := IN H
     by_cases c10 : x5_1.length < 17592186044416
     ·rw [if_pos c10] at H
      have LMc10 := Aside0.mk c10
      clear c10
      obtain ⟨y171, hy171⟩ : ∃ y_ : List Int, y_ = (x5_1 ++ [x6_1]) := ⟨_, rfl⟩
      replace H : (impl_signs.l0 k1 l1 y171 x6_1 (a0.size : Int) (wrap64 (x11_1 + 1))) = some r := HY H hy171
      have Ny171 := Aside0.mk hy171
      clear hy171
      have H' := Aside0.mk H
      clear H
      go_wp2_with (first | ((with_reducible refine gate_callee (f := 114) rfl ?_); refine goesL_ (some 16) rfl rfl Tryz.func114 (by kernel_rfl) rfl #[.slice A1 l1.length c1, .int .i64 x11_1] rfl TA ?_; (with_reducible refine (slices_Contains_int_int.calls k1 _ _ l1 x11_1 false _ ?side1 ?side2 A6.out).mono ?_); (case side1 => exact CW (Kd.C_below HR1.out HB.out)); (case side2 => exact HC1.out); rintro e w' ⟨rfl, ⟨nd, rfl⟩⟩; refine ⟨_, rfl, ?_⟩) | ((with_reducible refine gate_builtin (b := .append) (xs := #[.tmp 19, .tmp 21]) rfl ?_); at_builtin; refine Kd.R_append (Kd.int .i64) (w0 := w) w.heap.size rfl (.tmp 19) (.tmp 21) 25 3 (.int .i64 0) 8 rfl Tryz.underlying25 info3 rfl (by decide) (by omega) u5 x5_1 x6_1 [.int .i64 x6_1] (fun _ => True) (fun _ => False) rfl rfl ?aP (fun _ hk => hk.elim) ?aF ?aO ?aB ?aS ?aL ?_; (case aP => exact rfl); (case aB => exact BB); (case aF => exact (fun _ _ => trivial)); (case aO => exact (KR HO_5)); (case aS => exact (below_size BB)); (case aL => have := LMc10.out; omega); intro v172 w11 ho hb hg hat; rw [← Ny171.out] at ho; have n0_ := Aside0.mk (hb); have n1_ := Aside0.mk (ho); clear HB; clear HO_5; have HB := n0_; have HO173 := n1_; clear n0_ n1_; clear ho hb hg hat))
      go_roundg k1
      case measure => have := HK1.out; omega
      case rel => exact ⟨(y171), (x6_1), (wrap64 (x11_1 + 1)), RF, RF, H', ⟨by have := HK1.out; omega⟩, ⟨KR HO173⟩, ⟨BB⟩⟩
     ·rw [if_neg c10] at H
      cases H
   ·rw [if_neg c5] at H
    have c5b0 : decide (x11_1 < (a0.size : Int)) = false := decide_eq_false c5
    clear c5
    obtain rfl := Option.some.inj H
    go_wp2
    go_ret
    exact ⟨_, RE, KR HO_5, BB⟩

/-! ### impl_shares: function 69 -/
def impl_shares.l0 : Nat → ByteArray → List Int → List Int → Int → Int → Option (List Int)
 | 0, _, _, _, _, _ => none
 | k + 1, x0, x5, x11, x12, x13 => if x13 < x12 then (if 0 ≤ x13 then (if x13 < (x11.length : Int) then (if (rd x11 x13) > 0 then (if x13 < (x0.size : Int) then (if 0 ≤ (((bt x0 x13) - 97) % 256) then (if (((bt x0 x13) - 97) % 256) < (x5.length : Int) then (impl_shares.l0 k x0 (x5.set ((((bt x0 x13) - 97) % 256) : Int).toNat (wrap64 ((rd x5 (((bt x0 x13) - 97) % 256)) + 1))) x11 x12 (wrap64 (x13 + 1))) else (none)) else (none)) else (none)) else (impl_shares.l0 k x0 x5 x11 x12 (wrap64 (x13 + 1)))) else (none)) else (none)) else (some x5)
def impl_shares.f (k : Nat) (a0 : ByteArray) (l1 : List Int) : Option (List Int) := if 4 ≤ 35184372088832 then ((impl_signs.f k a0 l1).bind fun t177 => (impl_shares.l0 k a0 (List.replicate 4 0) t177 (t177.length : Int) 0)) else (none)
theorem impl_shares.mono_l : ∀ k, (∀ y0 y1 y2 y3 y4, LeO (impl_shares.l0 k y0 y1 y2 y3 y4) (impl_shares.l0 (k + 1) y0 y1 y2 y3 y4))
 | 0 => fun _ _ _ _ _ r h => by simp [impl_shares.l0] at h
 | k + 1 => by
  have ih0 := impl_shares.mono_l k
  ·intro y0 y1 y2 y3 y4
   unfold impl_shares.l0
   repeat' first
   | with_reducible first | exact ih0 _ _ _ _ _ | exact impl_signs.mono _ _ _ | exact LeO.refl _ | exact LeO.none _ | refine LeO.ite ?_ ?_ | refine LeO.bind ?_ (fun _ => ?_)
   | exact LeO.none _ | refine LeO.ite ?_ ?_ | refine LeO.bind ?_ (fun _ => ?_)
theorem impl_shares.mono : ∀ a0 a1 k, LeO (impl_shares.f k a0 a1) (impl_shares.f (k + 1) a0 a1) := by
 intro a0 a1 k
 have ih0 := impl_shares.mono_l k
 unfold impl_shares.f
 repeat' first
   | with_reducible first | exact ih0 _ _ _ _ _ | exact impl_signs.mono _ _ _ | exact LeO.refl _ | exact LeO.none _ | refine LeO.ite ?_ ?_ | refine LeO.bind ?_ (fun _ => ?_)
   | exact LeO.none _ | refine LeO.ite ?_ ?_ | refine LeO.bind ?_ (fun _ => ?_)
theorem impl_shares.calls (k : Nat) (a0 : ByteArray) (A1 : Option Addr) (c1 : Nat) (l1 : List Int) (r : List Int) (w : World) (hr1 : Kd.C (Kd.int .i64) w A1 l1.length l1) (hc1 : l1.length ≤ c1) (h : impl_shares.f k a0 l1 = some r) :
  Calls Tryz.prog 69 #[.string a0, .slice A1 l1.length c1] w fun e w' => ∃ v0_ : Value, e = .returned (v0_) ∧ Kd.R (Kd.int .i64) 3 w' w.heap.size (fun _ => True) v0_ r ∧ Below w.heap.size w w' := by
 have HR1 := Aside0.mk hr1
 have HC1 := Aside0.mk hc1
 clear hr1 hc1
 have HB := Aside0.mk (Below.refl w.heap.size w)
 have H : (if 4 ≤ 35184372088832 then ((impl_signs.f k a0 l1).bind fun t177 => (impl_shares.l0 k a0 (List.replicate 4 0) t177 (t177.length : Int) 0)) else (none)) = some r := h
 clear h
 by_cases c3 : 4 ≤ 35184372088832
 ·rw [if_pos c3] at H
  have c3b0 := eq_true c3
  have c3b1 : decide (4 ≤ 35184372088832) = true := decide_eq_true c3
  clear c3
  obtain ⟨y174, hy174⟩ : ∃ y_ : List Int, y_ = (List.replicate 4 0) := ⟨_, rfl⟩
  replace H : ((impl_signs.f k a0 l1).bind fun t177 => (impl_shares.l0 k a0 y174 t177 (t177.length : Int) 0)) = some r := HY H hy174
  have Ny174 := Aside0.mk hy174
  clear hy174
  replace H := EA H
  obtain ⟨t177, A4, H⟩ := H
  have H' := Aside0.mk H
  clear H
  go_enter Tryz.func69, Tryz.ntmps69
  go_wp2_with (first | ((with_reducible refine gate_dst (N := 8) rfl ?_); refine Kd.R_make (Kd.int .i64) _ 3 rfl (N := 8) rfl 25 _ _ rfl 4 rfl rfl Tryz.underlying25 (.int .i64 0) 8 info3 rfl (by decide) (by omega) 0 (ok := fun _ => True) (okp := fun _ => True) rfl (fun _ hk => hk) trivial (by omega) (by omega) (Below.refl _ _) (Nat.le_refl _) ?_; intro v175 w5 ho6 hb hg_ hnew_; clear hg_ hnew_; (first | rw [← Ny174.out] at ho6 | (simp only [Int.reduceToNat] at ho6; rw [← Ny174.out] at ho6)); have n0_ := Aside0.mk (Kd.R_lower ho6 (below_size BB)); have n1_ := Aside0.mk (below_step BB hb); clear HB; have HO176 := n0_; have HB := n1_; clear n0_ n1_; clear hb ho6) | ((with_reducible refine gate_callee (f := 92) rfl ?_); refine goesL_ (some 11) rfl rfl Tryz.func92 (by kernel_rfl) rfl #[.string a0, .slice A1 l1.length c1] rfl TA ?_; (with_reducible refine (impl_signs.calls k a0 _ _ l1 t177 _ ?side1 ?side2 A4.out).mono ?_); (case side1 => exact CW (Kd.C_below HR1.out HB.out)); (case side2 => exact HC1.out); rintro e w7 ⟨v178, rfl, ho0, hb⟩; refine ⟨_, rfl, ?_⟩; have n0_ := Aside0.mk (Kd.R_elder' (KR HO176) (Kd.R_base ho0) hb); have n1_ := Aside0.mk (Kd.R_lower (Kd.R_new' ho0 (Kd.R_lt (KR HO176))) (below_size BB)); have n2_ := Aside0.mk (below_step BB hb); clear HO176; clear HB; have HO176 := n0_; have HO179 := n1_; have HB := n2_; clear n0_ n1_ n2_; (try clear hb); (try clear hb2); (try clear hk); (try clear hi); (try clear ho0); obtain ⟨Ao8, co8, eo8⟩ := Kd.R_slice HO179.out; subst eo8))
  go_loopg [13] k (fun kq v13 w' => ∃ (x5_1 : List Int) (x13_1 : Int), v13 = .int .i64 x13_1 ∧ Aside0 (impl_shares.l0 kq a0 x5_1 t177 (t177.length : Int) x13_1 = some r) ∧ Aside0 (kq ≤ k) ∧ Aside0 (Kd.R (Kd.int .i64) 3 w' w.heap.size (fun k_ => some k_ ≠ ((.slice Ao8 t177.length co8) : Value).ownBlock) v175 x5_1) ∧ Aside0 (Kd.R (Kd.int .i64) 3 w' w.heap.size (fun k_ => some k_ ≠ (v175 : Value).ownBlock) (.slice Ao8 t177.length co8) t177) ∧ Aside0 (Below w.heap.size w w'))
  case atStart => exact ⟨(y174), (0), RF, H', ⟨Nat.le_refl _⟩, ⟨by (with_reducible repeat (first | apply Kd.R_alloc | apply Kd.R_drewN | apply Kd.R_drew)); exact Kd.R_mono HO176.out (fun _ hk => hk.2)⟩, ⟨by (with_reducible repeat (first | apply Kd.R_alloc | apply Kd.R_drewN | apply Kd.R_drew)); exact Kd.R_mono HO179.out (fun _ hk => hk.2)⟩, ⟨BB⟩⟩
  case round =>
   clear H'
   try clear c1
   try clear p2
   try clear c3
   try clear c3b0
   try clear c3b1
   try clear c6
   try clear p6
   obtain ⟨x5_1, x13_1, rfl, HA, HK1, HO_5, HO_11, HB⟩ := hrel
   cases gk with
   | zero => exact absurd HA.out (by simp [impl_shares.l0])
   | succ k1 =>
    have H := HA.out
    clear HA
    simp only [impl_shares.l0] at H
    by_cases c9 : x13_1 < (t177.length : Int)
    ·rw [if_pos c9] at H
     have c9b0 : decide (x13_1 < (t177.length : Int)) = true := decide_eq_true c9
     clear c9
     by_cases c10 : 0 ≤ x13_1
     ·rw [if_pos c10] at H
      have c10b0 : decide (0 ≤ x13_1) = true := decide_eq_true c10
      clear c10
      by_cases c11 : x13_1 < (t177.length : Int)
      ·rw [if_pos c11] at H
       have c11b0 : decide (x13_1 < (t177.length : Int)) = true := decide_eq_true c11
       clear c11
       by_cases c12 : (rd t177 x13_1) > 0
       ·rw [if_pos c12] at H
        have c12b0 : decide (0 < (rd t177 x13_1)) = true := decide_eq_true c12
        clear c12
        by_cases c13 : x13_1 < (a0.size : Int)
        ·rw [if_pos c13] at H
         have c13b0 : decide (x13_1 < (a0.size : Int)) = true := decide_eq_true c13
         clear c13
         obtain ⟨ji15, hji15⟩ : ∃ j_ : Int, (((bt a0 x13_1) - 97) % 256) = j_ := ⟨_, rfl⟩
         replace H : (if 0 ≤ (ji15) then (if (ji15) < (x5_1.length : Int) then (impl_shares.l0 k1 a0 (x5_1.set ((ji15) : Int).toNat (wrap64 ((rd x5_1 (ji15)) + 1))) t177 (t177.length : Int) (wrap64 (x13_1 + 1))) else (none)) else (none)) = some r := by first | (rw [hji15] at H; exact H) | (simp only [hji15] at H ⊢; exact H)
         by_cases c16 : 0 ≤ (ji15)
         ·rw [if_pos c16] at H
          have c16b0 : decide (0 ≤ (ji15)) = true := decide_eq_true c16
          clear c16
          by_cases c17 : (ji15) < (x5_1.length : Int)
          ·rw [if_pos c17] at H
           have c17b0 : decide ((ji15) < (x5_1.length : Int)) = true := decide_eq_true c17
           clear c17
           obtain ⟨y182, hy182⟩ : ∃ y_ : List Int, y_ = (x5_1.set ((ji15) : Int).toNat (wrap64 ((rd x5_1 (ji15)) + 1))) := ⟨_, rfl⟩
           replace H : (impl_shares.l0 k1 a0 y182 t177 (t177.length : Int) (wrap64 (x13_1 + 1))) = some r := HY H hy182
           have Ny182 := Aside0.mk hy182
           clear hy182
           have H' := Aside0.mk H
           clear H
           have p180 : 0 ≤ (x13_1 : Int) := of_decide_eq_true AS
           have q180 : x13_1 < (t177.length : Int) := of_decide_eq_true AS
           obtain ⟨ad180, e180, hx180_0⟩ := Kd.at_int (Kd.R_reads' HO_11.out).2.2 x13_1 p180 q180
           cases e180
           replace p180 := eq_true p180
           replace q180 := eq_true q180
           have p14 : 0 ≤ (x13_1 : Int) := of_decide_eq_true AS
           have q14 : x13_1 < (a0.size : Int) := of_decide_eq_true AS
           have hx14 := bt_at a0 x13_1
           replace p14 := eq_true p14
           replace q14 := eq_true q14
           obtain ⟨Ao19, co19, eo19⟩ := Kd.R_slice HO_5.out
           subst eo19
           have p181 : 0 ≤ ((ji15) : Int) := of_decide_eq_true AS
           have q181 : (ji15) < (x5_1.length : Int) := of_decide_eq_true AS
           obtain ⟨ad181, e181, hx181_0⟩ := Kd.at_int (Kd.R_reads' HO_5.out).2.2 (ji15) p181 q181
           cases e181
           replace p181 := eq_true p181
           replace q181 := eq_true q181
           have p18 : 0 ≤ ((ji15) : Int) := of_decide_eq_true AS
           have q18 : ((ji15) : Int) < ((x5_1.length : Int) : Int) := of_decide_eq_true AS
           obtain ⟨go18, co18, eo18, gb18, gl18, cl18, HG18⟩ := Kd.R_form HO_5.out (by omega)
           (first | cases eo18 | (injection eo18 with ea_ en_ ec_; (first | subst ea_ | (injection ea_ with ea_; subst ea_)); subst ec_; clear en_))
           have GB18 := Aside0.mk gb18
           have GG18 := Aside0.mk HG18
           clear gb18 gl18 HG18
           (first | simp only [add_plain] at hx181_0 | skip)
           obtain ⟨hx18_0, hf18_0⟩ := Kd.R_celln 0 HO_5.out ((ji15) : Int) p18 q18
           replace p18 := eq_true p18
           replace q18 := eq_true q18
           have HP20 := Kd.R_putg HO_5.out ((ji15) : Int) (wrap64 ((rd x5_1 (ji15)) + 1))
           go_wp2_with (first | ((with_reducible refine gate_store (t := 3) (p := 28) rfl ?_); refine store_event (t := 3) (p := 28) (v := ?vo_w21) (w1 := (wr.setCell ⟨go18, ((ji15) : Int).toNat, none⟩ (.int .i64 (wrap64 ((rd x5_1 (ji15)) + 1))))) ?hg ?ho ?hn ?hr ?_; (case ho => rfl); (case hg => rfl); (case hn => rfl); (case hr => exact GS); intro w21 hw; have hg : wr.grownBy w21 (some go18) := (by rw [hw]; exact HP20.2); have hp_ : Kd.R (Kd.int .i64) 3 w21 w.heap.size (fun k_ => some k_ ≠ (.slice (some ad180) t177.length co8 : Value).ownBlock) (.slice (some ⟨go18, 0, none⟩) x5_1.length co19) y182 := (by rw [hw, Ny182.out]; exact HP20.1); clear HP20; have n0_ := Aside0.mk (hp_); have n1_ := Aside0.mk (Kd.R_after (v := (.slice (some ⟨go18, 0, none⟩) x5_1.length co19)) (v1 := (.slice (some ⟨go18, 0, none⟩) x5_1.length co19)) (ok := (fun _ => True)) (by (with_reducible repeat (first | apply Kd.R_alloc | apply Kd.R_drewN | apply Kd.R_drew)); exact Kd.R_mono HO_11.out (fun _ hk => ⟨trivial, hk⟩)) hg (.inl rfl)); have n2_ := Aside0.mk ((by rw [hw]; exact below_set (HB.out) GB18.out : Below w.heap.size w w21)); clear HO_5; clear HO_11; clear HB; have HO_5 := n0_; have HO_11 := n1_; have HB := n2_; clear n0_ n1_ n2_; clear hg hw hp_))
           go_roundg k1
           case measure => have := HK1.out; omega
           case rel => exact ⟨(y182), (wrap64 (x13_1 + 1)), RF, H', ⟨by have := HK1.out; omega⟩, ⟨KR HO_5⟩, ⟨by (with_reducible repeat (first | apply Kd.R_alloc | apply Kd.R_drewN | apply Kd.R_drew)); exact Kd.R_mono HO_11.out (fun _ hk => hk.2)⟩, ⟨BB⟩⟩
          ·rw [if_neg c17] at H
           cases H
         ·rw [if_neg c16] at H
          cases H
        ·rw [if_neg c13] at H
         cases H
       ·rw [if_neg c12] at H
        have c12b0 : decide (0 < (rd t177 x13_1)) = false := decide_eq_false c12
        clear c12
        have H' := Aside0.mk H
        clear H
        have p180 : 0 ≤ (x13_1 : Int) := of_decide_eq_true AS
        have q180 : x13_1 < (t177.length : Int) := of_decide_eq_true AS
        obtain ⟨ad180, e180, hx180_0⟩ := Kd.at_int (Kd.R_reads' HO_11.out).2.2 x13_1 p180 q180
        cases e180
        replace p180 := eq_true p180
        replace q180 := eq_true q180
        go_wp2
        go_roundg k1
        case measure => have := HK1.out; omega
        case rel => exact ⟨(x5_1), (wrap64 (x13_1 + 1)), RF, H', ⟨by have := HK1.out; omega⟩, ⟨KR HO_5⟩, ⟨KR HO_11⟩, ⟨BB⟩⟩
      ·rw [if_neg c11] at H
       cases H
     ·rw [if_neg c10] at H
      cases H
    ·rw [if_neg c9] at H
     have c9b0 : decide (x13_1 < (t177.length : Int)) = false := decide_eq_false c9
     clear c9
     obtain rfl := Option.some.inj H
     go_wp2
     go_ret
     exact ⟨_, RE, by (with_reducible repeat (first | apply Kd.R_alloc | apply Kd.R_drewN | apply Kd.R_drew)); exact Kd.R_mono HO_5.out (fun _ hk => trivial), BB⟩
 ·rw [if_neg c3] at H
  cases H

end Go.Proofs.YthkdkgbcokpbaacGreatDoor.PFnNecklacesShared
