-- Written by a program of this session (wip/tools/pp.sh) out of the translation; Lean checks it.
import Derived.Test.YtgpplbaloajgdaaPFnExactExitOfx0
import Derived.Test.YtgpplbaloajgdaaPFnExactExitOfx2
import Derived.Test.YtgpplbaloajgdaaPFnExactExitOfx3
namespace Go.Proofs.Ytgpplbaloajgdaa.PFnExactExitOf
open Go.RowKit Go.Proofs.YtgpplbaloajgdaaOwn Go.Proofs.YtgpplbaloajgdaaW.PrintWords Go.Proofs.YtgpplbaloajgdaaW.PrintLast Go.Proofs.YtgpplbaloajgdaaW.PrintMore
attribute [local go_sem] max2_int min2_int max_two min_two max_three min_three max_four min_four   -- for this text's walks alone
set_option linter.unusedVariables false
set_option linter.unusedSimpArgs false

mutual
def spec_doOfCell.l0 : Nat → List Int → List Int → List (List Int) → List Int → Int → Int → Option ((List (List Int)))
 | 0, _, _, _, _, _, _ => none
 | k + 1, x0, x1, x5, x10, x11, x12 => if x12 < x11 then (if 0 ≤ x12 then (if x12 < (x10.length : Int) then (if 0 ≤ (wrap64 (x12 + 1)) then (if (wrap64 (x12 + 1)) ≤ (x1.length : Int) then (spec_doOfCell.l1 k x0 x1 x5 (rd x10 x12) x10 x11 x12 (x1.drop ((wrap64 (x12 + 1)) : Int).toNat) ((x1.drop ((wrap64 (x12 + 1)) : Int).toNat).length : Int) 0) else (none)) else (none)) else (none)) else (none)) else (some x5)
def spec_doOfCell.l1 : Nat → List Int → List Int → List (List Int) → Int → List Int → Int → Int → List Int → Int → Int → Option ((List (List Int)))
 | 0, _, _, _, _, _, _, _, _, _, _ => none
 | k + 1, x0, x1, x5, x7, x10, x11, x12, x20, x21, x22 => if x22 < x21 then (if 0 ≤ x22 then (if x22 < (x20.length : Int) then ((spec_doDoor.f x0 x7 (rd x20 x22)).bind fun t199 => (if t199 = true then (if x5.length < 5864062014805 then (spec_doOfCell.l1 k x0 x1 (x5 ++ [(([x7, rd x20 x22] : List Int))]) x7 x10 x11 x12 x20 x21 (wrap64 (x22 + 1))) else (none)) else (spec_doOfCell.l1 k x0 x1 x5 x7 x10 x11 x12 x20 x21 (wrap64 (x22 + 1))))) else (none)) else (none)) else (spec_doOfCell.l0 k x0 x1 x5 x10 x11 (wrap64 (x12 + 1)))
end
def spec_doOfCell.f (k : Nat) (l0 : List Int) (l1 : List Int) : Option ((List (List Int))) := spec_doOfCell.l0 k l0 l1 ([] : List (List Int)) l1 (l1.length : Int) 0
theorem spec_doOfCell.mono_l : ∀ k, (∀ y0 y1 y2 y3 y4 y5, LeO (spec_doOfCell.l0 k y0 y1 y2 y3 y4 y5) (spec_doOfCell.l0 (k + 1) y0 y1 y2 y3 y4 y5)) ∧ (∀ y0 y1 y2 y3 y4 y5 y6 y7 y8 y9, LeO (spec_doOfCell.l1 k y0 y1 y2 y3 y4 y5 y6 y7 y8 y9) (spec_doOfCell.l1 (k + 1) y0 y1 y2 y3 y4 y5 y6 y7 y8 y9))
 | 0 => ⟨fun _ _ _ _ _ _ r h => by simp [spec_doOfCell.l0] at h, fun _ _ _ _ _ _ _ _ _ _ r h => by simp [spec_doOfCell.l1] at h⟩
 | k + 1 => by
  obtain ⟨ih0, ih1⟩ := spec_doOfCell.mono_l k
  refine ⟨?_, ?_⟩
  ·intro y0 y1 y2 y3 y4 y5
   unfold spec_doOfCell.l0
   repeat' first
   | (with_reducible exact ih0 _ _ _ _ _ _)
   | (with_reducible exact ih1 _ _ _ _ _ _ _ _ _ _)
   | (with_reducible exact LeO.refl _)
   | (with_reducible exact LeO.none _)
   | (with_reducible refine LeO.ite ?_ ?_)
   | (with_reducible refine LeO.bind ?_ (fun _ => ?_))
   | exact ih0 _ _ _ _ _ _
   | exact ih1 _ _ _ _ _ _ _ _ _ _
   | exact LeO.none _
   | refine LeO.ite ?_ ?_
   | refine LeO.bind ?_ (fun _ => ?_)
  ·intro y0 y1 y2 y3 y4 y5 y6 y7 y8 y9
   unfold spec_doOfCell.l1
   repeat' first
   | (with_reducible exact ih0 _ _ _ _ _ _)
   | (with_reducible exact ih1 _ _ _ _ _ _ _ _ _ _)
   | (with_reducible exact LeO.refl _)
   | (with_reducible exact LeO.none _)
   | (with_reducible refine LeO.ite ?_ ?_)
   | (with_reducible refine LeO.bind ?_ (fun _ => ?_))
   | exact ih0 _ _ _ _ _ _
   | exact ih1 _ _ _ _ _ _ _ _ _ _
   | exact LeO.none _
   | refine LeO.ite ?_ ?_
   | refine LeO.bind ?_ (fun _ => ?_)
theorem spec_doOfCell.mono : ∀ a0 a1 k, LeO (spec_doOfCell.f k a0 a1) (spec_doOfCell.f (k + 1) a0 a1) := by
 intro a0 a1 k
 obtain ⟨ih0, ih1⟩ := spec_doOfCell.mono_l k
 unfold spec_doOfCell.f
 repeat' first
   | (with_reducible exact ih0 _ _ _ _ _ _)
   | (with_reducible exact ih1 _ _ _ _ _ _ _ _ _ _)
   | (with_reducible exact LeO.refl _)
   | (with_reducible exact LeO.none _)
   | (with_reducible refine LeO.ite ?_ ?_)
   | (with_reducible refine LeO.bind ?_ (fun _ => ?_))
   | exact ih0 _ _ _ _ _ _
   | exact ih1 _ _ _ _ _ _ _ _ _ _
   | exact LeO.none _
   | refine LeO.ite ?_ ?_
   | refine LeO.bind ?_ (fun _ => ?_)
set_option maxHeartbeats 8000000 in
set_option maxRecDepth 100000 in
theorem spec_doOfCell.calls (k : Nat) (A0 : Option Addr) (c0 : Nat) (l0 : List Int) (A1 : Option Addr) (c1 : Nat) (l1 : List Int) (r : List (List Int)) (w : World) (hr0 : Kd.C (Kd.int .i64) w A0 l0.length l0) (hc0 : l0.length ≤ c0) (hr1 : Kd.C (Kd.int .i64) w A1 l1.length l1) (hc1 : l1.length ≤ c1) (h : spec_doOfCell.f k l0 l1 = some r) :
  Calls Try.prog 60 #[.slice A0 l0.length c0, .slice A1 l1.length c1] w fun e w' => ∃ v0_ : Value, e = .returned (v0_) ∧ Kd.S (Kd.slice 3 (Kd.int .i64)) 22 w' w.heap.size (fun _ => True) v0_ r ∧ Below w.heap.size w w' := by
 have HR0 := Aside0.mk hr0; have HC0 := Aside0.mk hc0; clear hr0 hc0; have HR1 := Aside0.mk hr1; have HC1 := Aside0.mk hc1; clear hr1 hc1; have HB := Aside0.mk (Below.refl w.heap.size w); have H : (spec_doOfCell.l0 k l0 l1 ([] : List (List Int)) l1 (l1.length : Int) 0) = some r := h; clear h; have H' := Aside0.mk H; clear H
 go_enter Try.func60, Try.ntmps60
 go_wp2
 go_loopg [5, 12] k (fun kq v5 v12 w' => ∃ (x5_1 : List (List Int)) (x12_1 : Int), v12 = .int .i64 x12_1 ∧ Aside0 (spec_doOfCell.l0 kq l0 l1 x5_1 l1 (l1.length : Int) x12_1 = some r) ∧ Aside0 (kq ≤ k) ∧ Aside0 (Kd.S (Kd.slice 3 (Kd.int .i64)) 22 w' w.heap.size (fun _ => True) v5 x5_1) ∧ Aside0 (Below w.heap.size w w'))
 case atStart => exact ⟨(([] : List (List Int))), (0), RF, H', ⟨Nat.le_refl _⟩, ⟨by first | exact Kd.S_nil _ _ _ _ _ | exact Kd.N_nil _ _ _ _ _ | exact Kd.V_nil _ _ _ _ _ | exact Kd.Q_nil _ _ _ _ _ | exact Kd.R_nil _ _ _ _ _⟩, ⟨BB⟩⟩
 case round =>
  clear H'
  try clear c1
  try clear p2
  obtain ⟨x5_1, x12_1, rfl, HA, HK1, HO_5, HB⟩ := hrel; cases gk with
  | zero => exact absurd HA.out (by simp [spec_doOfCell.l0])
  | succ k1 =>
   have H := HA.out; clear HA
   simp only [spec_doOfCell.l0] at H
   by_cases c3 : x12_1 < (l1.length : Int)
   ·rw [if_pos c3] at H
    have c3b0 : decide (x12_1 < (l1.length : Int)) = true := decide_eq_true c3; clear c3
    by_cases c4 : 0 ≤ x12_1
    ·rw [if_pos c4] at H
     have c4b0 : decide (0 ≤ x12_1) = true := decide_eq_true c4; clear c4
     by_cases c5 : x12_1 < (l1.length : Int)
     ·rw [if_pos c5] at H
      have c5b0 : decide (x12_1 < (l1.length : Int)) = true := decide_eq_true c5; clear c5; obtain ⟨ji6, hji6⟩ : ∃ j_ : Int, (wrap64 (x12_1 + 1)) = j_ := ⟨_, rfl⟩; replace H : (if 0 ≤ (ji6) then (if (ji6) ≤ (l1.length : Int) then (spec_doOfCell.l1 k1 l0 l1 x5_1 (rd l1 x12_1) l1 (l1.length : Int) x12_1 (l1.drop ((ji6) : Int).toNat) ((l1.drop ((ji6) : Int).toNat).length : Int) 0) else (none)) else (none)) = some r := by first | (rw [hji6] at H; exact H) | (simp only [hji6] at H ⊢; exact H)
      have hji6w : (IntKind.i64.wrap (x12_1 + 1)) = ji6 := (i64_w _).trans hji6
      by_cases c7 : 0 ≤ (ji6)
      ·rw [if_pos c7] at H
       have c7b0 := eq_true c7; have c7b1 : decide (0 ≤ (ji6)) = true := decide_eq_true c7; clear c7
       by_cases c8 : (ji6) ≤ (l1.length : Int)
       ·rw [if_pos c8] at H
        have c8b0 := eq_true c8; have c8b1 : decide ((ji6) ≤ (l1.length : Int)) = true := decide_eq_true c8; clear c8; have H' := Aside0.mk H; clear H; have p196 : 0 ≤ (x12_1 : Int) := of_decide_eq_true AS; have q196 : x12_1 < (l1.length : Int) := of_decide_eq_true AS; obtain ⟨ad196, e196, hx196_0⟩ := Kd.at_int HR1.out x12_1 p196 q196; cases e196; replace hx196_0 := (HB.out.cell (World.block_lt_of_cell? w _ hx196_0)).trans hx196_0; replace p196 := eq_true p196; replace q196 := eq_true q196; obtain ⟨i09, hi09, _, hsz9, _⟩ := info_parts info3; obtain ⟨A9, hcut9, hA9, hC9⟩ := print_drop_of (P := Try.prog) (Value.int .i64) 0 22 3 .i64 Try.underlying22 hi09 hsz9 (some ad196) c1 l1 (ji6) (of_decide_eq_true AS) (of_decide_eq_true AS) HC1.out; have HR197 := Aside0.mk (Kd.C_of_reads (h1 := fun _ => rfl) (hA9 _ (Kd.reads_of_C HR1.out))); have HC197 := Aside0.mk hC9; clear hA9 hC9 hi09 hsz9
        go_wp2
        go_loopg [5, 22] k1 (fun kq v5 v22 w' => ∃ (x5_2 : List (List Int)) (x22_2 : Int), v22 = .int .i64 x22_2 ∧ Aside0 (spec_doOfCell.l1 kq l0 l1 x5_2 (rd l1 x12_1) l1 (l1.length : Int) x12_1 (l1.drop ((ji6) : Int).toNat) ((l1.drop ((ji6) : Int).toNat).length : Int) x22_2 = some r) ∧ Aside0 (kq ≤ k1) ∧ Aside0 (Kd.S (Kd.slice 3 (Kd.int .i64)) 22 w' w.heap.size (fun _ => True) v5 x5_2) ∧ Aside0 (Below w.heap.size w w'))
        case atStart => exact ⟨(x5_1), (0), RF, H', ⟨Nat.le_refl _⟩, ⟨KS HO_5⟩, ⟨BB⟩⟩
        case round =>
         clear H'
         try clear c1
         try clear p1
         try clear q1
         try clear hx1
         try clear p2
         try clear c3
         try clear c3b0
         try clear c4
         try clear c4b0
         try clear c5
         try clear c5b0
         try clear c6
         try clear p6
         try clear c7
         try clear c7b0
         try clear c7b1
         try clear c8
         try clear c8b0
         try clear c8b1
         try clear hx196_0
         try clear p196
         try clear p2
         try clear q196
         obtain ⟨x5_2, x22_2, rfl, HA, HK2, HO_5, HB⟩ := hrel; cases gk with
         | zero => exact absurd HA.out (by simp [spec_doOfCell.l1])
         | succ k2 =>
          have H := HA.out; clear HA
          simp only [spec_doOfCell.l1] at H
          by_cases c10 : x22_2 < ((l1.drop ((ji6) : Int).toNat).length : Int)
          ·rw [if_pos c10] at H
           have c10b0 : decide (x22_2 < ((l1.drop ((ji6) : Int).toNat).length : Int)) = true := decide_eq_true c10; have c10bd : decide (x22_2 < ((l1.length - ((ji6) : Int).toNat : Nat) : Int)) = true := by rw [← List.length_drop]; exact c10b0
           clear c10
           by_cases c11 : 0 ≤ x22_2
           ·rw [if_pos c11] at H
            have c11b0 : decide (0 ≤ x22_2) = true := decide_eq_true c11; clear c11
            by_cases c12 : x22_2 < ((l1.drop ((ji6) : Int).toNat).length : Int)
            ·rw [if_pos c12] at H
             have c12b0 : decide (x22_2 < ((l1.drop ((ji6) : Int).toNat).length : Int)) = true := decide_eq_true c12; have c12bd : decide (x22_2 < ((l1.length - ((ji6) : Int).toNat : Nat) : Int)) = true := by rw [← List.length_drop]; exact c12b0
             clear c12; replace H := Option.bind_eq_some_iff.mp H; obtain ⟨t199, A130, H⟩ := H; replace H : (if t199 = true then (if x5_2.length < 5864062014805 then (spec_doOfCell.l1 k2 l0 l1 (x5_2 ++ [(([(rd l1 x12_1), rd (l1.drop ((ji6) : Int).toNat) x22_2] : List Int))]) (rd l1 x12_1) l1 (l1.length : Int) x12_1 (l1.drop ((ji6) : Int).toNat) ((l1.drop ((ji6) : Int).toNat).length : Int) (wrap64 (x22_2 + 1))) else (none)) else (spec_doOfCell.l1 k2 l0 l1 x5_2 (rd l1 x12_1) l1 (l1.length : Int) x12_1 (l1.drop ((ji6) : Int).toNat) ((l1.drop ((ji6) : Int).toNat).length : Int) (wrap64 (x22_2 + 1)))) = some r := H; have A13 := Aside0.mk A130; clear A130
             by_cases c14 : t199 = true
             ·subst c14
              have H1 : (if x5_2.length < 5864062014805 then (spec_doOfCell.l1 k2 l0 l1 (x5_2 ++ [(([(rd l1 x12_1), rd (l1.drop ((ji6) : Int).toNat) x22_2] : List Int))]) (rd l1 x12_1) l1 (l1.length : Int) x12_1 (l1.drop ((ji6) : Int).toNat) ((l1.drop ((ji6) : Int).toNat).length : Int) (wrap64 (x22_2 + 1))) else (none)) = some r := by rw [if_pos rfl] at H; exact H
              clear H; have H := H1; clear H1; obtain ⟨y200, hy200⟩ : ∃ y_ : List Int, y_ = (([(rd l1 x12_1), rd (l1.drop ((ji6) : Int).toNat) x22_2] : List Int)) := ⟨_, rfl⟩; replace H : (if x5_2.length < 5864062014805 then (spec_doOfCell.l1 k2 l0 l1 (x5_2 ++ [y200]) (rd l1 x12_1) l1 (l1.length : Int) x12_1 (l1.drop ((ji6) : Int).toNat) ((l1.drop ((ji6) : Int).toNat).length : Int) (wrap64 (x22_2 + 1))) else (none)) = some r := by first | (rw [hy200]; with_reducible exact H) | (have H2_ := (Option.bind_some _ _).symm.trans H; rw [hy200]; with_reducible exact H2_) | (have H2_ := (Option.bind_some _ _).symm.trans H; with_reducible exact H2_) | with_reducible exact H | (rw [hy200]; exact H) | exact H
              have Ny200 := Aside0.mk hy200; clear hy200
              by_cases c15 : x5_2.length < 5864062014805
              ·rw [if_pos c15] at H
               have LMc15 := Aside0.mk c15; clear c15; obtain ⟨y203, hy203⟩ : ∃ y_ : List (List Int), y_ = (x5_2 ++ [y200]) := ⟨_, rfl⟩; replace H : (spec_doOfCell.l1 k2 l0 l1 y203 (rd l1 x12_1) l1 (l1.length : Int) x12_1 (l1.drop ((ji6) : Int).toNat) ((l1.drop ((ji6) : Int).toNat).length : Int) (wrap64 (x22_2 + 1))) = some r := by first | (rw [hy203]; with_reducible exact H) | (have H2_ := (Option.bind_some _ _).symm.trans H; rw [hy203]; with_reducible exact H2_) | (have H2_ := (Option.bind_some _ _).symm.trans H; with_reducible exact H2_) | with_reducible exact H | (rw [hy203]; exact H) | exact H
               have Ny203 := Aside0.mk hy203; clear hy203; have H' := Aside0.mk H; clear H; have p198 : 0 ≤ (x22_2 : Int) := of_decide_eq_true AS; have q198 : x22_2 < ((l1.drop ((ji6) : Int).toNat).length : Int) := of_decide_eq_true AS; have q198d : (x22_2 < ((l1.length - ((ji6) : Int).toNat : Nat) : Int)) = True := eq_true (by rw [← List.length_drop]; exact q198); obtain ⟨ad198, e198, hx198_0⟩ := Kd.at_int HR197.out x22_2 p198 q198; cases e198; replace hx198_0 := (HB.out.cell (World.block_lt_of_cell? w _ hx198_0)).trans hx198_0; replace p198 := eq_true p198; replace q198 := eq_true q198
               go_wp2_with (first | ((with_reducible refine gate_callee (f := 43) rfl ?_); refine goesL_ (some 29) rfl rfl Try.func43 (by kernel_rfl) rfl #[.slice A0 l0.length c0, .int .i64 (rd l1 x12_1), .int .i64 (rd (l1.drop ((ji6) : Int).toNat) x22_2)] rfl (by (try simp only [List.map_toArray, List.map_cons, List.map_nil]); first | done | (simp only [hji6]; rfl) | rfl | (simp only [List.length_drop, List.length_take]; rfl)) ?_; (with_reducible refine (spec_doDoor.calls _ _ l0 (rd l1 x12_1) (rd (l1.drop ((ji6) : Int).toNat) x22_2) true _ ?side1 ?side2 A13.out).mono ?_); (case side1 => repeat (first | exact (Kd.C_below HR0.out HB.out) | (with_reducible refine Kd.C_alloc ?_ _) | (with_reducible refine Kd.C_drewN ?_ _) | (with_reducible refine Kd.C_drew ?_))); (case side2 => exact HC0.out); rintro e w' ⟨rfl, ⟨nd, rfl⟩⟩; refine ⟨_, rfl, ?_⟩) | ((with_reducible refine gate_dst (N := 33) rfl ?_); refine Kd.R_lit (Kd.int .i64) _ 3 ?hg (N := 33) ?hd (xs := ([(rd l1 x12_1), rd (l1.drop ((ji6) : Int).toNat) x22_2] : List Int)) (inner := [.int .i64 (rd l1 x12_1), .int .i64 (rd (l1.drop ((ji6) : Int).toNat) x22_2)]) (ok := fun _ => True) (okp := fun _ => True) ?hr ?hp (fun _ hk => hk) trivial (Below.refl _ _) (Nat.le_refl _) (by simp) ?_; (case hd => rfl); (case hg => rfl); (case hr => first | (go_simp; done) | (go_simp; rfl)); (case hp => exact (Reps.one (show Kd.M (Kd.int .i64) _ _ _ (rd l1 x12_1) [.int .i64 (rd l1 x12_1)] from rfl) (Reps.one (show Kd.M (Kd.int .i64) _ _ _ (rd (l1.drop ((ji6) : Int).toNat) x22_2) [.int .i64 (rd (l1.drop ((ji6) : Int).toNat) x22_2)] from rfl) (Reps.none _ _)))); intro v201 w16 ho17 hb hg_ hnew_; clear hg_ hnew_; (first | rw [← Ny200.out] at ho17 | (simp only [Int.reduceToNat] at ho17; rw [← Ny200.out] at ho17)); have n0_ := Aside0.mk (Kd.S_elder' (KS HO_5) (Kd.R_base ho17) hb); have n1_ := Aside0.mk (Kd.R_lower ho17 (below_size BB)); have n2_ := Aside0.mk (below_step BB hb); clear HO_5; clear HB; have HO_5 := n0_; have HO202 := n1_; have HB := n2_; clear n0_ n1_ n2_; clear hb ho17; obtain ⟨Ao19, co19, eo19⟩ := Kd.R_slice HO202.out; subst eo19) | ((with_reducible refine gate_builtin (b := .append) (xs := #[.tmp 30, .tmp 34]) rfl ?_); at_builtin; refine Kd.S_append (Kd.slice 3 (Kd.int .i64)) (w0 := w) w.heap.size rfl (.tmp 30) (.tmp 34) 36 22 (.slice none 0 0) 24 rfl Try.underlying36 info22 rfl (by decide) (by omega) u5 x5_2 y200 [.slice Ao19 y200.length co19] (fun _ => True) (fun k_ => some k_ = (.slice Ao19 y200.length co19 : Value).ownBlock) rfl rfl ?aP (fun k_ hk_ => ((Kd.R_mono (ok' := fun k_ => ((fun _ => True)) k_ ∧ some k_ ≠ (u5 : Value).ownBlock) (Kd.R_apart' (HO202.out) (Kd.S_typed HO_5.out) (by decide)) (fun k_ hk => ⟨trivial, hk.2⟩))).1 k_ hk_.symm) ?aF ?aO ?aB ?aS ?aL ?_; (case aP => exact Kd.M_row (Kd.R_mono (Kd.R_tight rfl (Kd.R_mono (ok' := fun k_ => ((fun _ => True)) k_ ∧ some k_ ≠ (u5 : Value).ownBlock) (Kd.R_apart' (HO202.out) (Kd.S_typed HO_5.out) (by decide)) (fun k_ hk => ⟨trivial, hk.2⟩))) (fun _ h_ => h_))); (case aB => exact BB); (case aF => exact (fun _ _ => trivial)); (case aO => exact (by (with_reducible repeat (first | apply Kd.S_alloc | apply Kd.S_drewN | apply Kd.S_drew)); exact Kd.S_mono HO_5.out (fun k_ hk => ⟨trivial, fun e_ => hk.2 e_⟩))); (case aS => exact (below_size BB)); (case aL => have := LMc15.out; omega); intro v204 w18 ho hb hg hat; rw [← Ny203.out] at ho; have n0_ := Aside0.mk (hb); have n1_ := Aside0.mk (ho); clear HB; clear HO_5; clear HO202; have HB := n0_; have HO205 := n1_; clear n0_ n1_; clear ho hb hg hat))
               go_roundg k2
               case measure => have := HK1.out; have := HK2.out; omega
               case rel => exact ⟨(y203), (wrap64 (x22_2 + 1)), RF, H', ⟨by have := HK1.out; have := HK2.out; omega⟩, ⟨KS HO205⟩, ⟨BB⟩⟩
              ·rw [if_neg c15] at H
               exact absurd H (by simp)
             ·replace c14 := Bool.eq_false_iff.mpr c14
              subst c14; have H1 : (spec_doOfCell.l1 k2 l0 l1 x5_2 (rd l1 x12_1) l1 (l1.length : Int) x12_1 (l1.drop ((ji6) : Int).toNat) ((l1.drop ((ji6) : Int).toNat).length : Int) (wrap64 (x22_2 + 1))) = some r := by rw [if_neg (show ¬ (false = true) by decide)] at H; exact H
              clear H; have H := H1; clear H1; have H' := Aside0.mk H; clear H; have p198 : 0 ≤ (x22_2 : Int) := of_decide_eq_true AS; have q198 : x22_2 < ((l1.drop ((ji6) : Int).toNat).length : Int) := of_decide_eq_true AS; have q198d : (x22_2 < ((l1.length - ((ji6) : Int).toNat : Nat) : Int)) = True := eq_true (by rw [← List.length_drop]; exact q198); obtain ⟨ad198, e198, hx198_0⟩ := Kd.at_int HR197.out x22_2 p198 q198; cases e198; replace hx198_0 := (HB.out.cell (World.block_lt_of_cell? w _ hx198_0)).trans hx198_0; replace p198 := eq_true p198; replace q198 := eq_true q198
              go_wp2_with (first | ((with_reducible refine gate_callee (f := 43) rfl ?_); refine goesL_ (some 29) rfl rfl Try.func43 (by kernel_rfl) rfl #[.slice A0 l0.length c0, .int .i64 (rd l1 x12_1), .int .i64 (rd (l1.drop ((ji6) : Int).toNat) x22_2)] rfl (by (try simp only [List.map_toArray, List.map_cons, List.map_nil]); first | done | (simp only [hji6]; rfl) | rfl | (simp only [List.length_drop, List.length_take]; rfl)) ?_; (with_reducible refine (spec_doDoor.calls _ _ l0 (rd l1 x12_1) (rd (l1.drop ((ji6) : Int).toNat) x22_2) false _ ?side1 ?side2 A13.out).mono ?_); (case side1 => repeat (first | exact (Kd.C_below HR0.out HB.out) | (with_reducible refine Kd.C_alloc ?_ _) | (with_reducible refine Kd.C_drewN ?_ _) | (with_reducible refine Kd.C_drew ?_))); (case side2 => exact HC0.out); rintro e w' ⟨rfl, ⟨nd, rfl⟩⟩; refine ⟨_, rfl, ?_⟩))
              go_roundg k2
              case measure => have := HK1.out; have := HK2.out; omega
              case rel => exact ⟨(x5_2), (wrap64 (x22_2 + 1)), RF, H', ⟨by have := HK1.out; have := HK2.out; omega⟩, ⟨KS HO_5⟩, ⟨BB⟩⟩
            ·rw [if_neg c12] at H
             exact absurd H (by simp)
           ·rw [if_neg c11] at H
            exact absurd H (by simp)
          ·rw [if_neg c10] at H
           have c10b0 : decide (x22_2 < ((l1.drop ((ji6) : Int).toNat).length : Int)) = false := decide_eq_false c10; have c10bd : decide (x22_2 < ((l1.length - ((ji6) : Int).toNat : Nat) : Int)) = false := by rw [← List.length_drop]; exact c10b0
           clear c10; have H' := Aside0.mk H; clear H
           go_wp2
           go_roundg k2
           case measure => have := HK1.out; have := HK2.out; omega
           case rel => exact ⟨(x5_2), (wrap64 (x12_1 + 1)), RF, H', ⟨by have := HK1.out; have := HK2.out; omega⟩, ⟨KS HO_5⟩, ⟨BB⟩⟩
       ·rw [if_neg c8] at H
        exact absurd H (by simp)
      ·rw [if_neg c7] at H
       exact absurd H (by simp)
     ·rw [if_neg c5] at H
      exact absurd H (by simp)
    ·rw [if_neg c4] at H
     exact absurd H (by simp)
   ·rw [if_neg c3] at H
    have c3b0 : decide (x12_1 < (l1.length : Int)) = false := decide_eq_false c3; clear c3; obtain rfl := Option.some.inj H
    go_wp2
    go_ret
    exact ⟨_, by first | rfl | (simp [errW_none, errW_some] <;> rfl) | (simp [*, errW_none, errW_some] <;> rfl), KS HO_5, BB⟩

mutual
def spec_doWalk.l0 : Nat → List (List Int) → List Int → List Int → Int → List Int → Option (List Int × List Int)
 | 0, _, _, _, _, _ => none
 | k + 1, x0, x1, x2, x3, x10 => if x3 ≥ 0 then (spec_doWalk.j1 k x0 x1 x2 x3 x10 (decide ((x10.length : Int) ≤ (x0.length : Int)))) else (spec_doWalk.j1 k x0 x1 x2 x3 x10 false)
def spec_doWalk.j1 : Nat → List (List Int) → List Int → List Int → Int → List Int → Bool → Option (List Int × List Int)
 | 0, _, _, _, _, _, _ => none
 | k + 1, x0, x1, x2, x3, x10, x21 => if x21 = true then (if x10.length < 17592186044416 then ((some (x10 ++ [x3] : List Int)).bind fun y206 => (if 0 ≤ x3 then (if x3 < (x0.length : Int) then ((spec_doFull.f k x1 (rd_L1 x0 x3)).bind fun t210 => (if t210 = true then (some (y206, x2)) else ((spec_doOfCell.f k x1 (rd_L1 x0 x3)).bind fun t212 => (spec_doWalk.l1 k x0 x1 x2 x3 y206 t212 (t212.length : Int) 0)))) else (none)) else (none))) else (none)) else (some (x10, x2))
def spec_doWalk.l1 : Nat → List (List Int) → List Int → List Int → Int → List Int → List (List Int) → Int → Int → Option (List Int × List Int)
 | 0, _, _, _, _, _, _, _, _ => none
 | k + 1, x0, x1, x2, x3, x10, x37, x38, x39 => if x39 < x38 then (if 0 ≤ x39 then (if x39 < (x37.length : Int) then ((spec_l1Same.f k (rd_L1 x37 x39) x2).bind fun t216 => (if t216 = true then (spec_doWalk.l1 k x0 x1 x2 x3 x10 x37 x38 (wrap64 (x39 + 1))) else ((spec_doNext.f k x0 (rd_L1 x37 x39) x3).bind fun t217 => (spec_doWalk.l0 k x0 x1 (rd_L1 x37 x39) t217 x10)))) else (none)) else (none)) else ((spec_doNext.f k x0 x2 x3).bind fun t218 => (spec_doWalk.l0 k x0 x1 x2 t218 x10))
end
def spec_doWalk.f (k : Nat) (l0 : List (List Int)) (l1 : List Int) (l2 : List Int) (a3 : Int) : Option (List Int × List Int) := spec_doWalk.l0 k l0 l1 l2 a3 ([] : List Int)
theorem spec_doWalk.mono_l : ∀ k, (∀ y0 y1 y2 y3 y4, LeO (spec_doWalk.l0 k y0 y1 y2 y3 y4) (spec_doWalk.l0 (k + 1) y0 y1 y2 y3 y4)) ∧ (∀ y0 y1 y2 y3 y4 y5, LeO (spec_doWalk.j1 k y0 y1 y2 y3 y4 y5) (spec_doWalk.j1 (k + 1) y0 y1 y2 y3 y4 y5)) ∧ (∀ y0 y1 y2 y3 y4 y5 y6 y7, LeO (spec_doWalk.l1 k y0 y1 y2 y3 y4 y5 y6 y7) (spec_doWalk.l1 (k + 1) y0 y1 y2 y3 y4 y5 y6 y7))
 | 0 => ⟨fun _ _ _ _ _ r h => by simp [spec_doWalk.l0] at h, fun _ _ _ _ _ _ r h => by simp [spec_doWalk.j1] at h, fun _ _ _ _ _ _ _ _ r h => by simp [spec_doWalk.l1] at h⟩
 | k + 1 => by
  obtain ⟨ih0, ih1, ih2⟩ := spec_doWalk.mono_l k
  refine ⟨?_, ?_, ?_⟩
  ·intro y0 y1 y2 y3 y4
   unfold spec_doWalk.l0
   repeat' first
   | (with_reducible exact ih0 _ _ _ _ _)
   | (with_reducible exact ih1 _ _ _ _ _ _)
   | (with_reducible exact ih2 _ _ _ _ _ _ _ _)
   | (with_reducible exact spec_doFull.mono _ _ _)
   | (with_reducible exact spec_doNext.mono _ _ _ _)
   | (with_reducible exact spec_doOfCell.mono _ _ _)
   | (with_reducible exact spec_l1Same.mono _ _ _)
   | (with_reducible exact LeO.refl _)
   | (with_reducible exact LeO.none _)
   | (with_reducible refine LeO.ite ?_ ?_)
   | (with_reducible refine LeO.bind ?_ (fun _ => ?_))
   | exact ih0 _ _ _ _ _
   | exact ih1 _ _ _ _ _ _
   | exact ih2 _ _ _ _ _ _ _ _
   | exact spec_doFull.mono _ _ _
   | exact spec_doNext.mono _ _ _ _
   | exact spec_doOfCell.mono _ _ _
   | exact spec_l1Same.mono _ _ _
   | exact LeO.none _
   | refine LeO.ite ?_ ?_
   | refine LeO.bind ?_ (fun _ => ?_)
  ·intro y0 y1 y2 y3 y4 y5
   unfold spec_doWalk.j1
   repeat' first
   | (with_reducible exact ih0 _ _ _ _ _)
   | (with_reducible exact ih1 _ _ _ _ _ _)
   | (with_reducible exact ih2 _ _ _ _ _ _ _ _)
   | (with_reducible exact spec_doFull.mono _ _ _)
   | (with_reducible exact spec_doNext.mono _ _ _ _)
   | (with_reducible exact spec_doOfCell.mono _ _ _)
   | (with_reducible exact spec_l1Same.mono _ _ _)
   | (with_reducible exact LeO.refl _)
   | (with_reducible exact LeO.none _)
   | (with_reducible refine LeO.ite ?_ ?_)
   | (with_reducible refine LeO.bind ?_ (fun _ => ?_))
   | exact ih0 _ _ _ _ _
   | exact ih1 _ _ _ _ _ _
   | exact ih2 _ _ _ _ _ _ _ _
   | exact spec_doFull.mono _ _ _
   | exact spec_doNext.mono _ _ _ _
   | exact spec_doOfCell.mono _ _ _
   | exact spec_l1Same.mono _ _ _
   | exact LeO.none _
   | refine LeO.ite ?_ ?_
   | refine LeO.bind ?_ (fun _ => ?_)
  ·intro y0 y1 y2 y3 y4 y5 y6 y7
   unfold spec_doWalk.l1
   repeat' first
   | (with_reducible exact ih0 _ _ _ _ _)
   | (with_reducible exact ih1 _ _ _ _ _ _)
   | (with_reducible exact ih2 _ _ _ _ _ _ _ _)
   | (with_reducible exact spec_doFull.mono _ _ _)
   | (with_reducible exact spec_doNext.mono _ _ _ _)
   | (with_reducible exact spec_doOfCell.mono _ _ _)
   | (with_reducible exact spec_l1Same.mono _ _ _)
   | (with_reducible exact LeO.refl _)
   | (with_reducible exact LeO.none _)
   | (with_reducible refine LeO.ite ?_ ?_)
   | (with_reducible refine LeO.bind ?_ (fun _ => ?_))
   | exact ih0 _ _ _ _ _
   | exact ih1 _ _ _ _ _ _
   | exact ih2 _ _ _ _ _ _ _ _
   | exact spec_doFull.mono _ _ _
   | exact spec_doNext.mono _ _ _ _
   | exact spec_doOfCell.mono _ _ _
   | exact spec_l1Same.mono _ _ _
   | exact LeO.none _
   | refine LeO.ite ?_ ?_
   | refine LeO.bind ?_ (fun _ => ?_)
theorem spec_doWalk.mono : ∀ a0 a1 a2 a3 k, LeO (spec_doWalk.f k a0 a1 a2 a3) (spec_doWalk.f (k + 1) a0 a1 a2 a3) := by
 intro a0 a1 a2 a3 k
 obtain ⟨ih0, ih1, ih2⟩ := spec_doWalk.mono_l k
 unfold spec_doWalk.f
 repeat' first
   | (with_reducible exact ih0 _ _ _ _ _)
   | (with_reducible exact ih1 _ _ _ _ _ _)
   | (with_reducible exact ih2 _ _ _ _ _ _ _ _)
   | (with_reducible exact spec_doFull.mono _ _ _)
   | (with_reducible exact spec_doNext.mono _ _ _ _)
   | (with_reducible exact spec_doOfCell.mono _ _ _)
   | (with_reducible exact spec_l1Same.mono _ _ _)
   | (with_reducible exact LeO.refl _)
   | (with_reducible exact LeO.none _)
   | (with_reducible refine LeO.ite ?_ ?_)
   | (with_reducible refine LeO.bind ?_ (fun _ => ?_))
   | exact ih0 _ _ _ _ _
   | exact ih1 _ _ _ _ _ _
   | exact ih2 _ _ _ _ _ _ _ _
   | exact spec_doFull.mono _ _ _
   | exact spec_doNext.mono _ _ _ _
   | exact spec_doOfCell.mono _ _ _
   | exact spec_l1Same.mono _ _ _
   | exact LeO.none _
   | refine LeO.ite ?_ ?_
   | refine LeO.bind ?_ (fun _ => ?_)
set_option maxHeartbeats 8000000 in
set_option maxRecDepth 100000 in
theorem spec_doWalk.calls (k : Nat) (A0 : Option Addr) (c0 : Nat) (l0 : List (List Int)) (A1 : Option Addr) (c1 : Nat) (l1 : List Int) (P2_ : Nat → Prop) (A2 : Option Addr) (c2 : Nat) (l2 : List Int) (a3 : Int) (r1 : List Int) (r2 : List Int) (w : World) (hr0 : Kd.C (Kd.slice 3 (Kd.int .i64)) w A0 l0.length l0) (hc0 : l0.length ≤ c0) (hr1 : Kd.C (Kd.int .i64) w A1 l1.length l1) (hc1 : l1.length ≤ c1) (hs2 : Kd.V (Kd.int .i64) 3 w w.heap.size (fun k_ => P2_ k_) (.slice A2 l2.length c2) l2) (h : spec_doWalk.f k l0 l1 l2 a3 = some (r1, r2)) :
  Calls Try.prog 44 #[.slice A0 l0.length c0, .slice A1 l1.length c1, .slice A2 l2.length c2, .int .i64 a3] w fun e w' => ∃ v0_ v1_ : Value, e = .returned (.tuple #[v0_, v1_]) ∧ Kd.R (Kd.int .i64) 3 w' w.heap.size (fun k_ => (w.heap.size ≤ k_)) v0_ r1 ∧ Kd.V (Kd.int .i64) 3 w' w.heap.size (fun k_ => (P2_ k_ ∨ w.heap.size ≤ k_) ∧ some k_ ≠ (v0_ : Value).ownBlock) v1_ r2 ∧ Below w.heap.size w w' := by
 have HR0 := Aside0.mk hr0; have HC0 := Aside0.mk hc0; clear hr0 hc0; have HR1 := Aside0.mk hr1; have HC1 := Aside0.mk hc1; clear hr1 hc1; have HO2 := Aside0.mk (show Kd.V (Kd.int .i64) 3 w w.heap.size (fun k_ => (P2_ k_ ∨ w.heap.size ≤ k_)) (.slice A2 l2.length c2) l2 from Kd.V_mono hs2 (fun k_ hk => .inl hk)); have HB := Aside0.mk (Below.refl w.heap.size w); have H : (spec_doWalk.l0 k l0 l1 l2 a3 ([] : List Int)) = some (r1, r2) := h; clear h; have H' := Aside0.mk H; clear H
 go_enter Try.func44, Try.ntmps44
 go_wp2
 go_loopg [2, 3, 10] k (fun kq v2 v3 v10 w' => ∃ (x2_1 : List Int) (x3_1 : Int) (x10_1 : List Int), v3 = .int .i64 x3_1 ∧ Aside0 (spec_doWalk.l0 kq l0 l1 x2_1 x3_1 x10_1 = some (r1, r2)) ∧ Aside0 (kq ≤ k) ∧ Aside0 (Kd.V (Kd.int .i64) 3 w' w.heap.size (fun k_ => (P2_ k_ ∨ w.heap.size ≤ k_) ∧ some k_ ≠ (v10 : Value).ownBlock) v2 x2_1) ∧ Aside0 (Kd.R (Kd.int .i64) 3 w' w.heap.size (fun k_ => (w.heap.size ≤ k_)) v10 x10_1) ∧ Aside0 (Below w.heap.size w w'))
 case atStart => exact ⟨(l2), (a3), (([] : List Int)), RF, H', ⟨Nat.le_refl _⟩, ⟨by (with_reducible repeat (first | apply Kd.V_alloc | apply Kd.V_drewN | apply Kd.V_drew)); exact Kd.V_mono HO2.out (fun _ hk => ⟨hk, (by simp [Value.ownBlock])⟩)⟩, ⟨by first | exact Kd.R_nil _ _ _ _ _ | exact Kd.N_nil _ _ _ _ _ | exact Kd.V_nil _ _ _ _ _ | exact Kd.Q_nil _ _ _ _ _ | exact Kd.S_nil _ _ _ _ _⟩, ⟨BB⟩⟩
 case round =>
  clear H'
  try clear c1
  try clear c2
  try clear p2
  try clear c4
  obtain ⟨x2_1, x3_1, x10_1, rfl, HA, HK1, HO_2, HO_10, HB⟩ := hrel; cases gk with
  | zero => exact absurd HA.out (by simp [spec_doWalk.l0])
  | succ k1 =>
   have H := HA.out; clear HA
   simp only [spec_doWalk.l0] at H
   have HC5 := Aside0.mk H; clear H
   go_upto_region 2 with (fail)
   go_cut [21] (fun v21 wc => ∃ (kq : Nat) (x21_4 : Bool), v21 = .bool x21_4 ∧ Aside0 (spec_doWalk.j1 kq l0 l1 x2_1 x3_1 x10_1 x21_4 = some (r1, r2)) ∧ Aside0 (kq ≤ k1) ∧ Aside0 (Kd.V (Kd.int .i64) 3 wc w.heap.size (fun k_ => (P2_ k_ ∨ w.heap.size ≤ k_) ∧ some k_ ≠ (u10 : Value).ownBlock) u2 x2_1) ∧ Aside0 (Kd.R (Kd.int .i64) 3 wc w.heap.size (fun k_ => (w.heap.size ≤ k_)) u10 x10_1) ∧ Aside0 (Below w.heap.size w wc))
   case first =>
    have H := HC5.out; clear HC5
    by_cases c6 : x3_1 ≥ 0
    ·rw [if_pos c6] at H
     have c6b0 : decide (0 ≤ x3_1) = true := decide_eq_true c6; clear c6
     (first | rw [c6b0] | (simp only [i64_w, i32_w]; rw [c6b0]) | skip)
     have H' := Aside0.mk H; clear H; obtain ⟨Ao7, co7, eo7⟩ := Kd.R_slice HO_10.out; subst eo7
     go_wp2
     go_meet
     case rel => exact ⟨_, (decide ((x10_1.length : Int) ≤ (l0.length : Int))), RF, H', ⟨by have := HK1.out; first | omega | exact Nat.le_refl _⟩, ⟨by (with_reducible repeat (first | apply Kd.V_alloc | apply Kd.V_drewN | apply Kd.V_drew)); exact HO_2.out⟩, ⟨KR HO_10⟩, ⟨BB⟩⟩
    ·rw [if_neg c6] at H
     have c6b0 : decide (0 ≤ x3_1) = false := decide_eq_false c6; clear c6
     (first | rw [c6b0] | (simp only [i64_w, i32_w]; rw [c6b0]) | skip)
     have H' := Aside0.mk H; clear H
     go_wp2
     go_meet
     case rel => exact ⟨_, (false), RF, H', ⟨by have := HK1.out; first | omega | exact Nat.le_refl _⟩, ⟨by (with_reducible repeat (first | apply Kd.V_alloc | apply Kd.V_drewN | apply Kd.V_drew)); exact HO_2.out⟩, ⟨KR HO_10⟩, ⟨BB⟩⟩
   case rest =>
    clear HC5
    try clear c1
    try clear c2
    try clear p2
    try clear c4
    try clear c6
    try clear c6b0
    try clear p6
    try clear p2
    obtain ⟨kq, x21_4, rfl, HA, HJ4, HO_2, HO_10, HB⟩ := hcut; cases kq with
    | zero => exact absurd HA.out (by simp [spec_doWalk.j1])
    | succ kj4 =>
     have H := HA.out; clear HA
     simp only [spec_doWalk.j1] at H
     by_cases c8 : x21_4 = true
     ·subst c8
      have H1 : (if x10_1.length < 17592186044416 then ((some (x10_1 ++ [x3_1] : List Int)).bind fun y206 => (if 0 ≤ x3_1 then (if x3_1 < (l0.length : Int) then ((spec_doFull.f kj4 l1 (rd_L1 l0 x3_1)).bind fun t210 => (if t210 = true then (some (y206, x2_1)) else ((spec_doOfCell.f kj4 l1 (rd_L1 l0 x3_1)).bind fun t212 => (spec_doWalk.l1 kj4 l0 l1 x2_1 x3_1 y206 t212 (t212.length : Int) 0)))) else (none)) else (none))) else (none)) = some (r1, r2) := by rw [if_pos rfl] at H; exact H
      clear H; have H := H1; clear H1
      by_cases c9 : x10_1.length < 17592186044416
      ·rw [if_pos c9] at H
       have LMc9 := Aside0.mk c9; clear c9; obtain ⟨y206, hy206⟩ : ∃ y_ : List Int, y_ = (x10_1 ++ [x3_1]) := ⟨_, rfl⟩; replace H : (if 0 ≤ x3_1 then (if x3_1 < (l0.length : Int) then ((spec_doFull.f kj4 l1 (rd_L1 l0 x3_1)).bind fun t210 => (if t210 = true then (some (y206, x2_1)) else ((spec_doOfCell.f kj4 l1 (rd_L1 l0 x3_1)).bind fun t212 => (spec_doWalk.l1 kj4 l0 l1 x2_1 x3_1 y206 t212 (t212.length : Int) 0)))) else (none)) else (none)) = some (r1, r2) := by first | (rw [hy206]; with_reducible exact H) | (have H2_ := (Option.bind_some _ _).symm.trans H; rw [hy206]; with_reducible exact H2_) | (have H2_ := (Option.bind_some _ _).symm.trans H; with_reducible exact H2_) | with_reducible exact H | (rw [hy206]; exact H) | exact H
       have Ny206 := Aside0.mk hy206; clear hy206
       by_cases c10 : 0 ≤ x3_1
       ·rw [if_pos c10] at H
        have c10b0 : decide (0 ≤ x3_1) = true := decide_eq_true c10; clear c10
        by_cases c11 : x3_1 < (l0.length : Int)
        ·rw [if_pos c11] at H
         have c11b0 : decide (x3_1 < (l0.length : Int)) = true := decide_eq_true c11; clear c11; replace H := Option.bind_eq_some_iff.mp H; obtain ⟨t210, A120, H⟩ := H; replace H : (if t210 = true then (some (y206, x2_1)) else ((spec_doOfCell.f kj4 l1 (rd_L1 l0 x3_1)).bind fun t212 => (spec_doWalk.l1 kj4 l0 l1 x2_1 x3_1 y206 t212 (t212.length : Int) 0))) = some (r1, r2) := H; have A12 := Aside0.mk A120; clear A120
         by_cases c13 : t210 = true
         ·subst c13
          have H1 : (some (y206, x2_1)) = some (r1, r2) := by rw [if_pos rfl] at H; exact H
          clear H; have H := H1; clear H1
          simp only [Option.some.injEq, Prod.mk.injEq] at H
          obtain ⟨rfl, rfl⟩ := H
          go_wp2_with (first | ((with_reducible refine gate_builtin (b := .append) (xs := #[.tmp 22, .tmp 24]) rfl ?_); (try (refine gate_guard (by rfl) ?_; dsimp only)); at_builtin; refine Kd.R_append (Kd.int .i64) (w0 := w) w.heap.size rfl (.tmp 22) (.tmp 24) 22 3 (.int .i64 0) 8 rfl Try.underlying22 info3 rfl (by decide) (by omega) u10 x10_1 x3_1 [.int .i64 x3_1] (fun k_ => (w.heap.size ≤ k_)) (fun _ => False) rfl rfl ?aP (fun _ hk => hk.elim) ?aF ?aO ?aB ?aS ?aL ?_; (case aP => exact rfl); (case aB => exact BB); (case aF => exact (fun k_ hk => (Nat.le_trans (below_size BB) hk))); (case aO => exact (KR HO_10)); (case aS => exact (below_size BB)); (case aL => have := LMc9.out; omega); intro v207 w14 ho hb hg hat; rw [← Ny206.out] at ho; have n0_ := Aside0.mk (Kd.V_afterv (ok := (fun k_ => (P2_ k_ ∨ w.heap.size ≤ k_))) (by (with_reducible repeat (first | apply Kd.V_alloc | apply Kd.V_drewN | apply Kd.V_drew)); exact HO_2.out) hg hat); have n1_ := Aside0.mk (hb); have n2_ := Aside0.mk (ho); clear HO_2; clear HB; clear HO_10; have HO_2 := n0_; have HB := n1_; have HO208 := n2_; clear n0_ n1_ n2_; clear ho hb hg hat; have p209 : 0 ≤ (x3_1 : Int) := of_decide_eq_true AS; have q209 : x3_1 < (l0.length : Int) := of_decide_eq_true AS; obtain ⟨ad209, A209_0, c209_0, e209, hx209_0, hl209_0, hi209_0⟩ := at_L1 HR0.out x3_1 p209 q209; cases e209; replace hx209_0 := (HB.out.cell (World.block_lt_of_cell? w _ hx209_0)).trans hx209_0; have HR209_0 := Aside0.mk hi209_0; have HC209_0 := Aside0.mk hl209_0; clear hi209_0 hl209_0; replace p209 := eq_true p209; replace q209 := eq_true q209) | ((with_reducible refine gate_callee (f := 23) rfl ?_); refine goesL_ (some 31) rfl rfl Try.func23 (by kernel_rfl) rfl #[.slice A1 l1.length c1, .slice A209_0 (rd_L1 l0 x3_1).length c209_0] rfl TA ?_; (with_reducible refine (spec_doFull.calls kj4 _ _ l1 _ _ (rd_L1 l0 x3_1) true _ ?side1 ?side2 ?side3 ?side4 A12.out).mono ?_); (case side1 => repeat (first | exact (Kd.C_below HR1.out HB.out) | (with_reducible refine Kd.C_alloc ?_ _) | (with_reducible refine Kd.C_drewN ?_ _) | (with_reducible refine Kd.C_drew ?_))); (case side2 => exact HC1.out); (case side3 => repeat (first | exact (Kd.C_below HR209_0.out HB.out) | (with_reducible refine Kd.C_alloc ?_ _) | (with_reducible refine Kd.C_drewN ?_ _) | (with_reducible refine Kd.C_drew ?_))); (case side4 => exact HC209_0.out); rintro e w' ⟨rfl, ⟨nd, rfl⟩⟩; refine ⟨_, rfl, ?_⟩))
          go_ret2
          exact ⟨_, _, by first | rfl | (simp [errW_none, errW_some] <;> rfl) | (simp [*, errW_none, errW_some] <;> rfl), KR HO208, by (with_reducible repeat (first | apply Kd.V_alloc | apply Kd.V_drewN | apply Kd.V_drew)); exact HO_2.out, BB⟩
         ·replace c13 := Bool.eq_false_iff.mpr c13
          subst c13; have H1 : ((spec_doOfCell.f kj4 l1 (rd_L1 l0 x3_1)).bind fun t212 => (spec_doWalk.l1 kj4 l0 l1 x2_1 x3_1 y206 t212 (t212.length : Int) 0)) = some (r1, r2) := by rw [if_neg (show ¬ (false = true) by decide)] at H; exact H
          clear H; have H := H1; clear H1; replace H := Option.bind_eq_some_iff.mp H; obtain ⟨t212, A150, H⟩ := H; replace H : (spec_doWalk.l1 kj4 l0 l1 x2_1 x3_1 y206 t212 (t212.length : Int) 0) = some (r1, r2) := H; have A15 := Aside0.mk A150; clear A150; have H' := Aside0.mk H; clear H
          go_wp2_with (first | ((with_reducible refine gate_builtin (b := .append) (xs := #[.tmp 22, .tmp 24]) rfl ?_); (try (refine gate_guard (by rfl) ?_; dsimp only)); at_builtin; refine Kd.R_append (Kd.int .i64) (w0 := w) w.heap.size rfl (.tmp 22) (.tmp 24) 22 3 (.int .i64 0) 8 rfl Try.underlying22 info3 rfl (by decide) (by omega) u10 x10_1 x3_1 [.int .i64 x3_1] (fun k_ => (w.heap.size ≤ k_)) (fun _ => False) rfl rfl ?aP (fun _ hk => hk.elim) ?aF ?aO ?aB ?aS ?aL ?_; (case aP => exact rfl); (case aB => exact BB); (case aF => exact (fun k_ hk => (Nat.le_trans (below_size BB) hk))); (case aO => exact (KR HO_10)); (case aS => exact (below_size BB)); (case aL => have := LMc9.out; omega); intro v207 w16 ho hb hg hat; rw [← Ny206.out] at ho; have n0_ := Aside0.mk (Kd.V_afterv (ok := (fun k_ => (P2_ k_ ∨ w.heap.size ≤ k_))) (by (with_reducible repeat (first | apply Kd.V_alloc | apply Kd.V_drewN | apply Kd.V_drew)); exact HO_2.out) hg hat); have n1_ := Aside0.mk (hb); have n2_ := Aside0.mk (ho); clear HO_2; clear HB; clear HO_10; have HO_2 := n0_; have HB := n1_; have HO208 := n2_; clear n0_ n1_ n2_; clear ho hb hg hat; have p209 : 0 ≤ (x3_1 : Int) := of_decide_eq_true AS; have q209 : x3_1 < (l0.length : Int) := of_decide_eq_true AS; obtain ⟨ad209, A209_0, c209_0, e209, hx209_0, hl209_0, hi209_0⟩ := at_L1 HR0.out x3_1 p209 q209; cases e209; replace hx209_0 := (HB.out.cell (World.block_lt_of_cell? w _ hx209_0)).trans hx209_0; have HR209_0 := Aside0.mk hi209_0; have HC209_0 := Aside0.mk hl209_0; clear hi209_0 hl209_0; replace p209 := eq_true p209; replace q209 := eq_true q209) | ((with_reducible refine gate_callee (f := 23) rfl ?_); refine goesL_ (some 31) rfl rfl Try.func23 (by kernel_rfl) rfl #[.slice A1 l1.length c1, .slice A209_0 (rd_L1 l0 x3_1).length c209_0] rfl TA ?_; (with_reducible refine (spec_doFull.calls kj4 _ _ l1 _ _ (rd_L1 l0 x3_1) false _ ?side1 ?side2 ?side3 ?side4 A12.out).mono ?_); (case side1 => repeat (first | exact (Kd.C_below HR1.out HB.out) | (with_reducible refine Kd.C_alloc ?_ _) | (with_reducible refine Kd.C_drewN ?_ _) | (with_reducible refine Kd.C_drew ?_))); (case side2 => exact HC1.out); (case side3 => repeat (first | exact (Kd.C_below HR209_0.out HB.out) | (with_reducible refine Kd.C_alloc ?_ _) | (with_reducible refine Kd.C_drewN ?_ _) | (with_reducible refine Kd.C_drew ?_))); (case side4 => exact HC209_0.out); rintro e w' ⟨rfl, ⟨nd, rfl⟩⟩; refine ⟨_, rfl, ?_⟩; have p211 : 0 ≤ (x3_1 : Int) := of_decide_eq_true AS; have q211 : x3_1 < (l0.length : Int) := of_decide_eq_true AS; obtain ⟨ad211, A211_0, c211_0, e211, hx211_0, hl211_0, hi211_0⟩ := at_L1 HR0.out x3_1 p211 q211; obtain rfl : ad209 = ad211 := (by injection e211); replace hx211_0 := (HB.out.cell (World.block_lt_of_cell? w _ hx211_0)).trans hx211_0; have HR211_0 := Aside0.mk hi211_0; have HC211_0 := Aside0.mk hl211_0; clear hi211_0 hl211_0; replace p211 := eq_true p211; replace q211 := eq_true q211; have ea_ := Option.some.inj (hx209_0.symm.trans hx211_0); injection ea_ with ea_ en_ ec_; subst ea_; subst ec_; clear en_) | ((with_reducible refine gate_callee (f := 60) rfl ?_); refine goesL_ (some 37) rfl rfl Try.func60 (by kernel_rfl) rfl #[.slice A1 l1.length c1, .slice A209_0 (rd_L1 l0 x3_1).length c209_0] rfl TA ?_; (with_reducible refine (spec_doOfCell.calls kj4 _ _ l1 _ _ (rd_L1 l0 x3_1) t212 _ ?side1 ?side2 ?side3 ?side4 A15.out).mono ?_); (case side1 => repeat (first | exact (Kd.C_below HR1.out BB) | (with_reducible refine Kd.C_alloc ?_ _) | (with_reducible refine Kd.C_drewN ?_ _) | (with_reducible refine Kd.C_drew ?_))); (case side2 => exact HC1.out); (case side3 => repeat (first | exact (Kd.C_below HR211_0.out BB) | (with_reducible refine Kd.C_alloc ?_ _) | (with_reducible refine Kd.C_drewN ?_ _) | (with_reducible refine Kd.C_drew ?_))); (case side4 => exact HC211_0.out); rintro e w17 ⟨v213, rfl, ho0, hb⟩; refine ⟨_, rfl, ?_⟩; have n0_ := Aside0.mk (Kd.V_elder' (by (with_reducible repeat (first | apply Kd.V_alloc | apply Kd.V_drewN | apply Kd.V_drew)); exact HO_2.out) (Kd.S_base ho0) hb); have n1_ := Aside0.mk (Kd.R_below (KR HO208) hb); have n2_ := Aside0.mk (Kd.S_lower (Kd.S_new' (Kd.S_newM (M := fun k_ => (w.heap.size ≤ k_)) ho0 (below_size BB) (fun k_ h_ => h_)) (Kd.R_lt (KR HO208))) (below_size BB)); have n3_ := Aside0.mk (below_step BB hb); clear HO_2; clear HO208; clear HB; have HO_2 := n0_; have HO208 := n1_; have HO214 := n2_; have HB := n3_; clear n0_ n1_ n2_ n3_; (try clear hb); (try clear hb2); (try clear hk); (try clear hi); (try clear ho0); obtain ⟨Ao18, co18, eo18⟩ := Kd.S_slice HO214.out; subst eo18))
          go_loopg [2, 39] kj4 (fun kq v2 v39 w' => ∃ (x2_3 : List Int) (x39_3 : Int), v39 = .int .i64 x39_3 ∧ Aside0 (spec_doWalk.l1 kq l0 l1 x2_3 x3_1 y206 t212 (t212.length : Int) x39_3 = some (r1, r2)) ∧ Aside0 (kq ≤ kj4) ∧ Aside0 (Kd.V (Kd.int .i64) 3 w' w.heap.size (fun k_ => (P2_ k_ ∨ w.heap.size ≤ k_) ∧ some k_ ≠ (v207 : Value).ownBlock ∧ some k_ ≠ ((.slice Ao18 t212.length co18) : Value).ownBlock) v2 x2_3) ∧ Aside0 (Kd.R (Kd.int .i64) 3 w' w.heap.size (fun k_ => (w.heap.size ≤ k_)) v207 y206) ∧ Aside0 (Kd.S (Kd.slice 3 (Kd.int .i64)) 22 w' w.heap.size (fun k_ => (w.heap.size ≤ k_) ∧ some k_ ≠ (v207 : Value).ownBlock) (.slice Ao18 t212.length co18) t212) ∧ Aside0 (Below w.heap.size w w'))
          case atStart => exact ⟨(x2_1), (0), RF, H', ⟨Nat.le_refl _⟩, ⟨by (with_reducible repeat (first | apply Kd.V_alloc | apply Kd.V_drewN | apply Kd.V_drew)); exact Kd.V_mono HO_2.out (fun _ hk => ⟨hk.1.1, ⟨hk.1.2, hk.2⟩⟩)⟩, ⟨KR HO208⟩, ⟨by (with_reducible repeat (first | apply Kd.S_alloc | apply Kd.S_drewN | apply Kd.S_drew)); exact Kd.S_mono HO214.out (fun _ hk => ⟨hk.1.1, hk.2⟩)⟩, ⟨BB⟩⟩
          case round =>
           clear H'
           try clear c1
           try clear c2
           try clear p2
           try clear q2
           try clear hx2
           try clear c4
           try clear c6
           try clear c6b0
           try clear p6
           try clear c8
           try clear c9
           try clear c10
           try clear c10b0
           try clear c11
           try clear c11b0
           try clear c13
           try clear hx209_0
           try clear hx211_0
           try clear p2
           try clear p209
           try clear p211
           try clear p6
           try clear q209
           try clear q211
           obtain ⟨x2_3, x39_3, rfl, HA, HK3, HO_2, HO_10, HO_37, HB⟩ := hrel; cases gk with
           | zero => exact absurd HA.out (by simp [spec_doWalk.l1])
           | succ k3 =>
            have H := HA.out; clear HA
            simp only [spec_doWalk.l1] at H
            by_cases c19 : x39_3 < (t212.length : Int)
            ·rw [if_pos c19] at H
             have c19b0 : decide (x39_3 < (t212.length : Int)) = true := decide_eq_true c19; clear c19
             by_cases c20 : 0 ≤ x39_3
             ·rw [if_pos c20] at H
              have c20b0 : decide (0 ≤ x39_3) = true := decide_eq_true c20; clear c20
              by_cases c21 : x39_3 < (t212.length : Int)
              ·rw [if_pos c21] at H
               have c21b0 : decide (x39_3 < (t212.length : Int)) = true := decide_eq_true c21; clear c21; replace H := Option.bind_eq_some_iff.mp H; obtain ⟨t216, A220, H⟩ := H; replace H : (if t216 = true then (spec_doWalk.l1 k3 l0 l1 x2_3 x3_1 y206 t212 (t212.length : Int) (wrap64 (x39_3 + 1))) else ((spec_doNext.f k3 l0 (rd_L1 t212 x39_3) x3_1).bind fun t217 => (spec_doWalk.l0 k3 l0 l1 (rd_L1 t212 x39_3) t217 y206))) = some (r1, r2) := H; have A22 := Aside0.mk A220; clear A220
               by_cases c23 : t216 = true
               ·subst c23
                have H1 : (spec_doWalk.l1 k3 l0 l1 x2_3 x3_1 y206 t212 (t212.length : Int) (wrap64 (x39_3 + 1))) = some (r1, r2) := by rw [if_pos rfl] at H; exact H
                clear H; have H := H1; clear H1; have H' := Aside0.mk H; clear H; have p215 : 0 ≤ (x39_3 : Int) := of_decide_eq_true AS; have q215 : x39_3 < (t212.length : Int) := of_decide_eq_true AS; obtain ⟨ad215, A215_0, c215_0, e215, hx215_0, hl215_0, hi215_0⟩ := at_L1 (Kd.S_reads' HO_37.out).2.2 x39_3 p215 q215; cases e215; obtain ⟨ce215, hce215, hMe215, hcc215⟩ := Kd.S_get HO_37.out [] x39_3 p215 (by first | exact q215 | exact of_decide_eq_true AS | (have e_ := (Kd.S_reads' HO_37.out).1; omega)); obtain ⟨ve215_0, rfl, ge215_0⟩ := hMe215; have hv215_0 := hcc215 0 _ rfl; rw [Nat.add_zero, show ((Kd.slice 3 (Kd.int .i64))).sz = 1 from rfl, Nat.mul_one] at hv215_0; replace hv215_0 := Option.some.inj (hv215_0.symm.trans hx215_0); rw [hv215_0] at ge215_0; have HL215_0 := Aside0.mk (show Kd.R (Kd.int .i64) 3 _ _ _ _ (rd_L1 t212 x39_3) from ge215_0); clear hv215_0 ge215_0; clear hcc215 hce215; have HR215_0 := Aside0.mk hi215_0; have HC215_0 := Aside0.mk hl215_0; clear hi215_0 hl215_0; replace p215 := eq_true p215; replace q215 := eq_true q215; obtain ⟨Ao24, co24, eo24⟩ := Kd.V_slice HO_2.out; subst eo24
                go_wp2_with (first | ((with_reducible refine gate_callee (f := 29) rfl ?_); refine goesL_ (some 45) rfl rfl Try.func29 (by kernel_rfl) rfl #[.slice A215_0 (rd_L1 t212 x39_3).length c215_0, .slice Ao24 x2_3.length co24] rfl TA ?_; (with_reducible refine (spec_l1Same.calls k3 _ _ (rd_L1 t212 x39_3) _ _ x2_3 true _ ?side1 ?side2 ?side3 ?side4 A22.out).mono ?_); (case side1 => repeat (first | exact (by repeat (first | (with_reducible exact HR215_0.out) | (with_reducible refine Kd.C_alloc ?_ _) | (with_reducible refine Kd.C_drewN ?_ _) | (with_reducible refine Kd.C_drew ?_) | exact HR215_0.out)) | (with_reducible refine Kd.C_alloc ?_ _) | (with_reducible refine Kd.C_drewN ?_ _) | (with_reducible refine Kd.C_drew ?_))); (case side2 => exact HC215_0.out); (case side3 => repeat (first | exact (Kd.V_reads' HO_2.out).2.2 | (with_reducible refine Kd.C_alloc ?_ _) | (with_reducible refine Kd.C_drewN ?_ _) | (with_reducible refine Kd.C_drew ?_))); (case side4 => exact (Kd.V_reads' HO_2.out).2.1); rintro e w' ⟨rfl, ⟨nd, rfl⟩⟩; refine ⟨_, rfl, ?_⟩))
                go_roundg k3
                case measure => have := HK1.out; have := HJ4.out; have := HK3.out; omega
                case rel => exact ⟨(x2_3), (wrap64 (x39_3 + 1)), RF, H', ⟨by have := HK1.out; have := HJ4.out; have := HK3.out; omega⟩, ⟨by (with_reducible repeat (first | apply Kd.V_alloc | apply Kd.V_drewN | apply Kd.V_drew)); exact HO_2.out⟩, ⟨KR HO_10⟩, ⟨KS HO_37⟩, ⟨BB⟩⟩
               ·replace c23 := Bool.eq_false_iff.mpr c23
                subst c23; have H1 : ((spec_doNext.f k3 l0 (rd_L1 t212 x39_3) x3_1).bind fun t217 => (spec_doWalk.l0 k3 l0 l1 (rd_L1 t212 x39_3) t217 y206)) = some (r1, r2) := by rw [if_neg (show ¬ (false = true) by decide)] at H; exact H
                clear H; have H := H1; clear H1; replace H := Option.bind_eq_some_iff.mp H; obtain ⟨t217, A250, H⟩ := H; replace H : (spec_doWalk.l0 k3 l0 l1 (rd_L1 t212 x39_3) t217 y206) = some (r1, r2) := H; have A25 := Aside0.mk A250; clear A250; have H' := Aside0.mk H; clear H; have p215 : 0 ≤ (x39_3 : Int) := of_decide_eq_true AS; have q215 : x39_3 < (t212.length : Int) := of_decide_eq_true AS; obtain ⟨ad215, A215_0, c215_0, e215, hx215_0, hl215_0, hi215_0⟩ := at_L1 (Kd.S_reads' HO_37.out).2.2 x39_3 p215 q215; cases e215; obtain ⟨ce215, hce215, hMe215, hcc215⟩ := Kd.S_get HO_37.out [] x39_3 p215 (by first | exact q215 | exact of_decide_eq_true AS | (have e_ := (Kd.S_reads' HO_37.out).1; omega)); obtain ⟨ve215_0, rfl, ge215_0⟩ := hMe215; have hv215_0 := hcc215 0 _ rfl; rw [Nat.add_zero, show ((Kd.slice 3 (Kd.int .i64))).sz = 1 from rfl, Nat.mul_one] at hv215_0; replace hv215_0 := Option.some.inj (hv215_0.symm.trans hx215_0); rw [hv215_0] at ge215_0; have HL215_0 := Aside0.mk (show Kd.R (Kd.int .i64) 3 _ _ _ _ (rd_L1 t212 x39_3) from ge215_0); clear hv215_0 ge215_0; clear hcc215 hce215; have HR215_0 := Aside0.mk hi215_0; have HC215_0 := Aside0.mk hl215_0; clear hi215_0 hl215_0
                replace p215 := eq_true p215; replace q215 := eq_true q215; obtain ⟨Ao26, co26, eo26⟩ := Kd.V_slice HO_2.out; subst eo26
                go_wp2_with (first | ((with_reducible refine gate_callee (f := 29) rfl ?_); refine goesL_ (some 45) rfl rfl Try.func29 (by kernel_rfl) rfl #[.slice A215_0 (rd_L1 t212 x39_3).length c215_0, .slice Ao26 x2_3.length co26] rfl TA ?_; (with_reducible refine (spec_l1Same.calls k3 _ _ (rd_L1 t212 x39_3) _ _ x2_3 false _ ?side1 ?side2 ?side3 ?side4 A22.out).mono ?_); (case side1 => repeat (first | exact (by repeat (first | (with_reducible exact HR215_0.out) | (with_reducible refine Kd.C_alloc ?_ _) | (with_reducible refine Kd.C_drewN ?_ _) | (with_reducible refine Kd.C_drew ?_) | exact HR215_0.out)) | (with_reducible refine Kd.C_alloc ?_ _) | (with_reducible refine Kd.C_drewN ?_ _) | (with_reducible refine Kd.C_drew ?_))); (case side2 => exact HC215_0.out); (case side3 => repeat (first | exact (Kd.V_reads' HO_2.out).2.2 | (with_reducible refine Kd.C_alloc ?_ _) | (with_reducible refine Kd.C_drewN ?_ _) | (with_reducible refine Kd.C_drew ?_))); (case side4 => exact (Kd.V_reads' HO_2.out).2.1); rintro e w' ⟨rfl, ⟨nd, rfl⟩⟩; refine ⟨_, rfl, ?_⟩) | ((with_reducible refine gate_callee (f := 45) rfl ?_); refine goesL_ (some 52) rfl rfl Try.func45 (by kernel_rfl) rfl #[.slice (some ad209) l0.length c0, .slice A215_0 (rd_L1 t212 x39_3).length c215_0, .int .i64 x3_1] rfl TA ?_; (with_reducible refine (spec_doNext.calls k3 _ _ l0 _ _ (rd_L1 t212 x39_3) x3_1 t217 _ ?side1 ?side2 ?side3 ?side4 A25.out).mono ?_); (case side1 => repeat (first | exact (Kd.C_below HR0.out BB) | (with_reducible refine Kd.C_alloc ?_ _) | (with_reducible refine Kd.C_drewN ?_ _) | (with_reducible refine Kd.C_drew ?_))); (case side2 => exact HC0.out); (case side3 => repeat (first | exact (by repeat (first | (with_reducible exact HR215_0.out) | (with_reducible refine Kd.C_alloc ?_ _) | (with_reducible refine Kd.C_drewN ?_ _) | (with_reducible refine Kd.C_drew ?_) | exact HR215_0.out)) | (with_reducible refine Kd.C_alloc ?_ _) | (with_reducible refine Kd.C_drewN ?_ _) | (with_reducible refine Kd.C_drew ?_))); (case side4 => exact HC215_0.out); rintro e w27 ⟨rfl, hb⟩; refine ⟨_, rfl, ?_⟩; have n0_ := Aside0.mk (Kd.V_below (by (with_reducible repeat (first | apply Kd.V_alloc | apply Kd.V_drewN | apply Kd.V_drew)); exact HO_2.out) hb); have n1_ := Aside0.mk (Kd.R_below (KR HO_10) hb); have n2_ := Aside0.mk (Kd.S_below (KS HO_37) hb); have n3_ := Aside0.mk (Kd.R_below (KR HL215_0) hb); have n4_ := Aside0.mk (Kd.C_below (by repeat (first | (with_reducible exact HR215_0.out) | (with_reducible refine Kd.C_alloc ?_ _) | (with_reducible refine Kd.C_drewN ?_ _) | (with_reducible refine Kd.C_drew ?_) | exact HR215_0.out)) hb); have n5_ := Aside0.mk (below_step BB hb); clear HO_2; clear HO_10; clear HO_37; clear HL215_0; clear HR215_0; clear HB; have HO_2 := n0_; have HO_10 := n1_; have HO_37 := n2_; have HL215_0 := n3_; have HR215_0 := n4_; have HB := n5_; clear n0_ n1_ n2_ n3_ n4_ n5_; (try clear hb); (try clear hb2); (try clear hk); (try clear hi)))
                go_roundg k3
                case measure => have := HK1.out; have := HJ4.out; have := HK3.out; omega
                case rel => exact ⟨(rd_L1 t212 x39_3), (t217), (y206), RF, H', ⟨by have := HK1.out; have := HJ4.out; have := HK3.out; omega⟩, ⟨Kd.V_mono (Kd.R_V (KR HL215_0)) (fun k_ hk => by first | exact ⟨.inr hk.1.1, hk.1.2⟩ | exact .inr hk.1.1)⟩, ⟨KR HO_10⟩, ⟨BB⟩⟩
              ·rw [if_neg c21] at H
               exact absurd H (by simp)
             ·rw [if_neg c20] at H
              exact absurd H (by simp)
            ·rw [if_neg c19] at H
             have c19b0 : decide (x39_3 < (t212.length : Int)) = false := decide_eq_false c19; clear c19; replace H := Option.bind_eq_some_iff.mp H; obtain ⟨t218, A280, H⟩ := H; replace H : (spec_doWalk.l0 k3 l0 l1 x2_3 t218 y206) = some (r1, r2) := H; have A28 := Aside0.mk A280; clear A280; have H' := Aside0.mk H; clear H; obtain ⟨Ao29, co29, eo29⟩ := Kd.V_slice HO_2.out; subst eo29
             go_wp2_with (first | ((with_reducible refine gate_callee (f := 45) rfl ?_); refine goesL_ (some 52) rfl rfl Try.func45 (by kernel_rfl) rfl #[.slice (some ad209) l0.length c0, .slice Ao29 x2_3.length co29, .int .i64 x3_1] rfl TA ?_; (with_reducible refine (spec_doNext.calls k3 _ _ l0 _ _ x2_3 x3_1 t218 _ ?side1 ?side2 ?side3 ?side4 A28.out).mono ?_); (case side1 => repeat (first | exact (Kd.C_below HR0.out HB.out) | (with_reducible refine Kd.C_alloc ?_ _) | (with_reducible refine Kd.C_drewN ?_ _) | (with_reducible refine Kd.C_drew ?_))); (case side2 => exact HC0.out); (case side3 => repeat (first | exact (Kd.V_reads' HO_2.out).2.2 | (with_reducible refine Kd.C_alloc ?_ _) | (with_reducible refine Kd.C_drewN ?_ _) | (with_reducible refine Kd.C_drew ?_))); (case side4 => exact (Kd.V_reads' HO_2.out).2.1); rintro e w30 ⟨rfl, hb⟩; refine ⟨_, rfl, ?_⟩; have n0_ := Aside0.mk (Kd.V_below (by (with_reducible repeat (first | apply Kd.V_alloc | apply Kd.V_drewN | apply Kd.V_drew)); exact HO_2.out) hb); have n1_ := Aside0.mk (Kd.R_below (KR HO_10) hb); have n2_ := Aside0.mk (Kd.S_below (KS HO_37) hb); have n3_ := Aside0.mk (below_step BB hb); clear HO_2; clear HO_10; clear HO_37; clear HB; have HO_2 := n0_; have HO_10 := n1_; have HO_37 := n2_; have HB := n3_; clear n0_ n1_ n2_ n3_; (try clear hb); (try clear hb2); (try clear hk); (try clear hi)))
             go_roundg k3
             case measure => have := HK1.out; have := HJ4.out; have := HK3.out; omega
             case rel => exact ⟨(x2_3), (t218), (y206), RF, H', ⟨by have := HK1.out; have := HJ4.out; have := HK3.out; omega⟩, ⟨by (with_reducible repeat (first | apply Kd.V_alloc | apply Kd.V_drewN | apply Kd.V_drew)); exact Kd.V_mono HO_2.out (fun _ hk => ⟨hk.1, hk.2.1⟩)⟩, ⟨KR HO_10⟩, ⟨BB⟩⟩
        ·rw [if_neg c11] at H
         exact absurd H (by simp)
       ·rw [if_neg c10] at H
        exact absurd H (by simp)
      ·rw [if_neg c9] at H
       exact absurd H (by simp)
     ·replace c8 := Bool.eq_false_iff.mpr c8
      subst c8; have H1 : (some (x10_1, x2_1)) = some (r1, r2) := by rw [if_neg (show ¬ (false = true) by decide)] at H; exact H
      clear H; have H := H1; clear H1
      simp only [Option.some.injEq, Prod.mk.injEq] at H
      obtain ⟨rfl, rfl⟩ := H
      go_wp2
      go_ret2
      exact ⟨_, _, by first | rfl | (simp [errW_none, errW_some] <;> rfl) | (simp [*, errW_none, errW_some] <;> rfl), KR HO_10, by (with_reducible repeat (first | apply Kd.V_alloc | apply Kd.V_drewN | apply Kd.V_drew)); exact HO_2.out, BB⟩

def spec_doFrom.f (k : Nat) (a0 : Int) (l1 : List Int) (a2 : Int) (a3 : Int) : Option (List Int × List Int) := (spec_meCells.f k a0).bind fun t219 => ((spec_doInner.f a2 a3).bind fun t222 => ((spec_doInner.f a2 a3).bind fun t225 => ((spec_doNext.f k t219 t225 (-1)).bind fun t228 => ((spec_doWalk.f k t219 l1 t222 t228).bind fun bt229 => (some (bt229.1, bt229.2))))))
theorem spec_doFrom.mono : ∀ a0 a1 a2 a3 k, LeO (spec_doFrom.f k a0 a1 a2 a3) (spec_doFrom.f (k + 1) a0 a1 a2 a3) := by
 intro a0 a1 a2 a3 k
 unfold spec_doFrom.f
 repeat' first
   | (with_reducible exact spec_doNext.mono _ _ _ _)
   | (with_reducible exact spec_doWalk.mono _ _ _ _ _)
   | (with_reducible exact spec_meCells.mono _ _)
   | (with_reducible exact LeO.refl _)
   | (with_reducible exact LeO.none _)
   | (with_reducible refine LeO.ite ?_ ?_)
   | (with_reducible refine LeO.bind ?_ (fun _ => ?_))
   | exact spec_doNext.mono _ _ _ _
   | exact spec_doWalk.mono _ _ _ _ _
   | exact spec_meCells.mono _ _
   | exact LeO.none _
   | refine LeO.ite ?_ ?_
   | refine LeO.bind ?_ (fun _ => ?_)
set_option maxHeartbeats 8000000 in
set_option maxRecDepth 100000 in
theorem spec_doFrom.calls (k : Nat) (a0 : Int) (A1 : Option Addr) (c1 : Nat) (l1 : List Int) (a2 : Int) (a3 : Int) (r1 : List Int) (r2 : List Int) (w : World) (hr1 : Kd.C (Kd.int .i64) w A1 l1.length l1) (hc1 : l1.length ≤ c1) (h : spec_doFrom.f k a0 l1 a2 a3 = some (r1, r2)) :
  Calls Try.prog 22 #[.int .i64 a0, .slice A1 l1.length c1, .int .i64 a2, .int .i64 a3] w fun e w' => ∃ v0_ v1_ : Value, e = .returned (.tuple #[v0_, v1_]) ∧ Kd.R (Kd.int .i64) 3 w' w.heap.size (fun k_ => (w.heap.size ≤ k_)) v0_ r1 ∧ Kd.V (Kd.int .i64) 3 w' w.heap.size (fun k_ => (w.heap.size ≤ k_) ∧ some k_ ≠ (v0_ : Value).ownBlock) v1_ r2 ∧ Below w.heap.size w w' := by
 have HR1 := Aside0.mk hr1; have HC1 := Aside0.mk hc1; clear hr1 hc1; have HB := Aside0.mk (Below.refl w.heap.size w); have H : ((spec_meCells.f k a0).bind fun t219 => ((spec_doInner.f a2 a3).bind fun t222 => ((spec_doInner.f a2 a3).bind fun t225 => ((spec_doNext.f k t219 t225 (-1)).bind fun t228 => ((spec_doWalk.f k t219 l1 t222 t228).bind fun bt229 => (some (bt229.1, bt229.2))))))) = some (r1, r2) := h; clear h; replace H := Option.bind_eq_some_iff.mp H; obtain ⟨t219, A50, H⟩ := H; replace H : ((spec_doInner.f a2 a3).bind fun t222 => ((spec_doInner.f a2 a3).bind fun t225 => ((spec_doNext.f k t219 t225 (-1)).bind fun t228 => ((spec_doWalk.f k t219 l1 t222 t228).bind fun bt229 => (some (bt229.1, bt229.2)))))) = some (r1, r2) := H; have A5 := Aside0.mk A50; clear A50; replace H := Option.bind_eq_some_iff.mp H; obtain ⟨t222, A60, H⟩ := H; replace H : ((spec_doInner.f a2 a3).bind fun t225 => ((spec_doNext.f k t219 t225 (-1)).bind fun t228 => ((spec_doWalk.f k t219 l1 t222 t228).bind fun bt229 => (some (bt229.1, bt229.2))))) = some (r1, r2) := H; have A6 := Aside0.mk A60; clear A60; replace H := Option.bind_eq_some_iff.mp H; obtain ⟨t225, A70, H⟩ := H
 replace H : ((spec_doNext.f k t219 t225 (-1)).bind fun t228 => ((spec_doWalk.f k t219 l1 t222 t228).bind fun bt229 => (some (bt229.1, bt229.2)))) = some (r1, r2) := H; have A7 := Aside0.mk A70; clear A70; replace H := Option.bind_eq_some_iff.mp H; obtain ⟨t228, A80, H⟩ := H; replace H : ((spec_doWalk.f k t219 l1 t222 t228).bind fun bt229 => (some (bt229.1, bt229.2))) = some (r1, r2) := H; have A8 := Aside0.mk A80; clear A80; replace H := Option.bind_eq_some_iff.mp H; obtain ⟨⟨t229, t232⟩, A90, H⟩ := H; replace H : (some (t229, t232)) = some (r1, r2) := H; have A9 := Aside0.mk A90; clear A90
 simp only [Option.some.injEq, Prod.mk.injEq] at H
 obtain ⟨rfl, rfl⟩ := H
 go_enter Try.func22, Try.ntmps22
 go_wp2_with (first | ((with_reducible refine gate_callee (f := 20) rfl ?_); refine goesL_ (some 12) rfl rfl Try.func20 (by kernel_rfl) rfl #[.int .i64 a0] rfl TA ?_; (with_reducible refine (spec_meCells.calls k a0 t219 _ A5.out).mono ?_); rintro e w10 ⟨v220, rfl, ho0, hb⟩; refine ⟨_, rfl, ?_⟩; have n0_ := Aside0.mk (Kd.S_lower (Kd.S_newM (M := fun k_ => (w.heap.size ≤ k_)) ho0 (below_size BB) (fun k_ h_ => h_)) (below_size BB)); have n1_ := Aside0.mk (below_step BB hb); clear HB; have HO221 := n0_; have HB := n1_; clear n0_ n1_; (try clear hb); (try clear hb2); (try clear hk); (try clear hi); (try clear ho0)) | ((with_reducible refine gate_callee (f := 30) rfl ?_); refine goesL_ (some 17) rfl rfl Try.func30 (by kernel_rfl) rfl #[.int .i64 a2, .int .i64 a3] rfl TA ?_; (with_reducible refine (spec_doInner.calls a2 a3 t222 _ A6.out).mono ?_); rintro e w11 ⟨v223, rfl, ho0, hb⟩; refine ⟨_, rfl, ?_⟩; have n0_ := Aside0.mk (Kd.S_elder' (KS HO221) (Kd.R_base ho0) hb); have n1_ := Aside0.mk (Kd.R_lower (Kd.R_newM (M := fun k_ => (w.heap.size ≤ k_)) ho0 (below_size BB) (fun k_ h_ => h_)) (below_size BB)); have n2_ := Aside0.mk (below_step BB hb); clear HO221; clear HB; have HO221 := n0_; have HO224 := n1_; have HB := n2_; clear n0_ n1_ n2_; (try clear hb); (try clear hb2); (try clear hk); (try clear hi); (try clear ho0)) | ((with_reducible refine gate_callee (f := 30) rfl ?_); refine goesL_ (some 21) rfl rfl Try.func30 (by kernel_rfl) rfl #[.int .i64 a2, .int .i64 a3] rfl TA ?_; (with_reducible refine (spec_doInner.calls a2 a3 t225 _ A7.out).mono ?_); rintro e w12 ⟨v226, rfl, ho0, hb⟩; refine ⟨_, rfl, ?_⟩; have n0_ := Aside0.mk (Kd.S_elder' (KS HO221) (Kd.R_base ho0) hb); have n1_ := Aside0.mk (Kd.R_elder' (KR HO224) (Kd.R_base ho0) hb); have n2_ := Aside0.mk (Kd.R_lower (Kd.R_new' (Kd.R_newM (M := fun k_ => (w.heap.size ≤ k_)) ho0 (below_size BB) (fun k_ h_ => h_)) (Kd.R_lt (KR HO224))) (below_size BB)); have n3_ := Aside0.mk (below_step BB hb); clear HO221; clear HO224; clear HB; have HO221 := n0_; have HO224 := n1_; have HO227 := n2_; have HB := n3_; clear n0_ n1_ n2_ n3_; (try clear hb); (try clear hb2); (try clear hk); (try clear hi); (try clear ho0); obtain ⟨Ao13, co13, eo13⟩ := Kd.S_slice HO221.out; subst eo13; obtain ⟨Ao14, co14, eo14⟩ := Kd.R_slice HO227.out; subst eo14) | ((with_reducible refine gate_callee (f := 45) rfl ?_); refine goesL_ (some 22) rfl rfl Try.func45 (by kernel_rfl) rfl #[.slice Ao13 t219.length co13, .slice Ao14 t225.length co14, .int .i64 (-1)] rfl TA ?_; (with_reducible refine (spec_doNext.calls k _ _ t219 _ _ t225 (-1) t228 _ ?side1 ?side2 ?side3 ?side4 A8.out).mono ?_); (case side1 => repeat (first | exact (Kd.S_reads' HO221.out).2.2 | (with_reducible refine Kd.C_alloc ?_ _) | (with_reducible refine Kd.C_drewN ?_ _) | (with_reducible refine Kd.C_drew ?_))); (case side2 => exact (Kd.S_reads' HO221.out).2.1); (case side3 => repeat (first | exact (Kd.R_reads' HO227.out).2.2 | (with_reducible refine Kd.C_alloc ?_ _) | (with_reducible refine Kd.C_drewN ?_ _) | (with_reducible refine Kd.C_drew ?_))); (case side4 => exact (Kd.R_reads' HO227.out).2.1); rintro e w15 ⟨rfl, hb⟩; refine ⟨_, rfl, ?_⟩; have n0_ := Aside0.mk (Kd.S_below (KS HO221) hb); have n1_ := Aside0.mk (Kd.R_below (KR HO224) hb); have n2_ := Aside0.mk (Kd.R_below (KR HO227) hb); have n3_ := Aside0.mk (below_step BB hb); clear HO221; clear HO224; clear HO227; clear HB; have HO221 := n0_; have HO224 := n1_; have HO227 := n2_; have HB := n3_; clear n0_ n1_ n2_ n3_; (try clear hb); (try clear hb2); (try clear hk); (try clear hi); obtain ⟨Ao16, co16, eo16⟩ := Kd.R_slice HO224.out; subst eo16) | ((with_reducible refine gate_callee (f := 44) rfl ?_); refine goesL_ (some 23) rfl rfl Try.func44 (by kernel_rfl) rfl #[.slice Ao13 t219.length co13, .slice A1 l1.length c1, .slice Ao16 t222.length co16, .int .i64 t228] rfl TA ?_; (with_reducible refine (spec_doWalk.calls k _ _ t219 _ _ l1 (fun k_ => some k_ = (.slice Ao16 t222.length co16 : Value).ownBlock) _ _ t222 t228 t229 t232 _ ?side1 ?side2 ?side3 ?side4 ?side5 A9.out).mono ?_); (case side1 => repeat (first | exact (Kd.S_reads' HO221.out).2.2 | (with_reducible refine Kd.C_alloc ?_ _) | (with_reducible refine Kd.C_drewN ?_ _) | (with_reducible refine Kd.C_drew ?_))); (case side2 => exact (Kd.S_reads' HO221.out).2.1); (case side3 => repeat (first | exact (Kd.C_below HR1.out HB.out) | (with_reducible refine Kd.C_alloc ?_ _) | (with_reducible refine Kd.C_drewN ?_ _) | (with_reducible refine Kd.C_drew ?_))); (case side4 => exact HC1.out); (case side5 => exact Kd.R_V (Kd.R_tight rfl (Kd.R_apart' (HO224.out) (Kd.S_typed HO221.out) (by decide)))); rintro e w17 ⟨v230, v233, rfl, ho0, ho1, hb⟩; refine ⟨_, rfl, ?_⟩; have n0_ := Aside0.mk (Kd.S_elder' (KS HO221) (Kd.R_base ho0) hb); have n1_ := Aside0.mk (Kd.R_elder' (KR HO224) (Kd.R_base ho0) hb); have n2_ := Aside0.mk (Kd.R_elder' (KR HO227) (Kd.R_base ho0) hb); have n3_ := Aside0.mk (Kd.R_lower (Kd.R_new' (Kd.R_new' (Kd.R_newM (M := fun k_ => (w.heap.size ≤ k_)) (Kd.R_mono (ok' := fun k_ => True) ho0 (fun _ hk_ => trivial)) (below_size BB) (fun k_ h_ => h_)) (Kd.R_lt (KR HO224))) (Kd.R_lt (KR HO227))) (below_size BB)); have n4_ := Aside0.mk (Kd.V_lower (Kd.V_mono (ok' := fun k_ => (w.heap.size ≤ k_) ∧ some k_ ≠ (v230 : Value).ownBlock ∧ some k_ ≠ (.slice Ao13 t219.length co13 : Value).ownBlock ∧ some k_ ≠ (.slice Ao14 t225.length co14 : Value).ownBlock) ho1 (fun k_ hk_ => ⟨Or.elim hk_.1 (fun hs_ => ((Kd.R_apart' (HO224.out) (Kd.S_typed HO221.out) (by decide)).1 k_ hs_.symm).1.1.1) (fun hn_ => (Nat.le_trans (below_size BB) hn_)), hk_.2, Or.elim hk_.1 (fun hs_ => ((Kd.R_apart' (HO224.out) (Kd.S_typed HO221.out) (by decide)).1 k_ hs_.symm).2) (fun hn_ => (Kd.fresh' (Kd.S_lt (KS HO221)) k_ hn_)), Or.elim hk_.1 (fun hs_ => ((Kd.R_apart' (HO224.out) (Kd.S_typed HO221.out) (by decide)).1 k_ hs_.symm).1.2) (fun hn_ => (Kd.fresh' (Kd.R_lt (KR HO227)) k_ hn_))⟩)) (below_size BB)); have n5_ := Aside0.mk (below_step BB hb); clear HO221; clear HO224; clear HO227; clear HB; have HO221 := n0_; have HO224 := n1_; have HO227 := n2_; have HO231 := n3_; have HO234 := n4_; have HB := n5_; clear n0_ n1_ n2_ n3_ n4_ n5_; (try clear hb); (try clear hb2); (try clear hk); (try clear hi); (try clear ho0); (try clear ho1)))
 go_ret2
 exact ⟨_, _, by first | rfl | (simp [errW_none, errW_some] <;> rfl) | (simp [*, errW_none, errW_some] <;> rfl), by (with_reducible repeat (first | apply Kd.R_alloc | apply Kd.R_drewN | apply Kd.R_drew)); exact Kd.R_mono HO231.out (fun _ hk => hk.1.1.1), by (with_reducible repeat (first | apply Kd.V_alloc | apply Kd.V_drewN | apply Kd.V_drew)); exact Kd.V_mono HO234.out (fun _ hk => ⟨hk.1, hk.2.1⟩), BB⟩

def spec_l1In.f (a0 : Int) (a1 : Int) (a2 : Int) : Option (Bool) := if a0 ≥ a1 then (some (decide (a0 ≤ a2))) else (some false)
set_option maxHeartbeats 8000000 in
set_option maxRecDepth 100000 in
theorem spec_l1In.calls (a0 : Int) (a1 : Int) (a2 : Int) (r : Bool) (w : World) (h : spec_l1In.f a0 a1 a2 = some r) :
  Calls Try.prog 59 #[.int .i64 a0, .int .i64 a1, .int .i64 a2] w fun e w' => e = .returned (.bool r) ∧ Drawn0 w w' := by
 have H : (if a0 ≥ a1 then (some (decide (a0 ≤ a2))) else (some false)) = some r := h; clear h
 by_cases c4 : a0 ≥ a1
 ·rw [if_pos c4] at H
  have c4b0 : decide (a1 ≤ a0) = true := decide_eq_true c4; clear c4; obtain rfl := Option.some.inj H
  go_enter Try.func59, Try.ntmps59
  go_wp2
  go_ret
  exact ⟨by first | rfl | (simp; done) | (simp [*]; done) | (simp [*, wrap64]; done), by repeat (first | exact Drawn0.refl _ | apply Drawn0.step)⟩
 ·rw [if_neg c4] at H
  have c4b0 : decide (a1 ≤ a0) = false := decide_eq_false c4; clear c4; obtain rfl := Option.some.inj H
  go_enter Try.func59, Try.ntmps59
  go_wp2
  go_ret
  exact ⟨by first | rfl | (simp; done) | (simp [*]; done) | (simp [*, wrap64]; done), by repeat (first | exact Drawn0.refl _ | apply Drawn0.step)⟩

def spec_meSide.f (a0 : Int) : Option (Bool) := (spec_l1In.f a0 1 8).bind fun t235 => (some t235)
set_option maxHeartbeats 8000000 in
set_option maxRecDepth 100000 in
theorem spec_meSide.calls (a0 : Int) (r : Bool) (w : World) (h : spec_meSide.f a0 = some r) :
  Calls Try.prog 38 #[.int .i64 a0] w fun e w' => e = .returned (.bool r) ∧ Drawn0 w w' := by
 have H : ((spec_l1In.f a0 1 8).bind fun t235 => (some t235)) = some r := h; clear h; replace H := Option.bind_eq_some_iff.mp H; obtain ⟨t235, A20, H⟩ := H; replace H : (some t235) = some r := H; have A2 := Aside0.mk A20; clear A20; obtain rfl := Option.some.inj H
 go_enter Try.func38, Try.ntmps38
 go_wp2_with (first | ((with_reducible refine gate_callee (f := 59) rfl ?_); refine goesL_ (some 4) rfl rfl Try.func59 (by kernel_rfl) rfl #[.int .i64 a0, .int .i64 1, .int .i64 8] rfl TA ?_; (with_reducible refine (spec_l1In.calls a0 1 8 t235 _ A2.out).mono ?_); rintro e w' ⟨rfl, ⟨nd, rfl⟩⟩; refine ⟨_, rfl, ?_⟩))
 go_ret
 exact ⟨by first | rfl | (simp; done) | (simp [*]; done) | (simp [*, wrap64]; done), by repeat (first | exact Drawn0.refl _ | apply Drawn0.step)⟩

def spec_l1All.l0 : Nat → Int → Int → List Int → Int → Int → Option (Bool)
 | 0, _, _, _, _, _ => none
 | k + 1, x1, x2, x9, x10, x11 => if x11 < x10 then (if 0 ≤ x11 then (if x11 < (x9.length : Int) then ((spec_l1In.f (rd x9 x11) x1 x2).bind fun t237 => (if t237 = true then (spec_l1All.l0 k x1 x2 x9 x10 (wrap64 (x11 + 1))) else (some false))) else (none)) else (none)) else (some true)
def spec_l1All.f (k : Nat) (l0 : List Int) (a1 : Int) (a2 : Int) : Option (Bool) := spec_l1All.l0 k a1 a2 l0 (l0.length : Int) 0
theorem spec_l1All.mono_l : ∀ k, (∀ y0 y1 y2 y3 y4, LeO (spec_l1All.l0 k y0 y1 y2 y3 y4) (spec_l1All.l0 (k + 1) y0 y1 y2 y3 y4))
 | 0 => fun _ _ _ _ _ r h => by simp [spec_l1All.l0] at h
 | k + 1 => by
  have ih0 := spec_l1All.mono_l k
  ·intro y0 y1 y2 y3 y4
   unfold spec_l1All.l0
   repeat' first
   | (with_reducible exact ih0 _ _ _ _ _)
   | (with_reducible exact LeO.refl _)
   | (with_reducible exact LeO.none _)
   | (with_reducible refine LeO.ite ?_ ?_)
   | (with_reducible refine LeO.bind ?_ (fun _ => ?_))
   | exact ih0 _ _ _ _ _
   | exact LeO.none _
   | refine LeO.ite ?_ ?_
   | refine LeO.bind ?_ (fun _ => ?_)
theorem spec_l1All.mono : ∀ a0 a1 a2 k, LeO (spec_l1All.f k a0 a1 a2) (spec_l1All.f (k + 1) a0 a1 a2) := by
 intro a0 a1 a2 k
 have ih0 := spec_l1All.mono_l k
 unfold spec_l1All.f
 repeat' first
   | (with_reducible exact ih0 _ _ _ _ _)
   | (with_reducible exact LeO.refl _)
   | (with_reducible exact LeO.none _)
   | (with_reducible refine LeO.ite ?_ ?_)
   | (with_reducible refine LeO.bind ?_ (fun _ => ?_))
   | exact ih0 _ _ _ _ _
   | exact LeO.none _
   | refine LeO.ite ?_ ?_
   | refine LeO.bind ?_ (fun _ => ?_)
set_option maxHeartbeats 8000000 in
set_option maxRecDepth 100000 in
theorem spec_l1All.calls (k : Nat) (A0 : Option Addr) (c0 : Nat) (l0 : List Int) (a1 : Int) (a2 : Int) (r : Bool) (w : World) (hr0 : Kd.C (Kd.int .i64) w A0 l0.length l0) (hc0 : l0.length ≤ c0) (h : spec_l1All.f k l0 a1 a2 = some r) :
  Calls Try.prog 40 #[.slice A0 l0.length c0, .int .i64 a1, .int .i64 a2] w fun e w' => e = .returned (.bool r) ∧ Drawn0 w w' := by
 have HR0 := Aside0.mk hr0; have HC0 := Aside0.mk hc0; clear hr0 hc0; have H : (spec_l1All.l0 k a1 a2 l0 (l0.length : Int) 0) = some r := h; clear h; have H' := Aside0.mk H; clear H
 go_enter Try.func40, Try.ntmps40
 go_wp2
 go_loopg [11] k (fun kq v11 w' => ∃ (x11_1 : Int), v11 = .int .i64 x11_1 ∧ Aside0 (spec_l1All.l0 kq a1 a2 l0 (l0.length : Int) x11_1 = some r) ∧ Aside0 (kq ≤ k) ∧ Drawn0 w w')
 case atStart => exact ⟨(0), RF, H', ⟨Nat.le_refl _⟩, by repeat (first | exact Drawn0.refl _ | apply Drawn0.step)⟩
 case round =>
  clear H'
  try clear p2
  obtain ⟨x11_1, rfl, HA, HK1, ⟨m1, rfl⟩⟩ := hrel; cases gk with
  | zero => exact absurd HA.out (by simp [spec_l1All.l0])
  | succ k1 =>
   have H := HA.out; clear HA
   simp only [spec_l1All.l0] at H
   by_cases c4 : x11_1 < (l0.length : Int)
   ·rw [if_pos c4] at H
    have c4b0 : decide (x11_1 < (l0.length : Int)) = true := decide_eq_true c4; clear c4
    by_cases c5 : 0 ≤ x11_1
    ·rw [if_pos c5] at H
     have c5b0 : decide (0 ≤ x11_1) = true := decide_eq_true c5; clear c5
     by_cases c6 : x11_1 < (l0.length : Int)
     ·rw [if_pos c6] at H
      have c6b0 : decide (x11_1 < (l0.length : Int)) = true := decide_eq_true c6; clear c6; replace H := Option.bind_eq_some_iff.mp H; obtain ⟨t237, A70, H⟩ := H; replace H : (if t237 = true then (spec_l1All.l0 k1 a1 a2 l0 (l0.length : Int) (wrap64 (x11_1 + 1))) else (some false)) = some r := H; have A7 := Aside0.mk A70; clear A70
      by_cases c8 : t237 = true
      ·subst c8
       have H1 : (spec_l1All.l0 k1 a1 a2 l0 (l0.length : Int) (wrap64 (x11_1 + 1))) = some r := by rw [if_pos rfl] at H; exact H
       clear H; have H := H1; clear H1; have H' := Aside0.mk H; clear H; have p236 : 0 ≤ (x11_1 : Int) := of_decide_eq_true AS; have q236 : x11_1 < (l0.length : Int) := of_decide_eq_true AS; obtain ⟨ad236, e236, hx236_0⟩ := Kd.at_int HR0.out x11_1 p236 q236; cases e236; replace p236 := eq_true p236; replace q236 := eq_true q236
       go_wp2_with (first | ((with_reducible refine gate_callee (f := 59) rfl ?_); refine goesL_ (some 18) rfl rfl Try.func59 (by kernel_rfl) rfl #[.int .i64 (rd l0 x11_1), .int .i64 a1, .int .i64 a2] rfl TA ?_; (with_reducible refine (spec_l1In.calls (rd l0 x11_1) a1 a2 true _ A7.out).mono ?_); rintro e w' ⟨rfl, ⟨nd, rfl⟩⟩; refine ⟨_, rfl, ?_⟩))
       go_roundg k1
       case measure => have := HK1.out; omega
       case rel => exact ⟨(wrap64 (x11_1 + 1)), RF, H', ⟨by have := HK1.out; omega⟩, by repeat (first | exact Drawn0.refl _ | apply Drawn0.step)⟩
      ·replace c8 := Bool.eq_false_iff.mpr c8
       subst c8; have H1 : (some false) = some r := by rw [if_neg (show ¬ (false = true) by decide)] at H; exact H
       clear H; have H := H1; clear H1; obtain rfl := Option.some.inj H; have p236 : 0 ≤ (x11_1 : Int) := of_decide_eq_true AS; have q236 : x11_1 < (l0.length : Int) := of_decide_eq_true AS; obtain ⟨ad236, e236, hx236_0⟩ := Kd.at_int HR0.out x11_1 p236 q236; cases e236; replace p236 := eq_true p236; replace q236 := eq_true q236
       go_wp2_with (first | ((with_reducible refine gate_callee (f := 59) rfl ?_); refine goesL_ (some 18) rfl rfl Try.func59 (by kernel_rfl) rfl #[.int .i64 (rd l0 x11_1), .int .i64 a1, .int .i64 a2] rfl TA ?_; (with_reducible refine (spec_l1In.calls (rd l0 x11_1) a1 a2 false _ A7.out).mono ?_); rintro e w' ⟨rfl, ⟨nd, rfl⟩⟩; refine ⟨_, rfl, ?_⟩))
       go_ret
       exact ⟨by first | rfl | (simp; done) | (simp [*]; done) | (simp [*, wrap64]; done), by repeat (first | exact Drawn0.refl _ | apply Drawn0.step)⟩
     ·rw [if_neg c6] at H
      exact absurd H (by simp)
    ·rw [if_neg c5] at H
     exact absurd H (by simp)
   ·rw [if_neg c4] at H
    have c4b0 : decide (x11_1 < (l0.length : Int)) = false := decide_eq_false c4; clear c4; obtain rfl := Option.some.inj H
    go_wp2
    go_ret
    exact ⟨by first | rfl | (simp; done) | (simp [*]; done) | (simp [*, wrap64]; done), by repeat (first | exact Drawn0.refl _ | apply Drawn0.step)⟩

end Go.Proofs.Ytgpplbaloajgdaa.PFnExactExitOf
