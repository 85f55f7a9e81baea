-- Written by a program of this session (wip/tools/pp.sh) out of the translation; Lean checks it.
import Derived.Test.YthkdkgbcokpbaabPFnTrianglesAreCutx0
import Derived.Test.YthkdkgbcokpbaabPFnTrianglesAreCutx1
import Derived.Test.YthkdkgbcokpbaabPFnTrianglesAreCutx4
namespace Go.Proofs.Ythkdkgbcokpbaab.PFnTrianglesAreCut
open Go.RowKit Go.Proofs.YthkdkgbcokpbaabOwn Go.Proofs.YthkdkgbcokpbaabW.PrintWords Go.Proofs.YthkdkgbcokpbaabW.PrintLast Go.Proofs.YthkdkgbcokpbaabW.PrintMore
attribute [local go_sem] max2_int min2_int max_two min_two max_three min_three max_four min_four   -- for this text's walks alone
set_option linter.unusedVariables false
set_option maxHeartbeats 8000000
set_option maxRecDepth 100000
set_option linter.unusedSimpArgs false

/-! ### laws_uSum: function 14 -/
def laws_uSum.l0 : Nat → Int → List Int → Int → Int → Option (Int)
 | 0, _, _, _, _ => none
 | k + 1, x3, x6, x7, x8 => if x8 < x7 then (if 0 ≤ x8 then (if x8 < (x6.length : Int) then (laws_uSum.l0 k (wrap64 (x3 + (rd x6 x8))) x6 x7 (wrap64 (x8 + 1))) else (none)) else (none)) else (some x3)
def laws_uSum.f (k : Nat) (l0 : List Int) : Option (Int) := laws_uSum.l0 k 0 l0 (l0.length : Int) 0
theorem laws_uSum.mono_l : ∀ k, (∀ y0 y1 y2 y3, LeO (laws_uSum.l0 k y0 y1 y2 y3) (laws_uSum.l0 (k + 1) y0 y1 y2 y3))
 | 0 => fun _ _ _ _ r h => by simp [laws_uSum.l0] at h
 | k + 1 => by
  have ih0 := laws_uSum.mono_l k
  ·intro y0 y1 y2 y3
   unfold laws_uSum.l0
   repeat' first
   | with_reducible first | exact ih0 _ _ _ _ | exact LeO.refl _ | exact LeO.none _ | refine LeO.ite ?_ ?_ | refine LeO.bind ?_ (fun _ => ?_)
   | exact LeO.none _ | refine LeO.ite ?_ ?_ | refine LeO.bind ?_ (fun _ => ?_)
theorem laws_uSum.mono : ∀ a0 k, LeO (laws_uSum.f k a0) (laws_uSum.f (k + 1) a0) := by
 intro a0 k
 have ih0 := laws_uSum.mono_l k
 unfold laws_uSum.f
 repeat' first
   | with_reducible first | exact ih0 _ _ _ _ | exact LeO.refl _ | exact LeO.none _ | refine LeO.ite ?_ ?_ | refine LeO.bind ?_ (fun _ => ?_)
   | exact LeO.none _ | refine LeO.ite ?_ ?_ | refine LeO.bind ?_ (fun _ => ?_)
theorem laws_uSum.calls (k : Nat) (A0 : Option Addr) (c0 : Nat) (l0 : List Int) (r : Int) (w : World) (hr0 : Kd.C (Kd.int .i64) w A0 l0.length l0) (hc0 : l0.length ≤ c0) (h : laws_uSum.f k l0 = some r) :
  Calls Try.prog 14 #[.slice A0 l0.length c0] w fun e w' => e = .returned (.int .i64 r) ∧ Drawn0 w w' := by
 have HR0 := Aside0.mk hr0
 have HC0 := Aside0.mk hc0
 clear hr0 hc0
 have H : (laws_uSum.l0 k 0 l0 (l0.length : Int) 0) = some r := h
 clear h
 have H' := Aside0.mk H
 clear H
 go_enter Try.func14, Try.ntmps14
 go_wp2
 go_loopg [3, 8] k (fun kq v3 v8 w' => ∃ (x3_1 : Int) (x8_1 : Int), v3 = .int .i64 x3_1 ∧ v8 = .int .i64 x8_1 ∧ Aside0 (laws_uSum.l0 kq x3_1 l0 (l0.length : Int) x8_1 = some r) ∧ Aside0 (kq ≤ k) ∧ Drawn0 w w')
 case atStart => exact ⟨(0), (0), RF, RF, H', ⟨Nat.le_refl _⟩, by repeat (first | exact Drawn0.refl _ | apply Drawn0.step)⟩
 case round =>
  clear H'
  try clear c1
  obtain ⟨x3_1, x8_1, rfl, rfl, HA, HK1, ⟨m1, rfl⟩⟩ := hrel
  cases gk with
  | zero => exact absurd HA.out (by simp [laws_uSum.l0])
  | succ k1 =>
   have H := HA.out
   clear HA
   simp only [laws_uSum.l0] at H
   by_cases c2 : x8_1 < (l0.length : Int)
   ·rw [if_pos c2] at H
    have c2b0 : decide (x8_1 < (l0.length : Int)) = true := decide_eq_true c2
    clear c2
    by_cases c3 : 0 ≤ x8_1
    ·rw [if_pos c3] at H
     have c3b0 : decide (0 ≤ x8_1) = true := decide_eq_true c3
     clear c3
     by_cases c4 : x8_1 < (l0.length : Int)
     ·rw [if_pos c4] at H
      have c4b0 : decide (x8_1 < (l0.length : Int)) = true := decide_eq_true c4
      clear c4
      have H' := Aside0.mk H
      clear H
      have p228 : 0 ≤ (x8_1 : Int) := of_decide_eq_true AS
      have q228 : x8_1 < (l0.length : Int) := of_decide_eq_true AS
      obtain ⟨ad228, e228, hx228_0⟩ := Kd.at_int HR0.out x8_1 p228 q228
      cases e228
      replace p228 := eq_true p228
      replace q228 := eq_true q228
      go_wp2
      go_roundg k1
      case measure => have := HK1.out; omega
      case rel => exact ⟨(wrap64 (x3_1 + (rd l0 x8_1))), (wrap64 (x8_1 + 1)), RF, RF, H', ⟨by have := HK1.out; omega⟩, by repeat (first | exact Drawn0.refl _ | apply Drawn0.step)⟩
     ·rw [if_neg c4] at H
      cases H
    ·rw [if_neg c3] at H
     cases H
   ·rw [if_neg c2] at H
    have c2b0 : decide (x8_1 < (l0.length : Int)) = false := decide_eq_false c2
    clear c2
    obtain rfl := Option.some.inj H
    go_wp2
    go_ret
    exact ⟨RF, DR⟩

/-! ### impl_border: function 43 (given) -/
def bpt (n : Int) (s : Nat) (t : Int) : Int × Int × Int := match s with
 | 0 => (n - t, t, 0)
 | 1 => (0, n - t, t)
 | _ => (t, 0, n - t)
def bval (n : Int) (all : List S54) (s t : Nat) : Int := ix3 (bpt n s t).1 (bpt n s t).2.1 (bpt n s t).2.2 all 0
/-- The border, as far as side s has been gone along t steps. -/
def bord (n : Int) (N : Nat) (all : List S54) (s t : Nat) : List Int := ((List.range s).flatMap fun s' => (List.range N).map fun j => bval n all s' j) ++ (List.range t).map fun j => bval n all s j
theorem bord_next (n : Int) (N : Nat) (all : List S54) (s t : Nat) : bord n N all s t ++ [bval n all s t] = bord n N all s (t + 1) := by
 unfold bord
 rw [List.range_succ (n := t), List.map_append, List.append_assoc]; rfl
theorem bord_side (n : Int) (N : Nat) (all : List S54) (s : Nat) : bord n N all s N = bord n N all (s + 1) 0 := by
 unfold bord
 rw [List.range_succ (n := s), List.flatMap_append, List.range_zero, List.map_nil, List.append_nil]
 simp
theorem bord_len (n : Int) (N : Nat) (all : List S54) (s t : Nat) : (bord n N all s t).length = s * N + t := by
 have : ∀ s, ((List.range s).flatMap fun s' => (List.range N).map fun j => bval n all s' j).length = s * N := fun s => by
  induction s with
  | zero => simp
  | succ s ih => rw [List.range_succ, List.flatMap_append, List.length_append, ih, Nat.add_mul]; simp
 unfold bord
 rw [List.length_append, this, List.length_map, List.length_range]
def impl_border.f (k : Nat) (a0 : Int) : Option (List Int) := (impl_points.f k a0).bind fun all => if decide (0 ≤ a0 ∧ a0 ≤ 1000) = true then some (bord a0 a0.toNat all 3 0) else none
theorem impl_border.mono : ∀ a0 k, LeO (impl_border.f k a0) (impl_border.f (k + 1) a0) := fun a0 k => LeO.bind (impl_points.mono _ _) (fun _ => LeO.refl _)
theorem border_i : (Try.prog.info? 3).map (fun i => (i.zero, i.size, i.bytes)) = some (some (.int .i64 0), 1, 8) := by kernel_rfl
theorem impl_border.calls (k : Nat) (a0 : Int) (r : List Int) (w : World) (h : impl_border.f k a0 = some r) :
  Calls Try.prog 43 #[.int .i64 a0] w fun e w' => ∃ v0_ : Value, e = .returned (v0_) ∧ Kd.R (Kd.int .i64) 3 w' w.heap.size (fun _ => True) v0_ r ∧ Below w.heap.size w w' := by
 unfold impl_border.f at h
 obtain ⟨pts, hpts, h⟩ := Option.bind_eq_some_iff.mp h
 by_cases hd : decide (0 ≤ a0 ∧ a0 ≤ 1000) = true
 ·rw [if_pos hd] at h
  obtain ⟨N, rfl⟩ := Int.eq_ofNat_of_zero_le (of_decide_eq_true hd).1
  have hN : N ≤ 1000 := by have := (of_decide_eq_true hd).2; omega
  rw [Int.toNat_natCast] at h
  have HRR := Aside0.mk (Option.some.inj h)
  have HP := Aside0.mk hpts
  have HN := Aside0.mk hN
  have HB := Aside0.mk (Below.refl w.heap.size w)
  have hu := Try.underlying54
  clear h hd hpts hN
  go_enter Try.func43, Try.ntmps43
  go_wp2_with (first
   | ((with_reducible refine gate_dst (N := 8) rfl ?_); refine Kd.R_lit (Kd.int .i64) _ 3 ?hg (N := 8) ?hd (xs := ([] : List Int)) (inner := []) (ok := fun _ => True) (okp := fun _ => True) ?hr ?hp (fun _ hk => hk) trivial (Below.refl _ _) (Nat.le_refl _) (by simp) ?_; (case hd => rfl); (case hg => rfl); (case hr => exact GS); (case hp => exact (Reps.none _ _)); intro v3 w3 ho4 hb hg_ hnew_; clear hg_ hnew_; have HO := Aside0.mk (Kd.R_lower ho4 (below_size BB)); have n1_ := Aside0.mk (below_step BB hb); clear HB; have HB := n1_; clear n1_; clear hb ho4)
   | (go_at_call 34; refine (impl_points.calls k (N : Int) pts _ HP.out).mono ?_; rintro e w5 ⟨vA, rfl, ho0, hb⟩; have n0_ := Aside0.mk (Kd.R_below (KR HO) hb); have HA := Aside0.mk (Kd.R_lower ho0 (below_size BB)); have n2_ := Aside0.mk (below_step BB hb); clear HO; clear HB; have HO := n0_; have HB := n2_; clear n0_ n2_; clear hb ho0; obtain ⟨A1, c1, e1⟩ := Kd.R_slice HA.out; subst e1))
  go_loopg [3, 11] 3 (fun gg v3 v11 wr => ∃ (s : Nat) (x : Int), v11 = .int .i64 x ∧ x = (s : Int) ∧ s ≤ 3 ∧ 3 - s ≤ gg ∧ Aside0 (Kd.R (Kd.int .i64) 3 wr w.heap.size (fun _ => True) v3 (bord N N pts s 0)) ∧ Aside0 (Kd.R k54 54 wr w.heap.size (fun _ => True) (.slice A1 pts.length c1) pts) ∧ Aside0 (Below w.heap.size w wr))
  case atStart => exact ⟨0, 0, rfl, rfl, by omega, by omega, ⟨KR HO⟩, ⟨KR HA⟩, ⟨BB⟩⟩
  case round =>
   clear HO HA HB
   obtain ⟨s, x, rfl, hx, hs, hg, HO, HA, HB⟩ := hrel
   by_cases hlt : s < 3
   ·have hx3 : decide (x < 3) = true := decide_eq_true (by omega)
    have hnx : wrap64 (x + 1) = ((s + 1 : Nat) : Int) := by unfold wrap64; omega
    have HNX := Aside0.mk hnx
    have HG := Aside0.mk (And.intro hg hlt)
    have HXX := Aside0.mk hx
    clear hg hs hlt hnx hx
    go_wp2
    go_loopg [3, 15] N (fun gg v3 v15 wi => ∃ t : Nat, v15 = .int .i64 t ∧ t ≤ N ∧ N - t ≤ gg ∧ Aside0 (Kd.R (Kd.int .i64) 3 wi w.heap.size (fun _ => True) v3 (bord N N pts s t)) ∧ Aside0 (Kd.R k54 54 wi w.heap.size (fun _ => True) (.slice A1 pts.length c1) pts) ∧ Aside0 (Below w.heap.size w wi))
    case atStart => exact ⟨0, rfl, Nat.zero_le _, Nat.le_refl _, ⟨KR HO⟩, ⟨KR HA⟩, ⟨BB⟩⟩
    case round =>
     clear HO HA HB
     obtain ⟨t, rfl, ht, hg2, HO, HA, HB⟩ := hrel
     by_cases htl : t < N
     ·have hNN := HN.out
      have hXX := HXX.out
      have hss := HG.out.2
      have ht0 : decide ((t : Int) < (N : Int)) = true := decide_eq_true (by omega)
      have ht1 : ((t : Int) < (N : Int)) = True := eq_true (by omega)
      have hw1 : wrap64 ((N : Int) - (t : Int)) = (N : Int) - (t : Int) := by unfold wrap64; omega
      have hw2 : wrap64 ((t : Int) + 1) = ((t + 1 : Nat) : Int) := by unfold wrap64; omega
      have hlen := bord_len N N pts s t
      have hmul : s * N ≤ 3 * N := Nat.mul_le_mul_right _ (by omega)
      have hlt2 : ((bord N N pts s t).length + 1) * 8 ≤ 140737488355328 := by omega
      have HL := Aside0.mk hlt2
      have HW2 := Aside0.mk hw2
      have HG2 := Aside0.mk (And.intro hg2 htl)
      have hcA := Kd.R_reads' HA.out
      have HCA := Aside0.mk hcA
      have hcase : x = 0 ∧ s = 0 ∨ x = 1 ∧ s = 1 ∨ x = 2 ∧ s = 2 := by omega
      clear hNN hXX hss hlen hmul hlt2 hw2 hg2 htl ht hcA HXX HNX HG hx3
      rcases hcase with ⟨rfl, rfl⟩ | ⟨rfl, rfl⟩ | ⟨rfl, rfl⟩
      ·go_upto_region 9 with (first
        | ((with_reducible refine gate_dst (N := 7) rfl ?_); refine box_event ?hg (N := 7) ?hd (cs := #[.int .i64 0, .int .i64 0, .int .i64 0]) (t := 54) ?hr ?_; (case hd => rfl); (case hg => rfl); (case hr => exact GS); intro gb hg w12 hbox hb; have GE := Aside0.mk (Nat.le_of_eq hg.symm); have HBX := Aside0.mk hb; have HX := Aside0.mk hbox; have z0 : w12.cell? ⟨gb, 0, none⟩ = some (.int .i64 0) := (blk_cell hbox 0).trans rfl; have z1 : w12.cell? ⟨gb, 1, none⟩ = some (.int .i64 0) := (blk_cell hbox 1).trans rfl; have z2 : w12.cell? ⟨gb, 2, none⟩ = some (.int .i64 0) := (blk_cell hbox 2).trans rfl; have f0 := blk_frozen hbox 0; have f1 := blk_frozen hbox 1; have f2 := blk_frozen hbox 2; clear hb hg hbox))
       have HX2 := Aside0.mk (blk_put (cs := #[.int .i64 0, .int .i64 0, .int .i64 0]) (blk_put (cs := #[.int .i64 0, .int .i64 0, .int .i64 0]) (blk_put (cs := #[.int .i64 0, .int .i64 0, .int .i64 0]) HX.out 0 (.int .i64 0) rfl) 1 (.int .i64 0) rfl) 2 (.int .i64 0) rfl)
       have HB2 := Aside0.mk (below_set (below_set (below_set HBX.out (j := 0) (v := .int .i64 0) GE.out) (j := 1) (v := .int .i64 0) GE.out) (j := 2) (v := .int .i64 0) GE.out)
       clear z0 z1 z2 f0 f1 f2 HX HBX
       generalize ((w12.setCell ⟨gb, 0, none⟩ (.int .i64 0)).setCell ⟨gb, 1, none⟩ (.int .i64 0)).setCell ⟨gb, 2, none⟩ (.int .i64 0) = w13 at *
       have z0 : w13.cell? ⟨gb, 0, none⟩ = some (.int .i64 0) := (blk_cell HX2.out 0).trans rfl
       have z1 : w13.cell? ⟨gb, 1, none⟩ = some (.int .i64 0) := (blk_cell HX2.out 1).trans rfl
       have z2 : w13.cell? ⟨gb, 2, none⟩ = some (.int .i64 0) := (blk_cell HX2.out 2).trans rfl
       have f0 := blk_frozen HX2.out 0
       have f1 := blk_frozen HX2.out 1
       have f2 := blk_frozen HX2.out 2
       go_upto_region 10 with (fail)
       have HX3 := Aside0.mk (blk_put (cs := #[.int .i64 ((N : Int) - (t : Int)), .int .i64 0, .int .i64 0]) (blk_put (cs := #[.int .i64 0, .int .i64 0, .int .i64 0]) HX2.out 0 (.int .i64 ((N : Int) - (t : Int))) rfl) 1 (.int .i64 (t : Int)) rfl : ((w13.setCell ⟨gb, 0, none⟩ (.int .i64 ((N : Int) - (t : Int)))).setCell ⟨gb, 1, none⟩ (.int .i64 (t : Int))).heap[gb]? = some (.cells #[.int .i64 ((N : Int) - (t : Int)), .int .i64 (t : Int), .int .i64 0] 54 (0, 0)))
       have HB3 := Aside0.mk (below_set (below_set HB2.out (j := 0) (v := (.int .i64 ((N : Int) - (t : Int)))) GE.out) (j := 1) (v := (.int .i64 (t : Int))) GE.out)
       clear z0 z1 z2 f0 f1 f2 HX2 HB2
       generalize (w13.setCell ⟨gb, 0, none⟩ (.int .i64 ((N : Int) - (t : Int)))).setCell ⟨gb, 1, none⟩ (.int .i64 (t : Int)) = w14 at *
       have z0 : w14.cell? ⟨gb, 0, none⟩ = some (.int .i64 ((N : Int) - (t : Int))) := (blk_cell HX3.out 0).trans rfl
       have z1 : w14.cell? ⟨gb, 1, none⟩ = some (.int .i64 (t : Int)) := (blk_cell HX3.out 1).trans rfl
       have z2 : w14.cell? ⟨gb, 2, none⟩ = some (.int .i64 0) := (blk_cell HX3.out 2).trans rfl
       have HIX := Aside0.mk (show Calls Try.prog 42 #[.slice A1 pts.length c1, .agg #[.int .i64 ((N : Int) - (t : Int)), .int .i64 (t : Int), .int .i64 0]] w14 fun e w' => e = .returned (.int .i64 (bval N pts 0 t)) ∧ Below w14.heap.size w14 w' from slices_Index_3_int_3_int.calls A1 c1 pts _ _ _ (bval N pts 0 t) w14 (Kd.C_below HCA.out.2.2 HB3.out) HCA.out.2.1 rfl)
       have HO3 := Aside0.mk (Kd.R_below HO.out HB3.out)
       have HA3 := Aside0.mk (Kd.R_below HA.out HB3.out)
       have HBB := Aside0.mk (below_step HB.out HB3.out)
       clear HO HA HB HB3 HX3
       go_wp2_with (first
        | (go_at_call 42; (with_reducible refine HIX.out.mono ?_); rintro e w15 ⟨rfl, hb⟩; have HO := Aside0.mk (Kd.R_below HO3.out hb); have HA := Aside0.mk (Kd.R_below HA3.out hb); have HB := Aside0.mk (below_step HBB.out hb); clear hb)
        | ((with_reducible refine gate_builtin (b := .append) (xs := #[.tmp 29, .tmp 33]) rfl ?_); at_builtin; refine Kd.R_append (Kd.int .i64) (w0 := w) w.heap.size rfl (.tmp 29) (.tmp 33) 26 3 (.int .i64 0) 8 rfl Try.underlying26 border_i rfl (by decide) (by omega) _ (bord N N pts 0 t) (bval N pts 0 t) [.int .i64 (bval N pts 0 t)] (fun _ => True) (fun _ => False) rfl rfl ?aP (fun _ hk => hk.elim) ?aF ?aO ?aB ?aS ?aL ?_; (case aP => exact rfl); (case aB => exact BB); (case aF => exact (fun _ _ => trivial)); (case aO => exact (KR HO)); (case aS => exact (below_size BB)); (case aL => exact HL.out); intro v4 w16 ho hb hg hat; have n0_ := Aside0.mk (Kd.R_over' (KR HA) (Kd.R_typed (KR HO)) (by decide) hg); have n2_ := Aside0.mk hb; have HO2 := Aside0.mk ho; clear HA HB HO; have HA := n0_; have HB := n2_; clear n0_ n2_; clear ho hb hg hat))
       go_roundg (N - (t + 1))
       case measure => have := HG2.out; omega
       case rel => exact ⟨t + 1, by first | rfl | rw [HW2.out], HG2.out.2, Nat.le_refl _, ⟨by rw [← bord_next]; exact KR HO2⟩, ⟨KR HA⟩, ⟨BB⟩⟩
      ·go_upto_region 9 with (first
        | ((with_reducible refine gate_dst (N := 7) rfl ?_); refine box_event ?hg (N := 7) ?hd (cs := #[.int .i64 0, .int .i64 0, .int .i64 0]) (t := 54) ?hr ?_; (case hd => rfl); (case hg => rfl); (case hr => exact GS); intro gb hg w12 hbox hb; have GE := Aside0.mk (Nat.le_of_eq hg.symm); have HBX := Aside0.mk hb; have HX := Aside0.mk hbox; have z0 : w12.cell? ⟨gb, 0, none⟩ = some (.int .i64 0) := (blk_cell hbox 0).trans rfl; have z1 : w12.cell? ⟨gb, 1, none⟩ = some (.int .i64 0) := (blk_cell hbox 1).trans rfl; have z2 : w12.cell? ⟨gb, 2, none⟩ = some (.int .i64 0) := (blk_cell hbox 2).trans rfl; have f0 := blk_frozen hbox 0; have f1 := blk_frozen hbox 1; have f2 := blk_frozen hbox 2; clear hb hg hbox))
       have HX2 := Aside0.mk (blk_put (cs := #[.int .i64 0, .int .i64 0, .int .i64 0]) (blk_put (cs := #[.int .i64 0, .int .i64 0, .int .i64 0]) (blk_put (cs := #[.int .i64 0, .int .i64 0, .int .i64 0]) HX.out 0 (.int .i64 0) rfl) 1 (.int .i64 0) rfl) 2 (.int .i64 0) rfl)
       have HB2 := Aside0.mk (below_set (below_set (below_set HBX.out (j := 0) (v := .int .i64 0) GE.out) (j := 1) (v := .int .i64 0) GE.out) (j := 2) (v := .int .i64 0) GE.out)
       clear z0 z1 z2 f0 f1 f2 HX HBX
       generalize ((w12.setCell ⟨gb, 0, none⟩ (.int .i64 0)).setCell ⟨gb, 1, none⟩ (.int .i64 0)).setCell ⟨gb, 2, none⟩ (.int .i64 0) = w13 at *
       have z0 : w13.cell? ⟨gb, 0, none⟩ = some (.int .i64 0) := (blk_cell HX2.out 0).trans rfl
       have z1 : w13.cell? ⟨gb, 1, none⟩ = some (.int .i64 0) := (blk_cell HX2.out 1).trans rfl
       have z2 : w13.cell? ⟨gb, 2, none⟩ = some (.int .i64 0) := (blk_cell HX2.out 2).trans rfl
       have f0 := blk_frozen HX2.out 0
       have f1 := blk_frozen HX2.out 1
       have f2 := blk_frozen HX2.out 2
       go_upto_region 10 with (fail)
       have HX3 := Aside0.mk (blk_put (cs := #[.int .i64 0, .int .i64 ((N : Int) - (t : Int)), .int .i64 0]) (blk_put (cs := #[.int .i64 0, .int .i64 0, .int .i64 0]) HX2.out 1 (.int .i64 ((N : Int) - (t : Int))) rfl) 2 (.int .i64 (t : Int)) rfl : ((w13.setCell ⟨gb, 1, none⟩ (.int .i64 ((N : Int) - (t : Int)))).setCell ⟨gb, 2, none⟩ (.int .i64 (t : Int))).heap[gb]? = some (.cells #[.int .i64 0, .int .i64 ((N : Int) - (t : Int)), .int .i64 (t : Int)] 54 (0, 0)))
       have HB3 := Aside0.mk (below_set (below_set HB2.out (j := 1) (v := (.int .i64 ((N : Int) - (t : Int)))) GE.out) (j := 2) (v := (.int .i64 (t : Int))) GE.out)
       clear z0 z1 z2 f0 f1 f2 HX2 HB2
       generalize (w13.setCell ⟨gb, 1, none⟩ (.int .i64 ((N : Int) - (t : Int)))).setCell ⟨gb, 2, none⟩ (.int .i64 (t : Int)) = w14 at *
       have z0 : w14.cell? ⟨gb, 0, none⟩ = some (.int .i64 0) := (blk_cell HX3.out 0).trans rfl
       have z1 : w14.cell? ⟨gb, 1, none⟩ = some (.int .i64 ((N : Int) - (t : Int))) := (blk_cell HX3.out 1).trans rfl
       have z2 : w14.cell? ⟨gb, 2, none⟩ = some (.int .i64 (t : Int)) := (blk_cell HX3.out 2).trans rfl
       have HIX := Aside0.mk (show Calls Try.prog 42 #[.slice A1 pts.length c1, .agg #[.int .i64 0, .int .i64 ((N : Int) - (t : Int)), .int .i64 (t : Int)]] w14 fun e w' => e = .returned (.int .i64 (bval N pts 1 t)) ∧ Below w14.heap.size w14 w' from slices_Index_3_int_3_int.calls A1 c1 pts _ _ _ (bval N pts 1 t) w14 (Kd.C_below HCA.out.2.2 HB3.out) HCA.out.2.1 rfl)
       have HO3 := Aside0.mk (Kd.R_below HO.out HB3.out)
       have HA3 := Aside0.mk (Kd.R_below HA.out HB3.out)
       have HBB := Aside0.mk (below_step HB.out HB3.out)
       clear HO HA HB HB3 HX3
       go_wp2_with (first
        | (go_at_call 42; (with_reducible refine HIX.out.mono ?_); rintro e w15 ⟨rfl, hb⟩; have HO := Aside0.mk (Kd.R_below HO3.out hb); have HA := Aside0.mk (Kd.R_below HA3.out hb); have HB := Aside0.mk (below_step HBB.out hb); clear hb)
        | ((with_reducible refine gate_builtin (b := .append) (xs := #[.tmp 29, .tmp 33]) rfl ?_); at_builtin; refine Kd.R_append (Kd.int .i64) (w0 := w) w.heap.size rfl (.tmp 29) (.tmp 33) 26 3 (.int .i64 0) 8 rfl Try.underlying26 border_i rfl (by decide) (by omega) _ (bord N N pts 1 t) (bval N pts 1 t) [.int .i64 (bval N pts 1 t)] (fun _ => True) (fun _ => False) rfl rfl ?aP (fun _ hk => hk.elim) ?aF ?aO ?aB ?aS ?aL ?_; (case aP => exact rfl); (case aB => exact BB); (case aF => exact (fun _ _ => trivial)); (case aO => exact (KR HO)); (case aS => exact (below_size BB)); (case aL => exact HL.out); intro v4 w16 ho hb hg hat; have n0_ := Aside0.mk (Kd.R_over' (KR HA) (Kd.R_typed (KR HO)) (by decide) hg); have n2_ := Aside0.mk hb; have HO2 := Aside0.mk ho; clear HA HB HO; have HA := n0_; have HB := n2_; clear n0_ n2_; clear ho hb hg hat))
       go_roundg (N - (t + 1))
       case measure => have := HG2.out; omega
       case rel => exact ⟨t + 1, by first | rfl | rw [HW2.out], HG2.out.2, Nat.le_refl _, ⟨by rw [← bord_next]; exact KR HO2⟩, ⟨KR HA⟩, ⟨BB⟩⟩
      ·go_upto_region 9 with (first
        | ((with_reducible refine gate_dst (N := 7) rfl ?_); refine box_event ?hg (N := 7) ?hd (cs := #[.int .i64 0, .int .i64 0, .int .i64 0]) (t := 54) ?hr ?_; (case hd => rfl); (case hg => rfl); (case hr => exact GS); intro gb hg w12 hbox hb; have GE := Aside0.mk (Nat.le_of_eq hg.symm); have HBX := Aside0.mk hb; have HX := Aside0.mk hbox; have z0 : w12.cell? ⟨gb, 0, none⟩ = some (.int .i64 0) := (blk_cell hbox 0).trans rfl; have z1 : w12.cell? ⟨gb, 1, none⟩ = some (.int .i64 0) := (blk_cell hbox 1).trans rfl; have z2 : w12.cell? ⟨gb, 2, none⟩ = some (.int .i64 0) := (blk_cell hbox 2).trans rfl; have f0 := blk_frozen hbox 0; have f1 := blk_frozen hbox 1; have f2 := blk_frozen hbox 2; clear hb hg hbox))
       have HX2 := Aside0.mk (blk_put (cs := #[.int .i64 0, .int .i64 0, .int .i64 0]) (blk_put (cs := #[.int .i64 0, .int .i64 0, .int .i64 0]) (blk_put (cs := #[.int .i64 0, .int .i64 0, .int .i64 0]) HX.out 0 (.int .i64 0) rfl) 1 (.int .i64 0) rfl) 2 (.int .i64 0) rfl)
       have HB2 := Aside0.mk (below_set (below_set (below_set HBX.out (j := 0) (v := .int .i64 0) GE.out) (j := 1) (v := .int .i64 0) GE.out) (j := 2) (v := .int .i64 0) GE.out)
       clear z0 z1 z2 f0 f1 f2 HX HBX
       generalize ((w12.setCell ⟨gb, 0, none⟩ (.int .i64 0)).setCell ⟨gb, 1, none⟩ (.int .i64 0)).setCell ⟨gb, 2, none⟩ (.int .i64 0) = w13 at *
       have z0 : w13.cell? ⟨gb, 0, none⟩ = some (.int .i64 0) := (blk_cell HX2.out 0).trans rfl
       have z1 : w13.cell? ⟨gb, 1, none⟩ = some (.int .i64 0) := (blk_cell HX2.out 1).trans rfl
       have z2 : w13.cell? ⟨gb, 2, none⟩ = some (.int .i64 0) := (blk_cell HX2.out 2).trans rfl
       have f0 := blk_frozen HX2.out 0
       have f1 := blk_frozen HX2.out 1
       have f2 := blk_frozen HX2.out 2
       go_upto_region 10 with (fail)
       have HX3 := Aside0.mk (blk_put (cs := #[.int .i64 0, .int .i64 0, .int .i64 ((N : Int) - (t : Int))]) (blk_put (cs := #[.int .i64 0, .int .i64 0, .int .i64 0]) HX2.out 2 (.int .i64 ((N : Int) - (t : Int))) rfl) 0 (.int .i64 (t : Int)) rfl : ((w13.setCell ⟨gb, 2, none⟩ (.int .i64 ((N : Int) - (t : Int)))).setCell ⟨gb, 0, none⟩ (.int .i64 (t : Int))).heap[gb]? = some (.cells #[.int .i64 (t : Int), .int .i64 0, .int .i64 ((N : Int) - (t : Int))] 54 (0, 0)))
       have HB3 := Aside0.mk (below_set (below_set HB2.out (j := 2) (v := (.int .i64 ((N : Int) - (t : Int)))) GE.out) (j := 0) (v := (.int .i64 (t : Int))) GE.out)
       clear z0 z1 z2 f0 f1 f2 HX2 HB2
       generalize (w13.setCell ⟨gb, 2, none⟩ (.int .i64 ((N : Int) - (t : Int)))).setCell ⟨gb, 0, none⟩ (.int .i64 (t : Int)) = w14 at *
       have z0 : w14.cell? ⟨gb, 0, none⟩ = some (.int .i64 (t : Int)) := (blk_cell HX3.out 0).trans rfl
       have z1 : w14.cell? ⟨gb, 1, none⟩ = some (.int .i64 0) := (blk_cell HX3.out 1).trans rfl
       have z2 : w14.cell? ⟨gb, 2, none⟩ = some (.int .i64 ((N : Int) - (t : Int))) := (blk_cell HX3.out 2).trans rfl
       have HIX := Aside0.mk (show Calls Try.prog 42 #[.slice A1 pts.length c1, .agg #[.int .i64 (t : Int), .int .i64 0, .int .i64 ((N : Int) - (t : Int))]] w14 fun e w' => e = .returned (.int .i64 (bval N pts 2 t)) ∧ Below w14.heap.size w14 w' from slices_Index_3_int_3_int.calls A1 c1 pts _ _ _ (bval N pts 2 t) w14 (Kd.C_below HCA.out.2.2 HB3.out) HCA.out.2.1 rfl)
       have HO3 := Aside0.mk (Kd.R_below HO.out HB3.out)
       have HA3 := Aside0.mk (Kd.R_below HA.out HB3.out)
       have HBB := Aside0.mk (below_step HB.out HB3.out)
       clear HO HA HB HB3 HX3
       go_wp2_with (first
        | (go_at_call 42; (with_reducible refine HIX.out.mono ?_); rintro e w15 ⟨rfl, hb⟩; have HO := Aside0.mk (Kd.R_below HO3.out hb); have HA := Aside0.mk (Kd.R_below HA3.out hb); have HB := Aside0.mk (below_step HBB.out hb); clear hb)
        | ((with_reducible refine gate_builtin (b := .append) (xs := #[.tmp 29, .tmp 33]) rfl ?_); at_builtin; refine Kd.R_append (Kd.int .i64) (w0 := w) w.heap.size rfl (.tmp 29) (.tmp 33) 26 3 (.int .i64 0) 8 rfl Try.underlying26 border_i rfl (by decide) (by omega) _ (bord N N pts 2 t) (bval N pts 2 t) [.int .i64 (bval N pts 2 t)] (fun _ => True) (fun _ => False) rfl rfl ?aP (fun _ hk => hk.elim) ?aF ?aO ?aB ?aS ?aL ?_; (case aP => exact rfl); (case aB => exact BB); (case aF => exact (fun _ _ => trivial)); (case aO => exact (KR HO)); (case aS => exact (below_size BB)); (case aL => exact HL.out); intro v4 w16 ho hb hg hat; have n0_ := Aside0.mk (Kd.R_over' (KR HA) (Kd.R_typed (KR HO)) (by decide) hg); have n2_ := Aside0.mk hb; have HO2 := Aside0.mk ho; clear HA HB HO; have HA := n0_; have HB := n2_; clear n0_ n2_; clear ho hb hg hat))
       go_roundg (N - (t + 1))
       case measure => have := HG2.out; omega
       case rel => exact ⟨t + 1, by first | rfl | rw [HW2.out], HG2.out.2, Nat.le_refl _, ⟨by rw [← bord_next]; exact KR HO2⟩, ⟨KR HA⟩, ⟨BB⟩⟩
     ·have htN : t = N := by omega
      subst htN
      have ht0 : decide ((t : Int) < (t : Int)) = false := decide_eq_false (by omega)
      have ht1 : ((t : Int) < (t : Int)) = False := eq_false (by omega)
      have HO2 := Aside0.mk (show Kd.R (Kd.int .i64) 3 wr w.heap.size (fun _ => True) _ (bord t t pts (s + 1) 0) from (bord_side t t pts s) ▸ HO.out)
      clear ht hg2 htl
      go_wp2
      go_roundg (3 - (s + 1))
      case measure => have := HG.out; omega
      case rel => exact ⟨s + 1, _, rfl, HNX.out, by have := HG.out; omega, Nat.le_refl _, ⟨KR HO2⟩, ⟨KR HA⟩, ⟨BB⟩⟩
   ·have hs3 : s = 3 := by omega
    subst hs3
    have hx3 : decide (x < 3) = false := decide_eq_false (by omega)
    clear hg hs hlt hx
    go_wp2
    go_ret
    exact ⟨_, rfl, by rw [← HRR.out]; exact KR HO, BB⟩
 ·rw [if_neg hd] at h
  cases h

/-! ### impl_BorderOf: function 15 -/
def impl_BorderOf.f (k : Nat) (a0 : Int) : Option (List Int × Bool) := (impl_isSide.f a0).bind fun t229 => (if t229 = true then ((impl_border.f k a0).bind fun t230 => (some (t230, true))) else (some (([] : List Int), false)))
theorem impl_BorderOf.mono : ∀ a0 k, LeO (impl_BorderOf.f k a0) (impl_BorderOf.f (k + 1) a0) := by
 intro a0 k
 unfold impl_BorderOf.f
 repeat' first
   | with_reducible first | exact impl_border.mono _ _ | exact LeO.refl _ | exact LeO.none _ | refine LeO.ite ?_ ?_ | refine LeO.bind ?_ (fun _ => ?_)
   | exact LeO.none _ | refine LeO.ite ?_ ?_ | refine LeO.bind ?_ (fun _ => ?_)
theorem impl_BorderOf.calls (k : Nat) (a0 : Int) (r1 : List Int) (r2 : Bool) (w : World) (h : impl_BorderOf.f k a0 = some (r1, r2)) :
  Calls Try.prog 15 #[.int .i64 a0] w fun e w' => ∃ v0_ : Value, e = .returned (.tuple #[v0_, .bool r2]) ∧ Kd.R (Kd.int .i64) 3 w' w.heap.size (fun _ => True) v0_ r1 ∧ Below w.heap.size w w' := by
 have HB := Aside0.mk (Below.refl w.heap.size w)
 have H : ((impl_isSide.f a0).bind fun t229 => (if t229 = true then ((impl_border.f k a0).bind fun t230 => (some (t230, true))) else (some (([] : List Int), false)))) = some (r1, r2) := h
 clear h
 replace H := EA H
 obtain ⟨t229, A2, H⟩ := H
 by_cases c3 : t229 = true
 ·subst c3
  replace H := IP H
  replace H := EA H
  obtain ⟨t230, A4, H⟩ := H
  simp only [Option.some.injEq, Prod.mk.injEq] at H
  obtain ⟨rfl, rfl⟩ := H
  go_enter Try.func15, Try.ntmps15
  go_wp2_with (first | ((with_reducible refine gate_callee (f := 41) rfl ?_); refine goesL_ (some 5) rfl rfl Try.func41 (by kernel_rfl) rfl #[.int .i64 a0] rfl TA ?_; (with_reducible refine (impl_isSide.calls a0 true _ A2.out).mono ?_); rintro e w' ⟨rfl, ⟨nd, rfl⟩⟩; refine ⟨_, rfl, ?_⟩) | ((with_reducible refine gate_callee (f := 43) rfl ?_); refine goesL_ (some 8) rfl rfl Try.func43 (by kernel_rfl) rfl #[.int .i64 a0] rfl TA ?_; (with_reducible refine (impl_border.calls k a0 t230 _ A4.out).mono ?_); rintro e w5 ⟨v231, rfl, ho0, hb⟩; refine ⟨_, rfl, ?_⟩; have n0_ := Aside0.mk (Kd.R_lower ho0 (below_size BB)); have n1_ := Aside0.mk (below_step BB hb); clear HB; have HO232 := n0_; have HB := n1_; clear n0_ n1_; (try clear hb); (try clear hb2); (try clear hk); (try clear hi); (try clear ho0)))
  go_ret2
  exact ⟨_, RE, KR HO232, BB⟩
 ·replace c3 := Bool.eq_false_iff.mpr c3
  subst c3
  replace H := IN H
  simp only [Option.some.injEq, Prod.mk.injEq] at H
  obtain ⟨rfl, rfl⟩ := H
  go_enter Try.func15, Try.ntmps15
  go_wp2_with (first | ((with_reducible refine gate_callee (f := 41) rfl ?_); refine goesL_ (some 5) rfl rfl Try.func41 (by kernel_rfl) rfl #[.int .i64 a0] rfl TA ?_; (with_reducible refine (impl_isSide.calls a0 false _ A2.out).mono ?_); rintro e w' ⟨rfl, ⟨nd, rfl⟩⟩; refine ⟨_, rfl, ?_⟩))
  go_ret2
  exact ⟨_, RE, by first | exact Kd.R_nil _ _ _ _ _ | exact Kd.N_nil _ _ _ _ _ | exact Kd.V_nil _ _ _ _ _ | exact Kd.Q_nil _ _ _ _ _ | exact Kd.S_nil _ _ _ _ _, BB⟩

/-! ### laws_uHas: function 16 -/
def laws_uHas.l0 : Nat → Int → List Int → Int → Int → Option (Bool)
 | 0, _, _, _, _ => none
 | k + 1, x1, x7, x8, x9 => if x9 < x8 then (if 0 ≤ x9 then (if x9 < (x7.length : Int) then (if (rd x7 x9) = x1 then (some true) else (laws_uHas.l0 k x1 x7 x8 (wrap64 (x9 + 1)))) else (none)) else (none)) else (some false)
def laws_uHas.f (k : Nat) (l0 : List Int) (a1 : Int) : Option (Bool) := laws_uHas.l0 k a1 l0 (l0.length : Int) 0
theorem laws_uHas.mono_l : ∀ k, (∀ y0 y1 y2 y3, LeO (laws_uHas.l0 k y0 y1 y2 y3) (laws_uHas.l0 (k + 1) y0 y1 y2 y3))
 | 0 => fun _ _ _ _ r h => by simp [laws_uHas.l0] at h
 | k + 1 => by
  have ih0 := laws_uHas.mono_l k
  ·intro y0 y1 y2 y3
   unfold laws_uHas.l0
   repeat' first
   | with_reducible first | exact ih0 _ _ _ _ | exact LeO.refl _ | exact LeO.none _ | refine LeO.ite ?_ ?_ | refine LeO.bind ?_ (fun _ => ?_)
   | exact LeO.none _ | refine LeO.ite ?_ ?_ | refine LeO.bind ?_ (fun _ => ?_)
theorem laws_uHas.mono : ∀ a0 a1 k, LeO (laws_uHas.f k a0 a1) (laws_uHas.f (k + 1) a0 a1) := by
 intro a0 a1 k
 have ih0 := laws_uHas.mono_l k
 unfold laws_uHas.f
 repeat' first
   | with_reducible first | exact ih0 _ _ _ _ | exact LeO.refl _ | exact LeO.none _ | refine LeO.ite ?_ ?_ | refine LeO.bind ?_ (fun _ => ?_)
   | exact LeO.none _ | refine LeO.ite ?_ ?_ | refine LeO.bind ?_ (fun _ => ?_)
theorem laws_uHas.calls (k : Nat) (A0 : Option Addr) (c0 : Nat) (l0 : List Int) (a1 : Int) (r : Bool) (w : World) (hr0 : Kd.C (Kd.int .i64) w A0 l0.length l0) (hc0 : l0.length ≤ c0) (h : laws_uHas.f k l0 a1 = some r) :
  Calls Try.prog 16 #[.slice A0 l0.length c0, .int .i64 a1] w fun e w' => e = .returned (.bool r) ∧ Drawn0 w w' := by
 have HR0 := Aside0.mk hr0
 have HC0 := Aside0.mk hc0
 clear hr0 hc0
 have H : (laws_uHas.l0 k a1 l0 (l0.length : Int) 0) = some r := h
 clear h
 have H' := Aside0.mk H
 clear H
 go_enter Try.func16, Try.ntmps16
 go_wp2
 go_loopg [9] k (fun kq v9 w' => ∃ (x9_1 : Int), v9 = .int .i64 x9_1 ∧ Aside0 (laws_uHas.l0 kq a1 l0 (l0.length : Int) x9_1 = some r) ∧ Aside0 (kq ≤ k) ∧ Drawn0 w w')
 case atStart => exact ⟨(0), RF, H', ⟨Nat.le_refl _⟩, by repeat (first | exact Drawn0.refl _ | apply Drawn0.step)⟩
 case round =>
  clear H'
  try clear c1
  try clear p2
  obtain ⟨x9_1, rfl, HA, HK1, ⟨m1, rfl⟩⟩ := hrel
  cases gk with
  | zero => exact absurd HA.out (by simp [laws_uHas.l0])
  | succ k1 =>
   have H := HA.out
   clear HA
   simp only [laws_uHas.l0] at H
   by_cases c3 : x9_1 < (l0.length : Int)
   ·rw [if_pos c3] at H
    have c3b0 : decide (x9_1 < (l0.length : Int)) = true := decide_eq_true c3
    clear c3
    by_cases c4 : 0 ≤ x9_1
    ·rw [if_pos c4] at H
     have c4b0 : decide (0 ≤ x9_1) = true := decide_eq_true c4
     clear c4
     by_cases c5 : x9_1 < (l0.length : Int)
     ·rw [if_pos c5] at H
      have c5b0 : decide (x9_1 < (l0.length : Int)) = true := decide_eq_true c5
      clear c5
      by_cases c6 : (rd l0 x9_1) = a1
      ·rw [if_pos c6] at H
       have c6b0 : ((rd l0 x9_1) == a1) = true := beq_iff_eq.mpr c6
       have c6b1 : ((rd l0 x9_1) != a1) = false := bne_eq_false_iff_eq.mpr c6
       clear c6
       obtain rfl := Option.some.inj H
       have p233 : 0 ≤ (x9_1 : Int) := of_decide_eq_true AS
       have q233 : x9_1 < (l0.length : Int) := of_decide_eq_true AS
       obtain ⟨ad233, e233, hx233_0⟩ := Kd.at_int HR0.out x9_1 p233 q233
       cases e233
       replace p233 := eq_true p233
       replace q233 := eq_true q233
       go_wp2
       go_ret
       exact ⟨RF, DR⟩
      ·rw [if_neg c6] at H
       have c6b0 : ((rd l0 x9_1) == a1) = false := beq_eq_false_iff_ne.mpr c6
       have c6b1 : ((rd l0 x9_1) != a1) = true := bne_iff_ne.mpr c6
       have H' := Aside0.mk H
       clear H
       have p233 : 0 ≤ (x9_1 : Int) := of_decide_eq_true AS
       have q233 : x9_1 < (l0.length : Int) := of_decide_eq_true AS
       obtain ⟨ad233, e233, hx233_0⟩ := Kd.at_int HR0.out x9_1 p233 q233
       cases e233
       replace p233 := eq_true p233
       replace q233 := eq_true q233
       go_wp2
       go_roundg k1
       case measure => have := HK1.out; omega
       case rel => exact ⟨(wrap64 (x9_1 + 1)), RF, H', ⟨by have := HK1.out; omega⟩, by repeat (first | exact Drawn0.refl _ | apply Drawn0.step)⟩
     ·rw [if_neg c5] at H
      cases H
    ·rw [if_neg c4] at H
     cases H
   ·rw [if_neg c3] at H
    have c3b0 : decide (x9_1 < (l0.length : Int)) = false := decide_eq_false c3
    clear c3
    obtain rfl := Option.some.inj H
    go_wp2
    go_ret
    exact ⟨RF, DR⟩

/-! ### slices_Index_int_int: function 67 -/
def slices_Index_int_int.l0 : Nat → List Int → Int → Int → Int → Option (Int)
 | 0, _, _, _, _ => none
 | k + 1, x0, x1, x7, x8 => if x8 < x7 then (if 0 ≤ x8 then (if x8 < (x0.length : Int) then (if x1 = (rd x0 x8) then (some x8) else (slices_Index_int_int.l0 k x0 x1 x7 (wrap64 (x8 + 1)))) else (none)) else (none)) else (some (-1))
def slices_Index_int_int.f (k : Nat) (l0 : List Int) (a1 : Int) : Option (Int) := slices_Index_int_int.l0 k l0 a1 (l0.length : Int) 0
theorem slices_Index_int_int.mono_l : ∀ k, (∀ y0 y1 y2 y3, LeO (slices_Index_int_int.l0 k y0 y1 y2 y3) (slices_Index_int_int.l0 (k + 1) y0 y1 y2 y3))
 | 0 => fun _ _ _ _ r h => by simp [slices_Index_int_int.l0] at h
 | k + 1 => by
  have ih0 := slices_Index_int_int.mono_l k
  ·intro y0 y1 y2 y3
   unfold slices_Index_int_int.l0
   repeat' first
   | with_reducible first | exact ih0 _ _ _ _ | exact LeO.refl _ | exact LeO.none _ | refine LeO.ite ?_ ?_ | refine LeO.bind ?_ (fun _ => ?_)
   | exact LeO.none _ | refine LeO.ite ?_ ?_ | refine LeO.bind ?_ (fun _ => ?_)
theorem slices_Index_int_int.mono : ∀ a0 a1 k, LeO (slices_Index_int_int.f k a0 a1) (slices_Index_int_int.f (k + 1) a0 a1) := by
 intro a0 a1 k
 have ih0 := slices_Index_int_int.mono_l k
 unfold slices_Index_int_int.f
 repeat' first
   | with_reducible first | exact ih0 _ _ _ _ | exact LeO.refl _ | exact LeO.none _ | refine LeO.ite ?_ ?_ | refine LeO.bind ?_ (fun _ => ?_)
   | exact LeO.none _ | refine LeO.ite ?_ ?_ | refine LeO.bind ?_ (fun _ => ?_)
theorem slices_Index_int_int.calls (k : Nat) (A0 : Option Addr) (c0 : Nat) (l0 : List Int) (a1 : Int) (r : Int) (w : World) (hr0 : Kd.C (Kd.int .i64) w A0 l0.length l0) (hc0 : l0.length ≤ c0) (h : slices_Index_int_int.f k l0 a1 = some r) :
  Calls Try.prog 67 #[.slice A0 l0.length c0, .int .i64 a1] w fun e w' => e = .returned (.int .i64 r) ∧ Drawn0 w w' := by
 have HR0 := Aside0.mk hr0
 have HC0 := Aside0.mk hc0
 clear hr0 hc0
 have H : (slices_Index_int_int.l0 k l0 a1 (l0.length : Int) 0) = some r := h
 clear h
 have H' := Aside0.mk H
 clear H
 go_enter Try.func67, Try.ntmps67
 go_wp2
 go_loopg [8] k (fun kq v8 w' => ∃ (x8_1 : Int), v8 = .int .i64 x8_1 ∧ Aside0 (slices_Index_int_int.l0 kq l0 a1 (l0.length : Int) x8_1 = some r) ∧ Aside0 (kq ≤ k) ∧ Drawn0 w w')
 case atStart => exact ⟨(0), RF, H', ⟨Nat.le_refl _⟩, by repeat (first | exact Drawn0.refl _ | apply Drawn0.step)⟩
 case round =>
  clear H'
  try clear p2
  obtain ⟨x8_1, rfl, HA, HK1, ⟨m1, rfl⟩⟩ := hrel
  cases gk with
  | zero => exact absurd HA.out (by simp [slices_Index_int_int.l0])
  | succ k1 =>
   have H := HA.out
   clear HA
   simp only [slices_Index_int_int.l0] at H
   by_cases c3 : x8_1 < (l0.length : Int)
   ·rw [if_pos c3] at H
    have c3b0 : decide (x8_1 < (l0.length : Int)) = true := decide_eq_true c3
    clear c3
    by_cases c4 : 0 ≤ x8_1
    ·rw [if_pos c4] at H
     have c4b0 : decide (0 ≤ x8_1) = true := decide_eq_true c4
     clear c4
     by_cases c5 : x8_1 < (l0.length : Int)
     ·rw [if_pos c5] at H
      have c5b0 : decide (x8_1 < (l0.length : Int)) = true := decide_eq_true c5
      clear c5
      by_cases c6 : a1 = (rd l0 x8_1)
      ·rw [if_pos c6] at H
       have c6b0 : (a1 == (rd l0 x8_1)) = true := beq_iff_eq.mpr c6
       have c6b1 : (a1 != (rd l0 x8_1)) = false := bne_eq_false_iff_eq.mpr c6
       clear c6
       obtain rfl := Option.some.inj H
       have p234 : 0 ≤ (x8_1 : Int) := of_decide_eq_true AS
       have q234 : x8_1 < (l0.length : Int) := of_decide_eq_true AS
       obtain ⟨ad234, e234, hx234_0⟩ := Kd.at_int HR0.out x8_1 p234 q234
       cases e234
       replace p234 := eq_true p234
       replace q234 := eq_true q234
       go_wp2
       go_ret
       exact ⟨RF, DR⟩
      ·rw [if_neg c6] at H
       have c6b0 : (a1 == (rd l0 x8_1)) = false := beq_eq_false_iff_ne.mpr c6
       have c6b1 : (a1 != (rd l0 x8_1)) = true := bne_iff_ne.mpr c6
       have H' := Aside0.mk H
       clear H
       have p234 : 0 ≤ (x8_1 : Int) := of_decide_eq_true AS
       have q234 : x8_1 < (l0.length : Int) := of_decide_eq_true AS
       obtain ⟨ad234, e234, hx234_0⟩ := Kd.at_int HR0.out x8_1 p234 q234
       cases e234
       replace p234 := eq_true p234
       replace q234 := eq_true q234
       go_wp2
       go_roundg k1
       case measure => have := HK1.out; omega
       case rel => exact ⟨(wrap64 (x8_1 + 1)), RF, H', ⟨by have := HK1.out; omega⟩, by repeat (first | exact Drawn0.refl _ | apply Drawn0.step)⟩
     ·rw [if_neg c5] at H
      cases H
    ·rw [if_neg c4] at H
     cases H
   ·rw [if_neg c3] at H
    have c3b0 : decide (x8_1 < (l0.length : Int)) = false := decide_eq_false c3
    clear c3
    obtain rfl := Option.some.inj H
    go_wp2
    go_ret
    exact ⟨RF, DR⟩

/-! ### slices_Contains_int_int: function 63 -/
def slices_Contains_int_int.f (k : Nat) (l0 : List Int) (a1 : Int) : Option (Bool) := (slices_Index_int_int.f k l0 a1).bind fun t235 => (some (decide (t235 ≥ 0)))
theorem slices_Contains_int_int.mono : ∀ a0 a1 k, LeO (slices_Contains_int_int.f k a0 a1) (slices_Contains_int_int.f (k + 1) a0 a1) := by
 intro a0 a1 k
 unfold slices_Contains_int_int.f
 repeat' first
   | with_reducible first | exact slices_Index_int_int.mono _ _ _ | exact LeO.refl _ | exact LeO.none _ | refine LeO.ite ?_ ?_ | refine LeO.bind ?_ (fun _ => ?_)
   | exact LeO.none _ | refine LeO.ite ?_ ?_ | refine LeO.bind ?_ (fun _ => ?_)
theorem slices_Contains_int_int.calls (k : Nat) (A0 : Option Addr) (c0 : Nat) (l0 : List Int) (a1 : Int) (r : Bool) (w : World) (hr0 : Kd.C (Kd.int .i64) w A0 l0.length l0) (hc0 : l0.length ≤ c0) (h : slices_Contains_int_int.f k l0 a1 = some r) :
  Calls Try.prog 63 #[.slice A0 l0.length c0, .int .i64 a1] w fun e w' => e = .returned (.bool r) ∧ Drawn0 w w' := by
 have HR0 := Aside0.mk hr0
 have HC0 := Aside0.mk hc0
 clear hr0 hc0
 have H : ((slices_Index_int_int.f k l0 a1).bind fun t235 => (some (decide (t235 ≥ 0)))) = some r := h
 clear h
 replace H := EA H
 obtain ⟨t235, A3, H⟩ := H
 obtain rfl := Option.some.inj H
 go_enter Try.func63, Try.ntmps63
 go_wp2_with (first | ((with_reducible refine gate_callee (f := 67) rfl ?_); refine goesL_ (some 7) rfl rfl Try.func67 (by kernel_rfl) rfl #[.slice A0 l0.length c0, .int .i64 a1] rfl TA ?_; (with_reducible refine (slices_Index_int_int.calls k _ _ l0 a1 t235 _ ?side1 ?side2 A3.out).mono ?_); (case side1 => exact CW HR0.out); (case side2 => exact HC0.out); rintro e w' ⟨rfl, ⟨nd, rfl⟩⟩; refine ⟨_, rfl, ?_⟩))
 go_ret
 exact ⟨RF, DR⟩

/-! ### impl_with: function 44 -/
def impl_with.l0 : Nat → Int → Int → List Int → List (List Int) → Int → Int → Option (List Int)
 | 0, _, _, _, _, _, _ => none
 | k + 1, x1, x2, x7, x11, x12, x13 => if x13 < x12 then (if 0 ≤ x13 then (if x13 < (x11.length : Int) then ((slices_Contains_int_int.f k (rd_L3 x11 x13) x1).bind fun t240 => (if t240 = true then ((slices_Contains_int_int.f k (rd_L3 x11 x13) x2).bind fun t241 => (if t241 = true then (if x7.length < 17592186044416 then (impl_with.l0 k x1 x2 (x7 ++ [x13]) x11 x12 (wrap64 (x13 + 1))) else (none)) else (impl_with.l0 k x1 x2 x7 x11 x12 (wrap64 (x13 + 1))))) else (impl_with.l0 k x1 x2 x7 x11 x12 (wrap64 (x13 + 1))))) else (none)) else (none)) else (some x7)
def impl_with.f (k : Nat) (l0 : List (List Int)) (a1 : Int) (a2 : Int) : Option (List Int) := impl_with.l0 k a1 a2 (([] : List Int)) l0 (l0.length : Int) 0
theorem impl_with.mono_l : ∀ k, (∀ y0 y1 y2 y3 y4 y5, LeO (impl_with.l0 k y0 y1 y2 y3 y4 y5) (impl_with.l0 (k + 1) y0 y1 y2 y3 y4 y5))
 | 0 => fun _ _ _ _ _ _ r h => by simp [impl_with.l0] at h
 | k + 1 => by
  have ih0 := impl_with.mono_l k
  ·intro y0 y1 y2 y3 y4 y5
   unfold impl_with.l0
   repeat' first
   | with_reducible first | exact ih0 _ _ _ _ _ _ | exact slices_Contains_int_int.mono _ _ _ | exact LeO.refl _ | exact LeO.none _ | refine LeO.ite ?_ ?_ | refine LeO.bind ?_ (fun _ => ?_)
   | exact LeO.none _ | refine LeO.ite ?_ ?_ | refine LeO.bind ?_ (fun _ => ?_)
theorem impl_with.mono : ∀ a0 a1 a2 k, LeO (impl_with.f k a0 a1 a2) (impl_with.f (k + 1) a0 a1 a2) := by
 intro a0 a1 a2 k
 have ih0 := impl_with.mono_l k
 unfold impl_with.f
 repeat' first
   | with_reducible first | exact ih0 _ _ _ _ _ _ | exact slices_Contains_int_int.mono _ _ _ | exact LeO.refl _ | exact LeO.none _ | refine LeO.ite ?_ ?_ | refine LeO.bind ?_ (fun _ => ?_)
   | exact LeO.none _ | refine LeO.ite ?_ ?_ | refine LeO.bind ?_ (fun _ => ?_)
theorem impl_with.calls (k : Nat) (A0 : Option Addr) (c0 : Nat) (l0 : List (List Int)) (a1 : Int) (a2 : Int) (r : List Int) (w : World) (hr0 : Kd.C (Kd.slice 3 (Kd.int .i64)) w A0 l0.length l0) (hc0 : l0.length ≤ c0) (h : impl_with.f k l0 a1 a2 = some r) :
  Calls Try.prog 44 #[.slice A0 l0.length c0, .int .i64 a1, .int .i64 a2] w fun e w' => ∃ v0_ : Value, e = .returned (v0_) ∧ Kd.R (Kd.int .i64) 3 w' w.heap.size (fun _ => True) v0_ r ∧ Below w.heap.size w w' := by
 have HR0 := Aside0.mk hr0
 have HC0 := Aside0.mk hc0
 clear hr0 hc0
 have HB := Aside0.mk (Below.refl w.heap.size w)
 have H : (impl_with.l0 k a1 a2 (([] : List Int)) l0 (l0.length : Int) 0) = some r := h
 clear h
 obtain ⟨y236, hy236⟩ : ∃ y_ : List Int, y_ = (([] : List Int)) := ⟨_, rfl⟩
 replace H : (impl_with.l0 k a1 a2 y236 l0 (l0.length : Int) 0) = some r := HY H hy236
 have Ny236 := Aside0.mk hy236
 clear hy236
 have H' := Aside0.mk H
 clear H
 go_enter Try.func44, Try.ntmps44
 go_wp2_with (first | ((with_reducible refine gate_dst (N := 10) rfl ?_); refine Kd.R_lit (Kd.int .i64) _ 3 ?hg (N := 10) ?hd (xs := ([] : List Int)) (inner := []) (ok := fun _ => True) (okp := fun _ => True) ?hr ?hp (fun _ hk => hk) trivial (Below.refl _ _) (Nat.le_refl _) (by simp) ?_; (case hd => rfl); (case hg => rfl); (case hr => exact GS); (case hp => exact (Reps.none _ _)); intro v237 w4 ho5 hb hg_ hnew_; clear hg_ hnew_; (first | rw [← Ny236.out] at ho5 | (simp only [Int.reduceToNat] at ho5; rw [← Ny236.out] at ho5)); have n0_ := Aside0.mk (Kd.R_lower ho5 (below_size BB)); have n1_ := Aside0.mk (below_step BB hb); clear HB; have HO238 := n0_; have HB := n1_; clear n0_ n1_; clear hb ho5))
 go_loopg [7, 13] k (fun kq v7 v13 w' => ∃ (x7_1 : List Int) (x13_1 : Int), v13 = .int .i64 x13_1 ∧ Aside0 (impl_with.l0 kq a1 a2 x7_1 l0 (l0.length : Int) x13_1 = some r) ∧ Aside0 (kq ≤ k) ∧ Aside0 (Kd.R (Kd.int .i64) 3 w' w.heap.size (fun _ => True) v7 x7_1) ∧ Aside0 (Below w.heap.size w w'))
 case atStart => exact ⟨(y236), (0), RF, H', ⟨Nat.le_refl _⟩, ⟨KR HO238⟩, ⟨BB⟩⟩
 case round =>
  clear H'
  try clear p2
  try clear c4
  obtain ⟨x7_1, x13_1, rfl, HA, HK1, HO_7, HB⟩ := hrel
  cases gk with
  | zero => exact absurd HA.out (by simp [impl_with.l0])
  | succ k1 =>
   have H := HA.out
   clear HA
   simp only [impl_with.l0] at H
   by_cases c6 : x13_1 < (l0.length : Int)
   ·rw [if_pos c6] at H
    have c6b0 : decide (x13_1 < (l0.length : Int)) = true := decide_eq_true c6
    clear c6
    by_cases c7 : 0 ≤ x13_1
    ·rw [if_pos c7] at H
     have c7b0 : decide (0 ≤ x13_1) = true := decide_eq_true c7
     clear c7
     by_cases c8 : x13_1 < (l0.length : Int)
     ·rw [if_pos c8] at H
      have c8b0 : decide (x13_1 < (l0.length : Int)) = true := decide_eq_true c8
      clear c8
      replace H := EA H
      obtain ⟨t240, A9, H⟩ := H
      by_cases c10 : t240 = true
      ·subst c10
       replace H := IP H
       replace H := EA H
       obtain ⟨t241, A11, H⟩ := H
       by_cases c12 : t241 = true
       ·subst c12
        replace H := IP H
        by_cases c13 : x7_1.length < 17592186044416
        ·rw [if_pos c13] at H
         have LMc13 := Aside0.mk c13
         clear c13
         obtain ⟨y242, hy242⟩ : ∃ y_ : List Int, y_ = (x7_1 ++ [x13_1]) := ⟨_, rfl⟩
         replace H : (impl_with.l0 k1 a1 a2 y242 l0 (l0.length : Int) (wrap64 (x13_1 + 1))) = some r := HY H hy242
         have Ny242 := Aside0.mk hy242
         clear hy242
         have H' := Aside0.mk H
         clear H
         have p239 : 0 ≤ (x13_1 : Int) := of_decide_eq_true AS
         have q239 : x13_1 < (l0.length : Int) := of_decide_eq_true AS
         obtain ⟨ad239, A239_0, c239_0, e239, hx239_0, hl239_0, hi239_0⟩ := at_L3 HR0.out x13_1 p239 q239
         cases e239
         try (replace hx239_0 := (HB.out.cell (World.block_lt_of_cell? w _ hx239_0)).trans hx239_0)
         have HR239_0 := Aside0.mk hi239_0
         have HC239_0 := Aside0.mk hl239_0
         clear hi239_0 hl239_0
         replace p239 := eq_true p239
         replace q239 := eq_true q239
         go_wp2_with (first | ((with_reducible refine gate_callee (f := 63) rfl ?_); refine goesL_ (some 20) rfl rfl Try.func63 (by kernel_rfl) rfl #[.slice A239_0 (rd_L3 l0 x13_1).length c239_0, .int .i64 a1] rfl TA ?_; (with_reducible refine (slices_Contains_int_int.calls k1 _ _ (rd_L3 l0 x13_1) a1 true _ ?side1 ?side2 A9.out).mono ?_); (case side1 => exact CW (Kd.C_below HR239_0.out HB.out)); (case side2 => exact HC239_0.out); rintro e w' ⟨rfl, ⟨nd, rfl⟩⟩; refine ⟨_, rfl, ?_⟩) | (go_at_call 63; (with_reducible refine (slices_Contains_int_int.calls k1 _ _ (rd_L3 l0 x13_1) a2 true _ ?side1 ?side2 A11.out).mono ?_); (case side1 => exact CW (Kd.C_below HR239_0.out BB)); (case side2 => exact HC239_0.out); rintro e w' ⟨rfl, ⟨nd, rfl⟩⟩) | ((with_reducible refine gate_builtin (b := .append) (xs := #[.tmp 26, .tmp 28]) rfl ?_); at_builtin; refine Kd.R_append (Kd.int .i64) (w0 := w) w.heap.size rfl (.tmp 26) (.tmp 28) 26 3 (.int .i64 0) 8 rfl Try.underlying26 info3 rfl (by decide) (by omega) u7 x7_1 x13_1 [.int .i64 x13_1] (fun _ => True) (fun _ => False) rfl rfl ?aP (fun _ hk => hk.elim) ?aF ?aO ?aB ?aS ?aL ?_; (case aP => exact rfl); (case aB => exact BB); (case aF => exact (fun _ _ => trivial)); (case aO => exact (KR HO_7)); (case aS => exact (below_size BB)); (case aL => have := LMc13.out; omega); intro v243 w14 ho hb hg hat; rw [← Ny242.out] at ho; have n0_ := Aside0.mk (hb); have n1_ := Aside0.mk (ho); clear HB; clear HO_7; have HB := n0_; have HO244 := n1_; clear n0_ n1_; clear ho hb hg hat))
         go_roundg k1
         case measure => have := HK1.out; omega
         case rel => exact ⟨(y242), (wrap64 (x13_1 + 1)), RF, H', ⟨by have := HK1.out; omega⟩, ⟨KR HO244⟩, ⟨BB⟩⟩
        ·rw [if_neg c13] at H
         cases H
       ·replace c12 := Bool.eq_false_iff.mpr c12
        subst c12
        replace H := IN H
        have H' := Aside0.mk H
        clear H
        have p239 : 0 ≤ (x13_1 : Int) := of_decide_eq_true AS
        have q239 : x13_1 < (l0.length : Int) := of_decide_eq_true AS
        obtain ⟨ad239, A239_0, c239_0, e239, hx239_0, hl239_0, hi239_0⟩ := at_L3 HR0.out x13_1 p239 q239
        cases e239
        try (replace hx239_0 := (HB.out.cell (World.block_lt_of_cell? w _ hx239_0)).trans hx239_0)
        have HR239_0 := Aside0.mk hi239_0
        have HC239_0 := Aside0.mk hl239_0
        clear hi239_0 hl239_0
        replace p239 := eq_true p239
        replace q239 := eq_true q239
        go_wp2_with (first | ((with_reducible refine gate_callee (f := 63) rfl ?_); refine goesL_ (some 20) rfl rfl Try.func63 (by kernel_rfl) rfl #[.slice A239_0 (rd_L3 l0 x13_1).length c239_0, .int .i64 a1] rfl TA ?_; (with_reducible refine (slices_Contains_int_int.calls k1 _ _ (rd_L3 l0 x13_1) a1 true _ ?side1 ?side2 A9.out).mono ?_); (case side1 => exact CW (Kd.C_below HR239_0.out HB.out)); (case side2 => exact HC239_0.out); rintro e w' ⟨rfl, ⟨nd, rfl⟩⟩; refine ⟨_, rfl, ?_⟩) | (go_at_call 63; (with_reducible refine (slices_Contains_int_int.calls k1 _ _ (rd_L3 l0 x13_1) a2 false _ ?side1 ?side2 A11.out).mono ?_); (case side1 => exact CW (Kd.C_below HR239_0.out BB)); (case side2 => exact HC239_0.out); rintro e w' ⟨rfl, ⟨nd, rfl⟩⟩))
        go_roundg k1
        case measure => have := HK1.out; omega
        case rel => exact ⟨(x7_1), (wrap64 (x13_1 + 1)), RF, H', ⟨by have := HK1.out; omega⟩, ⟨KR HO_7⟩, ⟨BB⟩⟩
      ·replace c10 := Bool.eq_false_iff.mpr c10
       subst c10
       replace H := IN H
       have H' := Aside0.mk H
       clear H
       have p239 : 0 ≤ (x13_1 : Int) := of_decide_eq_true AS
       have q239 : x13_1 < (l0.length : Int) := of_decide_eq_true AS
       obtain ⟨ad239, A239_0, c239_0, e239, hx239_0, hl239_0, hi239_0⟩ := at_L3 HR0.out x13_1 p239 q239
       cases e239
       try (replace hx239_0 := (HB.out.cell (World.block_lt_of_cell? w _ hx239_0)).trans hx239_0)
       have HR239_0 := Aside0.mk hi239_0
       have HC239_0 := Aside0.mk hl239_0
       clear hi239_0 hl239_0
       replace p239 := eq_true p239
       replace q239 := eq_true q239
       go_wp2_with (first | ((with_reducible refine gate_callee (f := 63) rfl ?_); refine goesL_ (some 20) rfl rfl Try.func63 (by kernel_rfl) rfl #[.slice A239_0 (rd_L3 l0 x13_1).length c239_0, .int .i64 a1] rfl TA ?_; (with_reducible refine (slices_Contains_int_int.calls k1 _ _ (rd_L3 l0 x13_1) a1 false _ ?side1 ?side2 A9.out).mono ?_); (case side1 => exact CW (Kd.C_below HR239_0.out HB.out)); (case side2 => exact HC239_0.out); rintro e w' ⟨rfl, ⟨nd, rfl⟩⟩; refine ⟨_, rfl, ?_⟩))
       go_roundg k1
       case measure => have := HK1.out; omega
       case rel => exact ⟨(x7_1), (wrap64 (x13_1 + 1)), RF, H', ⟨by have := HK1.out; omega⟩, ⟨KR HO_7⟩, ⟨BB⟩⟩
     ·rw [if_neg c8] at H
      cases H
    ·rw [if_neg c7] at H
     cases H
   ·rw [if_neg c6] at H
    have c6b0 : decide (x13_1 < (l0.length : Int)) = false := decide_eq_false c6
    clear c6
    obtain rfl := Option.some.inj H
    go_wp2
    go_ret
    exact ⟨_, RE, KR HO_7, BB⟩

end Go.Proofs.Ythkdkgbcokpbaab.PFnTrianglesAreCut
