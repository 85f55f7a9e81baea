-- Written by a program of this session (wip/tools/pp.sh) out of the translation; Lean checks it.
import Derived.Test.YtgpplbaloajgdaaPFnExactExitOfx0
import Derived.Test.YtgpplbaloajgdaaPFnExactExitOfx7
import Derived.Test.YtgpplbaloajgdaaPFnExactExitOfx8
namespace Go.Proofs.Ytgpplbaloajgdaa.PFnExactExitOf
open Go.RowKit Go.Proofs.YtgpplbaloajgdaaOwn Go.Proofs.YtgpplbaloajgdaaW.PrintWords Go.Proofs.YtgpplbaloajgdaaW.PrintLast Go.Proofs.YtgpplbaloajgdaaW.PrintMore
attribute [local go_sem] max2_int min2_int max_two min_two max_three min_three max_four min_four   -- for this text's walks alone
set_option linter.unusedVariables false
set_option linter.unusedSimpArgs false

def ix3 (a b c : Int) : List S70 → Nat → Int
 | [], _ => -1
 | p :: r, i => if a = p.f0 ∧ b = p.f1 ∧ c = p.f2 then (i : Int) else ix3 a b c r (i + 1)
def slices_Index_3_int_3_int.f (l0 : List S70) (a b c : Int) : Option Int := some (ix3 a b c l0 0)
theorem ix3_hit {a b c : Int} {l : List S70} {i : Nat} (hi : i < l.length) (h : a = (rd_T70 l (i : Int)).f0 ∧ b = (rd_T70 l (i : Int)).f1 ∧ c = (rd_T70 l (i : Int)).f2) : ix3 a b c (l.drop i) i = (i : Int) := by
 have e : rd_T70 l (i : Int) = l[i] := by unfold rd_T70; rw [Int.toNat_natCast, List.getD_eq_getElem?_getD, List.getElem?_eq_getElem hi]; rfl
 rw [e] at h; rw [List.drop_eq_getElem_cons hi, ix3, if_pos h]
theorem ix3_miss {a b c : Int} {l : List S70} {i : Nat} (hi : i < l.length) (h : ¬ (a = (rd_T70 l (i : Int)).f0 ∧ b = (rd_T70 l (i : Int)).f1 ∧ c = (rd_T70 l (i : Int)).f2)) : ix3 a b c (l.drop i) i = ix3 a b c (l.drop (i + 1)) (i + 1) := by
 have e : rd_T70 l (i : Int) = l[i] := by unfold rd_T70; rw [Int.toNat_natCast, List.getD_eq_getElem?_getD, List.getElem?_eq_getElem hi]; rfl
 rw [e] at h; rw [List.drop_eq_getElem_cons hi, ix3, if_neg h]
set_option maxHeartbeats 4000000 in
set_option maxRecDepth 100000 in
theorem slices_Index_3_int_3_int.calls (A0 : Option Addr) (c0 : Nat) (l0 : List S70) (a b c : Int) (r : Int) (w : World) (hr0 : Kd.C k70 w A0 l0.length l0) (hc0 : l0.length ≤ c0) (h : slices_Index_3_int_3_int.f l0 a b c = some r) :
  Calls Try.prog 73 #[.slice A0 l0.length c0, .agg #[.int .i64 a, .int .i64 b, .int .i64 c]] w fun e w' => e = .returned (.int .i64 r) ∧ Below w.heap.size w w' := by
 have hr : ix3 a b c l0 0 = r := Option.some.inj h; have HR := Aside0.mk hr; have HC := Aside0.mk hr0; have hu := Try.underlying70; have heq_ := @arr3_eq; have hmx : l0.length ≤ 9223372036854775807 := hr0.2.1; have HM := Aside0.mk hmx; clear h hr hr0 hc0 hmx
 go_enter Try.func73, Try.ntmps73
 go_wp2_with (first
  | ((with_reducible refine gate_dst (N := 3) rfl ?_); refine box_event ?hg (N := 3) ?hd (cs := #[.int .i64 a, .int .i64 b, .int .i64 c]) (t := 70) ?hr ?_; (case hd => rfl); (case hg => rfl); (case hr => first | (go_simp; done) | (go_simp; rfl)); intro gb hg w1 hbox hb; have HB1 := Aside0.mk hb; have HX := Aside0.mk hbox; clear hb hbox hg))
 go_loopg [8] l0.length (fun gg v8 wr => ∃ i : Nat, v8 = .int .i64 i ∧ i ≤ l0.length ∧ l0.length - i ≤ gg ∧ Aside0 (r = ix3 a b c (l0.drop i) i) ∧ Aside0 (wr.heap[gb]? = some (.cells #[.int .i64 a, .int .i64 b, .int .i64 c] 70 (0, 0))) ∧ Aside0 (Below w.heap.size w wr))
 case atStart => exact ⟨0, rfl, Nat.zero_le _, by omega, Aside0.mk (by rw [List.drop_zero]; exact HR.out.symm), HX, HB1⟩
 case round =>
  obtain ⟨i, rfl, hi, hg, hI, hX, hB⟩ := hrel
  by_cases hlt : i < l0.length
  ·have hi0 : (0 ≤ (i : Int)) = True := eq_true (by omega)
   have hi1 : ((i : Int) < (l0.length : Int)) = True := eq_true (by omega); have hi2 : decide ((i : Int) < (l0.length : Int)) = true := decide_eq_true (by omega); have hw : wrap64 ((i : Int) + 1) = ((i + 1 : Nat) : Int) := by have := HM.out; unfold wrap64; omega
   have z0 : wr.cell? ⟨gb, 0, none⟩ = some (.int .i64 a) := (blk_cell hX.out 0).trans rfl; have z1 : wr.cell? ⟨gb, 1, none⟩ = some (.int .i64 b) := (blk_cell hX.out 1).trans rfl; have z2 : wr.cell? ⟨gb, 2, none⟩ = some (.int .i64 c) := (blk_cell hX.out 2).trans rfl; obtain ⟨ad, e, x0, x1, x2⟩ := at_T70 HC.out (i : Int) (by omega) (by omega); cases e; replace x0 := (hB.out.cell (World.block_lt_of_cell? w _ x0)).trans x0; replace x1 := (hB.out.cell (World.block_lt_of_cell? w _ x1)).trans x1; replace x2 := (hB.out.cell (World.block_lt_of_cell? w _ x2)).trans x2; rw [Int.toNat_natCast] at x0 x1 x2; have HG := Aside0.mk (And.intro hg hlt); have HW := Aside0.mk hw
   by_cases hc : a = (rd_T70 l0 (i : Int)).f0 ∧ b = (rd_T70 l0 (i : Int)).f1 ∧ c = (rd_T70 l0 (i : Int)).f2
   ·have h3 := ix3_hit hlt hc
    have H3 := Aside0.mk h3; have q0 : (a == (rd_T70 l0 (i : Int)).f0) = true := beq_iff_eq.2 hc.1; have q1 : (b == (rd_T70 l0 (i : Int)).f1) = true := beq_iff_eq.2 hc.2.1; have q2 : (c == (rd_T70 l0 (i : Int)).f2) = true := beq_iff_eq.2 hc.2.2; clear hc h3 hg hi hlt hw
    go_wp2
    repeat (go_quiet (fail); try go_wp2)
    go_ret
    exact ⟨by rw [hI.out, H3.out]; rfl, by first | exact hB.out | exact pw_below_drewN hB.out _⟩
   ·have h3 := ix3_miss hlt hc
    have H3 := Aside0.mk (hI.out.trans h3)
    have q0 : ((a == (rd_T70 l0 (i : Int)).f0) && ((b == (rd_T70 l0 (i : Int)).f1) && (c == (rd_T70 l0 (i : Int)).f2))) = false := by
     rw [Bool.eq_false_iff]
     intro z
     simp only [Bool.and_eq_true, beq_iff_eq] at z
     exact hc z
    generalize (rd_T70 l0 (i : Int)).f0 = y0 at *
    generalize (rd_T70 l0 (i : Int)).f1 = y1 at *
    generalize (rd_T70 l0 (i : Int)).f2 = y2 at *
    clear hc h3 hg hi hlt hw
    go_wp2
    repeat (go_quiet (fail); try go_wp2)
    go_roundg (l0.length - (i + 1))
    case measure => have := HG.out; omega
    case rel => exact ⟨i + 1, by first | rfl | rw [HW.out], HG.out.2, by have := HG.out; omega, H3, by first | exact hX | exact Aside0.mk (blk_drewN hX.out _), Aside0.mk (by first | exact hB.out | exact pw_below_drewN hB.out _)⟩
  ·have hi2 : decide ((i : Int) < (l0.length : Int)) = false := decide_eq_false (by omega)
   have hi3 : ((i : Int) < (l0.length : Int)) = False := eq_false (by omega); have hi4 : decide (i < l0.length) = false := decide_eq_false (by omega); have e : l0.drop i = [] := List.drop_eq_nil_of_le (by omega); have H3 := Aside0.mk (show r = -1 by rw [hI.out, e]; rfl); clear hg hi hlt e
   go_wp2
   go_ret
   exact ⟨by rw [H3.out]; rfl, hB.out⟩

def bpt (n : Int) (s : Nat) (t : Int) : Int × Int × Int := match s with
 | 0 => (n - t, t, 0)
 | 1 => (0, n - t, t)
 | _ => (t, 0, n - t)
def bval (n : Int) (all : List S70) (s t : Nat) : Int := ix3 (bpt n s t).1 (bpt n s t).2.1 (bpt n s t).2.2 all 0
def bord (n : Int) (N : Nat) (all : List S70) (s t : Nat) : List Int := ((List.range s).flatMap fun s' => (List.range N).map fun j => bval n all s' j) ++ (List.range t).map fun j => bval n all s j
theorem bord_next (n : Int) (N : Nat) (all : List S70) (s t : Nat) : bord n N all s t ++ [bval n all s t] = bord n N all s (t + 1) := by
 unfold bord
 rw [List.range_succ (n := t), List.map_append, List.append_assoc]; rfl
theorem bord_side (n : Int) (N : Nat) (all : List S70) (s : Nat) : bord n N all s N = bord n N all (s + 1) 0 := by
 unfold bord
 rw [List.range_succ (n := s), List.flatMap_append, List.range_zero, List.map_nil, List.append_nil]
 simp
theorem bord_len (n : Int) (N : Nat) (all : List S70) (s t : Nat) : (bord n N all s t).length = s * N + t := by
 have : ∀ s, ((List.range s).flatMap fun s' => (List.range N).map fun j => bval n all s' j).length = s * N := fun s => by
  induction s with
  | zero => simp
  | succ s ih => rw [List.range_succ, List.flatMap_append, List.length_append, ih, Nat.add_mul]; simp
 unfold bord
 rw [List.length_append, this, List.length_map, List.length_range]
def impl_border.f (k : Nat) (a0 : Int) : Option (List Int) := (impl_points.f k a0).bind fun all => if decide (0 ≤ a0 ∧ a0 ≤ 1000) = true then some (bord a0 a0.toNat all 3 0) else none
theorem impl_border.mono : ∀ a0 k, LeO (impl_border.f k a0) (impl_border.f (k + 1) a0) := fun a0 k => LeO.bind (impl_points.mono _ _) (fun _ => LeO.refl _)
theorem border_i : (Try.prog.info? 3).map (fun i => (i.zero, i.size, i.bytes)) = some (some (.int .i64 0), 1, 8) := by kernel_rfl
set_option maxHeartbeats 8000000 in
set_option maxRecDepth 100000 in
theorem impl_border.calls (k : Nat) (a0 : Int) (r : List Int) (w : World) (h : impl_border.f k a0 = some r) :
  Calls Try.prog 48 #[.int .i64 a0] w fun e w' => ∃ v0_ : Value, e = .returned (v0_) ∧ Kd.R (Kd.int .i64) 3 w' w.heap.size (fun _ => True) v0_ r ∧ Below w.heap.size w w' := by
 unfold impl_border.f at h
 obtain ⟨pts, hpts, h⟩ := Option.bind_eq_some_iff.mp h
 by_cases hd : decide (0 ≤ a0 ∧ a0 ≤ 1000) = true
 ·rw [if_pos hd] at h
  obtain ⟨N, rfl⟩ := Int.eq_ofNat_of_zero_le (of_decide_eq_true hd).1; have hN : N ≤ 1000 := by have := (of_decide_eq_true hd).2; omega
  rw [Int.toNat_natCast] at h; have HRR := Aside0.mk (Option.some.inj h); have HP := Aside0.mk hpts; have HN := Aside0.mk hN; have HB := Aside0.mk (Below.refl w.heap.size w); have hu := Try.underlying70; clear h hd hpts hN
  go_enter Try.func48, Try.ntmps48
  go_wp2_with (first
   | ((with_reducible refine gate_dst (N := 8) rfl ?_); refine Kd.R_lit (Kd.int .i64) _ 3 ?hg (N := 8) ?hd (xs := ([] : List Int)) (inner := []) (ok := fun _ => True) (okp := fun _ => True) ?hr ?hp (fun _ hk => hk) trivial (Below.refl _ _) (Nat.le_refl _) (by simp) ?_; (case hd => rfl); (case hg => rfl); (case hr => first | (go_simp; done) | (go_simp; rfl)); (case hp => exact (Reps.none _ _)); intro v3 w3 ho4 hb hg_ hnew_; clear hg_ hnew_; have HO := Aside0.mk (Kd.R_lower ho4 (below_size BB)); have n1_ := Aside0.mk (below_step BB hb); clear HB; have HB := n1_; clear n1_; clear hb ho4)
   | (go_at_call 71; refine (impl_points.calls k (N : Int) pts _ HP.out).mono ?_; rintro e w5 ⟨vA, rfl, ho0, hb⟩; have n0_ := Aside0.mk (Kd.R_below (KR HO) hb); have HA := Aside0.mk (Kd.R_lower ho0 (below_size BB)); have n2_ := Aside0.mk (below_step BB hb); clear HO; clear HB; have HO := n0_; have HB := n2_; clear n0_ n2_; clear hb ho0; obtain ⟨A1, c1, e1⟩ := Kd.R_slice HA.out; subst e1))
  go_loopg [3, 11] 3 (fun gg v3 v11 wr => ∃ (s : Nat) (x : Int), v11 = .int .i64 x ∧ x = (s : Int) ∧ s ≤ 3 ∧ 3 - s ≤ gg ∧ Aside0 (Kd.R (Kd.int .i64) 3 wr w.heap.size (fun _ => True) v3 (bord N N pts s 0)) ∧ Aside0 (Kd.R k70 70 wr w.heap.size (fun _ => True) (.slice A1 pts.length c1) pts) ∧ Aside0 (Below w.heap.size w wr))
  case atStart => exact ⟨0, 0, rfl, rfl, by omega, by omega, ⟨KR HO⟩, ⟨KR HA⟩, ⟨BB⟩⟩
  case round =>
   clear HO HA HB; obtain ⟨s, x, rfl, hx, hs, hg, HO, HA, HB⟩ := hrel
   by_cases hlt : s < 3
   ·have hx3 : decide (x < 3) = true := decide_eq_true (by omega)
    have hnx : wrap64 (x + 1) = ((s + 1 : Nat) : Int) := by unfold wrap64; omega
    have HNX := Aside0.mk hnx; have HG := Aside0.mk (And.intro hg hlt); have HXX := Aside0.mk hx; clear hg hs hlt hnx hx
    go_wp2
    go_loopg [3, 15] N (fun gg v3 v15 wi => ∃ t : Nat, v15 = .int .i64 t ∧ t ≤ N ∧ N - t ≤ gg ∧ Aside0 (Kd.R (Kd.int .i64) 3 wi w.heap.size (fun _ => True) v3 (bord N N pts s t)) ∧ Aside0 (Kd.R k70 70 wi w.heap.size (fun _ => True) (.slice A1 pts.length c1) pts) ∧ Aside0 (Below w.heap.size w wi))
    case atStart => exact ⟨0, rfl, Nat.zero_le _, Nat.le_refl _, ⟨KR HO⟩, ⟨KR HA⟩, ⟨BB⟩⟩
    case round =>
     clear HO HA HB; obtain ⟨t, rfl, ht, hg2, HO, HA, HB⟩ := hrel
     by_cases htl : t < N
     ·have hNN := HN.out
      have hXX := HXX.out; have hss := HG.out.2; have ht0 : decide ((t : Int) < (N : Int)) = true := decide_eq_true (by omega); have ht1 : ((t : Int) < (N : Int)) = True := eq_true (by omega); have hw1 : wrap64 ((N : Int) - (t : Int)) = (N : Int) - (t : Int) := by unfold wrap64; omega
      have hw2 : wrap64 ((t : Int) + 1) = ((t + 1 : Nat) : Int) := by unfold wrap64; omega
      have hlen := bord_len N N pts s t; have hmul : s * N ≤ 3 * N := Nat.mul_le_mul_right _ (by omega); have hlt2 : ((bord N N pts s t).length + 1) * 8 ≤ 140737488355328 := by omega
      have HL := Aside0.mk hlt2; have HW2 := Aside0.mk hw2; have HG2 := Aside0.mk (And.intro hg2 htl); have hcA := Kd.R_reads' HA.out; have HCA := Aside0.mk hcA; have hcase : x = 0 ∧ s = 0 ∨ x = 1 ∧ s = 1 ∨ x = 2 ∧ s = 2 := by omega
      clear hNN hXX hss hlen hmul hlt2 hw2 hg2 htl ht hcA HXX HNX HG hx3
      rcases hcase with ⟨rfl, rfl⟩ | ⟨rfl, rfl⟩ | ⟨rfl, rfl⟩
      ·go_upto_region 9 with (first
        | ((with_reducible refine gate_dst (N := 7) rfl ?_); refine box_event ?hg (N := 7) ?hd (cs := #[.int .i64 0, .int .i64 0, .int .i64 0]) (t := 70) ?hr ?_; (case hd => rfl); (case hg => rfl); (case hr => first | (go_simp; done) | (go_simp; rfl)); intro gb hg w12 hbox hb; have GE := Aside0.mk (Nat.le_of_eq hg.symm); have HBX := Aside0.mk hb; have HX := Aside0.mk hbox; have z0 : w12.cell? ⟨gb, 0, none⟩ = some (.int .i64 0) := (blk_cell hbox 0).trans rfl; have z1 : w12.cell? ⟨gb, 1, none⟩ = some (.int .i64 0) := (blk_cell hbox 1).trans rfl; have z2 : w12.cell? ⟨gb, 2, none⟩ = some (.int .i64 0) := (blk_cell hbox 2).trans rfl; have f0 := blk_frozen hbox 0; have f1 := blk_frozen hbox 1; have f2 := blk_frozen hbox 2; clear hb hg hbox))
       have HX2 := Aside0.mk (blk_put (cs := #[.int .i64 0, .int .i64 0, .int .i64 0]) (blk_put (cs := #[.int .i64 0, .int .i64 0, .int .i64 0]) (blk_put (cs := #[.int .i64 0, .int .i64 0, .int .i64 0]) HX.out 0 (.int .i64 0) rfl) 1 (.int .i64 0) rfl) 2 (.int .i64 0) rfl); have HB2 := Aside0.mk (below_set (below_set (below_set HBX.out (j := 0) (v := .int .i64 0) GE.out) (j := 1) (v := .int .i64 0) GE.out) (j := 2) (v := .int .i64 0) GE.out); clear z0 z1 z2 f0 f1 f2 HX HBX
       generalize ((w12.setCell ⟨gb, 0, none⟩ (.int .i64 0)).setCell ⟨gb, 1, none⟩ (.int .i64 0)).setCell ⟨gb, 2, none⟩ (.int .i64 0) = w13 at *
       have z0 : w13.cell? ⟨gb, 0, none⟩ = some (.int .i64 0) := (blk_cell HX2.out 0).trans rfl; have z1 : w13.cell? ⟨gb, 1, none⟩ = some (.int .i64 0) := (blk_cell HX2.out 1).trans rfl; have z2 : w13.cell? ⟨gb, 2, none⟩ = some (.int .i64 0) := (blk_cell HX2.out 2).trans rfl; have f0 := blk_frozen HX2.out 0; have f1 := blk_frozen HX2.out 1; have f2 := blk_frozen HX2.out 2
       go_upto_region 10 with (fail)
       have HX3 := Aside0.mk (blk_put (cs := #[.int .i64 ((N : Int) - (t : Int)), .int .i64 0, .int .i64 0]) (blk_put (cs := #[.int .i64 0, .int .i64 0, .int .i64 0]) HX2.out 0 (.int .i64 ((N : Int) - (t : Int))) rfl) 1 (.int .i64 (t : Int)) rfl : ((w13.setCell ⟨gb, 0, none⟩ (.int .i64 ((N : Int) - (t : Int)))).setCell ⟨gb, 1, none⟩ (.int .i64 (t : Int))).heap[gb]? = some (.cells #[.int .i64 ((N : Int) - (t : Int)), .int .i64 (t : Int), .int .i64 0] 70 (0, 0))); have HB3 := Aside0.mk (below_set (below_set HB2.out (j := 0) (v := (.int .i64 ((N : Int) - (t : Int)))) GE.out) (j := 1) (v := (.int .i64 (t : Int))) GE.out); clear z0 z1 z2 f0 f1 f2 HX2 HB2
       generalize (w13.setCell ⟨gb, 0, none⟩ (.int .i64 ((N : Int) - (t : Int)))).setCell ⟨gb, 1, none⟩ (.int .i64 (t : Int)) = w14 at *
       have z0 : w14.cell? ⟨gb, 0, none⟩ = some (.int .i64 ((N : Int) - (t : Int))) := (blk_cell HX3.out 0).trans rfl; have z1 : w14.cell? ⟨gb, 1, none⟩ = some (.int .i64 (t : Int)) := (blk_cell HX3.out 1).trans rfl; have z2 : w14.cell? ⟨gb, 2, none⟩ = some (.int .i64 0) := (blk_cell HX3.out 2).trans rfl; have HIX := Aside0.mk (show Calls Try.prog 73 #[.slice A1 pts.length c1, .agg #[.int .i64 ((N : Int) - (t : Int)), .int .i64 (t : Int), .int .i64 0]] w14 fun e w' => e = .returned (.int .i64 (bval N pts 0 t)) ∧ Below w14.heap.size w14 w' from slices_Index_3_int_3_int.calls A1 c1 pts _ _ _ (bval N pts 0 t) w14 (Kd.C_below HCA.out.2.2 HB3.out) HCA.out.2.1 rfl); have HO3 := Aside0.mk (Kd.R_below HO.out HB3.out); have HA3 := Aside0.mk (Kd.R_below HA.out HB3.out); have HBB := Aside0.mk (below_step HB.out HB3.out); clear HO HA HB HB3 HX3
       go_wp2_with (first
        | (go_at_call 73; (with_reducible refine HIX.out.mono ?_); rintro e w15 ⟨rfl, hb⟩; have HO := Aside0.mk (Kd.R_below HO3.out hb); have HA := Aside0.mk (Kd.R_below HA3.out hb); have HB := Aside0.mk (below_step HBB.out hb); clear hb)
        | ((with_reducible refine gate_builtin (b := .append) (xs := #[.tmp 29, .tmp 33]) rfl ?_); at_builtin; refine Kd.R_append (Kd.int .i64) (w0 := w) w.heap.size rfl (.tmp 29) (.tmp 33) 22 3 (.int .i64 0) 8 rfl Try.underlying22 border_i rfl (by decide) (by omega) _ (bord N N pts 0 t) (bval N pts 0 t) [.int .i64 (bval N pts 0 t)] (fun _ => True) (fun _ => False) rfl rfl ?aP (fun _ hk => hk.elim) ?aF ?aO ?aB ?aS ?aL ?_; (case aP => exact rfl); (case aB => exact BB); (case aF => exact (fun _ _ => trivial)); (case aO => exact (KR HO)); (case aS => exact (below_size BB)); (case aL => exact HL.out); intro v4 w16 ho hb hg hat; have n0_ := Aside0.mk (Kd.R_over' (KR HA) (Kd.R_typed (KR HO)) (by decide) hg); have n2_ := Aside0.mk hb; have HO2 := Aside0.mk ho; clear HA HB HO; have HA := n0_; have HB := n2_; clear n0_ n2_; clear ho hb hg hat))
       go_roundg (N - (t + 1))
       case measure => have := HG2.out; omega
       case rel => exact ⟨t + 1, by first | rfl | rw [HW2.out], HG2.out.2, Nat.le_refl _, ⟨by rw [← bord_next]; exact KR HO2⟩, ⟨KR HA⟩, ⟨BB⟩⟩
      ·go_upto_region 9 with (first
        | ((with_reducible refine gate_dst (N := 7) rfl ?_); refine box_event ?hg (N := 7) ?hd (cs := #[.int .i64 0, .int .i64 0, .int .i64 0]) (t := 70) ?hr ?_; (case hd => rfl); (case hg => rfl); (case hr => first | (go_simp; done) | (go_simp; rfl)); intro gb hg w12 hbox hb; have GE := Aside0.mk (Nat.le_of_eq hg.symm); have HBX := Aside0.mk hb; have HX := Aside0.mk hbox; have z0 : w12.cell? ⟨gb, 0, none⟩ = some (.int .i64 0) := (blk_cell hbox 0).trans rfl; have z1 : w12.cell? ⟨gb, 1, none⟩ = some (.int .i64 0) := (blk_cell hbox 1).trans rfl; have z2 : w12.cell? ⟨gb, 2, none⟩ = some (.int .i64 0) := (blk_cell hbox 2).trans rfl; have f0 := blk_frozen hbox 0; have f1 := blk_frozen hbox 1; have f2 := blk_frozen hbox 2; clear hb hg hbox))
       have HX2 := Aside0.mk (blk_put (cs := #[.int .i64 0, .int .i64 0, .int .i64 0]) (blk_put (cs := #[.int .i64 0, .int .i64 0, .int .i64 0]) (blk_put (cs := #[.int .i64 0, .int .i64 0, .int .i64 0]) HX.out 0 (.int .i64 0) rfl) 1 (.int .i64 0) rfl) 2 (.int .i64 0) rfl); have HB2 := Aside0.mk (below_set (below_set (below_set HBX.out (j := 0) (v := .int .i64 0) GE.out) (j := 1) (v := .int .i64 0) GE.out) (j := 2) (v := .int .i64 0) GE.out); clear z0 z1 z2 f0 f1 f2 HX HBX
       generalize ((w12.setCell ⟨gb, 0, none⟩ (.int .i64 0)).setCell ⟨gb, 1, none⟩ (.int .i64 0)).setCell ⟨gb, 2, none⟩ (.int .i64 0) = w13 at *
       have z0 : w13.cell? ⟨gb, 0, none⟩ = some (.int .i64 0) := (blk_cell HX2.out 0).trans rfl; have z1 : w13.cell? ⟨gb, 1, none⟩ = some (.int .i64 0) := (blk_cell HX2.out 1).trans rfl; have z2 : w13.cell? ⟨gb, 2, none⟩ = some (.int .i64 0) := (blk_cell HX2.out 2).trans rfl; have f0 := blk_frozen HX2.out 0; have f1 := blk_frozen HX2.out 1; have f2 := blk_frozen HX2.out 2
       go_upto_region 10 with (fail)
       have HX3 := Aside0.mk (blk_put (cs := #[.int .i64 0, .int .i64 ((N : Int) - (t : Int)), .int .i64 0]) (blk_put (cs := #[.int .i64 0, .int .i64 0, .int .i64 0]) HX2.out 1 (.int .i64 ((N : Int) - (t : Int))) rfl) 2 (.int .i64 (t : Int)) rfl : ((w13.setCell ⟨gb, 1, none⟩ (.int .i64 ((N : Int) - (t : Int)))).setCell ⟨gb, 2, none⟩ (.int .i64 (t : Int))).heap[gb]? = some (.cells #[.int .i64 0, .int .i64 ((N : Int) - (t : Int)), .int .i64 (t : Int)] 70 (0, 0))); have HB3 := Aside0.mk (below_set (below_set HB2.out (j := 1) (v := (.int .i64 ((N : Int) - (t : Int)))) GE.out) (j := 2) (v := (.int .i64 (t : Int))) GE.out); clear z0 z1 z2 f0 f1 f2 HX2 HB2
       generalize (w13.setCell ⟨gb, 1, none⟩ (.int .i64 ((N : Int) - (t : Int)))).setCell ⟨gb, 2, none⟩ (.int .i64 (t : Int)) = w14 at *
       have z0 : w14.cell? ⟨gb, 0, none⟩ = some (.int .i64 0) := (blk_cell HX3.out 0).trans rfl; have z1 : w14.cell? ⟨gb, 1, none⟩ = some (.int .i64 ((N : Int) - (t : Int))) := (blk_cell HX3.out 1).trans rfl; have z2 : w14.cell? ⟨gb, 2, none⟩ = some (.int .i64 (t : Int)) := (blk_cell HX3.out 2).trans rfl; have HIX := Aside0.mk (show Calls Try.prog 73 #[.slice A1 pts.length c1, .agg #[.int .i64 0, .int .i64 ((N : Int) - (t : Int)), .int .i64 (t : Int)]] w14 fun e w' => e = .returned (.int .i64 (bval N pts 1 t)) ∧ Below w14.heap.size w14 w' from slices_Index_3_int_3_int.calls A1 c1 pts _ _ _ (bval N pts 1 t) w14 (Kd.C_below HCA.out.2.2 HB3.out) HCA.out.2.1 rfl); have HO3 := Aside0.mk (Kd.R_below HO.out HB3.out); have HA3 := Aside0.mk (Kd.R_below HA.out HB3.out); have HBB := Aside0.mk (below_step HB.out HB3.out); clear HO HA HB HB3 HX3
       go_wp2_with (first
        | (go_at_call 73; (with_reducible refine HIX.out.mono ?_); rintro e w15 ⟨rfl, hb⟩; have HO := Aside0.mk (Kd.R_below HO3.out hb); have HA := Aside0.mk (Kd.R_below HA3.out hb); have HB := Aside0.mk (below_step HBB.out hb); clear hb)
        | ((with_reducible refine gate_builtin (b := .append) (xs := #[.tmp 29, .tmp 33]) rfl ?_); at_builtin; refine Kd.R_append (Kd.int .i64) (w0 := w) w.heap.size rfl (.tmp 29) (.tmp 33) 22 3 (.int .i64 0) 8 rfl Try.underlying22 border_i rfl (by decide) (by omega) _ (bord N N pts 1 t) (bval N pts 1 t) [.int .i64 (bval N pts 1 t)] (fun _ => True) (fun _ => False) rfl rfl ?aP (fun _ hk => hk.elim) ?aF ?aO ?aB ?aS ?aL ?_; (case aP => exact rfl); (case aB => exact BB); (case aF => exact (fun _ _ => trivial)); (case aO => exact (KR HO)); (case aS => exact (below_size BB)); (case aL => exact HL.out); intro v4 w16 ho hb hg hat; have n0_ := Aside0.mk (Kd.R_over' (KR HA) (Kd.R_typed (KR HO)) (by decide) hg); have n2_ := Aside0.mk hb; have HO2 := Aside0.mk ho; clear HA HB HO; have HA := n0_; have HB := n2_; clear n0_ n2_; clear ho hb hg hat))
       go_roundg (N - (t + 1))
       case measure => have := HG2.out; omega
       case rel => exact ⟨t + 1, by first | rfl | rw [HW2.out], HG2.out.2, Nat.le_refl _, ⟨by rw [← bord_next]; exact KR HO2⟩, ⟨KR HA⟩, ⟨BB⟩⟩
      ·go_upto_region 9 with (first
        | ((with_reducible refine gate_dst (N := 7) rfl ?_); refine box_event ?hg (N := 7) ?hd (cs := #[.int .i64 0, .int .i64 0, .int .i64 0]) (t := 70) ?hr ?_; (case hd => rfl); (case hg => rfl); (case hr => first | (go_simp; done) | (go_simp; rfl)); intro gb hg w12 hbox hb; have GE := Aside0.mk (Nat.le_of_eq hg.symm); have HBX := Aside0.mk hb; have HX := Aside0.mk hbox; have z0 : w12.cell? ⟨gb, 0, none⟩ = some (.int .i64 0) := (blk_cell hbox 0).trans rfl; have z1 : w12.cell? ⟨gb, 1, none⟩ = some (.int .i64 0) := (blk_cell hbox 1).trans rfl; have z2 : w12.cell? ⟨gb, 2, none⟩ = some (.int .i64 0) := (blk_cell hbox 2).trans rfl; have f0 := blk_frozen hbox 0; have f1 := blk_frozen hbox 1; have f2 := blk_frozen hbox 2; clear hb hg hbox))
       have HX2 := Aside0.mk (blk_put (cs := #[.int .i64 0, .int .i64 0, .int .i64 0]) (blk_put (cs := #[.int .i64 0, .int .i64 0, .int .i64 0]) (blk_put (cs := #[.int .i64 0, .int .i64 0, .int .i64 0]) HX.out 0 (.int .i64 0) rfl) 1 (.int .i64 0) rfl) 2 (.int .i64 0) rfl); have HB2 := Aside0.mk (below_set (below_set (below_set HBX.out (j := 0) (v := .int .i64 0) GE.out) (j := 1) (v := .int .i64 0) GE.out) (j := 2) (v := .int .i64 0) GE.out); clear z0 z1 z2 f0 f1 f2 HX HBX
       generalize ((w12.setCell ⟨gb, 0, none⟩ (.int .i64 0)).setCell ⟨gb, 1, none⟩ (.int .i64 0)).setCell ⟨gb, 2, none⟩ (.int .i64 0) = w13 at *
       have z0 : w13.cell? ⟨gb, 0, none⟩ = some (.int .i64 0) := (blk_cell HX2.out 0).trans rfl; have z1 : w13.cell? ⟨gb, 1, none⟩ = some (.int .i64 0) := (blk_cell HX2.out 1).trans rfl; have z2 : w13.cell? ⟨gb, 2, none⟩ = some (.int .i64 0) := (blk_cell HX2.out 2).trans rfl; have f0 := blk_frozen HX2.out 0; have f1 := blk_frozen HX2.out 1; have f2 := blk_frozen HX2.out 2
       go_upto_region 10 with (fail)
       have HX3 := Aside0.mk (blk_put (cs := #[.int .i64 0, .int .i64 0, .int .i64 ((N : Int) - (t : Int))]) (blk_put (cs := #[.int .i64 0, .int .i64 0, .int .i64 0]) HX2.out 2 (.int .i64 ((N : Int) - (t : Int))) rfl) 0 (.int .i64 (t : Int)) rfl : ((w13.setCell ⟨gb, 2, none⟩ (.int .i64 ((N : Int) - (t : Int)))).setCell ⟨gb, 0, none⟩ (.int .i64 (t : Int))).heap[gb]? = some (.cells #[.int .i64 (t : Int), .int .i64 0, .int .i64 ((N : Int) - (t : Int))] 70 (0, 0))); have HB3 := Aside0.mk (below_set (below_set HB2.out (j := 2) (v := (.int .i64 ((N : Int) - (t : Int)))) GE.out) (j := 0) (v := (.int .i64 (t : Int))) GE.out); clear z0 z1 z2 f0 f1 f2 HX2 HB2
       generalize (w13.setCell ⟨gb, 2, none⟩ (.int .i64 ((N : Int) - (t : Int)))).setCell ⟨gb, 0, none⟩ (.int .i64 (t : Int)) = w14 at *
       have z0 : w14.cell? ⟨gb, 0, none⟩ = some (.int .i64 (t : Int)) := (blk_cell HX3.out 0).trans rfl; have z1 : w14.cell? ⟨gb, 1, none⟩ = some (.int .i64 0) := (blk_cell HX3.out 1).trans rfl; have z2 : w14.cell? ⟨gb, 2, none⟩ = some (.int .i64 ((N : Int) - (t : Int))) := (blk_cell HX3.out 2).trans rfl; have HIX := Aside0.mk (show Calls Try.prog 73 #[.slice A1 pts.length c1, .agg #[.int .i64 (t : Int), .int .i64 0, .int .i64 ((N : Int) - (t : Int))]] w14 fun e w' => e = .returned (.int .i64 (bval N pts 2 t)) ∧ Below w14.heap.size w14 w' from slices_Index_3_int_3_int.calls A1 c1 pts _ _ _ (bval N pts 2 t) w14 (Kd.C_below HCA.out.2.2 HB3.out) HCA.out.2.1 rfl); have HO3 := Aside0.mk (Kd.R_below HO.out HB3.out); have HA3 := Aside0.mk (Kd.R_below HA.out HB3.out); have HBB := Aside0.mk (below_step HB.out HB3.out); clear HO HA HB HB3 HX3
       go_wp2_with (first
        | (go_at_call 73; (with_reducible refine HIX.out.mono ?_); rintro e w15 ⟨rfl, hb⟩; have HO := Aside0.mk (Kd.R_below HO3.out hb); have HA := Aside0.mk (Kd.R_below HA3.out hb); have HB := Aside0.mk (below_step HBB.out hb); clear hb)
        | ((with_reducible refine gate_builtin (b := .append) (xs := #[.tmp 29, .tmp 33]) rfl ?_); at_builtin; refine Kd.R_append (Kd.int .i64) (w0 := w) w.heap.size rfl (.tmp 29) (.tmp 33) 22 3 (.int .i64 0) 8 rfl Try.underlying22 border_i rfl (by decide) (by omega) _ (bord N N pts 2 t) (bval N pts 2 t) [.int .i64 (bval N pts 2 t)] (fun _ => True) (fun _ => False) rfl rfl ?aP (fun _ hk => hk.elim) ?aF ?aO ?aB ?aS ?aL ?_; (case aP => exact rfl); (case aB => exact BB); (case aF => exact (fun _ _ => trivial)); (case aO => exact (KR HO)); (case aS => exact (below_size BB)); (case aL => exact HL.out); intro v4 w16 ho hb hg hat; have n0_ := Aside0.mk (Kd.R_over' (KR HA) (Kd.R_typed (KR HO)) (by decide) hg); have n2_ := Aside0.mk hb; have HO2 := Aside0.mk ho; clear HA HB HO; have HA := n0_; have HB := n2_; clear n0_ n2_; clear ho hb hg hat))
       go_roundg (N - (t + 1))
       case measure => have := HG2.out; omega
       case rel => exact ⟨t + 1, by first | rfl | rw [HW2.out], HG2.out.2, Nat.le_refl _, ⟨by rw [← bord_next]; exact KR HO2⟩, ⟨KR HA⟩, ⟨BB⟩⟩
     ·have htN : t = N := by omega
      subst htN; have ht0 : decide ((t : Int) < (t : Int)) = false := decide_eq_false (by omega); have ht1 : ((t : Int) < (t : Int)) = False := eq_false (by omega); have HO2 := Aside0.mk (show Kd.R (Kd.int .i64) 3 wr w.heap.size (fun _ => True) _ (bord t t pts (s + 1) 0) from (bord_side t t pts s) ▸ HO.out); clear ht hg2 htl
      go_wp2
      go_roundg (3 - (s + 1))
      case measure => have := HG.out; omega
      case rel => exact ⟨s + 1, _, rfl, HNX.out, by have := HG.out; omega, Nat.le_refl _, ⟨KR HO2⟩, ⟨KR HA⟩, ⟨BB⟩⟩
   ·have hs3 : s = 3 := by omega
    subst hs3; have hx3 : decide (x < 3) = false := decide_eq_false (by omega); clear hg hs hlt hx
    go_wp2
    go_ret
    exact ⟨_, rfl, by rw [← HRR.out]; exact KR HO, BB⟩
 ·rw [if_neg hd] at h
  cases h

def impl_houseOf.f (k : Nat) (a0 : Int) (l1 : List Int) : Option (Int × List Int × (List (List Int)) × List Int × Bool) := (impl_areLabels.f k a0 l1).bind fun t315 => (if t315 = true then ((impl_cells.f k a0).bind fun t316 => ((impl_border.f k a0).bind fun t319 => (some (a0, l1, t316, t319, true)))) else (some (0, ([] : List Int), ([] : List (List Int)), ([] : List Int), false)))
theorem impl_houseOf.mono : ∀ a0 a1 k, LeO (impl_houseOf.f k a0 a1) (impl_houseOf.f (k + 1) a0 a1) := by
 intro a0 a1 k
 unfold impl_houseOf.f
 repeat' first
   | (with_reducible exact impl_areLabels.mono _ _ _)
   | (with_reducible exact impl_border.mono _ _)
   | (with_reducible exact impl_cells.mono _ _)
   | (with_reducible exact LeO.refl _)
   | (with_reducible exact LeO.none _)
   | (with_reducible refine LeO.ite ?_ ?_)
   | (with_reducible refine LeO.bind ?_ (fun _ => ?_))
   | exact impl_areLabels.mono _ _ _
   | exact impl_border.mono _ _
   | exact impl_cells.mono _ _
   | exact LeO.none _
   | refine LeO.ite ?_ ?_
   | refine LeO.bind ?_ (fun _ => ?_)
set_option maxHeartbeats 8000000 in
set_option maxRecDepth 100000 in
theorem impl_houseOf.calls (k : Nat) (a0 : Int) (P1_ : Nat → Prop) (A1 : Option Addr) (c1 : Nat) (l1 : List Int) (r1 : Int) (r2 : List Int) (r3 : List (List Int)) (r4 : List Int) (r5 : Bool) (w : World) (hs1 : Kd.V (Kd.int .i64) 3 w w.heap.size (fun k_ => P1_ k_) (.slice A1 l1.length c1) l1) (h : impl_houseOf.f k a0 l1 = some (r1, r2, r3, r4, r5)) :
  Calls Try.prog 24 #[.int .i64 a0, .slice A1 l1.length c1] w fun e w' => ∃ v1_ v2_ v3_ : Value, e = .returned (.tuple #[.agg #[.int .i64 r1, v1_, v2_, v3_], .bool r5]) ∧ Kd.V (Kd.int .i64) 3 w' w.heap.size (fun k_ => (P1_ k_ ∨ w.heap.size ≤ k_) ∧ some k_ ≠ (v2_ : Value).ownBlock ∧ some k_ ≠ (v3_ : Value).ownBlock) v1_ r2 ∧ Kd.S (Kd.slice 3 (Kd.int .i64)) 22 w' w.heap.size (fun k_ => (w.heap.size ≤ k_) ∧ some k_ ≠ (v3_ : Value).ownBlock) v2_ r3 ∧ Kd.R (Kd.int .i64) 3 w' w.heap.size (fun k_ => (w.heap.size ≤ k_)) v3_ r4 ∧ Below w.heap.size w w' := by
 have hu42 := Try.underlying42; have HO1 := Aside0.mk (show Kd.V (Kd.int .i64) 3 w w.heap.size (fun k_ => (P1_ k_ ∨ w.heap.size ≤ k_)) (.slice A1 l1.length c1) l1 from Kd.V_mono hs1 (fun k_ hk => .inl hk)); have HB := Aside0.mk (Below.refl w.heap.size w); have H : ((impl_areLabels.f k a0 l1).bind fun t315 => (if t315 = true then ((impl_cells.f k a0).bind fun t316 => ((impl_border.f k a0).bind fun t319 => (some (a0, l1, t316, t319, true)))) else (some (0, ([] : List Int), ([] : List (List Int)), ([] : List Int), false)))) = some (r1, r2, r3, r4, r5) := h; clear h; replace H := Option.bind_eq_some_iff.mp H; obtain ⟨t315, A30, H⟩ := H; replace H : (if t315 = true then ((impl_cells.f k a0).bind fun t316 => ((impl_border.f k a0).bind fun t319 => (some (a0, l1, t316, t319, true)))) else (some (0, ([] : List Int), ([] : List (List Int)), ([] : List Int), false))) = some (r1, r2, r3, r4, r5) := H; have A3 := Aside0.mk A30; clear A30
 by_cases c4 : t315 = true
 ·subst c4
  have H1 : ((impl_cells.f k a0).bind fun t316 => ((impl_border.f k a0).bind fun t319 => (some (a0, l1, t316, t319, true)))) = some (r1, r2, r3, r4, r5) := by rw [if_pos rfl] at H; exact H
  clear H; have H := H1; clear H1; replace H := Option.bind_eq_some_iff.mp H; obtain ⟨t316, A50, H⟩ := H; replace H : ((impl_border.f k a0).bind fun t319 => (some (a0, l1, t316, t319, true))) = some (r1, r2, r3, r4, r5) := H; have A5 := Aside0.mk A50; clear A50; replace H := Option.bind_eq_some_iff.mp H; obtain ⟨t319, A60, H⟩ := H; replace H : (some (a0, l1, t316, t319, true)) = some (r1, r2, r3, r4, r5) := H; have A6 := Aside0.mk A60; clear A60
  simp only [Option.some.injEq, Prod.mk.injEq] at H
  obtain ⟨rfl, rfl, rfl, rfl, rfl⟩ := H
  go_enter Try.func24, Try.ntmps24
  go_wp2_with (first | ((with_reducible refine gate_dst (N := 4) rfl ?_); refine box_event ?hg (N := 4) ?hd (cs := #[.int .i64 0, .slice none 0 0, .slice none 0 0, .slice none 0 0]) (t := 42) ?hr ?_; (case hd => rfl); (case hg => rfl); (case hr => first | (go_simp; done) | (go_simp; rfl)); intro gb314 hg w7 hbox hb; have n0_ := Aside0.mk (Kd.V_below (Kd.V_elderB (by (with_reducible repeat (first | apply Kd.V_alloc | apply Kd.V_drewN | apply Kd.V_drew)); exact HO1.out) gb314 (Nat.le_of_eq hg.symm)) hb); have n1_ := Aside0.mk (below_step BB hb); have n2_ := Aside0.mk (hbox); have n3_ := Aside0.mk ((by rw [hg]; exact (below_size BB) : w.heap.size ≤ gb314)); have n4_ := Aside0.mk ((by rw [hg]; exact (below_size BB) : w.heap.size ≤ gb314)); clear HO1; clear HB; have HO1 := n0_; have HB := n1_; have BK314 := n2_; have GW314 := n3_; have GE314 := n4_; clear n0_ n1_ n2_ n3_ n4_; clear hb hbox hg) | ((with_reducible refine gate_callee (f := 46) rfl ?_); refine goesL_ (some 8) rfl rfl Try.func46 (by kernel_rfl) rfl #[.int .i64 a0, .slice A1 l1.length c1] rfl TA ?_; (with_reducible refine (impl_areLabels.calls k a0 _ _ l1 true _ ?side1 ?side2 A3.out).mono ?_); (case side1 => repeat (first | exact (Kd.V_reads' HO1.out).2.2 | (with_reducible refine Kd.C_alloc ?_ _) | (with_reducible refine Kd.C_drewN ?_ _) | (with_reducible refine Kd.C_drew ?_))); (case side2 => exact (Kd.V_reads' HO1.out).2.1); rintro e w' ⟨rfl, ⟨nd, rfl⟩⟩; refine ⟨_, rfl, ?_⟩; (try (rw [drewN_self w7]; generalize hq_ : World.drewN w7 _ = w7; have n0_ : Aside0 (Kd.V (Kd.int .i64) 3 w7 w.heap.size (fun k_ => (P1_ k_ ∨ w.heap.size ≤ k_) ∧ k_ ≠ gb314) (.slice A1 l1.length c1) l1) := ⟨by rw [← hq_]; exact (by (with_reducible repeat (first | apply Kd.V_alloc | apply Kd.V_drewN | apply Kd.V_drew)); exact HO1.out)⟩; have n1_ : Aside0 (w7.heap[gb314]? = some (.cells #[.int .i64 0, .slice none 0 0, .slice none 0 0, .slice none 0 0] 42 (0, 0))) := ⟨by rw [← hq_]; exact (by (with_reducible repeat (first | refine blk_drewN ?_ _ | refine blk_drew ?_ | refine blk_alloc ?_ _)); exact BK314.out)⟩; have n2_ : Aside0 (Below w.heap.size w w7) := ⟨by rw [← hq_]; exact (by repeat (first | (with_reducible first | exact HB.out | apply below_alloc | apply pw_below_drewN | apply below_drew1 | refine below_set ?_ GE314.out) | exact HB.out))⟩; clear HO1 BK314 HB hq_; have HO1 := n0_; have BK314 := n1_; have HB := n2_; clear n0_ n1_ n2_))) | ((with_reducible refine gate_callee (f := 47) rfl ?_); refine goesL_ (some 14) rfl rfl Try.func47 (by kernel_rfl) rfl #[.int .i64 a0] rfl TA ?_; (with_reducible refine (impl_cells.calls k a0 t316 _ A5.out).mono ?_); rintro e w8 ⟨v317, rfl, ho0, hb⟩; refine ⟨_, rfl, ?_⟩; have n0_ := Aside0.mk (Kd.V_elder' (by (with_reducible repeat (first | apply Kd.V_alloc | apply Kd.V_drewN | apply Kd.V_drew)); exact HO1.out) (Kd.S_base ho0) hb); have n1_ := Aside0.mk (Kd.S_lower (Kd.S_newM (M := fun k_ => (w.heap.size ≤ k_)) ho0 (below_size (by repeat (first | (with_reducible first | exact HB.out | apply below_alloc | apply pw_below_drewN | apply below_drew1 | refine below_set ?_ GE314.out) | exact HB.out))) (fun k_ h_ => h_)) (below_size (by repeat (first | (with_reducible first | exact HB.out | apply below_alloc | apply pw_below_drewN | apply below_drew1 | refine below_set ?_ GE314.out) | exact HB.out)))); have n2_ := Aside0.mk (blk_below (g := gb314) (o := .cells #[.int .i64 0, .slice none 0 0, .slice none 0 0, .slice none 0 0] 42 (0, 0)) (by (with_reducible repeat (first | refine blk_drewN ?_ _ | refine blk_drew ?_ | refine blk_alloc ?_ _)); exact BK314.out) hb); have n3_ := Aside0.mk (below_step (by repeat (first | (with_reducible first | exact HB.out | apply below_alloc | apply pw_below_drewN | apply below_drew1 | refine below_set ?_ GE314.out) | exact HB.out)) hb); clear HO1; clear BK314; clear HB; have HO1 := n0_; have HO318 := n1_; have BK314 := n2_; have HB := n3_; clear n0_ n1_ n2_ n3_; (try clear hb); (try clear hb2); (try clear hk); (try clear hi); (try clear ho0)) | ((with_reducible refine gate_callee (f := 48) rfl ?_); refine goesL_ (some 16) rfl rfl Try.func48 (by kernel_rfl) rfl #[.int .i64 a0] rfl TA ?_; (with_reducible refine (impl_border.calls k a0 t319 _ A6.out).mono ?_); rintro e w9 ⟨v320, rfl, ho0, hb⟩; refine ⟨_, rfl, ?_⟩; have n0_ := Aside0.mk (Kd.V_elder' (by (with_reducible repeat (first | apply Kd.V_alloc | apply Kd.V_drewN | apply Kd.V_drew)); exact HO1.out) (Kd.R_base ho0) hb); have n1_ := Aside0.mk (Kd.S_elder' (KS HO318) (Kd.R_base ho0) hb); have n2_ := Aside0.mk (Kd.R_lower (Kd.R_newM (M := fun k_ => (w.heap.size ≤ k_)) ho0 (below_size (by repeat (first | (with_reducible first | exact HB.out | apply below_alloc | apply pw_below_drewN | apply below_drew1 | refine below_set ?_ GE314.out) | exact HB.out))) (fun k_ h_ => h_)) (below_size (by repeat (first | (with_reducible first | exact HB.out | apply below_alloc | apply pw_below_drewN | apply below_drew1 | refine below_set ?_ GE314.out) | exact HB.out)))); have n3_ := Aside0.mk (blk_below (g := gb314) (o := .cells #[.int .i64 0, .slice none 0 0, .slice none 0 0, .slice none 0 0] 42 (0, 0)) (by (with_reducible repeat (first | refine blk_drewN ?_ _ | refine blk_drew ?_ | refine blk_alloc ?_ _)); exact BK314.out) hb); have n4_ := Aside0.mk (below_step (by repeat (first | (with_reducible first | exact HB.out | apply below_alloc | apply pw_below_drewN | apply below_drew1 | refine below_set ?_ GE314.out) | exact HB.out)) hb); clear HO1; clear HO318; clear BK314; clear HB; have HO1 := n0_; have HO318 := n1_; have HO321 := n2_; have BK314 := n3_; have HB := n4_; clear n0_ n1_ n2_ n3_ n4_; (try clear hb); (try clear hb2); (try clear hk); (try clear hi); (try clear ho0); obtain ⟨Ao10, co10, eo10⟩ := Kd.R_slice HO321.out; subst eo10; obtain ⟨Ao11, co11, eo11⟩ := Kd.S_slice HO318.out; subst eo11; have hcz12_0 : w9.cell? ⟨gb314, 0, none⟩ = some (.int .i64 0) := (blk_cell BK314.out 0).trans rfl; have hcz12_1 : w9.cell? ⟨gb314, 1, none⟩ = some (.slice none 0 0) := (blk_cell BK314.out 1).trans rfl; have hcz12_2 : w9.cell? ⟨gb314, 2, none⟩ = some (.slice none 0 0) := (blk_cell BK314.out 2).trans rfl; have hcz12_3 : w9.cell? ⟨gb314, 3, none⟩ = some (.slice none 0 0) := (blk_cell BK314.out 3).trans rfl; have hfz12_0 := blk_frozen BK314.out 0; have hfz12_1 := blk_frozen BK314.out 1; have hfz12_2 := blk_frozen BK314.out 2; have hfz12_3 := blk_frozen BK314.out 3))
  refine bodyPost_ret (results_ct rfl _ _ gb314 42 #[.int .i64 a0, .slice A1 l1.length c1, .slice Ao11 t316.length co11, .slice Ao10 t319.length co10] (0, 0) _ rfl (by (with_reducible repeat (first | refine blk_drewN ?_ _ | refine blk_drew ?_ | refine blk_alloc ?_ _)); refine blk_put (cs := #[.int .i64 a0, .slice A1 l1.length c1, .slice Ao11 t316.length co11, .slice none 0 0]) ?_ 3 _ rfl; (with_reducible repeat (first | refine blk_drewN ?_ _ | refine blk_drew ?_ | refine blk_alloc ?_ _)); refine blk_put (cs := #[.int .i64 a0, .slice A1 l1.length c1, .slice none 0 0, .slice none 0 0]) ?_ 2 _ rfl; (with_reducible repeat (first | refine blk_drewN ?_ _ | refine blk_drew ?_ | refine blk_alloc ?_ _)); refine blk_put (cs := #[.int .i64 a0, .slice none 0 0, .slice none 0 0, .slice none 0 0]) ?_ 1 _ rfl; (with_reducible repeat (first | refine blk_drewN ?_ _ | refine blk_drew ?_ | refine blk_alloc ?_ _)); refine blk_put (cs := #[.int .i64 0, .slice none 0 0, .slice none 0 0, .slice none 0 0]) ?_ 0 _ rfl; (with_reducible repeat (first | refine blk_drewN ?_ _ | refine blk_drew ?_ | refine blk_alloc ?_ _)); exact BK314.out) Try.underlying42 rfl (by kernel_rfl)) rfl ?_
  exact ⟨_, _, _, by first | rfl | (simp [errW_none, errW_some] <;> rfl) | (simp [*, errW_none, errW_some] <;> rfl), by (with_reducible repeat (first | apply Kd.V_alloc | apply Kd.V_drewN | apply Kd.V_drew)); exact Kd.V_mono (Kd.V_far (p := ⟨gb314, 3, none⟩) (Kd.V_far (p := ⟨gb314, 2, none⟩) (Kd.V_far (p := ⟨gb314, 1, none⟩) (Kd.V_far (p := ⟨gb314, 0, none⟩) (Kd.V_mono HO1.out (fun k_ hk => (⟨hk, hk.1.1.2⟩ : _ ∧ k_ ≠ gb314))) (fun _ hk => hk.2) (.int .i64 a0)) (fun _ hk => hk.2) (.slice A1 l1.length c1)) (fun _ hk => hk.2) (.slice Ao11 t316.length co11)) (fun _ hk => hk.2) (.slice Ao10 t319.length co10)) (fun _ hk => ⟨hk.1.1.1.1, ⟨hk.1.1.2, hk.1.2⟩⟩), by (with_reducible repeat (first | apply Kd.S_alloc | apply Kd.S_drewN | apply Kd.S_drew)); exact Kd.S_mono (Kd.S_far (p := ⟨gb314, 3, none⟩) (Kd.S_far (p := ⟨gb314, 2, none⟩) (Kd.S_far (p := ⟨gb314, 1, none⟩) (Kd.S_far (p := ⟨gb314, 0, none⟩) (Kd.S_types HO318.out BK314.out (by decide)) (fun _ hk => hk.2) (.int .i64 a0)) (fun _ hk => hk.2) (.slice A1 l1.length c1)) (fun _ hk => hk.2) (.slice Ao11 t316.length co11)) (fun _ hk => hk.2) (.slice Ao10 t319.length co10)) (fun _ hk => ⟨hk.1.1.1, hk.1.2⟩), by (with_reducible repeat (first | apply Kd.R_alloc | apply Kd.R_drewN | apply Kd.R_drew)); exact Kd.R_mono (Kd.R_far (p := ⟨gb314, 3, none⟩) (Kd.R_far (p := ⟨gb314, 2, none⟩) (Kd.R_far (p := ⟨gb314, 1, none⟩) (Kd.R_far (p := ⟨gb314, 0, none⟩) (Kd.R_types HO321.out BK314.out (by decide)) (fun _ hk => hk.2) (.int .i64 a0)) (fun _ hk => hk.2) (.slice A1 l1.length c1)) (fun _ hk => hk.2) (.slice Ao11 t316.length co11)) (fun _ hk => hk.2) (.slice Ao10 t319.length co10)) (fun _ hk => hk.1.1), by repeat (first | (with_reducible first | exact HB.out | apply below_alloc | apply pw_below_drewN | apply below_drew1 | refine below_set ?_ GE314.out) | exact HB.out)⟩
 ·replace c4 := Bool.eq_false_iff.mpr c4
  subst c4; have H1 : (some (0, ([] : List Int), ([] : List (List Int)), ([] : List Int), false)) = some (r1, r2, r3, r4, r5) := by rw [if_neg (show ¬ (false = true) by decide)] at H; exact H
  clear H; have H := H1; clear H1
  simp only [Option.some.injEq, Prod.mk.injEq] at H
  obtain ⟨rfl, rfl, rfl, rfl, rfl⟩ := H
  go_enter Try.func24, Try.ntmps24
  go_wp2_with (first | ((with_reducible refine gate_dst (N := 4) rfl ?_); refine box_event ?hg (N := 4) ?hd (cs := #[.int .i64 0, .slice none 0 0, .slice none 0 0, .slice none 0 0]) (t := 42) ?hr ?_; (case hd => rfl); (case hg => rfl); (case hr => first | (go_simp; done) | (go_simp; rfl)); intro gb314 hg w13 hbox hb; have n0_ := Aside0.mk (Kd.V_below (Kd.V_elderB (by (with_reducible repeat (first | apply Kd.V_alloc | apply Kd.V_drewN | apply Kd.V_drew)); exact HO1.out) gb314 (Nat.le_of_eq hg.symm)) hb); have n1_ := Aside0.mk (below_step BB hb); have n2_ := Aside0.mk (hbox); have n3_ := Aside0.mk ((by rw [hg]; exact (below_size BB) : w.heap.size ≤ gb314)); have n4_ := Aside0.mk ((by rw [hg]; exact (below_size BB) : w.heap.size ≤ gb314)); clear HO1; clear HB; have HO1 := n0_; have HB := n1_; have BK314 := n2_; have GW314 := n3_; have GE314 := n4_; clear n0_ n1_ n2_ n3_ n4_; clear hb hbox hg) | ((with_reducible refine gate_callee (f := 46) rfl ?_); refine goesL_ (some 8) rfl rfl Try.func46 (by kernel_rfl) rfl #[.int .i64 a0, .slice A1 l1.length c1] rfl TA ?_; (with_reducible refine (impl_areLabels.calls k a0 _ _ l1 false _ ?side1 ?side2 A3.out).mono ?_); (case side1 => repeat (first | exact (Kd.V_reads' HO1.out).2.2 | (with_reducible refine Kd.C_alloc ?_ _) | (with_reducible refine Kd.C_drewN ?_ _) | (with_reducible refine Kd.C_drew ?_))); (case side2 => exact (Kd.V_reads' HO1.out).2.1); rintro e w' ⟨rfl, ⟨nd, rfl⟩⟩; refine ⟨_, rfl, ?_⟩; (try (rw [drewN_self w13]; generalize hq_ : World.drewN w13 _ = w13; have n0_ : Aside0 (Kd.V (Kd.int .i64) 3 w13 w.heap.size (fun k_ => (P1_ k_ ∨ w.heap.size ≤ k_) ∧ k_ ≠ gb314) (.slice A1 l1.length c1) l1) := ⟨by rw [← hq_]; exact (by (with_reducible repeat (first | apply Kd.V_alloc | apply Kd.V_drewN | apply Kd.V_drew)); exact HO1.out)⟩; have n1_ : Aside0 (w13.heap[gb314]? = some (.cells #[.int .i64 0, .slice none 0 0, .slice none 0 0, .slice none 0 0] 42 (0, 0))) := ⟨by rw [← hq_]; exact (by (with_reducible repeat (first | refine blk_drewN ?_ _ | refine blk_drew ?_ | refine blk_alloc ?_ _)); exact BK314.out)⟩; have n2_ : Aside0 (Below w.heap.size w w13) := ⟨by rw [← hq_]; exact (by repeat (first | (with_reducible first | exact HB.out | apply below_alloc | apply pw_below_drewN | apply below_drew1 | refine below_set ?_ GE314.out) | exact HB.out))⟩; clear HO1 BK314 HB hq_; have HO1 := n0_; have BK314 := n1_; have HB := n2_; clear n0_ n1_ n2_)); have hcz14_0 : w13.cell? ⟨gb314, 0, none⟩ = some (.int .i64 0) := (blk_cell BK314.out 0).trans rfl; have hcz14_1 : w13.cell? ⟨gb314, 1, none⟩ = some (.slice none 0 0) := (blk_cell BK314.out 1).trans rfl; have hcz14_2 : w13.cell? ⟨gb314, 2, none⟩ = some (.slice none 0 0) := (blk_cell BK314.out 2).trans rfl; have hcz14_3 : w13.cell? ⟨gb314, 3, none⟩ = some (.slice none 0 0) := (blk_cell BK314.out 3).trans rfl; have hfz14_0 := blk_frozen BK314.out 0; have hfz14_1 := blk_frozen BK314.out 1; have hfz14_2 := blk_frozen BK314.out 2; have hfz14_3 := blk_frozen BK314.out 3))
  refine bodyPost_ret (results_ct rfl _ _ gb314 42 #[.int .i64 0, .slice none 0 0, .slice none 0 0, .slice none 0 0] (0, 0) _ rfl (by (with_reducible repeat (first | refine blk_drewN ?_ _ | refine blk_drew ?_ | refine blk_alloc ?_ _)); refine blk_put (cs := #[.int .i64 0, .slice none 0 0, .slice none 0 0, .slice none 0 0]) ?_ 3 _ rfl; (with_reducible repeat (first | refine blk_drewN ?_ _ | refine blk_drew ?_ | refine blk_alloc ?_ _)); refine blk_put (cs := #[.int .i64 0, .slice none 0 0, .slice none 0 0, .slice none 0 0]) ?_ 2 _ rfl; (with_reducible repeat (first | refine blk_drewN ?_ _ | refine blk_drew ?_ | refine blk_alloc ?_ _)); refine blk_put (cs := #[.int .i64 0, .slice none 0 0, .slice none 0 0, .slice none 0 0]) ?_ 1 _ rfl; (with_reducible repeat (first | refine blk_drewN ?_ _ | refine blk_drew ?_ | refine blk_alloc ?_ _)); refine blk_put (cs := #[.int .i64 0, .slice none 0 0, .slice none 0 0, .slice none 0 0]) ?_ 0 _ rfl; (with_reducible repeat (first | refine blk_drewN ?_ _ | refine blk_drew ?_ | refine blk_alloc ?_ _)); exact BK314.out) Try.underlying42 rfl (by kernel_rfl)) rfl ?_
  exact ⟨_, _, _, by first | rfl | (simp [errW_none, errW_some] <;> rfl) | (simp [*, errW_none, errW_some] <;> rfl), Kd.V_nil _ _ _ _ _, by first | exact Kd.S_nil _ _ _ _ _ | exact Kd.N_nil _ _ _ _ _ | exact Kd.V_nil _ _ _ _ _ | exact Kd.Q_nil _ _ _ _ _ | exact Kd.R_nil _ _ _ _ _, by first | exact Kd.R_nil _ _ _ _ _ | exact Kd.N_nil _ _ _ _ _ | exact Kd.V_nil _ _ _ _ _ | exact Kd.Q_nil _ _ _ _ _ | exact Kd.S_nil _ _ _ _ _, by repeat (first | (with_reducible first | exact HB.out | apply below_alloc | apply pw_below_drewN | apply below_drew1 | refine below_set ?_ GE314.out) | exact HB.out)⟩


def impl_house_steps.l0 : Nat → List (List Int) → List Int → Int → Int → Int → List Int → List (List Int) → List Int → Option ((List (List Int)))
 | 0, _, _, _, _, _, _, _, _ => none
 | k + 1, x3, x8, x9, x10, x323000, x323001, x323002, x323003 => if x10 < x9 then (if 0 ≤ x10 then (if x10 < (x8.length : Int) then (if (x323003.length : Int) = 0 then (none) else (if 0 ≤ (Int.tmod (wrap64 (x10 + 1)) (x323003.length : Int)) then (if (Int.tmod (wrap64 (x10 + 1)) (x323003.length : Int)) < (x323003.length : Int) then (if x3.length < 5864062014805 then (impl_house_steps.l0 k (x3 ++ [(([rd x8 x10, rd x323003 (Int.tmod (wrap64 (x10 + 1)) (x323003.length : Int))] : List Int))]) x8 x9 (wrap64 (x10 + 1)) x323000 x323001 x323002 x323003) else (none)) else (none)) else (none))) else (none)) else (none)) else (some x3)
def impl_house_steps.f (k : Nat) (a0_0 : Int) (l0_1 : List Int) (l0_2 : List (List Int)) (l0_3 : List Int) : Option ((List (List Int))) := impl_house_steps.l0 k (([] : List (List Int))) l0_3 (l0_3.length : Int) 0 a0_0 l0_1 l0_2 l0_3
theorem impl_house_steps.mono_l : ∀ k, (∀ y0 y1 y2 y3 y4 y5 y6 y7, LeO (impl_house_steps.l0 k y0 y1 y2 y3 y4 y5 y6 y7) (impl_house_steps.l0 (k + 1) y0 y1 y2 y3 y4 y5 y6 y7))
 | 0 => fun _ _ _ _ _ _ _ _ r h => by simp [impl_house_steps.l0] at h
 | k + 1 => by
  have ih0 := impl_house_steps.mono_l k
  ·intro y0 y1 y2 y3 y4 y5 y6 y7
   unfold impl_house_steps.l0
   repeat' first
   | (with_reducible exact ih0 _ _ _ _ _ _ _ _)
   | (with_reducible exact LeO.refl _)
   | (with_reducible exact LeO.none _)
   | (with_reducible refine LeO.ite ?_ ?_)
   | (with_reducible refine LeO.bind ?_ (fun _ => ?_))
   | exact ih0 _ _ _ _ _ _ _ _
   | exact LeO.none _
   | refine LeO.ite ?_ ?_
   | refine LeO.bind ?_ (fun _ => ?_)
theorem impl_house_steps.mono : ∀ a0 a1 a2 a3 k, LeO (impl_house_steps.f k a0 a1 a2 a3) (impl_house_steps.f (k + 1) a0 a1 a2 a3) := by
 intro a0 a1 a2 a3 k
 have ih0 := impl_house_steps.mono_l k
 unfold impl_house_steps.f
 repeat' first
   | (with_reducible exact ih0 _ _ _ _ _ _ _ _)
   | (with_reducible exact LeO.refl _)
   | (with_reducible exact LeO.none _)
   | (with_reducible refine LeO.ite ?_ ?_)
   | (with_reducible refine LeO.bind ?_ (fun _ => ?_))
   | exact ih0 _ _ _ _ _ _ _ _
   | exact LeO.none _
   | refine LeO.ite ?_ ?_
   | refine LeO.bind ?_ (fun _ => ?_)
def impl_house_steps.T5 : Bool × List (List Nat × List Nat) := (true, [([], []), ([], []), ([], []), ([2], [2]), ([], []), ([4], [4]), ([], []), ([6], [6]), ([7], [7]), ([5, 8], [5, 8]), ([3, 9], [3, 9]), ([10], [10]), ([1, 11], [1, 11]), ([12], [12]), ([0, 13], [0, 13]), ([14, 14, 0, 1, 2, 3, 4, 5, 6, 7, 8, 9, 10, 11, 12, 13, 14], [0, 14])])
def impl_house_steps.B5 : List Nat := [0, 0, 0, 4, 0, 16, 0, 64, 192, 496, 1020, 2044, 4094, 8190, 16383, 32767]
theorem impl_house_steps.tab5 : rtab .any (opsOf Try.f50 5) = impl_house_steps.T5 := by kernel_rfl
theorem impl_house_steps.bits5 : waitsOk impl_house_steps.T5.2 impl_house_steps.B5 = true := by kernel_rfl
set_option maxHeartbeats 8000000 in
set_option maxRecDepth 100000 in
theorem impl_house_steps.calls (k : Nat) (a0_0 : Int) (A0_1 : Option Addr) (c0_1 : Nat) (l0_1 : List Int) (A0_2 : Option Addr) (c0_2 : Nat) (l0_2 : List (List Int)) (A0_3 : Option Addr) (c0_3 : Nat) (l0_3 : List Int) (r : List (List Int)) (w : World) (hr0_1 : Kd.C (Kd.int .i64) w A0_1 l0_1.length l0_1) (hc0_1 : l0_1.length ≤ c0_1) (hr0_2 : Kd.C (Kd.slice 3 (Kd.int .i64)) w A0_2 l0_2.length l0_2) (hc0_2 : l0_2.length ≤ c0_2) (hr0_3 : Kd.C (Kd.int .i64) w A0_3 l0_3.length l0_3) (hc0_3 : l0_3.length ≤ c0_3) (h : impl_house_steps.f k a0_0 l0_1 l0_2 l0_3 = some r) :
  Calls Try.prog 50 #[.agg #[.int .i64 a0_0, .slice A0_1 l0_1.length c0_1, .slice A0_2 l0_2.length c0_2, .slice A0_3 l0_3.length c0_3]] w fun e w' => ∃ v0_ : Value, e = .returned (v0_) ∧ Kd.S (Kd.slice 3 (Kd.int .i64)) 22 w' w.heap.size (fun _ => True) v0_ r ∧ Below w.heap.size w w' := by
 have hu42 := Try.underlying42; have HR0_1 := Aside0.mk hr0_1; have HC0_1 := Aside0.mk hc0_1; clear hr0_1 hc0_1; have HR0_2 := Aside0.mk hr0_2; have HC0_2 := Aside0.mk hc0_2; clear hr0_2 hc0_2; have HR0_3 := Aside0.mk hr0_3; have HC0_3 := Aside0.mk hc0_3; clear hr0_3 hc0_3; have HB := Aside0.mk (Below.refl w.heap.size w); have H : (impl_house_steps.l0 k (([] : List (List Int))) l0_3 (l0_3.length : Int) 0 a0_0 l0_1 l0_2 l0_3) = some r := h; clear h; obtain ⟨y323, hy323⟩ : ∃ y_ : List (List Int), y_ = (([] : List (List Int))) := ⟨_, rfl⟩; replace H : (impl_house_steps.l0 k y323 l0_3 (l0_3.length : Int) 0 a0_0 l0_1 l0_2 l0_3) = some r := by first | (rw [hy323]; with_reducible exact H) | (have H2_ := (Option.bind_some _ _).symm.trans H; rw [hy323]; with_reducible exact H2_) | (have H2_ := (Option.bind_some _ _).symm.trans H; with_reducible exact H2_) | with_reducible exact H | (rw [hy323]; exact H) | exact H
 have Ny323 := Aside0.mk hy323; clear hy323; have H' := Aside0.mk H; clear H
 go_enter Try.func50, Try.ntmps50
 go_wp2_with (first | ((with_reducible refine gate_dst (N := 1) rfl ?_); refine box_event ?hg (N := 1) ?hd (cs := #[.int .i64 a0_0, .slice A0_1 l0_1.length c0_1, .slice A0_2 l0_2.length c0_2, .slice A0_3 l0_3.length c0_3]) (t := 42) ?hr ?_; (case hd => rfl); (case hg => rfl); (case hr => first | (go_simp; done) | (go_simp; rfl)); intro gb322 hg w2 hbox hb; have n0_ := Aside0.mk (below_step BB hb); have n1_ := Aside0.mk (hbox); have n2_ := Aside0.mk ((by rw [hg]; exact (below_size BB) : w.heap.size ≤ gb322)); have n3_ := Aside0.mk ((by rw [hg]; exact (below_size BB) : w.heap.size ≤ gb322)); clear HB; have HB := n0_; have BK322 := n1_; have GW322 := n2_; have GE322 := n3_; clear n0_ n1_ n2_ n3_; clear hb hbox hg) | ((with_reducible refine gate_dst (N := 6) rfl ?_); refine Kd.S_lit (Kd.slice 3 (Kd.int .i64)) _ 22 ?hg (N := 6) ?hd (xs := ([] : List (List Int))) (inner := []) (ok := fun _ => True) (okp := fun _ => True) ?hr ?hp (fun _ hk => hk) trivial (Below.refl _ _) (Nat.le_refl _) (by simp) ?_; (case hd => rfl); (case hg => rfl); (case hr => first | (go_simp; done) | (go_simp; rfl)); (case hp => exact (Reps.none _ _)); intro v324 w3 ho4 hb hg_ hnew_; clear hg_ hnew_; (first | rw [← Ny323.out] at ho4 | (simp only [Int.reduceToNat] at ho4; rw [← Ny323.out] at ho4)); have n0_ := Aside0.mk (Kd.S_lower ho4 (below_size (by repeat (first | (with_reducible first | exact HB.out | apply below_alloc | apply pw_below_drewN | apply below_drew1 | refine below_set ?_ GE322.out) | exact HB.out)))); have n1_ := Aside0.mk (blk_below (g := gb322) (o := .cells #[.int .i64 a0_0, .slice A0_1 l0_1.length c0_1, .slice A0_2 l0_2.length c0_2, .slice A0_3 l0_3.length c0_3] 42 (0, 0)) (by (with_reducible repeat (first | refine blk_drewN ?_ _ | refine blk_drew ?_ | refine blk_alloc ?_ _)); exact BK322.out) hb); have n2_ := Aside0.mk (below_step (by repeat (first | (with_reducible first | exact HB.out | apply below_alloc | apply pw_below_drewN | apply below_drew1 | refine below_set ?_ GE322.out) | exact HB.out)) hb); clear BK322; clear HB; have HO325 := n0_; have BK322 := n1_; have HB := n2_; clear n0_ n1_ n2_; clear hb ho4; have hcz5_0 : w3.cell? ⟨gb322, 0, none⟩ = some (.int .i64 a0_0) := (blk_cell BK322.out 0).trans rfl; have hcz5_1 : w3.cell? ⟨gb322, 1, none⟩ = some (.slice A0_1 l0_1.length c0_1) := (blk_cell BK322.out 1).trans rfl; have hcz5_2 : w3.cell? ⟨gb322, 2, none⟩ = some (.slice A0_2 l0_2.length c0_2) := (blk_cell BK322.out 2).trans rfl; have hcz5_3 : w3.cell? ⟨gb322, 3, none⟩ = some (.slice A0_3 l0_3.length c0_3) := (blk_cell BK322.out 3).trans rfl; have hfz5_0 := blk_frozen BK322.out 0; have hfz5_1 := blk_frozen BK322.out 1; have hfz5_2 := blk_frozen BK322.out 2; have hfz5_3 := blk_frozen BK322.out 3))
 go_loopg [3, 10] k (fun kq v3 v10 w' => ∃ (x3_1 : List (List Int)) (x10_1 : Int), v10 = .int .i64 x10_1 ∧ Aside0 (impl_house_steps.l0 kq x3_1 l0_3 (l0_3.length : Int) x10_1 a0_0 l0_1 l0_2 l0_3 = some r) ∧ Aside0 (kq ≤ k) ∧ Aside0 (Kd.S (Kd.slice 3 (Kd.int .i64)) 22 w' w.heap.size (fun _ => True) v3 x3_1) ∧ Aside0 (w'.heap[gb322]? = some (.cells #[.int .i64 a0_0, (.slice A0_1 l0_1.length c0_1), (.slice A0_2 l0_2.length c0_2), (.slice A0_3 l0_3.length c0_3)] 42 (0, 0))) ∧ Aside0 (Below w.heap.size w w'))
 case atStart => exact ⟨(y323), (0), RF, H', ⟨Nat.le_refl _⟩, ⟨KS HO325⟩, ⟨by (with_reducible repeat (first | refine blk_drewN ?_ _ | refine blk_drew ?_ | refine blk_alloc ?_ _)); exact BK322.out⟩, ⟨by repeat (first | (with_reducible first | exact HB.out | apply below_alloc | apply pw_below_drewN | apply below_drew1 | refine below_set ?_ GE322.out) | exact HB.out)⟩⟩
 case round =>
  clear H'
  try clear p2
  try clear c5
  try clear hcz5_0
  try clear hcz5_1
  try clear hcz5_2
  try clear hcz5_3
  try clear hfz5_0
  try clear hfz5_1
  try clear hfz5_2
  try clear hfz5_3
  obtain ⟨x3_1, x10_1, rfl, HA, HK1, HO_3, BK322, HB⟩ := hrel; cases gk with
  | zero => exact absurd HA.out (by simp [impl_house_steps.l0])
  | succ k1 =>
   have H := HA.out; clear HA
   simp only [impl_house_steps.l0] at H
   by_cases c6 : x10_1 < (l0_3.length : Int)
   ·rw [if_pos c6] at H
    have c6b0 : decide (x10_1 < (l0_3.length : Int)) = true := decide_eq_true c6; clear c6
    by_cases c7 : 0 ≤ x10_1
    ·rw [if_pos c7] at H
     have c7b0 : decide (0 ≤ x10_1) = true := decide_eq_true c7; clear c7
     by_cases c8 : x10_1 < (l0_3.length : Int)
     ·rw [if_pos c8] at H
      have c8b0 : decide (x10_1 < (l0_3.length : Int)) = true := decide_eq_true c8; clear c8
      by_cases c9 : (l0_3.length : Int) = 0
      ·rw [if_pos c9] at H
       exact absurd H (by simp)
      ·rw [if_neg c9] at H
       have c9b0 : ((l0_3.length : Int) == 0) = false := beq_eq_false_iff_ne.mpr c9; have c9b1 : ((l0_3.length : Int) != 0) = true := bne_iff_ne.mpr c9; have c9b2 : ¬ (l0_3 = []) := fun h_ => c9 (by rw [h_]; rfl)
       obtain ⟨ji10, hji10⟩ : ∃ j_ : Int, (Int.tmod (wrap64 (x10_1 + 1)) (l0_3.length : Int)) = j_ := ⟨_, rfl⟩; replace H : (if 0 ≤ (ji10) then (if (ji10) < (l0_3.length : Int) then (if x3_1.length < 5864062014805 then (impl_house_steps.l0 k1 (x3_1 ++ [(([rd l0_3 x10_1, rd l0_3 (ji10)] : List Int))]) l0_3 (l0_3.length : Int) (wrap64 (x10_1 + 1)) a0_0 l0_1 l0_2 l0_3) else (none)) else (none)) else (none)) = some r := by first | (rw [hji10] at H; exact H) | (simp only [hji10] at H ⊢; exact H)
       by_cases c11 : 0 ≤ (ji10)
       ·rw [if_pos c11] at H
        have c11b0 : decide (0 ≤ (ji10)) = true := decide_eq_true c11; clear c11
        by_cases c12 : (ji10) < (l0_3.length : Int)
        ·rw [if_pos c12] at H
         have c12b0 : decide ((ji10) < (l0_3.length : Int)) = true := decide_eq_true c12; clear c12; obtain ⟨y328, hy328⟩ : ∃ y_ : List Int, y_ = (([rd l0_3 x10_1, rd l0_3 (ji10)] : List Int)) := ⟨_, rfl⟩; replace H : (if x3_1.length < 5864062014805 then (impl_house_steps.l0 k1 (x3_1 ++ [y328]) l0_3 (l0_3.length : Int) (wrap64 (x10_1 + 1)) a0_0 l0_1 l0_2 l0_3) else (none)) = some r := by first | (rw [hy328]; with_reducible exact H) | (have H2_ := (Option.bind_some _ _).symm.trans H; rw [hy328]; with_reducible exact H2_) | (have H2_ := (Option.bind_some _ _).symm.trans H; with_reducible exact H2_) | with_reducible exact H | (rw [hy328]; exact H) | exact H
         have Ny328 := Aside0.mk hy328; clear hy328
         by_cases c13 : x3_1.length < 5864062014805
         ·rw [if_pos c13] at H
          have LMc13 := Aside0.mk c13; clear c13; obtain ⟨y331, hy331⟩ : ∃ y_ : List (List Int), y_ = (x3_1 ++ [y328]) := ⟨_, rfl⟩; replace H : (impl_house_steps.l0 k1 y331 l0_3 (l0_3.length : Int) (wrap64 (x10_1 + 1)) a0_0 l0_1 l0_2 l0_3) = some r := by first | (rw [hy331]; with_reducible exact H) | (have H2_ := (Option.bind_some _ _).symm.trans H; rw [hy331]; with_reducible exact H2_) | (have H2_ := (Option.bind_some _ _).symm.trans H; with_reducible exact H2_) | with_reducible exact H | (rw [hy331]; exact H) | exact H
          have Ny331 := Aside0.mk hy331; clear hy331; have H' := Aside0.mk H; clear H; have p326 : 0 ≤ (x10_1 : Int) := of_decide_eq_true AS; have q326 : x10_1 < (l0_3.length : Int) := of_decide_eq_true AS; obtain ⟨ad326, e326, hx326_0⟩ := Kd.at_int HR0_3.out x10_1 p326 q326; cases e326; replace hx326_0 := (HB.out.cell (World.block_lt_of_cell? w _ hx326_0)).trans hx326_0; replace p326 := eq_true p326; replace q326 := eq_true q326
          try go_wp2
          have n0_ := Aside0.mk (Kd.S_drew HO_3.out); have n1_ := Aside0.mk (blk_drew BK322.out); have n2_ := Aside0.mk (below_drew1 HB.out); clear HO_3; clear BK322; clear HB; have HO_3 := n0_; have BK322 := n1_; have HB := n2_; clear n0_ n1_ n2_; have p327 : 0 ≤ ((ji10) : Int) := of_decide_eq_true AS; have q327 : (ji10) < (l0_3.length : Int) := of_decide_eq_true AS; obtain ⟨ad327, e327, hx327_0⟩ := Kd.at_int HR0_3.out (ji10) p327 q327; have hw327_0 := hx327_0; obtain rfl : ad326 = ad327 := (by injection e327); replace hx327_0 := (HB.out.cell (World.block_lt_of_cell? w _ hx327_0)).trans hx327_0; replace p327 := eq_true p327; replace q327 := eq_true q327
          refine start_ (n := 16) (S := fun w' => w'.cell? ⟨gb322, 0, none⟩ = some (.int .i64 a0_0) ∧ w'.cell? ⟨gb322, 1, none⟩ = some (.slice A0_1 l0_1.length c0_1) ∧ w'.cell? ⟨gb322, 2, none⟩ = some (.slice A0_2 l0_2.length c0_2) ∧ w'.cell? ⟨gb322, 3, none⟩ = some (.slice (some ad326) l0_3.length c0_3) ∧ w'.cell? (ad326.add ((ji10)).toNat) = some (.int .i64 (rd l0_3 (ji10)))) (ds := []) #[false, false, false, false, false, false, false, false, false, false, false, false, false, false, false, false] (by kernel_rfl) rfl rfl ⟨(blk_cell BK322.out 0).trans rfl, (blk_cell BK322.out 1).trans rfl, (blk_cell BK322.out 2).trans rfl, (blk_cell BK322.out 3).trans rfl, ((HB.out.cell (World.block_lt_of_cell? w _ hw327_0)).trans hw327_0)⟩ (fun hHeld => ?_); refine with_tabW impl_house_steps.tab5 impl_house_steps.bits5 (fun HT_ HW_ => ?_)
          generalize wr.drew = w14 at HO_3 BK322 HB hx327_0 hHeld ⊢
          refine pure_ (i := 0) (N := some 15) (v := ?_) (a' := ?_) #[true, false, false, false, false, false, false, false, false, false, false, false, false, false, false, false] rfl rfl (any_of HT_.out (by kernel_rfl)) (fun _ _ _ h => h) (Or.inl ⟨by rfl, ?_⟩) ?_ ?_
          rotate_left
          ·intro w'; go_simp; with_reducible rfl
          rotate_left
          ·simp only [Act.put, List.setIfInBounds_toArray, List.set_cons_zero, List.set_cons_succ, i64_w, i32_w]; rfl
          refine pure_ (i := 1) (N := some 16) (v := ?_) (a' := ?_) #[true, true, false, false, false, false, false, false, false, false, false, false, false, false, false, false] rfl rfl (any_of HT_.out (by kernel_rfl)) (fun _ _ _ h => h) (Or.inl ⟨by rfl, ?_⟩) ?_ ?_
          rotate_left
          ·intro w'; go_simp; with_reducible rfl
          rotate_left
          ·simp only [Act.put, List.setIfInBounds_toArray, List.set_cons_zero, List.set_cons_succ, i64_w, i32_w]; rfl
          refine pure_ (i := 2) (N := some 17) (v := ?_) (a' := ?_) #[true, true, true, false, false, false, false, false, false, false, false, false, false, false, false, false] rfl rfl (any_of HT_.out (by kernel_rfl)) (fun _ _ _ h => h) (Or.inl ⟨by rfl, ?_⟩) ?_ ?_
          rotate_left
          ·intro w'; go_simp; with_reducible rfl
          rotate_left
          ·simp only [Act.put, List.setIfInBounds_toArray, List.set_cons_zero, List.set_cons_succ, i64_w, i32_w]; rfl
          refine pure_ (i := 4) (N := some 19) (v := ?_) (a' := ?_) #[true, true, true, false, true, false, false, false, false, false, false, false, false, false, false, false] rfl rfl (any_of HT_.out (by kernel_rfl)) (fun _ _ _ h => h) (Or.inl ⟨by rfl, ?_⟩) ?_ ?_
          rotate_left
          ·intro w'; go_simp; with_reducible rfl
          rotate_left
          ·simp only [Act.put, List.setIfInBounds_toArray, List.set_cons_zero, List.set_cons_succ, i64_w, i32_w]; rfl
          refine pure_ (i := 5) (N := some 20) (v := ?_) (a' := ?_) #[true, true, true, false, true, true, false, false, false, false, false, false, false, false, false, false] rfl rfl (any_of HT_.out (by kernel_rfl)) (fun _ _ _ h => h) (Or.inl ⟨by rfl, ?_⟩) ?_ ?_
          rotate_left
          ·intro w'; go_simp; with_reducible rfl
          rotate_left
          ·simp only [Act.put, List.setIfInBounds_toArray, List.set_cons_zero, List.set_cons_succ, i64_w, i32_w]; rfl
          refine pure_ (i := 6) (N := some 21) (v := ?_) (a' := ?_) #[true, true, true, false, true, true, true, false, false, false, false, false, false, false, false, false] rfl rfl (any_of HT_.out (by kernel_rfl)) (fun _ _ _ h => h) (Or.inl ⟨by rfl, ?_⟩) ?_ ?_
          rotate_left
          ·intro w'; go_simp; with_reducible rfl
          rotate_left
          ·simp only [Act.put, List.setIfInBounds_toArray, List.set_cons_zero, List.set_cons_succ, i64_w, i32_w]; rfl
          refine take_ (i := 3) (N := some 18) (v := ?_) (a' := ?_) #[true, true, true, true, true, true, true, false, false, false, false, false, false, false, false, false] rfl rfl (take_ofW HT_.out HW_.out (by kernel_rfl)) (fun _ _ _ h => h) (Or.inl ⟨by rfl, ?_⟩) hHeld ?_ ?_
          rotate_left
          ·rintro w' ⟨s0, s1, s2, s3, s4⟩; go_simp; with_reducible rfl
          rotate_left
          ·simp only [Act.put, List.setIfInBounds_toArray, List.set_cons_zero, List.set_cons_succ, i64_w, i32_w]; rfl
          refine take_ (i := 7) (N := some 22) (v := ?_) (a' := ?_) #[true, true, true, true, true, true, true, true, false, false, false, false, false, false, false, false] rfl rfl (take_ofW HT_.out HW_.out (by kernel_rfl)) (fun _ _ _ h => h) (Or.inl ⟨by rfl, ?_⟩) hHeld ?_ ?_
          rotate_left
          ·rintro w' ⟨s0, s1, s2, s3, s4⟩; go_simp; with_reducible rfl
          rotate_left
          ·simp only [Act.put, List.setIfInBounds_toArray, List.set_cons_zero, List.set_cons_succ, i64_w, i32_w]; rfl
          refine pure_ (i := 8) (N := some 23) (v := ?_) (a' := ?_) #[true, true, true, true, true, true, true, true, true, false, false, false, false, false, false, false] rfl rfl (any_of HT_.out (by kernel_rfl)) (fun _ _ _ h => h) (Or.inl ⟨by rfl, ?_⟩) ?_ ?_
          rotate_left
          ·intro w'; go_simp; with_reducible rfl
          rotate_left
          ·simp only [Act.put, List.setIfInBounds_toArray, List.set_cons_zero, List.set_cons_succ, i64_w, i32_w]; rfl
          refine pure_ (i := 9) (N := some 24) (v := ?_) (a' := ?_) #[true, true, true, true, true, true, true, true, true, true, false, false, false, false, false, false] rfl rfl (any_of HT_.out (by kernel_rfl)) (fun _ _ _ h => h) (Or.inl ⟨by rfl, ?_⟩) ?_ ?_
          rotate_left
          ·intro w'; go_simp; with_reducible rfl
          rotate_left
          ·simp only [Act.put, List.setIfInBounds_toArray, List.set_cons_zero, List.set_cons_succ, i64_w, i32_w]; rfl
          refine pure_ (i := 10) (N := some 25) (v := ?_) (a' := ?_) #[true, true, true, true, true, true, true, true, true, true, true, false, false, false, false, false] rfl rfl (any_of HT_.out (by kernel_rfl)) (fun _ _ _ h => h) (Or.inl ⟨by rfl, ?_⟩) ?_ ?_
          rotate_left
          ·intro w'; go_simp; with_reducible rfl
          rotate_left
          ·simp only [Act.put, List.setIfInBounds_toArray, List.set_cons_zero, List.set_cons_succ, i64_w, i32_w]; rfl
          refine take_ (i := 11) (N := some 26) (v := ?_) (a' := ?_) #[true, true, true, true, true, true, true, true, true, true, true, true, false, false, false, false] rfl rfl (take_ofW HT_.out HW_.out (by kernel_rfl)) (fun _ _ _ h => h) (Or.inl ⟨by rfl, ?_⟩) hHeld ?_ ?_
          rotate_left
          ·rintro w' ⟨s0, s1, s2, s3, s4⟩; go_simp; with_reducible rfl
          rotate_left
          ·simp only [Act.put, List.setIfInBounds_toArray, List.set_cons_zero, List.set_cons_succ, i64_w, i32_w]; rfl
          refine one_ (i := 12) (N := some 27) #[true, true, true, true, true, true, true, true, true, true, true, true, true, false, false, false] rfl rfl (one_of HT_.out (by kernel_rfl)) (by decide) (fun K hK => ?_)
          refine Kd.R_lit_step (Kd.int .i64) _ 3 ?hg (N := 27) ?hd (xs := ([rd l0_3 x10_1, rd l0_3 (ji10)] : List Int)) (inner := [.int .i64 (rd l0_3 x10_1), .int .i64 (rd l0_3 (ji10))]) (ok := fun _ => True) (okp := fun _ => True) ?hr ?hp (fun _ hk => hk) trivial (Below.refl _ _) (Nat.le_refl _) (by simp) ?_; (case hd => rfl); (case hg => rfl); (case hr => first | (go_simp; done) | (go_simp; rfl)); (case hp => exact (Reps.one (show Kd.M (Kd.int .i64) _ _ _ (rd l0_3 x10_1) [.int .i64 (rd l0_3 x10_1)] from rfl) (Reps.one (show Kd.M (Kd.int .i64) _ _ _ (rd l0_3 (ji10)) [.int .i64 (rd l0_3 (ji10))] from rfl) (Reps.none _ _))))
          intro v329 w15 ho16 hb hg_ hnew_
          clear hg_ hnew_
          (first | rw [← Ny328.out] at ho16 | (simp only [Int.reduceToNat] at ho16; rw [← Ny328.out] at ho16))
          have n0_ := Aside0.mk (Kd.S_elder' (KS HO_3) (Kd.R_base ho16) hb); have n1_ := Aside0.mk (Kd.R_lower ho16 (below_size (by repeat (first | (with_reducible first | exact HB.out | apply below_alloc | apply pw_below_drewN | apply below_drew1 | refine below_set ?_ GE322.out) | exact HB.out)))); have n2_ := Aside0.mk (blk_below (g := gb322) (o := .cells #[.int .i64 a0_0, .slice A0_1 l0_1.length c0_1, .slice A0_2 l0_2.length c0_2, .slice (some ad326) l0_3.length c0_3] 42 (0, 0)) (by (with_reducible repeat (first | refine blk_drewN ?_ _ | refine blk_drew ?_ | refine blk_alloc ?_ _)); exact BK322.out) hb); have n3_ := Aside0.mk (below_step (by repeat (first | (with_reducible first | exact HB.out | apply below_alloc | apply pw_below_drewN | apply below_drew1 | refine below_set ?_ GE322.out) | exact HB.out)) hb); clear HO_3; clear BK322; clear HB; have HO_3 := n0_; have HO330 := n1_; have BK322 := n2_; have HB := n3_; clear n0_ n1_ n2_ n3_; clear hb ho16; obtain ⟨Ao18, co18, eo18⟩ := Kd.R_slice HO330.out
          (first | subst eo18 | (injection eo18 with f1_ f2_ f3_; have f4_ := f1_.symm; have f5_ := f3_.symm; clear f1_ f2_ f3_; subst f4_; subst f5_))
          refine hK.out _ _ ⟨(blk_cell BK322.out 0).trans rfl, (blk_cell BK322.out 1).trans rfl, (blk_cell BK322.out 2).trans rfl, (blk_cell BK322.out 3).trans rfl, ((HB.out.cell (World.block_lt_of_cell? w _ hw327_0)).trans hw327_0)⟩ (fun hHeld => ?_)
          clear hK K
          refine norm_ (a' := ?_) ?_ ?_
          rotate_left
          ·show Act.put _ (some 27) _ = _
           simp only [Act.put, List.setIfInBounds_toArray, List.set_cons_zero, List.set_cons_succ, i64_w, i32_w]
           rfl
          refine one_ (i := 13) (N := some 28) #[true, true, true, true, true, true, true, true, true, true, true, true, true, true, false, false] rfl rfl (one_of HT_.out (by kernel_rfl)) (by decide) (fun K hK => ?_)
          refine value_ (w1 := ?_) (v := ?_) (by rfl) rfl ?_ ?_
          rotate_left 2
          ·go_simp
           constructor
           ·rfl
           ·rfl
          refine hK.out _ _ ⟨(blk_cell (blk_alloc BK322.out _) 0).trans rfl, (blk_cell (blk_alloc BK322.out _) 1).trans rfl, (blk_cell (blk_alloc BK322.out _) 2).trans rfl, (blk_cell (blk_alloc BK322.out _) 3).trans rfl, (World.cell?_alloc_lt _ _ _ (World.block_lt_of_cell? _ _ (((HB.out.cell (World.block_lt_of_cell? w _ hw327_0)).trans hw327_0)))).trans (((HB.out.cell (World.block_lt_of_cell? w _ hw327_0)).trans hw327_0))⟩ (fun hHeld => ?_)
          clear hK K
          refine norm_ (a' := ?_) ?_ ?_
          rotate_left
          ·show Act.put _ (some 28) _ = _
           simp only [Act.put, List.setIfInBounds_toArray, List.set_cons_zero, List.set_cons_succ, i64_w, i32_w]
           rfl
          refine one_ (i := 14) (N := some 29) #[true, true, true, true, true, true, true, true, true, true, true, true, true, true, true, false] rfl rfl (one_of HT_.out (by kernel_rfl)) (by decide) (fun K hK => ?_)
          refine Kd.S_append_step (Kd.slice 3 (Kd.int .i64)) (w0 := w) w.heap.size (by rfl) (.tmp 15) (.tmp 28) 36 22 (.slice none 0 0) 24 rfl Try.underlying36 info22 rfl (by decide) (by omega) u3 x3_1 y328 [.slice Ao18 y328.length co18] (fun _ => True) (fun k_ => some k_ = (.slice Ao18 y328.length co18 : Value).ownBlock) rfl rfl ?aP (fun k_ hk_ => ((Kd.R_mono (ok' := fun k_ => ((fun _ => True)) k_ ∧ some k_ ≠ (u3 : Value).ownBlock) (Kd.R_apart' (HO330.out) (Kd.S_typed HO_3.out) (by decide)) (fun k_ hk => ⟨trivial, hk.2⟩))).1 k_ hk_.symm) ?aF ?aO ?aB ?aS ?aL ?_
          (case aP => exact Kd.M_row (Kd.R_mono (Kd.R_tight rfl (Kd.R_mono (ok' := fun k_ => ((fun _ => True)) k_ ∧ some k_ ≠ (u3 : Value).ownBlock) (Kd.R_apart' (HO330.out) (Kd.S_typed HO_3.out) (by decide)) (fun k_ hk => ⟨trivial, hk.2⟩))) (fun _ h_ => h_)))
          (case aB => exact (by repeat (first | (with_reducible first | exact HB.out | apply below_alloc | apply pw_below_drewN | apply below_drew1 | refine below_set ?_ GE322.out) | exact HB.out)))
          (case aF => exact (fun _ _ => trivial))
          (case aO => exact (by (with_reducible repeat (first | apply Kd.S_alloc | apply Kd.S_drewN | apply Kd.S_drew)); exact Kd.S_mono HO_3.out (fun k_ hk => ⟨trivial, fun e_ => hk.2 e_⟩)))
          (case aS => exact (below_size (by repeat (first | (with_reducible first | exact HB.out | apply below_alloc | apply pw_below_drewN | apply below_drew1 | refine below_set ?_ GE322.out) | exact HB.out))))
          (case aL => have := LMc13.out; omega)
          intro v332 w17 ho hb hg hat
          rw [← Ny331.out] at ho; have n0_ := Aside0.mk (blk_grown (g := gb322) (o := .cells #[.int .i64 a0_0, .slice A0_1 l0_1.length c0_1, .slice A0_2 l0_2.length c0_2, .slice (some ad326) l0_3.length c0_3] 42 (0, 0)) (by (with_reducible repeat (first | refine blk_drewN ?_ _ | refine blk_drew ?_ | refine blk_alloc ?_ _)); exact BK322.out) hg (Kd.S_ne HO_3.out BK322.out (by decide))); have n1_ := Aside0.mk (hb); have n2_ := Aside0.mk (ho); clear BK322; clear HB; clear HO_3; clear HO330; have BK322 := n0_; have HB := n1_; have HO333 := n2_; clear n0_ n1_ n2_; clear ho hb hg hat
          refine hK.out _ _ ⟨(blk_cell BK322.out 0).trans rfl, (blk_cell BK322.out 1).trans rfl, (blk_cell BK322.out 2).trans rfl, (blk_cell BK322.out 3).trans rfl, ((HB.out.cell (World.block_lt_of_cell? w _ hw327_0)).trans hw327_0)⟩ (fun hHeld => ?_)
          clear hK K
          refine norm_ (a' := ?_) ?_ ?_
          rotate_left
          ·show Act.put _ (some 29) _ = _
           simp only [Act.put, List.setIfInBounds_toArray, List.set_cons_zero, List.set_cons_succ, i64_w, i32_w]
           rfl
          refine pure_ (i := 15) (N := some 3) (v := ?_) (a' := ?_) #[true, true, true, true, true, true, true, true, true, true, true, true, true, true, true, true] rfl rfl (any_of HT_.out (by kernel_rfl)) (fun _ _ _ h => h) (Or.inl ⟨by rfl, ?_⟩) ?_ ?_
          rotate_left
          ·intro w'; go_simp; with_reducible rfl
          rotate_left
          ·simp only [Act.put, List.setIfInBounds_toArray, List.set_cons_zero, List.set_cons_succ, i64_w, i32_w]; rfl
          refine done_ (done_of HT_.out (by kernel_rfl)) ?_
          try go_wp2
          go_roundg k1
          case measure => have := HK1.out; omega
          case rel => exact ⟨(y331), (wrap64 (x10_1 + 1)), RF, H', ⟨by have := HK1.out; omega⟩, ⟨KS HO333⟩, ⟨by (with_reducible repeat (first | refine blk_drewN ?_ _ | refine blk_drew ?_ | refine blk_alloc ?_ _)); exact BK322.out⟩, ⟨by repeat (first | (with_reducible first | exact HB.out | apply below_alloc | apply pw_below_drewN | apply below_drew1 | refine below_set ?_ GE322.out) | exact HB.out)⟩⟩
         ·rw [if_neg c13] at H
          exact absurd H (by simp)
        ·rw [if_neg c12] at H
         exact absurd H (by simp)
       ·rw [if_neg c11] at H
        exact absurd H (by simp)
     ·rw [if_neg c8] at H
      exact absurd H (by simp)
    ·rw [if_neg c7] at H
     exact absurd H (by simp)
   ·rw [if_neg c6] at H
    have c6b0 : decide (x10_1 < (l0_3.length : Int)) = false := decide_eq_false c6; clear c6; obtain rfl := Option.some.inj H
    go_wp2
    go_ret
    exact ⟨_, by first | rfl | (simp [errW_none, errW_some] <;> rfl) | (simp [*, errW_none, errW_some] <;> rfl), KS HO_3, by repeat (first | (with_reducible first | exact HB.out | apply below_alloc | apply pw_below_drewN | apply below_drew1 | refine below_set ?_ GE322.out) | exact HB.out)⟩

def impl_house_isDoor.f (a0_0 : Int) (l0_1 : List Int) (l0_2 : List (List Int)) (l0_3 : List Int) (a1 : Int) (a2 : Int) : Option (Bool) := if 0 ≤ a1 then (if a1 < (l0_1.length : Int) then (if 0 ≤ a2 then (if a2 < (l0_1.length : Int) then (if (rd l0_1 a1) = (rd l0_1 a2) then (some false) else (if (rd l0_1 a1) < 2 then (some (decide ((rd l0_1 a2) < 2))) else (some false))) else (none)) else (none)) else (none)) else (none)
set_option maxHeartbeats 8000000 in
set_option maxRecDepth 100000 in
theorem impl_house_isDoor.calls (a0_0 : Int) (A0_1 : Option Addr) (c0_1 : Nat) (l0_1 : List Int) (A0_2 : Option Addr) (c0_2 : Nat) (l0_2 : List (List Int)) (A0_3 : Option Addr) (c0_3 : Nat) (l0_3 : List Int) (a1 : Int) (a2 : Int) (r : Bool) (w : World) (hr0_1 : Kd.C (Kd.int .i64) w A0_1 l0_1.length l0_1) (hc0_1 : l0_1.length ≤ c0_1) (hr0_2 : Kd.C (Kd.slice 3 (Kd.int .i64)) w A0_2 l0_2.length l0_2) (hc0_2 : l0_2.length ≤ c0_2) (hr0_3 : Kd.C (Kd.int .i64) w A0_3 l0_3.length l0_3) (hc0_3 : l0_3.length ≤ c0_3) (h : impl_house_isDoor.f a0_0 l0_1 l0_2 l0_3 a1 a2 = some r) :
  Calls Try.prog 52 #[.agg #[.int .i64 a0_0, .slice A0_1 l0_1.length c0_1, .slice A0_2 l0_2.length c0_2, .slice A0_3 l0_3.length c0_3], .int .i64 a1, .int .i64 a2] w fun e w' => e = .returned (.bool r) ∧ Below w.heap.size w w' := by
 have hu42 := Try.underlying42; have HR0_1 := Aside0.mk hr0_1; have HC0_1 := Aside0.mk hc0_1; clear hr0_1 hc0_1; have HR0_2 := Aside0.mk hr0_2; have HC0_2 := Aside0.mk hc0_2; clear hr0_2 hc0_2; have HR0_3 := Aside0.mk hr0_3; have HC0_3 := Aside0.mk hc0_3; clear hr0_3 hc0_3; have HB := Aside0.mk (Below.refl w.heap.size w); have H : (if 0 ≤ a1 then (if a1 < (l0_1.length : Int) then (if 0 ≤ a2 then (if a2 < (l0_1.length : Int) then (if (rd l0_1 a1) = (rd l0_1 a2) then (some false) else (if (rd l0_1 a1) < 2 then (some (decide ((rd l0_1 a2) < 2))) else (some false))) else (none)) else (none)) else (none)) else (none)) = some r := h; clear h
 by_cases c4 : 0 ≤ a1
 ·rw [if_pos c4] at H
  have c4b0 : decide (0 ≤ a1) = true := decide_eq_true c4; clear c4
  by_cases c5 : a1 < (l0_1.length : Int)
  ·rw [if_pos c5] at H
   have c5b0 : decide (a1 < (l0_1.length : Int)) = true := decide_eq_true c5; clear c5
   by_cases c6 : 0 ≤ a2
   ·rw [if_pos c6] at H
    have c6b0 : decide (0 ≤ a2) = true := decide_eq_true c6; clear c6
    by_cases c7 : a2 < (l0_1.length : Int)
    ·rw [if_pos c7] at H
     have c7b0 : decide (a2 < (l0_1.length : Int)) = true := decide_eq_true c7; clear c7
     by_cases c8 : (rd l0_1 a1) = (rd l0_1 a2)
     ·rw [if_pos c8] at H
      have c8b0 : ((rd l0_1 a1) == (rd l0_1 a2)) = true := beq_iff_eq.mpr c8; have c8b1 : ((rd l0_1 a1) != (rd l0_1 a2)) = false := bne_eq_false_iff_eq.mpr c8; clear c8; obtain rfl := Option.some.inj H
      go_enter Try.func52, Try.ntmps52
      go_wp2_with (first | ((with_reducible refine gate_dst (N := 3) rfl ?_); refine box_event ?hg (N := 3) ?hd (cs := #[.int .i64 a0_0, .slice A0_1 l0_1.length c0_1, .slice A0_2 l0_2.length c0_2, .slice A0_3 l0_3.length c0_3]) (t := 42) ?hr ?_; (case hd => rfl); (case hg => rfl); (case hr => first | (go_simp; done) | (go_simp; rfl)); intro gb334 hg w9 hbox hb; have n0_ := Aside0.mk (below_step BB hb); have n1_ := Aside0.mk (hbox); have n2_ := Aside0.mk ((by rw [hg]; exact (below_size BB) : w.heap.size ≤ gb334)); have n3_ := Aside0.mk ((by rw [hg]; exact (below_size BB) : w.heap.size ≤ gb334)); clear HB; have HB := n0_; have BK334 := n1_; have GW334 := n2_; have GE334 := n3_; clear n0_ n1_ n2_ n3_; clear hb hbox hg; have hcz10_0 : w9.cell? ⟨gb334, 0, none⟩ = some (.int .i64 a0_0) := (blk_cell BK334.out 0).trans rfl; have hcz10_1 : w9.cell? ⟨gb334, 1, none⟩ = some (.slice A0_1 l0_1.length c0_1) := (blk_cell BK334.out 1).trans rfl; have hcz10_2 : w9.cell? ⟨gb334, 2, none⟩ = some (.slice A0_2 l0_2.length c0_2) := (blk_cell BK334.out 2).trans rfl; have hcz10_3 : w9.cell? ⟨gb334, 3, none⟩ = some (.slice A0_3 l0_3.length c0_3) := (blk_cell BK334.out 3).trans rfl; have hfz10_0 := blk_frozen BK334.out 0; have hfz10_1 := blk_frozen BK334.out 1; have hfz10_2 := blk_frozen BK334.out 2; have hfz10_3 := blk_frozen BK334.out 3; have p335 : 0 ≤ (a1 : Int) := of_decide_eq_true AS; have q335 : a1 < (l0_1.length : Int) := of_decide_eq_true AS; obtain ⟨ad335, e335, hx335_0⟩ := Kd.at_int HR0_1.out a1 p335 q335; cases e335; replace hx335_0 := (HB.out.cell (World.block_lt_of_cell? w _ hx335_0)).trans hx335_0; replace p335 := eq_true p335; replace q335 := eq_true q335; have p336 : 0 ≤ (a2 : Int) := of_decide_eq_true AS; have q336 : a2 < (l0_1.length : Int) := of_decide_eq_true AS; obtain ⟨ad336, e336, hx336_0⟩ := Kd.at_int HR0_1.out a2 p336 q336; obtain rfl : ad335 = ad336 := (by injection e336); replace hx336_0 := (HB.out.cell (World.block_lt_of_cell? w _ hx336_0)).trans hx336_0; replace p336 := eq_true p336; replace q336 := eq_true q336))
      repeat (go_quiet (first | ((with_reducible refine gate_dst (N := 3) rfl ?_); refine box_event ?hg (N := 3) ?hd (cs := #[.int .i64 a0_0, .slice A0_1 l0_1.length c0_1, .slice A0_2 l0_2.length c0_2, .slice A0_3 l0_3.length c0_3]) (t := 42) ?hr ?_; (case hd => rfl); (case hg => rfl); (case hr => first | (go_simp; done) | (go_simp; rfl)); intro gb334 hg w9 hbox hb; have n0_ := Aside0.mk (below_step BB hb); have n1_ := Aside0.mk (hbox); have n2_ := Aside0.mk ((by rw [hg]; exact (below_size BB) : w.heap.size ≤ gb334)); have n3_ := Aside0.mk ((by rw [hg]; exact (below_size BB) : w.heap.size ≤ gb334)); clear HB; have HB := n0_; have BK334 := n1_; have GW334 := n2_; have GE334 := n3_; clear n0_ n1_ n2_ n3_; clear hb hbox hg; have hcz10_0 : w9.cell? ⟨gb334, 0, none⟩ = some (.int .i64 a0_0) := (blk_cell BK334.out 0).trans rfl; have hcz10_1 : w9.cell? ⟨gb334, 1, none⟩ = some (.slice A0_1 l0_1.length c0_1) := (blk_cell BK334.out 1).trans rfl; have hcz10_2 : w9.cell? ⟨gb334, 2, none⟩ = some (.slice A0_2 l0_2.length c0_2) := (blk_cell BK334.out 2).trans rfl; have hcz10_3 : w9.cell? ⟨gb334, 3, none⟩ = some (.slice A0_3 l0_3.length c0_3) := (blk_cell BK334.out 3).trans rfl; have hfz10_0 := blk_frozen BK334.out 0; have hfz10_1 := blk_frozen BK334.out 1; have hfz10_2 := blk_frozen BK334.out 2; have hfz10_3 := blk_frozen BK334.out 3; have p335 : 0 ≤ (a1 : Int) := of_decide_eq_true AS; have q335 : a1 < (l0_1.length : Int) := of_decide_eq_true AS; obtain ⟨ad335, e335, hx335_0⟩ := Kd.at_int HR0_1.out a1 p335 q335; cases e335; replace hx335_0 := (HB.out.cell (World.block_lt_of_cell? w _ hx335_0)).trans hx335_0; replace p335 := eq_true p335; replace q335 := eq_true q335; have p336 : 0 ≤ (a2 : Int) := of_decide_eq_true AS; have q336 : a2 < (l0_1.length : Int) := of_decide_eq_true AS; obtain ⟨ad336, e336, hx336_0⟩ := Kd.at_int HR0_1.out a2 p336 q336; obtain rfl : ad335 = ad336 := (by injection e336); replace hx336_0 := (HB.out.cell (World.block_lt_of_cell? w _ hx336_0)).trans hx336_0; replace p336 := eq_true p336; replace q336 := eq_true q336)); try go_wp2_with (first | ((with_reducible refine gate_dst (N := 3) rfl ?_); refine box_event ?hg (N := 3) ?hd (cs := #[.int .i64 a0_0, .slice A0_1 l0_1.length c0_1, .slice A0_2 l0_2.length c0_2, .slice A0_3 l0_3.length c0_3]) (t := 42) ?hr ?_; (case hd => rfl); (case hg => rfl); (case hr => first | (go_simp; done) | (go_simp; rfl)); intro gb334 hg w9 hbox hb; have n0_ := Aside0.mk (below_step BB hb); have n1_ := Aside0.mk (hbox); have n2_ := Aside0.mk ((by rw [hg]; exact (below_size BB) : w.heap.size ≤ gb334)); have n3_ := Aside0.mk ((by rw [hg]; exact (below_size BB) : w.heap.size ≤ gb334)); clear HB; have HB := n0_; have BK334 := n1_; have GW334 := n2_; have GE334 := n3_; clear n0_ n1_ n2_ n3_; clear hb hbox hg; have hcz10_0 : w9.cell? ⟨gb334, 0, none⟩ = some (.int .i64 a0_0) := (blk_cell BK334.out 0).trans rfl; have hcz10_1 : w9.cell? ⟨gb334, 1, none⟩ = some (.slice A0_1 l0_1.length c0_1) := (blk_cell BK334.out 1).trans rfl; have hcz10_2 : w9.cell? ⟨gb334, 2, none⟩ = some (.slice A0_2 l0_2.length c0_2) := (blk_cell BK334.out 2).trans rfl; have hcz10_3 : w9.cell? ⟨gb334, 3, none⟩ = some (.slice A0_3 l0_3.length c0_3) := (blk_cell BK334.out 3).trans rfl; have hfz10_0 := blk_frozen BK334.out 0; have hfz10_1 := blk_frozen BK334.out 1; have hfz10_2 := blk_frozen BK334.out 2; have hfz10_3 := blk_frozen BK334.out 3; have p335 : 0 ≤ (a1 : Int) := of_decide_eq_true AS; have q335 : a1 < (l0_1.length : Int) := of_decide_eq_true AS; obtain ⟨ad335, e335, hx335_0⟩ := Kd.at_int HR0_1.out a1 p335 q335; cases e335; replace hx335_0 := (HB.out.cell (World.block_lt_of_cell? w _ hx335_0)).trans hx335_0; replace p335 := eq_true p335; replace q335 := eq_true q335; have p336 : 0 ≤ (a2 : Int) := of_decide_eq_true AS; have q336 : a2 < (l0_1.length : Int) := of_decide_eq_true AS; obtain ⟨ad336, e336, hx336_0⟩ := Kd.at_int HR0_1.out a2 p336 q336; obtain rfl : ad335 = ad336 := (by injection e336); replace hx336_0 := (HB.out.cell (World.block_lt_of_cell? w _ hx336_0)).trans hx336_0; replace p336 := eq_true p336; replace q336 := eq_true q336)))
      go_ret
      exact ⟨by first | rfl | (simp [errW_none, errW_some] <;> rfl) | (simp [*, errW_none, errW_some] <;> rfl), by repeat (first | (with_reducible first | exact HB.out | apply below_alloc | apply pw_below_drewN | apply below_drew1 | refine below_set ?_ GE334.out) | exact HB.out)⟩
     ·rw [if_neg c8] at H
      have c8b0 : ((rd l0_1 a1) == (rd l0_1 a2)) = false := beq_eq_false_iff_ne.mpr c8; have c8b1 : ((rd l0_1 a1) != (rd l0_1 a2)) = true := bne_iff_ne.mpr c8
      by_cases c11 : (rd l0_1 a1) < 2
      ·rw [if_pos c11] at H
       have c11b0 : decide ((rd l0_1 a1) < 2) = true := decide_eq_true c11; clear c11; obtain rfl := Option.some.inj H
       go_enter Try.func52, Try.ntmps52
       go_wp2_with (first | ((with_reducible refine gate_dst (N := 3) rfl ?_); refine box_event ?hg (N := 3) ?hd (cs := #[.int .i64 a0_0, .slice A0_1 l0_1.length c0_1, .slice A0_2 l0_2.length c0_2, .slice A0_3 l0_3.length c0_3]) (t := 42) ?hr ?_; (case hd => rfl); (case hg => rfl); (case hr => first | (go_simp; done) | (go_simp; rfl)); intro gb334 hg w12 hbox hb; have n0_ := Aside0.mk (below_step BB hb); have n1_ := Aside0.mk (hbox); have n2_ := Aside0.mk ((by rw [hg]; exact (below_size BB) : w.heap.size ≤ gb334)); have n3_ := Aside0.mk ((by rw [hg]; exact (below_size BB) : w.heap.size ≤ gb334)); clear HB; have HB := n0_; have BK334 := n1_; have GW334 := n2_; have GE334 := n3_; clear n0_ n1_ n2_ n3_; clear hb hbox hg; have hcz13_0 : w12.cell? ⟨gb334, 0, none⟩ = some (.int .i64 a0_0) := (blk_cell BK334.out 0).trans rfl; have hcz13_1 : w12.cell? ⟨gb334, 1, none⟩ = some (.slice A0_1 l0_1.length c0_1) := (blk_cell BK334.out 1).trans rfl; have hcz13_2 : w12.cell? ⟨gb334, 2, none⟩ = some (.slice A0_2 l0_2.length c0_2) := (blk_cell BK334.out 2).trans rfl; have hcz13_3 : w12.cell? ⟨gb334, 3, none⟩ = some (.slice A0_3 l0_3.length c0_3) := (blk_cell BK334.out 3).trans rfl; have hfz13_0 := blk_frozen BK334.out 0; have hfz13_1 := blk_frozen BK334.out 1; have hfz13_2 := blk_frozen BK334.out 2; have hfz13_3 := blk_frozen BK334.out 3; have p335 : 0 ≤ (a1 : Int) := of_decide_eq_true AS; have q335 : a1 < (l0_1.length : Int) := of_decide_eq_true AS; obtain ⟨ad335, e335, hx335_0⟩ := Kd.at_int HR0_1.out a1 p335 q335; cases e335; replace hx335_0 := (HB.out.cell (World.block_lt_of_cell? w _ hx335_0)).trans hx335_0; replace p335 := eq_true p335; replace q335 := eq_true q335; have p336 : 0 ≤ (a2 : Int) := of_decide_eq_true AS; have q336 : a2 < (l0_1.length : Int) := of_decide_eq_true AS; obtain ⟨ad336, e336, hx336_0⟩ := Kd.at_int HR0_1.out a2 p336 q336; obtain rfl : ad335 = ad336 := (by injection e336); replace hx336_0 := (HB.out.cell (World.block_lt_of_cell? w _ hx336_0)).trans hx336_0; replace p336 := eq_true p336; replace q336 := eq_true q336; have p337 : 0 ≤ (a1 : Int) := of_decide_eq_true AS; have q337 : a1 < (l0_1.length : Int) := of_decide_eq_true AS; obtain ⟨ad337, e337, hx337_0⟩ := Kd.at_int HR0_1.out a1 p337 q337; obtain rfl : ad335 = ad337 := (by injection e337); replace hx337_0 := (HB.out.cell (World.block_lt_of_cell? w _ hx337_0)).trans hx337_0; replace p337 := eq_true p337; replace q337 := eq_true q337; have p338 : 0 ≤ (a2 : Int) := of_decide_eq_true AS; have q338 : a2 < (l0_1.length : Int) := of_decide_eq_true AS; obtain ⟨ad338, e338, hx338_0⟩ := Kd.at_int HR0_1.out a2 p338 q338; obtain rfl : ad335 = ad338 := (by injection e338); replace hx338_0 := (HB.out.cell (World.block_lt_of_cell? w _ hx338_0)).trans hx338_0; replace p338 := eq_true p338; replace q338 := eq_true q338))
       repeat (go_quiet (first | ((with_reducible refine gate_dst (N := 3) rfl ?_); refine box_event ?hg (N := 3) ?hd (cs := #[.int .i64 a0_0, .slice A0_1 l0_1.length c0_1, .slice A0_2 l0_2.length c0_2, .slice A0_3 l0_3.length c0_3]) (t := 42) ?hr ?_; (case hd => rfl); (case hg => rfl); (case hr => first | (go_simp; done) | (go_simp; rfl)); intro gb334 hg w12 hbox hb; have n0_ := Aside0.mk (below_step BB hb); have n1_ := Aside0.mk (hbox); have n2_ := Aside0.mk ((by rw [hg]; exact (below_size BB) : w.heap.size ≤ gb334)); have n3_ := Aside0.mk ((by rw [hg]; exact (below_size BB) : w.heap.size ≤ gb334)); clear HB; have HB := n0_; have BK334 := n1_; have GW334 := n2_; have GE334 := n3_; clear n0_ n1_ n2_ n3_; clear hb hbox hg; have hcz13_0 : w12.cell? ⟨gb334, 0, none⟩ = some (.int .i64 a0_0) := (blk_cell BK334.out 0).trans rfl; have hcz13_1 : w12.cell? ⟨gb334, 1, none⟩ = some (.slice A0_1 l0_1.length c0_1) := (blk_cell BK334.out 1).trans rfl; have hcz13_2 : w12.cell? ⟨gb334, 2, none⟩ = some (.slice A0_2 l0_2.length c0_2) := (blk_cell BK334.out 2).trans rfl; have hcz13_3 : w12.cell? ⟨gb334, 3, none⟩ = some (.slice A0_3 l0_3.length c0_3) := (blk_cell BK334.out 3).trans rfl; have hfz13_0 := blk_frozen BK334.out 0; have hfz13_1 := blk_frozen BK334.out 1; have hfz13_2 := blk_frozen BK334.out 2; have hfz13_3 := blk_frozen BK334.out 3; have p335 : 0 ≤ (a1 : Int) := of_decide_eq_true AS; have q335 : a1 < (l0_1.length : Int) := of_decide_eq_true AS; obtain ⟨ad335, e335, hx335_0⟩ := Kd.at_int HR0_1.out a1 p335 q335; cases e335; replace hx335_0 := (HB.out.cell (World.block_lt_of_cell? w _ hx335_0)).trans hx335_0; replace p335 := eq_true p335; replace q335 := eq_true q335; have p336 : 0 ≤ (a2 : Int) := of_decide_eq_true AS; have q336 : a2 < (l0_1.length : Int) := of_decide_eq_true AS; obtain ⟨ad336, e336, hx336_0⟩ := Kd.at_int HR0_1.out a2 p336 q336; obtain rfl : ad335 = ad336 := (by injection e336); replace hx336_0 := (HB.out.cell (World.block_lt_of_cell? w _ hx336_0)).trans hx336_0; replace p336 := eq_true p336; replace q336 := eq_true q336; have p337 : 0 ≤ (a1 : Int) := of_decide_eq_true AS; have q337 : a1 < (l0_1.length : Int) := of_decide_eq_true AS; obtain ⟨ad337, e337, hx337_0⟩ := Kd.at_int HR0_1.out a1 p337 q337; obtain rfl : ad335 = ad337 := (by injection e337); replace hx337_0 := (HB.out.cell (World.block_lt_of_cell? w _ hx337_0)).trans hx337_0; replace p337 := eq_true p337; replace q337 := eq_true q337; have p338 : 0 ≤ (a2 : Int) := of_decide_eq_true AS; have q338 : a2 < (l0_1.length : Int) := of_decide_eq_true AS; obtain ⟨ad338, e338, hx338_0⟩ := Kd.at_int HR0_1.out a2 p338 q338; obtain rfl : ad335 = ad338 := (by injection e338); replace hx338_0 := (HB.out.cell (World.block_lt_of_cell? w _ hx338_0)).trans hx338_0; replace p338 := eq_true p338; replace q338 := eq_true q338)); try go_wp2_with (first | ((with_reducible refine gate_dst (N := 3) rfl ?_); refine box_event ?hg (N := 3) ?hd (cs := #[.int .i64 a0_0, .slice A0_1 l0_1.length c0_1, .slice A0_2 l0_2.length c0_2, .slice A0_3 l0_3.length c0_3]) (t := 42) ?hr ?_; (case hd => rfl); (case hg => rfl); (case hr => first | (go_simp; done) | (go_simp; rfl)); intro gb334 hg w12 hbox hb; have n0_ := Aside0.mk (below_step BB hb); have n1_ := Aside0.mk (hbox); have n2_ := Aside0.mk ((by rw [hg]; exact (below_size BB) : w.heap.size ≤ gb334)); have n3_ := Aside0.mk ((by rw [hg]; exact (below_size BB) : w.heap.size ≤ gb334)); clear HB; have HB := n0_; have BK334 := n1_; have GW334 := n2_; have GE334 := n3_; clear n0_ n1_ n2_ n3_; clear hb hbox hg; have hcz13_0 : w12.cell? ⟨gb334, 0, none⟩ = some (.int .i64 a0_0) := (blk_cell BK334.out 0).trans rfl; have hcz13_1 : w12.cell? ⟨gb334, 1, none⟩ = some (.slice A0_1 l0_1.length c0_1) := (blk_cell BK334.out 1).trans rfl; have hcz13_2 : w12.cell? ⟨gb334, 2, none⟩ = some (.slice A0_2 l0_2.length c0_2) := (blk_cell BK334.out 2).trans rfl; have hcz13_3 : w12.cell? ⟨gb334, 3, none⟩ = some (.slice A0_3 l0_3.length c0_3) := (blk_cell BK334.out 3).trans rfl; have hfz13_0 := blk_frozen BK334.out 0; have hfz13_1 := blk_frozen BK334.out 1; have hfz13_2 := blk_frozen BK334.out 2; have hfz13_3 := blk_frozen BK334.out 3; have p335 : 0 ≤ (a1 : Int) := of_decide_eq_true AS; have q335 : a1 < (l0_1.length : Int) := of_decide_eq_true AS; obtain ⟨ad335, e335, hx335_0⟩ := Kd.at_int HR0_1.out a1 p335 q335; cases e335; replace hx335_0 := (HB.out.cell (World.block_lt_of_cell? w _ hx335_0)).trans hx335_0; replace p335 := eq_true p335; replace q335 := eq_true q335; have p336 : 0 ≤ (a2 : Int) := of_decide_eq_true AS; have q336 : a2 < (l0_1.length : Int) := of_decide_eq_true AS; obtain ⟨ad336, e336, hx336_0⟩ := Kd.at_int HR0_1.out a2 p336 q336; obtain rfl : ad335 = ad336 := (by injection e336); replace hx336_0 := (HB.out.cell (World.block_lt_of_cell? w _ hx336_0)).trans hx336_0; replace p336 := eq_true p336; replace q336 := eq_true q336; have p337 : 0 ≤ (a1 : Int) := of_decide_eq_true AS; have q337 : a1 < (l0_1.length : Int) := of_decide_eq_true AS; obtain ⟨ad337, e337, hx337_0⟩ := Kd.at_int HR0_1.out a1 p337 q337; obtain rfl : ad335 = ad337 := (by injection e337); replace hx337_0 := (HB.out.cell (World.block_lt_of_cell? w _ hx337_0)).trans hx337_0; replace p337 := eq_true p337; replace q337 := eq_true q337; have p338 : 0 ≤ (a2 : Int) := of_decide_eq_true AS; have q338 : a2 < (l0_1.length : Int) := of_decide_eq_true AS; obtain ⟨ad338, e338, hx338_0⟩ := Kd.at_int HR0_1.out a2 p338 q338; obtain rfl : ad335 = ad338 := (by injection e338); replace hx338_0 := (HB.out.cell (World.block_lt_of_cell? w _ hx338_0)).trans hx338_0; replace p338 := eq_true p338; replace q338 := eq_true q338)))
       go_ret
       exact ⟨by first | rfl | (simp [errW_none, errW_some] <;> rfl) | (simp [*, errW_none, errW_some] <;> rfl), by repeat (first | (with_reducible first | exact HB.out | apply below_alloc | apply pw_below_drewN | apply below_drew1 | refine below_set ?_ GE334.out) | exact HB.out)⟩
      ·rw [if_neg c11] at H
       have c11b0 : decide ((rd l0_1 a1) < 2) = false := decide_eq_false c11; clear c11; obtain rfl := Option.some.inj H
       go_enter Try.func52, Try.ntmps52
       go_wp2_with (first | ((with_reducible refine gate_dst (N := 3) rfl ?_); refine box_event ?hg (N := 3) ?hd (cs := #[.int .i64 a0_0, .slice A0_1 l0_1.length c0_1, .slice A0_2 l0_2.length c0_2, .slice A0_3 l0_3.length c0_3]) (t := 42) ?hr ?_; (case hd => rfl); (case hg => rfl); (case hr => first | (go_simp; done) | (go_simp; rfl)); intro gb334 hg w14 hbox hb; have n0_ := Aside0.mk (below_step BB hb); have n1_ := Aside0.mk (hbox); have n2_ := Aside0.mk ((by rw [hg]; exact (below_size BB) : w.heap.size ≤ gb334)); have n3_ := Aside0.mk ((by rw [hg]; exact (below_size BB) : w.heap.size ≤ gb334)); clear HB; have HB := n0_; have BK334 := n1_; have GW334 := n2_; have GE334 := n3_; clear n0_ n1_ n2_ n3_; clear hb hbox hg; have hcz15_0 : w14.cell? ⟨gb334, 0, none⟩ = some (.int .i64 a0_0) := (blk_cell BK334.out 0).trans rfl; have hcz15_1 : w14.cell? ⟨gb334, 1, none⟩ = some (.slice A0_1 l0_1.length c0_1) := (blk_cell BK334.out 1).trans rfl; have hcz15_2 : w14.cell? ⟨gb334, 2, none⟩ = some (.slice A0_2 l0_2.length c0_2) := (blk_cell BK334.out 2).trans rfl; have hcz15_3 : w14.cell? ⟨gb334, 3, none⟩ = some (.slice A0_3 l0_3.length c0_3) := (blk_cell BK334.out 3).trans rfl; have hfz15_0 := blk_frozen BK334.out 0; have hfz15_1 := blk_frozen BK334.out 1; have hfz15_2 := blk_frozen BK334.out 2; have hfz15_3 := blk_frozen BK334.out 3; have p335 : 0 ≤ (a1 : Int) := of_decide_eq_true AS; have q335 : a1 < (l0_1.length : Int) := of_decide_eq_true AS; obtain ⟨ad335, e335, hx335_0⟩ := Kd.at_int HR0_1.out a1 p335 q335; cases e335; replace hx335_0 := (HB.out.cell (World.block_lt_of_cell? w _ hx335_0)).trans hx335_0; replace p335 := eq_true p335; replace q335 := eq_true q335; have p336 : 0 ≤ (a2 : Int) := of_decide_eq_true AS; have q336 : a2 < (l0_1.length : Int) := of_decide_eq_true AS; obtain ⟨ad336, e336, hx336_0⟩ := Kd.at_int HR0_1.out a2 p336 q336; obtain rfl : ad335 = ad336 := (by injection e336); replace hx336_0 := (HB.out.cell (World.block_lt_of_cell? w _ hx336_0)).trans hx336_0; replace p336 := eq_true p336; replace q336 := eq_true q336; have p337 : 0 ≤ (a1 : Int) := of_decide_eq_true AS; have q337 : a1 < (l0_1.length : Int) := of_decide_eq_true AS; obtain ⟨ad337, e337, hx337_0⟩ := Kd.at_int HR0_1.out a1 p337 q337; obtain rfl : ad335 = ad337 := (by injection e337); replace hx337_0 := (HB.out.cell (World.block_lt_of_cell? w _ hx337_0)).trans hx337_0; replace p337 := eq_true p337; replace q337 := eq_true q337))
       repeat (go_quiet (first | ((with_reducible refine gate_dst (N := 3) rfl ?_); refine box_event ?hg (N := 3) ?hd (cs := #[.int .i64 a0_0, .slice A0_1 l0_1.length c0_1, .slice A0_2 l0_2.length c0_2, .slice A0_3 l0_3.length c0_3]) (t := 42) ?hr ?_; (case hd => rfl); (case hg => rfl); (case hr => first | (go_simp; done) | (go_simp; rfl)); intro gb334 hg w14 hbox hb; have n0_ := Aside0.mk (below_step BB hb); have n1_ := Aside0.mk (hbox); have n2_ := Aside0.mk ((by rw [hg]; exact (below_size BB) : w.heap.size ≤ gb334)); have n3_ := Aside0.mk ((by rw [hg]; exact (below_size BB) : w.heap.size ≤ gb334)); clear HB; have HB := n0_; have BK334 := n1_; have GW334 := n2_; have GE334 := n3_; clear n0_ n1_ n2_ n3_; clear hb hbox hg; have hcz15_0 : w14.cell? ⟨gb334, 0, none⟩ = some (.int .i64 a0_0) := (blk_cell BK334.out 0).trans rfl; have hcz15_1 : w14.cell? ⟨gb334, 1, none⟩ = some (.slice A0_1 l0_1.length c0_1) := (blk_cell BK334.out 1).trans rfl; have hcz15_2 : w14.cell? ⟨gb334, 2, none⟩ = some (.slice A0_2 l0_2.length c0_2) := (blk_cell BK334.out 2).trans rfl; have hcz15_3 : w14.cell? ⟨gb334, 3, none⟩ = some (.slice A0_3 l0_3.length c0_3) := (blk_cell BK334.out 3).trans rfl; have hfz15_0 := blk_frozen BK334.out 0; have hfz15_1 := blk_frozen BK334.out 1; have hfz15_2 := blk_frozen BK334.out 2; have hfz15_3 := blk_frozen BK334.out 3; have p335 : 0 ≤ (a1 : Int) := of_decide_eq_true AS; have q335 : a1 < (l0_1.length : Int) := of_decide_eq_true AS; obtain ⟨ad335, e335, hx335_0⟩ := Kd.at_int HR0_1.out a1 p335 q335; cases e335; replace hx335_0 := (HB.out.cell (World.block_lt_of_cell? w _ hx335_0)).trans hx335_0; replace p335 := eq_true p335; replace q335 := eq_true q335; have p336 : 0 ≤ (a2 : Int) := of_decide_eq_true AS; have q336 : a2 < (l0_1.length : Int) := of_decide_eq_true AS; obtain ⟨ad336, e336, hx336_0⟩ := Kd.at_int HR0_1.out a2 p336 q336; obtain rfl : ad335 = ad336 := (by injection e336); replace hx336_0 := (HB.out.cell (World.block_lt_of_cell? w _ hx336_0)).trans hx336_0; replace p336 := eq_true p336; replace q336 := eq_true q336; have p337 : 0 ≤ (a1 : Int) := of_decide_eq_true AS; have q337 : a1 < (l0_1.length : Int) := of_decide_eq_true AS; obtain ⟨ad337, e337, hx337_0⟩ := Kd.at_int HR0_1.out a1 p337 q337; obtain rfl : ad335 = ad337 := (by injection e337); replace hx337_0 := (HB.out.cell (World.block_lt_of_cell? w _ hx337_0)).trans hx337_0; replace p337 := eq_true p337; replace q337 := eq_true q337)); try go_wp2_with (first | ((with_reducible refine gate_dst (N := 3) rfl ?_); refine box_event ?hg (N := 3) ?hd (cs := #[.int .i64 a0_0, .slice A0_1 l0_1.length c0_1, .slice A0_2 l0_2.length c0_2, .slice A0_3 l0_3.length c0_3]) (t := 42) ?hr ?_; (case hd => rfl); (case hg => rfl); (case hr => first | (go_simp; done) | (go_simp; rfl)); intro gb334 hg w14 hbox hb; have n0_ := Aside0.mk (below_step BB hb); have n1_ := Aside0.mk (hbox); have n2_ := Aside0.mk ((by rw [hg]; exact (below_size BB) : w.heap.size ≤ gb334)); have n3_ := Aside0.mk ((by rw [hg]; exact (below_size BB) : w.heap.size ≤ gb334)); clear HB; have HB := n0_; have BK334 := n1_; have GW334 := n2_; have GE334 := n3_; clear n0_ n1_ n2_ n3_; clear hb hbox hg; have hcz15_0 : w14.cell? ⟨gb334, 0, none⟩ = some (.int .i64 a0_0) := (blk_cell BK334.out 0).trans rfl; have hcz15_1 : w14.cell? ⟨gb334, 1, none⟩ = some (.slice A0_1 l0_1.length c0_1) := (blk_cell BK334.out 1).trans rfl; have hcz15_2 : w14.cell? ⟨gb334, 2, none⟩ = some (.slice A0_2 l0_2.length c0_2) := (blk_cell BK334.out 2).trans rfl; have hcz15_3 : w14.cell? ⟨gb334, 3, none⟩ = some (.slice A0_3 l0_3.length c0_3) := (blk_cell BK334.out 3).trans rfl; have hfz15_0 := blk_frozen BK334.out 0; have hfz15_1 := blk_frozen BK334.out 1; have hfz15_2 := blk_frozen BK334.out 2; have hfz15_3 := blk_frozen BK334.out 3; have p335 : 0 ≤ (a1 : Int) := of_decide_eq_true AS; have q335 : a1 < (l0_1.length : Int) := of_decide_eq_true AS; obtain ⟨ad335, e335, hx335_0⟩ := Kd.at_int HR0_1.out a1 p335 q335; cases e335; replace hx335_0 := (HB.out.cell (World.block_lt_of_cell? w _ hx335_0)).trans hx335_0; replace p335 := eq_true p335; replace q335 := eq_true q335; have p336 : 0 ≤ (a2 : Int) := of_decide_eq_true AS; have q336 : a2 < (l0_1.length : Int) := of_decide_eq_true AS; obtain ⟨ad336, e336, hx336_0⟩ := Kd.at_int HR0_1.out a2 p336 q336; obtain rfl : ad335 = ad336 := (by injection e336); replace hx336_0 := (HB.out.cell (World.block_lt_of_cell? w _ hx336_0)).trans hx336_0; replace p336 := eq_true p336; replace q336 := eq_true q336; have p337 : 0 ≤ (a1 : Int) := of_decide_eq_true AS; have q337 : a1 < (l0_1.length : Int) := of_decide_eq_true AS; obtain ⟨ad337, e337, hx337_0⟩ := Kd.at_int HR0_1.out a1 p337 q337; obtain rfl : ad335 = ad337 := (by injection e337); replace hx337_0 := (HB.out.cell (World.block_lt_of_cell? w _ hx337_0)).trans hx337_0; replace p337 := eq_true p337; replace q337 := eq_true q337)))
       go_ret
       exact ⟨by first | rfl | (simp [errW_none, errW_some] <;> rfl) | (simp [*, errW_none, errW_some] <;> rfl), by repeat (first | (with_reducible first | exact HB.out | apply below_alloc | apply pw_below_drewN | apply below_drew1 | refine below_set ?_ GE334.out) | exact HB.out)⟩
    ·rw [if_neg c7] at H
     exact absurd H (by simp)
   ·rw [if_neg c6] at H
    exact absurd H (by simp)
  ·rw [if_neg c5] at H
   exact absurd H (by simp)
 ·rw [if_neg c4] at H
  exact absurd H (by simp)

end Go.Proofs.Ytgpplbaloajgdaa.PFnExactExitOf
