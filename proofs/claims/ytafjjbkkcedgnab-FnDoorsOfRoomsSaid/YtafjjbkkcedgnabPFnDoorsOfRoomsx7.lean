-- Written by a program of this session (wip/tools/pp.sh) out of the translation; Lean checks it.
import Derived.Test.YtafjjbkkcedgnabPFnDoorsOfRoomsx0
import Derived.Test.YtafjjbkkcedgnabPFnDoorsOfRoomsx4
import Derived.Test.YtafjjbkkcedgnabPFnDoorsOfRoomsx6
namespace Go.Proofs.Ytafjjbkkcedgnab.PFnDoorsOfRooms
open Go.RowKit Go.Proofs.YtafjjbkkcedgnabOwn Go.Proofs.YtafjjbkkcedgnabW.PrintWords Go.Proofs.YtafjjbkkcedgnabW.PrintLast Go.Proofs.YtafjjbkkcedgnabW.PrintMore
attribute [local go_sem] max2_int min2_int max_two min_two max_three min_three max_four min_four   -- for this text's walks alone
set_option linter.unusedVariables false
set_option maxHeartbeats 8000000
set_option maxRecDepth 100000
set_option linter.unusedSimpArgs false

/-! ### slices_Index_3_int_3_int: function 103 (given) -/
def ix3 (a b c : Int) : List S67 → Nat → Int
 | [], _ => -1
 | p :: r, i => if a = p.f0 ∧ b = p.f1 ∧ c = p.f2 then (i : Int) else ix3 a b c r (i + 1)
def slices_Index_3_int_3_int.f (l0 : List S67) (a b c : Int) : Option Int := some (ix3 a b c l0 0)
theorem ix3_hit {a b c : Int} {l : List S67} {i : Nat} (hi : i < l.length) (h : a = (rd_T67 l (i : Int)).f0 ∧ b = (rd_T67 l (i : Int)).f1 ∧ c = (rd_T67 l (i : Int)).f2) : ix3 a b c (l.drop i) i = (i : Int) := by
 have e : rd_T67 l (i : Int) = l[i] := by unfold rd_T67; rw [Int.toNat_natCast, List.getD_eq_getElem?_getD, List.getElem?_eq_getElem hi]; rfl
 rw [e] at h
 rw [List.drop_eq_getElem_cons hi, ix3, if_pos h]
theorem ix3_miss {a b c : Int} {l : List S67} {i : Nat} (hi : i < l.length) (h : ¬ (a = (rd_T67 l (i : Int)).f0 ∧ b = (rd_T67 l (i : Int)).f1 ∧ c = (rd_T67 l (i : Int)).f2)) : ix3 a b c (l.drop i) i = ix3 a b c (l.drop (i + 1)) (i + 1) := by
 have e : rd_T67 l (i : Int) = l[i] := by unfold rd_T67; rw [Int.toNat_natCast, List.getD_eq_getElem?_getD, List.getElem?_eq_getElem hi]; rfl
 rw [e] at h
 rw [List.drop_eq_getElem_cons hi, ix3, if_neg h]
set_option maxHeartbeats 4000000 in
set_option maxRecDepth 100000 in
theorem slices_Index_3_int_3_int.calls (A0 : Option Addr) (c0 : Nat) (l0 : List S67) (a b c : Int) (r : Int) (w : World) (hr0 : Kd.C k67 w A0 l0.length l0) (hc0 : l0.length ≤ c0) (h : slices_Index_3_int_3_int.f l0 a b c = some r) :
  Calls Try.prog 103 #[.slice A0 l0.length c0, .agg #[.int .i64 a, .int .i64 b, .int .i64 c]] w fun e w' => e = .returned (.int .i64 r) ∧ Below w.heap.size w w' := by
 have hr : ix3 a b c l0 0 = r := Option.some.inj h
 have HR := Aside0.mk hr
 have HC := Aside0.mk hr0
 have hu := Try.underlying67
 have heq_ := @arr3_eq
 have hmx : l0.length ≤ 9223372036854775807 := hr0.2.1
 have HM := Aside0.mk hmx
 clear h hr hr0 hc0 hmx
 go_enter Try.func103, Try.ntmps103
 go_wp2_with (first
  | ((with_reducible refine gate_dst (N := 3) rfl ?_); refine box_event ?hg (N := 3) ?hd (cs := #[.int .i64 a, .int .i64 b, .int .i64 c]) (t := 67) ?hr ?_; (case hd => rfl); (case hg => rfl); (case hr => exact GS); intro gb hg w1 hbox hb; have HB1 := Aside0.mk hb; have HX := Aside0.mk hbox; clear hb hbox hg))
 go_loopg [8] l0.length (fun gg v8 wr => ∃ i : Nat, v8 = .int .i64 i ∧ i ≤ l0.length ∧ l0.length - i ≤ gg ∧ Aside0 (r = ix3 a b c (l0.drop i) i) ∧ Aside0 (wr.heap[gb]? = some (.cells #[.int .i64 a, .int .i64 b, .int .i64 c] 67 (0, 0))) ∧ Aside0 (Below w.heap.size w wr))
 case atStart => exact ⟨0, rfl, Nat.zero_le _, by omega, Aside0.mk (by rw [List.drop_zero]; exact HR.out.symm), HX, HB1⟩
 case round =>
  obtain ⟨i, rfl, hi, hg, hI, hX, hB⟩ := hrel
  by_cases hlt : i < l0.length
  ·have hi0 : (0 ≤ (i : Int)) = True := eq_true (by omega)
   have hi1 : ((i : Int) < (l0.length : Int)) = True := eq_true (by omega)
   have hi2 : decide ((i : Int) < (l0.length : Int)) = true := decide_eq_true (by omega)
   have hw : wrap64 ((i : Int) + 1) = ((i + 1 : Nat) : Int) := by have := HM.out; unfold wrap64; omega
   have z0 : wr.cell? ⟨gb, 0, none⟩ = some (.int .i64 a) := (blk_cell hX.out 0).trans rfl
   have z1 : wr.cell? ⟨gb, 1, none⟩ = some (.int .i64 b) := (blk_cell hX.out 1).trans rfl
   have z2 : wr.cell? ⟨gb, 2, none⟩ = some (.int .i64 c) := (blk_cell hX.out 2).trans rfl
   obtain ⟨ad, e, x0, x1, x2⟩ := at_T67 HC.out (i : Int) (by omega) (by omega)
   cases e
   replace x0 := (hB.out.cell (World.block_lt_of_cell? w _ x0)).trans x0
   replace x1 := (hB.out.cell (World.block_lt_of_cell? w _ x1)).trans x1
   replace x2 := (hB.out.cell (World.block_lt_of_cell? w _ x2)).trans x2
   rw [Int.toNat_natCast] at x0 x1 x2
   have HG := Aside0.mk (And.intro hg hlt)
   have HW := Aside0.mk hw
   by_cases hc : a = (rd_T67 l0 (i : Int)).f0 ∧ b = (rd_T67 l0 (i : Int)).f1 ∧ c = (rd_T67 l0 (i : Int)).f2
   ·have h3 := ix3_hit hlt hc
    have H3 := Aside0.mk h3
    have q0 : (a == (rd_T67 l0 (i : Int)).f0) = true := beq_iff_eq.2 hc.1
    have q1 : (b == (rd_T67 l0 (i : Int)).f1) = true := beq_iff_eq.2 hc.2.1
    have q2 : (c == (rd_T67 l0 (i : Int)).f2) = true := beq_iff_eq.2 hc.2.2
    clear hc h3 hg hi hlt hw
    go_wp2
    repeat (go_quiet (fail); try go_wp2)
    go_ret
    exact ⟨by rw [hI.out, H3.out]; rfl, by first | exact hB.out | exact pw_below_drewN hB.out _⟩
   ·have h3 := ix3_miss hlt hc
    have H3 := Aside0.mk (hI.out.trans h3)
    have q0 : ((a == (rd_T67 l0 (i : Int)).f0) && ((b == (rd_T67 l0 (i : Int)).f1) && (c == (rd_T67 l0 (i : Int)).f2))) = false := by
     rw [Bool.eq_false_iff]
     intro z
     simp only [Bool.and_eq_true, beq_iff_eq] at z
     exact hc z
    generalize (rd_T67 l0 (i : Int)).f0 = y0 at *
    generalize (rd_T67 l0 (i : Int)).f1 = y1 at *
    generalize (rd_T67 l0 (i : Int)).f2 = y2 at *
    clear hc h3 hg hi hlt hw
    go_wp2
    repeat (go_quiet (fail); try go_wp2)
    go_roundg (l0.length - (i + 1))
    case measure => have := HG.out; omega
    case rel => exact ⟨i + 1, by first | rfl | rw [HW.out], HG.out.2, by have := HG.out; omega, H3, by first | exact hX | exact Aside0.mk (blk_drewN hX.out _), Aside0.mk (by first | exact hB.out | exact pw_below_drewN hB.out _)⟩
  ·have hi2 : decide ((i : Int) < (l0.length : Int)) = false := decide_eq_false (by omega)
   have hi3 : ((i : Int) < (l0.length : Int)) = False := eq_false (by omega)
   have hi4 : decide (i < l0.length) = false := decide_eq_false (by omega)
   have e : l0.drop i = [] := List.drop_eq_nil_of_le (by omega)
   have H3 := Aside0.mk (show r = -1 by rw [hI.out, e]; rfl)
   clear hg hi hlt e
   go_wp2
   go_ret
   exact ⟨by rw [H3.out]; rfl, hB.out⟩

/-! ### impl_border: function 74 (given) -/
def bpt (n : Int) (s : Nat) (t : Int) : Int × Int × Int := match s with
 | 0 => (n - t, t, 0)
 | 1 => (0, n - t, t)
 | _ => (t, 0, n - t)
def bval (n : Int) (all : List S67) (s t : Nat) : Int := ix3 (bpt n s t).1 (bpt n s t).2.1 (bpt n s t).2.2 all 0
/-- The border, as far as side s has been gone along t steps. -/
def bord (n : Int) (N : Nat) (all : List S67) (s t : Nat) : List Int := ((List.range s).flatMap fun s' => (List.range N).map fun j => bval n all s' j) ++ (List.range t).map fun j => bval n all s j
theorem bord_next (n : Int) (N : Nat) (all : List S67) (s t : Nat) : bord n N all s t ++ [bval n all s t] = bord n N all s (t + 1) := by
 unfold bord
 rw [List.range_succ (n := t), List.map_append, List.append_assoc]; rfl
theorem bord_side (n : Int) (N : Nat) (all : List S67) (s : Nat) : bord n N all s N = bord n N all (s + 1) 0 := by
 unfold bord
 rw [List.range_succ (n := s), List.flatMap_append, List.range_zero, List.map_nil, List.append_nil]
 simp
theorem bord_len (n : Int) (N : Nat) (all : List S67) (s t : Nat) : (bord n N all s t).length = s * N + t := by
 have : ∀ s, ((List.range s).flatMap fun s' => (List.range N).map fun j => bval n all s' j).length = s * N := fun s => by
  induction s with
  | zero => simp
  | succ s ih => rw [List.range_succ, List.flatMap_append, List.length_append, ih, Nat.add_mul]; simp
 unfold bord
 rw [List.length_append, this, List.length_map, List.length_range]
def impl_border.f (k : Nat) (a0 : Int) : Option (List Int) := (impl_points.f k a0).bind fun all => if decide (0 ≤ a0 ∧ a0 ≤ 1000) = true then some (bord a0 a0.toNat all 3 0) else none
theorem impl_border.mono : ∀ a0 k, LeO (impl_border.f k a0) (impl_border.f (k + 1) a0) := fun a0 k => LeO.bind (impl_points.mono _ _) (fun _ => LeO.refl _)
theorem border_i : (Try.prog.info? 3).map (fun i => (i.zero, i.size, i.bytes)) = some (some (.int .i64 0), 1, 8) := by kernel_rfl
theorem impl_border.calls (k : Nat) (a0 : Int) (r : List Int) (w : World) (h : impl_border.f k a0 = some r) :
  Calls Try.prog 74 #[.int .i64 a0] w fun e w' => ∃ v0_ : Value, e = .returned (v0_) ∧ Kd.R (Kd.int .i64) 3 w' w.heap.size (fun _ => True) v0_ r ∧ Below w.heap.size w w' := by
 unfold impl_border.f at h
 obtain ⟨pts, hpts, h⟩ := Option.bind_eq_some_iff.mp h
 by_cases hd : decide (0 ≤ a0 ∧ a0 ≤ 1000) = true
 ·rw [if_pos hd] at h
  obtain ⟨N, rfl⟩ := Int.eq_ofNat_of_zero_le (of_decide_eq_true hd).1
  have hN : N ≤ 1000 := by have := (of_decide_eq_true hd).2; omega
  rw [Int.toNat_natCast] at h
  have HRR := Aside0.mk (Option.some.inj h)
  have HP := Aside0.mk hpts
  have HN := Aside0.mk hN
  have HB := Aside0.mk (Below.refl w.heap.size w)
  have hu := Try.underlying67
  clear h hd hpts hN
  go_enter Try.func74, Try.ntmps74
  go_wp2_with (first
   | ((with_reducible refine gate_dst (N := 8) rfl ?_); refine Kd.R_lit (Kd.int .i64) _ 3 ?hg (N := 8) ?hd (xs := ([] : List Int)) (inner := []) (ok := fun _ => True) (okp := fun _ => True) ?hr ?hp (fun _ hk => hk) trivial (Below.refl _ _) (Nat.le_refl _) (by simp) ?_; (case hd => rfl); (case hg => rfl); (case hr => exact GS); (case hp => exact (Reps.none _ _)); intro v3 w3 ho4 hb hg_ hnew_; clear hg_ hnew_; have HO := Aside0.mk (Kd.R_lower ho4 (below_size BB)); have n1_ := Aside0.mk (below_step BB hb); clear HB; have HB := n1_; clear n1_; clear hb ho4)
   | (go_at_call 45; refine (impl_points.calls k (N : Int) pts _ HP.out).mono ?_; rintro e w5 ⟨vA, rfl, ho0, hb⟩; have n0_ := Aside0.mk (Kd.R_below (KR HO) hb); have HA := Aside0.mk (Kd.R_lower ho0 (below_size BB)); have n2_ := Aside0.mk (below_step BB hb); clear HO; clear HB; have HO := n0_; have HB := n2_; clear n0_ n2_; clear hb ho0; obtain ⟨A1, c1, e1⟩ := Kd.R_slice HA.out; subst e1))
  go_loopg [3, 11] 3 (fun gg v3 v11 wr => ∃ (s : Nat) (x : Int), v11 = .int .i64 x ∧ x = (s : Int) ∧ s ≤ 3 ∧ 3 - s ≤ gg ∧ Aside0 (Kd.R (Kd.int .i64) 3 wr w.heap.size (fun _ => True) v3 (bord N N pts s 0)) ∧ Aside0 (Kd.R k67 67 wr w.heap.size (fun _ => True) (.slice A1 pts.length c1) pts) ∧ Aside0 (Below w.heap.size w wr))
  case atStart => exact ⟨0, 0, rfl, rfl, by omega, by omega, ⟨KR HO⟩, ⟨KR HA⟩, ⟨BB⟩⟩
  case round =>
   clear HO HA HB
   obtain ⟨s, x, rfl, hx, hs, hg, HO, HA, HB⟩ := hrel
   by_cases hlt : s < 3
   ·have hx3 : decide (x < 3) = true := decide_eq_true (by omega)
    have hnx : wrap64 (x + 1) = ((s + 1 : Nat) : Int) := by unfold wrap64; omega
    have HNX := Aside0.mk hnx
    have HG := Aside0.mk (And.intro hg hlt)
    have HXX := Aside0.mk hx
    clear hg hs hlt hnx hx
    go_wp2
    go_loopg [3, 15] N (fun gg v3 v15 wi => ∃ t : Nat, v15 = .int .i64 t ∧ t ≤ N ∧ N - t ≤ gg ∧ Aside0 (Kd.R (Kd.int .i64) 3 wi w.heap.size (fun _ => True) v3 (bord N N pts s t)) ∧ Aside0 (Kd.R k67 67 wi w.heap.size (fun _ => True) (.slice A1 pts.length c1) pts) ∧ Aside0 (Below w.heap.size w wi))
    case atStart => exact ⟨0, rfl, Nat.zero_le _, Nat.le_refl _, ⟨KR HO⟩, ⟨KR HA⟩, ⟨BB⟩⟩
    case round =>
     clear HO HA HB
     obtain ⟨t, rfl, ht, hg2, HO, HA, HB⟩ := hrel
     by_cases htl : t < N
     ·have hNN := HN.out
      have hXX := HXX.out
      have hss := HG.out.2
      have ht0 : decide ((t : Int) < (N : Int)) = true := decide_eq_true (by omega)
      have ht1 : ((t : Int) < (N : Int)) = True := eq_true (by omega)
      have hw1 : wrap64 ((N : Int) - (t : Int)) = (N : Int) - (t : Int) := by unfold wrap64; omega
      have hw2 : wrap64 ((t : Int) + 1) = ((t + 1 : Nat) : Int) := by unfold wrap64; omega
      have hlen := bord_len N N pts s t
      have hmul : s * N ≤ 3 * N := Nat.mul_le_mul_right _ (by omega)
      have hlt2 : ((bord N N pts s t).length + 1) * 8 ≤ 140737488355328 := by omega
      have HL := Aside0.mk hlt2
      have HW2 := Aside0.mk hw2
      have HG2 := Aside0.mk (And.intro hg2 htl)
      have hcA := Kd.R_reads' HA.out
      have HCA := Aside0.mk hcA
      have hcase : x = 0 ∧ s = 0 ∨ x = 1 ∧ s = 1 ∨ x = 2 ∧ s = 2 := by omega
      clear hNN hXX hss hlen hmul hlt2 hw2 hg2 htl ht hcA HXX HNX HG hx3
      rcases hcase with ⟨rfl, rfl⟩ | ⟨rfl, rfl⟩ | ⟨rfl, rfl⟩
      ·go_upto_region 9 with (first
        | ((with_reducible refine gate_dst (N := 7) rfl ?_); refine box_event ?hg (N := 7) ?hd (cs := #[.int .i64 0, .int .i64 0, .int .i64 0]) (t := 67) ?hr ?_; (case hd => rfl); (case hg => rfl); (case hr => exact GS); intro gb hg w12 hbox hb; have GE := Aside0.mk (Nat.le_of_eq hg.symm); have HBX := Aside0.mk hb; have HX := Aside0.mk hbox; have z0 : w12.cell? ⟨gb, 0, none⟩ = some (.int .i64 0) := (blk_cell hbox 0).trans rfl; have z1 : w12.cell? ⟨gb, 1, none⟩ = some (.int .i64 0) := (blk_cell hbox 1).trans rfl; have z2 : w12.cell? ⟨gb, 2, none⟩ = some (.int .i64 0) := (blk_cell hbox 2).trans rfl; have f0 := blk_frozen hbox 0; have f1 := blk_frozen hbox 1; have f2 := blk_frozen hbox 2; clear hb hg hbox))
       have HX2 := Aside0.mk (blk_put (cs := #[.int .i64 0, .int .i64 0, .int .i64 0]) (blk_put (cs := #[.int .i64 0, .int .i64 0, .int .i64 0]) (blk_put (cs := #[.int .i64 0, .int .i64 0, .int .i64 0]) HX.out 0 (.int .i64 0) rfl) 1 (.int .i64 0) rfl) 2 (.int .i64 0) rfl)
       have HB2 := Aside0.mk (below_set (below_set (below_set HBX.out (j := 0) (v := .int .i64 0) GE.out) (j := 1) (v := .int .i64 0) GE.out) (j := 2) (v := .int .i64 0) GE.out)
       clear z0 z1 z2 f0 f1 f2 HX HBX
       generalize ((w12.setCell ⟨gb, 0, none⟩ (.int .i64 0)).setCell ⟨gb, 1, none⟩ (.int .i64 0)).setCell ⟨gb, 2, none⟩ (.int .i64 0) = w13 at *
       have z0 : w13.cell? ⟨gb, 0, none⟩ = some (.int .i64 0) := (blk_cell HX2.out 0).trans rfl
       have z1 : w13.cell? ⟨gb, 1, none⟩ = some (.int .i64 0) := (blk_cell HX2.out 1).trans rfl
       have z2 : w13.cell? ⟨gb, 2, none⟩ = some (.int .i64 0) := (blk_cell HX2.out 2).trans rfl
       have f0 := blk_frozen HX2.out 0
       have f1 := blk_frozen HX2.out 1
       have f2 := blk_frozen HX2.out 2
       go_upto_region 10 with (fail)
       have HX3 := Aside0.mk (blk_put (cs := #[.int .i64 ((N : Int) - (t : Int)), .int .i64 0, .int .i64 0]) (blk_put (cs := #[.int .i64 0, .int .i64 0, .int .i64 0]) HX2.out 0 (.int .i64 ((N : Int) - (t : Int))) rfl) 1 (.int .i64 (t : Int)) rfl : ((w13.setCell ⟨gb, 0, none⟩ (.int .i64 ((N : Int) - (t : Int)))).setCell ⟨gb, 1, none⟩ (.int .i64 (t : Int))).heap[gb]? = some (.cells #[.int .i64 ((N : Int) - (t : Int)), .int .i64 (t : Int), .int .i64 0] 67 (0, 0)))
       have HB3 := Aside0.mk (below_set (below_set HB2.out (j := 0) (v := (.int .i64 ((N : Int) - (t : Int)))) GE.out) (j := 1) (v := (.int .i64 (t : Int))) GE.out)
       clear z0 z1 z2 f0 f1 f2 HX2 HB2
       generalize (w13.setCell ⟨gb, 0, none⟩ (.int .i64 ((N : Int) - (t : Int)))).setCell ⟨gb, 1, none⟩ (.int .i64 (t : Int)) = w14 at *
       have z0 : w14.cell? ⟨gb, 0, none⟩ = some (.int .i64 ((N : Int) - (t : Int))) := (blk_cell HX3.out 0).trans rfl
       have z1 : w14.cell? ⟨gb, 1, none⟩ = some (.int .i64 (t : Int)) := (blk_cell HX3.out 1).trans rfl
       have z2 : w14.cell? ⟨gb, 2, none⟩ = some (.int .i64 0) := (blk_cell HX3.out 2).trans rfl
       have HIX := Aside0.mk (show Calls Try.prog 103 #[.slice A1 pts.length c1, .agg #[.int .i64 ((N : Int) - (t : Int)), .int .i64 (t : Int), .int .i64 0]] w14 fun e w' => e = .returned (.int .i64 (bval N pts 0 t)) ∧ Below w14.heap.size w14 w' from slices_Index_3_int_3_int.calls A1 c1 pts _ _ _ (bval N pts 0 t) w14 (Kd.C_below HCA.out.2.2 HB3.out) HCA.out.2.1 rfl)
       have HO3 := Aside0.mk (Kd.R_below HO.out HB3.out)
       have HA3 := Aside0.mk (Kd.R_below HA.out HB3.out)
       have HBB := Aside0.mk (below_step HB.out HB3.out)
       clear HO HA HB HB3 HX3
       go_wp2_with (first
        | (go_at_call 103; (with_reducible refine HIX.out.mono ?_); rintro e w15 ⟨rfl, hb⟩; have HO := Aside0.mk (Kd.R_below HO3.out hb); have HA := Aside0.mk (Kd.R_below HA3.out hb); have HB := Aside0.mk (below_step HBB.out hb); clear hb)
        | ((with_reducible refine gate_builtin (b := .append) (xs := #[.tmp 29, .tmp 33]) rfl ?_); at_builtin; refine Kd.R_append (Kd.int .i64) (w0 := w) w.heap.size rfl (.tmp 29) (.tmp 33) 24 3 (.int .i64 0) 8 rfl Try.underlying24 border_i rfl (by decide) (by omega) _ (bord N N pts 0 t) (bval N pts 0 t) [.int .i64 (bval N pts 0 t)] (fun _ => True) (fun _ => False) rfl rfl ?aP (fun _ hk => hk.elim) ?aF ?aO ?aB ?aS ?aL ?_; (case aP => exact rfl); (case aB => exact BB); (case aF => exact (fun _ _ => trivial)); (case aO => exact (KR HO)); (case aS => exact (below_size BB)); (case aL => exact HL.out); intro v4 w16 ho hb hg hat; have n0_ := Aside0.mk (Kd.R_over' (KR HA) (Kd.R_typed (KR HO)) (by decide) hg); have n2_ := Aside0.mk hb; have HO2 := Aside0.mk ho; clear HA HB HO; have HA := n0_; have HB := n2_; clear n0_ n2_; clear ho hb hg hat))
       go_roundg (N - (t + 1))
       case measure => have := HG2.out; omega
       case rel => exact ⟨t + 1, by first | rfl | rw [HW2.out], HG2.out.2, Nat.le_refl _, ⟨by rw [← bord_next]; exact KR HO2⟩, ⟨KR HA⟩, ⟨BB⟩⟩
      ·go_upto_region 9 with (first
        | ((with_reducible refine gate_dst (N := 7) rfl ?_); refine box_event ?hg (N := 7) ?hd (cs := #[.int .i64 0, .int .i64 0, .int .i64 0]) (t := 67) ?hr ?_; (case hd => rfl); (case hg => rfl); (case hr => exact GS); intro gb hg w12 hbox hb; have GE := Aside0.mk (Nat.le_of_eq hg.symm); have HBX := Aside0.mk hb; have HX := Aside0.mk hbox; have z0 : w12.cell? ⟨gb, 0, none⟩ = some (.int .i64 0) := (blk_cell hbox 0).trans rfl; have z1 : w12.cell? ⟨gb, 1, none⟩ = some (.int .i64 0) := (blk_cell hbox 1).trans rfl; have z2 : w12.cell? ⟨gb, 2, none⟩ = some (.int .i64 0) := (blk_cell hbox 2).trans rfl; have f0 := blk_frozen hbox 0; have f1 := blk_frozen hbox 1; have f2 := blk_frozen hbox 2; clear hb hg hbox))
       have HX2 := Aside0.mk (blk_put (cs := #[.int .i64 0, .int .i64 0, .int .i64 0]) (blk_put (cs := #[.int .i64 0, .int .i64 0, .int .i64 0]) (blk_put (cs := #[.int .i64 0, .int .i64 0, .int .i64 0]) HX.out 0 (.int .i64 0) rfl) 1 (.int .i64 0) rfl) 2 (.int .i64 0) rfl)
       have HB2 := Aside0.mk (below_set (below_set (below_set HBX.out (j := 0) (v := .int .i64 0) GE.out) (j := 1) (v := .int .i64 0) GE.out) (j := 2) (v := .int .i64 0) GE.out)
       clear z0 z1 z2 f0 f1 f2 HX HBX
       generalize ((w12.setCell ⟨gb, 0, none⟩ (.int .i64 0)).setCell ⟨gb, 1, none⟩ (.int .i64 0)).setCell ⟨gb, 2, none⟩ (.int .i64 0) = w13 at *
       have z0 : w13.cell? ⟨gb, 0, none⟩ = some (.int .i64 0) := (blk_cell HX2.out 0).trans rfl
       have z1 : w13.cell? ⟨gb, 1, none⟩ = some (.int .i64 0) := (blk_cell HX2.out 1).trans rfl
       have z2 : w13.cell? ⟨gb, 2, none⟩ = some (.int .i64 0) := (blk_cell HX2.out 2).trans rfl
       have f0 := blk_frozen HX2.out 0
       have f1 := blk_frozen HX2.out 1
       have f2 := blk_frozen HX2.out 2
       go_upto_region 10 with (fail)
       have HX3 := Aside0.mk (blk_put (cs := #[.int .i64 0, .int .i64 ((N : Int) - (t : Int)), .int .i64 0]) (blk_put (cs := #[.int .i64 0, .int .i64 0, .int .i64 0]) HX2.out 1 (.int .i64 ((N : Int) - (t : Int))) rfl) 2 (.int .i64 (t : Int)) rfl : ((w13.setCell ⟨gb, 1, none⟩ (.int .i64 ((N : Int) - (t : Int)))).setCell ⟨gb, 2, none⟩ (.int .i64 (t : Int))).heap[gb]? = some (.cells #[.int .i64 0, .int .i64 ((N : Int) - (t : Int)), .int .i64 (t : Int)] 67 (0, 0)))
       have HB3 := Aside0.mk (below_set (below_set HB2.out (j := 1) (v := (.int .i64 ((N : Int) - (t : Int)))) GE.out) (j := 2) (v := (.int .i64 (t : Int))) GE.out)
       clear z0 z1 z2 f0 f1 f2 HX2 HB2
       generalize (w13.setCell ⟨gb, 1, none⟩ (.int .i64 ((N : Int) - (t : Int)))).setCell ⟨gb, 2, none⟩ (.int .i64 (t : Int)) = w14 at *
       have z0 : w14.cell? ⟨gb, 0, none⟩ = some (.int .i64 0) := (blk_cell HX3.out 0).trans rfl
       have z1 : w14.cell? ⟨gb, 1, none⟩ = some (.int .i64 ((N : Int) - (t : Int))) := (blk_cell HX3.out 1).trans rfl
       have z2 : w14.cell? ⟨gb, 2, none⟩ = some (.int .i64 (t : Int)) := (blk_cell HX3.out 2).trans rfl
       have HIX := Aside0.mk (show Calls Try.prog 103 #[.slice A1 pts.length c1, .agg #[.int .i64 0, .int .i64 ((N : Int) - (t : Int)), .int .i64 (t : Int)]] w14 fun e w' => e = .returned (.int .i64 (bval N pts 1 t)) ∧ Below w14.heap.size w14 w' from slices_Index_3_int_3_int.calls A1 c1 pts _ _ _ (bval N pts 1 t) w14 (Kd.C_below HCA.out.2.2 HB3.out) HCA.out.2.1 rfl)
       have HO3 := Aside0.mk (Kd.R_below HO.out HB3.out)
       have HA3 := Aside0.mk (Kd.R_below HA.out HB3.out)
       have HBB := Aside0.mk (below_step HB.out HB3.out)
       clear HO HA HB HB3 HX3
       go_wp2_with (first
        | (go_at_call 103; (with_reducible refine HIX.out.mono ?_); rintro e w15 ⟨rfl, hb⟩; have HO := Aside0.mk (Kd.R_below HO3.out hb); have HA := Aside0.mk (Kd.R_below HA3.out hb); have HB := Aside0.mk (below_step HBB.out hb); clear hb)
        | ((with_reducible refine gate_builtin (b := .append) (xs := #[.tmp 29, .tmp 33]) rfl ?_); at_builtin; refine Kd.R_append (Kd.int .i64) (w0 := w) w.heap.size rfl (.tmp 29) (.tmp 33) 24 3 (.int .i64 0) 8 rfl Try.underlying24 border_i rfl (by decide) (by omega) _ (bord N N pts 1 t) (bval N pts 1 t) [.int .i64 (bval N pts 1 t)] (fun _ => True) (fun _ => False) rfl rfl ?aP (fun _ hk => hk.elim) ?aF ?aO ?aB ?aS ?aL ?_; (case aP => exact rfl); (case aB => exact BB); (case aF => exact (fun _ _ => trivial)); (case aO => exact (KR HO)); (case aS => exact (below_size BB)); (case aL => exact HL.out); intro v4 w16 ho hb hg hat; have n0_ := Aside0.mk (Kd.R_over' (KR HA) (Kd.R_typed (KR HO)) (by decide) hg); have n2_ := Aside0.mk hb; have HO2 := Aside0.mk ho; clear HA HB HO; have HA := n0_; have HB := n2_; clear n0_ n2_; clear ho hb hg hat))
       go_roundg (N - (t + 1))
       case measure => have := HG2.out; omega
       case rel => exact ⟨t + 1, by first | rfl | rw [HW2.out], HG2.out.2, Nat.le_refl _, ⟨by rw [← bord_next]; exact KR HO2⟩, ⟨KR HA⟩, ⟨BB⟩⟩
      ·go_upto_region 9 with (first
        | ((with_reducible refine gate_dst (N := 7) rfl ?_); refine box_event ?hg (N := 7) ?hd (cs := #[.int .i64 0, .int .i64 0, .int .i64 0]) (t := 67) ?hr ?_; (case hd => rfl); (case hg => rfl); (case hr => exact GS); intro gb hg w12 hbox hb; have GE := Aside0.mk (Nat.le_of_eq hg.symm); have HBX := Aside0.mk hb; have HX := Aside0.mk hbox; have z0 : w12.cell? ⟨gb, 0, none⟩ = some (.int .i64 0) := (blk_cell hbox 0).trans rfl; have z1 : w12.cell? ⟨gb, 1, none⟩ = some (.int .i64 0) := (blk_cell hbox 1).trans rfl; have z2 : w12.cell? ⟨gb, 2, none⟩ = some (.int .i64 0) := (blk_cell hbox 2).trans rfl; have f0 := blk_frozen hbox 0; have f1 := blk_frozen hbox 1; have f2 := blk_frozen hbox 2; clear hb hg hbox))
       have HX2 := Aside0.mk (blk_put (cs := #[.int .i64 0, .int .i64 0, .int .i64 0]) (blk_put (cs := #[.int .i64 0, .int .i64 0, .int .i64 0]) (blk_put (cs := #[.int .i64 0, .int .i64 0, .int .i64 0]) HX.out 0 (.int .i64 0) rfl) 1 (.int .i64 0) rfl) 2 (.int .i64 0) rfl)
       have HB2 := Aside0.mk (below_set (below_set (below_set HBX.out (j := 0) (v := .int .i64 0) GE.out) (j := 1) (v := .int .i64 0) GE.out) (j := 2) (v := .int .i64 0) GE.out)
       clear z0 z1 z2 f0 f1 f2 HX HBX
       generalize ((w12.setCell ⟨gb, 0, none⟩ (.int .i64 0)).setCell ⟨gb, 1, none⟩ (.int .i64 0)).setCell ⟨gb, 2, none⟩ (.int .i64 0) = w13 at *
       have z0 : w13.cell? ⟨gb, 0, none⟩ = some (.int .i64 0) := (blk_cell HX2.out 0).trans rfl
       have z1 : w13.cell? ⟨gb, 1, none⟩ = some (.int .i64 0) := (blk_cell HX2.out 1).trans rfl
       have z2 : w13.cell? ⟨gb, 2, none⟩ = some (.int .i64 0) := (blk_cell HX2.out 2).trans rfl
       have f0 := blk_frozen HX2.out 0
       have f1 := blk_frozen HX2.out 1
       have f2 := blk_frozen HX2.out 2
       go_upto_region 10 with (fail)
       have HX3 := Aside0.mk (blk_put (cs := #[.int .i64 0, .int .i64 0, .int .i64 ((N : Int) - (t : Int))]) (blk_put (cs := #[.int .i64 0, .int .i64 0, .int .i64 0]) HX2.out 2 (.int .i64 ((N : Int) - (t : Int))) rfl) 0 (.int .i64 (t : Int)) rfl : ((w13.setCell ⟨gb, 2, none⟩ (.int .i64 ((N : Int) - (t : Int)))).setCell ⟨gb, 0, none⟩ (.int .i64 (t : Int))).heap[gb]? = some (.cells #[.int .i64 (t : Int), .int .i64 0, .int .i64 ((N : Int) - (t : Int))] 67 (0, 0)))
       have HB3 := Aside0.mk (below_set (below_set HB2.out (j := 2) (v := (.int .i64 ((N : Int) - (t : Int)))) GE.out) (j := 0) (v := (.int .i64 (t : Int))) GE.out)
       clear z0 z1 z2 f0 f1 f2 HX2 HB2
       generalize (w13.setCell ⟨gb, 2, none⟩ (.int .i64 ((N : Int) - (t : Int)))).setCell ⟨gb, 0, none⟩ (.int .i64 (t : Int)) = w14 at *
       have z0 : w14.cell? ⟨gb, 0, none⟩ = some (.int .i64 (t : Int)) := (blk_cell HX3.out 0).trans rfl
       have z1 : w14.cell? ⟨gb, 1, none⟩ = some (.int .i64 0) := (blk_cell HX3.out 1).trans rfl
       have z2 : w14.cell? ⟨gb, 2, none⟩ = some (.int .i64 ((N : Int) - (t : Int))) := (blk_cell HX3.out 2).trans rfl
       have HIX := Aside0.mk (show Calls Try.prog 103 #[.slice A1 pts.length c1, .agg #[.int .i64 (t : Int), .int .i64 0, .int .i64 ((N : Int) - (t : Int))]] w14 fun e w' => e = .returned (.int .i64 (bval N pts 2 t)) ∧ Below w14.heap.size w14 w' from slices_Index_3_int_3_int.calls A1 c1 pts _ _ _ (bval N pts 2 t) w14 (Kd.C_below HCA.out.2.2 HB3.out) HCA.out.2.1 rfl)
       have HO3 := Aside0.mk (Kd.R_below HO.out HB3.out)
       have HA3 := Aside0.mk (Kd.R_below HA.out HB3.out)
       have HBB := Aside0.mk (below_step HB.out HB3.out)
       clear HO HA HB HB3 HX3
       go_wp2_with (first
        | (go_at_call 103; (with_reducible refine HIX.out.mono ?_); rintro e w15 ⟨rfl, hb⟩; have HO := Aside0.mk (Kd.R_below HO3.out hb); have HA := Aside0.mk (Kd.R_below HA3.out hb); have HB := Aside0.mk (below_step HBB.out hb); clear hb)
        | ((with_reducible refine gate_builtin (b := .append) (xs := #[.tmp 29, .tmp 33]) rfl ?_); at_builtin; refine Kd.R_append (Kd.int .i64) (w0 := w) w.heap.size rfl (.tmp 29) (.tmp 33) 24 3 (.int .i64 0) 8 rfl Try.underlying24 border_i rfl (by decide) (by omega) _ (bord N N pts 2 t) (bval N pts 2 t) [.int .i64 (bval N pts 2 t)] (fun _ => True) (fun _ => False) rfl rfl ?aP (fun _ hk => hk.elim) ?aF ?aO ?aB ?aS ?aL ?_; (case aP => exact rfl); (case aB => exact BB); (case aF => exact (fun _ _ => trivial)); (case aO => exact (KR HO)); (case aS => exact (below_size BB)); (case aL => exact HL.out); intro v4 w16 ho hb hg hat; have n0_ := Aside0.mk (Kd.R_over' (KR HA) (Kd.R_typed (KR HO)) (by decide) hg); have n2_ := Aside0.mk hb; have HO2 := Aside0.mk ho; clear HA HB HO; have HA := n0_; have HB := n2_; clear n0_ n2_; clear ho hb hg hat))
       go_roundg (N - (t + 1))
       case measure => have := HG2.out; omega
       case rel => exact ⟨t + 1, by first | rfl | rw [HW2.out], HG2.out.2, Nat.le_refl _, ⟨by rw [← bord_next]; exact KR HO2⟩, ⟨KR HA⟩, ⟨BB⟩⟩
     ·have htN : t = N := by omega
      subst htN
      have ht0 : decide ((t : Int) < (t : Int)) = false := decide_eq_false (by omega)
      have ht1 : ((t : Int) < (t : Int)) = False := eq_false (by omega)
      have HO2 := Aside0.mk (show Kd.R (Kd.int .i64) 3 wr w.heap.size (fun _ => True) _ (bord t t pts (s + 1) 0) from (bord_side t t pts s) ▸ HO.out)
      clear ht hg2 htl
      go_wp2
      go_roundg (3 - (s + 1))
      case measure => have := HG.out; omega
      case rel => exact ⟨s + 1, _, rfl, HNX.out, by have := HG.out; omega, Nat.le_refl _, ⟨KR HO2⟩, ⟨KR HA⟩, ⟨BB⟩⟩
   ·have hs3 : s = 3 := by omega
    subst hs3
    have hx3 : decide (x < 3) = false := decide_eq_false (by omega)
    clear hg hs hlt hx
    go_wp2
    go_ret
    exact ⟨_, rfl, by rw [← HRR.out]; exact KR HO, BB⟩
 ·rw [if_neg hd] at h
  cases h

/-! ### impl_houseOf: function 36 -/
def impl_houseOf.f (k : Nat) (a0 : Int) (l1 : List Int) : Option (Int × List Int × (List (List Int)) × List Int × Bool) := (impl_areLabels.f k a0 l1).bind fun t312 => (if t312 = true then ((impl_cells.f k a0).bind fun t313 => ((impl_border.f k a0).bind fun t316 => (some (a0, l1, t313, t316, true)))) else (some (0, ([] : List Int), ([] : List (List Int)), ([] : List Int), false)))
theorem impl_houseOf.mono : ∀ a0 a1 k, LeO (impl_houseOf.f k a0 a1) (impl_houseOf.f (k + 1) a0 a1) := by
 intro a0 a1 k
 unfold impl_houseOf.f
 repeat' first
   | with_reducible first | exact impl_areLabels.mono _ _ _ | exact impl_border.mono _ _ | exact impl_cells.mono _ _ | exact LeO.refl _ | exact LeO.none _ | refine LeO.ite ?_ ?_ | refine LeO.bind ?_ (fun _ => ?_)
   | exact LeO.none _ | refine LeO.ite ?_ ?_ | refine LeO.bind ?_ (fun _ => ?_)
theorem impl_houseOf.calls (k : Nat) (a0 : Int) (P1_ : Nat → Prop) (A1 : Option Addr) (c1 : Nat) (l1 : List Int) (r1 : Int) (r2 : List Int) (r3 : List (List Int)) (r4 : List Int) (r5 : Bool) (w : World) (hs1 : Kd.V (Kd.int .i64) 3 w w.heap.size (fun k_ => P1_ k_) (.slice A1 l1.length c1) l1) (h : impl_houseOf.f k a0 l1 = some (r1, r2, r3, r4, r5)) :
  Calls Try.prog 36 #[.int .i64 a0, .slice A1 l1.length c1] w fun e w' => ∃ v1_ v2_ v3_ : Value, e = .returned (.tuple #[.agg #[.int .i64 r1, v1_, v2_, v3_], .bool r5]) ∧ Kd.V (Kd.int .i64) 3 w' w.heap.size (fun k_ => (P1_ k_ ∨ w.heap.size ≤ k_) ∧ some k_ ≠ (v2_ : Value).ownBlock ∧ some k_ ≠ (v3_ : Value).ownBlock) v1_ r2 ∧ Kd.S (Kd.slice 3 (Kd.int .i64)) 24 w' w.heap.size (fun k_ => (w.heap.size ≤ k_) ∧ some k_ ≠ (v3_ : Value).ownBlock) v2_ r3 ∧ Kd.R (Kd.int .i64) 3 w' w.heap.size (fun k_ => (w.heap.size ≤ k_)) v3_ r4 ∧ Below w.heap.size w w' := by
 have hu55 := Try.underlying55
 have HO1 := Aside0.mk (show Kd.V (Kd.int .i64) 3 w w.heap.size (fun k_ => (P1_ k_ ∨ w.heap.size ≤ k_)) (.slice A1 l1.length c1) l1 from Kd.V_mono hs1 (fun k_ hk => .inl hk))
 have HB := Aside0.mk (Below.refl w.heap.size w)
 have H : ((impl_areLabels.f k a0 l1).bind fun t312 => (if t312 = true then ((impl_cells.f k a0).bind fun t313 => ((impl_border.f k a0).bind fun t316 => (some (a0, l1, t313, t316, true)))) else (some (0, ([] : List Int), ([] : List (List Int)), ([] : List Int), false)))) = some (r1, r2, r3, r4, r5) := h
 clear h
 obtain ⟨t312, A30, H⟩ := Option.bind_eq_some_iff.mp H
 have A3 := Aside0.mk A30
 clear A30
 by_cases c4 : t312 = true
 ·subst c4
  replace H := IP H
  obtain ⟨t313, A50, H⟩ := Option.bind_eq_some_iff.mp H
  have A5 := Aside0.mk A50
  clear A50
  obtain ⟨t316, A60, H⟩ := Option.bind_eq_some_iff.mp H
  have A6 := Aside0.mk A60
  clear A60
  simp only [Option.some.injEq, Prod.mk.injEq] at H
  obtain ⟨rfl, rfl, rfl, rfl, rfl⟩ := H
  go_enter Try.func36, Try.ntmps36
  go_wp2_with (first | ((with_reducible refine gate_dst (N := 4) rfl ?_); refine box_event ?hg (N := 4) ?hd (cs := #[.int .i64 0, .slice none 0 0, .slice none 0 0, .slice none 0 0]) (t := 55) ?hr ?_; (case hd => rfl); (case hg => rfl); (case hr => exact GS); intro gb311 hg w7 hbox hb; have n0_ := Aside0.mk (Kd.V_below (Kd.V_elderB (by (with_reducible repeat (first | apply Kd.V_alloc | apply Kd.V_drewN | apply Kd.V_drew)); exact HO1.out) gb311 (Nat.le_of_eq hg.symm)) hb); have n1_ := Aside0.mk (below_step BB hb); have n2_ := Aside0.mk (hbox); have n3_ := Aside0.mk ((by rw [hg]; exact (below_size BB) : w.heap.size ≤ gb311)); have n4_ := Aside0.mk ((by rw [hg]; exact (below_size BB) : w.heap.size ≤ gb311)); clear HO1; clear HB; have HO1 := n0_; have HB := n1_; have BK311 := n2_; have GW311 := n3_; have GE311 := n4_; clear n0_ n1_ n2_ n3_ n4_; clear hb hbox hg) | ((with_reducible refine gate_callee (f := 69) rfl ?_); refine goesL_ (some 8) rfl rfl Try.func69 (by kernel_rfl) rfl #[.int .i64 a0, .slice A1 l1.length c1] rfl TA ?_; (with_reducible refine (impl_areLabels.calls k a0 _ _ l1 true _ ?side1 ?side2 A3.out).mono ?_); (case side1 => exact CW (Kd.V_reads' HO1.out).2.2); (case side2 => exact (Kd.V_reads' HO1.out).2.1); rintro e w' ⟨rfl, ⟨nd, rfl⟩⟩; refine ⟨_, rfl, ?_⟩; (try (rw [drewN_self w7]; generalize hq_ : World.drewN w7 _ = w7; have n0_ : Aside0 (Kd.V (Kd.int .i64) 3 w7 w.heap.size (fun k_ => (P1_ k_ ∨ w.heap.size ≤ k_) ∧ k_ ≠ gb311) (.slice A1 l1.length c1) l1) := ⟨by rw [← hq_]; exact (by (with_reducible repeat (first | apply Kd.V_alloc | apply Kd.V_drewN | apply Kd.V_drew)); exact HO1.out)⟩; have n1_ : Aside0 (w7.heap[gb311]? = some (.cells #[.int .i64 0, .slice none 0 0, .slice none 0 0, .slice none 0 0] 55 (0, 0))) := ⟨by rw [← hq_]; exact (BW BK311)⟩; have n2_ : Aside0 (Below w.heap.size w w7) := ⟨by rw [← hq_]; exact (AGE GE311)⟩; clear HO1 BK311 HB hq_; have HO1 := n0_; have BK311 := n1_; have HB := n2_; clear n0_ n1_ n2_))) | ((with_reducible refine gate_callee (f := 73) rfl ?_); refine goesL_ (some 14) rfl rfl Try.func73 (by kernel_rfl) rfl #[.int .i64 a0] rfl TA ?_; (with_reducible refine (impl_cells.calls k a0 t313 _ A5.out).mono ?_); rintro e w8 ⟨v314, rfl, ho0, hb⟩; refine ⟨_, rfl, ?_⟩; have n0_ := Aside0.mk (Kd.V_elder' (by (with_reducible repeat (first | apply Kd.V_alloc | apply Kd.V_drewN | apply Kd.V_drew)); exact HO1.out) (Kd.S_base ho0) hb); have n1_ := Aside0.mk (Kd.S_lower (Kd.S_newM (M := fun k_ => (w.heap.size ≤ k_)) ho0 (below_size (AGE GE311)) (fun k_ h_ => h_)) (below_size (AGE GE311))); have n2_ := Aside0.mk (blk_below (g := gb311) (o := .cells #[.int .i64 0, .slice none 0 0, .slice none 0 0, .slice none 0 0] 55 (0, 0)) (BW BK311) hb); have n3_ := Aside0.mk (below_step (AGE GE311) hb); clear HO1; clear BK311; clear HB; have HO1 := n0_; have HO315 := n1_; have BK311 := n2_; have HB := n3_; clear n0_ n1_ n2_ n3_; (try clear hb); (try clear hb2); (try clear hk); (try clear hi); (try clear ho0)) | ((with_reducible refine gate_callee (f := 74) rfl ?_); refine goesL_ (some 16) rfl rfl Try.func74 (by kernel_rfl) rfl #[.int .i64 a0] rfl TA ?_; (with_reducible refine (impl_border.calls k a0 t316 _ A6.out).mono ?_); rintro e w9 ⟨v317, rfl, ho0, hb⟩; refine ⟨_, rfl, ?_⟩; have n0_ := Aside0.mk (Kd.V_elder' (by (with_reducible repeat (first | apply Kd.V_alloc | apply Kd.V_drewN | apply Kd.V_drew)); exact HO1.out) (Kd.R_base ho0) hb); have n1_ := Aside0.mk (Kd.S_elder' (KS HO315) (Kd.R_base ho0) hb); have n2_ := Aside0.mk (Kd.R_lower (Kd.R_newM (M := fun k_ => (w.heap.size ≤ k_)) ho0 (below_size (AGE GE311)) (fun k_ h_ => h_)) (below_size (AGE GE311))); have n3_ := Aside0.mk (blk_below (g := gb311) (o := .cells #[.int .i64 0, .slice none 0 0, .slice none 0 0, .slice none 0 0] 55 (0, 0)) (BW BK311) hb); have n4_ := Aside0.mk (below_step (AGE GE311) hb); clear HO1; clear HO315; clear BK311; clear HB; have HO1 := n0_; have HO315 := n1_; have HO318 := n2_; have BK311 := n3_; have HB := n4_; clear n0_ n1_ n2_ n3_ n4_; (try clear hb); (try clear hb2); (try clear hk); (try clear hi); (try clear ho0); obtain ⟨Ao10, co10, eo10⟩ := Kd.R_slice HO318.out; subst eo10; obtain ⟨Ao11, co11, eo11⟩ := Kd.S_slice HO315.out; subst eo11; have hcz12_0 : w9.cell? ⟨gb311, 0, none⟩ = some (.int .i64 0) := (blk_cell BK311.out 0).trans rfl; have hcz12_1 : w9.cell? ⟨gb311, 1, none⟩ = some (.slice none 0 0) := (blk_cell BK311.out 1).trans rfl; have hcz12_2 : w9.cell? ⟨gb311, 2, none⟩ = some (.slice none 0 0) := (blk_cell BK311.out 2).trans rfl; have hcz12_3 : w9.cell? ⟨gb311, 3, none⟩ = some (.slice none 0 0) := (blk_cell BK311.out 3).trans rfl; have hfz12_0 := blk_frozen BK311.out 0; have hfz12_1 := blk_frozen BK311.out 1; have hfz12_2 := blk_frozen BK311.out 2; have hfz12_3 := blk_frozen BK311.out 3))
  refine bodyPost_ret (results_ct rfl _ _ gb311 55 #[.int .i64 a0, .slice A1 l1.length c1, .slice Ao11 t313.length co11, .slice Ao10 t316.length co10] (0, 0) _ rfl (by (with_reducible repeat (first | refine blk_drewN ?_ _ | refine blk_drew ?_ | refine blk_alloc ?_ _)); refine blk_put (cs := #[.int .i64 a0, .slice A1 l1.length c1, .slice Ao11 t313.length co11, .slice none 0 0]) ?_ 3 _ rfl; (with_reducible repeat (first | refine blk_drewN ?_ _ | refine blk_drew ?_ | refine blk_alloc ?_ _)); refine blk_put (cs := #[.int .i64 a0, .slice A1 l1.length c1, .slice none 0 0, .slice none 0 0]) ?_ 2 _ rfl; (with_reducible repeat (first | refine blk_drewN ?_ _ | refine blk_drew ?_ | refine blk_alloc ?_ _)); refine blk_put (cs := #[.int .i64 a0, .slice none 0 0, .slice none 0 0, .slice none 0 0]) ?_ 1 _ rfl; (with_reducible repeat (first | refine blk_drewN ?_ _ | refine blk_drew ?_ | refine blk_alloc ?_ _)); refine blk_put (cs := #[.int .i64 0, .slice none 0 0, .slice none 0 0, .slice none 0 0]) ?_ 0 _ rfl; (with_reducible repeat (first | refine blk_drewN ?_ _ | refine blk_drew ?_ | refine blk_alloc ?_ _)); exact BK311.out) Try.underlying55 rfl (by kernel_rfl)) rfl ?_
  exact ⟨_, _, _, RE, by (with_reducible repeat (first | apply Kd.V_alloc | apply Kd.V_drewN | apply Kd.V_drew)); exact Kd.V_mono (Kd.V_far (p := ⟨gb311, 3, none⟩) (Kd.V_far (p := ⟨gb311, 2, none⟩) (Kd.V_far (p := ⟨gb311, 1, none⟩) (Kd.V_far (p := ⟨gb311, 0, none⟩) (Kd.V_mono HO1.out (fun k_ hk => (⟨hk, hk.1.1.2⟩ : _ ∧ k_ ≠ gb311))) (fun _ hk => hk.2) (.int .i64 a0)) (fun _ hk => hk.2) (.slice A1 l1.length c1)) (fun _ hk => hk.2) (.slice Ao11 t313.length co11)) (fun _ hk => hk.2) (.slice Ao10 t316.length co10)) (fun _ hk => ⟨hk.1.1.1.1, ⟨hk.1.1.2, hk.1.2⟩⟩), by (with_reducible repeat (first | apply Kd.S_alloc | apply Kd.S_drewN | apply Kd.S_drew)); exact Kd.S_mono (Kd.S_far (p := ⟨gb311, 3, none⟩) (Kd.S_far (p := ⟨gb311, 2, none⟩) (Kd.S_far (p := ⟨gb311, 1, none⟩) (Kd.S_far (p := ⟨gb311, 0, none⟩) (Kd.S_types HO315.out BK311.out (by decide)) (fun _ hk => hk.2) (.int .i64 a0)) (fun _ hk => hk.2) (.slice A1 l1.length c1)) (fun _ hk => hk.2) (.slice Ao11 t313.length co11)) (fun _ hk => hk.2) (.slice Ao10 t316.length co10)) (fun _ hk => ⟨hk.1.1.1, hk.1.2⟩), by (with_reducible repeat (first | apply Kd.R_alloc | apply Kd.R_drewN | apply Kd.R_drew)); exact Kd.R_mono (Kd.R_far (p := ⟨gb311, 3, none⟩) (Kd.R_far (p := ⟨gb311, 2, none⟩) (Kd.R_far (p := ⟨gb311, 1, none⟩) (Kd.R_far (p := ⟨gb311, 0, none⟩) (Kd.R_types HO318.out BK311.out (by decide)) (fun _ hk => hk.2) (.int .i64 a0)) (fun _ hk => hk.2) (.slice A1 l1.length c1)) (fun _ hk => hk.2) (.slice Ao11 t313.length co11)) (fun _ hk => hk.2) (.slice Ao10 t316.length co10)) (fun _ hk => hk.1.1), AGE GE311⟩
 ·replace c4 := Bool.eq_false_iff.mpr c4
  subst c4
  replace H := IN H
  simp only [Option.some.injEq, Prod.mk.injEq] at H
  obtain ⟨rfl, rfl, rfl, rfl, rfl⟩ := H
  go_enter Try.func36, Try.ntmps36
  go_wp2_with (first | ((with_reducible refine gate_dst (N := 4) rfl ?_); refine box_event ?hg (N := 4) ?hd (cs := #[.int .i64 0, .slice none 0 0, .slice none 0 0, .slice none 0 0]) (t := 55) ?hr ?_; (case hd => rfl); (case hg => rfl); (case hr => exact GS); intro gb311 hg w13 hbox hb; have n0_ := Aside0.mk (Kd.V_below (Kd.V_elderB (by (with_reducible repeat (first | apply Kd.V_alloc | apply Kd.V_drewN | apply Kd.V_drew)); exact HO1.out) gb311 (Nat.le_of_eq hg.symm)) hb); have n1_ := Aside0.mk (below_step BB hb); have n2_ := Aside0.mk (hbox); have n3_ := Aside0.mk ((by rw [hg]; exact (below_size BB) : w.heap.size ≤ gb311)); have n4_ := Aside0.mk ((by rw [hg]; exact (below_size BB) : w.heap.size ≤ gb311)); clear HO1; clear HB; have HO1 := n0_; have HB := n1_; have BK311 := n2_; have GW311 := n3_; have GE311 := n4_; clear n0_ n1_ n2_ n3_ n4_; clear hb hbox hg) | ((with_reducible refine gate_callee (f := 69) rfl ?_); refine goesL_ (some 8) rfl rfl Try.func69 (by kernel_rfl) rfl #[.int .i64 a0, .slice A1 l1.length c1] rfl TA ?_; (with_reducible refine (impl_areLabels.calls k a0 _ _ l1 false _ ?side1 ?side2 A3.out).mono ?_); (case side1 => exact CW (Kd.V_reads' HO1.out).2.2); (case side2 => exact (Kd.V_reads' HO1.out).2.1); rintro e w' ⟨rfl, ⟨nd, rfl⟩⟩; refine ⟨_, rfl, ?_⟩; (try (rw [drewN_self w13]; generalize hq_ : World.drewN w13 _ = w13; have n0_ : Aside0 (Kd.V (Kd.int .i64) 3 w13 w.heap.size (fun k_ => (P1_ k_ ∨ w.heap.size ≤ k_) ∧ k_ ≠ gb311) (.slice A1 l1.length c1) l1) := ⟨by rw [← hq_]; exact (by (with_reducible repeat (first | apply Kd.V_alloc | apply Kd.V_drewN | apply Kd.V_drew)); exact HO1.out)⟩; have n1_ : Aside0 (w13.heap[gb311]? = some (.cells #[.int .i64 0, .slice none 0 0, .slice none 0 0, .slice none 0 0] 55 (0, 0))) := ⟨by rw [← hq_]; exact (BW BK311)⟩; have n2_ : Aside0 (Below w.heap.size w w13) := ⟨by rw [← hq_]; exact (AGE GE311)⟩; clear HO1 BK311 HB hq_; have HO1 := n0_; have BK311 := n1_; have HB := n2_; clear n0_ n1_ n2_)); have hcz14_0 : w13.cell? ⟨gb311, 0, none⟩ = some (.int .i64 0) := (blk_cell BK311.out 0).trans rfl; have hcz14_1 : w13.cell? ⟨gb311, 1, none⟩ = some (.slice none 0 0) := (blk_cell BK311.out 1).trans rfl; have hcz14_2 : w13.cell? ⟨gb311, 2, none⟩ = some (.slice none 0 0) := (blk_cell BK311.out 2).trans rfl; have hcz14_3 : w13.cell? ⟨gb311, 3, none⟩ = some (.slice none 0 0) := (blk_cell BK311.out 3).trans rfl; have hfz14_0 := blk_frozen BK311.out 0; have hfz14_1 := blk_frozen BK311.out 1; have hfz14_2 := blk_frozen BK311.out 2; have hfz14_3 := blk_frozen BK311.out 3))
  refine bodyPost_ret (results_ct rfl _ _ gb311 55 #[.int .i64 0, .slice none 0 0, .slice none 0 0, .slice none 0 0] (0, 0) _ rfl (by (with_reducible repeat (first | refine blk_drewN ?_ _ | refine blk_drew ?_ | refine blk_alloc ?_ _)); refine blk_put (cs := #[.int .i64 0, .slice none 0 0, .slice none 0 0, .slice none 0 0]) ?_ 3 _ rfl; (with_reducible repeat (first | refine blk_drewN ?_ _ | refine blk_drew ?_ | refine blk_alloc ?_ _)); refine blk_put (cs := #[.int .i64 0, .slice none 0 0, .slice none 0 0, .slice none 0 0]) ?_ 2 _ rfl; (with_reducible repeat (first | refine blk_drewN ?_ _ | refine blk_drew ?_ | refine blk_alloc ?_ _)); refine blk_put (cs := #[.int .i64 0, .slice none 0 0, .slice none 0 0, .slice none 0 0]) ?_ 1 _ rfl; (with_reducible repeat (first | refine blk_drewN ?_ _ | refine blk_drew ?_ | refine blk_alloc ?_ _)); refine blk_put (cs := #[.int .i64 0, .slice none 0 0, .slice none 0 0, .slice none 0 0]) ?_ 0 _ rfl; (with_reducible repeat (first | refine blk_drewN ?_ _ | refine blk_drew ?_ | refine blk_alloc ?_ _)); exact BK311.out) Try.underlying55 rfl (by kernel_rfl)) rfl ?_
  exact ⟨_, _, _, RE, Kd.V_nil _ _ _ _ _, by first | exact Kd.S_nil _ _ _ _ _ | exact Kd.N_nil _ _ _ _ _ | exact Kd.V_nil _ _ _ _ _ | exact Kd.Q_nil _ _ _ _ _ | exact Kd.R_nil _ _ _ _ _, by first | exact Kd.R_nil _ _ _ _ _ | exact Kd.N_nil _ _ _ _ _ | exact Kd.V_nil _ _ _ _ _ | exact Kd.Q_nil _ _ _ _ _ | exact Kd.S_nil _ _ _ _ _, AGE GE311⟩

/-! ### impl_isCell: function 37 -/
def impl_isCell.f (a0 : Int) (a1 : Int) : Option (Bool) := (impl_isSide.f a0).bind fun t319 => (if t319 = true then ((impl_in.f a1 0 (wrap64 ((wrap64 (a0 * a0)) - 1))).bind fun t320 => (some t320)) else (some false))
theorem impl_isCell.calls (a0 : Int) (a1 : Int) (r : Bool) (w : World) (h : impl_isCell.f a0 a1 = some r) :
  Calls Try.prog 37 #[.int .i64 a0, .int .i64 a1] w fun e w' => e = .returned (.bool r) ∧ Drawn0 w w' := by
 have H : ((impl_isSide.f a0).bind fun t319 => (if t319 = true then ((impl_in.f a1 0 (wrap64 ((wrap64 (a0 * a0)) - 1))).bind fun t320 => (some t320)) else (some false))) = some r := h
 clear h
 obtain ⟨t319, A30, H⟩ := Option.bind_eq_some_iff.mp H
 have A3 := Aside0.mk A30
 clear A30
 by_cases c4 : t319 = true
 ·subst c4
  replace H := IP H
  obtain ⟨t320, A50, H⟩ := Option.bind_eq_some_iff.mp H
  have A5 := Aside0.mk A50
  clear A50
  obtain rfl := Option.some.inj H
  go_enter Try.func37, Try.ntmps37
  go_wp2_with (first | ((with_reducible refine gate_callee (f := 75) rfl ?_); refine goesL_ (some 6) rfl rfl Try.func75 (by kernel_rfl) rfl #[.int .i64 a0] rfl TA ?_; (with_reducible refine (impl_isSide.calls a0 true _ A3.out).mono ?_); rintro e w' ⟨rfl, ⟨nd, rfl⟩⟩; refine ⟨_, rfl, ?_⟩) | (go_at_call 76; (with_reducible refine (impl_in.calls a1 0 (wrap64 ((wrap64 (a0 * a0)) - 1)) t320 _ A5.out).mono ?_); rintro e w' ⟨rfl, ⟨nd, rfl⟩⟩))
  go_ret
  exact ⟨RF, DR⟩
 ·replace c4 := Bool.eq_false_iff.mpr c4
  subst c4
  replace H := IN H
  obtain rfl := Option.some.inj H
  go_enter Try.func37, Try.ntmps37
  go_wp2_with (first | ((with_reducible refine gate_callee (f := 75) rfl ?_); refine goesL_ (some 6) rfl rfl Try.func75 (by kernel_rfl) rfl #[.int .i64 a0] rfl TA ?_; (with_reducible refine (impl_isSide.calls a0 false _ A3.out).mono ?_); rintro e w' ⟨rfl, ⟨nd, rfl⟩⟩; refine ⟨_, rfl, ?_⟩))
  go_ret
  exact ⟨RF, DR⟩

/-! ### impl_house_isDoor: function 47 -/
def impl_house_isDoor.f (a0_0 : Int) (l0_1 : List Int) (l0_2 : List (List Int)) (l0_3 : List Int) (a1 : Int) (a2 : Int) : Option (Bool) := if 0 ≤ a1 then (if a1 < (l0_1.length : Int) then (if 0 ≤ a2 then (if a2 < (l0_1.length : Int) then (if (rd l0_1 a1) = (rd l0_1 a2) then (some false) else (if (rd l0_1 a1) < 2 then (some (decide ((rd l0_1 a2) < 2))) else (some false))) else (none)) else (none)) else (none)) else (none)
theorem impl_house_isDoor.calls (a0_0 : Int) (A0_1 : Option Addr) (c0_1 : Nat) (l0_1 : List Int) (A0_2 : Option Addr) (c0_2 : Nat) (l0_2 : List (List Int)) (A0_3 : Option Addr) (c0_3 : Nat) (l0_3 : List Int) (a1 : Int) (a2 : Int) (r : Bool) (w : World) (hr0_1 : Kd.C (Kd.int .i64) w A0_1 l0_1.length l0_1) (hc0_1 : l0_1.length ≤ c0_1) (hr0_2 : Kd.C (Kd.slice 3 (Kd.int .i64)) w A0_2 l0_2.length l0_2) (hc0_2 : l0_2.length ≤ c0_2) (hr0_3 : Kd.C (Kd.int .i64) w A0_3 l0_3.length l0_3) (hc0_3 : l0_3.length ≤ c0_3) (h : impl_house_isDoor.f a0_0 l0_1 l0_2 l0_3 a1 a2 = some r) :
  Calls Try.prog 47 #[.agg #[.int .i64 a0_0, .slice A0_1 l0_1.length c0_1, .slice A0_2 l0_2.length c0_2, .slice A0_3 l0_3.length c0_3], .int .i64 a1, .int .i64 a2] w fun e w' => e = .returned (.bool r) ∧ Below w.heap.size w w' := by
 have hu55 := Try.underlying55
 have HR0_1 := Aside0.mk hr0_1
 have HC0_1 := Aside0.mk hc0_1
 clear hr0_1 hc0_1
 have HR0_2 := Aside0.mk hr0_2
 have HC0_2 := Aside0.mk hc0_2
 clear hr0_2 hc0_2
 have HR0_3 := Aside0.mk hr0_3
 have HC0_3 := Aside0.mk hc0_3
 clear hr0_3 hc0_3
 have HB := Aside0.mk (Below.refl w.heap.size w)
 have H : (if 0 ≤ a1 then (if a1 < (l0_1.length : Int) then (if 0 ≤ a2 then (if a2 < (l0_1.length : Int) then (if (rd l0_1 a1) = (rd l0_1 a2) then (some false) else (if (rd l0_1 a1) < 2 then (some (decide ((rd l0_1 a2) < 2))) else (some false))) else (none)) else (none)) else (none)) else (none)) = some r := h
 clear h
 by_cases c4 : 0 ≤ a1
 ·rw [if_pos c4] at H
  have c4b0 : decide (0 ≤ a1) = true := decide_eq_true c4
  clear c4
  by_cases c5 : a1 < (l0_1.length : Int)
  ·rw [if_pos c5] at H
   have c5b0 : decide (a1 < (l0_1.length : Int)) = true := decide_eq_true c5
   clear c5
   by_cases c6 : 0 ≤ a2
   ·rw [if_pos c6] at H
    have c6b0 : decide (0 ≤ a2) = true := decide_eq_true c6
    clear c6
    by_cases c7 : a2 < (l0_1.length : Int)
    ·rw [if_pos c7] at H
     have c7b0 : decide (a2 < (l0_1.length : Int)) = true := decide_eq_true c7
     clear c7
     by_cases c8 : (rd l0_1 a1) = (rd l0_1 a2)
     ·rw [if_pos c8] at H
      have c8b0 : ((rd l0_1 a1) == (rd l0_1 a2)) = true := beq_iff_eq.mpr c8
      have c8b1 : ((rd l0_1 a1) != (rd l0_1 a2)) = false := bne_eq_false_iff_eq.mpr c8
      clear c8
      obtain rfl := Option.some.inj H
      go_enter Try.func47, Try.ntmps47
      go_wp2_with (first | ((with_reducible refine gate_dst (N := 3) rfl ?_); refine box_event ?hg (N := 3) ?hd (cs := #[.int .i64 a0_0, .slice A0_1 l0_1.length c0_1, .slice A0_2 l0_2.length c0_2, .slice A0_3 l0_3.length c0_3]) (t := 55) ?hr ?_; (case hd => rfl); (case hg => rfl); (case hr => exact GS); intro gb321 hg w9 hbox hb; have n0_ := Aside0.mk (below_step BB hb); have n1_ := Aside0.mk (hbox); have n2_ := Aside0.mk ((by rw [hg]; exact (below_size BB) : w.heap.size ≤ gb321)); have n3_ := Aside0.mk ((by rw [hg]; exact (below_size BB) : w.heap.size ≤ gb321)); clear HB; have HB := n0_; have BK321 := n1_; have GW321 := n2_; have GE321 := n3_; clear n0_ n1_ n2_ n3_; clear hb hbox hg; have hcz10_0 : w9.cell? ⟨gb321, 0, none⟩ = some (.int .i64 a0_0) := (blk_cell BK321.out 0).trans rfl; have hcz10_1 : w9.cell? ⟨gb321, 1, none⟩ = some (.slice A0_1 l0_1.length c0_1) := (blk_cell BK321.out 1).trans rfl; have hcz10_2 : w9.cell? ⟨gb321, 2, none⟩ = some (.slice A0_2 l0_2.length c0_2) := (blk_cell BK321.out 2).trans rfl; have hcz10_3 : w9.cell? ⟨gb321, 3, none⟩ = some (.slice A0_3 l0_3.length c0_3) := (blk_cell BK321.out 3).trans rfl; have hfz10_0 := blk_frozen BK321.out 0; have hfz10_1 := blk_frozen BK321.out 1; have hfz10_2 := blk_frozen BK321.out 2; have hfz10_3 := blk_frozen BK321.out 3; have p322 : 0 ≤ (a1 : Int) := of_decide_eq_true AS; have q322 : a1 < (l0_1.length : Int) := of_decide_eq_true AS; obtain ⟨ad322, e322, hx322_0⟩ := Kd.at_int HR0_1.out a1 p322 q322; cases e322; replace hx322_0 := (HB.out.cell (World.block_lt_of_cell? w _ hx322_0)).trans hx322_0; replace p322 := eq_true p322; replace q322 := eq_true q322; have p323 : 0 ≤ (a2 : Int) := of_decide_eq_true AS; have q323 : a2 < (l0_1.length : Int) := of_decide_eq_true AS; obtain ⟨ad323, e323, hx323_0⟩ := Kd.at_int HR0_1.out a2 p323 q323; obtain rfl : ad322 = ad323 := (by injection e323); replace hx323_0 := (HB.out.cell (World.block_lt_of_cell? w _ hx323_0)).trans hx323_0; replace p323 := eq_true p323; replace q323 := eq_true q323))
      repeat (go_quiet (first | ((with_reducible refine gate_dst (N := 3) rfl ?_); refine box_event ?hg (N := 3) ?hd (cs := #[.int .i64 a0_0, .slice A0_1 l0_1.length c0_1, .slice A0_2 l0_2.length c0_2, .slice A0_3 l0_3.length c0_3]) (t := 55) ?hr ?_; (case hd => rfl); (case hg => rfl); (case hr => exact GS); intro gb321 hg w9 hbox hb; have n0_ := Aside0.mk (below_step BB hb); have n1_ := Aside0.mk (hbox); have n2_ := Aside0.mk ((by rw [hg]; exact (below_size BB) : w.heap.size ≤ gb321)); have n3_ := Aside0.mk ((by rw [hg]; exact (below_size BB) : w.heap.size ≤ gb321)); clear HB; have HB := n0_; have BK321 := n1_; have GW321 := n2_; have GE321 := n3_; clear n0_ n1_ n2_ n3_; clear hb hbox hg; have hcz10_0 : w9.cell? ⟨gb321, 0, none⟩ = some (.int .i64 a0_0) := (blk_cell BK321.out 0).trans rfl; have hcz10_1 : w9.cell? ⟨gb321, 1, none⟩ = some (.slice A0_1 l0_1.length c0_1) := (blk_cell BK321.out 1).trans rfl; have hcz10_2 : w9.cell? ⟨gb321, 2, none⟩ = some (.slice A0_2 l0_2.length c0_2) := (blk_cell BK321.out 2).trans rfl; have hcz10_3 : w9.cell? ⟨gb321, 3, none⟩ = some (.slice A0_3 l0_3.length c0_3) := (blk_cell BK321.out 3).trans rfl; have hfz10_0 := blk_frozen BK321.out 0; have hfz10_1 := blk_frozen BK321.out 1; have hfz10_2 := blk_frozen BK321.out 2; have hfz10_3 := blk_frozen BK321.out 3; have p322 : 0 ≤ (a1 : Int) := of_decide_eq_true AS; have q322 : a1 < (l0_1.length : Int) := of_decide_eq_true AS; obtain ⟨ad322, e322, hx322_0⟩ := Kd.at_int HR0_1.out a1 p322 q322; cases e322; replace hx322_0 := (HB.out.cell (World.block_lt_of_cell? w _ hx322_0)).trans hx322_0; replace p322 := eq_true p322; replace q322 := eq_true q322; have p323 : 0 ≤ (a2 : Int) := of_decide_eq_true AS; have q323 : a2 < (l0_1.length : Int) := of_decide_eq_true AS; obtain ⟨ad323, e323, hx323_0⟩ := Kd.at_int HR0_1.out a2 p323 q323; obtain rfl : ad322 = ad323 := (by injection e323); replace hx323_0 := (HB.out.cell (World.block_lt_of_cell? w _ hx323_0)).trans hx323_0; replace p323 := eq_true p323; replace q323 := eq_true q323)); try go_wp2_with (first | ((with_reducible refine gate_dst (N := 3) rfl ?_); refine box_event ?hg (N := 3) ?hd (cs := #[.int .i64 a0_0, .slice A0_1 l0_1.length c0_1, .slice A0_2 l0_2.length c0_2, .slice A0_3 l0_3.length c0_3]) (t := 55) ?hr ?_; (case hd => rfl); (case hg => rfl); (case hr => exact GS); intro gb321 hg w9 hbox hb; have n0_ := Aside0.mk (below_step BB hb); have n1_ := Aside0.mk (hbox); have n2_ := Aside0.mk ((by rw [hg]; exact (below_size BB) : w.heap.size ≤ gb321)); have n3_ := Aside0.mk ((by rw [hg]; exact (below_size BB) : w.heap.size ≤ gb321)); clear HB; have HB := n0_; have BK321 := n1_; have GW321 := n2_; have GE321 := n3_; clear n0_ n1_ n2_ n3_; clear hb hbox hg; have hcz10_0 : w9.cell? ⟨gb321, 0, none⟩ = some (.int .i64 a0_0) := (blk_cell BK321.out 0).trans rfl; have hcz10_1 : w9.cell? ⟨gb321, 1, none⟩ = some (.slice A0_1 l0_1.length c0_1) := (blk_cell BK321.out 1).trans rfl; have hcz10_2 : w9.cell? ⟨gb321, 2, none⟩ = some (.slice A0_2 l0_2.length c0_2) := (blk_cell BK321.out 2).trans rfl; have hcz10_3 : w9.cell? ⟨gb321, 3, none⟩ = some (.slice A0_3 l0_3.length c0_3) := (blk_cell BK321.out 3).trans rfl; have hfz10_0 := blk_frozen BK321.out 0; have hfz10_1 := blk_frozen BK321.out 1; have hfz10_2 := blk_frozen BK321.out 2; have hfz10_3 := blk_frozen BK321.out 3; have p322 : 0 ≤ (a1 : Int) := of_decide_eq_true AS; have q322 : a1 < (l0_1.length : Int) := of_decide_eq_true AS; obtain ⟨ad322, e322, hx322_0⟩ := Kd.at_int HR0_1.out a1 p322 q322; cases e322; replace hx322_0 := (HB.out.cell (World.block_lt_of_cell? w _ hx322_0)).trans hx322_0; replace p322 := eq_true p322; replace q322 := eq_true q322; have p323 : 0 ≤ (a2 : Int) := of_decide_eq_true AS; have q323 : a2 < (l0_1.length : Int) := of_decide_eq_true AS; obtain ⟨ad323, e323, hx323_0⟩ := Kd.at_int HR0_1.out a2 p323 q323; obtain rfl : ad322 = ad323 := (by injection e323); replace hx323_0 := (HB.out.cell (World.block_lt_of_cell? w _ hx323_0)).trans hx323_0; replace p323 := eq_true p323; replace q323 := eq_true q323)))
      go_ret
      exact ⟨RE, AGE GE321⟩
     ·rw [if_neg c8] at H
      have c8b0 : ((rd l0_1 a1) == (rd l0_1 a2)) = false := beq_eq_false_iff_ne.mpr c8
      have c8b1 : ((rd l0_1 a1) != (rd l0_1 a2)) = true := bne_iff_ne.mpr c8
      by_cases c11 : (rd l0_1 a1) < 2
      ·rw [if_pos c11] at H
       have c11b0 : decide ((rd l0_1 a1) < 2) = true := decide_eq_true c11
       clear c11
       obtain rfl := Option.some.inj H
       go_enter Try.func47, Try.ntmps47
       go_wp2_with (first | ((with_reducible refine gate_dst (N := 3) rfl ?_); refine box_event ?hg (N := 3) ?hd (cs := #[.int .i64 a0_0, .slice A0_1 l0_1.length c0_1, .slice A0_2 l0_2.length c0_2, .slice A0_3 l0_3.length c0_3]) (t := 55) ?hr ?_; (case hd => rfl); (case hg => rfl); (case hr => exact GS); intro gb321 hg w12 hbox hb; have n0_ := Aside0.mk (below_step BB hb); have n1_ := Aside0.mk (hbox); have n2_ := Aside0.mk ((by rw [hg]; exact (below_size BB) : w.heap.size ≤ gb321)); have n3_ := Aside0.mk ((by rw [hg]; exact (below_size BB) : w.heap.size ≤ gb321)); clear HB; have HB := n0_; have BK321 := n1_; have GW321 := n2_; have GE321 := n3_; clear n0_ n1_ n2_ n3_; clear hb hbox hg; have hcz13_0 : w12.cell? ⟨gb321, 0, none⟩ = some (.int .i64 a0_0) := (blk_cell BK321.out 0).trans rfl; have hcz13_1 : w12.cell? ⟨gb321, 1, none⟩ = some (.slice A0_1 l0_1.length c0_1) := (blk_cell BK321.out 1).trans rfl; have hcz13_2 : w12.cell? ⟨gb321, 2, none⟩ = some (.slice A0_2 l0_2.length c0_2) := (blk_cell BK321.out 2).trans rfl; have hcz13_3 : w12.cell? ⟨gb321, 3, none⟩ = some (.slice A0_3 l0_3.length c0_3) := (blk_cell BK321.out 3).trans rfl; have hfz13_0 := blk_frozen BK321.out 0; have hfz13_1 := blk_frozen BK321.out 1; have hfz13_2 := blk_frozen BK321.out 2; have hfz13_3 := blk_frozen BK321.out 3; have p322 : 0 ≤ (a1 : Int) := of_decide_eq_true AS; have q322 : a1 < (l0_1.length : Int) := of_decide_eq_true AS; obtain ⟨ad322, e322, hx322_0⟩ := Kd.at_int HR0_1.out a1 p322 q322; cases e322; replace hx322_0 := (HB.out.cell (World.block_lt_of_cell? w _ hx322_0)).trans hx322_0; replace p322 := eq_true p322; replace q322 := eq_true q322; have p323 : 0 ≤ (a2 : Int) := of_decide_eq_true AS; have q323 : a2 < (l0_1.length : Int) := of_decide_eq_true AS; obtain ⟨ad323, e323, hx323_0⟩ := Kd.at_int HR0_1.out a2 p323 q323; obtain rfl : ad322 = ad323 := (by injection e323); replace hx323_0 := (HB.out.cell (World.block_lt_of_cell? w _ hx323_0)).trans hx323_0; replace p323 := eq_true p323; replace q323 := eq_true q323; have p324 : 0 ≤ (a1 : Int) := of_decide_eq_true AS; have q324 : a1 < (l0_1.length : Int) := of_decide_eq_true AS; obtain ⟨ad324, e324, hx324_0⟩ := Kd.at_int HR0_1.out a1 p324 q324; obtain rfl : ad322 = ad324 := (by injection e324); replace hx324_0 := (HB.out.cell (World.block_lt_of_cell? w _ hx324_0)).trans hx324_0; replace p324 := eq_true p324; replace q324 := eq_true q324; have p325 : 0 ≤ (a2 : Int) := of_decide_eq_true AS; have q325 : a2 < (l0_1.length : Int) := of_decide_eq_true AS; obtain ⟨ad325, e325, hx325_0⟩ := Kd.at_int HR0_1.out a2 p325 q325; obtain rfl : ad322 = ad325 := (by injection e325); replace hx325_0 := (HB.out.cell (World.block_lt_of_cell? w _ hx325_0)).trans hx325_0; replace p325 := eq_true p325; replace q325 := eq_true q325))
       repeat (go_quiet (first | ((with_reducible refine gate_dst (N := 3) rfl ?_); refine box_event ?hg (N := 3) ?hd (cs := #[.int .i64 a0_0, .slice A0_1 l0_1.length c0_1, .slice A0_2 l0_2.length c0_2, .slice A0_3 l0_3.length c0_3]) (t := 55) ?hr ?_; (case hd => rfl); (case hg => rfl); (case hr => exact GS); intro gb321 hg w12 hbox hb; have n0_ := Aside0.mk (below_step BB hb); have n1_ := Aside0.mk (hbox); have n2_ := Aside0.mk ((by rw [hg]; exact (below_size BB) : w.heap.size ≤ gb321)); have n3_ := Aside0.mk ((by rw [hg]; exact (below_size BB) : w.heap.size ≤ gb321)); clear HB; have HB := n0_; have BK321 := n1_; have GW321 := n2_; have GE321 := n3_; clear n0_ n1_ n2_ n3_; clear hb hbox hg; have hcz13_0 : w12.cell? ⟨gb321, 0, none⟩ = some (.int .i64 a0_0) := (blk_cell BK321.out 0).trans rfl; have hcz13_1 : w12.cell? ⟨gb321, 1, none⟩ = some (.slice A0_1 l0_1.length c0_1) := (blk_cell BK321.out 1).trans rfl; have hcz13_2 : w12.cell? ⟨gb321, 2, none⟩ = some (.slice A0_2 l0_2.length c0_2) := (blk_cell BK321.out 2).trans rfl; have hcz13_3 : w12.cell? ⟨gb321, 3, none⟩ = some (.slice A0_3 l0_3.length c0_3) := (blk_cell BK321.out 3).trans rfl; have hfz13_0 := blk_frozen BK321.out 0; have hfz13_1 := blk_frozen BK321.out 1; have hfz13_2 := blk_frozen BK321.out 2; have hfz13_3 := blk_frozen BK321.out 3; have p322 : 0 ≤ (a1 : Int) := of_decide_eq_true AS; have q322 : a1 < (l0_1.length : Int) := of_decide_eq_true AS; obtain ⟨ad322, e322, hx322_0⟩ := Kd.at_int HR0_1.out a1 p322 q322; cases e322; replace hx322_0 := (HB.out.cell (World.block_lt_of_cell? w _ hx322_0)).trans hx322_0; replace p322 := eq_true p322; replace q322 := eq_true q322; have p323 : 0 ≤ (a2 : Int) := of_decide_eq_true AS; have q323 : a2 < (l0_1.length : Int) := of_decide_eq_true AS; obtain ⟨ad323, e323, hx323_0⟩ := Kd.at_int HR0_1.out a2 p323 q323; obtain rfl : ad322 = ad323 := (by injection e323); replace hx323_0 := (HB.out.cell (World.block_lt_of_cell? w _ hx323_0)).trans hx323_0; replace p323 := eq_true p323; replace q323 := eq_true q323; have p324 : 0 ≤ (a1 : Int) := of_decide_eq_true AS; have q324 : a1 < (l0_1.length : Int) := of_decide_eq_true AS; obtain ⟨ad324, e324, hx324_0⟩ := Kd.at_int HR0_1.out a1 p324 q324; obtain rfl : ad322 = ad324 := (by injection e324); replace hx324_0 := (HB.out.cell (World.block_lt_of_cell? w _ hx324_0)).trans hx324_0; replace p324 := eq_true p324; replace q324 := eq_true q324; have p325 : 0 ≤ (a2 : Int) := of_decide_eq_true AS; have q325 : a2 < (l0_1.length : Int) := of_decide_eq_true AS; obtain ⟨ad325, e325, hx325_0⟩ := Kd.at_int HR0_1.out a2 p325 q325; obtain rfl : ad322 = ad325 := (by injection e325); replace hx325_0 := (HB.out.cell (World.block_lt_of_cell? w _ hx325_0)).trans hx325_0; replace p325 := eq_true p325; replace q325 := eq_true q325)); try go_wp2_with (first | ((with_reducible refine gate_dst (N := 3) rfl ?_); refine box_event ?hg (N := 3) ?hd (cs := #[.int .i64 a0_0, .slice A0_1 l0_1.length c0_1, .slice A0_2 l0_2.length c0_2, .slice A0_3 l0_3.length c0_3]) (t := 55) ?hr ?_; (case hd => rfl); (case hg => rfl); (case hr => exact GS); intro gb321 hg w12 hbox hb; have n0_ := Aside0.mk (below_step BB hb); have n1_ := Aside0.mk (hbox); have n2_ := Aside0.mk ((by rw [hg]; exact (below_size BB) : w.heap.size ≤ gb321)); have n3_ := Aside0.mk ((by rw [hg]; exact (below_size BB) : w.heap.size ≤ gb321)); clear HB; have HB := n0_; have BK321 := n1_; have GW321 := n2_; have GE321 := n3_; clear n0_ n1_ n2_ n3_; clear hb hbox hg; have hcz13_0 : w12.cell? ⟨gb321, 0, none⟩ = some (.int .i64 a0_0) := (blk_cell BK321.out 0).trans rfl; have hcz13_1 : w12.cell? ⟨gb321, 1, none⟩ = some (.slice A0_1 l0_1.length c0_1) := (blk_cell BK321.out 1).trans rfl; have hcz13_2 : w12.cell? ⟨gb321, 2, none⟩ = some (.slice A0_2 l0_2.length c0_2) := (blk_cell BK321.out 2).trans rfl; have hcz13_3 : w12.cell? ⟨gb321, 3, none⟩ = some (.slice A0_3 l0_3.length c0_3) := (blk_cell BK321.out 3).trans rfl; have hfz13_0 := blk_frozen BK321.out 0; have hfz13_1 := blk_frozen BK321.out 1; have hfz13_2 := blk_frozen BK321.out 2; have hfz13_3 := blk_frozen BK321.out 3; have p322 : 0 ≤ (a1 : Int) := of_decide_eq_true AS; have q322 : a1 < (l0_1.length : Int) := of_decide_eq_true AS; obtain ⟨ad322, e322, hx322_0⟩ := Kd.at_int HR0_1.out a1 p322 q322; cases e322; replace hx322_0 := (HB.out.cell (World.block_lt_of_cell? w _ hx322_0)).trans hx322_0; replace p322 := eq_true p322; replace q322 := eq_true q322; have p323 : 0 ≤ (a2 : Int) := of_decide_eq_true AS; have q323 : a2 < (l0_1.length : Int) := of_decide_eq_true AS; obtain ⟨ad323, e323, hx323_0⟩ := Kd.at_int HR0_1.out a2 p323 q323; obtain rfl : ad322 = ad323 := (by injection e323); replace hx323_0 := (HB.out.cell (World.block_lt_of_cell? w _ hx323_0)).trans hx323_0; replace p323 := eq_true p323; replace q323 := eq_true q323; have p324 : 0 ≤ (a1 : Int) := of_decide_eq_true AS; have q324 : a1 < (l0_1.length : Int) := of_decide_eq_true AS; obtain ⟨ad324, e324, hx324_0⟩ := Kd.at_int HR0_1.out a1 p324 q324; obtain rfl : ad322 = ad324 := (by injection e324); replace hx324_0 := (HB.out.cell (World.block_lt_of_cell? w _ hx324_0)).trans hx324_0; replace p324 := eq_true p324; replace q324 := eq_true q324; have p325 : 0 ≤ (a2 : Int) := of_decide_eq_true AS; have q325 : a2 < (l0_1.length : Int) := of_decide_eq_true AS; obtain ⟨ad325, e325, hx325_0⟩ := Kd.at_int HR0_1.out a2 p325 q325; obtain rfl : ad322 = ad325 := (by injection e325); replace hx325_0 := (HB.out.cell (World.block_lt_of_cell? w _ hx325_0)).trans hx325_0; replace p325 := eq_true p325; replace q325 := eq_true q325)))
       go_ret
       exact ⟨RE, AGE GE321⟩
      ·rw [if_neg c11] at H
       have c11b0 : decide ((rd l0_1 a1) < 2) = false := decide_eq_false c11
       clear c11
       obtain rfl := Option.some.inj H
       go_enter Try.func47, Try.ntmps47
       go_wp2_with (first | ((with_reducible refine gate_dst (N := 3) rfl ?_); refine box_event ?hg (N := 3) ?hd (cs := #[.int .i64 a0_0, .slice A0_1 l0_1.length c0_1, .slice A0_2 l0_2.length c0_2, .slice A0_3 l0_3.length c0_3]) (t := 55) ?hr ?_; (case hd => rfl); (case hg => rfl); (case hr => exact GS); intro gb321 hg w14 hbox hb; have n0_ := Aside0.mk (below_step BB hb); have n1_ := Aside0.mk (hbox); have n2_ := Aside0.mk ((by rw [hg]; exact (below_size BB) : w.heap.size ≤ gb321)); have n3_ := Aside0.mk ((by rw [hg]; exact (below_size BB) : w.heap.size ≤ gb321)); clear HB; have HB := n0_; have BK321 := n1_; have GW321 := n2_; have GE321 := n3_; clear n0_ n1_ n2_ n3_; clear hb hbox hg; have hcz15_0 : w14.cell? ⟨gb321, 0, none⟩ = some (.int .i64 a0_0) := (blk_cell BK321.out 0).trans rfl; have hcz15_1 : w14.cell? ⟨gb321, 1, none⟩ = some (.slice A0_1 l0_1.length c0_1) := (blk_cell BK321.out 1).trans rfl; have hcz15_2 : w14.cell? ⟨gb321, 2, none⟩ = some (.slice A0_2 l0_2.length c0_2) := (blk_cell BK321.out 2).trans rfl; have hcz15_3 : w14.cell? ⟨gb321, 3, none⟩ = some (.slice A0_3 l0_3.length c0_3) := (blk_cell BK321.out 3).trans rfl; have hfz15_0 := blk_frozen BK321.out 0; have hfz15_1 := blk_frozen BK321.out 1; have hfz15_2 := blk_frozen BK321.out 2; have hfz15_3 := blk_frozen BK321.out 3; have p322 : 0 ≤ (a1 : Int) := of_decide_eq_true AS; have q322 : a1 < (l0_1.length : Int) := of_decide_eq_true AS; obtain ⟨ad322, e322, hx322_0⟩ := Kd.at_int HR0_1.out a1 p322 q322; cases e322; replace hx322_0 := (HB.out.cell (World.block_lt_of_cell? w _ hx322_0)).trans hx322_0; replace p322 := eq_true p322; replace q322 := eq_true q322; have p323 : 0 ≤ (a2 : Int) := of_decide_eq_true AS; have q323 : a2 < (l0_1.length : Int) := of_decide_eq_true AS; obtain ⟨ad323, e323, hx323_0⟩ := Kd.at_int HR0_1.out a2 p323 q323; obtain rfl : ad322 = ad323 := (by injection e323); replace hx323_0 := (HB.out.cell (World.block_lt_of_cell? w _ hx323_0)).trans hx323_0; replace p323 := eq_true p323; replace q323 := eq_true q323; have p324 : 0 ≤ (a1 : Int) := of_decide_eq_true AS; have q324 : a1 < (l0_1.length : Int) := of_decide_eq_true AS; obtain ⟨ad324, e324, hx324_0⟩ := Kd.at_int HR0_1.out a1 p324 q324; obtain rfl : ad322 = ad324 := (by injection e324); replace hx324_0 := (HB.out.cell (World.block_lt_of_cell? w _ hx324_0)).trans hx324_0; replace p324 := eq_true p324; replace q324 := eq_true q324))
       repeat (go_quiet (first | ((with_reducible refine gate_dst (N := 3) rfl ?_); refine box_event ?hg (N := 3) ?hd (cs := #[.int .i64 a0_0, .slice A0_1 l0_1.length c0_1, .slice A0_2 l0_2.length c0_2, .slice A0_3 l0_3.length c0_3]) (t := 55) ?hr ?_; (case hd => rfl); (case hg => rfl); (case hr => exact GS); intro gb321 hg w14 hbox hb; have n0_ := Aside0.mk (below_step BB hb); have n1_ := Aside0.mk (hbox); have n2_ := Aside0.mk ((by rw [hg]; exact (below_size BB) : w.heap.size ≤ gb321)); have n3_ := Aside0.mk ((by rw [hg]; exact (below_size BB) : w.heap.size ≤ gb321)); clear HB; have HB := n0_; have BK321 := n1_; have GW321 := n2_; have GE321 := n3_; clear n0_ n1_ n2_ n3_; clear hb hbox hg; have hcz15_0 : w14.cell? ⟨gb321, 0, none⟩ = some (.int .i64 a0_0) := (blk_cell BK321.out 0).trans rfl; have hcz15_1 : w14.cell? ⟨gb321, 1, none⟩ = some (.slice A0_1 l0_1.length c0_1) := (blk_cell BK321.out 1).trans rfl; have hcz15_2 : w14.cell? ⟨gb321, 2, none⟩ = some (.slice A0_2 l0_2.length c0_2) := (blk_cell BK321.out 2).trans rfl; have hcz15_3 : w14.cell? ⟨gb321, 3, none⟩ = some (.slice A0_3 l0_3.length c0_3) := (blk_cell BK321.out 3).trans rfl; have hfz15_0 := blk_frozen BK321.out 0; have hfz15_1 := blk_frozen BK321.out 1; have hfz15_2 := blk_frozen BK321.out 2; have hfz15_3 := blk_frozen BK321.out 3; have p322 : 0 ≤ (a1 : Int) := of_decide_eq_true AS; have q322 : a1 < (l0_1.length : Int) := of_decide_eq_true AS; obtain ⟨ad322, e322, hx322_0⟩ := Kd.at_int HR0_1.out a1 p322 q322; cases e322; replace hx322_0 := (HB.out.cell (World.block_lt_of_cell? w _ hx322_0)).trans hx322_0; replace p322 := eq_true p322; replace q322 := eq_true q322; have p323 : 0 ≤ (a2 : Int) := of_decide_eq_true AS; have q323 : a2 < (l0_1.length : Int) := of_decide_eq_true AS; obtain ⟨ad323, e323, hx323_0⟩ := Kd.at_int HR0_1.out a2 p323 q323; obtain rfl : ad322 = ad323 := (by injection e323); replace hx323_0 := (HB.out.cell (World.block_lt_of_cell? w _ hx323_0)).trans hx323_0; replace p323 := eq_true p323; replace q323 := eq_true q323; have p324 : 0 ≤ (a1 : Int) := of_decide_eq_true AS; have q324 : a1 < (l0_1.length : Int) := of_decide_eq_true AS; obtain ⟨ad324, e324, hx324_0⟩ := Kd.at_int HR0_1.out a1 p324 q324; obtain rfl : ad322 = ad324 := (by injection e324); replace hx324_0 := (HB.out.cell (World.block_lt_of_cell? w _ hx324_0)).trans hx324_0; replace p324 := eq_true p324; replace q324 := eq_true q324)); try go_wp2_with (first | ((with_reducible refine gate_dst (N := 3) rfl ?_); refine box_event ?hg (N := 3) ?hd (cs := #[.int .i64 a0_0, .slice A0_1 l0_1.length c0_1, .slice A0_2 l0_2.length c0_2, .slice A0_3 l0_3.length c0_3]) (t := 55) ?hr ?_; (case hd => rfl); (case hg => rfl); (case hr => exact GS); intro gb321 hg w14 hbox hb; have n0_ := Aside0.mk (below_step BB hb); have n1_ := Aside0.mk (hbox); have n2_ := Aside0.mk ((by rw [hg]; exact (below_size BB) : w.heap.size ≤ gb321)); have n3_ := Aside0.mk ((by rw [hg]; exact (below_size BB) : w.heap.size ≤ gb321)); clear HB; have HB := n0_; have BK321 := n1_; have GW321 := n2_; have GE321 := n3_; clear n0_ n1_ n2_ n3_; clear hb hbox hg; have hcz15_0 : w14.cell? ⟨gb321, 0, none⟩ = some (.int .i64 a0_0) := (blk_cell BK321.out 0).trans rfl; have hcz15_1 : w14.cell? ⟨gb321, 1, none⟩ = some (.slice A0_1 l0_1.length c0_1) := (blk_cell BK321.out 1).trans rfl; have hcz15_2 : w14.cell? ⟨gb321, 2, none⟩ = some (.slice A0_2 l0_2.length c0_2) := (blk_cell BK321.out 2).trans rfl; have hcz15_3 : w14.cell? ⟨gb321, 3, none⟩ = some (.slice A0_3 l0_3.length c0_3) := (blk_cell BK321.out 3).trans rfl; have hfz15_0 := blk_frozen BK321.out 0; have hfz15_1 := blk_frozen BK321.out 1; have hfz15_2 := blk_frozen BK321.out 2; have hfz15_3 := blk_frozen BK321.out 3; have p322 : 0 ≤ (a1 : Int) := of_decide_eq_true AS; have q322 : a1 < (l0_1.length : Int) := of_decide_eq_true AS; obtain ⟨ad322, e322, hx322_0⟩ := Kd.at_int HR0_1.out a1 p322 q322; cases e322; replace hx322_0 := (HB.out.cell (World.block_lt_of_cell? w _ hx322_0)).trans hx322_0; replace p322 := eq_true p322; replace q322 := eq_true q322; have p323 : 0 ≤ (a2 : Int) := of_decide_eq_true AS; have q323 : a2 < (l0_1.length : Int) := of_decide_eq_true AS; obtain ⟨ad323, e323, hx323_0⟩ := Kd.at_int HR0_1.out a2 p323 q323; obtain rfl : ad322 = ad323 := (by injection e323); replace hx323_0 := (HB.out.cell (World.block_lt_of_cell? w _ hx323_0)).trans hx323_0; replace p323 := eq_true p323; replace q323 := eq_true q323; have p324 : 0 ≤ (a1 : Int) := of_decide_eq_true AS; have q324 : a1 < (l0_1.length : Int) := of_decide_eq_true AS; obtain ⟨ad324, e324, hx324_0⟩ := Kd.at_int HR0_1.out a1 p324 q324; obtain rfl : ad322 = ad324 := (by injection e324); replace hx324_0 := (HB.out.cell (World.block_lt_of_cell? w _ hx324_0)).trans hx324_0; replace p324 := eq_true p324; replace q324 := eq_true q324)))
       go_ret
       exact ⟨RE, AGE GE321⟩
    ·rw [if_neg c7] at H
     cases H
   ·rw [if_neg c6] at H
    cases H
  ·rw [if_neg c5] at H
   cases H
 ·rw [if_neg c4] at H
  cases H

end Go.Proofs.Ytafjjbkkcedgnab.PFnDoorsOfRooms
