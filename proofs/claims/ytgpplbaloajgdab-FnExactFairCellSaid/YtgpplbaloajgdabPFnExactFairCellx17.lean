-- Written by a program of this session (wip/tools/pp.sh) out of the translation; Lean checks it.
import Derived.Test.YtgpplbaloajgdabPFnExactFairCellx0
import Derived.Test.YtgpplbaloajgdabPFnExactFairCellx1
import Derived.Test.YtgpplbaloajgdabPFnExactFairCellx8
import Derived.Test.YtgpplbaloajgdabPFnExactFairCellx15
import Derived.Test.YtgpplbaloajgdabPFnExactFairCellx16
namespace Go.Proofs.Ytgpplbaloajgdab.PFnExactFairCell
open Go.RowKit Go.Proofs.YtgpplbaloajgdabOwn Go.Proofs.YtgpplbaloajgdabW.PrintWords Go.Proofs.YtgpplbaloajgdabW.PrintLast Go.Proofs.YtgpplbaloajgdabW.PrintMore
attribute [local go_sem] max2_int min2_int max_two min_two max_three min_three max_four min_four   -- for this text's walks alone
set_option linter.unusedVariables false
set_option maxHeartbeats 8000000
set_option maxRecDepth 100000
set_option linter.unusedSimpArgs false

/-! ### impl_favourite: function 52 (given) -/
/-- One piece more is looked at. -/
def impl_favourite.fv (xs ws : List Int) (s b : Int) : Int := if rd xs s > 0 then (if b < 0 then s else if rd ws s > rd ws b then s else b) else b
def impl_favourite.run (xs ws : List Int) : Nat → Int → Int → Int
 | 0, _, b => b
 | d + 1, s, b => impl_favourite.run xs ws d (s + 1) (impl_favourite.fv xs ws s b)
def impl_favourite.f (k : Nat) (l0 : List Int) (a1_0 : Int) (a1_1 : Int) (a1_2 : Int) : Option Int := (impl_piecesOf.f k l0 a1_0 a1_1 a1_2).bind fun ws => if ws.length = 3 then some (impl_favourite.run [a1_0, a1_1, a1_2] ws 3 0 (-1)) else none
theorem impl_favourite.mono : ∀ a0 a1 a2 a3 k, LeO (impl_favourite.f k a0 a1 a2 a3) (impl_favourite.f (k + 1) a0 a1 a2 a3) := fun a0 a1 a2 a3 k => LeO.bind (impl_piecesOf.mono _ _ _ _ _) (fun _ => LeO.refl _)
theorem impl_favourite.calls (k : Nat) (A0 : Option Addr) (c0 : Nat) (l0 : List Int) (a1_0 : Int) (a1_1 : Int) (a1_2 : Int) (r : Int) (w : World) (hr0 : Kd.C (Kd.int .i64) w A0 l0.length l0) (hc0 : l0.length ≤ c0) (h : impl_favourite.f k l0 a1_0 a1_1 a1_2 = some r) :
  Calls Try.prog 52 #[.slice A0 l0.length c0, .agg #[.int .i64 a1_0, .int .i64 a1_1, .int .i64 a1_2]] w fun e w' => e = .returned (.int .i64 r) ∧ Below w.heap.size w w' := by
 unfold impl_favourite.f at h
 obtain ⟨ws, hws, h⟩ := Option.bind_eq_some_iff.mp h
 by_cases hd : ws.length = 3
 ·rw [if_pos hd] at h
  have HLEN := Aside0.mk hd
  have HRR := Aside0.mk (Option.some.inj h)
  have HP := Aside0.mk hws
  have HR0 := Aside0.mk hr0
  have HC0 := Aside0.mk hc0
  have i0 : ∀ w : World, (Instr.index 61 (.agg #[.int .i64 a1_0, .int .i64 a1_1, .int .i64 a1_2]) (.int .i64 0)).run Try.prog w = .ok (.int .i64 a1_0) w := fun _ => by kernel_rfl
  have i1 : ∀ w : World, (Instr.index 61 (.agg #[.int .i64 a1_0, .int .i64 a1_1, .int .i64 a1_2]) (.int .i64 1)).run Try.prog w = .ok (.int .i64 a1_1) w := fun _ => by kernel_rfl
  have i2 : ∀ w : World, (Instr.index 61 (.agg #[.int .i64 a1_0, .int .i64 a1_1, .int .i64 a1_2]) (.int .i64 2)).run Try.prog w = .ok (.int .i64 a1_2) w := fun _ => by kernel_rfl
  clear h hd hws hr0 hc0
  go_enter Try.func52, Try.ntmps52
  go_wp2_with (first
   | ((with_reducible refine gate_dst (N := 3) rfl ?_); refine box_event ?hg (N := 3) ?hd (cs := #[.int .i64 a1_0, .int .i64 a1_1, .int .i64 a1_2]) (t := 61) ?hr ?_; (case hd => rfl); (case hg => rfl); (case hr => exact GS); intro gb hg w1 hbox hb; have HB1 := Aside0.mk hb; have HX := Aside0.mk hbox; clear hb hg hbox; have z0 : w1.cell? ⟨gb, 0, none⟩ = some (.int .i64 a1_0) := (blk_cell HX.out 0).trans rfl; have z1 : w1.cell? ⟨gb, 1, none⟩ = some (.int .i64 a1_1) := (blk_cell HX.out 1).trans rfl; have z2 : w1.cell? ⟨gb, 2, none⟩ = some (.int .i64 a1_2) := (blk_cell HX.out 2).trans rfl)
   | (go_at_call 88; refine (impl_piecesOf.calls k A0 c0 l0 a1_0 a1_1 a1_2 ws w1 (Kd.C_below HR0.out HB1.out) HC0.out HP.out).mono ?_; rintro e w2 ⟨v0, rfl, hO, hb2⟩; have HO := Aside0.mk (Kd.R_lower hO HB1.out.size); have HB := Aside0.mk (below_step HB1.out hb2); have HX2 := Aside0.mk ((hb2.block gb (blk_lt HX.out)).trans HX.out); clear HB1 HX z0 z1 z2 hO hb2; have z0 : w2.cell? ⟨gb, 0, none⟩ = some (.int .i64 a1_0) := (blk_cell HX2.out 0).trans rfl; have z1 : w2.cell? ⟨gb, 1, none⟩ = some (.int .i64 a1_1) := (blk_cell HX2.out 1).trans rfl; have z2 : w2.cell? ⟨gb, 2, none⟩ = some (.int .i64 a1_2) := (blk_cell HX2.out 2).trans rfl; obtain ⟨A1, c1, e1⟩ := Kd.R_slice HO.out; subst e1))
  clear z0 z1 z2 HX2
  go_loopg [6, 13] 3 (fun gg v6 v13 wr => ∃ (d : Nat) (s b : Int), v13 = .int .i64 s ∧ v6 = .int .i64 b ∧ s + (d : Int) = 3 ∧ 0 ≤ s ∧ d ≤ gg ∧ -1 ≤ b ∧ b < 3 ∧ Aside0 (impl_favourite.run [a1_0, a1_1, a1_2] ws d s b = r) ∧ Aside0 (Kd.R (Kd.int .i64) 3 wr w.heap.size (fun _ => True) (.slice A1 ws.length c1) ws) ∧ Aside0 (Below w.heap.size w wr))
  case atStart => exact ⟨3, 0, -1, rfl, rfl, rfl, by omega, by omega, by omega, by omega, HRR, ⟨KR HO⟩, ⟨BB⟩⟩
  case round =>
   clear HO HB
   obtain ⟨d, s, b, rfl, rfl, hsd, hs0, hg, hb1, hb2, HM, HO, HB⟩ := hrel
   cases d with
   | zero =>
    obtain rfl : s = 3 := by omega
    have hm := HM.out
    rw [impl_favourite.run] at hm
    subst hm
    go_wp2
    go_ret
    exact ⟨rfl, HB.out⟩
   | succ d =>
    have hm := HM.out
    rw [impl_favourite.run, impl_favourite.fv] at hm
    clear HM
    have hC := (Kd.R_reads' HO.out).2.2
    have hlen := HLEN.out
    obtain ⟨ad, eA, hx1⟩ := Kd.at_int hC s hs0 (by omega)
    subst eA
    obtain ⟨x, hx⟩ : ∃ x, x = rd [a1_0, a1_1, a1_2] s := ⟨_, rfl⟩
    rw [← hx] at hm
    have hs3 : (s = 0 ∧ x = a1_0) ∨ (s = 1 ∧ x = a1_1) ∨ (s = 2 ∧ x = a1_2) := by
     have : s = 0 ∨ s = 1 ∨ s = 2 := by omega
     rcases this with e | e | e
     ·exact .inl ⟨e, by rw [hx, e]; rfl⟩
     ·exact .inr (.inl ⟨e, by rw [hx, e]; rfl⟩)
     ·exact .inr (.inr ⟨e, by rw [hx, e]; rfl⟩)
    clear hx
    have HT := Aside0.mk (And.intro hsd (And.intro hs0 (And.intro hg (And.intro hb1 hb2))))
    have q1 : (s < (ws.length : Int)) = True := eq_true (by omega)
    have q10 : (0 < ws.length) = True := eq_true (by omega)
    have q11 : (1 < ws.length) = True := eq_true (by omega)
    have q12 : (2 < ws.length) = True := eq_true (by omega)
    have leaf : ∀ (nb : Int), -1 ≤ nb → nb < 3 → impl_favourite.run [a1_0, a1_1, a1_2] ws d (s + 1) nb = r → True := fun _ _ _ _ => trivial
    by_cases hx0 : x > 0
    ·rw [if_pos hx0] at hm
     have d1 : decide (0 < x) = true := decide_eq_true hx0
     by_cases hb0 : b < 0
     ·rw [if_pos hb0] at hm
      have d2 : decide (b < 0) = true := decide_eq_true hb0
      have HM := Aside0.mk hm
      clear hm hx0 hb0 hC hlen hx1 hsd hs0 hg hb1 hb2 leaf q1
      rcases hs3 with ⟨rfl, rfl⟩ | ⟨rfl, rfl⟩ | ⟨rfl, rfl⟩
      all_goals
       go_wp2
       repeat (go_quiet (fail); try go_wp2)
       go_roundg d
       case measure => have := HT.out; omega
       case rel =>
        have hT := HT.out
        exact ⟨d, _, _, rfl, rfl, by omega, by omega, Nat.le_refl _, by omega, by omega, HM, ⟨by (with_reducible repeat (first | apply Kd.R_alloc | apply Kd.R_drewN | apply Kd.R_drew)); exact HO.out⟩, ⟨by repeat (first | exact HB.out | apply pw_below_drewN | apply below_drew1)⟩⟩
     ·rw [if_neg hb0] at hm
      have d2 : decide (b < 0) = false := decide_eq_false hb0
      obtain ⟨ad', eA, hx2⟩ := Kd.at_int hC b (by omega) (by omega)
      obtain rfl : ad = ad' := by injection eA
      clear eA
      have p2 : (0 ≤ b) = True := eq_true (by omega)
      have q2 : (b < (ws.length : Int)) = True := eq_true (by omega)
      by_cases hw : rd ws s > rd ws b
      ·rw [if_pos hw] at hm
       have d3 : decide (rd ws b < rd ws s) = true := decide_eq_true hw
       have HM := Aside0.mk hm
       clear hm hx0 hb0 hC hlen hsd hs0 hg hb1 hb2 leaf hw
       rcases hs3 with ⟨rfl, rfl⟩ | ⟨rfl, rfl⟩ | ⟨rfl, rfl⟩
       all_goals
        have hx1b := hx1
        (try rw [show ((0 : Int)).toNat = 0 from rfl] at hx1)
        (try rw [Addr.add_zero'] at hx1)
        (try rw [show ((1 : Int)).toNat = 1 from rfl] at hx1)
        (try rw [show ((2 : Int)).toNat = 2 from rfl] at hx1)
        (try (have hx1d : wr.cell? ⟨ad.block, ad.off + 1, none⟩ = some (.int .i64 (rd ws 1)) := hx1b))
        (try (have hx1d : wr.cell? ⟨ad.block, ad.off + 2, none⟩ = some (.int .i64 (rd ws 2)) := hx1b))
        go_wp2
        repeat (go_quiet (fail); try go_wp2)
        go_roundg d
        case measure => have := HT.out; omega
        case rel =>
         have hT := HT.out
         exact ⟨d, _, _, rfl, rfl, by omega, by omega, Nat.le_refl _, by omega, by omega, HM, ⟨by (with_reducible repeat (first | apply Kd.R_alloc | apply Kd.R_drewN | apply Kd.R_drew)); exact HO.out⟩, ⟨by repeat (first | exact HB.out | apply pw_below_drewN | apply below_drew1)⟩⟩
      ·rw [if_neg hw] at hm
       have d3 : decide (rd ws b < rd ws s) = false := decide_eq_false hw
       have HM := Aside0.mk hm
       clear hm hx0 hb0 hC hlen hsd hs0 hg hb1 hb2 leaf hw
       rcases hs3 with ⟨rfl, rfl⟩ | ⟨rfl, rfl⟩ | ⟨rfl, rfl⟩
       all_goals
        have hx1b := hx1
        (try rw [show ((0 : Int)).toNat = 0 from rfl] at hx1)
        (try rw [Addr.add_zero'] at hx1)
        (try rw [show ((1 : Int)).toNat = 1 from rfl] at hx1)
        (try rw [show ((2 : Int)).toNat = 2 from rfl] at hx1)
        (try (have hx1d : wr.cell? ⟨ad.block, ad.off + 1, none⟩ = some (.int .i64 (rd ws 1)) := hx1b))
        (try (have hx1d : wr.cell? ⟨ad.block, ad.off + 2, none⟩ = some (.int .i64 (rd ws 2)) := hx1b))
        go_wp2
        repeat (go_quiet (fail); try go_wp2)
        go_roundg d
        case measure => have := HT.out; omega
        case rel =>
         have hT := HT.out
         exact ⟨d, _, _, rfl, rfl, by omega, by omega, Nat.le_refl _, by omega, by omega, HM, ⟨by (with_reducible repeat (first | apply Kd.R_alloc | apply Kd.R_drewN | apply Kd.R_drew)); exact HO.out⟩, ⟨by repeat (first | exact HB.out | apply pw_below_drewN | apply below_drew1)⟩⟩
    ·rw [if_neg hx0] at hm
     have d1 : decide (0 < x) = false := decide_eq_false hx0
     have HM := Aside0.mk hm
     clear hm hx0 hC hlen hx1 hsd hs0 hg hb1 hb2 leaf q1
     rcases hs3 with ⟨rfl, rfl⟩ | ⟨rfl, rfl⟩ | ⟨rfl, rfl⟩
     all_goals
      go_wp2
      repeat (go_quiet (fail); try go_wp2)
      go_roundg d
      case measure => have := HT.out; omega
      case rel =>
       have hT := HT.out
       exact ⟨d, _, _, rfl, rfl, by omega, by omega, Nat.le_refl _, by omega, by omega, HM, ⟨by (with_reducible repeat (first | apply Kd.R_alloc | apply Kd.R_drewN | apply Kd.R_drew)); exact HO.out⟩, ⟨by repeat (first | exact HB.out | apply pw_below_drewN | apply below_drew1)⟩⟩
 ·rw [if_neg hd] at h
  cases h

/-! ### impl_cakeLabels: function 47 -/
def impl_cakeLabels.l0 : Nat → List (List Int) → List Int → List (S61) → Int → Int → Option (List Int)
 | 0, _, _, _, _, _ => none
 | k + 1, x1, x5, x10, x11, x12 => if x12 < x11 then (if 0 ≤ x12 then (if x12 < (x10.length : Int) then ((impl_owner.f ((rd_T61 x10 x12).f0) ((rd_T61 x10 x12).f1) ((rd_T61 x10 x12).f2)).bind fun t521 => (if 0 ≤ t521 then (if t521 < (x1.length : Int) then ((impl_favourite.f k (rd_L1 x1 t521) ((rd_T61 x10 x12).f0) ((rd_T61 x10 x12).f1) ((rd_T61 x10 x12).f2)).bind fun t523 => (if x5.length < 17592186044416 then (impl_cakeLabels.l0 k x1 (x5 ++ [t523]) x10 x11 (wrap64 (x12 + 1))) else (none))) else (none)) else (none))) else (none)) else (none)) else (some x5)
def impl_cakeLabels.f (k : Nat) (a0 : Int) (l1 : List (List Int)) : Option (List Int) := (impl_points.f k a0).bind fun t516 => (impl_cakeLabels.l0 k l1 (([] : List Int)) t516 (t516.length : Int) 0)
theorem impl_cakeLabels.mono_l : ∀ k, (∀ y0 y1 y2 y3 y4, LeO (impl_cakeLabels.l0 k y0 y1 y2 y3 y4) (impl_cakeLabels.l0 (k + 1) y0 y1 y2 y3 y4))
 | 0 => fun _ _ _ _ _ r h => by simp [impl_cakeLabels.l0] at h
 | k + 1 => by
  have ih0 := impl_cakeLabels.mono_l k
  ·intro y0 y1 y2 y3 y4
   unfold impl_cakeLabels.l0
   repeat' first
   | with_reducible first | exact ih0 _ _ _ _ _ | exact impl_favourite.mono _ _ _ _ _ | exact impl_points.mono _ _ | exact LeO.refl _ | exact LeO.none _ | refine LeO.ite ?_ ?_ | refine LeO.bind ?_ (fun _ => ?_)
   | exact LeO.none _ | refine LeO.ite ?_ ?_ | refine LeO.bind ?_ (fun _ => ?_)
theorem impl_cakeLabels.mono : ∀ a0 a1 k, LeO (impl_cakeLabels.f k a0 a1) (impl_cakeLabels.f (k + 1) a0 a1) := by
 intro a0 a1 k
 have ih0 := impl_cakeLabels.mono_l k
 unfold impl_cakeLabels.f
 repeat' first
   | with_reducible first | exact ih0 _ _ _ _ _ | exact impl_favourite.mono _ _ _ _ _ | exact impl_points.mono _ _ | exact LeO.refl _ | exact LeO.none _ | refine LeO.ite ?_ ?_ | refine LeO.bind ?_ (fun _ => ?_)
   | exact LeO.none _ | refine LeO.ite ?_ ?_ | refine LeO.bind ?_ (fun _ => ?_)
def impl_cakeLabels.T5 : Bool × List (List Nat × List Nat) := (true, [([], []), ([], []), ([], []), ([2], [2]), ([1, 3], [1, 3]), ([4], [4]), ([], []), ([5, 6, 3], [5, 6]), ([7], [7]), ([0, 8, 7], [0, 8]), ([9, 9, 0, 1, 2, 3, 4, 5, 6, 7, 8, 9], [0, 9])])
def impl_cakeLabels.B5 : List Nat := [0, 0, 0, 4, 14, 30, 0, 126, 254, 511, 1023]
theorem impl_cakeLabels.tab5 : rtab .any (opsOf Try.f47 5) = impl_cakeLabels.T5 := by kernel_rfl
theorem impl_cakeLabels.bits5 : waitsOk impl_cakeLabels.T5.2 impl_cakeLabels.B5 = true := by kernel_rfl
theorem impl_cakeLabels.calls (k : Nat) (a0 : Int) (A1 : Option Addr) (c1 : Nat) (l1 : List (List Int)) (r : List Int) (w : World) (hr1 : Kd.C (Kd.slice 3 (Kd.int .i64)) w A1 l1.length l1) (hc1 : l1.length ≤ c1) (h : impl_cakeLabels.f k a0 l1 = some r) :
  Calls Try.prog 47 #[.int .i64 a0, .slice A1 l1.length c1] w fun e w' => ∃ v0_ : Value, e = .returned (v0_) ∧ Kd.R (Kd.int .i64) 3 w' w.heap.size (fun _ => True) v0_ r ∧ Below w.heap.size w w' := by
 have hu61 := Try.underlying61
 have HR1 := Aside0.mk hr1
 have HC1 := Aside0.mk hc1
 clear hr1 hc1
 have HB := Aside0.mk (Below.refl w.heap.size w)
 have H : ((impl_points.f k a0).bind fun t516 => (impl_cakeLabels.l0 k l1 (([] : List Int)) t516 (t516.length : Int) 0)) = some r := h
 clear h
 obtain ⟨y513, hy513⟩ : ∃ y_ : List Int, y_ = (([] : List Int)) := ⟨_, rfl⟩
 replace H : ((impl_points.f k a0).bind fun t516 => (impl_cakeLabels.l0 k l1 y513 t516 (t516.length : Int) 0)) = some r := HY H hy513
 have Ny513 := Aside0.mk hy513
 clear hy513
 obtain ⟨t516, A30, H⟩ := Option.bind_eq_some_iff.mp H
 have A3 := Aside0.mk A30
 clear A30
 have H' := Aside0.mk H
 clear H
 go_enter Try.func47, Try.ntmps47
 go_wp2_with (first | ((with_reducible refine gate_dst (N := 8) rfl ?_); refine Kd.R_lit (Kd.int .i64) _ 3 ?hg (N := 8) ?hd (xs := ([] : List Int)) (inner := []) (ok := fun _ => True) (okp := fun _ => True) ?hr ?hp (fun _ hk => hk) trivial (Below.refl _ _) (Nat.le_refl _) (by simp) ?_; (case hd => rfl); (case hg => rfl); (case hr => exact GS); (case hp => exact (Reps.none _ _)); intro v514 w4 ho5 hb hg_ hnew_; clear hg_ hnew_; (first | rw [← Ny513.out] at ho5 | (simp only [Int.reduceToNat] at ho5; rw [← Ny513.out] at ho5)); have n0_ := Aside0.mk (Kd.R_lower ho5 (below_size BB)); have n1_ := Aside0.mk (below_step BB hb); clear HB; have HO515 := n0_; have HB := n1_; clear n0_ n1_; clear hb ho5) | ((with_reducible refine gate_callee (f := 50) rfl ?_); refine goesL_ (some 10) rfl rfl Try.func50 (by kernel_rfl) rfl #[.int .i64 a0] rfl TA ?_; (with_reducible refine (impl_points.calls k a0 t516 _ A3.out).mono ?_); rintro e w6 ⟨v517, rfl, ho0, hb⟩; refine ⟨_, rfl, ?_⟩; have n0_ := Aside0.mk (Kd.R_below (KR HO515) hb); have n1_ := Aside0.mk (Kd.R_lower ho0 (below_size BB)); have n2_ := Aside0.mk (below_step BB hb); clear HO515; clear HB; have HO515 := n0_; have HO518 := n1_; have HB := n2_; clear n0_ n1_ n2_; (try clear hb); (try clear hb2); (try clear hk); (try clear hi); (try clear ho0); obtain ⟨Ao7, co7, eo7⟩ := Kd.R_slice HO518.out; subst eo7))
 go_loopg [5, 12] k (fun kq v5 v12 w' => ∃ (x5_1 : List Int) (x12_1 : Int), v12 = .int .i64 x12_1 ∧ Aside0 (impl_cakeLabels.l0 kq l1 x5_1 t516 (t516.length : Int) x12_1 = some r) ∧ Aside0 (kq ≤ k) ∧ Aside0 (Kd.R (Kd.int .i64) 3 w' w.heap.size (fun _ => True) v5 x5_1) ∧ Aside0 (Kd.R k61 61 w' w.heap.size (fun _ => True) (.slice Ao7 t516.length co7) t516) ∧ Aside0 (Below w.heap.size w w'))
 case atStart => exact ⟨(y513), (0), RF, H', ⟨Nat.le_refl _⟩, ⟨KR HO515⟩, ⟨KR HO518⟩, ⟨BB⟩⟩
 case round =>
  clear H'
  try clear c1
  try clear p2
  try clear c4
  try clear c5
  try clear p6
  obtain ⟨x5_1, x12_1, rfl, HA, HK1, HO_5, HO_10, HB⟩ := hrel
  cases gk with
  | zero => exact absurd HA.out (by simp [impl_cakeLabels.l0])
  | succ k1 =>
   have H := HA.out
   clear HA
   simp only [impl_cakeLabels.l0] at H
   by_cases c8 : x12_1 < (t516.length : Int)
   ·rw [if_pos c8] at H
    have c8b0 : decide (x12_1 < (t516.length : Int)) = true := decide_eq_true c8
    clear c8
    by_cases c9 : 0 ≤ x12_1
    ·rw [if_pos c9] at H
     have c9b0 : decide (0 ≤ x12_1) = true := decide_eq_true c9
     clear c9
     by_cases c10 : x12_1 < (t516.length : Int)
     ·rw [if_pos c10] at H
      have c10b0 : decide (x12_1 < (t516.length : Int)) = true := decide_eq_true c10
      clear c10
      obtain ⟨t521, A110, H⟩ := Option.bind_eq_some_iff.mp H
      have A11 := Aside0.mk A110
      clear A110
      by_cases c12 : 0 ≤ t521
      ·rw [if_pos c12] at H
       have c12b0 : decide (0 ≤ t521) = true := decide_eq_true c12
       clear c12
       by_cases c13 : t521 < (l1.length : Int)
       ·rw [if_pos c13] at H
        have c13b0 : decide (t521 < (l1.length : Int)) = true := decide_eq_true c13
        clear c13
        obtain ⟨t523, A140, H⟩ := Option.bind_eq_some_iff.mp H
        have A14 := Aside0.mk A140
        clear A140
        by_cases c15 : x5_1.length < 17592186044416
        ·rw [if_pos c15] at H
         have LMc15 := Aside0.mk c15
         clear c15
         obtain ⟨y524, hy524⟩ : ∃ y_ : List Int, y_ = (x5_1 ++ [t523]) := ⟨_, rfl⟩
         replace H : (impl_cakeLabels.l0 k1 l1 y524 t516 (t516.length : Int) (wrap64 (x12_1 + 1))) = some r := HY H hy524
         have Ny524 := Aside0.mk hy524
         clear hy524
         have H' := Aside0.mk H
         clear H
         have p519 : 0 ≤ (x12_1 : Int) := of_decide_eq_true AS
         have q519 : x12_1 < (t516.length : Int) := of_decide_eq_true AS
         obtain ⟨ad519, e519, hx519_0, hx519_1, hx519_2⟩ := at_T61 (Kd.R_reads' HO_10.out).2.2 x12_1 p519 q519
         cases e519
         replace p519 := eq_true p519
         replace q519 := eq_true q519
         try go_wp2_with (first | ((with_reducible refine gate_dst (N := 7) rfl ?_); refine box_event ?hg (N := 7) ?hd (cs := #[.int .i64 0, .int .i64 0, .int .i64 0]) (t := 61) ?hr ?_; (case hd => rfl); (case hg => rfl); (case hr => exact GS); intro gb520 hg w16 hbox hb; have n0_ := Aside0.mk (Kd.R_below (KR HO_5) hb); have n1_ := Aside0.mk (Kd.R_below (Kd.R_elderB (KR HO_10) gb520 (Nat.le_of_eq hg.symm)) hb); have n2_ := Aside0.mk (below_step BB hb); have n3_ := Aside0.mk (hbox); have n4_ := Aside0.mk ((by rw [hg]; exact (below_size BB) : w.heap.size ≤ gb520)); have n5_ := Aside0.mk ((by rw [hg]; exact (below_size BB) : w.heap.size ≤ gb520)); clear HO_5; clear HO_10; clear HB; have HO_5 := n0_; have HO_10 := n1_; have HB := n2_; have BK520 := n3_; have GW520 := n4_; have GE520 := n5_; clear n0_ n1_ n2_ n3_ n4_ n5_; clear hb hbox hg; have hcz17_0 : w16.cell? ⟨gb520, 0, none⟩ = some (.int .i64 0) := (blk_cell BK520.out 0).trans rfl; have hcz17_1 : w16.cell? ⟨gb520, 1, none⟩ = some (.int .i64 0) := (blk_cell BK520.out 1).trans rfl; have hcz17_2 : w16.cell? ⟨gb520, 2, none⟩ = some (.int .i64 0) := (blk_cell BK520.out 2).trans rfl; have hfz17_0 := blk_frozen BK520.out 0; have hfz17_1 := blk_frozen BK520.out 1; have hfz17_2 := blk_frozen BK520.out 2))
         have n0_ : Aside0 (Kd.R (Kd.int .i64) 3 (((w16.setCell ⟨gb520, 0, none⟩ (.int .i64 ((rd_T61 t516 x12_1).f0))).setCell ⟨gb520, 1, none⟩ (.int .i64 ((rd_T61 t516 x12_1).f1))).setCell ⟨gb520, 2, none⟩ (.int .i64 ((rd_T61 t516 x12_1).f2))) w.heap.size (fun _ => True) u5 x5_1) := ⟨by (with_reducible repeat (first | apply Kd.R_alloc | apply Kd.R_drewN | apply Kd.R_drew)); exact Kd.R_mono (Kd.R_far (p := ⟨gb520, 2, none⟩) (Kd.R_far (p := ⟨gb520, 1, none⟩) (Kd.R_far (p := ⟨gb520, 0, none⟩) (Kd.R_types HO_5.out BK520.out (by decide)) (fun _ hk => hk.2) (.int .i64 ((rd_T61 t516 x12_1).f0))) (fun _ hk => hk.2) (.int .i64 ((rd_T61 t516 x12_1).f1))) (fun _ hk => hk.2) (.int .i64 ((rd_T61 t516 x12_1).f2))) (fun _ hk => trivial)⟩
         have n1_ : Aside0 (Kd.R k61 61 (((w16.setCell ⟨gb520, 0, none⟩ (.int .i64 ((rd_T61 t516 x12_1).f0))).setCell ⟨gb520, 1, none⟩ (.int .i64 ((rd_T61 t516 x12_1).f1))).setCell ⟨gb520, 2, none⟩ (.int .i64 ((rd_T61 t516 x12_1).f2))) w.heap.size (fun k_ => k_ ≠ gb520) (.slice (some ad519) t516.length co7) t516) := ⟨by (with_reducible repeat (first | apply Kd.R_alloc | apply Kd.R_drewN | apply Kd.R_drew)); exact Kd.R_mono (Kd.R_far (p := ⟨gb520, 2, none⟩) (Kd.R_far (p := ⟨gb520, 1, none⟩) (Kd.R_far (p := ⟨gb520, 0, none⟩) (Kd.R_mono HO_10.out (fun k_ hk => (⟨hk, hk.2⟩ : _ ∧ k_ ≠ gb520))) (fun _ hk => hk.2) (.int .i64 ((rd_T61 t516 x12_1).f0))) (fun _ hk => hk.2) (.int .i64 ((rd_T61 t516 x12_1).f1))) (fun _ hk => hk.2) (.int .i64 ((rd_T61 t516 x12_1).f2))) (fun _ hk => hk.1.2)⟩
         have n2_ : Aside0 ((((w16.setCell ⟨gb520, 0, none⟩ (.int .i64 ((rd_T61 t516 x12_1).f0))).setCell ⟨gb520, 1, none⟩ (.int .i64 ((rd_T61 t516 x12_1).f1))).setCell ⟨gb520, 2, none⟩ (.int .i64 ((rd_T61 t516 x12_1).f2))).heap[gb520]? = some (.cells #[.int .i64 ((rd_T61 t516 x12_1).f0), .int .i64 ((rd_T61 t516 x12_1).f1), .int .i64 ((rd_T61 t516 x12_1).f2)] 61 (0, 0))) := ⟨by (with_reducible repeat (first | refine blk_drewN ?_ _ | refine blk_drew ?_ | refine blk_alloc ?_ _)); refine blk_put (cs := #[.int .i64 ((rd_T61 t516 x12_1).f0), .int .i64 ((rd_T61 t516 x12_1).f1), .int .i64 0]) ?_ 2 _ rfl; (with_reducible repeat (first | refine blk_drewN ?_ _ | refine blk_drew ?_ | refine blk_alloc ?_ _)); refine blk_put (cs := #[.int .i64 ((rd_T61 t516 x12_1).f0), .int .i64 0, .int .i64 0]) ?_ 1 _ rfl; (with_reducible repeat (first | refine blk_drewN ?_ _ | refine blk_drew ?_ | refine blk_alloc ?_ _)); refine blk_put (cs := #[.int .i64 0, .int .i64 0, .int .i64 0]) ?_ 0 _ rfl; (with_reducible repeat (first | refine blk_drewN ?_ _ | refine blk_drew ?_ | refine blk_alloc ?_ _)); exact BK520.out⟩
         have n3_ : Aside0 (Below w.heap.size w (((w16.setCell ⟨gb520, 0, none⟩ (.int .i64 ((rd_T61 t516 x12_1).f0))).setCell ⟨gb520, 1, none⟩ (.int .i64 ((rd_T61 t516 x12_1).f1))).setCell ⟨gb520, 2, none⟩ (.int .i64 ((rd_T61 t516 x12_1).f2)))) := ⟨by repeat (first | (with_reducible first | exact HB.out | apply below_alloc | apply pw_below_drewN | apply below_drew1 | refine below_set ?_ GE520.out) | exact HB.out)⟩
         (try clear HO_5)
         (try clear HO_10)
         (try clear BK520)
         (try clear HB)
         generalize (((w16.setCell ⟨gb520, 0, none⟩ (.int .i64 ((rd_T61 t516 x12_1).f0))).setCell ⟨gb520, 1, none⟩ (.int .i64 ((rd_T61 t516 x12_1).f1))).setCell ⟨gb520, 2, none⟩ (.int .i64 ((rd_T61 t516 x12_1).f2))) = w18 at n0_ n1_ n2_ n3_ ⊢
         have HO_5 := n0_
         have HO_10 := n1_
         have BK520 := n2_
         have HB := n3_
         clear n0_ n1_ n2_ n3_
         have n0_ := Aside0.mk (Kd.R_drew HO_5.out)
         have n1_ := Aside0.mk (Kd.R_drew HO_10.out)
         have n2_ := Aside0.mk (blk_drew BK520.out)
         have n3_ := Aside0.mk (below_drew1 HB.out)
         clear HO_5
         clear HO_10
         clear BK520
         clear HB
         have HO_5 := n0_
         have HO_10 := n1_
         have BK520 := n2_
         have HB := n3_
         clear n0_ n1_ n2_ n3_
         have p522 : 0 ≤ (t521 : Int) := of_decide_eq_true AS
         have q522 : t521 < (l1.length : Int) := of_decide_eq_true AS
         obtain ⟨ad522, A522_0, c522_0, e522, hx522_0, hl522_0, hi522_0⟩ := at_L1 HR1.out t521 p522 q522
         have hw522_0 := hx522_0
         cases e522
         try (replace hx522_0 := (HB.out.cell (World.block_lt_of_cell? w _ hx522_0)).trans hx522_0)
         have HR522_0 := Aside0.mk hi522_0
         have HC522_0 := Aside0.mk hl522_0
         clear hi522_0 hl522_0
         replace p522 := eq_true p522
         replace q522 := eq_true q522
         refine start_ (n := 11) (S := fun w' => w'.cell? ⟨gb520, 0, none⟩ = some (.int .i64 ((rd_T61 t516 x12_1).f0)) ∧ w'.cell? ⟨gb520, 1, none⟩ = some (.int .i64 ((rd_T61 t516 x12_1).f1)) ∧ w'.cell? ⟨gb520, 2, none⟩ = some (.int .i64 ((rd_T61 t516 x12_1).f2)) ∧ w'.cell? (ad522.add (t521).toNat) = some (.slice A522_0 (rd_L1 l1 t521).length c522_0)) (ds := []) #[false, false, false, false, false, false, false, false, false, false, false] (by kernel_rfl) rfl rfl ⟨(blk_cell BK520.out 0).trans rfl, (blk_cell BK520.out 1).trans rfl, (blk_cell BK520.out 2).trans rfl, ((HB.out.cell (World.block_lt_of_cell? w _ hw522_0)).trans hw522_0)⟩ (fun hHeld => ?_); refine with_tabW impl_cakeLabels.tab5 impl_cakeLabels.bits5 (fun HT_ HW_ => ?_)
         generalize w18.drew = w19 at HO_5 HO_10 BK520 HB HR522_0 hx522_0 hHeld ⊢
         refine pure_ (i := 0) (N := some 16) #[true, false, false, false, false, false, false, false, false, false, false] rfl rfl (any_of HT_.out (by kernel_rfl)) (fun _ _ _ h => h) (Or.inl ⟨by rfl, PW⟩) PU ?_
         refine pure_ (i := 1) (N := some 17) #[true, true, false, false, false, false, false, false, false, false, false] rfl rfl (any_of HT_.out (by kernel_rfl)) (fun _ _ _ h => h) (Or.inl ⟨by rfl, PW⟩) PU ?_
         refine take_ (i := 2) (N := some 18) #[true, true, true, false, false, false, false, false, false, false, false] rfl rfl (take_ofW HT_.out HW_.out (by kernel_rfl)) (fun _ _ _ h => h) (Or.inl ⟨by rfl, PT⟩) hHeld PU ?_
         refine take_ (i := 6) (N := some 22) #[true, true, true, false, false, false, true, false, false, false, false] rfl rfl (take_ofW HT_.out HW_.out (by kernel_rfl)) (fun _ _ _ h => h) (Or.inl ⟨by rfl, PT⟩) hHeld PU ?_
         refine one_ (i := 3) (N := some 19) #[true, true, true, true, false, false, true, false, false, false, false] rfl rfl (one_of HT_.out (by kernel_rfl)) (by decide) (fun K hK => ?_)
         refine goes_ Try.func51 (by kernel_rfl) rfl #[.agg #[.int .i64 ((rd_T61 t516 x12_1).f0), .int .i64 ((rd_T61 t516 x12_1).f1), .int .i64 ((rd_T61 t516 x12_1).f2)]] (by rfl) rfl rfl TA ?_
         with_reducible refine (impl_owner.calls ((rd_T61 t516 x12_1).f0) ((rd_T61 t516 x12_1).f1) ((rd_T61 t516 x12_1).f2) t521 _ A11.out).mono ?_
         rintro e w20 ⟨rfl, hb⟩
         refine ⟨_, rfl, ?_⟩
         have n0_ := Aside0.mk (Kd.R_below (KR HO_5) hb)
         have n1_ := Aside0.mk (Kd.R_below (KR HO_10) hb)
         have n2_ := Aside0.mk (blk_below (g := gb520) (o := .cells #[.int .i64 ((rd_T61 t516 x12_1).f0), .int .i64 ((rd_T61 t516 x12_1).f1), .int .i64 ((rd_T61 t516 x12_1).f2)] 61 (0, 0)) (BW BK520) hb)
         have n3_ := Aside0.mk (below_step (by repeat (first | (with_reducible first | exact HB.out | apply below_alloc | apply pw_below_drewN | apply below_drew1 | refine below_set ?_ GE520.out) | exact HB.out)) hb)
         clear HO_5
         clear HO_10
         clear BK520
         clear HB
         have HO_5 := n0_
         have HO_10 := n1_
         have BK520 := n2_
         have HB := n3_
         clear n0_ n1_ n2_ n3_
         (try clear hb)
         (try clear hb2)
         (try clear hk)
         (try clear hi)
         refine hK.out _ _ ⟨(blk_cell BK520.out 0).trans rfl, (blk_cell BK520.out 1).trans rfl, (blk_cell BK520.out 2).trans rfl, ((HB.out.cell (World.block_lt_of_cell? w _ hw522_0)).trans hw522_0)⟩ (fun hHeld => ?_)
         clear hK K
         refine norm_ (a' := ?_) ?_ ?_
         rotate_left
         ·show Act.put _ (some 19) _ = _
          simp only [Act.put, List.setIfInBounds_toArray, List.set_cons_zero, List.set_cons_succ, i64_w, i32_w]
          rfl
         refine pure_ (i := 4) (N := some 20) #[true, true, true, true, true, false, true, false, false, false, false] rfl rfl (any_of HT_.out (by kernel_rfl)) (fun _ _ _ h => h) (Or.inl ⟨by rfl, PW⟩) PU ?_
         refine take_ (i := 5) (N := some 21) #[true, true, true, true, true, true, true, false, false, false, false] rfl rfl (take_ofW HT_.out HW_.out (by kernel_rfl)) (fun _ _ _ h => h) (Or.inl ⟨by rfl, PT⟩) hHeld PU ?_
         refine one_ (i := 7) (N := some 23) #[true, true, true, true, true, true, true, true, false, false, false] rfl rfl (one_of HT_.out (by kernel_rfl)) (by decide) (fun K hK => ?_)
         refine goes_ Try.func52 (by kernel_rfl) rfl #[.slice A522_0 (rd_L1 l1 t521).length c522_0, .agg #[.int .i64 ((rd_T61 t516 x12_1).f0), .int .i64 ((rd_T61 t516 x12_1).f1), .int .i64 ((rd_T61 t516 x12_1).f2)]] (by rfl) rfl rfl TA ?_
         with_reducible refine (impl_favourite.calls k1 _ _ (rd_L1 l1 t521) ((rd_T61 t516 x12_1).f0) ((rd_T61 t516 x12_1).f1) ((rd_T61 t516 x12_1).f2) t523 _ ?side1 ?side2 A14.out).mono ?_
         (case side1 => exact CW (Kd.C_below HR522_0.out HB.out))
         (case side2 => exact HC522_0.out)
         rintro e w21 ⟨rfl, hb⟩
         refine ⟨_, rfl, ?_⟩
         have n0_ := Aside0.mk (Kd.R_below (KR HO_5) hb)
         have n1_ := Aside0.mk (Kd.R_below (KR HO_10) hb)
         have n2_ := Aside0.mk (blk_below (g := gb520) (o := .cells #[.int .i64 ((rd_T61 t516 x12_1).f0), .int .i64 ((rd_T61 t516 x12_1).f1), .int .i64 ((rd_T61 t516 x12_1).f2)] 61 (0, 0)) (BW BK520) hb)
         have n3_ := Aside0.mk (below_step (by repeat (first | (with_reducible first | exact HB.out | apply below_alloc | apply pw_below_drewN | apply below_drew1 | refine below_set ?_ GE520.out) | exact HB.out)) hb)
         clear HO_5
         clear HO_10
         clear BK520
         clear HB
         have HO_5 := n0_
         have HO_10 := n1_
         have BK520 := n2_
         have HB := n3_
         clear n0_ n1_ n2_ n3_
         (try clear hb)
         (try clear hb2)
         (try clear hk)
         (try clear hi)
         refine hK.out _ _ ⟨(blk_cell BK520.out 0).trans rfl, (blk_cell BK520.out 1).trans rfl, (blk_cell BK520.out 2).trans rfl, ((HB.out.cell (World.block_lt_of_cell? w _ hw522_0)).trans hw522_0)⟩ (fun hHeld => ?_)
         clear hK K
         refine norm_ (a' := ?_) ?_ ?_
         rotate_left
         ·show Act.put _ (some 23) _ = _
          simp only [Act.put, List.setIfInBounds_toArray, List.set_cons_zero, List.set_cons_succ, i64_w, i32_w]
          rfl
         refine one_ (i := 8) (N := some 24) #[true, true, true, true, true, true, true, true, true, false, false] rfl rfl (one_of HT_.out (by kernel_rfl)) (by decide) (fun K hK => ?_)
         refine value_ (w1 := ?_) (v := ?_) (by rfl) rfl ?_ ?_
         rotate_left 2
         ·go_simp
          constructor
          ·rfl
          ·rfl
         refine hK.out _ _ ⟨(blk_cell (blk_alloc BK520.out _) 0).trans rfl, (blk_cell (blk_alloc BK520.out _) 1).trans rfl, (blk_cell (blk_alloc BK520.out _) 2).trans rfl, (World.cell?_alloc_lt _ _ _ (World.block_lt_of_cell? _ _ (((HB.out.cell (World.block_lt_of_cell? w _ hw522_0)).trans hw522_0)))).trans (((HB.out.cell (World.block_lt_of_cell? w _ hw522_0)).trans hw522_0))⟩ (fun hHeld => ?_)
         clear hK K
         refine norm_ (a' := ?_) ?_ ?_
         rotate_left
         ·show Act.put _ (some 24) _ = _
          simp only [Act.put, List.setIfInBounds_toArray, List.set_cons_zero, List.set_cons_succ, i64_w, i32_w]
          rfl
         refine one_ (i := 9) (N := some 25) #[true, true, true, true, true, true, true, true, true, true, false] rfl rfl (one_of HT_.out (by kernel_rfl)) (by decide) (fun K hK => ?_)
         refine Kd.R_append_step (Kd.int .i64) (w0 := w) w.heap.size (by rfl) (.tmp 16) (.tmp 24) 22 3 (.int .i64 0) 8 rfl Try.underlying22 info3 rfl (by decide) (by omega) u5 x5_1 t523 [.int .i64 t523] (fun _ => True) (fun _ => False) rfl rfl ?aP (fun _ hk => hk.elim) ?aF ?aO ?aB ?aS ?aL ?_
         (case aP => exact rfl)
         (case aB => exact (by repeat (first | (with_reducible first | exact HB.out | apply below_alloc | apply pw_below_drewN | apply below_drew1 | refine below_set ?_ GE520.out) | exact HB.out)))
         (case aF => exact (fun _ _ => trivial))
         (case aO => exact (KR HO_5))
         (case aS => exact (below_size (by repeat (first | (with_reducible first | exact HB.out | apply below_alloc | apply pw_below_drewN | apply below_drew1 | refine below_set ?_ GE520.out) | exact HB.out))))
         (case aL => have := LMc15.out; omega)
         intro v525 w22 ho hb hg hat
         rw [← Ny524.out] at ho
         have n0_ := Aside0.mk (Kd.R_over' (KR HO_10) (Kd.R_typed (KR HO_5)) (by decide) hg)
         have n1_ := Aside0.mk (blk_grown (g := gb520) (o := .cells #[.int .i64 ((rd_T61 t516 x12_1).f0), .int .i64 ((rd_T61 t516 x12_1).f1), .int .i64 ((rd_T61 t516 x12_1).f2)] 61 (0, 0)) (BW BK520) hg (Kd.R_ne HO_5.out BK520.out (by decide)))
         have n2_ := Aside0.mk (hb)
         have n3_ := Aside0.mk (ho)
         clear HO_10
         clear BK520
         clear HB
         clear HO_5
         have HO_10 := n0_
         have BK520 := n1_
         have HB := n2_
         have HO526 := n3_
         clear n0_ n1_ n2_ n3_
         clear ho hb hg hat
         refine hK.out _ _ ⟨(blk_cell BK520.out 0).trans rfl, (blk_cell BK520.out 1).trans rfl, (blk_cell BK520.out 2).trans rfl, ((HB.out.cell (World.block_lt_of_cell? w _ hw522_0)).trans hw522_0)⟩ (fun hHeld => ?_)
         clear hK K
         refine norm_ (a' := ?_) ?_ ?_
         rotate_left
         ·show Act.put _ (some 25) _ = _
          simp only [Act.put, List.setIfInBounds_toArray, List.set_cons_zero, List.set_cons_succ, i64_w, i32_w]
          rfl
         refine pure_ (i := 10) (N := some 5) #[true, true, true, true, true, true, true, true, true, true, true] rfl rfl (any_of HT_.out (by kernel_rfl)) (fun _ _ _ h => h) (Or.inl ⟨by rfl, PW⟩) PU ?_
         refine done_ (done_of HT_.out (by kernel_rfl)) ?_
         try go_wp2
         go_roundg k1
         case measure => have := HK1.out; omega
         case rel => exact ⟨(y524), (wrap64 (x12_1 + 1)), RF, H', ⟨by have := HK1.out; omega⟩, ⟨KR HO526⟩, ⟨by (with_reducible repeat (first | apply Kd.R_alloc | apply Kd.R_drewN | apply Kd.R_drew)); exact Kd.R_mono HO_10.out (fun _ hk => trivial)⟩, ⟨by repeat (first | (with_reducible first | exact HB.out | apply below_alloc | apply pw_below_drewN | apply below_drew1 | refine below_set ?_ GE520.out) | exact HB.out)⟩⟩
        ·rw [if_neg c15] at H
         cases H
       ·rw [if_neg c13] at H
        cases H
      ·rw [if_neg c12] at H
       cases H
     ·rw [if_neg c10] at H
      cases H
    ·rw [if_neg c9] at H
     cases H
   ·rw [if_neg c8] at H
    have c8b0 : decide (x12_1 < (t516.length : Int)) = false := decide_eq_false c8
    clear c8
    obtain rfl := Option.some.inj H
    go_wp2
    go_ret
    exact ⟨_, RE, KR HO_5, BB⟩

/-! ### impl_FairCell: function 17 -/
def impl_FairCell.f (k : Nat) (a0 : Int) (l1 : List (List Int)) : Option (Int × Bool) := (impl_areTastes.f k a0 l1).bind fun t527 => (if t527 = true then ((impl_cakeLabels.f k a0 l1).bind fun t528 => ((impl_FindFull.f k a0 t528).bind fun bt531 => (some (bt531.1, bt531.2)))) else (some (0, false)))
theorem impl_FairCell.mono : ∀ a0 a1 k, LeO (impl_FairCell.f k a0 a1) (impl_FairCell.f (k + 1) a0 a1) := by
 intro a0 a1 k
 unfold impl_FairCell.f
 repeat' first
   | with_reducible first | exact impl_FindFull.mono _ _ _ | exact impl_areTastes.mono _ _ _ | exact impl_cakeLabels.mono _ _ _ | exact LeO.refl _ | exact LeO.none _ | refine LeO.ite ?_ ?_ | refine LeO.bind ?_ (fun _ => ?_)
   | exact LeO.none _ | refine LeO.ite ?_ ?_ | refine LeO.bind ?_ (fun _ => ?_)
theorem impl_FairCell.calls (k : Nat) (a0 : Int) (A1 : Option Addr) (c1 : Nat) (l1 : List (List Int)) (r1 : Int) (r2 : Bool) (w : World) (hr1 : Kd.C (Kd.slice 3 (Kd.int .i64)) w A1 l1.length l1) (hc1 : l1.length ≤ c1) (h : impl_FairCell.f k a0 l1 = some (r1, r2)) :
  Calls Try.prog 17 #[.int .i64 a0, .slice A1 l1.length c1] w fun e w' => e = .returned (.tuple #[.int .i64 r1, .bool r2]) ∧ Below w.heap.size w w' := by
 have HR1 := Aside0.mk hr1
 have HC1 := Aside0.mk hc1
 clear hr1 hc1
 have HB := Aside0.mk (Below.refl w.heap.size w)
 have H : ((impl_areTastes.f k a0 l1).bind fun t527 => (if t527 = true then ((impl_cakeLabels.f k a0 l1).bind fun t528 => ((impl_FindFull.f k a0 t528).bind fun bt531 => (some (bt531.1, bt531.2)))) else (some (0, false)))) = some (r1, r2) := h
 clear h
 obtain ⟨t527, A30, H⟩ := Option.bind_eq_some_iff.mp H
 have A3 := Aside0.mk A30
 clear A30
 by_cases c4 : t527 = true
 ·subst c4
  replace H := IP H
  obtain ⟨t528, A50, H⟩ := Option.bind_eq_some_iff.mp H
  have A5 := Aside0.mk A50
  clear A50
  obtain ⟨⟨t531, t532⟩, A60, H⟩ := Option.bind_eq_some_iff.mp H
  replace H : (some (t531, t532)) = some (r1, r2) := H
  have A6 := Aside0.mk A60
  clear A60
  simp only [Option.some.injEq, Prod.mk.injEq] at H
  obtain ⟨rfl, rfl⟩ := H
  go_enter Try.func17, Try.ntmps17
  go_wp2_with (first | ((with_reducible refine gate_callee (f := 46) rfl ?_); refine goesL_ (some 8) rfl rfl Try.func46 (by kernel_rfl) rfl #[.int .i64 a0, .slice A1 l1.length c1] rfl TA ?_; (with_reducible refine (impl_areTastes.calls k a0 _ _ l1 true _ ?side1 ?side2 A3.out).mono ?_); (case side1 => exact CW HR1.out); (case side2 => exact HC1.out); rintro e w7 ⟨rfl, hb⟩; refine ⟨_, rfl, ?_⟩; have n0_ := Aside0.mk (below_step BB hb); clear HB; have HB := n0_; clear n0_; (try clear hb); (try clear hb2); (try clear hk); (try clear hi)) | ((with_reducible refine gate_callee (f := 47) rfl ?_); refine goesL_ (some 13) rfl rfl Try.func47 (by kernel_rfl) rfl #[.int .i64 a0, .slice A1 l1.length c1] rfl TA ?_; (with_reducible refine (impl_cakeLabels.calls k a0 _ _ l1 t528 _ ?side1 ?side2 A5.out).mono ?_); (case side1 => exact CW (Kd.C_below HR1.out HB.out)); (case side2 => exact HC1.out); rintro e w8 ⟨v529, rfl, ho0, hb⟩; refine ⟨_, rfl, ?_⟩; have n0_ := Aside0.mk (Kd.R_lower ho0 (below_size BB)); have n1_ := Aside0.mk (below_step BB hb); clear HB; have HO530 := n0_; have HB := n1_; clear n0_ n1_; (try clear hb); (try clear hb2); (try clear hk); (try clear hi); (try clear ho0); obtain ⟨Ao9, co9, eo9⟩ := Kd.R_slice HO530.out; subst eo9) | ((with_reducible refine gate_callee (f := 42) rfl ?_); refine goesL_ (some 14) rfl rfl Try.func42 (by kernel_rfl) rfl #[.int .i64 a0, .slice Ao9 t528.length co9] rfl TA ?_; (with_reducible refine (impl_FindFull.calls k a0 _ _ t528 t531 t532 _ ?side1 ?side2 A6.out).mono ?_); (case side1 => exact CW (Kd.R_reads' HO530.out).2.2); (case side2 => exact (Kd.R_reads' HO530.out).2.1); rintro e w10 ⟨rfl, hb⟩; refine ⟨_, rfl, ?_⟩; have n0_ := Aside0.mk (Kd.R_below (KR HO530) hb); have n1_ := Aside0.mk (below_step BB hb); clear HO530; clear HB; have HO530 := n0_; have HB := n1_; clear n0_ n1_; (try clear hb); (try clear hb2); (try clear hk); (try clear hi)))
  go_ret2
  exact ⟨RE, BB⟩
 ·replace c4 := Bool.eq_false_iff.mpr c4
  subst c4
  replace H := IN H
  simp only [Option.some.injEq, Prod.mk.injEq] at H
  obtain ⟨rfl, rfl⟩ := H
  go_enter Try.func17, Try.ntmps17
  go_wp2_with (first | ((with_reducible refine gate_callee (f := 46) rfl ?_); refine goesL_ (some 8) rfl rfl Try.func46 (by kernel_rfl) rfl #[.int .i64 a0, .slice A1 l1.length c1] rfl TA ?_; (with_reducible refine (impl_areTastes.calls k a0 _ _ l1 false _ ?side1 ?side2 A3.out).mono ?_); (case side1 => exact CW HR1.out); (case side2 => exact HC1.out); rintro e w11 ⟨rfl, hb⟩; refine ⟨_, rfl, ?_⟩; have n0_ := Aside0.mk (below_step BB hb); clear HB; have HB := n0_; clear n0_; (try clear hb); (try clear hb2); (try clear hk); (try clear hi)))
  go_ret2
  exact ⟨RE, BB⟩

/-! ### laws_FnExactFairCell: function 5 -/
def laws_FnExactFairCell.j0 : Nat → List (List Int) → List (List Int) → Bool → Option (Bool)
 | 0, _, _, _ => none
 | k + 1, x1, x8, x38 => if x38 = true then (some false) else ((laws_toIntSS.f k x1).bind fun t544 => ((laws_eqIntSS.f k x8 t544).bind fun t547 => (if t547 = true then (some true) else (some false))))
def laws_FnExactFairCell.f (k : Nat) (a0 : Int) (l1 : List (List Int)) : Option (Bool) := (laws_szIntSS.f k l1 1048576).bind fun t533 => (if t533 < 0 then (some true) else ((laws_toIntSS.f k l1).bind fun t534 => ((spec_FairCell.f k a0 t534).bind fun bt537 => ((laws_toIntSS.f k l1).bind fun t539 => ((impl_FairCell.f k a0 t539).bind fun bt542 => (if bt542.1 = bt537.1 then (laws_FnExactFairCell.j0 k l1 t539 (bt542.2 != bt537.2)) else (laws_FnExactFairCell.j0 k l1 t539 true)))))))
theorem laws_FnExactFairCell.mono_l : ∀ k, (∀ y0 y1 y2, LeO (laws_FnExactFairCell.j0 k y0 y1 y2) (laws_FnExactFairCell.j0 (k + 1) y0 y1 y2))
 | 0 => fun _ _ _ r h => by simp [laws_FnExactFairCell.j0] at h
 | k + 1 => by
  have ih0 := laws_FnExactFairCell.mono_l k
  ·intro y0 y1 y2
   unfold laws_FnExactFairCell.j0
   repeat' first
   | with_reducible first | exact ih0 _ _ _ | exact impl_FairCell.mono _ _ _ | exact laws_eqIntSS.mono _ _ _ | exact laws_szIntSS.mono _ _ _ | exact laws_toIntSS.mono _ _ | exact spec_FairCell.mono _ _ _ | exact LeO.refl _ | exact LeO.none _ | refine LeO.ite ?_ ?_ | refine LeO.bind ?_ (fun _ => ?_)
   | exact LeO.none _ | refine LeO.ite ?_ ?_ | refine LeO.bind ?_ (fun _ => ?_)
theorem laws_FnExactFairCell.mono : ∀ a0 a1 k, LeO (laws_FnExactFairCell.f k a0 a1) (laws_FnExactFairCell.f (k + 1) a0 a1) := by
 intro a0 a1 k
 have ih0 := laws_FnExactFairCell.mono_l k
 unfold laws_FnExactFairCell.f
 repeat' first
   | with_reducible first | exact ih0 _ _ _ | exact impl_FairCell.mono _ _ _ | exact laws_eqIntSS.mono _ _ _ | exact laws_szIntSS.mono _ _ _ | exact laws_toIntSS.mono _ _ | exact spec_FairCell.mono _ _ _ | exact LeO.refl _ | exact LeO.none _ | refine LeO.ite ?_ ?_ | refine LeO.bind ?_ (fun _ => ?_)
   | exact LeO.none _ | refine LeO.ite ?_ ?_ | refine LeO.bind ?_ (fun _ => ?_)
theorem laws_FnExactFairCell.calls (k : Nat) (a0 : Int) (A1 : Option Addr) (c1 : Nat) (l1 : List (List Int)) (r : Bool) (w : World) (hr1 : Kd.C (Kd.slice 3 (Kd.int .i64)) w A1 l1.length l1) (hc1 : l1.length ≤ c1) (h : laws_FnExactFairCell.f k a0 l1 = some r) :
  Calls Try.prog 5 #[.int .i64 a0, .slice A1 l1.length c1] w fun e w' => e = .returned (.bool r) ∧ Below w.heap.size w w' := by
 have HR1 := Aside0.mk hr1
 have HC1 := Aside0.mk hc1
 clear hr1 hc1
 have HB := Aside0.mk (Below.refl w.heap.size w)
 have H : ((laws_szIntSS.f k l1 1048576).bind fun t533 => (if t533 < 0 then (some true) else ((laws_toIntSS.f k l1).bind fun t534 => ((spec_FairCell.f k a0 t534).bind fun bt537 => ((laws_toIntSS.f k l1).bind fun t539 => ((impl_FairCell.f k a0 t539).bind fun bt542 => (if bt542.1 = bt537.1 then (laws_FnExactFairCell.j0 k l1 t539 (bt542.2 != bt537.2)) else (laws_FnExactFairCell.j0 k l1 t539 true)))))))) = some r := h
 clear h
 obtain ⟨t533, A30, H⟩ := Option.bind_eq_some_iff.mp H
 have A3 := Aside0.mk A30
 clear A30
 by_cases c4 : t533 < 0
 ·rw [if_pos c4] at H
  have c4b0 : decide (t533 < 0) = true := decide_eq_true c4
  clear c4
  obtain rfl := Option.some.inj H
  go_enter Try.func5, Try.ntmps5
  go_wp2_with (first | ((with_reducible refine gate_callee (f := 11) rfl ?_); refine goesL_ (some 13) rfl rfl Try.func11 (by kernel_rfl) rfl #[.slice A1 l1.length c1, .int .i64 1048576] rfl TA ?_; (with_reducible refine (laws_szIntSS.calls k _ _ l1 1048576 t533 _ ?side1 ?side2 A3.out).mono ?_); (case side1 => exact CW HR1.out); (case side2 => exact HC1.out); rintro e w' ⟨rfl, ⟨nd, rfl⟩⟩; refine ⟨_, rfl, ?_⟩))
  go_ret
  exact ⟨RE, BB⟩
 ·rw [if_neg c4] at H
  have c4b0 : decide (t533 < 0) = false := decide_eq_false c4
  clear c4
  obtain ⟨t534, A50, H⟩ := Option.bind_eq_some_iff.mp H
  have A5 := Aside0.mk A50
  clear A50
  obtain ⟨⟨t537, t538⟩, A60, H⟩ := Option.bind_eq_some_iff.mp H
  replace H : ((laws_toIntSS.f k l1).bind fun t539 => ((impl_FairCell.f k a0 t539).bind fun bt542 => (if bt542.1 = t537 then (laws_FnExactFairCell.j0 k l1 t539 (bt542.2 != t538)) else (laws_FnExactFairCell.j0 k l1 t539 true)))) = some r := H
  have A6 := Aside0.mk A60
  clear A60
  obtain ⟨t539, A70, H⟩ := Option.bind_eq_some_iff.mp H
  have A7 := Aside0.mk A70
  clear A70
  obtain ⟨⟨t542, t543⟩, A80, H⟩ := Option.bind_eq_some_iff.mp H
  replace H : (if t542 = t537 then (laws_FnExactFairCell.j0 k l1 t539 (t543 != t538)) else (laws_FnExactFairCell.j0 k l1 t539 true)) = some r := H
  have A8 := Aside0.mk A80
  clear A80
  have HC9 := Aside0.mk H
  clear H
  go_enter Try.func5, Try.ntmps5
  go_upto_region 8 with (first | ((with_reducible refine gate_callee (f := 11) rfl ?_); refine goesL_ (some 13) rfl rfl Try.func11 (by kernel_rfl) rfl #[.slice A1 l1.length c1, .int .i64 1048576] rfl TA ?_; (with_reducible refine (laws_szIntSS.calls k _ _ l1 1048576 t533 _ ?side1 ?side2 A3.out).mono ?_); (case side1 => exact CW HR1.out); (case side2 => exact HC1.out); rintro e w' ⟨rfl, ⟨nd, rfl⟩⟩; refine ⟨_, rfl, ?_⟩) | ((with_reducible refine gate_callee (f := 13) rfl ?_); refine goesL_ (some 19) rfl rfl Try.func13 (by kernel_rfl) rfl #[.slice A1 l1.length c1] rfl TA ?_; (with_reducible refine (laws_toIntSS.calls k _ _ l1 t534 _ ?side1 ?side2 A5.out).mono ?_); (case side1 => exact CW HR1.out); (case side2 => exact HC1.out); rintro e w10 ⟨v535, rfl, ho0, hb⟩; refine ⟨_, rfl, ?_⟩; have n0_ := Aside0.mk (Kd.S_lower ho0 (below_size BB)); have n1_ := Aside0.mk (below_step BB hb); clear HB; have HO536 := n0_; have HB := n1_; clear n0_ n1_; (try clear hb); (try clear hb2); (try clear hk); (try clear hi); (try clear ho0); obtain ⟨Ao11, co11, eo11⟩ := Kd.S_slice HO536.out; subst eo11) | ((with_reducible refine gate_callee (f := 16) rfl ?_); refine goesL_ (some 20) rfl rfl Try.func16 (by kernel_rfl) rfl #[.int .i64 a0, .slice Ao11 t534.length co11] rfl TA ?_; (with_reducible refine (spec_FairCell.calls k a0 _ _ t534 t537 t538 _ ?side1 ?side2 A6.out).mono ?_); (case side1 => exact CW (Kd.S_reads' HO536.out).2.2); (case side2 => exact (Kd.S_reads' HO536.out).2.1); rintro e w12 ⟨rfl, hb⟩; refine ⟨_, rfl, ?_⟩; have n0_ := Aside0.mk (Kd.S_below (KS HO536) hb); have n1_ := Aside0.mk (below_step BB hb); clear HO536; clear HB; have HO536 := n0_; have HB := n1_; clear n0_ n1_; (try clear hb); (try clear hb2); (try clear hk); (try clear hi)) | ((with_reducible refine gate_callee (f := 13) rfl ?_); refine goesL_ (some 24) rfl rfl Try.func13 (by kernel_rfl) rfl #[.slice A1 l1.length c1] rfl TA ?_; (with_reducible refine (laws_toIntSS.calls k _ _ l1 t539 _ ?side1 ?side2 A7.out).mono ?_); (case side1 => exact CW (Kd.C_below HR1.out HB.out)); (case side2 => exact HC1.out); rintro e w13 ⟨v540, rfl, ho0, hb⟩; refine ⟨_, rfl, ?_⟩; have n0_ := Aside0.mk (Kd.S_elder' (KS HO536) (Kd.S_base ho0) hb); have n1_ := Aside0.mk (Kd.S_lower (Kd.S_new' ho0 (Kd.S_lt (KS HO536))) (below_size BB)); have n2_ := Aside0.mk (below_step BB hb); clear HO536; clear HB; have HO536 := n0_; have HO541 := n1_; have HB := n2_; clear n0_ n1_ n2_; (try clear hb); (try clear hb2); (try clear hk); (try clear hi); (try clear ho0); obtain ⟨Ao14, co14, eo14⟩ := Kd.S_slice HO541.out; subst eo14) | ((with_reducible refine gate_callee (f := 17) rfl ?_); refine goesL_ (some 28) rfl rfl Try.func17 (by kernel_rfl) rfl #[.int .i64 a0, .slice Ao14 t539.length co14] rfl TA ?_; (with_reducible refine (impl_FairCell.calls k a0 _ _ t539 t542 t543 _ ?side1 ?side2 A8.out).mono ?_); (case side1 => exact CW (Kd.S_reads' HO541.out).2.2); (case side2 => exact (Kd.S_reads' HO541.out).2.1); rintro e w15 ⟨rfl, hb⟩; refine ⟨_, rfl, ?_⟩; have n0_ := Aside0.mk (Kd.S_below (KS HO536) hb); have n1_ := Aside0.mk (Kd.S_below (KS HO541) hb); have n2_ := Aside0.mk (below_step BB hb); clear HO536; clear HO541; clear HB; have HO536 := n0_; have HO541 := n1_; have HB := n2_; clear n0_ n1_ n2_; (try clear hb); (try clear hb2); (try clear hk); (try clear hi)))
  (try simp only [Act.put, List.setIfInBounds_toArray, List.set_cons_zero, List.set_cons_succ])
  go_cut [38] (fun v38 wc => ∃ (kq : Nat) (x38_8 : Bool), v38 = .bool x38_8 ∧ Aside0 (laws_FnExactFairCell.j0 kq l1 t539 x38_8 = some r) ∧ Aside0 (kq ≤ k) ∧ Aside0 (Kd.S (Kd.slice 3 (Kd.int .i64)) 22 wc w.heap.size (fun _ => True) (.slice Ao14 t539.length co14) t539) ∧ Aside0 (Below w.heap.size w wc))
  case first =>
   have H := HC9.out
   clear HC9
   by_cases c16 : t542 = t537
   ·rw [if_pos c16] at H
    have c16b0 : (t542 == t537) = true := beq_iff_eq.mpr c16
    have c16b1 : (t542 != t537) = false := bne_eq_false_iff_eq.mpr c16
    clear c16
    (first | rw [c16b0] | (simp only [i64_w, i32_w]; rw [c16b0]) | skip)
    have H' := Aside0.mk H
    clear H
    go_wp2
    go_meet
    case rel => exact ⟨_, ((t543 != t538)), RF, H', ⟨by first | omega | exact Nat.le_refl _⟩, ⟨by (with_reducible repeat (first | apply Kd.S_alloc | apply Kd.S_drewN | apply Kd.S_drew)); exact Kd.S_mono HO541.out (fun _ hk => trivial)⟩, ⟨BB⟩⟩
   ·rw [if_neg c16] at H
    have c16b0 : (t542 == t537) = false := beq_eq_false_iff_ne.mpr c16
    have c16b1 : (t542 != t537) = true := bne_iff_ne.mpr c16
    (first | rw [c16b0] | (simp only [i64_w, i32_w]; rw [c16b0]) | skip)
    have H' := Aside0.mk H
    clear H
    go_wp2
    go_meet
    case rel => exact ⟨_, (true), RF, H', ⟨by first | omega | exact Nat.le_refl _⟩, ⟨by (with_reducible repeat (first | apply Kd.S_alloc | apply Kd.S_drewN | apply Kd.S_drew)); exact Kd.S_mono HO541.out (fun _ hk => trivial)⟩, ⟨BB⟩⟩
  case rest =>
   clear HC9
   try clear c1
   try clear p2
   try clear c4
   try clear c4b0
   try clear c5
   try clear p6
   try clear c11
   try clear c13
   try clear c16
   try clear c16b0
   try clear c16b1
   obtain ⟨kq, x38_8, rfl, HA, HJ8, HO_8, HB⟩ := hcut
   cases kq with
   | zero => exact absurd HA.out (by simp [laws_FnExactFairCell.j0])
   | succ kj8 =>
    have H := HA.out
    clear HA
    simp only [laws_FnExactFairCell.j0] at H
    by_cases c17 : x38_8 = true
    ·subst c17
     replace H := IP H
     obtain rfl := Option.some.inj H
     go_wp2
     go_ret
     exact ⟨RE, BB⟩
    ·replace c17 := Bool.eq_false_iff.mpr c17
     subst c17
     replace H := IN H
     obtain ⟨t544, A180, H⟩ := Option.bind_eq_some_iff.mp H
     have A18 := Aside0.mk A180
     clear A180
     obtain ⟨t547, A190, H⟩ := Option.bind_eq_some_iff.mp H
     have A19 := Aside0.mk A190
     clear A190
     by_cases c20 : t547 = true
     ·subst c20
      replace H := IP H
      obtain rfl := Option.some.inj H
      go_wp2_with (first | ((with_reducible refine gate_callee (f := 13) rfl ?_); refine goesL_ (some 41) rfl rfl Try.func13 (by kernel_rfl) rfl #[.slice A1 l1.length c1] rfl TA ?_; (with_reducible refine (laws_toIntSS.calls kj8 _ _ l1 t544 _ ?side1 ?side2 A18.out).mono ?_); (case side1 => exact CW (Kd.C_below HR1.out HB.out)); (case side2 => exact HC1.out); rintro e w21 ⟨v545, rfl, ho0, hb⟩; refine ⟨_, rfl, ?_⟩; have n0_ := Aside0.mk (Kd.S_elder' (KS HO_8) (Kd.S_base ho0) hb); have n1_ := Aside0.mk (Kd.S_lower (Kd.S_new' ho0 (Kd.S_lt (KS HO_8))) (below_size BB)); have n2_ := Aside0.mk (below_step BB hb); clear HO_8; clear HB; have HO_8 := n0_; have HO546 := n1_; have HB := n2_; clear n0_ n1_ n2_; (try clear hb); (try clear hb2); (try clear hk); (try clear hi); (try clear ho0); obtain ⟨Ao22, co22, eo22⟩ := Kd.S_slice HO546.out; subst eo22) | ((with_reducible refine gate_callee (f := 15) rfl ?_); refine goesL_ (some 42) rfl rfl Try.func15 (by kernel_rfl) rfl #[.slice Ao14 t539.length co14, .slice Ao22 t544.length co22] rfl TA ?_; (with_reducible refine (laws_eqIntSS.calls kj8 _ _ t539 _ _ t544 true _ ?side1 ?side2 ?side3 ?side4 A19.out).mono ?_); (case side1 => exact CW (Kd.S_reads' HO_8.out).2.2); (case side2 => exact (Kd.S_reads' HO_8.out).2.1); (case side3 => exact CW (Kd.S_reads' HO546.out).2.2); (case side4 => exact (Kd.S_reads' HO546.out).2.1); rintro e w' ⟨rfl, ⟨nd, rfl⟩⟩; refine ⟨_, rfl, ?_⟩))
      go_ret
      exact ⟨RE, BB⟩
     ·replace c20 := Bool.eq_false_iff.mpr c20
      subst c20
      replace H := IN H
      obtain rfl := Option.some.inj H
      go_wp2_with (first | ((with_reducible refine gate_callee (f := 13) rfl ?_); refine goesL_ (some 41) rfl rfl Try.func13 (by kernel_rfl) rfl #[.slice A1 l1.length c1] rfl TA ?_; (with_reducible refine (laws_toIntSS.calls kj8 _ _ l1 t544 _ ?side1 ?side2 A18.out).mono ?_); (case side1 => exact CW (Kd.C_below HR1.out HB.out)); (case side2 => exact HC1.out); rintro e w23 ⟨v545, rfl, ho0, hb⟩; refine ⟨_, rfl, ?_⟩; have n0_ := Aside0.mk (Kd.S_elder' (KS HO_8) (Kd.S_base ho0) hb); have n1_ := Aside0.mk (Kd.S_lower (Kd.S_new' ho0 (Kd.S_lt (KS HO_8))) (below_size BB)); have n2_ := Aside0.mk (below_step BB hb); clear HO_8; clear HB; have HO_8 := n0_; have HO546 := n1_; have HB := n2_; clear n0_ n1_ n2_; (try clear hb); (try clear hb2); (try clear hk); (try clear hi); (try clear ho0); obtain ⟨Ao24, co24, eo24⟩ := Kd.S_slice HO546.out; subst eo24) | ((with_reducible refine gate_callee (f := 15) rfl ?_); refine goesL_ (some 42) rfl rfl Try.func15 (by kernel_rfl) rfl #[.slice Ao14 t539.length co14, .slice Ao24 t544.length co24] rfl TA ?_; (with_reducible refine (laws_eqIntSS.calls kj8 _ _ t539 _ _ t544 false _ ?side1 ?side2 ?side3 ?side4 A19.out).mono ?_); (case side1 => exact CW (Kd.S_reads' HO_8.out).2.2); (case side2 => exact (Kd.S_reads' HO_8.out).2.1); (case side3 => exact CW (Kd.S_reads' HO546.out).2.2); (case side4 => exact (Kd.S_reads' HO546.out).2.1); rintro e w' ⟨rfl, ⟨nd, rfl⟩⟩; refine ⟨_, rfl, ?_⟩))
      go_ret
      exact ⟨RE, BB⟩

end Go.Proofs.Ytgpplbaloajgdab.PFnExactFairCell
