/- The law's text, and what it rests on, in one. -/
import Derived.Test.YthkdkgbcokpbaaaPFnRentsAreFairx
import Derived.Laws.Bits64b
import Derived.KernelRfl
/-! Plain lemmas on numbers and rounds. -/
namespace Go.Proofs.Ythkdkgbcokpbaaa.QFnRentsAreFair
open Go.RowKit Go.Proofs.Ythkdkgbcokpbaaa.PFnRentsAreFair Go.Proofs.YthkdkgbcokpbaaaW.PrintWords Go.Proofs.YthkdkgbcokpbaaaW.PrintLast Go.Proofs.YthkdkgbcokpbaaaW.PrintMore
set_option linter.unusedVariables false
set_option linter.unusedSimpArgs false
theorem wr {x : Int} (h : -9223372036854775808 ≤ x) (h' : x ≤ 9223372036854775807) : wrap64 x = x := by unfold wrap64; omega
theorem ev_eq {α : Type} {g : Nat → Option α} {r s : α} (h : Ev g r) (e : r = s) : Ev g s := e ▸ h
theorem ev_const {α : Type} {o : Option α} {r : α} (h : o = some r) : Ev (fun _ => o) r := ⟨0, fun _ _ => h⟩
/-- The values of two runs of one program are the same. -/
theorem ev_one {α : Type} {g : Nat → Option α} {r s : α} (h : Ev g r) (h' : Ev g s) : r = s := by
  obtain ⟨K, h⟩ := h
  obtain ⟨K', h'⟩ := h'
  have a := h (max K K') (by omega)
  have b := h' (max K K') (by omega)
  rw [a] at b
  exact Option.some.inj b
theorem ev_bind0 {α β : Type} {o : Option α} {f : Nat → α → Option β} {a : α} {r : β} (h : o = some a) (k : Ev (fun n => f n a) r) : Ev (fun n => o.bind (f n)) r :=
  Ev.bind (g := fun _ => o) (ev_const h) k
theorem ev_pos {α : Type} {c : Prop} [Decidable c] {f g : Nat → Option α} {r : α} (h : c) (k : Ev f r) : Ev (fun n => if c then f n else g n) r := Ev.congr (fun _ => if_pos h) k
theorem ev_neg {α : Type} {c : Prop} [Decidable c] {f g : Nat → Option α} {r : α} (h : ¬ c) (k : Ev g r) : Ev (fun n => if c then f n else g n) r := Ev.congr (fun _ => if_neg h) k
theorem rd_get {l : List Int} {i : Int} (h0 : 0 ≤ i) (h : i < l.length) : l[i.toNat]? = some (rd l i) := by
  unfold rd
  rw [List.getD_eq_getElem?_getD, List.getElem?_eq_getElem (by omega)]
  rfl
theorem rd_nat (l : List Int) (i : Nat) : rd l (i : Int) = l.getD i 0 := rfl
theorem rd_one (x : Int) : rd [x] 0 = x := rfl
end Go.Proofs.Ythkdkgbcokpbaaa.QFnRentsAreFair
/-! Triangles: points of the program and of the reference, as plain functions. -/
namespace Go.Proofs.Ythkdkgbcokpbaaa.QFnRentsAreFair
open Go.RowKit Go.Proofs.Ythkdkgbcokpbaaa.PFnRentsAreFair Go.Proofs.YthkdkgbcokpbaaaW.PrintWords Go.Proofs.YthkdkgbcokpbaaaW.PrintLast Go.Proofs.YthkdkgbcokpbaaaW.PrintMore
set_option linter.unusedVariables false
set_option linter.unusedSimpArgs false
set_option maxRecDepth 100000
abbrev Pt := S49
abbrev rdP : List Pt → Int → Pt := rd_T49
def ptsFn (n : Nat) : List Pt := (List.range (n + 1)).flatMap fun (r : Nat) => (List.range (r + 1)).map fun (c : Nat) => (⟨(n : Int) - r, (r : Int) - c, (c : Int)⟩ : Pt)
def many (n : Nat) : Nat := (n + 1) * (n + 2) / 2
instance instPtEq : DecidableEq Pt := fun x y =>
  if h : x.f0 = y.f0 ∧ x.f1 = y.f1 ∧ x.f2 = y.f2 then .isTrue (by
    obtain ⟨a, b, c⟩ := x
    obtain ⟨d, e, f⟩ := y
    obtain ⟨h1, h2, h3⟩ := h
    simp only at h1 h2 h3
    subst h1 h2 h3
    rfl)
  else .isFalse (fun e => h (by subst e; exact ⟨rfl, rfl, rfl⟩))
theorem points_at : ((List.range 9).all fun n => n == 0 || (impl_points.f 120 (n : Int) == some (ptsFn n))) = true := by decide +kernel
theorem pts_len : ((List.range 9).all fun n => n == 0 || (ptsFn n).length == many n) = true := by decide +kernel
theorem at_spec : ((List.range 9).all fun n => n == 0 || (List.range 45).all fun i => decide (many n ≤ i) || (spec_meAt.f 20 (n : Int) (i : Int) == some [(rdP (ptsFn n) i).f0, (rdP (ptsFn n) i).f1, (rdP (ptsFn n) i).f2])) = true := by decide +kernel
theorem wn (j : Nat) (h : j < 1000000000) : wrap64 ((j : Int) + 1) = ((j + 1 : Nat) : Int) := by rw [wr (by omega) (by omega)]; omega
structure Side (n : Nat) : Prop where
  lo : 1 ≤ n
  hi : n ≤ 8
theorem Side.points {n : Nat} (h : Side n) : Ev (fun k => impl_points.f k (n : Int)) (ptsFn n) := by
  have a := List.all_eq_true.1 points_at n (by simp; have := h.hi; omega)
  have z : (n == 0) = false := by simp; have := h.lo; omega
  rw [z, Bool.false_or] at a
  exact Ev.of (fun k => impl_points.mono _ k) (eq_of_beq a)
theorem many_le {n : Nat} (h : n ≤ 8) : many n ≤ 45 := by
  have : n = 0 ∨ n = 1 ∨ n = 2 ∨ n = 3 ∨ n = 4 ∨ n = 5 ∨ n = 6 ∨ n = 7 ∨ n = 8 := by omega
  rcases this with rfl | rfl | rfl | rfl | rfl | rfl | rfl | rfl | rfl <;> decide
theorem Side.len {n : Nat} (h : Side n) : (ptsFn n).length = many n := by
  have a := List.all_eq_true.1 pts_len n (by simp; have := h.hi; omega)
  have z : (n == 0) = false := by simp; have := h.lo; omega
  rw [z, Bool.false_or] at a
  exact eq_of_beq a
theorem Side.at_ {n : Nat} (h : Side n) {i : Nat} (hi : i < many n) : Ev (fun k => spec_meAt.f k (n : Int) (i : Int)) [(rdP (ptsFn n) i).f0, (rdP (ptsFn n) i).f1, (rdP (ptsFn n) i).f2] := by
  have a := List.all_eq_true.1 at_spec n (by simp; have := h.hi; omega)
  have z : (n == 0) = false := by simp; have := h.lo; omega
  rw [z, Bool.false_or] at a
  have b := List.all_eq_true.1 a i (by simp; have := many_le h.hi; omega)
  have y : decide (many n ≤ i) = false := by simp; omega
  rw [y, Bool.false_or] at b
  exact Ev.of (fun k => spec_meAt.mono _ _ k) (eq_of_beq b)
theorem small_pts : ((List.range 9).all fun n => (ptsFn n).all fun p => decide (0 ≤ p.f0) && decide (p.f0 ≤ 8) && decide (0 ≤ p.f1) && decide (p.f1 ≤ 8) && decide (0 ≤ p.f2) && decide (p.f2 ≤ 8)) = true := by decide +kernel
theorem Side.inside {n : Nat} (h : Side n) {i : Nat} (hi : i < many n) : (0 ≤ (rdP (ptsFn n) i).f0 ∧ (rdP (ptsFn n) i).f0 ≤ 8) ∧ (0 ≤ (rdP (ptsFn n) i).f1 ∧ (rdP (ptsFn n) i).f1 ≤ 8) ∧ (0 ≤ (rdP (ptsFn n) i).f2 ∧ (rdP (ptsFn n) i).f2 ≤ 8) := by
  have a := List.all_eq_true.1 small_pts n (by simp; have := h.hi; omega)
  have hl := h.len
  have e : rdP (ptsFn n) i = (ptsFn n)[i]'(by omega) := by
    show (ptsFn n).getD (i : Int).toNat _ = _
    rw [Int.toNat_natCast, List.getD_eq_getElem?_getD, List.getElem?_eq_getElem (by omega)]
    rfl
  have b := List.all_eq_true.1 a _ (List.getElem_mem (l := ptsFn n) (n := i) (by omega))
  rw [← e] at b
  simp only [Bool.and_eq_true, decide_eq_true_eq] at b
  omega
theorem pts_lenI {n m : Nat} (h : Side n) (hm : many n = m) : ((ptsFn n).length : Int) = (m : Int) := by rw [h.len, hm]
theorem count_ev {n m : Nat} (h : Side n) (hm : many n = m) : spec_meCount.f (n : Int) = some (m : Int) := by
  have : n = 1 ∨ n = 2 ∨ n = 3 ∨ n = 4 ∨ n = 5 ∨ n = 6 ∨ n = 7 ∨ n = 8 := by have := h.lo; have := h.hi; omega
  subst hm
  rcases this with rfl | rfl | rfl | rfl | rfl | rfl | rfl | rfl <;> decide +kernel
end Go.Proofs.Ythkdkgbcokpbaaa.QFnRentsAreFair
/-! What the reference's cursor draws: a number within the bounds that were asked for, whatever the bytes are. -/
namespace Go.Proofs.Ythkdkgbcokpbaaa.QFnRentsAreFair
open Go.RowKit Go.Proofs.Ythkdkgbcokpbaaa.PFnRentsAreFair Go.Proofs.YthkdkgbcokpbaaaW.PrintWords Go.Proofs.YthkdkgbcokpbaaaW.PrintLast Go.Proofs.YthkdkgbcokpbaaaW.PrintMore
set_option linter.unusedVariables false
set_option linter.unusedSimpArgs false
def U8 (l : List Int) : Prop := ∀ x ∈ l, (Lit.int .u8 x).wf = true
theorem u8_rd {l : List Int} (h : U8 l) (i : Int) : 0 ≤ rd l i ∧ rd l i ≤ 255 := by
  unfold rd
  rw [List.getD_eq_getElem?_getD]
  cases hc : l[i.toNat]? with
  | none => exact ⟨Int.le_refl 0, by decide⟩
  | some x =>
    have h1 := h x (List.mem_of_getElem? hc)
    have h2 := Bool.and_eq_true_iff.1 (show (decide (IntKind.u8.min ≤ x) && decide (x ≤ IntKind.u8.max)) = true from h1)
    have h3 : (0 : Int) ≤ x := of_decide_eq_true h2.1
    have h4 : x ≤ 255 := of_decide_eq_true h2.2
    exact ⟨h3, h4⟩
theorem and255 {x : Int} (h0 : 0 ≤ x) (h1 : x < 18446744073709551616) : 0 ≤ Go.bits .and .u64 x 255 ∧ Go.bits .and .u64 x 255 ≤ 255 := by
  obtain ⟨n, e⟩ := Int.eq_ofNat_of_zero_le h0
  subst e
  have h2 := bits_and_u64_nat n 255 (by omega) (by omega)
  rw [show ((255 : Nat) : Int) = 255 from rfl] at h2
  rw [h2]
  have := @Nat.and_le_right n 255
  omega
theorem next_ev {l : List Int} (h : U8 l) {a : Int} (s : Int) (h0 : 0 ≤ a) (h1 : a < 4611686018427387904) : ∃ v s', spec_l1Cur_next.f l a s = some (v, a + 1, s') ∧ 0 ≤ v ∧ v ≤ 255 := by
  unfold spec_l1Cur_next.f
  have hw : ∀ x : Int, 0 ≤ IntKind.u64.wrap x ∧ IntKind.u64.wrap x < 18446744073709551616 := fun x => by rw [IntKind.wrap_u64]; omega
  have hv : ∀ x : Int, 0 ≤ wrap64 (Go.bits .and .u64 (IntKind.u64.wrap x / 1099511627776) 255) ∧ wrap64 (Go.bits .and .u64 (IntKind.u64.wrap x / 1099511627776) 255) ≤ 255 := fun x => by
    have := hw x
    have h2 := and255 (x := IntKind.u64.wrap x / 1099511627776) (by omega) (by omega)
    rw [wr (by omega) (by omega)]
    exact h2
  rw [wr (show -9223372036854775808 ≤ a + 1 by omega) (by omega)]
  by_cases hl : a < (l.length : Int)
  · have hr := u8_rd h a
    rw [if_pos hl, if_pos h0, wr (show -9223372036854775808 ≤ rd l a by omega) (by omega), if_pos (by omega)]
    exact ⟨_, _, rfl, hr.1, hr.2⟩
  · rw [if_neg hl, if_neg (by omega)]
    exact ⟨_, _, rfl, hv _⟩
theorem pick_ev {l : List Int} (h : U8 l) {a : Int} (s n : Int) (h0 : 0 ≤ a) (h1 : a < 4611686018427387900) : ∃ v a' s', spec_l1Cur_pick.f l a s n = some (v, a', s') ∧ 0 ≤ v ∧ (v < n ∨ v = 0) ∧ a ≤ a' ∧ a' ≤ a + 2 := by
  unfold spec_l1Cur_pick.f
  by_cases hn : n ≤ 1
  · rw [if_pos hn]
    exact ⟨_, _, _, rfl, Int.le_refl 0, .inr rfl, by omega, by omega⟩
  · obtain ⟨v, s1, e1, v0, v1⟩ := next_ev h s h0 (by omega)
    rw [if_neg hn, e1, Option.bind_some]
    by_cases h2 : n > 200
    · obtain ⟨v', s2, e2, w0, w1⟩ := next_ev h s1 (show 0 ≤ a + 1 by omega) (by omega)
      rw [if_pos h2]
      dsimp only
      rw [e2, Option.bind_some, if_neg (by omega)]
      dsimp only
      rw [wr (show -9223372036854775808 ≤ v * 256 by omega) (by omega), wr (show -9223372036854775808 ≤ v * 256 + v' by omega) (by omega)]
      exact ⟨_, _, _, rfl, Int.tmod_nonneg _ (by omega), .inl (Int.tmod_lt_of_pos _ (by omega)), by omega, by omega⟩
    · rw [if_neg h2, if_neg (by omega)]
      exact ⟨_, _, _, rfl, Int.tmod_nonneg _ v0, .inl (Int.tmod_lt_of_pos _ (by omega)), by dsimp only; omega, by dsimp only; omega⟩
theorem among_ev {l : List Int} (h : U8 l) {a : Int} (s : Int) (L : List Int) (hL : 0 < L.length) (h0 : 0 ≤ a) (h1 : a < 4611686018427387900) : ∃ v a' s', spec_l1Cur_among.f l a s L = some (v, a', s') ∧ v ∈ L ∧ a ≤ a' ∧ a' ≤ a + 2 := by
  unfold spec_l1Cur_among.f
  obtain ⟨v, a', s', e, v0, v1, h2, h3⟩ := pick_ev h s (L.length : Int) h0 h1
  rw [e, Option.bind_some]
  dsimp only
  rw [if_pos v0, if_pos (by omega)]
  refine ⟨_, _, _, rfl, ?_, h2, h3⟩
  unfold rd
  rw [List.getD_eq_getElem?_getD, List.getElem?_eq_getElem (by omega)]
  exact List.getElem_mem _
end Go.Proofs.Ythkdkgbcokpbaaa.QFnRentsAreFair
/-! Once in so many times, as it is drawn. -/
namespace Go.Proofs.Ythkdkgbcokpbaaa.QFnRentsAreFair
open Go.RowKit Go.Proofs.YthkdkgbcokpbaaaOwn Go.Proofs.Ythkdkgbcokpbaaa.PFnRentsAreFair Go.Proofs.YthkdkgbcokpbaaaW.PrintWords Go.Proofs.YthkdkgbcokpbaaaW.PrintLast Go.Proofs.YthkdkgbcokpbaaaW.PrintMore
set_option linter.unusedVariables false
set_option linter.unusedSimpArgs false
set_option maxRecDepth 100000
theorem one_ev {l : List Int} (h : U8 l) {a : Int} (s n : Int) (h0 : 0 ≤ a) (h1 : a < 4611686018427387900) : ∃ b a' s', spec_l1Cur_one.f l a s n = some (b, a', s') ∧ a ≤ a' ∧ a' ≤ a + 2 := by
  obtain ⟨v, a', s', e, _, _, h2, h3⟩ := pick_ev h s n h0 h1
  exact ⟨v == 0, a', s', by unfold spec_l1Cur_one.f; rw [e]; rfl, h2, h3⟩
end Go.Proofs.Ythkdkgbcokpbaaa.QFnRentsAreFair
/-! Rooms without envy at some rents have the greatest sum of worths, and the fairest rents are told: for every input; there are no conditions. -/
namespace Go.Proofs.Ythkdkgbcokpbaaa.Pure
open Go.RowKit Go.Proofs.YthkdkgbcokpbaaaOwn Go.Proofs.Ythkdkgbcokpbaaa.PFnRentsAreFair Go.Proofs.YthkdkgbcokpbaaaW.PrintWords Go.Proofs.YthkdkgbcokpbaaaW.PrintLast Go.Proofs.YthkdkgbcokpbaaaW.PrintMore Go.Proofs.Ythkdkgbcokpbaaa.QFnRentsAreFair
set_option linter.unusedVariables false
set_option linter.unusedSectionVars false
set_option linter.unusedSimpArgs false
set_option maxRecDepth 100000
theorem in_spec (a b c : Int) : spec_l1In.f a b c = some (decide (b ≤ a ∧ a ≤ c)) := by
  unfold spec_l1In.f
  by_cases h : a ≥ b
  · rw [if_pos h]; simp [show b ≤ a from h]
  · rw [if_neg h]; simp [show ¬ b ≤ a from h]
theorem in_impl (a b c : Int) : impl_in.f a b c = some (decide (b ≤ a ∧ a ≤ c)) := by
  unfold impl_in.f
  by_cases h : b ≤ a
  · rw [if_pos h]; simp [h]
  · rw [if_neg h]; simp [h]
theorem side_spec (a : Int) : spec_meSide.f a = some (decide (1 ≤ a ∧ a ≤ 8)) := by
  unfold spec_meSide.f
  rw [in_spec]; rfl
theorem side_impl (a : Int) : impl_isSide.f a = some (decide (1 ≤ a ∧ a ≤ 8)) := by
  unfold impl_isSide.f
  rw [in_impl]; rfl
theorem many_impl {n : Nat} (h : Side n) : impl_many.f (n : Int) = some (many n : Int) := by
  have : n = 1 ∨ n = 2 ∨ n = 3 ∨ n = 4 ∨ n = 5 ∨ n = 6 ∨ n = 7 ∨ n = 8 := by have := h.lo; have := h.hi; omega
  rcases this with rfl | rfl | rfl | rfl | rfl | rfl | rfl | rfl <;> decide +kernel
theorem point_spec {n : Nat} (h : Side n) (i : Int) : spec_mePoint.f (n : Int) i = some (decide (0 ≤ i ∧ i < many n)) := by
  have hb := many_le h.hi
  unfold spec_mePoint.f
  rw [side_spec, count_ev h rfl]
  have e : decide ((1 : Int) ≤ n ∧ (n : Int) ≤ 8) = true := by have := h.lo; have := h.hi; simp; omega
  simp only [e, Option.bind_some, if_true, in_spec]
  rw [wr (by omega) (by omega)]
  exact congrArg some (decide_eq_decide.2 (by omega))
theorem side_of {a : Int} (h : 1 ≤ a ∧ a ≤ 8) : ∃ n : Nat, a = (n : Int) ∧ Side n := by
  obtain ⟨n, rfl⟩ := Int.eq_ofNat_of_zero_le (show 0 ≤ a by omega)
  exact ⟨n, rfl, ⟨by omega, by omega⟩⟩
theorem rdI_at {l : List Int} {i : Nat} (h : i < l.length) : rd l (i : Int) = l[i] := by rw [rd_nat, List.getD_eq_getElem?_getD, List.getElem?_eq_getElem h]; rfl
theorem row_at {G : List (List Int)} {i : Nat} (h : i < G.length) : rd_L2 G (i : Int) = G[i] := by
  unfold rd_L2; rw [Int.toNat_natCast, List.getD_eq_getElem?_getD, List.getElem?_eq_getElem h]; rfl
/-! ### points -/
theorem isP_one {n : Nat} (h : Side n) (x : Int) : impl_isPoint_1.f x [(n : Int)] = some (!decide (0 ≤ x ∧ x < (many n : Int))) := by
  have hb := many_le h.hi
  unfold impl_isPoint_1.f
  rw [if_pos (by simp), rd_one, many_impl h, Option.bind_some, in_impl, wr (by omega) (by omega), Option.bind_some]
  exact congrArg some (congrArg _ (decide_eq_decide.2 (by omega)))
theorem isP_ev {n : Nat} (h : Side n) (x : Int) : Ev (fun k => impl_isPoint.f k (n : Int) [x]) (decide (0 ≤ x ∧ x < (many n : Int))) := by
  refine ev_bind0 (side_impl _) ?_
  rw [decide_eq_true (show (1 : Int) ≤ n ∧ (n : Int) ≤ 8 by have := h.lo; have := h.hi; omega)]
  refine ev_pos rfl ?_
  by_cases hc : 0 ≤ x ∧ x < (many n : Int)
  · have z : Ev (fun k => slices_IndexFunc_int_int__impl_isPoint_1.f k [x] [(n : Int)]) (-1) := by
      refine Ev.step (fun f => slices_IndexFunc_int_int__impl_isPoint_1.l0.eq_2 ..) (ev_pos (by simp) (ev_pos (by decide) (ev_pos (by simp) (ev_bind0 (isP_one h _) (ev_neg (by rw [show rd [x] 0 = x from rfl, decide_eq_true hc]; decide) ?_)))))
      rw [wr (show -9223372036854775808 ≤ (0 : Int) + 1 by omega) (by omega)]
      exact Ev.step (fun f => slices_IndexFunc_int_int__impl_isPoint_1.l0.eq_2 ..) (ev_neg (by simp) (Ev.now _))
    refine Ev.bind (Ev.bind z (Ev.now _)) (ev_eq (Ev.now _) ?_)
    rw [decide_eq_true hc]; rfl
  · have z : Ev (fun k => slices_IndexFunc_int_int__impl_isPoint_1.f k [x] [(n : Int)]) 0 :=
      Ev.step (fun f => slices_IndexFunc_int_int__impl_isPoint_1.l0.eq_2 ..) (ev_pos (by simp) (ev_pos (by decide) (ev_pos (by simp) (ev_bind0 (isP_one h _) (ev_pos (by rw [show rd [x] 0 = x from rfl, decide_eq_false hc]; rfl) (Ev.now _))))))
    refine Ev.bind (Ev.bind z (Ev.now _)) (ev_eq (Ev.now _) ?_)
    rw [decide_eq_false hc]; rfl
theorem isP_no {a : Int} (ha : ¬ (1 ≤ a ∧ a ≤ 8)) (l : List Int) : Ev (fun k => impl_isPoint.f k a l) false := by
  refine ev_bind0 (side_impl _) ?_
  rw [decide_eq_false ha]
  exact ev_neg (by decide) (Ev.now _)
theorem point_no {a : Int} (ha : ¬ (1 ≤ a ∧ a ≤ 8)) (i : Int) : spec_mePoint.f a i = some false := by unfold spec_mePoint.f; rw [side_spec, decide_eq_false ha]; rfl
/-! ### worths -/
def wB (l : List Int) : Bool := l.all fun x => decide (0 ≤ x ∧ x ≤ 20)
theorem w_loop (l : List Int) (hl : l.length ≤ 1000) : ∀ d i : Nat, i + d = l.length → Ev (fun k => spec_l1All.l0 k 0 20 l (l.length : Int) (i : Int)) (wB (l.drop i))
  | 0, i, h => Ev.step (fun f => spec_l1All.l0.eq_2 ..) (ev_neg (by omega) (ev_eq (Ev.now _) (by rw [List.drop_eq_nil_of_le (by omega)]; rfl)))
  | d + 1, i, h => by
    have hlt : i < l.length := by omega
    refine Ev.step (fun f => spec_l1All.l0.eq_2 ..) (ev_pos (by omega) (ev_pos (by omega) (ev_pos (by omega) (ev_bind0 (in_spec _ _ _) ?_))))
    unfold wB
    rw [List.drop_eq_getElem_cons hlt, List.all_cons, rdI_at hlt, wr (show -9223372036854775808 ≤ (i : Int) + 1 by omega) (by omega)]
    by_cases hc : 0 ≤ l[i] ∧ l[i] ≤ 20
    · rw [decide_eq_true hc, Bool.true_and]
      exact ev_pos rfl (w_loop l hl d (i + 1) (by omega))
    · rw [decide_eq_false hc, Bool.false_and]
      exact ev_neg (by decide) (Ev.now _)
theorem w_one (x : Int) : impl_areLists_1_1.f x [20] = some (!decide (0 ≤ x ∧ x ≤ 20)) := by
  unfold impl_areLists_1_1.f
  rw [if_pos (by simp), show rd [(20 : Int)] 0 = 20 from rfl, in_impl]; rfl
theorem w_index (l : List Int) (hl : l.length ≤ 1000) : ∀ d i : Nat, i + d = l.length → ∃ r : Int, Ev (fun k => slices_IndexFunc_int_int__impl_areLists_1_1.l0 k l (l.length : Int) (i : Int) [20]) r ∧ decide (r ≥ 0) = !wB (l.drop i)
  | 0, i, h => ⟨-1, Ev.step (fun f => slices_IndexFunc_int_int__impl_areLists_1_1.l0.eq_2 ..) (ev_neg (by omega) (Ev.now _)), by rw [List.drop_eq_nil_of_le (by omega)]; rfl⟩
  | d + 1, i, h => by
    have hlt : i < l.length := by omega
    by_cases hc : 0 ≤ l[i] ∧ l[i] ≤ 20
    · obtain ⟨r, h1, h2⟩ := w_index l hl d (i + 1) (by omega)
      refine ⟨r, Ev.step (fun f => slices_IndexFunc_int_int__impl_areLists_1_1.l0.eq_2 ..) (ev_pos (by omega) (ev_pos (by omega) (ev_pos (by omega) (ev_bind0 (w_one _) (ev_neg (by rw [rdI_at hlt, decide_eq_true hc]; decide) ?_))))), ?_⟩
      · rw [wr (by omega) (by omega)]; exact h1
      · rw [h2]
        unfold wB
        rw [List.drop_eq_getElem_cons hlt, List.all_cons, decide_eq_true hc, Bool.true_and]
    · refine ⟨i, Ev.step (fun f => slices_IndexFunc_int_int__impl_areLists_1_1.l0.eq_2 ..) (ev_pos (by omega) (ev_pos (by omega) (ev_pos (by omega) (ev_bind0 (w_one _) (ev_pos (by rw [rdI_at hlt, decide_eq_false hc]; rfl) (Ev.now _)))))), ?_⟩
      unfold wB
      rw [List.drop_eq_getElem_cons hlt, List.all_cons, decide_eq_false hc, Bool.false_and, decide_eq_true (by omega)]
      rfl
def rowW (l : List Int) : Bool := decide (l.length = 3) && wB l
theorem w_row (l : List Int) (hl : l.length ≤ 1000) : Ev (fun k => impl_areLists_1.f k l [3] [20]) (!rowW l) := by
  refine ev_pos (by simp) ?_
  rw [show rd [(3 : Int)] 0 = 3 from rfl]
  unfold rowW
  by_cases h : l.length = 3
  · obtain ⟨r, h1, h2⟩ := w_index l hl l.length 0 (by omega)
    rw [List.drop_zero] at h2
    rw [decide_eq_true h, Bool.true_and]
    exact ev_pos (by omega) (Ev.bind (Ev.bind h1 (ev_eq (Ev.now _) h2)) (Ev.now _))
  · rw [decide_eq_false h]
    exact ev_neg (by omega) (Ev.now _)
theorem ww_index (T : List (List Int)) (hT : T.length ≤ 1000) (hr : ∀ t ∈ T, t.length ≤ 1000) : ∀ d i : Nat, i + d = T.length → ∃ r : Int, Ev (fun k => slices_IndexFunc_int_int__impl_areLists_1.l0 k T (T.length : Int) (i : Int) [3] [20]) r ∧ decide (r ≥ 0) = !(T.drop i).all rowW
  | 0, i, h => ⟨-1, Ev.step (fun f => slices_IndexFunc_int_int__impl_areLists_1.l0.eq_2 ..) (ev_neg (by omega) (Ev.now _)), by rw [List.drop_eq_nil_of_le (by omega)]; rfl⟩
  | d + 1, i, h => by
    have hlt : i < T.length := by omega
    have ho := w_row T[i] (hr _ (List.getElem_mem hlt))
    rw [List.drop_eq_getElem_cons hlt, List.all_cons]
    cases hc : rowW T[i] with
    | true =>
      rw [hc] at ho
      obtain ⟨r, h1, h2⟩ := ww_index T hT hr d (i + 1) (by omega)
      refine ⟨r, Ev.step (fun f => slices_IndexFunc_int_int__impl_areLists_1.l0.eq_2 ..) (ev_pos (by omega) (ev_pos (by omega) (ev_pos (by omega) ?_))), by rw [h2, Bool.true_and]⟩
      rw [row_at hlt, wr (by omega) (by omega)]
      exact Ev.bind ho (ev_neg (by decide) h1)
    | false =>
      rw [hc] at ho
      refine ⟨i, Ev.step (fun f => slices_IndexFunc_int_int__impl_areLists_1.l0.eq_2 ..) (ev_pos (by omega) (ev_pos (by omega) (ev_pos (by omega) ?_))), by rw [Bool.false_and, decide_eq_true (by omega)]; rfl⟩
      rw [row_at hlt]
      exact Ev.bind ho (ev_pos rfl (Ev.now _))
def okW (T : List (List Int)) : Bool := decide (T.length = 3) && T.all rowW
theorem worths_impl (T : List (List Int)) (hT : T.length ≤ 1000) (hr : ∀ t ∈ T, t.length ≤ 1000) : Ev (fun k => impl_areWorths.f k T) (okW T) := by
  refine Ev.bind (a := okW T) ?_ (Ev.now _)
  unfold okW
  by_cases h3 : T.length = 3
  · rw [decide_eq_true h3, Bool.true_and]
    obtain ⟨r, h1, h2⟩ := ww_index T hT hr T.length 0 (by omega)
    rw [List.drop_zero] at h2
    refine ev_pos (by omega) (Ev.bind (Ev.bind h1 (ev_eq (Ev.now _) h2)) (ev_eq (Ev.now _) ?_))
    rw [Bool.not_not]
  · rw [decide_eq_false h3, Bool.false_and]
    exact ev_neg (by omega) (Ev.now _)
theorem ww_loop (T : List (List Int)) (hT : T.length ≤ 1000) (hr : ∀ t ∈ T, t.length ≤ 1000) : ∀ d i : Nat, i + d = T.length → Ev (fun k => spec_ckRooms.l0 k T (T.length : Int) (i : Int)) ((T.drop i).all rowW)
  | 0, i, h => Ev.step (fun f => spec_ckRooms.l0.eq_2 ..) (ev_neg (by omega) (ev_eq (Ev.now _) (by rw [List.drop_eq_nil_of_le (by omega)]; rfl)))
  | d + 1, i, h => by
    have hlt : i < T.length := by omega
    have hl := hr _ (List.getElem_mem hlt)
    have hn := w_loop T[i] hl T[i].length 0 (by omega)
    rw [List.drop_zero] at hn
    rw [List.drop_eq_getElem_cons hlt, List.all_cons]
    refine Ev.step (fun f => spec_ckRooms.l0.eq_2 ..) (ev_pos (by omega) (ev_pos (by omega) (ev_pos (by omega) ?_)))
    rw [row_at hlt, wr (by omega) (by omega)]
    have ih := ww_loop T hT hr d (i + 1) (by omega)
    by_cases h1 : T[i].length = 3
    · refine ev_pos (by omega) (Ev.bind hn ?_)
      have e : rowW T[i] = wB T[i] := by unfold rowW; rw [decide_eq_true h1, Bool.true_and]
      rw [e]
      cases wB T[i] with
      | true => exact ev_pos rfl (ev_eq ih (by rw [Bool.true_and]))
      | false => exact ev_neg (by decide) (ev_eq (Ev.now _) (by rw [Bool.false_and]))
    · have e : rowW T[i] = false := by unfold rowW; rw [decide_eq_false h1, Bool.false_and]
      exact ev_neg (by omega) (ev_eq (Ev.now _) (by rw [e, Bool.false_and]))
theorem worths_spec (T : List (List Int)) (hT : T.length ≤ 1000) (hr : ∀ t ∈ T, t.length ≤ 1000) : Ev (fun k => spec_ckRooms.f k T) (okW T) := by
  unfold okW
  by_cases h3 : T.length = 3
  · have hl := ww_loop T hT hr T.length 0 (by omega)
    rw [List.drop_zero] at hl
    rw [decide_eq_true h3, Bool.true_and]
    exact ev_pos (by omega) hl
  · rw [decide_eq_false h3, Bool.false_and]
    exact ev_neg (by omega) (Ev.now _)
/-- Three rows of three numbers. -/
structure W3 where
  a : Int
  b : Int
  c : Int
  d : Int
  e : Int
  f : Int
  g : Int
  h : Int
  i : Int
def W3.L (w : W3) : List (List Int) := [[w.a, w.b, w.c], [w.d, w.e, w.f], [w.g, w.h, w.i]]
structure Ok (w : W3) (lo hi : Int) : Prop where
  a : lo ≤ w.a ∧ w.a ≤ hi
  b : lo ≤ w.b ∧ w.b ≤ hi
  c : lo ≤ w.c ∧ w.c ≤ hi
  d : lo ≤ w.d ∧ w.d ≤ hi
  e : lo ≤ w.e ∧ w.e ≤ hi
  f : lo ≤ w.f ∧ w.f ≤ hi
  g : lo ≤ w.g ∧ w.g ≤ hi
  h : lo ≤ w.h ∧ w.h ≤ hi
  i : lo ≤ w.i ∧ w.i ≤ hi
theorem row_of {l : List Int} (h : rowW l = true) : ∃ a b c, l = [a, b, c] ∧ (0 ≤ a ∧ a ≤ 20) ∧ (0 ≤ b ∧ b ≤ 20) ∧ (0 ≤ c ∧ c ≤ 20) := by
  unfold rowW wB at h
  have h1 := Bool.and_eq_true_iff.1 h
  have h2 := of_decide_eq_true h1.1
  match l, h2, h1.2 with
  | [a, b, c], _, h3 =>
    simp only [List.all_cons, List.all_nil, Bool.and_true, Bool.and_eq_true, decide_eq_true_eq] at h3
    exact ⟨a, b, c, rfl, h3.1, h3.2.1, h3.2.2⟩
theorem ok_of {T : List (List Int)} (h : okW T = true) : ∃ w : W3, T = w.L ∧ Ok w 0 20 := by
  unfold okW at h
  have h1 := Bool.and_eq_true_iff.1 h
  have h2 := of_decide_eq_true h1.1
  match T, h2, h1.2 with
  | [x, y, z], _, h3 =>
    simp only [List.all_cons, List.all_nil, Bool.and_true, Bool.and_eq_true] at h3
    obtain ⟨a, b, c, rfl, r1, r2, r3⟩ := row_of h3.1
    obtain ⟨d, e, f, rfl, r4, r5, r6⟩ := row_of h3.2.1
    obtain ⟨g, h', i, rfl, r7, r8, r9⟩ := row_of h3.2.2
    exact ⟨⟨a, b, c, d, e, f, g, h', i⟩, rfl, ⟨r1, r2, r3, r4, r5, r6, r7, r8, r9⟩⟩
theorem okW_of {w : W3} (h : Ok w 0 20) : okW w.L = true := by
  have r : ∀ x y z : Int, (0 ≤ x ∧ x ≤ 20) → (0 ≤ y ∧ y ≤ 20) → (0 ≤ z ∧ z ≤ 20) → rowW [x, y, z] = true := fun x y z hx hy hz => by
    unfold rowW wB
    rw [List.all_cons, List.all_cons, List.all_cons, List.all_nil, decide_eq_true hx, decide_eq_true hy, decide_eq_true hz]; rfl
  unfold okW W3.L
  rw [List.all_cons, List.all_cons, List.all_cons, List.all_nil, r _ _ _ h.a h.b h.c, r _ _ _ h.d h.e h.f, r _ _ _ h.g h.h h.i]; rfl
/-- What rooms are worth at a point, their costs taken off. -/
def W3.net (w : W3) (p : Pt) : W3 := ⟨w.a - p.f0, w.b - p.f1, w.c - p.f2, w.d - p.f0, w.e - p.f1, w.f - p.f2, w.g - p.f0, w.h - p.f1, w.i - p.f2⟩
theorem net_ok {w : W3} (h : Ok w 0 20) {p : Pt} (hp : (0 ≤ p.f0 ∧ p.f0 ≤ 8) ∧ (0 ≤ p.f1 ∧ p.f1 ≤ 8) ∧ (0 ≤ p.f2 ∧ p.f2 ≤ 8)) : Ok (w.net p) (-8) 20 := by
  have := h.a; have := h.b; have := h.c; have := h.d; have := h.e; have := h.f; have := h.g; have := h.h; have := h.i
  refine ⟨?_, ?_, ?_, ?_, ?_, ?_, ?_, ?_, ?_⟩ <;> simp only [W3.net] <;> omega
theorem wrs {x y : Int} (hx : 0 ≤ x ∧ x ≤ 20) (hy : 0 ≤ y ∧ y ≤ 8) : wrap64 (x - y) = x - y := wr (by omega) (by omega)
theorem net_impl {w : W3} (h : Ok w 0 20) {p : Pt} (hp : (0 ≤ p.f0 ∧ p.f0 ≤ 8) ∧ (0 ≤ p.f1 ∧ p.f1 ≤ 8) ∧ (0 ≤ p.f2 ∧ p.f2 ≤ 8)) : Ev (fun k => impl_netAt.f k w.L p.f0 p.f1 p.f2) (w.net p).L := by
  have e : impl_netAt.f 5 w.L p.f0 p.f1 p.f2 = some [[wrap64 (w.a - p.f0), wrap64 (w.b - p.f1), wrap64 (w.c - p.f2)], [wrap64 (w.d - p.f0), wrap64 (w.e - p.f1), wrap64 (w.f - p.f2)], [wrap64 (w.g - p.f0), wrap64 (w.h - p.f1), wrap64 (w.i - p.f2)]] := by kernel_rfl
  rw [wrs h.a hp.1, wrs h.b hp.2.1, wrs h.c hp.2.2, wrs h.d hp.1, wrs h.e hp.2.1, wrs h.f hp.2.2, wrs h.g hp.1, wrs h.h hp.2.1, wrs h.i hp.2.2] at e
  exact Ev.of (fun k => impl_netAt.mono _ _ _ _ k) e
theorem net_spec {w : W3} (h : Ok w 0 20) {n : Nat} (hS : Side n) {i : Nat} (hi : i < many n) : Ev (fun k => spec_ckCosts.f k (n : Int) w.L (i : Int)) (w.net (rdP (ptsFn n) i)).L := by
  have hp := hS.inside hi
  refine Ev.bind (hS.at_ hi) ?_
  generalize rdP (ptsFn n) i = p at hp
  have e : spec_ckCosts.l0 20 [p.f0, p.f1, p.f2] [] w.L (w.L.length : Int) 0 = some [[wrap64 (w.a - p.f0), wrap64 (w.b - p.f1), wrap64 (w.c - p.f2)], [wrap64 (w.d - p.f0), wrap64 (w.e - p.f1), wrap64 (w.f - p.f2)], [wrap64 (w.g - p.f0), wrap64 (w.h - p.f1), wrap64 (w.i - p.f2)]] := by kernel_rfl
  rw [wrs h.a hp.1, wrs h.b hp.2.1, wrs h.c hp.2.2, wrs h.d hp.1, wrs h.e hp.2.1, wrs h.f hp.2.2, wrs h.g hp.1, wrs h.h hp.2.1, wrs h.i hp.2.2] at e
  exact Ev.of (fun k => (spec_ckCosts.mono_l k).1 _ _ _ _ _) e
/-! ### orders -/
def ordL : List (List Int) := [[0, 1, 2], [0, 2, 1], [1, 0, 2], [1, 2, 0], [2, 0, 1], [2, 1, 0]]
theorem orders_impl : impl_orders.f = some ordL := rfl
theorem orders_spec : spec_ckAll.f = some ordL := rfl
theorem ord_cases {o : List Int} (h : o ∈ ordL) : o = [0, 1, 2] ∨ o = [0, 2, 1] ∨ o = [1, 0, 2] ∨ o = [1, 2, 0] ∨ o = [2, 0, 1] ∨ o = [2, 1, 0] := by simpa [ordL] using h
def ord (t : Nat) : List Int := ordL.getD t []
theorem ord_rd (t : Nat) : rd_L2 ordL (t : Int) = ord t := rfl
theorem ord_mem {t : Nat} (h : t < 6) : ord t ∈ ordL := by
  unfold ord
  rw [List.getD_eq_getElem?_getD, List.getElem?_eq_getElem (show t < ordL.length from h)]
  exact List.getElem_mem _
theorem mem_ord {o : List Int} (h : o ∈ ordL) : ∃ t, t < 6 ∧ ord t = o := by
  obtain ⟨t, ht, e⟩ := List.mem_iff_getElem.1 h
  refine ⟨t, ht, ?_⟩
  unfold ord
  rw [List.getD_eq_getElem?_getD, List.getElem?_eq_getElem ht, e]; rfl
/-! ### envy -/
def trm (w : W3) (o : List Int) : List Int :=
  let u := rd [w.a, w.b, w.c] (rd o 0)
  let v := rd [w.d, w.e, w.f] (rd o 1)
  let z := rd [w.g, w.h, w.i] (rd o 2)
  [w.a - u, w.b - u, w.c - u, w.d - v, w.e - v, w.f - v, w.g - z, w.h - z, w.i - z]
def top (l : List Int) : Int := l.foldl mx 0
def E (w : W3) (o : List Int) : Int := top (trm w o)
theorem most_eq (a b : Int) : spec_l1Most.f a b = some (mx a b) := by
  unfold spec_l1Most.f mx
  by_cases h : a > b
  · rw [if_pos h, if_neg (by omega)]
  · rw [if_neg h]
    by_cases h2 : a < b
    · rw [if_pos h2]
    · rw [if_neg h2, show a = b by omega]
theorem le_mx (a b : Int) : a ≤ mx a b ∧ b ≤ mx a b := by unfold mx; split <;> omega
theorem top_ge : ∀ (l : List Int) (s : Int), s ≤ l.foldl mx s ∧ ∀ x ∈ l, x ≤ l.foldl mx s
  | [], s => ⟨Int.le_refl _, fun x h => (by cases h)⟩
  | y :: l, s => by
    have h := top_ge l (mx s y)
    have h2 := le_mx s y
    rw [List.foldl_cons]
    refine ⟨by omega, fun x hx => ?_⟩
    rcases List.mem_cons.1 hx with rfl | hx
    · omega
    · exact h.2 x hx
theorem E_nonneg (w : W3) (o : List Int) : 0 ≤ E w o := (top_ge _ 0).1
theorem wrd {w : W3} (h : Ok w (-8) 20) {x y : Int} (hx : x ∈ [w.a, w.b, w.c, w.d, w.e, w.f, w.g, w.h, w.i]) (hy : y ∈ [w.a, w.b, w.c, w.d, w.e, w.f, w.g, w.h, w.i]) : wrap64 (x - y) = x - y := by
  have all : ∀ z ∈ [w.a, w.b, w.c, w.d, w.e, w.f, w.g, w.h, w.i], -8 ≤ z ∧ z ≤ 20 := by
    intro z hz
    simp only [List.mem_cons, List.not_mem_nil, or_false] at hz
    rcases hz with rfl | rfl | rfl | rfl | rfl | rfl | rfl | rfl | rfl
    · exact h.a
    · exact h.b
    · exact h.c
    · exact h.d
    · exact h.e
    · exact h.f
    · exact h.g
    · exact h.h
    · exact h.i
  have := all x hx
  have := all y hy
  exact wr (by omega) (by omega)
theorem envy_impl {w : W3} (h : Ok w (-8) 20) {o : List Int} (ho : o ∈ ordL) : Ev (fun k => impl_envyOf.f k w.L o) (E w o) := by
  have z : ∀ {x y : Int}, x ∈ [w.a, w.b, w.c, w.d, w.e, w.f, w.g, w.h, w.i] → y ∈ [w.a, w.b, w.c, w.d, w.e, w.f, w.g, w.h, w.i] → wrap64 (x - y) = x - y := fun hx hy => wrd h hx hy
  refine Ev.of (k := 20) (fun k => impl_envyOf.mono _ _ k) ?_
  have g : ∀ u v t : Int, u ∈ [w.a, w.b, w.c] → v ∈ [w.d, w.e, w.f] → t ∈ [w.g, w.h, w.i] → top [wrap64 (w.a - u), wrap64 (w.b - u), wrap64 (w.c - u), wrap64 (w.d - v), wrap64 (w.e - v), wrap64 (w.f - v), wrap64 (w.g - t), wrap64 (w.h - t), wrap64 (w.i - t)] = top [w.a - u, w.b - u, w.c - u, w.d - v, w.e - v, w.f - v, w.g - t, w.h - t, w.i - t] := fun u v t hu hv ht => by
    have hu2 : u ∈ [w.a, w.b, w.c, w.d, w.e, w.f, w.g, w.h, w.i] := by simp only [List.mem_cons, List.not_mem_nil, or_false] at hu ⊢; omega
    have hv2 : v ∈ [w.a, w.b, w.c, w.d, w.e, w.f, w.g, w.h, w.i] := by simp only [List.mem_cons, List.not_mem_nil, or_false] at hv ⊢; omega
    have ht2 : t ∈ [w.a, w.b, w.c, w.d, w.e, w.f, w.g, w.h, w.i] := by simp only [List.mem_cons, List.not_mem_nil, or_false] at ht ⊢; omega
    rw [z (x := w.a) (by simp) hu2, z (x := w.b) (by simp) hu2, z (x := w.c) (by simp) hu2, z (x := w.d) (by simp) hv2, z (x := w.e) (by simp) hv2, z (x := w.f) (by simp) hv2, z (x := w.g) (by simp) ht2, z (x := w.h) (by simp) ht2, z (x := w.i) (by simp) ht2]
  rcases ord_cases ho with rfl | rfl | rfl | rfl | rfl | rfl
  · exact (show impl_envyOf.f 20 w.L [0, 1, 2] = some (top [wrap64 (w.a - w.a), wrap64 (w.b - w.a), wrap64 (w.c - w.a), wrap64 (w.d - w.e), wrap64 (w.e - w.e), wrap64 (w.f - w.e), wrap64 (w.g - w.i), wrap64 (w.h - w.i), wrap64 (w.i - w.i)]) from by kernel_rfl).trans (congrArg some (g w.a w.e w.i (by simp) (by simp) (by simp)))
  · exact (show impl_envyOf.f 20 w.L [0, 2, 1] = some (top [wrap64 (w.a - w.a), wrap64 (w.b - w.a), wrap64 (w.c - w.a), wrap64 (w.d - w.f), wrap64 (w.e - w.f), wrap64 (w.f - w.f), wrap64 (w.g - w.h), wrap64 (w.h - w.h), wrap64 (w.i - w.h)]) from by kernel_rfl).trans (congrArg some (g w.a w.f w.h (by simp) (by simp) (by simp)))
  · exact (show impl_envyOf.f 20 w.L [1, 0, 2] = some (top [wrap64 (w.a - w.b), wrap64 (w.b - w.b), wrap64 (w.c - w.b), wrap64 (w.d - w.d), wrap64 (w.e - w.d), wrap64 (w.f - w.d), wrap64 (w.g - w.i), wrap64 (w.h - w.i), wrap64 (w.i - w.i)]) from by kernel_rfl).trans (congrArg some (g w.b w.d w.i (by simp) (by simp) (by simp)))
  · exact (show impl_envyOf.f 20 w.L [1, 2, 0] = some (top [wrap64 (w.a - w.b), wrap64 (w.b - w.b), wrap64 (w.c - w.b), wrap64 (w.d - w.f), wrap64 (w.e - w.f), wrap64 (w.f - w.f), wrap64 (w.g - w.g), wrap64 (w.h - w.g), wrap64 (w.i - w.g)]) from by kernel_rfl).trans (congrArg some (g w.b w.f w.g (by simp) (by simp) (by simp)))
  · exact (show impl_envyOf.f 20 w.L [2, 0, 1] = some (top [wrap64 (w.a - w.c), wrap64 (w.b - w.c), wrap64 (w.c - w.c), wrap64 (w.d - w.d), wrap64 (w.e - w.d), wrap64 (w.f - w.d), wrap64 (w.g - w.h), wrap64 (w.h - w.h), wrap64 (w.i - w.h)]) from by kernel_rfl).trans (congrArg some (g w.c w.d w.h (by simp) (by simp) (by simp)))
  · exact (show impl_envyOf.f 20 w.L [2, 1, 0] = some (top [wrap64 (w.a - w.c), wrap64 (w.b - w.c), wrap64 (w.c - w.c), wrap64 (w.d - w.e), wrap64 (w.e - w.e), wrap64 (w.f - w.e), wrap64 (w.g - w.g), wrap64 (w.h - w.g), wrap64 (w.i - w.g)]) from by kernel_rfl).trans (congrArg some (g w.c w.e w.g (by simp) (by simp) (by simp)))
/-- The reference's loop over a person's rooms. -/
theorem en_row (T : List (List Int)) (o row : List Int) (p : Nat) (hp : p < 3) (h3 : row.length = 3) (ho : o.length = 3) (hk : 0 ≤ rd o (p : Int) ∧ rd o (p : Int) < 3) (hb : ∀ j : Nat, j < 3 → wrap64 (rd row (j : Int) - rd row (rd o (p : Int))) = rd row (j : Int) - rd row (rd o (p : Int))) (r : Int) (acc : Int)
    (k : Ev (fun f => spec_ckEnvy.l0 f o ([rd row 0 - rd row (rd o (p : Int)), rd row 1 - rd row (rd o (p : Int)), rd row 2 - rd row (rd o (p : Int))].foldl mx acc) T 3 ((p + 1 : Nat) : Int)) r) :
    Ev (fun f => spec_ckEnvy.l1 f o acc (p : Int) row T 3 (p : Int) row 3 0) r := by
  have b0 := hb 0 (by omega)
  have b1 := hb 1 (by omega)
  have b2 := hb 2 (by omega)
  have w1 : wrap64 (0 + 1) = 1 := wr (by omega) (by omega)
  have w2 : wrap64 (1 + 1) = 2 := wr (by omega) (by omega)
  have w3 : wrap64 (2 + 1) = 3 := wr (by omega) (by omega)
  refine Ev.step (fun f => spec_ckEnvy.l1.eq_2 ..) (ev_pos (by omega) (ev_pos (by omega) (ev_pos (by omega) (ev_pos (by omega) (ev_pos (by omega) (ev_pos hk.1 (ev_pos (by omega) (ev_bind0 (most_eq _ _) ?_))))))))
  rw [w1, show rd row 0 = rd row ((0 : Nat) : Int) from rfl, b0]
  refine Ev.step (fun f => spec_ckEnvy.l1.eq_2 ..) (ev_pos (by omega) (ev_pos (by omega) (ev_pos (by omega) (ev_pos (by omega) (ev_pos (by omega) (ev_pos hk.1 (ev_pos (by omega) (ev_bind0 (most_eq _ _) ?_))))))))
  rw [w2, show rd row 1 = rd row ((1 : Nat) : Int) from rfl, b1]
  refine Ev.step (fun f => spec_ckEnvy.l1.eq_2 ..) (ev_pos (by omega) (ev_pos (by omega) (ev_pos (by omega) (ev_pos (by omega) (ev_pos (by omega) (ev_pos hk.1 (ev_pos (by omega) (ev_bind0 (most_eq _ _) ?_))))))))
  rw [w3, show rd row 2 = rd row ((2 : Nat) : Int) from rfl, b2]
  refine Ev.step (fun f => spec_ckEnvy.l1.eq_2 ..) (ev_neg (by omega) ?_)
  rw [wr (show -9223372036854775808 ≤ (p : Int) + 1 by omega) (by omega)]
  exact k
theorem ord_ok {o : List Int} (ho : o ∈ ordL) : o.length = 3 ∧ ∀ p : Nat, p < 3 → 0 ≤ rd o (p : Int) ∧ rd o (p : Int) < 3 := by
  have t : ordL.all (fun o => decide (o.length = 3) && (List.range 3).all fun p => decide (0 ≤ rd o (p : Int)) && decide (rd o (p : Int) < 3)) = true := by decide +kernel
  have a := Bool.and_eq_true_iff.1 (List.all_eq_true.1 t o ho)
  refine ⟨of_decide_eq_true a.1, fun p hp => ?_⟩
  have b := Bool.and_eq_true_iff.1 (List.all_eq_true.1 a.2 p (List.mem_range.2 hp))
  exact ⟨of_decide_eq_true b.1, of_decide_eq_true b.2⟩
theorem rd3 (x y z : Int) {k : Int} (h : 0 ≤ k ∧ k < 3) : rd [x, y, z] k ∈ [x, y, z] := by
  have : k = 0 ∨ k = 1 ∨ k = 2 := by omega
  rcases this with rfl | rfl | rfl
  · simp [show rd [x, y, z] 0 = x from rfl]
  · simp [show rd [x, y, z] 1 = y from rfl]
  · simp [show rd [x, y, z] 2 = z from rfl]
theorem envy_spec {w : W3} (h : Ok w (-8) 20) {o : List Int} (ho : o ∈ ordL) : Ev (fun k => spec_ckEnvy.f k w.L o) (E w o) := by
  obtain ⟨h3, hk⟩ := ord_ok ho
  have z : ∀ {x y : Int}, x ∈ [w.a, w.b, w.c, w.d, w.e, w.f, w.g, w.h, w.i] → y ∈ [w.a, w.b, w.c, w.d, w.e, w.f, w.g, w.h, w.i] → wrap64 (x - y) = x - y := fun hx hy => wrd h hx hy
  have sub1 : ∀ {y : Int}, y ∈ [w.a, w.b, w.c] → y ∈ [w.a, w.b, w.c, w.d, w.e, w.f, w.g, w.h, w.i] := fun hy => by simp only [List.mem_cons, List.not_mem_nil, or_false] at hy ⊢; omega
  have sub2 : ∀ {y : Int}, y ∈ [w.d, w.e, w.f] → y ∈ [w.a, w.b, w.c, w.d, w.e, w.f, w.g, w.h, w.i] := fun hy => by simp only [List.mem_cons, List.not_mem_nil, or_false] at hy ⊢; omega
  have sub3 : ∀ {y : Int}, y ∈ [w.g, w.h, w.i] → y ∈ [w.a, w.b, w.c, w.d, w.e, w.f, w.g, w.h, w.i] := fun hy => by simp only [List.mem_cons, List.not_mem_nil, or_false] at hy ⊢; omega
  have go : ∀ (row : List Int) (p : Nat) (s : ∀ {y : Int}, y ∈ row → y ∈ [w.a, w.b, w.c, w.d, w.e, w.f, w.g, w.h, w.i]), p < 3 → (∃ x y u, row = [x, y, u]) → ∀ j : Nat, j < 3 → wrap64 (rd row (j : Int) - rd row (rd o (p : Int))) = rd row (j : Int) - rd row (rd o (p : Int)) := fun row p s hp hrow j hj => by
    obtain ⟨x, y, u, rfl⟩ := hrow
    exact z (s (rd3 x y u (by omega))) (s (rd3 x y u (hk p hp)))
  refine Ev.step (fun f => spec_ckEnvy.l0.eq_2 ..) (ev_pos (by show (0 : Int) < 3; omega) (ev_pos (by omega) (ev_pos (by show (0 : Int) < 3; omega) ?_)))
  refine en_row w.L o [w.a, w.b, w.c] 0 (by omega) rfl h3 (hk 0 (by omega)) (go _ 0 sub1 (by omega) ⟨_, _, _, rfl⟩) _ 0 ?_
  refine Ev.step (fun f => spec_ckEnvy.l0.eq_2 ..) (ev_pos (by omega) (ev_pos (by omega) (ev_pos (by show (1 : Int) < 3; omega) ?_)))
  refine en_row w.L o [w.d, w.e, w.f] 1 (by omega) rfl h3 (hk 1 (by omega)) (go _ 1 sub2 (by omega) ⟨_, _, _, rfl⟩) _ _ ?_
  refine Ev.step (fun f => spec_ckEnvy.l0.eq_2 ..) (ev_pos (by omega) (ev_pos (by omega) (ev_pos (by show (2 : Int) < 3; omega) ?_)))
  refine en_row w.L o [w.g, w.h, w.i] 2 (by omega) rfl h3 (hk 2 (by omega)) (go _ 2 sub3 (by omega) ⟨_, _, _, rfl⟩) _ _ ?_
  exact Ev.step (fun f => spec_ckEnvy.l0.eq_2 ..) (ev_neg (by omega) (Ev.now _))
/-! ### the greatest sum -/
def S (w : W3) (o : List Int) : Int := rd [w.a, w.b, w.c] (rd o 0) + rd [w.d, w.e, w.f] (rd o 1) + rd [w.g, w.h, w.i] (rd o 2)
theorem S_cases (w : W3) : S w [0, 1, 2] = w.a + w.e + w.i ∧ S w [0, 2, 1] = w.a + w.f + w.h ∧ S w [1, 0, 2] = w.b + w.d + w.i ∧ S w [1, 2, 0] = w.b + w.f + w.g ∧ S w [2, 0, 1] = w.c + w.d + w.h ∧ S w [2, 1, 0] = w.c + w.e + w.g := ⟨rfl, rfl, rfl, rfl, rfl, rfl⟩
theorem rd3_b {x y z lo hi : Int} (hx : lo ≤ x ∧ x ≤ hi) (hy : lo ≤ y ∧ y ≤ hi) (hz : lo ≤ z ∧ z ≤ hi) {k : Int} (h : 0 ≤ k ∧ k < 3) : lo ≤ rd [x, y, z] k ∧ rd [x, y, z] k ≤ hi := by
  have := rd3 x y z h
  simp only [List.mem_cons, List.not_mem_nil, or_false] at this
  rcases this with e | e | e <;> rw [e] <;> assumption
theorem S_le {w : W3} (h : Ok w 0 20) {o : List Int} (ho : o ∈ ordL) : 0 ≤ S w o ∧ S w o ≤ 60 := by
  obtain ⟨_, hk⟩ := ord_ok ho
  have h1 := rd3_b h.a h.b h.c (hk 0 (by omega))
  have h2 := rd3_b h.d h.e h.f (hk 1 (by omega))
  have h3 := rd3_b h.g h.h h.i (hk 2 (by omega))
  unfold S
  have e0 : rd o ((0 : Nat) : Int) = rd o 0 := rfl
  have e1 : rd o ((1 : Nat) : Int) = rd o 1 := rfl
  have e2 : rd o ((2 : Nat) : Int) = rd o 2 := rfl
  rw [e0] at h1
  rw [e1] at h2
  rw [e2] at h3
  omega
def bst (w : W3) : Nat → Nat → Int → List Int → List Int
  | 0, _, _, o => o
  | d + 1, t, m, o => if S w (ord t) > m then bst w d (t + 1) (S w (ord t)) (ord t) else bst w d (t + 1) m o
theorem bst_ok {w : W3} (h : Ok w 0 20) : ∀ (d t : Nat) (m : Int) (o : List Int), t + d = 6 → ((t = 0 ∧ m = -1) ∨ (o ∈ ordL ∧ m = S w o ∧ ∀ s, s < t → S w (ord s) ≤ m)) → bst w d t m o ∈ ordL ∧ ∀ s, s < 6 → S w (ord s) ≤ S w (bst w d t m o)
  | 0, t, m, o, ht, hi => by
    rcases hi with ⟨h0, _⟩ | ⟨h1, h2, h3⟩
    · omega
    · refine ⟨h1, fun s hs => ?_⟩
      have := h3 s (by omega)
      unfold bst
      omega
  | d + 1, t, m, o, ht, hi => by
    have hS := S_le h (ord_mem (show t < 6 by omega))
    unfold bst
    by_cases hc : S w (ord t) > m
    · rw [if_pos hc]
      refine bst_ok h d (t + 1) _ _ (by omega) (.inr ⟨ord_mem (by omega), rfl, fun s hs => ?_⟩)
      rcases Nat.lt_succ_iff_lt_or_eq.1 hs with e | e
      · rcases hi with ⟨h0, _⟩ | ⟨_, _, h3⟩
        · omega
        · have := h3 s e; omega
      · subst e; exact Int.le_refl _
    · rw [if_neg hc]
      refine bst_ok h d (t + 1) _ _ (by omega) ?_
      rcases hi with ⟨_, h0⟩ | ⟨h1, h2, h3⟩
      · omega
      · refine .inr ⟨h1, h2, fun s hs => ?_⟩
        rcases Nat.lt_succ_iff_lt_or_eq.1 hs with e | e
        · exact h3 s e
        · subst e; omega
def best (w : W3) : List Int := bst w 6 0 (-1) []
theorem best_ok {w : W3} (h : Ok w 0 20) : best w ∈ ordL ∧ ∀ o ∈ ordL, S w o ≤ S w (best w) := by
  obtain ⟨h1, h2⟩ := bst_ok h 6 0 (-1) [] rfl (.inl ⟨rfl, rfl⟩)
  refine ⟨h1, fun o ho => ?_⟩
  obtain ⟨t, ht, rfl⟩ := mem_ord ho
  exact h2 t ht
theorem sum_spec {w : W3} (h : Ok w 0 20) {o : List Int} (ho : o ∈ ordL) : Ev (fun k => spec_ckSum.f k w.L o) (S w o) := by
  obtain ⟨h3, hk⟩ := ord_ok ho
  have k0 := hk 0 (by omega)
  have k1 := hk 1 (by omega)
  have k2 := hk 2 (by omega)
  have e0 : rd o ((0 : Nat) : Int) = rd o 0 := rfl
  have e1 : rd o ((1 : Nat) : Int) = rd o 1 := rfl
  have e2 : rd o ((2 : Nat) : Int) = rd o 2 := rfl
  rw [e0] at k0
  rw [e1] at k1
  rw [e2] at k2
  have h1 := rd3_b h.a h.b h.c k0
  have h2 := rd3_b h.d h.e h.f k1
  have h4 := rd3_b h.g h.h h.i k2
  have w1 : wrap64 (0 + 1) = 1 := wr (by omega) (by omega)
  have w2 : wrap64 (1 + 1) = 2 := wr (by omega) (by omega)
  have w3 : wrap64 (2 + 1) = 3 := wr (by omega) (by omega)
  refine Ev.step (fun f => spec_ckSum.l0.eq_2 ..) (ev_pos (by show (0 : Int) < 3; omega) (ev_pos (by omega) (ev_pos (by show (0 : Int) < 3; omega) (ev_pos (by omega) (ev_pos k0.1 (ev_pos (show rd o 0 < 3 from k0.2) ?_))))))
  rw [w1, show rd_L2 w.L 0 = [w.a, w.b, w.c] from rfl, wr (by omega) (by omega)]
  refine Ev.step (fun f => spec_ckSum.l0.eq_2 ..) (ev_pos (by show (1 : Int) < 3; omega) (ev_pos (by omega) (ev_pos (by show (1 : Int) < 3; omega) (ev_pos (by omega) (ev_pos k1.1 (ev_pos (show rd o 1 < 3 from k1.2) ?_))))))
  rw [w2, show rd_L2 w.L 1 = [w.d, w.e, w.f] from rfl, wr (by omega) (by omega)]
  refine Ev.step (fun f => spec_ckSum.l0.eq_2 ..) (ev_pos (by show (2 : Int) < 3; omega) (ev_pos (by omega) (ev_pos (by show (2 : Int) < 3; omega) (ev_pos (by omega) (ev_pos k2.1 (ev_pos (show rd o 2 < 3 from k2.2) ?_))))))
  rw [w3, show rd_L2 w.L 2 = [w.g, w.h, w.i] from rfl, wr (by omega) (by omega)]
  refine Ev.step (fun f => spec_ckSum.l0.eq_2 ..) (ev_neg (by show ¬ (3 : Int) < 3; omega) (ev_eq (Ev.now _) ?_))
  unfold S
  omega
theorem best_specL {w : W3} (h : Ok w 0 20) : ∀ (d t : Nat) (m : Int) (o : List Int), t + d = 6 → Ev (fun k => spec_BestRooms.l0 k w.L o m ordL 6 (t : Int)) (bst w d t m o, true)
  | 0, t, m, o, ht => Ev.step (fun f => spec_BestRooms.l0.eq_2 ..) (ev_neg (by omega) (Ev.now _))
  | d + 1, t, m, o, ht => by
    have hm := ord_mem (show t < 6 by omega)
    refine Ev.step (fun f => spec_BestRooms.l0.eq_2 ..) (ev_pos (by omega) (ev_pos (by omega) (ev_pos (by show (t : Int) < 6; omega) ?_)))
    rw [ord_rd, wr (show -9223372036854775808 ≤ (t : Int) + 1 by omega) (by omega)]
    refine Ev.bind (sum_spec h hm) ?_
    unfold bst
    by_cases hc : S w (ord t) > m
    · rw [if_pos hc]; exact ev_pos hc (best_specL h d (t + 1) _ _ (by omega))
    · rw [if_neg hc]; exact ev_neg hc (best_specL h d (t + 1) _ _ (by omega))
theorem best_implL {w : W3} (h : Ok w 0 20) : ∀ (d t : Nat) (m : Int) (o : List Int), t + d = 6 → Ev (fun k => impl_BestRooms.l0 k w.L m o ordL 6 (t : Int)) (bst w d t m o, true)
  | 0, t, m, o, ht => Ev.step (fun f => impl_BestRooms.l0.eq_2 ..) (ev_neg (by omega) (Ev.now _))
  | d + 1, t, m, o, ht => by
    have hm := ord_mem (show t < 6 by omega)
    obtain ⟨h3, hk⟩ := ord_ok hm
    have k0 := hk 0 (by omega)
    have k1 := hk 1 (by omega)
    have k2 := hk 2 (by omega)
    have e0 : rd (ord t) ((0 : Nat) : Int) = rd (ord t) 0 := rfl
    have e1 : rd (ord t) ((1 : Nat) : Int) = rd (ord t) 1 := rfl
    have e2 : rd (ord t) ((2 : Nat) : Int) = rd (ord t) 2 := rfl
    rw [e0] at k0
    rw [e1] at k1
    rw [e2] at k2
    have h1 := rd3_b h.a h.b h.c k0
    have h2 := rd3_b h.d h.e h.f k1
    have h4 := rd3_b h.g h.h h.i k2
    have eS : wrap64 ((wrap64 ((rd (rd_L2 w.L 0) (rd (ord t) 0)) + (rd (rd_L2 w.L 1) (rd (ord t) 1)))) + (rd (rd_L2 w.L 2) (rd (ord t) 2))) = S w (ord t) := by
      rw [show rd_L2 w.L 0 = [w.a, w.b, w.c] from rfl, show rd_L2 w.L 1 = [w.d, w.e, w.f] from rfl, show rd_L2 w.L 2 = [w.g, w.h, w.i] from rfl, wr (show -9223372036854775808 ≤ rd [w.a, w.b, w.c] (rd (ord t) 0) + rd [w.d, w.e, w.f] (rd (ord t) 1) by omega) (by omega), wr (by omega) (by omega)]
      rfl
    refine Ev.step (fun f => impl_BestRooms.l0.eq_2 ..) (ev_pos (by omega) (ev_pos (by omega) (ev_pos (by show (t : Int) < 6; omega) (ev_pos (by show (0 : Int) < 3; omega) ?_))))
    rw [ord_rd, eS, wr (show -9223372036854775808 ≤ (t : Int) + 1 by omega) (by omega)]
    refine ev_pos (by omega) (ev_pos k0.1 (ev_pos (show rd (ord t) 0 < 3 from k0.2) (ev_pos (by show (1 : Int) < 3; omega) (ev_pos (by omega) (ev_pos k1.1 (ev_pos (show rd (ord t) 1 < 3 from k1.2) (ev_pos (by show (2 : Int) < 3; omega) (ev_pos (by omega) (ev_pos k2.1 (ev_pos (show rd (ord t) 2 < 3 from k2.2) ?_))))))))))
    unfold bst
    by_cases hc : S w (ord t) > m
    · rw [if_pos hc]; exact ev_pos hc (best_implL h d (t + 1) _ _ (by omega))
    · rw [if_neg hc]; exact ev_neg hc (best_implL h d (t + 1) _ _ (by omega))
theorem best_both (T : List (List Int)) (hT : T.length ≤ 1000) (hr : ∀ t ∈ T, t.length ≤ 1000) :
    (okW T = false ∧ Ev (fun k => impl_BestRooms.f k T) ([], false) ∧ Ev (fun k => spec_BestRooms.f k T) ([], false)) ∨ ∃ w, T = w.L ∧ Ok w 0 20 ∧ okW T = true ∧ Ev (fun k => impl_BestRooms.f k T) (best w, true) ∧ Ev (fun k => spec_BestRooms.f k T) (best w, true) := by
  have g1 := worths_impl T hT hr
  have g2 := worths_spec T hT hr
  cases hk : okW T with
  | false =>
    rw [hk] at g1 g2
    exact .inl ⟨rfl, Ev.bind g1 (ev_neg (by decide) (Ev.now _)), Ev.bind g2 (ev_neg (by decide) (Ev.now _))⟩
  | true =>
    rw [hk] at g1 g2
    obtain ⟨w, rfl, h⟩ := ok_of hk
    exact .inr ⟨w, rfl, h, rfl, Ev.bind g1 (ev_pos rfl (ev_bind0 orders_impl (best_implL h 6 0 (-1) [] rfl))), Ev.bind g2 (ev_pos rfl (ev_bind0 orders_spec (best_specL h 6 0 (-1) [] rfl)))⟩
/-! ### the fairest rents -/
def At (w : W3) (n i : Nat) : W3 := w.net (rdP (ptsFn n) i)
/-- One more order at a point. -/
def f1 (w : W3) (n i : Nat) : Nat → Nat → Int × Int × List Int → Int × Int × List Int
  | 0, _, st => st
  | d + 1, t, st => f1 w n i d (t + 1) (if st.1 < 0 then (E (At w n i) (ord t), (i : Int), ord t) else if E (At w n i) (ord t) < st.1 then (E (At w n i) (ord t), (i : Int), ord t) else st)
def f0 (w : W3) (n : Nat) : Nat → Nat → Int × Int × List Int → Int × Int × List Int
  | 0, _, st => st
  | d + 1, i, st => f0 w n d (i + 1) (f1 w n i 6 0 st)
structure Inv (w : W3) (n i t : Nat) (st : Int × Int × List Int) : Prop where
  own : st.2.2 ∈ ordL
  at_ : ∃ j : Nat, st.2.1 = (j : Int) ∧ j ≤ i ∧ j < many n ∧ st.1 = E (At w n j) st.2.2
  pts : ∀ j, j < i → ∀ s, s < 6 → st.1 ≤ E (At w n j) (ord s)
  row : ∀ s, s < t → st.1 ≤ E (At w n i) (ord s)
theorem Inv.nn {w : W3} {n i t : Nat} {st : Int × Int × List Int} (h : Inv w n i t st) : 0 ≤ st.1 := by
  obtain ⟨j, _, _, _, e⟩ := h.at_
  rw [e]
  exact E_nonneg _ _
theorem f1_ok (w : W3) (n i : Nat) (hi : i < many n) : ∀ (d t : Nat) (st : Int × Int × List Int), t + d = 6 → ((i = 0 ∧ t = 0 ∧ st.1 = -1) ∨ Inv w n i t st) → ((d = 0 ∧ i = 0 ∧ t = 0) ∨ Inv w n i 6 (f1 w n i d t st))
  | 0, t, st, ht, hI => by
    have e : t = 6 := by omega
    subst e
    rcases hI with ⟨_, h0, _⟩ | h
    · omega
    · exact .inr h
  | d + 1, t, st, ht, hI => by
    have hm := ord_mem (show t < 6 by omega)
    have new : st.1 < 0 ∨ E (At w n i) (ord t) < st.1 → Inv w n i (t + 1) (E (At w n i) (ord t), (i : Int), ord t) := fun hc => by
      refine ⟨hm, ⟨i, rfl, Nat.le_refl _, hi, rfl⟩, fun j hj s hs => ?_, fun s hs => ?_⟩
      · rcases hI with ⟨h0, _, _⟩ | h
        · omega
        · have := h.nn
          have := h.pts j hj s hs
          dsimp only
          omega
      · dsimp only
        rcases Nat.lt_succ_iff_lt_or_eq.1 hs with e | e
        · rcases hI with ⟨_, h0, _⟩ | h
          · omega
          · have := h.nn
            have := h.row s e
            omega
        · subst e; exact Int.le_refl _
    unfold f1
    have go : Inv w n i (t + 1) (if st.1 < 0 then (E (At w n i) (ord t), (i : Int), ord t) else if E (At w n i) (ord t) < st.1 then (E (At w n i) (ord t), (i : Int), ord t) else st) := by
      by_cases c1 : st.1 < 0
      · rw [if_pos c1]; exact new (.inl c1)
      · rw [if_neg c1]
        by_cases c2 : E (At w n i) (ord t) < st.1
        · rw [if_pos c2]; exact new (.inr c2)
        · rw [if_neg c2]
          rcases hI with ⟨_, _, h0⟩ | h
          · omega
          · refine ⟨h.own, h.at_, h.pts, fun s hs => ?_⟩
            rcases Nat.lt_succ_iff_lt_or_eq.1 hs with e | e
            · exact h.row s e
            · subst e; omega
    rcases f1_ok w n i hi d (t + 1) _ (by omega) (.inr go) with ⟨_, _, h0⟩ | h
    · omega
    · exact .inr h
theorem f0_ok (w : W3) (n : Nat) : ∀ (d i : Nat) (st : Int × Int × List Int), i + d = many n → ((i = 0 ∧ st.1 = -1) ∨ Inv w n i 0 st) → ((d = 0 ∧ i = 0) ∨ Inv w n (many n) 0 (f0 w n d i st))
  | 0, i, st, hi, hI => by
    have e : i = many n := by omega
    subst e
    rcases hI with ⟨h0, _⟩ | h
    · exact .inl ⟨rfl, h0⟩
    · exact .inr h
  | d + 1, i, st, hi, hI => by
    unfold f0
    have h1 := f1_ok w n i (by omega) 6 0 st rfl (by
      rcases hI with ⟨h0, h1⟩ | h
      · exact .inl ⟨h0, rfl, h1⟩
      · exact .inr h)
    rcases h1 with ⟨h0, _⟩ | h
    · omega
    · have nx : Inv w n (i + 1) 0 (f1 w n i 6 0 st) := by
        obtain ⟨j, e1, e2, e3, e4⟩ := h.at_
        refine ⟨h.own, ⟨j, e1, by omega, e3, e4⟩, fun j' hj' s hs => ?_, fun s hs => by omega⟩
        rcases Nat.lt_succ_iff_lt_or_eq.1 hj' with e | e
        · exact h.pts j' e s hs
        · subst e; exact h.row s hs
      rcases f0_ok w n d (i + 1) _ (by omega) (.inr nx) with ⟨_, h0⟩ | h
      · omega
      · exact .inr h
def fair (w : W3) (n : Nat) : Int × Int × List Int := f0 w n (many n) 0 (-1, 0, [])
section
variable {n : Nat} (hS : Side n) {w : W3} (h : Ok w 0 20)
include hS h
theorem At_ok {i : Nat} (hi : i < many n) : Ok (At w n i) (-8) 20 := net_ok h (hS.inside hi)
theorem fair_i1 (i : Nat) (hi : i < many n) (r : Int × Int × List Int) : ∀ (d t : Nat) (st : Int × Int × List Int), t + d = 6 →
    Ev (fun k => impl_fairest__impl_FairRent_1.l0 k (f1 w n i d t st).1 (f1 w n i d t st).2.1 (f1 w n i d t st).2.2 (ptsFn n) ((ptsFn n).length : Int) ((i + 1 : Nat) : Int) [w.L]) r →
    Ev (fun k => impl_fairest__impl_FairRent_1.l1 k st.1 st.2.1 st.2.2 (i : Int) (At w n i).L (ptsFn n) ((ptsFn n).length : Int) (i : Int) ordL 6 (t : Int) [w.L]) r
  | 0, t, st, ht, k => by
    have hm := many_le hS.hi
    refine Ev.step (fun f => impl_fairest__impl_FairRent_1.l1.eq_2 ..) (ev_neg (by omega) ?_)
    rw [wr (show -9223372036854775808 ≤ (i : Int) + 1 by omega) (by omega)]
    exact k
  | d + 1, t, st, ht, k => by
    have hm := ord_mem (show t < 6 by omega)
    unfold f1 at k
    have ih := fair_i1 i hi r d (t + 1) _ (by omega) k
    refine Ev.step (fun f => impl_fairest__impl_FairRent_1.l1.eq_2 ..) (ev_pos (by omega) (ev_pos (by omega) (ev_pos (by show (t : Int) < 6; omega) ?_)))
    rw [ord_rd, wr (show -9223372036854775808 ≤ (t : Int) + 1 by omega) (by omega)]
    refine Ev.bind (envy_impl (At_ok hS h hi) hm) ?_
    by_cases c1 : st.1 < 0
    · rw [if_pos c1] at ih; exact ev_pos c1 ih
    · rw [if_neg c1] at ih
      refine ev_neg c1 ?_
      by_cases c2 : E (At w n i) (ord t) < st.1
      · rw [if_pos c2] at ih; exact ev_pos c2 ih
      · rw [if_neg c2] at ih; exact ev_neg c2 ih
theorem fair_i0 : ∀ (d i : Nat) (st : Int × Int × List Int), i + d = many n → Ev (fun k => impl_fairest__impl_FairRent_1.l0 k st.1 st.2.1 st.2.2 (ptsFn n) ((ptsFn n).length : Int) (i : Int) [w.L]) (f0 w n d i st)
  | 0, i, st, hi => by
    have hl := pts_lenI hS rfl
    exact Ev.step (fun f => impl_fairest__impl_FairRent_1.l0.eq_2 ..) (ev_neg (by omega) (Ev.now _))
  | d + 1, i, st, hi => by
    have hl := pts_lenI hS rfl
    have hlt : i < many n := by omega
    refine Ev.step (fun f => impl_fairest__impl_FairRent_1.l0.eq_2 ..) (ev_pos (by omega) (ev_pos (by omega) (ev_pos (by omega) (Ev.bind (a := (At w n i).L) (ev_pos (by show (0 : Int) < 1; omega) (Ev.bind (net_impl h (hS.inside hlt)) (Ev.now _))) (ev_bind0 orders_impl ?_)))))
    unfold f0
    exact fair_i1 hS h i hlt _ 6 0 st rfl (fair_i0 d (i + 1) _ (by omega))
theorem fair_s1 (i : Nat) (hi : i < many n) (r : Int × List Int × Bool) : ∀ (d t : Nat) (st : Int × Int × List Int), t + d = 6 →
    Ev (fun k => spec_FairRent.l0 k (n : Int) w.L (f1 w n i d t st).2.1 (f1 w n i d t st).1 (f1 w n i d t st).2.2 ((i + 1 : Nat) : Int)) r →
    Ev (fun k => spec_FairRent.l1 k (n : Int) w.L st.2.1 st.1 st.2.2 (i : Int) ordL 6 (t : Int)) r
  | 0, t, st, ht, k => by
    have hm := many_le hS.hi
    refine Ev.step (fun f => spec_FairRent.l1.eq_2 ..) (ev_neg (by omega) ?_)
    rw [wr (show -9223372036854775808 ≤ (i : Int) + 1 by omega) (by omega)]
    exact k
  | d + 1, t, st, ht, k => by
    have hm := ord_mem (show t < 6 by omega)
    unfold f1 at k
    have ih := fair_s1 i hi r d (t + 1) _ (by omega) k
    refine Ev.step (fun f => spec_FairRent.l1.eq_2 ..) (ev_pos (by omega) (ev_pos (by omega) (ev_pos (by show (t : Int) < 6; omega) ?_)))
    rw [ord_rd, wr (show -9223372036854775808 ≤ (t : Int) + 1 by omega) (by omega)]
    refine Ev.bind (net_spec h hS hi) (Ev.bind (envy_spec (At_ok hS h hi) hm) ?_)
    by_cases c1 : st.1 < 0
    · rw [if_pos c1] at ih; exact ev_pos c1 ih
    · rw [if_neg c1] at ih
      refine ev_neg c1 ?_
      by_cases c2 : E (At w n i) (ord t) < st.1
      · rw [if_pos c2] at ih; exact ev_pos c2 ih
      · rw [if_neg c2] at ih; exact ev_neg c2 ih
theorem fair_s0 : ∀ (d i : Nat) (st : Int × Int × List Int), i + d = many n → Ev (fun k => spec_FairRent.l0 k (n : Int) w.L st.2.1 st.1 st.2.2 (i : Int)) ((f0 w n d i st).2.1, (f0 w n d i st).2.2, true)
  | 0, i, st, hi => Ev.step (fun f => spec_FairRent.l0.eq_2 ..) (ev_bind0 (count_ev hS rfl) (ev_neg (by omega) (Ev.now _)))
  | d + 1, i, st, hi => by
    refine Ev.step (fun f => spec_FairRent.l0.eq_2 ..) (ev_bind0 (count_ev hS rfl) (ev_pos (by omega) (ev_bind0 orders_spec ?_)))
    unfold f0
    exact fair_s1 hS h i (by omega) _ 6 0 st rfl (fair_s0 d (i + 1) _ (by omega))
theorem fair_inv : Inv w n (many n) 0 (fair w n) := by
  rcases f0_ok w n (many n) 0 (-1, 0, []) (Nat.zero_add _) (.inl ⟨rfl, rfl⟩) with ⟨h0, _⟩ | g
  · exfalso
    have : many n = 0 := h0
    unfold many at this
    have : 2 * 3 ≤ (n + 1) * (n + 2) := Nat.mul_le_mul (by have := hS.lo; omega) (by have := hS.lo; omega)
    omega
  · exact g
end
theorem fair_both (a : Int) (T : List (List Int)) (hT : T.length ≤ 1000) (hr : ∀ t ∈ T, t.length ≤ 1000) :
    (Ev (fun k => impl_FairRent.f k a T) (0, [], false) ∧ Ev (fun k => spec_FairRent.f k a T) (0, [], false)) ∨ ∃ n w, a = ((n : Nat) : Int) ∧ Side n ∧ T = W3.L w ∧ Ok w 0 20 ∧ Ev (fun k => impl_FairRent.f k a T) ((fair w n).2.1, (fair w n).2.2, true) ∧ Ev (fun k => spec_FairRent.f k a T) ((fair w n).2.1, (fair w n).2.2, true) := by
  have g1 := worths_impl T hT hr
  have g2 := worths_spec T hT hr
  by_cases hn : 1 ≤ a ∧ a ≤ 8
  · obtain ⟨n, rfl, hS⟩ := side_of hn
    cases hk : okW T with
    | false =>
      rw [hk] at g1 g2
      refine .inl ⟨ev_bind0 (side_impl _) (ev_pos (decide_eq_true hn) (Ev.bind g1 (ev_neg (by decide) (Ev.now _)))), ev_bind0 (side_spec _) (ev_pos (decide_eq_true hn) (Ev.bind g2 (Ev.step (fun f => spec_FairRent.j0.eq_2 ..) (ev_pos rfl (Ev.now _)))))⟩
    | true =>
      rw [hk] at g1 g2
      obtain ⟨w, rfl, h⟩ := ok_of hk
      refine .inr ⟨n, w, rfl, hS, rfl, h, ev_bind0 (side_impl _) (ev_pos (decide_eq_true hn) (Ev.bind g1 (ev_pos rfl (Ev.bind (Ev.bind hS.points (fair_i0 hS h (many n) 0 (-1, 0, []) (Nat.zero_add _))) (Ev.now _))))), ev_bind0 (side_spec _) (ev_pos (decide_eq_true hn) (Ev.bind g2 (Ev.step (fun f => spec_FairRent.j0.eq_2 ..) (ev_neg (by decide) (fair_s0 hS h (many n) 0 (-1, 0, []) (Nat.zero_add _))))))⟩
  · exact .inl ⟨ev_bind0 (side_impl _) (ev_neg (by rw [decide_eq_false hn]; decide) (Ev.now _)), ev_bind0 (side_spec _) (ev_neg (by rw [decide_eq_false hn]; decide) (Ev.step (fun f => spec_FairRent.j0.eq_2 ..) (ev_pos rfl (Ev.now _))))⟩
/-! ### envy at rents -/
def shL : List (List Int) := [[0, 1], [0, 0, 1], [0, 1, 3], [-1, 0, 1], [0, 1, 2, 3]] ++ ordL
theorem sh_tab : (shL.all fun o => impl_arePieces.f 40 o == some (decide (o ∈ ordL)) && spec_ckShares.f 20 o == some (decide (o ∈ ordL))) = true := by decide +kernel
theorem sh_ev {o : List Int} (ho : o ∈ shL) : Ev (fun k => impl_arePieces.f k o) (decide (o ∈ ordL)) ∧ Ev (fun k => spec_ckShares.f k o) (decide (o ∈ ordL)) := by
  have a := Bool.and_eq_true_iff.1 (List.all_eq_true.1 sh_tab o ho)
  exact ⟨Ev.of (fun k => impl_arePieces.mono _ k) (eq_of_beq a.1), Ev.of (fun k => spec_ckShares.mono _ k) (eq_of_beq a.2)⟩
theorem renvy_ok {n : Nat} (hS : Side n) {w : W3} (h : Ok w 0 20) {i : Nat} (hi : i < many n) {o : List Int} (ho : o ∈ ordL) : Ev (fun k => impl_RentEnvy.f k (n : Int) w.L (i : Int) o) (E (At w n i) o, true) ∧ Ev (fun k => spec_RentEnvy.f k (n : Int) w.L (i : Int) o) (E (At w n i) o, true) := by
  have hw : okW w.L = true := okW_of h
  have hlen : ∀ t ∈ w.L, t.length ≤ 1000 := fun t ht => by
    simp only [W3.L, List.mem_cons, List.not_mem_nil, or_false] at ht
    rcases ht with rfl | rfl | rfl <;> simp
  have g1 := worths_impl w.L (by simp [W3.L]) hlen
  have g2 := worths_spec w.L (by simp [W3.L]) hlen
  rw [hw] at g1 g2
  have hl := pts_lenI hS rfl
  obtain ⟨s1, s2⟩ := sh_ev (show o ∈ shL from List.mem_append_right _ ho)
  rw [decide_eq_true ho] at s1 s2
  have p1 := isP_ev hS (i : Int)
  have hd : decide (0 ≤ (i : Int) ∧ (i : Int) < (many n : Int)) = true := decide_eq_true (by omega)
  rw [hd] at p1
  refine ⟨Ev.bind g1 (ev_pos rfl (Ev.bind p1 (ev_pos rfl (Ev.bind s1 (Ev.step (fun f => impl_RentEnvy.j0.eq_2 ..) (ev_neg (by decide) (Ev.bind hS.points (ev_pos (by omega) (ev_pos (by omega) (Ev.bind (net_impl h (hS.inside hi)) (Ev.bind (envy_impl (At_ok hS h hi) ho) (Ev.now _)))))))))))), ?_⟩
  refine ev_bind0 (point_spec hS _) ?_
  rw [hd]
  exact ev_pos rfl (Ev.bind g2 (ev_pos rfl (Ev.bind s2 (Ev.step (fun f => spec_RentEnvy.j0.eq_2 ..) (ev_neg (by decide) (Ev.bind (net_spec h hS hi) (Ev.bind (envy_spec (At_ok hS h hi) ho) (Ev.now _))))))))
theorem renvy_both (a : Int) (T : List (List Int)) (hT : T.length ≤ 1000) (hr : ∀ t ∈ T, t.length ≤ 1000) (x : Int) {o : List Int} (ho : o ∈ shL) : ∃ r, Ev (fun k => impl_RentEnvy.f k a T x o) r ∧ Ev (fun k => spec_RentEnvy.f k a T x o) r := by
  have g1 := worths_impl T hT hr
  have g2 := worths_spec T hT hr
  obtain ⟨s1, s2⟩ := sh_ev ho
  have bI : Ev (fun k => impl_RentEnvy.j0 k a T x o true) (0, false) := Ev.step (fun f => impl_RentEnvy.j0.eq_2 ..) (ev_pos rfl (Ev.now _))
  have bS : Ev (fun k => spec_RentEnvy.j0 k a T x o true) (0, false) := Ev.step (fun f => spec_RentEnvy.j0.eq_2 ..) (ev_pos rfl (Ev.now _))
  by_cases hn : 1 ≤ a ∧ a ≤ 8
  · obtain ⟨n, rfl, hS⟩ := side_of hn
    have p1 := isP_ev hS x
    by_cases hx : 0 ≤ x ∧ x < (many n : Int)
    · cases hk : okW T with
      | true =>
        obtain ⟨w, rfl, h⟩ := ok_of hk
        obtain ⟨i, rfl⟩ := Int.eq_ofNat_of_zero_le hx.1
        by_cases hO : o ∈ ordL
        · exact ⟨_, renvy_ok hS h (by omega) hO⟩
        · rw [hk] at g1 g2
          rw [decide_eq_false hO] at s1 s2
          rw [decide_eq_true hx] at p1
          exact ⟨(0, false), Ev.bind g1 (ev_pos rfl (Ev.bind p1 (ev_pos rfl (Ev.bind s1 bI)))), ev_bind0 (point_spec hS _) (ev_pos (decide_eq_true hx) (Ev.bind g2 (ev_pos rfl (Ev.bind s2 bS))))⟩
      | false =>
        rw [hk] at g1 g2
        exact ⟨(0, false), Ev.bind g1 (ev_neg (by decide) bI), ev_bind0 (point_spec hS _) (ev_pos (decide_eq_true hx) (Ev.bind g2 (ev_neg (by decide) bS)))⟩
    · rw [decide_eq_false hx] at p1
      refine ⟨(0, false), ?_, ev_bind0 (point_spec hS _) (ev_neg (by rw [decide_eq_false hx]; decide) bS)⟩
      refine Ev.bind g1 ?_
      cases okW T with
      | true => exact ev_pos rfl (Ev.bind p1 (ev_neg (by decide) bI))
      | false => exact ev_neg (by decide) bI
  · refine ⟨(0, false), ?_, ev_bind0 (point_no hn _) (ev_neg (by decide) bS)⟩
    refine Ev.bind g1 ?_
    cases okW T with
    | true => exact ev_pos rfl (Ev.bind (isP_no hn _) (ev_neg (by decide) bI))
    | false => exact ev_neg (by decide) bI
/-! ### no envy: the greatest sum -/
theorem no_envy {w : W3} {o : List Int} (ho : o ∈ ordL) (h : E w o = 0) : ∀ o' ∈ ordL, S w o' ≤ S w o := by
  intro o' ho'
  have t : ∀ x ∈ trm w o, x ≤ 0 := fun x hx => by
    have := (top_ge (trm w o) 0).2 x hx
    have e : (trm w o).foldl mx 0 = 0 := h
    omega
  obtain ⟨s1, s2, s3, s4, s5, s6⟩ := S_cases w
  rcases ord_cases ho with rfl | rfl | rfl | rfl | rfl | rfl
  · have t0 := t (w.a - w.a) (by simp [trm, rd]); have t1 := t (w.b - w.a) (by simp [trm, rd]); have t2 := t (w.c - w.a) (by simp [trm, rd]); have t3 := t (w.d - w.e) (by simp [trm, rd]); have t4 := t (w.f - w.e) (by simp [trm, rd]); have t5 := t (w.g - w.i) (by simp [trm, rd]); have t6 := t (w.h - w.i) (by simp [trm, rd])
    clear t h
    rcases ord_cases ho' with rfl | rfl | rfl | rfl | rfl | rfl <;> omega
  · have t0 := t (w.a - w.a) (by simp [trm, rd]); have t1 := t (w.b - w.a) (by simp [trm, rd]); have t2 := t (w.c - w.a) (by simp [trm, rd]); have t3 := t (w.d - w.f) (by simp [trm, rd]); have t4 := t (w.e - w.f) (by simp [trm, rd]); have t5 := t (w.g - w.h) (by simp [trm, rd]); have t6 := t (w.i - w.h) (by simp [trm, rd])
    clear t h
    rcases ord_cases ho' with rfl | rfl | rfl | rfl | rfl | rfl <;> omega
  · have t0 := t (w.a - w.b) (by simp [trm, rd]); have t2 := t (w.c - w.b) (by simp [trm, rd]); have t3 := t (w.e - w.d) (by simp [trm, rd]); have t4 := t (w.f - w.d) (by simp [trm, rd]); have t5 := t (w.g - w.i) (by simp [trm, rd]); have t6 := t (w.h - w.i) (by simp [trm, rd])
    clear t h
    rcases ord_cases ho' with rfl | rfl | rfl | rfl | rfl | rfl <;> omega
  · have t0 := t (w.a - w.b) (by simp [trm, rd]); have t2 := t (w.c - w.b) (by simp [trm, rd]); have t3 := t (w.d - w.f) (by simp [trm, rd]); have t4 := t (w.e - w.f) (by simp [trm, rd]); have t5 := t (w.h - w.g) (by simp [trm, rd]); have t6 := t (w.i - w.g) (by simp [trm, rd])
    clear t h
    rcases ord_cases ho' with rfl | rfl | rfl | rfl | rfl | rfl <;> omega
  · have t0 := t (w.a - w.c) (by simp [trm, rd]); have t2 := t (w.b - w.c) (by simp [trm, rd]); have t3 := t (w.e - w.d) (by simp [trm, rd]); have t4 := t (w.f - w.d) (by simp [trm, rd]); have t5 := t (w.g - w.h) (by simp [trm, rd]); have t6 := t (w.i - w.h) (by simp [trm, rd])
    clear t h
    rcases ord_cases ho' with rfl | rfl | rfl | rfl | rfl | rfl <;> omega
  · have t0 := t (w.a - w.c) (by simp [trm, rd]); have t2 := t (w.b - w.c) (by simp [trm, rd]); have t3 := t (w.d - w.e) (by simp [trm, rd]); have t4 := t (w.f - w.e) (by simp [trm, rd]); have t5 := t (w.h - w.g) (by simp [trm, rd]); have t6 := t (w.i - w.g) (by simp [trm, rd])
    clear t h
    rcases ord_cases ho' with rfl | rfl | rfl | rfl | rfl | rfl <;> omega
theorem S_net (w : W3) (p : Pt) {o : List Int} (ho : o ∈ ordL) : S (w.net p) o = S w o - (p.f0 + p.f1 + p.f2) := by
  obtain ⟨s1, s2, s3, s4, s5, s6⟩ := S_cases w
  obtain ⟨r1, r2, r3, r4, r5, r6⟩ := S_cases (w.net p)
  have na : (w.net p).a = w.a - p.f0 := rfl
  have nb : (w.net p).b = w.b - p.f1 := rfl
  have nc : (w.net p).c = w.c - p.f2 := rfl
  have nd : (w.net p).d = w.d - p.f0 := rfl
  have ne : (w.net p).e = w.e - p.f1 := rfl
  have nf : (w.net p).f = w.f - p.f2 := rfl
  have ng : (w.net p).g = w.g - p.f0 := rfl
  have nh : (w.net p).h = w.h - p.f1 := rfl
  have ni : (w.net p).i = w.i - p.f2 := rfl
  rcases ord_cases ho with rfl | rfl | rfl | rfl | rfl | rfl <;> omega
/-! ### draws -/
theorem side_ev {l : List Int} (h : U8 l) {a : Int} (s m : Int) (h0 : 0 ≤ a) (h1 : a ≤ 4611686018427380000) : ∃ v a' s', spec_l1Cur_side.f l a s m = some (v, a', s') ∧ a ≤ a' ∧ a' ≤ a + 4 := by
  unfold spec_l1Cur_side.f
  obtain ⟨b, a1, s1, e1, b1, c1⟩ := one_ev h s 12 h0 (by omega)
  rw [e1, Option.bind_some]
  dsimp only
  cases b with
  | true =>
    obtain ⟨v, a2, s2, e2, _, b2, c2⟩ := among_ev h s1 [-1, 0, 8, 9] (by decide) (show 0 ≤ a1 by omega) (by omega)
    rw [if_pos rfl, e2, Option.bind_some]
    exact ⟨_, _, _, rfl, by dsimp only; omega, by dsimp only; omega⟩
  | false =>
    obtain ⟨v, a2, s2, e2, _, _, b2, c2⟩ := pick_ev h s1 m (show 0 ≤ a1 by omega) (by omega)
    rw [if_neg (by decide), e2, Option.bind_some]
    exact ⟨_, _, _, rfl, by dsimp only; omega, by dsimp only; omega⟩
theorem rooms_loop {l : List Int} (h : U8 l) : ∀ (d i : Nat) (out : List (List Int)) (a s : Int), i + d = 3 → out.length = i → (∀ t ∈ out, t.length = 3) → 0 ≤ a → a + 6 * (d : Int) ≤ 4000 → ∃ r : List (List Int) × Int × Int, Ev (fun k => spec_l1Cur_rooms.l0 k out (i : Int) l a s) r ∧ r.1.length ≤ 3 ∧ (∀ t ∈ r.1, t.length ≤ 3) ∧ 0 ≤ r.2.1 ∧ r.2.1 ≤ a + 6 * (d : Int) + 4
  | 0, i, out, a, s, hi, ho, ht, h0, h1 => by
    obtain ⟨v, a1, s1, e1, v0, v1, b1, c1⟩ := pick_ev h s 20 h0 (by omega)
    have go : ∀ r : List (List Int) × Int × Int, Ev (fun k => if v = 0 then (if 2 ≤ (out.length : Int) then (some ((out.take (2 : Int).toNat), a1, s1)) else (none)) else (if v = 1 then (if 2 < (out.length : Int) then (some ((out.set (2 : Int).toNat (([1, 2] : List Int))), a1, s1)) else (none)) else (if v = 2 then (if 0 < (out.length : Int) then ((spec_l1Cur_among.f l a1 s1 (([(-1), 20, 21, 4611686018427387904] : List Int))).bind fun bt156 => (if 0 < ((rd_L2 out 0).length : Int) then (some ((out.set (0 : Int).toNat ((rd_L2 out 0).set (0 : Int).toNat bt156.1)), bt156.2.1, bt156.2.2)) else (none))) else (none)) else (some (out, a1, s1))))) r → Ev (fun k => spec_l1Cur_rooms.l0 k out (i : Int) l a s) r := fun r hr =>
      Ev.step (fun f => spec_l1Cur_rooms.l0.eq_2 ..) (ev_neg (by omega) (ev_bind0 e1 hr))
    by_cases q0 : v = 0
    · exact ⟨_, go _ (ev_pos q0 (ev_pos (by omega) (Ev.now _))), by dsimp only; rw [List.length_take]; omega, fun t hx => by have := ht t (List.mem_of_mem_take hx); omega, by dsimp only; omega, by dsimp only; omega⟩
    · by_cases q1 : v = 1
      · refine ⟨_, go _ (ev_neg q0 (ev_pos q1 (ev_pos (by omega) (Ev.now _)))), by dsimp only; rw [List.length_set]; omega, fun t hx => ?_, by dsimp only; omega, by dsimp only; omega⟩
        rcases List.mem_or_eq_of_mem_set hx with hx | rfl
        · have := ht t hx; omega
        · simp
      · by_cases q2 : v = 2
        · obtain ⟨x, a2, s2, e2, _, b2, c2⟩ := among_ev h s1 [(-1), 20, 21, 4611686018427387904] (by decide) (show 0 ≤ a1 by omega) (by omega)
          have h3 : (rd_L2 out 0).length = 3 := by
            rw [show (0 : Int) = ((0 : Nat) : Int) from rfl, row_at (show 0 < out.length by omega)]
            exact ht _ (List.getElem_mem _)
          refine ⟨_, go _ (ev_neg q0 (ev_neg q1 (ev_pos q2 (ev_pos (by omega) (ev_bind0 e2 (ev_pos (by omega) (Ev.now _))))))), by dsimp only; rw [List.length_set]; omega, fun t hx => ?_, by dsimp only; omega, by dsimp only; omega⟩
          rcases List.mem_or_eq_of_mem_set hx with hx | rfl
          · have := ht t hx; omega
          · rw [List.length_set]; omega
        · exact ⟨_, go _ (ev_neg q0 (ev_neg q1 (ev_neg q2 (Ev.now _)))), by dsimp only; omega, fun t hx => by have := ht t hx; omega, by dsimp only; omega, by dsimp only; omega⟩
  | d + 1, i, out, a, s, hi, ho, ht, h0, h1 => by
    obtain ⟨x, a1, s1, e1, _, _, b1, c1⟩ := pick_ev h s 9 h0 (by omega)
    obtain ⟨y, a2, s2, e2, _, _, b2, c2⟩ := pick_ev h s1 9 (show 0 ≤ a1 by omega) (by omega)
    obtain ⟨z, a3, s3, e3, _, _, b3, c3⟩ := pick_ev h s2 9 (show 0 ≤ a2 by omega) (by omega)
    obtain ⟨r, hr, r1, r2, r3, r4⟩ := rooms_loop h d (i + 1) (out ++ [[x, y, z]]) a3 s3 (by omega) (by rw [List.length_append]; simp; omega) (fun t hx => by
      rcases List.mem_append.1 hx with hx | hx
      · exact ht t hx
      · rw [List.mem_singleton.1 hx]; rfl) (by omega) (by omega)
    refine ⟨r, Ev.step (fun f => spec_l1Cur_rooms.l0.eq_2 ..) (ev_pos (by omega) (ev_bind0 e1 (ev_bind0 e2 (ev_bind0 e3 (ev_pos (by omega) ?_))))), r1, r2, r3, by omega⟩
    rw [wr (show -9223372036854775808 ≤ (i : Int) + 1 by omega) (by omega)]
    exact hr
theorem rooms_ev {l : List Int} (h : U8 l) (a s : Int) (h0 : 0 ≤ a) (h1 : a ≤ 100) : ∃ r : List (List Int) × Int × Int, Ev (fun k => spec_l1Cur_rooms.f k l a s) r ∧ r.1.length ≤ 3 ∧ (∀ t ∈ r.1, t.length ≤ 3) ∧ 0 ≤ r.2.1 ∧ r.2.1 ≤ 200 := by
  obtain ⟨r, hr, r1, r2, r3, r4⟩ := rooms_loop h 3 0 [] a s rfl rfl (fun t hx => (by cases hx)) h0 (by omega)
  exact ⟨r, hr, r1, r2, r3, by omega⟩
theorem point_ev {l : List Int} (h : U8 l) (a s n : Int) (h0 : 0 ≤ a) (h1 : a ≤ 1000) : ∃ r : Int × Int × Int, Ev (fun k => spec_l1Cur_point.f k l a s n) r ∧ 0 ≤ r.2.1 ∧ r.2.1 ≤ 2000 := by
  have far : ∀ a s : Int, 0 ≤ a → a ≤ 1100 → ∃ r : Int × Int × Int, Ev (fun k => spec_l1Cur_point.j0 k n true l a s) r ∧ 0 ≤ r.2.1 ∧ r.2.1 ≤ 2000 := fun a s k0 k1 => by
    obtain ⟨x, a2, s2, e2, _, b2, c2⟩ := among_ev h s [(-1), 0, 45, 4611686018427387904] (by decide) k0 (by omega)
    exact ⟨_, Ev.step (fun f => spec_l1Cur_point.j0.eq_2 ..) (ev_pos rfl (ev_bind0 e2 (Ev.now _))), by dsimp only; omega, by dsimp only; omega⟩
  by_cases hn : 1 ≤ n ∧ n ≤ 8
  · obtain ⟨n', rfl, hS⟩ := side_of hn
    obtain ⟨b, a1, s1, e1, b1, c1⟩ := one_ev h s 16 h0 (by omega)
    cases b with
    | true =>
      obtain ⟨r, hr, k0, k1⟩ := far a1 s1 (by omega) (by omega)
      exact ⟨r, ev_bind0 (side_spec _) (ev_pos (decide_eq_true hn) (ev_bind0 e1 hr)), k0, k1⟩
    | false =>
      obtain ⟨x, a2, s2, e2, _, _, b2, c2⟩ := pick_ev h s1 (many n' : Int) (show 0 ≤ a1 by omega) (by omega)
      exact ⟨_, ev_bind0 (side_spec _) (ev_pos (decide_eq_true hn) (ev_bind0 e1 (Ev.step (fun f => spec_l1Cur_point.j0.eq_2 ..) (ev_neg Bool.false_ne_true (ev_bind0 (count_ev hS rfl) (ev_bind0 e2 (Ev.now _))))))), by dsimp only; omega, by dsimp only; omega⟩
  · obtain ⟨r, hr, k0, k1⟩ := far a s h0 (by omega)
    exact ⟨r, ev_bind0 (side_spec _) (ev_neg (by rw [decide_eq_false hn]; decide) hr), k0, k1⟩
theorem rdL_mem {T : List (List Int)} {v : Int} (h0 : 0 ≤ v) (h1 : v < (T.length : Int)) : rd_L2 T v ∈ T := by
  obtain ⟨i, rfl⟩ := Int.eq_ofNat_of_zero_le h0
  rw [row_at (by omega)]
  exact List.getElem_mem _
theorem shares_ev {l : List Int} (h : U8 l) (a s : Int) (h0 : 0 ≤ a) (h1 : a ≤ 3000) : ∃ r : List Int × Int × Int, spec_l1Cur_shares.f l a s = some r ∧ r.1 ∈ shL := by
  unfold spec_l1Cur_shares.f
  obtain ⟨b, a1, s1, e1, b1, c1⟩ := one_ev h s 14 h0 (by omega)
  rw [e1, Option.bind_some]
  dsimp only
  cases b with
  | true =>
    obtain ⟨v, a2, s2, e2, v0, v1, b2, c2⟩ := pick_ev h s1 5 (show 0 ≤ a1 by omega) (by omega)
    rw [if_pos rfl, Option.bind_some, e2, Option.bind_some]
    dsimp only
    rw [if_pos v0, if_pos (by show v < 5; omega)]
    exact ⟨_, rfl, List.mem_append_left _ (rdL_mem v0 (by show v < 5; omega))⟩
  | false =>
    obtain ⟨v, a2, s2, e2, v0, v1, b2, c2⟩ := pick_ev h s1 6 (show 0 ≤ a1 by omega) (by omega)
    rw [if_neg (by decide), orders_spec, Option.bind_some, e2, Option.bind_some]
    dsimp only
    rw [if_pos v0, if_pos (by show v < 6; omega)]
    exact ⟨_, rfl, List.mem_append_right _ (rdL_mem v0 (by show v < 6; omega))⟩
theorem sameZ_loop (a : List Int) (ha : a.length ≤ 10000) : ∀ d i : Nat, i + d = a.length → Ev (fun f => laws_zSame.l0 f a a (a.length : Int) (i : Int)) true
  | 0, i, h => Ev.step (fun f => laws_zSame.l0.eq_2 ..) (ev_neg (by omega) (Ev.now _))
  | d + 1, i, h => by
    refine Ev.step (fun f => laws_zSame.l0.eq_2 ..) (ev_pos (by omega) (ev_pos (by omega) (ev_pos (by omega) (ev_pos (by omega) (ev_pos rfl ?_)))))
    rw [wr (show -9223372036854775808 ≤ (i : Int) + 1 by omega) (by omega)]
    exact sameZ_loop a ha d (i + 1) (by omega)
theorem sameZ_ev (a : List Int) (ha : a.length ≤ 10000) : Ev (fun f => laws_zSame.f f a a) true := ev_pos rfl (sameZ_loop a ha a.length 0 (by omega))
theorem ord_len {o : List Int} (ho : o ∈ ordL) : o.length ≤ 10000 := by have := (ord_ok ho).1; omega
/-! ### the law -/
theorem j4_ev {l : List Int} (h : U8 l) : Ev (fun f => laws_FnRentsAreFair.j4 f l) true := by
  obtain ⟨n, a1, s1, e1, b1, c1⟩ := side_ev h 0 8 (Int.le_refl 0) (by decide)
  obtain ⟨⟨T, a2, s2⟩, hT, t1, t2, t3, t4⟩ := rooms_ev h a1 s1 b1 (by omega)
  dsimp only at t1 t2 t3 t4
  obtain ⟨⟨x, a3, s3⟩, hx, x1, x2⟩ := point_ev h a2 s2 n t3 (by omega)
  dsimp only at x1 x2
  obtain ⟨⟨o, a4, s4⟩, ho, hm⟩ := shares_ev h a3 s3 x1 (by omega)
  dsimp only at hm
  have hd : Ev (fun k => spec_DrawRentEnvy.f k l) (n, T, x, o) := ev_bind0 e1 (Ev.bind hT (Ev.bind hx (ev_bind0 ho (Ev.now _))))
  obtain ⟨⟨r1, r2⟩, g1, g2⟩ := renvy_both n T (by omega) (fun t ht => by have := t2 t ht; omega) x hm
  obtain ⟨⟨G, a5, s5⟩, hG, k1, k2, _, _⟩ := rooms_ev h 0 0 (Int.le_refl 0) (by decide)
  dsimp only at k1 k2
  have hd2 : Ev (fun k => spec_DrawBestRooms.f k l) G := Ev.bind hG (Ev.now _)
  have fin : ∀ (o : List Int) (b : Bool), o.length ≤ 10000 → Ev (fun k => impl_BestRooms.f k G) (o, b) → Ev (fun k => spec_BestRooms.f k G) (o, b) → Ev (fun f => laws_FnRentsAreFair.j4 f l) true := fun o b hl q1 q2 =>
    Ev.step (fun f => laws_FnRentsAreFair.j4.eq_2 ..) (Ev.bind hd (Ev.bind g1 (Ev.bind g2 (Ev.bind hd2 (Ev.bind q1 (Ev.bind q2 (ev_pos (beq_self_eq_true _) (ev_pos rfl (ev_pos (beq_self_eq_true _) (Ev.bind (sameZ_ev o hl) (Ev.now _)))))))))))
  rcases best_both G (by omega) (fun t ht => by have := k2 t ht; omega) with ⟨_, q1, q2⟩ | ⟨w, _, hw, _, q1, q2⟩
  · exact fin [] false (by simp) q1 q2
  · exact fin (best w) true (ord_len (best_ok hw).1) q1 q2
section
variable {l : List Int} (hu : U8 l) {n : Nat} (hS : Side n) {w : W3} (h : Ok w 0 20)
include hu hS h
theorem l1_ev (least : Int) (hle : ∀ i, i < many n → least ≤ E (At w n i) (best w)) : ∀ d i : Nat, i + d = many n → Ev (fun f => laws_FnRentsAreFair.l1 f l (n : Int) w.L (best w) least (many n : Int) true (i : Int)) true
  | 0, i, hi => Ev.step (fun f => laws_FnRentsAreFair.l1.eq_2 ..) (ev_neg (by omega) (ev_pos rfl (j4_ev hu)))
  | d + 1, i, hi => by
    have hm := many_le hS.hi
    have := hle i (by omega)
    refine Ev.step (fun f => laws_FnRentsAreFair.l1.eq_2 ..) (ev_pos (by omega) (Ev.bind (renvy_ok hS h (show i < many n by omega) (best_ok h).1).1 (ev_pos rfl (ev_neg (by dsimp only; omega) ?_))))
    rw [wr (show -9223372036854775808 ≤ (i : Int) + 1 by omega) (by omega)]
    exact l1_ev least hle d (i + 1) (by omega)
theorem j2_ev (least : Int) (hle : ∀ i, i < many n → least ≤ E (At w n i) (best w)) : Ev (fun f => laws_FnRentsAreFair.j2 f l (n : Int) w.L (best w) least false) true := by
  have hcnt : impl_CountPoints.f (n : Int) = some ((many n : Int), true) := by
    unfold impl_CountPoints.f
    rw [side_impl, decide_eq_true (show (1 : Int) ≤ n ∧ (n : Int) ≤ 8 by have := hS.lo; have := hS.hi; omega), Option.bind_some, if_pos rfl, many_impl hS]; rfl
  exact Ev.step (fun f => laws_FnRentsAreFair.j2.eq_2 ..) (ev_neg Bool.false_ne_true (ev_bind0 hcnt (l1_ev hu hS h least hle (many n) 0 (Nat.zero_add _))))
theorem l0_ev (o : List Int) (ho : o ∈ ordL) (least : Int) (h0 : least = 0 → S w o = S w (best w)) (hle : ∀ i, i < many n → least ≤ E (At w n i) (best w)) : Ev (fun f => laws_FnRentsAreFair.l0 f l (n : Int) w.L o (best w) least true 0 0 w.L 3 0) true := by
  have hb := (best_ok h).1
  obtain ⟨h3, hk⟩ := ord_ok ho
  obtain ⟨g3, gk⟩ := ord_ok hb
  have k0 : 0 ≤ rd o 0 ∧ rd o 0 < 3 := hk 0 (by omega)
  have k1 : 0 ≤ rd o 1 ∧ rd o 1 < 3 := hk 1 (by omega)
  have k2 : 0 ≤ rd o 2 ∧ rd o 2 < 3 := hk 2 (by omega)
  have j0 : 0 ≤ rd (best w) 0 ∧ rd (best w) 0 < 3 := gk 0 (by omega)
  have j1 : 0 ≤ rd (best w) 1 ∧ rd (best w) 1 < 3 := gk 1 (by omega)
  have j2 : 0 ≤ rd (best w) 2 ∧ rd (best w) 2 < 3 := gk 2 (by omega)
  have p0 := rd3_b h.a h.b h.c k0
  have p1 := rd3_b h.d h.e h.f k1
  have p2 := rd3_b h.g h.h h.i k2
  have q0 := rd3_b h.a h.b h.c j0
  have q1 := rd3_b h.d h.e h.f j1
  have q2 := rd3_b h.g h.h h.i j2
  have w1 : wrap64 (0 + 1) = 1 := wr (by omega) (by omega)
  have w2 : wrap64 (1 + 1) = 2 := wr (by omega) (by omega)
  have w3 : wrap64 (2 + 1) = 3 := wr (by omega) (by omega)
  have hs := (best_ok h).2 o ho
  refine Ev.step (fun f => laws_FnRentsAreFair.l0.eq_2 ..) (ev_pos (by omega) (ev_pos (by omega) (ev_pos (by show (0 : Int) < 3; omega) (ev_pos (by omega) (ev_pos k0.1 (ev_pos (show rd o 0 < 3 from k0.2) (ev_pos (by omega) (ev_pos j0.1 (ev_pos (show rd (best w) 0 < 3 from j0.2) ?_)))))))))
  rw [w1, show rd_L2 w.L 0 = [w.a, w.b, w.c] from rfl, wr (show -9223372036854775808 ≤ 0 + rd [w.a, w.b, w.c] (rd o 0) by omega) (by omega), wr (show -9223372036854775808 ≤ 0 + rd [w.a, w.b, w.c] (rd (best w) 0) by omega) (by omega)]
  refine Ev.step (fun f => laws_FnRentsAreFair.l0.eq_2 ..) (ev_pos (by omega) (ev_pos (by omega) (ev_pos (by show (1 : Int) < 3; omega) (ev_pos (by omega) (ev_pos k1.1 (ev_pos (show rd o 1 < 3 from k1.2) (ev_pos (by omega) (ev_pos j1.1 (ev_pos (show rd (best w) 1 < 3 from j1.2) ?_)))))))))
  rw [w2, show rd_L2 w.L 1 = [w.d, w.e, w.f] from rfl, wr (show -9223372036854775808 ≤ 0 + rd [w.a, w.b, w.c] (rd o 0) + rd [w.d, w.e, w.f] (rd o 1) by omega) (by omega), wr (show -9223372036854775808 ≤ 0 + rd [w.a, w.b, w.c] (rd (best w) 0) + rd [w.d, w.e, w.f] (rd (best w) 1) by omega) (by omega)]
  refine Ev.step (fun f => laws_FnRentsAreFair.l0.eq_2 ..) (ev_pos (by omega) (ev_pos (by omega) (ev_pos (by show (2 : Int) < 3; omega) (ev_pos (by omega) (ev_pos k2.1 (ev_pos (show rd o 2 < 3 from k2.2) (ev_pos (by omega) (ev_pos j2.1 (ev_pos (show rd (best w) 2 < 3 from j2.2) ?_)))))))))
  rw [w3, show rd_L2 w.L 2 = [w.g, w.h, w.i] from rfl, wr (show -9223372036854775808 ≤ 0 + rd [w.a, w.b, w.c] (rd o 0) + rd [w.d, w.e, w.f] (rd o 1) + rd [w.g, w.h, w.i] (rd o 2) by omega) (by omega), wr (show -9223372036854775808 ≤ 0 + rd [w.a, w.b, w.c] (rd (best w) 0) + rd [w.d, w.e, w.f] (rd (best w) 1) + rd [w.g, w.h, w.i] (rd (best w) 2) by omega) (by omega)]
  have eo : 0 + rd [w.a, w.b, w.c] (rd o 0) + rd [w.d, w.e, w.f] (rd o 1) + rd [w.g, w.h, w.i] (rd o 2) = S w o := by unfold S; omega
  have eb : 0 + rd [w.a, w.b, w.c] (rd (best w) 0) + rd [w.d, w.e, w.f] (rd (best w) 1) + rd [w.g, w.h, w.i] (rd (best w) 2) = S w (best w) := by unfold S; omega
  rw [eo, eb]
  refine Ev.step (fun f => laws_FnRentsAreFair.l0.eq_2 ..) (ev_neg (by omega) (ev_pos rfl (ev_neg (by omega) ?_)))
  by_cases hz : least = 0
  · refine ev_pos hz ?_
    rw [h0 hz, bne_self_eq_false]
    exact j2_ev hu hS h least hle
  · exact ev_neg hz (j2_ev hu hS h least hle)
end
theorem FnRentsAreFair : laws_FnRentsAreFair.Pure := by
  intro l0 l1 _ _ u0 _ _ u1
  apply Ev.rounds
  obtain ⟨b, hb⟩ : ∃ b, laws_big.f l0 l1 = some b := by
    unfold laws_big.f
    split <;> exact ⟨_, rfl⟩
  refine ev_bind0 hb ?_
  cases b with
  | true => exact ev_pos rfl (Ev.now _)
  | false =>
    refine ev_neg (by decide) ?_
    have h0 : U8 l0 := u0
    have h1 : U8 l1 := u1
    obtain ⟨n, a1, s1, e1, b1, c1⟩ := side_ev h0 0 8 (Int.le_refl 0) (by decide)
    obtain ⟨⟨T, a2, s2⟩, hT, t1, t2, _, _⟩ := rooms_ev h0 a1 s1 b1 (by omega)
    dsimp only at t1 t2
    have hd : Ev (fun k => spec_DrawFairRent.f k l0) (n, T) := ev_bind0 e1 (Ev.bind hT (Ev.now _))
    refine Ev.bind hd ?_
    dsimp only
    have hl : ∀ t ∈ T, t.length ≤ 1000 := fun t ht => by have := t2 t ht; omega
    have se := sameZ_ev [] (by simp)
    rcases fair_both n T (by omega) hl with ⟨f1, f2⟩ | ⟨n', w, rfl, hS, rfl, h, f1, f2⟩
    · have fin : ∀ (o : List Int) (b : Bool), o.length ≤ 10000 → Ev (fun k => impl_BestRooms.f k T) (o, b) → Ev (fun k => spec_BestRooms.f k T) (o, b) → Ev (fun k => (impl_FairRent.f k n T).bind fun bt435 => ((spec_FairRent.f k n T).bind fun bt440 => ((impl_BestRooms.f k T).bind fun bt445 => ((spec_BestRooms.f k T).bind fun bt449 => (if (bt435.2.2 != bt440.2.2) = true then (none) else (if bt435.1 = bt440.1 then ((laws_zSame.f k bt435.2.1 bt440.2.1).bind fun t453 => (if t453 = true then (if (bt445.2 != bt449.2) = true then (none) else ((laws_zSame.f k bt445.1 bt449.1).bind fun t454 => (if t454 = true then (if bt435.2.2 = true then (laws_FnRentsAreFair.j0 k l1 n T bt435.1 bt435.2.1 bt435.2.2 bt445.1 (!bt445.2)) else (laws_FnRentsAreFair.j0 k l1 n T bt435.1 bt435.2.1 bt435.2.2 bt445.1 false)) else (none)))) else (none))) else (none))))))) true := fun o b ho q1 q2 => by
        refine Ev.bind f1 (Ev.bind f2 (Ev.bind q1 (Ev.bind q2 (ev_neg Bool.false_ne_true (ev_pos rfl (Ev.bind se (ev_pos rfl (ev_neg (by dsimp only; rw [bne_self_eq_false]; decide) (Ev.bind (sameZ_ev o ho) (ev_pos rfl (ev_neg Bool.false_ne_true ?_)))))))))))
        exact Ev.step (fun f => laws_FnRentsAreFair.j0.eq_2 ..) (ev_neg Bool.false_ne_true (ev_neg Bool.false_ne_true (j4_ev h1)))
      rcases best_both T (by omega) hl with ⟨_, q1, q2⟩ | ⟨w, _, hw, _, q1, q2⟩
      · exact fin [] false (by simp) q1 q2
      · exact fin (best w) true (ord_len (best_ok hw).1) q1 q2
    · have hI := fair_inv hS h
      obtain ⟨j, ej, _, hj, eE⟩ := hI.at_
      have hno : ∀ o ∈ ordL, (fair w n').1 = 0 → S w o ≤ S w (fair w n').2.2 := fun o ho hz => by
        have := no_envy hI.own (eE.symm.trans hz) o ho
        rw [show At w n' j = w.net (rdP (ptsFn n') j) from rfl, S_net w _ ho, S_net w _ hI.own] at this
        omega
      rcases best_both w.L (by omega) hl with ⟨k0, _, _⟩ | ⟨w', ew, hw', _, q1, q2⟩
      · have hw : okW w.L = true := okW_of h
        rw [hw] at k0
        cases k0
      · have e : w' = w := by
          obtain ⟨a, b, c, d, e, f, g, h, i⟩ := w
          obtain ⟨a', b', c', d', e', f', g', h', i'⟩ := w'
          simp only [W3.L, List.cons.injEq, and_true] at ew
          obtain ⟨⟨e1, e2, e3⟩, ⟨e4, e5, e6⟩, ⟨e7, e8, e9⟩⟩ := ew
          subst e1 e2 e3 e4 e5 e6 e7 e8 e9
          rfl
        subst e
        have hbm := (best_ok h).1
        refine Ev.bind f1 (Ev.bind f2 (Ev.bind q1 (Ev.bind q2 (ev_neg Bool.false_ne_true (ev_pos rfl (Ev.bind (sameZ_ev _ (ord_len hI.own)) (ev_pos rfl (ev_neg Bool.false_ne_true (Ev.bind (sameZ_ev _ (ord_len hbm)) (ev_pos rfl (ev_pos rfl ?_)))))))))))
        dsimp only
        rw [ej]
        refine Ev.step (fun f => laws_FnRentsAreFair.j0.eq_2 ..) (ev_neg Bool.false_ne_true (ev_pos rfl (Ev.bind (renvy_ok hS h hj hI.own).1 ?_)))
        rw [← eE]
        refine l0_ev h1 hS h _ hI.own _ (fun hz => ?_) (fun i hi => ?_)
        · have h1 := hno _ hbm hz
          have h2 := (best_ok h).2 _ hI.own
          omega
        · obtain ⟨t, ht, et⟩ := mem_ord hbm
          rw [← et]
          exact hI.pts i hi t ht
end Go.Proofs.Ythkdkgbcokpbaaa.Pure
