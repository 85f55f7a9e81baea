/- The law's text, and what it rests on, in one. -/
import Derived.Test.YtafjjbkkcedgnabPFnDoorsOfRoomsx
import Derived.Laws.Bits64b
/-! Plain lemmas on numbers and rounds. -/
namespace Go.Proofs.Ytafjjbkkcedgnab.QFnDoorsOfRooms
open Go.RowKit Go.Proofs.Ytafjjbkkcedgnab.PFnDoorsOfRooms Go.Proofs.YtafjjbkkcedgnabW.PrintWords Go.Proofs.YtafjjbkkcedgnabW.PrintLast Go.Proofs.YtafjjbkkcedgnabW.PrintMore
set_option linter.unusedVariables false
set_option linter.unusedSimpArgs false
theorem wr {x : Int} (h : -9223372036854775808 ≤ x) (h' : x ≤ 9223372036854775807) : wrap64 x = x := by unfold wrap64; omega
theorem ev_eq {α : Type} {g : Nat → Option α} {r s : α} (h : Ev g r) (e : r = s) : Ev g s := e ▸ h
theorem ev_const {α : Type} {o : Option α} {r : α} (h : o = some r) : Ev (fun _ => o) r := ⟨0, fun _ _ => h⟩
/-- The values of two runs of one program are the same. -/
theorem ev_one {α : Type} {g : Nat → Option α} {r s : α} (h : Ev g r) (h' : Ev g s) : r = s := by
  obtain ⟨K, h⟩ := h
  obtain ⟨K', h'⟩ := h'
  have a := h (max K K') (by omega)
  have b := h' (max K K') (by omega)
  rw [a] at b
  exact Option.some.inj b
theorem ev_bind0 {α β : Type} {o : Option α} {f : Nat → α → Option β} {a : α} {r : β} (h : o = some a) (k : Ev (fun n => f n a) r) : Ev (fun n => o.bind (f n)) r :=
  Ev.bind (g := fun _ => o) (ev_const h) k
theorem ev_pos {α : Type} {c : Prop} [Decidable c] {f g : Nat → Option α} {r : α} (h : c) (k : Ev f r) : Ev (fun n => if c then f n else g n) r := Ev.congr (fun _ => if_pos h) k
theorem ev_neg {α : Type} {c : Prop} [Decidable c] {f g : Nat → Option α} {r : α} (h : ¬ c) (k : Ev g r) : Ev (fun n => if c then f n else g n) r := Ev.congr (fun _ => if_neg h) k
theorem rd_get {l : List Int} {i : Int} (h0 : 0 ≤ i) (h : i < l.length) : l[i.toNat]? = some (rd l i) := by
  unfold rd
  rw [List.getD_eq_getElem?_getD, List.getElem?_eq_getElem (by omega)]
  rfl
theorem rd_nat (l : List Int) (i : Nat) : rd l (i : Int) = l.getD i 0 := rfl
theorem rd_one (x : Int) : rd [x] 0 = x := rfl
end Go.Proofs.Ytafjjbkkcedgnab.QFnDoorsOfRooms
/-! What the reference's cursor draws: a number within the bounds that were asked for, whatever the bytes are. -/
namespace Go.Proofs.Ytafjjbkkcedgnab.QFnDoorsOfRooms
open Go.RowKit Go.Proofs.Ytafjjbkkcedgnab.PFnDoorsOfRooms Go.Proofs.YtafjjbkkcedgnabW.PrintWords Go.Proofs.YtafjjbkkcedgnabW.PrintLast Go.Proofs.YtafjjbkkcedgnabW.PrintMore
set_option linter.unusedVariables false
set_option linter.unusedSimpArgs false
def U8 (l : List Int) : Prop := ∀ x ∈ l, (Lit.int .u8 x).wf = true
theorem u8_rd {l : List Int} (h : U8 l) (i : Int) : 0 ≤ rd l i ∧ rd l i ≤ 255 := by
  unfold rd
  rw [List.getD_eq_getElem?_getD]
  cases hc : l[i.toNat]? with
  | none => exact ⟨Int.le_refl 0, by decide⟩
  | some x =>
    have h1 := h x (List.mem_of_getElem? hc)
    have h2 := Bool.and_eq_true_iff.1 (show (decide (IntKind.u8.min ≤ x) && decide (x ≤ IntKind.u8.max)) = true from h1)
    have h3 : (0 : Int) ≤ x := of_decide_eq_true h2.1
    have h4 : x ≤ 255 := of_decide_eq_true h2.2
    exact ⟨h3, h4⟩
theorem and255 {x : Int} (h0 : 0 ≤ x) (h1 : x < 18446744073709551616) : 0 ≤ Go.bits .and .u64 x 255 ∧ Go.bits .and .u64 x 255 ≤ 255 := by
  obtain ⟨n, e⟩ := Int.eq_ofNat_of_zero_le h0
  subst e
  have h2 := bits_and_u64_nat n 255 (by omega) (by omega)
  rw [show ((255 : Nat) : Int) = 255 from rfl] at h2
  rw [h2]
  have := @Nat.and_le_right n 255
  omega
theorem next_ev {l : List Int} (h : U8 l) {a : Int} (s : Int) (h0 : 0 ≤ a) (h1 : a < 4611686018427387904) : ∃ v s', spec_l1Cur_next.f l a s = some (v, a + 1, s') ∧ 0 ≤ v ∧ v ≤ 255 := by
  unfold spec_l1Cur_next.f
  have hw : ∀ x : Int, 0 ≤ IntKind.u64.wrap x ∧ IntKind.u64.wrap x < 18446744073709551616 := fun x => by rw [IntKind.wrap_u64]; omega
  have hv : ∀ x : Int, 0 ≤ wrap64 (Go.bits .and .u64 (IntKind.u64.wrap x / 1099511627776) 255) ∧ wrap64 (Go.bits .and .u64 (IntKind.u64.wrap x / 1099511627776) 255) ≤ 255 := fun x => by
    have := hw x
    have h2 := and255 (x := IntKind.u64.wrap x / 1099511627776) (by omega) (by omega)
    rw [wr (by omega) (by omega)]
    exact h2
  rw [wr (show -9223372036854775808 ≤ a + 1 by omega) (by omega)]
  by_cases hl : a < (l.length : Int)
  · have hr := u8_rd h a
    rw [if_pos hl, if_pos h0, wr (show -9223372036854775808 ≤ rd l a by omega) (by omega), if_pos (by omega)]
    exact ⟨_, _, rfl, hr.1, hr.2⟩
  · rw [if_neg hl, if_neg (by omega)]
    exact ⟨_, _, rfl, hv _⟩
theorem pick_ev {l : List Int} (h : U8 l) {a : Int} (s n : Int) (h0 : 0 ≤ a) (h1 : a < 4611686018427387900) : ∃ v a' s', spec_l1Cur_pick.f l a s n = some (v, a', s') ∧ 0 ≤ v ∧ (v < n ∨ v = 0) ∧ a ≤ a' ∧ a' ≤ a + 2 := by
  unfold spec_l1Cur_pick.f
  by_cases hn : n ≤ 1
  · rw [if_pos hn]
    exact ⟨_, _, _, rfl, Int.le_refl 0, .inr rfl, by omega, by omega⟩
  · obtain ⟨v, s1, e1, v0, v1⟩ := next_ev h s h0 (by omega)
    rw [if_neg hn, e1, Option.bind_some]
    by_cases h2 : n > 200
    · obtain ⟨v', s2, e2, w0, w1⟩ := next_ev h s1 (show 0 ≤ a + 1 by omega) (by omega)
      rw [if_pos h2]
      dsimp only
      rw [e2, Option.bind_some, if_neg (by omega)]
      dsimp only
      rw [wr (show -9223372036854775808 ≤ v * 256 by omega) (by omega), wr (show -9223372036854775808 ≤ v * 256 + v' by omega) (by omega)]
      exact ⟨_, _, _, rfl, Int.tmod_nonneg _ (by omega), .inl (Int.tmod_lt_of_pos _ (by omega)), by omega, by omega⟩
    · rw [if_neg h2, if_neg (by omega)]
      exact ⟨_, _, _, rfl, Int.tmod_nonneg _ v0, .inl (Int.tmod_lt_of_pos _ (by omega)), by dsimp only; omega, by dsimp only; omega⟩
theorem among_ev {l : List Int} (h : U8 l) {a : Int} (s : Int) (L : List Int) (hL : 0 < L.length) (h0 : 0 ≤ a) (h1 : a < 4611686018427387900) : ∃ v a' s', spec_l1Cur_among.f l a s L = some (v, a', s') ∧ v ∈ L ∧ a ≤ a' ∧ a' ≤ a + 2 := by
  unfold spec_l1Cur_among.f
  obtain ⟨v, a', s', e, v0, v1, h2, h3⟩ := pick_ev h s (L.length : Int) h0 h1
  rw [e, Option.bind_some]
  dsimp only
  rw [if_pos v0, if_pos (by omega)]
  refine ⟨_, _, _, rfl, ?_, h2, h3⟩
  unfold rd
  rw [List.getD_eq_getElem?_getD, List.getElem?_eq_getElem (by omega)]
  exact List.getElem_mem _
end Go.Proofs.Ytafjjbkkcedgnab.QFnDoorsOfRooms
/-! Once in so many times, as it is drawn. -/
namespace Go.Proofs.Ytafjjbkkcedgnab.QFnDoorsOfRooms
open Go.RowKit Go.Proofs.YtafjjbkkcedgnabOwn Go.Proofs.Ytafjjbkkcedgnab.PFnDoorsOfRooms Go.Proofs.YtafjjbkkcedgnabW.PrintWords Go.Proofs.YtafjjbkkcedgnabW.PrintLast Go.Proofs.YtafjjbkkcedgnabW.PrintMore
set_option linter.unusedVariables false
set_option linter.unusedSimpArgs false
set_option maxRecDepth 100000
theorem one_ev {l : List Int} (h : U8 l) {a : Int} (s n : Int) (h0 : 0 ≤ a) (h1 : a < 4611686018427387900) : ∃ b a' s', spec_l1Cur_one.f l a s n = some (b, a', s') ∧ a ≤ a' ∧ a' ≤ a + 2 := by
  obtain ⟨v, a', s', e, _, _, h2, h3⟩ := pick_ev h s n h0 h1
  exact ⟨v == 0, a', s', by unfold spec_l1Cur_one.f; rw [e]; rfl, h2, h3⟩
end Go.Proofs.Ytafjjbkkcedgnab.QFnDoorsOfRooms
/-! Triangles: points, neighbours and cells, of the program and of the reference, as plain functions. -/
namespace Go.Proofs.Ytafjjbkkcedgnab.QFnDoorsOfRooms
open Go.RowKit Go.Proofs.Ytafjjbkkcedgnab.PFnDoorsOfRooms Go.Proofs.YtafjjbkkcedgnabW.PrintWords Go.Proofs.YtafjjbkkcedgnabW.PrintLast Go.Proofs.YtafjjbkkcedgnabW.PrintMore
set_option linter.unusedVariables false
set_option linter.unusedSimpArgs false
set_option maxRecDepth 100000
abbrev Pt := S67
abbrev rdP : List Pt → Int → Pt := rd_T67
/-- The points of a triangle. -/
def ptsFn (n : Nat) : List Pt := (List.range (n + 1)).flatMap fun (r : Nat) => (List.range (r + 1)).map fun (c : Nat) => (⟨(n : Int) - r, (r : Int) - c, (c : Int)⟩ : Pt)
def many (n : Nat) : Nat := (n + 1) * (n + 2) / 2
def nearFn (p q : Pt) : Bool :=
  let a := mx (p.f0 - q.f0) (q.f0 - p.f0)
  let b := mx (p.f1 - q.f1) (q.f1 - p.f1)
  let c := mx (p.f2 - q.f2) (q.f2 - p.f2)
  decide (a + b + c = 2) && decide (mx (mx (mx 0 a) b) c = 1)
/-- Coordinates are small. -/
def Small (p : Pt) : Prop := (-100 ≤ p.f0 ∧ p.f0 ≤ 100) ∧ (-100 ≤ p.f1 ∧ p.f1 ≤ 100) ∧ (-100 ≤ p.f2 ∧ p.f2 ≤ 100)
theorem mx_sub (x y : Int) (hx : -100 ≤ x ∧ x ≤ 100) (hy : -100 ≤ y ∧ y ≤ 100) : 0 ≤ mx (x - y) (y - x) ∧ mx (x - y) (y - x) ≤ 200 := by unfold mx; split <;> omega
theorem u1 : wrap64 1 = 1 := wr (by omega) (by omega)
theorem u2 : wrap64 2 = 2 := wr (by omega) (by omega)
theorem u3 : wrap64 3 = 3 := wr (by omega) (by omega)
theorem w01 : wrap64 (0 + 1) = 1 := wr (by omega) (by omega)
theorem w12 : wrap64 (1 + 1) = 2 := wr (by omega) (by omega)
theorem w23 : wrap64 (2 + 1) = 3 := wr (by omega) (by omega)
theorem near_ev (p q : Pt) (hp : Small p) (hq : Small q) : Ev (fun k => impl_near.f k p.f0 p.f1 p.f2 q.f0 q.f1 q.f2) (nearFn p q) := by
  obtain ⟨h0, h1, h2⟩ := hp
  obtain ⟨g0, g1, g2⟩ := hq
  have a0 : wrap64 (p.f0 - q.f0) = p.f0 - q.f0 := wr (by omega) (by omega)
  have a1 : wrap64 (p.f1 - q.f1) = p.f1 - q.f1 := wr (by omega) (by omega)
  have a2 : wrap64 (p.f2 - q.f2) = p.f2 - q.f2 := wr (by omega) (by omega)
  have b0 : wrap64 (q.f0 - p.f0) = q.f0 - p.f0 := wr (by omega) (by omega)
  have b1 : wrap64 (q.f1 - p.f1) = q.f1 - p.f1 := wr (by omega) (by omega)
  have b2 : wrap64 (q.f2 - p.f2) = q.f2 - p.f2 := wr (by omega) (by omega)
  have m0 := mx_sub p.f0 q.f0 h0 g0
  have m1 := mx_sub p.f1 q.f1 h1 g1
  have m2 := mx_sub p.f2 q.f2 h2 g2
  unfold nearFn
  dsimp only
  generalize ha : mx (p.f0 - q.f0) (q.f0 - p.f0) = a at *
  generalize hb : mx (p.f1 - q.f1) (q.f1 - p.f1) = b at *
  generalize hc : mx (p.f2 - q.f2) (q.f2 - p.f2) = c at *
  have s0 : wrap64 (0 + a) = a := (wr (by omega) (by omega)).trans (by omega)
  have s1 : wrap64 (a + b) = a + b := wr (by omega) (by omega)
  have s2 : wrap64 (a + b + c) = a + b + c := wr (by omega) (by omega)
  refine Ev.congr (f := fun k => impl_near.l0 k 0 0 0 p.f0 p.f1 p.f2 q.f0 q.f1 q.f2) (fun k => rfl) ?_
  refine Ev.step (f := fun k => impl_near.l0 k a (mx 0 a) 1 p.f0 p.f1 p.f2 q.f0 q.f1 q.f2) (fun k => by simp only [impl_near.l0, a0, b0, ha, s0, w01]; simp) ?_
  refine Ev.step (f := fun k => impl_near.l0 k (a + b) (mx (mx 0 a) b) 2 p.f0 p.f1 p.f2 q.f0 q.f1 q.f2) (fun k => by simp only [impl_near.l0, a1, b1, hb, s1, w12]; simp) ?_
  refine Ev.step (f := fun k => impl_near.l0 k (a + b + c) (mx (mx (mx 0 a) b) c) 3 p.f0 p.f1 p.f2 q.f0 q.f1 q.f2) (fun k => by simp only [impl_near.l0, a2, b2, hc, s2, w23]; simp) ?_
  refine Ev.step (f := fun _ => some (decide (a + b + c = 2) && decide (mx (mx (mx 0 a) b) c = 1))) (fun k => ?_) (Ev.now _)
  simp only [impl_near.l0]
  rw [if_neg (by decide)]
  by_cases e : a + b + c = 2
  · rw [if_pos e]; simp only [e, decide_true, Bool.true_and]; rfl
  · rw [if_neg e]; simp [e]
instance instPtEq : DecidableEq Pt := fun x y =>
  if h : x.f0 = y.f0 ∧ x.f1 = y.f1 ∧ x.f2 = y.f2 then .isTrue (by
    obtain ⟨a, b, c⟩ := x
    obtain ⟨d, e, f⟩ := y
    obtain ⟨h1, h2, h3⟩ := h
    simp only at h1 h2 h3
    subst h1 h2 h3
    rfl)
  else .isFalse (fun e => h (by subst e; exact ⟨rfl, rfl, rfl⟩))
theorem points_at : ((List.range 9).all fun n => n == 0 || (impl_points.f 120 (n : Int) == some (ptsFn n))) = true := by decide +kernel
theorem pts_len : ((List.range 9).all fun n => n == 0 || (ptsFn n).length == many n) = true := by decide +kernel
theorem at_spec : ((List.range 9).all fun n => n == 0 || (List.range 45).all fun i => decide (many n ≤ i) || (spec_meAt.f 20 (n : Int) (i : Int) == some [(rdP (ptsFn n) i).f0, (rdP (ptsFn n) i).f1, (rdP (ptsFn n) i).f2])) = true := by decide +kernel
theorem wn (j : Nat) (h : j < 1000000000) : wrap64 ((j : Int) + 1) = ((j + 1 : Nat) : Int) := by rw [wr (by omega) (by omega)]; omega
/-- What the tables say of one side. -/
structure Side (n : Nat) : Prop where
  lo : 1 ≤ n
  hi : n ≤ 8
theorem Side.points {n : Nat} (h : Side n) : Ev (fun k => impl_points.f k (n : Int)) (ptsFn n) := by
  have a := List.all_eq_true.1 points_at n (by simp; have := h.hi; omega)
  have z : (n == 0) = false := by simp; have := h.lo; omega
  rw [z, Bool.false_or] at a
  exact Ev.of (fun k => impl_points.mono _ k) (eq_of_beq a)
theorem many_le {n : Nat} (h : n ≤ 8) : many n ≤ 45 := by
  have : n = 0 ∨ n = 1 ∨ n = 2 ∨ n = 3 ∨ n = 4 ∨ n = 5 ∨ n = 6 ∨ n = 7 ∨ n = 8 := by omega
  rcases this with rfl | rfl | rfl | rfl | rfl | rfl | rfl | rfl | rfl <;> decide
theorem Side.len {n : Nat} (h : Side n) : (ptsFn n).length = many n := by
  have a := List.all_eq_true.1 pts_len n (by simp; have := h.hi; omega)
  have z : (n == 0) = false := by simp; have := h.lo; omega
  rw [z, Bool.false_or] at a
  exact eq_of_beq a
theorem Side.at_ {n : Nat} (h : Side n) {i : Nat} (hi : i < many n) : Ev (fun k => spec_meAt.f k (n : Int) (i : Int)) [(rdP (ptsFn n) i).f0, (rdP (ptsFn n) i).f1, (rdP (ptsFn n) i).f2] := by
  have a := List.all_eq_true.1 at_spec n (by simp; have := h.hi; omega)
  have z : (n == 0) = false := by simp; have := h.lo; omega
  rw [z, Bool.false_or] at a
  have b := List.all_eq_true.1 a i (by simp; have := many_le h.hi; omega)
  have y : decide (many n ≤ i) = false := by simp; omega
  rw [y, Bool.false_or] at b
  exact Ev.of (fun k => spec_meAt.mono _ _ k) (eq_of_beq b)
theorem small_pts : ((List.range 9).all fun n => (ptsFn n).all fun p => decide (0 ≤ p.f0) && decide (p.f0 ≤ 8) && decide (0 ≤ p.f1) && decide (p.f1 ≤ 8) && decide (0 ≤ p.f2) && decide (p.f2 ≤ 8)) = true := by decide +kernel
theorem Side.inside {n : Nat} (h : Side n) {i : Nat} (hi : i < many n) : (0 ≤ (rdP (ptsFn n) i).f0 ∧ (rdP (ptsFn n) i).f0 ≤ 8) ∧ (0 ≤ (rdP (ptsFn n) i).f1 ∧ (rdP (ptsFn n) i).f1 ≤ 8) ∧ (0 ≤ (rdP (ptsFn n) i).f2 ∧ (rdP (ptsFn n) i).f2 ≤ 8) := by
  have a := List.all_eq_true.1 small_pts n (by simp; have := h.hi; omega)
  have hl := h.len
  have e : rdP (ptsFn n) i = (ptsFn n)[i]'(by omega) := by
    show (ptsFn n).getD (i : Int).toNat _ = _
    rw [Int.toNat_natCast, List.getD_eq_getElem?_getD, List.getElem?_eq_getElem (by omega)]
    rfl
  have b := List.all_eq_true.1 a _ (List.getElem_mem (l := ptsFn n) (n := i) (by omega))
  rw [← e] at b
  simp only [Bool.and_eq_true, decide_eq_true_eq] at b
  omega
theorem Side.small {n : Nat} (h : Side n) {i : Nat} (hi : i < many n) : Small (rdP (ptsFn n) i) := by
  have := h.inside hi
  unfold Small
  omega
/-- Are points i and j neighbours? -/
def NB (n i j : Nat) : Bool := nearFn (rdP (ptsFn n) i) (rdP (ptsFn n) j)
theorem Side.near {n : Nat} (h : Side n) {i j : Nat} (hi : i < many n) (hj : j < many n) :
    Ev (fun k => impl_near.f k (rdP (ptsFn n) i).f0 (rdP (ptsFn n) i).f1 (rdP (ptsFn n) i).f2 (rdP (ptsFn n) j).f0 (rdP (ptsFn n) j).f1 (rdP (ptsFn n) j).f2) (NB n i j) := near_ev _ _ (h.small hi) (h.small hj)
theorem abs_ev (x : Int) (h : -100 ≤ x ∧ x ≤ 100) : spec_l1Abs.f x = some (mx x (-x)) := by
  have e : wrap64 (-x) = -x := wr (by omega) (by omega)
  simp only [spec_l1Abs.f, e, spec_l1Most.f, mx]
  split <;> split <;> simp <;> omega
theorem mx_abs (x y : Int) : mx (x - y) (-(x - y)) = mx (x - y) (y - x) := by rw [show -(x - y) = y - x by omega]
theorem mx3 (a b c : Int) (ha : 0 ≤ a) (hb : 0 ≤ b) (hc : 0 ≤ c) (h : a + b + c = 2) : (mx (mx (mx 0 a) b) c = 1 ↔ a ≤ 1 ∧ b ≤ 1 ∧ c ≤ 1) := by
  unfold mx
  split <;> split <;> split <;> omega
/-- The reference's neighbours are the same. -/
theorem Side.meNear {n : Nat} (h : Side n) {i j : Nat} (hi : i < many n) (hj : j < many n) : Ev (fun k => spec_meNear.f k (n : Int) (i : Int) (j : Int)) (NB n i j) := by
  refine Ev.bind (h.at_ hi) ?_
  refine Ev.bind (h.at_ hj) ?_
  obtain ⟨h0, h1, h2⟩ := h.inside hi
  obtain ⟨g0, g1, g2⟩ := h.inside hj
  unfold NB nearFn
  dsimp only
  generalize (rdP (ptsFn n) i).f0 = x0 at *
  generalize (rdP (ptsFn n) i).f1 = x1 at *
  generalize (rdP (ptsFn n) i).f2 = x2 at *
  generalize (rdP (ptsFn n) j).f0 = y0 at *
  generalize (rdP (ptsFn n) j).f1 = y1 at *
  generalize (rdP (ptsFn n) j).f2 = y2 at *
  have m0 := mx_sub x0 y0 (by omega) (by omega)
  have m1 := mx_sub x1 y1 (by omega) (by omega)
  have m2 := mx_sub x2 y2 (by omega) (by omega)
  have e0 : spec_l1Abs.f (wrap64 (x0 - y0)) = some (mx (x0 - y0) (y0 - x0)) := by rw [wr (by omega) (by omega), abs_ev _ (by omega), mx_abs]
  have e1 : spec_l1Abs.f (wrap64 (x1 - y1)) = some (mx (x1 - y1) (y1 - x1)) := by rw [wr (by omega) (by omega), abs_ev _ (by omega), mx_abs]
  have e2 : spec_l1Abs.f (wrap64 (x2 - y2)) = some (mx (x2 - y2) (y2 - x2)) := by rw [wr (by omega) (by omega), abs_ev _ (by omega), mx_abs]
  generalize mx (x0 - y0) (y0 - x0) = a at *
  generalize mx (x1 - y1) (y1 - x1) = b at *
  generalize mx (x2 - y2) (y2 - x2) = c at *
  have r0 : ∀ u v w : Int, rd [u, v, w] 0 = u := fun _ _ _ => rfl
  have r1 : ∀ u v w : Int, rd [u, v, w] 1 = v := fun _ _ _ => rfl
  have r2 : ∀ u v w : Int, rd [u, v, w] 2 = w := fun _ _ _ => rfl
  have s0 : wrap64 (0 + a) = a := (wr (by omega) (by omega)).trans (by omega)
  have s1 : wrap64 (a + b) = a + b := wr (by omega) (by omega)
  have s2 : wrap64 (a + b + c) = a + b + c := wr (by omega) (by omega)
  have sa : wrap64 a = a := wr (by omega) (by omega)
  have k3 := mx3 a b c (by omega) (by omega) (by omega)
  by_cases c0 : a > 1
  · refine Ev.step (f := fun _ => some false) (fun k => by simp only [spec_meNear.l0, r0, e0]; simp [c0]) (ev_eq (Ev.now _) ?_)
    by_cases hs : a + b + c = 2
    · have := k3 hs
      simp only [hs, decide_true, Bool.true_and]
      exact (decide_eq_false (by omega)).symm
    · simp [hs]
  refine Ev.step (f := fun k => spec_meNear.l0 k [x0, x1, x2] [y0, y1, y2] a 3 1) (fun k => by simp only [spec_meNear.l0, r0, e0]; simp [c0, sa, u1]) ?_
  by_cases c1 : b > 1
  · refine Ev.step (f := fun _ => some false) (fun k => by simp only [spec_meNear.l0, r1, e1]; simp [c1]) (ev_eq (Ev.now _) ?_)
    by_cases hs : a + b + c = 2
    · have := k3 hs
      simp only [hs, decide_true, Bool.true_and]
      exact (decide_eq_false (by omega)).symm
    · simp [hs]
  refine Ev.step (f := fun k => spec_meNear.l0 k [x0, x1, x2] [y0, y1, y2] (a + b) 3 2) (fun k => by simp only [spec_meNear.l0, r1, e1]; simp [c1, s1, u2]) ?_
  by_cases c2 : c > 1
  · refine Ev.step (f := fun _ => some false) (fun k => by simp only [spec_meNear.l0, r2, e2]; simp [c2]) (ev_eq (Ev.now _) ?_)
    by_cases hs : a + b + c = 2
    · have := k3 hs
      simp only [hs, decide_true, Bool.true_and]
      exact (decide_eq_false (by omega)).symm
    · simp [hs]
  refine Ev.step (f := fun k => spec_meNear.l0 k [x0, x1, x2] [y0, y1, y2] (a + b + c) 3 3) (fun k => by simp only [spec_meNear.l0, r2, e2]; simp [c2, s2, u3]) ?_
  refine Ev.step (f := fun _ => some ((a + b + c) == 2)) (fun k => by simp only [spec_meNear.l0]; simp) (ev_eq (Ev.now _) ?_)
  by_cases hs : a + b + c = 2
  · have := k3 hs
    simp only [hs, decide_true, Bool.true_and]
    exact (decide_eq_true (by omega)).symm
  · simp [hs]
/-- The cells, by three loops. -/
def c2 (N : Nat → Nat → Bool) (i j : Nat) : Nat → Nat → List (List Int)
  | 0, _ => []
  | d + 1, k => (if (N i j && N i k && N j k) = true then [[(i : Int), (j : Int), (k : Int)]] else []) ++ c2 N i j d (k + 1)
def c1 (N : Nat → Nat → Bool) (m i : Nat) : Nat → Nat → List (List Int)
  | 0, _ => []
  | d + 1, j => c2 N i j (m - (j + 1)) (j + 1) ++ c1 N m i d (j + 1)
def c0 (N : Nat → Nat → Bool) (m : Nat) : Nat → Nat → List (List Int)
  | 0, _ => []
  | d + 1, i => c1 N m i (m - (i + 1)) (i + 1) ++ c0 N m d (i + 1)
def cellsFn (n : Nat) : List (List Int) := c0 (NB n) (many n) (many n) 0
theorem c2_none {N : Nat → Nat → Bool} {i j : Nat} (h : N i j = false) : ∀ d k, c2 N i j d k = []
  | 0, _ => rfl
  | d + 1, k => by simp [c2, h, c2_none h d (k + 1)]
theorem c2_len (N : Nat → Nat → Bool) (i j : Nat) : ∀ d k, (c2 N i j d k).length ≤ d
  | 0, _ => Nat.le_refl _
  | d + 1, k => by
    have := c2_len N i j d (k + 1)
    rw [c2, List.length_append]
    split <;> simp <;> omega
theorem c1_len (N : Nat → Nat → Bool) (m i : Nat) (hm : m ≤ 45) : ∀ d j, (c1 N m i d j).length ≤ d * 45
  | 0, _ => Nat.le_refl _
  | d + 1, j => by
    have := c1_len N m i hm d (j + 1)
    have := c2_len N i j (m - (j + 1)) (j + 1)
    rw [c1, List.length_append]
    omega
theorem pts_lenI {n m : Nat} (h : Side n) (hm : many n = m) : ((ptsFn n).length : Int) = (m : Int) := by rw [h.len, hm]
section
variable {n m : Nat} (h : Side n) (hm : many n = m)
include h hm
theorem impl_l2 (i j : Nat) (hij : i < j) (hj : j < m) (r : List (List Int)) : ∀ (d k : Nat) (out : List (List Int)), k + d = m → j < k → out.length ≤ i * 2025 + j * 45 + k →
    Ev (fun f => impl_cells.l1 f (out ++ c2 (NB n) i j d k) (ptsFn n) i ((j + 1 : Nat) : Int) (ptsFn n) m i (rdP (ptsFn n) i).f0 (rdP (ptsFn n) i).f1 (rdP (ptsFn n) i).f2) r →
    Ev (fun f => impl_cells.l2 f out (ptsFn n) i j k (ptsFn n) m i (rdP (ptsFn n) i).f0 (rdP (ptsFn n) i).f1 (rdP (ptsFn n) i).f2) r := by
  have hl := pts_lenI h hm
  have hm45 := many_le h.hi
  rw [hm] at hm45
  intro d
  induction d with
  | zero =>
    intro k out hk hjk hb e
    rw [c2, List.append_nil] at e
    refine Ev.step (fun f => impl_cells.l2.eq_2 ..) ?_
    rw [hl]
    refine ev_neg (by omega) ?_
    refine Ev.step (fun f => impl_cells.j3.eq_2 ..) ?_
    refine ev_neg (by decide) ?_
    rw [wn j (by omega)]
    exact e
  | succ d ih =>
    intro k out hk hjk hb e
    refine Ev.step (fun f => impl_cells.l2.eq_2 ..) ?_
    rw [hl]
    refine ev_pos (by omega) (ev_pos (by omega) (ev_pos (by omega) ?_))
    refine Ev.bind (h.near (i := i) (j := j) (by omega) (by omega)) ?_
    refine Ev.step (fun f => impl_cells.j3.eq_2 ..) ?_
    cases hN : NB n i j with
    | false =>
      rw [c2_none hN, List.append_nil] at e
      refine ev_neg (by decide) ?_
      rw [wn j (by omega)]
      exact e
    | true =>
      rw [hl]
      refine ev_pos rfl (ev_pos (by omega) (ev_pos (by omega) ?_))
      refine Ev.bind (h.near (i := i) (j := k) (by omega) (by omega)) ?_
      rw [c2, hN, Bool.true_and] at e
      cases hK : NB n i k with
      | false =>
        rw [hK, Bool.false_and, if_neg (by decide), List.nil_append] at e
        refine ev_neg (by decide) ?_
        rw [wn k (by omega)]
        exact ih (k + 1) out (by omega) (by omega) (by omega) e
      | true =>
        refine ev_pos rfl (ev_pos (by omega) (ev_pos (by omega) ?_))
        refine Ev.bind (h.near (i := j) (j := k) (by omega) (by omega)) ?_
        rw [hK, Bool.true_and] at e
        cases hJ : NB n j k with
        | false =>
          rw [hJ, if_neg (by decide), List.nil_append] at e
          refine ev_neg (by decide) ?_
          rw [wn k (by omega)]
          exact ih (k + 1) out (by omega) (by omega) (by omega) e
        | true =>
          rw [hJ, if_pos rfl, ← List.append_assoc] at e
          refine ev_pos rfl (ev_pos (by omega) ?_)
          rw [wn k (by omega)]
          exact ih (k + 1) _ (by omega) (by omega) (by rw [List.length_append]; simp; omega) e
theorem impl_l1 (i : Nat) (hi : i < m) (r : List (List Int)) : ∀ (d j : Nat) (out : List (List Int)), j + d = m → i < j → out.length ≤ i * 2025 + j * 45 →
    Ev (fun f => impl_cells.l0 f (out ++ c1 (NB n) m i d j) (ptsFn n) (ptsFn n) m ((i + 1 : Nat) : Int)) r →
    Ev (fun f => impl_cells.l1 f out (ptsFn n) i j (ptsFn n) m i (rdP (ptsFn n) i).f0 (rdP (ptsFn n) i).f1 (rdP (ptsFn n) i).f2) r := by
  have hl := pts_lenI h hm
  have hm45 := many_le h.hi
  rw [hm] at hm45
  intro d
  induction d with
  | zero =>
    intro j out hj hij hb e
    rw [c1, List.append_nil] at e
    refine Ev.step (fun f => impl_cells.l1.eq_2 ..) ?_
    rw [hl]
    refine ev_neg (by omega) ?_
    rw [wn i (by omega)]
    exact e
  | succ d ih =>
    intro j out hj hij hb e
    refine Ev.step (fun f => impl_cells.l1.eq_2 ..) ?_
    rw [hl]
    refine ev_pos (by omega) ?_
    rw [wn j (by omega)]
    rw [c1, ← List.append_assoc] at e
    have hc := c2_len (NB n) i j (m - (j + 1)) (j + 1)
    exact impl_l2 h hm i j hij (by omega) r (m - (j + 1)) (j + 1) out (by omega) (by omega) (by omega) (ih (j + 1) _ (by omega) (by omega) (by rw [List.length_append]; omega) e)
theorem impl_l0 (r : List (List Int)) : ∀ (d i : Nat) (out : List (List Int)), i + d = m → out.length ≤ i * 2025 →
    r = out ++ c0 (NB n) m d i → Ev (fun f => impl_cells.l0 f out (ptsFn n) (ptsFn n) m i) r := by
  have hl := pts_lenI h hm
  have hm45 := many_le h.hi
  rw [hm] at hm45
  intro d
  induction d with
  | zero =>
    intro i out hi hb e
    rw [c0, List.append_nil] at e
    refine Ev.step (fun f => impl_cells.l0.eq_2 ..) ?_
    refine ev_neg (by omega) (ev_eq (Ev.now _) e.symm)
  | succ d ih =>
    intro i out hi hb e
    refine Ev.step (fun f => impl_cells.l0.eq_2 ..) ?_
    rw [hl]
    refine ev_pos (by omega) (ev_pos (by omega) (ev_pos (by omega) ?_))
    rw [wn i (by omega)]
    rw [c0, ← List.append_assoc] at e
    have hc := c1_len (NB n) m i hm45 (m - (i + 1)) (i + 1)
    exact impl_l1 h hm i (by omega) r (m - (i + 1)) (i + 1) out (by omega) (by omega) (by omega) (ih (i + 1) _ (by omega) (by rw [List.length_append]; omega) e)
theorem count_ev : spec_meCount.f (n : Int) = some (m : Int) := by
  have : n = 1 ∨ n = 2 ∨ n = 3 ∨ n = 4 ∨ n = 5 ∨ n = 6 ∨ n = 7 ∨ n = 8 := by have := h.lo; have := h.hi; omega
  subst hm
  rcases this with rfl | rfl | rfl | rfl | rfl | rfl | rfl | rfl <;> decide +kernel
theorem spec_l2 (i j : Nat) (hij : i < j) (hj : j < m) (r : List (List Int)) : ∀ (d k : Nat) (out : List (List Int)), k + d = m → j < k → out.length ≤ i * 2025 + j * 45 + k →
    Ev (fun f => spec_meCells.l1 f n (out ++ c2 (NB n) i j d k) i ((j + 1 : Nat) : Int)) r →
    Ev (fun f => spec_meCells.l2 f n out i j k) r := by
  have hm45 := many_le h.hi
  rw [hm] at hm45
  intro d
  induction d with
  | zero =>
    intro k out hk hjk hb e
    rw [c2, List.append_nil] at e
    refine Ev.step (fun f => spec_meCells.l2.eq_2 ..) ?_
    refine ev_bind0 (count_ev h hm) ?_
    refine ev_neg (by omega) ?_
    rw [wn j (by omega)]
    exact e
  | succ d ih =>
    intro k out hk hjk hb e
    refine Ev.step (fun f => spec_meCells.l2.eq_2 ..) ?_
    refine ev_bind0 (count_ev h hm) ?_
    refine ev_pos (by omega) ?_
    refine Ev.bind (h.meNear (i := i) (j := j) (by omega) (by omega)) ?_
    rw [wn k (by omega)]
    cases hN : NB n i j with
    | false =>
      rw [c2, hN, Bool.false_and, Bool.false_and, if_neg (by decide), List.nil_append] at e
      exact ev_neg (by decide) (ih (k + 1) out (by omega) (by omega) (by omega) e)
    | true =>
      refine ev_pos rfl ?_
      refine Ev.bind (h.meNear (i := i) (j := k) (by omega) (by omega)) ?_
      rw [c2, hN, Bool.true_and] at e
      cases hK : NB n i k with
      | false =>
        rw [hK, Bool.false_and, if_neg (by decide), List.nil_append] at e
        exact ev_neg (by decide) (ih (k + 1) out (by omega) (by omega) (by omega) e)
      | true =>
        refine ev_pos rfl ?_
        refine Ev.bind (h.meNear (i := j) (j := k) (by omega) (by omega)) ?_
        rw [hK, Bool.true_and] at e
        cases hJ : NB n j k with
        | false =>
          rw [hJ, if_neg (by decide), List.nil_append] at e
          exact ev_neg (by decide) (ih (k + 1) out (by omega) (by omega) (by omega) e)
        | true =>
          rw [hJ, if_pos rfl, ← List.append_assoc] at e
          exact ev_pos rfl (ev_pos (by omega) (ih (k + 1) _ (by omega) (by omega) (by rw [List.length_append]; simp; omega) e))
theorem spec_l1 (i : Nat) (hi : i < m) (r : List (List Int)) : ∀ (d j : Nat) (out : List (List Int)), j + d = m → i < j → out.length ≤ i * 2025 + j * 45 →
    Ev (fun f => spec_meCells.l0 f n (out ++ c1 (NB n) m i d j) ((i + 1 : Nat) : Int)) r →
    Ev (fun f => spec_meCells.l1 f n out i j) r := by
  have hm45 := many_le h.hi
  rw [hm] at hm45
  intro d
  induction d with
  | zero =>
    intro j out hj hij hb e
    rw [c1, List.append_nil] at e
    refine Ev.step (fun f => spec_meCells.l1.eq_2 ..) ?_
    refine ev_bind0 (count_ev h hm) ?_
    refine ev_neg (by omega) ?_
    rw [wn i (by omega)]
    exact e
  | succ d ih =>
    intro j out hj hij hb e
    refine Ev.step (fun f => spec_meCells.l1.eq_2 ..) ?_
    refine ev_bind0 (count_ev h hm) ?_
    refine ev_pos (by omega) ?_
    rw [wn j (by omega)]
    rw [c1, ← List.append_assoc] at e
    have hc := c2_len (NB n) i j (m - (j + 1)) (j + 1)
    exact spec_l2 h hm i j hij (by omega) r (m - (j + 1)) (j + 1) out (by omega) (by omega) (by omega) (ih (j + 1) _ (by omega) (by omega) (by rw [List.length_append]; omega) e)
theorem spec_l0 (r : List (List Int)) : ∀ (d i : Nat) (out : List (List Int)), i + d = m → out.length ≤ i * 2025 →
    r = out ++ c0 (NB n) m d i → Ev (fun f => spec_meCells.l0 f n out i) r := by
  have hm45 := many_le h.hi
  rw [hm] at hm45
  intro d
  induction d with
  | zero =>
    intro i out hi hb e
    rw [c0, List.append_nil] at e
    refine Ev.step (fun f => spec_meCells.l0.eq_2 ..) ?_
    refine ev_bind0 (count_ev h hm) ?_
    exact ev_neg (by omega) (ev_eq (Ev.now _) e.symm)
  | succ d ih =>
    intro i out hi hb e
    refine Ev.step (fun f => spec_meCells.l0.eq_2 ..) ?_
    refine ev_bind0 (count_ev h hm) ?_
    refine ev_pos (by omega) ?_
    rw [wn i (by omega)]
    rw [c0, ← List.append_assoc] at e
    have hc := c1_len (NB n) m i hm45 (m - (i + 1)) (i + 1)
    exact spec_l1 h hm i (by omega) r (m - (i + 1)) (i + 1) out (by omega) (by omega) (by omega) (ih (i + 1) _ (by omega) (by rw [List.length_append]; omega) e)
end
theorem Side.cells {n : Nat} (h : Side n) : Ev (fun k => impl_cells.f k (n : Int)) (cellsFn n) := by
  refine Ev.bind h.points ?_
  rw [pts_lenI h rfl]
  exact impl_l0 h rfl _ (many n) 0 [] (by omega) (Nat.le_refl _) rfl
theorem Side.meCells {n : Nat} (h : Side n) : Ev (fun k => spec_meCells.f k (n : Int)) (cellsFn n) :=
  spec_l0 h rfl _ (many n) 0 [] (by omega) (Nat.le_refl _) rfl
theorem c0_len (N : Nat → Nat → Bool) (m : Nat) (hm : m ≤ 45) : ∀ d i, (c0 N m d i).length ≤ d * 2025
  | 0, _ => Nat.le_refl _
  | d + 1, i => by
    have := c0_len N m hm d (i + 1)
    have := c1_len N m i hm (m - (i + 1)) (i + 1)
    rw [c0, List.length_append]
    omega
theorem Side.cells_len {n : Nat} (h : Side n) : (cellsFn n).length ≤ 91125 := by
  have := many_le h.hi
  have := c0_len (NB n) (many n) this (many n) 0
  unfold cellsFn
  omega
theorem c2_each (N : Nat → Nat → Bool) (i j : Nat) : ∀ d k, ∀ c ∈ c2 N i j d k, c.length = 3
  | 0, _, c, h => by simp [c2] at h
  | d + 1, k, c, h => by
    rw [c2, List.mem_append] at h
    rcases h with h | h
    · split at h
      · simp at h; subst h; rfl
      · simp at h
    · exact c2_each N i j d (k + 1) c h
theorem c1_each (N : Nat → Nat → Bool) (m i : Nat) : ∀ d j, ∀ c ∈ c1 N m i d j, c.length = 3
  | 0, _, c, h => by simp [c1] at h
  | d + 1, j, c, h => by
    rw [c1, List.mem_append] at h
    rcases h with h | h
    · exact c2_each _ _ _ _ _ c h
    · exact c1_each N m i d (j + 1) c h
theorem c0_each (N : Nat → Nat → Bool) (m : Nat) : ∀ d i, ∀ c ∈ c0 N m d i, c.length = 3
  | 0, _, c, h => by simp [c0] at h
  | d + 1, i, c, h => by
    rw [c0, List.mem_append] at h
    rcases h with h | h
    · exact c1_each _ _ _ _ _ c h
    · exact c0_each N m d (i + 1) c h
theorem cells_each (n : Nat) : ∀ c ∈ cellsFn n, c.length = 3 := c0_each _ _ _ _
end Go.Proofs.Ytafjjbkkcedgnab.QFnDoorsOfRooms
/-! The cells that have two points. -/
namespace Go.Proofs.Ytafjjbkkcedgnab.QFnDoorsOfRooms
open Go.RowKit Go.Proofs.Ytafjjbkkcedgnab.PFnDoorsOfRooms Go.Proofs.YtafjjbkkcedgnabW.PrintWords Go.Proofs.YtafjjbkkcedgnabW.PrintLast Go.Proofs.YtafjjbkkcedgnabW.PrintMore
set_option linter.unusedVariables false
set_option linter.unusedSimpArgs false
set_option linter.unusedSectionVars false
set_option maxRecDepth 100000
/-- The numbers of the cells with two points. -/
def withFn (cells : List (List Int)) (x y : Int) : Nat → Nat → List Int
  | 0, _ => []
  | d + 1, i => (if x ∈ cells.getD i [] ∧ y ∈ cells.getD i [] then [(i : Int)] else []) ++ withFn cells x y d (i + 1)

end Go.Proofs.Ytafjjbkkcedgnab.QFnDoorsOfRooms
/-! Labels of triangles: the program's test and the reference's. -/
namespace Go.Proofs.Ytafjjbkkcedgnab.QFnDoorsOfRooms
open Go.RowKit Go.Proofs.Ytafjjbkkcedgnab.PFnDoorsOfRooms Go.Proofs.YtafjjbkkcedgnabW.PrintWords Go.Proofs.YtafjjbkkcedgnabW.PrintLast Go.Proofs.YtafjjbkkcedgnabW.PrintMore
set_option linter.unusedVariables false
set_option linter.unusedSimpArgs false
set_option maxRecDepth 100000
theorem in_spec (a b c : Int) : spec_l1In.f a b c = some (decide (b ≤ a ∧ a ≤ c)) := by
  unfold spec_l1In.f
  by_cases h : a ≥ b
  · rw [if_pos h]; simp [show b ≤ a from h]
  · rw [if_neg h]; simp [show ¬ b ≤ a from h]
theorem in_impl (a b c : Int) : impl_in.f a b c = some (decide (b ≤ a ∧ a ≤ c)) := by
  unfold impl_in.f
  by_cases h : b ≤ a
  · rw [if_pos h]; simp [h]
  · rw [if_neg h]; simp [h]
theorem side_spec (a : Int) : spec_meSide.f a = some (decide (1 ≤ a ∧ a ≤ 8)) := by
  unfold spec_meSide.f
  rw [in_spec]; rfl
theorem side_impl (a : Int) : impl_isSide.f a = some (decide (1 ≤ a ∧ a ≤ 8)) := by
  unfold impl_isSide.f
  rw [in_impl]; rfl
theorem rd_at {l : List Int} {i : Nat} (h : i < l.length) : rd l (i : Int) = l[i] := by rw [rd_nat, List.getD_eq_getElem?_getD, List.getElem?_eq_getElem h]; rfl
/-- All numbers are from 0 to 2. -/
def okB (l : List Int) : Bool := l.all (fun x => decide (0 ≤ x ∧ x ≤ 2))
theorem all_loop (l : List Int) (hl : l.length ≤ 1048576) : ∀ d i : Nat, i + d = l.length → Ev (fun k => spec_l1All.l0 k 0 2 l (l.length : Int) (i : Int)) (okB (l.drop i))
  | 0, i, h => Ev.step (fun f => spec_l1All.l0.eq_2 ..) (ev_neg (by omega) (ev_eq (Ev.now _) (by rw [List.drop_eq_nil_of_le (by omega)]; rfl)))
  | d + 1, i, h => by
    have hlt : i < l.length := by omega
    refine Ev.step (fun f => spec_l1All.l0.eq_2 ..) (ev_pos (by omega) (ev_pos (by omega) (ev_pos (by omega) (ev_bind0 (in_spec _ _ _) ?_))))
    unfold okB
    rw [List.drop_eq_getElem_cons hlt, List.all_cons, rd_at hlt, wr (show -9223372036854775808 ≤ (i : Int) + 1 by omega) (by omega)]
    by_cases hc : 0 ≤ l[i] ∧ l[i] ≤ 2
    · rw [decide_eq_true hc, Bool.true_and]
      exact ev_pos rfl (all_loop l hl d (i + 1) (by omega))
    · rw [decide_eq_false hc, Bool.false_and]
      exact ev_neg (by decide) (Ev.now _)
theorem bad_one (x : Int) : impl_areLabels_1.f x = some (!decide (0 ≤ x ∧ x ≤ 2)) := by
  unfold impl_areLabels_1.f
  rw [in_impl]; rfl
theorem bad_loop (l : List Int) (hl : l.length ≤ 1048576) : ∀ d i : Nat, i + d = l.length → ∃ r : Int, Ev (fun k => slices_IndexFunc_int_int__impl_areLabels_1.l0 k l (l.length : Int) (i : Int)) r ∧ decide (r ≥ 0) = !okB (l.drop i)
  | 0, i, h => ⟨-1, Ev.step (fun f => slices_IndexFunc_int_int__impl_areLabels_1.l0.eq_2 ..) (ev_neg (by omega) (Ev.now _)), by rw [List.drop_eq_nil_of_le (by omega)]; rfl⟩
  | d + 1, i, h => by
    have hlt : i < l.length := by omega
    by_cases hc : 0 ≤ l[i] ∧ l[i] ≤ 2
    · obtain ⟨r, h1, h2⟩ := bad_loop l hl d (i + 1) (by omega)
      refine ⟨r, Ev.step (fun f => slices_IndexFunc_int_int__impl_areLabels_1.l0.eq_2 ..) (ev_pos (by omega) (ev_pos (by omega) (ev_pos (by omega) (ev_bind0 (bad_one _) (ev_neg (by rw [rd_at hlt, decide_eq_true hc]; decide) ?_))))), ?_⟩
      · rw [wr (by omega) (by omega)]; exact h1
      · rw [h2]
        unfold okB
        rw [List.drop_eq_getElem_cons hlt, List.all_cons, decide_eq_true hc, Bool.true_and]
    · refine ⟨i, Ev.step (fun f => slices_IndexFunc_int_int__impl_areLabels_1.l0.eq_2 ..) (ev_pos (by omega) (ev_pos (by omega) (ev_pos (by omega) (ev_bind0 (bad_one _) (ev_pos (by rw [rd_at hlt, decide_eq_false hc]; rfl) (Ev.now _)))))), ?_⟩
      unfold okB
      rw [List.drop_eq_getElem_cons hlt, List.all_cons, decide_eq_false hc, Bool.false_and, decide_eq_true (by omega)]
      rfl
theorem bad_ev (l : List Int) (hl : l.length ≤ 1048576) : Ev (fun k => slices_ContainsFunc_int_int__impl_areLabels_1.f k l) (!okB l) := by
  obtain ⟨r, h1, h2⟩ := bad_loop l hl l.length 0 (by omega)
  rw [List.drop_zero] at h2
  exact Ev.bind h1 (ev_eq (Ev.now _) h2)
def cnt (a : Int) : Int := wrap64 (Int.tdiv (wrap64 ((wrap64 (a + 1)) * (wrap64 (a + 2)))) 2)
/-- Are these labels for a side? -/
def labB (a : Int) (l : List Int) : Bool := decide (1 ≤ a ∧ a ≤ 8) && (decide ((l.length : Int) = cnt a) && okB l)
theorem labels_spec (a : Int) (l : List Int) (hl : l.length ≤ 1048576) : Ev (fun k => spec_meLabels.f k a l) (labB a l) := by
  refine ev_bind0 (side_spec a) ?_
  unfold labB
  by_cases h : 1 ≤ a ∧ a ≤ 8
  · rw [decide_eq_true h]
    refine ev_pos rfl (ev_bind0 (show spec_meCount.f a = some (cnt a) from rfl) ?_)
    by_cases h2 : (l.length : Int) = cnt a
    · have ha := all_loop l hl l.length 0 (by omega)
      rw [List.drop_zero] at ha
      rw [decide_eq_true h2]
      exact ev_pos h2 (Ev.bind ha (Ev.now _))
    · rw [decide_eq_false h2]
      exact ev_neg h2 (Ev.now _)
  · rw [decide_eq_false h]
    exact ev_neg (by decide) (Ev.now _)
theorem labels_impl (a : Int) (l : List Int) (hl : l.length ≤ 1048576) : Ev (fun k => impl_areLabels.f k a l) (labB a l) := by
  refine ev_bind0 (side_impl a) ?_
  unfold labB
  by_cases h : 1 ≤ a ∧ a ≤ 8
  · rw [decide_eq_true h]
    refine ev_pos rfl (ev_bind0 (show impl_many.f a = some (cnt a) from rfl) ?_)
    by_cases h2 : (l.length : Int) = cnt a
    · rw [decide_eq_true h2]
      exact ev_pos h2 (Ev.bind (bad_ev l hl) (ev_eq (Ev.now _) (by cases okB l <;> rfl)))
    · rw [decide_eq_false h2]
      exact ev_neg h2 (Ev.now _)
  · rw [decide_eq_false h]
    exact ev_neg (by decide) (Ev.now _)
end Go.Proofs.Ytafjjbkkcedgnab.QFnDoorsOfRooms
/-! Triangles: tables of the cells and of the border, and what they say of doors: each edge has one cell or two. -/
namespace Go.Proofs.Ytafjjbkkcedgnab.QFnDoorsOfRooms
open Go.RowKit Go.Proofs.Ytafjjbkkcedgnab.PFnDoorsOfRooms Go.Proofs.YtafjjbkkcedgnabW.PrintWords Go.Proofs.YtafjjbkkcedgnabW.PrintLast Go.Proofs.YtafjjbkkcedgnabW.PrintMore
set_option linter.unusedVariables false
set_option linter.unusedSimpArgs false
set_option maxRecDepth 100000
def cellsT : Nat → List (List Int)
  | 1 => [[0,1,2]]
  | 2 => [[0,1,2],[1,2,4],[1,3,4],[2,4,5]]
  | 3 => [[0,1,2],[1,2,4],[1,3,4],[2,4,5],[3,4,7],[3,6,7],[4,5,8],[4,7,8],[5,8,9]]
  | 4 => [[0,1,2],[1,2,4],[1,3,4],[2,4,5],[3,4,7],[3,6,7],[4,5,8],[4,7,8],[5,8,9],[6,7,11],[6,10,11],[7,8,12],[7,11,12],[8,9,13],[8,12,13],[9,13,14]]
  | 5 => [[0,1,2],[1,2,4],[1,3,4],[2,4,5],[3,4,7],[3,6,7],[4,5,8],[4,7,8],[5,8,9],[6,7,11],[6,10,11],[7,8,12],[7,11,12],[8,9,13],[8,12,13],[9,13,14],[10,11,16],[10,15,16],[11,12,17],[11,16,17],[12,13,18],[12,17,18],[13,14,19],[13,18,19],[14,19,20]]
  | 6 => [[0,1,2],[1,2,4],[1,3,4],[2,4,5],[3,4,7],[3,6,7],[4,5,8],[4,7,8],[5,8,9],[6,7,11],[6,10,11],[7,8,12],[7,11,12],[8,9,13],[8,12,13],[9,13,14],[10,11,16],[10,15,16],[11,12,17],[11,16,17],[12,13,18],[12,17,18],[13,14,19],[13,18,19],[14,19,20],[15,16,22],[15,21,22],[16,17,23],[16,22,23],[17,18,24],[17,23,24],[18,19,25],[18,24,25],[19,20,26],[19,25,26],[20,26,27]]
  | 7 => [[0,1,2],[1,2,4],[1,3,4],[2,4,5],[3,4,7],[3,6,7],[4,5,8],[4,7,8],[5,8,9],[6,7,11],[6,10,11],[7,8,12],[7,11,12],[8,9,13],[8,12,13],[9,13,14],[10,11,16],[10,15,16],[11,12,17],[11,16,17],[12,13,18],[12,17,18],[13,14,19],[13,18,19],[14,19,20],[15,16,22],[15,21,22],[16,17,23],[16,22,23],[17,18,24],[17,23,24],[18,19,25],[18,24,25],[19,20,26],[19,25,26],[20,26,27],[21,22,29],[21,28,29],[22,23,30],[22,29,30],[23,24,31],[23,30,31],[24,25,32],[24,31,32],[25,26,33],[25,32,33],[26,27,34],[26,33,34],[27,34,35]]
  | 8 => [[0,1,2],[1,2,4],[1,3,4],[2,4,5],[3,4,7],[3,6,7],[4,5,8],[4,7,8],[5,8,9],[6,7,11],[6,10,11],[7,8,12],[7,11,12],[8,9,13],[8,12,13],[9,13,14],[10,11,16],[10,15,16],[11,12,17],[11,16,17],[12,13,18],[12,17,18],[13,14,19],[13,18,19],[14,19,20],[15,16,22],[15,21,22],[16,17,23],[16,22,23],[17,18,24],[17,23,24],[18,19,25],[18,24,25],[19,20,26],[19,25,26],[20,26,27],[21,22,29],[21,28,29],[22,23,30],[22,29,30],[23,24,31],[23,30,31],[24,25,32],[24,31,32],[25,26,33],[25,32,33],[26,27,34],[26,33,34],[27,34,35],[28,29,37],[28,36,37],[29,30,38],[29,37,38],[30,31,39],[30,38,39],[31,32,40],[31,39,40],[32,33,41],[32,40,41],[33,34,42],[33,41,42],[34,35,43],[34,42,43],[35,43,44]]
  | _ => []
def bordT : Nat → List Int
  | 1 => [0,1,2]
  | 2 => [0,1,3,4,5,2]
  | 3 => [0,1,3,6,7,8,9,5,2]
  | 4 => [0,1,3,6,10,11,12,13,14,9,5,2]
  | 5 => [0,1,3,6,10,15,16,17,18,19,20,14,9,5,2]
  | 6 => [0,1,3,6,10,15,21,22,23,24,25,26,27,20,14,9,5,2]
  | 7 => [0,1,3,6,10,15,21,28,29,30,31,32,33,34,35,27,20,14,9,5,2]
  | 8 => [0,1,3,6,10,15,21,28,36,37,38,39,40,41,42,43,44,35,27,20,14,9,5,2]
  | _ => []
theorem cells_tab : ((List.range 9).all fun n => n == 0 || cellsFn n == cellsT n) = true := by decide +kernel
theorem bordI_tab : ((List.range 9).all fun n => n == 0 || impl_border.f 120 (n : Int) == some (bordT n)) = true := by decide +kernel
/-- The edges of a cell. -/
def edges (c : List Int) : List (List Int) := [[rd c 0, rd c 1], [rd c 0, rd c 2], [rd c 1, rd c 2]]
def wth (C : List (List Int)) (x y : Int) : List Int := withFn C x y C.length 0
/-- A cell of a table: three points, rising; the cells at each of its edges are itself alone, or itself and one other that has the edge, too. -/
def okCell (C : List (List Int)) (m i : Nat) : Bool :=
  let c := C.getD i []
  decide (c.length = 3) && decide (0 ≤ rd c 0) && decide (rd c 0 < rd c 1) && decide (rd c 1 < rd c 2) && decide (rd c 2 < (m : Int)) &&
    (edges c).all fun d => match wth C (rd d 0) (rd d 1) with
      | [p] => decide (p = (i : Int))
      | [p, q] => decide (p = (i : Int)) && decide (i < q.toNat) && decide (0 ≤ q) && decide (q.toNat < C.length) && (edges (C.getD q.toNat [])).contains d ||
          decide (q = (i : Int)) && decide (p.toNat < i) && decide (0 ≤ p) && decide (p.toNat < C.length) && (edges (C.getD p.toNat [])).contains d
      | _ => false
/-- The steps along a border. -/
def stepsT (b : List Int) : List (List Int) := (List.range b.length).map fun (t : Nat) => [rd b (t : Int), rd b (Int.ofNat ((t + 1) % b.length))]
def inner (s : List Int) : List Int := [mn (rd s 0) (rd s 1), mx (rd s 0) (rd s 1)]
/-- A step along the border is the edge of one cell alone. -/
def okStep (C : List (List Int)) (m : Nat) (s : List Int) : Bool :=
  decide (0 ≤ rd s 0) && decide (rd s 0 < (m : Int)) && decide (0 ≤ rd s 1) && decide (rd s 1 < (m : Int)) &&
    match wth C (rd (inner s) 0) (rd (inner s) 1) with
      | [p] => decide (0 ≤ p) && decide (p.toNat < C.length) && (edges (C.getD p.toNat [])).contains (inner s)
      | _ => false
theorem geo : ((List.range 9).all fun n => n == 0 || (decide ((cellsT n).length = n * n) && decide ((bordT n).length = 3 * n) && ((List.range (n * n)).all (okCell (cellsT n) (many n)) && (stepsT (bordT n)).all (okStep (cellsT n) (many n))))) = true := by decide +kernel
section
variable {n : Nat} (h : Side n)
include h
theorem Side.tab {f : Nat → Bool} (hf : ((List.range 9).all fun n => n == 0 || f n) = true) : f n = true := by
  have a := List.all_eq_true.1 hf n (by simp; have := h.hi; omega)
  have z : (n == 0) = false := by simp; have := h.lo; omega
  rw [z, Bool.false_or] at a
  exact a
theorem Side.cellsT : cellsFn n = cellsT n := eq_of_beq (h.tab cells_tab)
theorem Side.cellsI : Ev (fun k => impl_cells.f k (n : Int)) (QFnDoorsOfRooms.cellsT n) := by rw [← h.cellsT]; exact h.cells
theorem Side.cellsS : Ev (fun k => spec_meCells.f k (n : Int)) (QFnDoorsOfRooms.cellsT n) := by rw [← h.cellsT]; exact h.meCells
theorem Side.bordI : Ev (fun k => impl_border.f k (n : Int)) (bordT n) := Ev.of (fun k => impl_border.mono _ k) (eq_of_beq (h.tab bordI_tab))
theorem Side.geo : (QFnDoorsOfRooms.cellsT n).length = n * n ∧ (bordT n).length = 3 * n ∧ (∀ i, i < n * n → okCell (QFnDoorsOfRooms.cellsT n) (many n) i = true) ∧ ∀ s ∈ stepsT (bordT n), okStep (QFnDoorsOfRooms.cellsT n) (many n) s = true := by
  have a := h.tab QFnDoorsOfRooms.geo
  simp only [Bool.and_eq_true, decide_eq_true_eq] at a
  exact ⟨a.1.1, a.1.2, fun i hi => List.all_eq_true.1 a.2.1 i (List.mem_range.2 hi), fun s hs => List.all_eq_true.1 a.2.2 s hs⟩
end
end Go.Proofs.Ytafjjbkkcedgnab.QFnDoorsOfRooms
/-! The border, as the reference counts it. -/
namespace Go.Proofs.Ytafjjbkkcedgnab.QFnDoorsOfRooms
open Go.RowKit Go.Proofs.Ytafjjbkkcedgnab.PFnDoorsOfRooms Go.Proofs.YtafjjbkkcedgnabW.PrintWords Go.Proofs.YtafjjbkkcedgnabW.PrintLast Go.Proofs.YtafjjbkkcedgnabW.PrintMore
set_option linter.unusedVariables false
set_option linter.unusedSimpArgs false
set_option maxRecDepth 100000
theorem bordS_tab : ((List.range 9).all fun n => n == 0 || spec_meBorder.f 100 (n : Int) == some (bordT n)) = true := by decide +kernel
theorem Side.bordS {n : Nat} (h : Side n) : Ev (fun k => spec_meBorder.f k (n : Int)) (bordT n) := Ev.of (fun k => spec_meBorder.mono _ k) (eq_of_beq (h.tab bordS_tab))
end Go.Proofs.Ytafjjbkkcedgnab.QFnDoorsOfRooms
/-! Rooms and doors: what the program's functions and the reference's tell of them, as plain functions. -/
namespace Go.Proofs.Ytafjjbkkcedgnab.QFnDoorsOfRooms
open Go.RowKit Go.Proofs.Ytafjjbkkcedgnab.PFnDoorsOfRooms Go.Proofs.YtafjjbkkcedgnabW.PrintWords Go.Proofs.YtafjjbkkcedgnabW.PrintLast Go.Proofs.YtafjjbkkcedgnabW.PrintMore
set_option linter.unusedVariables false
set_option linter.unusedSimpArgs false
set_option maxRecDepth 100000
/-- Are the ends of an edge labelled 0 and 1? -/
def dr (L : List Int) (d : List Int) : Bool := decide (rd L (rd d 0) + rd L (rd d 1) = 1)
def doorsL (L c : List Int) : List (List Int) := (edges c).filter (dr L)
def fullL (L c : List Int) : Bool := decide (rd L (rd c 0) ≠ rd L (rd c 1) ∧ rd L (rd c 0) ≠ rd L (rd c 2) ∧ rd L (rd c 1) ≠ rd L (rd c 2))
/-- Labels of m points. -/
structure Lbl (L : List Int) (m : Nat) : Prop where
  len : L.length = m
  small : m ≤ 1000
  ok : ∀ i : Int, 0 ≤ i → i < (m : Int) → 0 ≤ rd L i ∧ rd L i ≤ 2
/-- A cell: three points, rising. -/
structure Tri (c : List Int) (m : Nat) : Prop where
  len : c.length = 3
  lo : 0 ≤ rd c 0
  ab : rd c 0 < rd c 1
  bc : rd c 1 < rd c 2
  hi : rd c 2 < (m : Int)
theorem lbl_of {L : List Int} {m : Nat} (hl : L.length = m) (hm : m ≤ 1000) (ho : okB L = true) : Lbl L m := ⟨hl, hm, fun i h0 h1 => by
  have hlt : i.toNat < L.length := by omega
  have e : rd L i = L[i.toNat] := by
    unfold rd
    rw [List.getD_eq_getElem?_getD, List.getElem?_eq_getElem hlt]; rfl
  rw [e]
  have := List.all_eq_true.1 ho _ (List.getElem_mem hlt)
  exact of_decide_eq_true this⟩
theorem edges_ok {c : List Int} {m : Nat} (hc : Tri c m) : ∀ e ∈ edges c, ∃ x y, e = [x, y] ∧ (0 ≤ x ∧ x < (m : Int)) ∧ (0 ≤ y ∧ y < (m : Int)) := fun e he => by
  have h1 := hc.lo
  have h2 := hc.ab
  have h3 := hc.bc
  have h4 := hc.hi
  unfold edges at he
  simp only [List.mem_cons, List.not_mem_nil, or_false] at he
  rcases he with e1 | e1 | e1
  · exact ⟨_, _, e1, by omega, by omega⟩
  · exact ⟨_, _, e1, by omega, by omega⟩
  · exact ⟨_, _, e1, by omega, by omega⟩
theorem bits_full {x y z : Int} (hx : 0 ≤ x ∧ x ≤ 2) (hy : 0 ≤ y ∧ y ≤ 2) (hz : 0 ≤ z ∧ z ≤ 2) : (Go.bits .or .i64 (Go.bits .or .i64 (shl .i64 1 x) (shl .i64 1 y)) (shl .i64 1 z) == 7) = decide (x ≠ y ∧ x ≠ z ∧ y ≠ z) ∧ (Go.bits .or .i64 (Go.bits .or .i64 (Go.bits .or .i64 0 (shl .i64 1 x)) (shl .i64 1 y)) (shl .i64 1 z) == 7) = decide (x ≠ y ∧ x ≠ z ∧ y ≠ z) := by
  have h1 : x = 0 ∨ x = 1 ∨ x = 2 := by omega
  have h2 : y = 0 ∨ y = 1 ∨ y = 2 := by omega
  have h3 : z = 0 ∨ z = 1 ∨ z = 2 := by omega
  rcases h1 with rfl | rfl | rfl <;> rcases h2 with rfl | rfl | rfl <;> rcases h3 with rfl | rfl | rfl <;> decide
section
variable {L : List Int} {m : Nat} (hL : Lbl L m)
include hL
theorem isDoor_eq (a0 : Int) (C : List (List Int)) (B : List Int) {i j : Int} (hi : 0 ≤ i ∧ i < (m : Int)) (hj : 0 ≤ j ∧ j < (m : Int)) : impl_house_isDoor.f a0 L C B i j = some (dr L [i, j]) := by
  have h1 := hL.ok i hi.1 hi.2
  have h2 := hL.ok j hj.1 hj.2
  have hl := hL.len
  unfold impl_house_isDoor.f dr
  rw [if_pos hi.1, if_pos (by omega), if_pos hj.1, if_pos (by omega), show rd [i, j] 0 = i from rfl, show rd [i, j] 1 = j from rfl]
  by_cases e : rd L i = rd L j
  · rw [if_pos e, decide_eq_false (by omega)]
  · rw [if_neg e]
    by_cases e2 : rd L i < 2
    · rw [if_pos e2]
      congr 1
      rw [decide_eq_decide]; omega
    · rw [if_neg e2, decide_eq_false (by omega)]
theorem doDoor_eq {i j : Int} (hi : 0 ≤ i ∧ i < (m : Int)) (hj : 0 ≤ j ∧ j < (m : Int)) : spec_doDoor.f L i j = some (dr L [i, j]) := by
  have h1 := hL.ok i hi.1 hi.2
  have h2 := hL.ok j hj.1 hj.2
  have hl := hL.len
  unfold spec_doDoor.f dr
  rw [if_pos hi.1, if_pos (by omega), if_pos hj.1, if_pos (by omega), wr (by omega) (by omega)]
  congr 1
/-! ### doors of a cell -/
theorem idoors_loop (a0 : Int) (C : List (List Int)) (B : List Int) (E : List (List Int)) (hE : E.length ≤ 1000) (hp : ∀ e ∈ E, ∃ x y, e = [x, y] ∧ (0 ≤ x ∧ x < (m : Int)) ∧ (0 ≤ y ∧ y < (m : Int))) :
    ∀ (d i : Nat) (acc : List (List Int)), i + d = E.length → acc.length ≤ 10000 + i → Ev (fun k => impl_house_doors.l0 k acc E (E.length : Int) (i : Int) a0 L C B) (acc ++ (E.drop i).filter (dr L))
  | 0, i, acc, h, _ => Ev.step (fun f => impl_house_doors.l0.eq_2 ..) (ev_neg (by omega) (ev_eq (Ev.now _) (by rw [List.drop_eq_nil_of_le (by omega)]; simp)))
  | d + 1, i, acc, h, ha => by
    have hlt : i < E.length := by omega
    obtain ⟨x, y, e, hx, hy⟩ := hp _ (List.getElem_mem hlt)
    have er : rd_L2 E (i : Int) = [x, y] := by unfold rd_L2; rw [Int.toNat_natCast, List.getD_eq_getElem?_getD, List.getElem?_eq_getElem hlt, e]; rfl
    have ih := fun acc' hacc => idoors_loop a0 C B E hE hp d (i + 1) acc' (by omega) hacc
    refine Ev.step (fun f => impl_house_doors.l0.eq_2 ..) (ev_pos (by omega) (ev_pos (by omega) (ev_pos (by omega) ?_)))
    rw [er]
    refine ev_pos (by simp) (ev_pos (by simp) (ev_bind0 (isDoor_eq hL a0 C B (i := rd [x, y] 0) (j := rd [x, y] 1) hx hy) ?_))
    rw [wr (by omega) (by omega), List.drop_eq_getElem_cons hlt, e, List.filter_cons]
    show Ev (fun k => if dr L [x, y] = true then _ else _) _
    by_cases hd : dr L [x, y] = true
    · rw [if_pos hd]
      refine ev_pos hd (ev_pos (by omega) ?_)
      have := ih (acc ++ [[x, y]]) (by simp; omega)
      rw [List.append_assoc] at this
      exact this
    · rw [if_neg hd]
      exact ev_neg hd (ih acc (by omega))
theorem idoors_ev (a0 : Int) (C : List (List Int)) (B : List Int) {ci : Int} (h0 : 0 ≤ ci) (h1 : ci < (C.length : Int)) (hc : Tri (C.getD ci.toNat []) m) : Ev (fun k => impl_house_doors.f k a0 L C B ci) (doorsL L (C.getD ci.toNat [])) := by
  have hl := hc.len
  have er : rd_L2 C ci = C.getD ci.toNat [] := rfl
  unfold impl_house_doors.f
  rw [er]
  refine ev_pos h0 (ev_pos h1 (ev_pos (by omega) (ev_pos (by omega) (ev_pos (by omega) (ev_bind0 rfl ?_)))))
  have := idoors_loop hL a0 C B (edges (C.getD ci.toNat [])) (by simp [edges]) (edges_ok hc) 3 0 [] rfl (by simp)
  rw [List.nil_append, List.drop_zero] at this
  exact this
theorem sdoors_l1 (c : List Int) (xa xi : Int) (hxa : 0 ≤ xa ∧ xa < (m : Int)) (R : List Int) (hR : R.length ≤ 100) (hp : ∀ y ∈ R, 0 ≤ y ∧ y < (m : Int)) (r : List (List Int)) : ∀ (d i : Nat) (acc : List (List Int)), i + d = R.length → acc.length ≤ 10000 + i →
    Ev (fun k => spec_doOfCell.l0 k L c (acc ++ ((R.drop i).map fun b => [xa, b]).filter (dr L)) c (c.length : Int) (wrap64 (xi + 1))) r → Ev (fun k => spec_doOfCell.l1 k L c acc xa c (c.length : Int) xi R (R.length : Int) (i : Int)) r
  | 0, i, acc, h, ha, cont => by
    rw [List.drop_eq_nil_of_le (by omega), List.map_nil, List.filter_nil, List.append_nil] at cont
    exact Ev.step (fun f => spec_doOfCell.l1.eq_2 ..) (ev_neg (by omega) cont)
  | d + 1, i, acc, h, ha, cont => by
    have hlt : i < R.length := by omega
    have e : rd R (i : Int) = R[i] := rd_at hlt
    have hy := hp _ (List.getElem_mem hlt)
    rw [List.drop_eq_getElem_cons hlt, List.map_cons, List.filter_cons] at cont
    refine Ev.step (fun f => spec_doOfCell.l1.eq_2 ..) (ev_pos (by omega) (ev_pos (by omega) (ev_pos (by omega) ?_)))
    rw [e, wr (by omega) (by omega)]
    refine ev_bind0 (doDoor_eq hL hxa hy) ?_
    by_cases hd : dr L [xa, R[i]] = true
    · rw [if_pos hd] at cont
      refine ev_pos hd (ev_pos (by omega) (sdoors_l1 c xa xi hxa R hR hp r d (i + 1) (acc ++ [[xa, R[i]]]) (by omega) (by simp; omega) ?_))
      rw [List.append_assoc]; exact cont
    · rw [if_neg hd] at cont
      exact ev_neg hd (sdoors_l1 c xa xi hxa R hR hp r d (i + 1) acc (by omega) (by omega) cont)
theorem sdoors_ev {c : List Int} (hc : Tri c m) : Ev (fun k => spec_doOfCell.f k L c) (doorsL L c) := by
  have hl := hc.len
  have h1 := hc.lo
  have h2 := hc.ab
  have h3 := hc.bc
  have h4 := hc.hi
  obtain ⟨x, y, z, rfl⟩ : ∃ x y z, c = [x, y, z] := by
    match c, hl with
    | [x, y, z], _ => exact ⟨x, y, z, rfl⟩
  have e0 : rd [x, y, z] 0 = x := rfl
  have e1 : rd [x, y, z] 1 = y := rfl
  have e2 : rd [x, y, z] 2 = z := rfl
  rw [e0] at h1
  rw [e0, e1] at h2
  rw [e1, e2] at h3
  rw [e2] at h4
  unfold spec_doOfCell.f
  refine Ev.step (fun f => spec_doOfCell.l0.eq_2 ..) (ev_pos (by simp) (ev_pos (by simp) (ev_pos (by simp) ?_)))
  rw [w01]
  refine ev_pos (by simp) (ev_pos (by simp) ?_)
  refine sdoors_l1 hL [x, y, z] x 0 (by omega) [y, z] (by simp) (fun v hv => by simp at hv; omega) _ 2 0 [] rfl (by simp) ?_
  rw [w01]
  refine Ev.step (fun f => spec_doOfCell.l0.eq_2 ..) (ev_pos (by simp) (ev_pos (by simp) (ev_pos (by simp) ?_)))
  rw [w12]
  refine ev_pos (by simp) (ev_pos (by simp) ?_)
  have hlen : ∀ l : List Int, (([] : List (List Int)) ++ (l.map fun b => [x, b]).filter (dr L)).length ≤ l.length := fun l => by
    rw [List.nil_append]
    exact Nat.le_trans (List.length_filter_le _ _) (by simp)
  have hl2 := hlen (List.drop 0 [y, z])
  refine sdoors_l1 hL [x, y, z] y 1 (by omega) [z] (by simp) (fun v hv => by simp at hv; omega) _ 1 0 _ rfl (Nat.le_trans hl2 (by simp)) ?_
  rw [w12]
  refine Ev.step (fun f => spec_doOfCell.l0.eq_2 ..) (ev_pos (by simp) (ev_pos (by simp) (ev_pos (by simp) ?_)))
  rw [w23]
  refine ev_pos (by simp) (ev_pos (by simp) ?_)
  refine sdoors_l1 hL [x, y, z] z 2 (by omega) [] (by simp) (fun v hv => by cases hv) _ 0 0 _ rfl ?_ ?_
  · have := List.length_filter_le (dr L) ((List.drop 0 [z]).map fun b => [y, b])
    rw [List.length_append]
    simp at this hl2 ⊢
    omega
  rw [w23]
  refine Ev.step (fun f => spec_doOfCell.l0.eq_2 ..) (ev_neg (by simp) (ev_eq (Ev.now _) ?_))
  unfold doorsL edges
  rw [e0, e1, e2]
  simp only [List.drop_zero, List.map_cons, List.map_nil, List.filter_cons, List.filter_nil, List.nil_append]
  cases dr L [x, y] <;> cases dr L [x, z] <;> cases dr L [y, z] <;> rfl
/-! ### full cells -/
theorem isFull_eq (a0 : Int) (C : List (List Int)) (B : List Int) {ci : Int} (h0 : 0 ≤ ci) (h1 : ci < (C.length : Int)) (hc : Tri (C.getD ci.toNat []) m) : impl_house_isFull.f a0 L C B ci = some (fullL L (C.getD ci.toNat [])) := by
  have hl := hc.len
  have g1 := hc.lo
  have g2 := hc.ab
  have g3 := hc.bc
  have g4 := hc.hi
  have hll := hL.len
  have er : rd_L2 C ci = C.getD ci.toNat [] := rfl
  unfold impl_house_isFull.f
  rw [er]
  generalize C.getD ci.toNat [] = c at *
  have r0 := hL.ok (rd c 0) (by omega) (by omega)
  have r1 := hL.ok (rd c 1) (by omega) (by omega)
  have r2 := hL.ok (rd c 2) (by omega) (by omega)
  rw [if_pos h0, if_pos h1, if_pos (by omega), if_pos (by omega), if_pos (by omega), if_pos (by omega), if_pos (by omega), if_pos (by omega), if_pos (by omega), if_pos (by omega), if_pos (by omega), if_pos (by omega), if_pos (by omega), if_pos (by omega)]
  rw [(bits_full r0 r1 r2).1]
  rfl
theorem doFull_ev {c : List Int} (hc : Tri c m) : Ev (fun k => spec_doFull.f k L c) (fullL L c) := by
  have hl := hc.len
  have g1 := hc.lo
  have g2 := hc.ab
  have g3 := hc.bc
  have g4 := hc.hi
  have hll := hL.len
  have r0 := hL.ok (rd c 0) (by omega) (by omega)
  have r1 := hL.ok (rd c 1) (by omega) (by omega)
  have r2 := hL.ok (rd c 2) (by omega) (by omega)
  unfold spec_doFull.f
  refine Ev.step (fun f => spec_doFull.l0.eq_2 ..) (ev_pos (by omega) (ev_pos (by omega) (ev_pos (by omega) (ev_pos (by omega) (ev_pos (by omega) (ev_pos (by omega) ?_))))))
  rw [w01]
  refine Ev.step (fun f => spec_doFull.l0.eq_2 ..) (ev_pos (by omega) (ev_pos (by omega) (ev_pos (by omega) (ev_pos (by omega) (ev_pos (by omega) (ev_pos (by omega) ?_))))))
  rw [w12]
  refine Ev.step (fun f => spec_doFull.l0.eq_2 ..) (ev_pos (by omega) (ev_pos (by omega) (ev_pos (by omega) (ev_pos (by omega) (ev_pos (by omega) (ev_pos (by omega) ?_))))))
  rw [w23]
  refine Ev.step (fun f => spec_doFull.l0.eq_2 ..) (ev_neg (by omega) (ev_eq (Ev.now _) ?_))
  rw [(bits_full r0 r1 r2).2]
  rfl
end
/-! ### behind a door -/
end Go.Proofs.Ytafjjbkkcedgnab.QFnDoorsOfRooms
/-! The rooms of a labelled triangle are a house; the walks of the program's and of the reference's are the walk of that house. -/
namespace Go.Proofs.Ytafjjbkkcedgnab.QFnDoorsOfRooms
open Go.RowKit Go.Proofs.Ytafjjbkkcedgnab.PFnDoorsOfRooms Go.Proofs.YtafjjbkkcedgnabW.PrintWords Go.Proofs.YtafjjbkkcedgnabW.PrintLast Go.Proofs.YtafjjbkkcedgnabW.PrintMore
set_option linter.unusedVariables false
set_option linter.unusedSimpArgs false
set_option maxRecDepth 100000
/-- A room's number. -/
def inC (m : Nat) (c : Int) : Prop := 0 ≤ c ∧ c < (m : Int)
instance (m : Nat) (c : Int) : Decidable (inC m c) := by unfold inC; infer_instance
/-- Labels of a triangle. -/
structure Home (n : Nat) (L : List Int) : Prop where
  side : Side n
  lbl : Lbl L (many n)
def cl (n : Nat) (c : Int) : List Int := (cellsT n).getD c.toNat []
def fullAt (n : Nat) (L : List Int) (c : Int) : Bool := fullL L (cl n c)
def doorAt (n : Nat) (L : List Int) (c : Int) (d : List Int) : Prop := d ∈ doorsL L (cl n c)
theorem getD_lt {l : List (List Int)} {i : Nat} (h : i < l.length) : l.getD i [] ∈ l := by
  rw [List.getD_eq_getElem?_getD, List.getElem?_eq_getElem h]; exact List.getElem_mem h
section
variable {n : Nat} {L : List Int} (H : Home n L)
include H
theorem Home.nn : n * n ≤ 64 := Nat.le_trans (Nat.mul_le_mul H.side.hi H.side.hi) (by decide)
theorem Home.len : (cellsT n).length = n * n := H.side.geo.1
theorem Home.lenC : (cellsT n).length ≤ 100 := by rw [H.len]; have := H.nn; omega
theorem Home.cell {c : Int} (hc : inC (n * n) c) : okCell (cellsT n) (many n) c.toNat = true := H.side.geo.2.2.1 _ (by unfold inC at hc; omega)
theorem Home.tri {c : Int} (hc : inC (n * n) c) : Tri (cl n c) (many n) := by
  have a := H.cell hc
  unfold okCell at a
  simp only [Bool.and_eq_true, decide_eq_true_eq] at a
  exact ⟨a.1.1.1.1.1, a.1.1.1.1.2, a.1.1.1.2, a.1.1.2, a.1.2⟩
theorem Home.three : ∀ c ∈ cellsT n, c.length = 3 := fun c hc => by
  obtain ⟨i, hi, e⟩ := List.getElem_of_mem hc
  have := (H.tri (c := (i : Int)) (by unfold inC; rw [← H.len]; omega)).len
  unfold cl at this
  rw [Int.toNat_natCast, List.getD_eq_getElem?_getD, List.getElem?_eq_getElem hi] at this
  rw [← e]; exact this
theorem Home.range {c : Int} (hc : inC (n * n) c) : 0 ≤ c ∧ c < ((cellsT n).length : Int) := by rw [H.len]; exact hc
end
end Go.Proofs.Ytafjjbkkcedgnab.QFnDoorsOfRooms
/-! Labels that are taken make a house. -/
namespace Go.Proofs.Ytafjjbkkcedgnab.QFnDoorsOfRooms
open Go.RowKit Go.Proofs.Ytafjjbkkcedgnab.PFnDoorsOfRooms Go.Proofs.YtafjjbkkcedgnabW.PrintWords Go.Proofs.YtafjjbkkcedgnabW.PrintLast Go.Proofs.YtafjjbkkcedgnabW.PrintMore
set_option linter.unusedVariables false
set_option linter.unusedSimpArgs false
set_option maxRecDepth 100000
theorem cnt_tab : ((List.range 9).all fun n => n == 0 || decide (cnt (n : Int) = (many n : Int))) = true := by decide +kernel
/-- Labels that are taken. -/
theorem home_of {a : Int} {l : List Int} (h : labB a l = true) : ∃ n : Nat, a = (n : Int) ∧ Home n l := by
  unfold labB at h
  simp only [Bool.and_eq_true, decide_eq_true_eq] at h
  obtain ⟨⟨h1, h2⟩, h3, h4⟩ := h
  have e : a = ((a.toNat : Nat) : Int) := by omega
  have s : Side a.toNat := ⟨by omega, by omega⟩
  refine ⟨a.toNat, e, s, ?_⟩
  rw [e] at h3
  have c := of_decide_eq_true (s.tab cnt_tab)
  exact lbl_of (by omega) (by have := many_le s.hi; omega) h4
end Go.Proofs.Ytafjjbkkcedgnab.QFnDoorsOfRooms
/-! Doors of the border; what the program's and the reference's walk tell that come in at one. -/
namespace Go.Proofs.Ytafjjbkkcedgnab.QFnDoorsOfRooms
open Go.RowKit Go.Proofs.Ytafjjbkkcedgnab.PFnDoorsOfRooms Go.Proofs.YtafjjbkkcedgnabW.PrintWords Go.Proofs.YtafjjbkkcedgnabW.PrintLast Go.Proofs.YtafjjbkkcedgnabW.PrintMore
set_option linter.unusedVariables false
set_option linter.unusedSimpArgs false
set_option maxRecDepth 100000
def step (B : List Int) (t : Nat) : List Int := [rd B (t : Int), rd B (Int.ofNat ((t + 1) % B.length))]
theorem stepsT_eq (B : List Int) : stepsT B = (List.range B.length).map (step B) := rfl
theorem steps_loop (a0 : Int) (L : List Int) (C : List (List Int)) (B : List Int) (hB : B.length ≤ 1000) : ∀ d i : Nat, i + d = B.length → Ev (fun k => impl_house_steps.l0 k ((List.range i).map (step B)) B (B.length : Int) (i : Int) a0 L C B) (stepsT B)
  | 0, i, h => Ev.step (fun f => impl_house_steps.l0.eq_2 ..) (ev_neg (by omega) (ev_eq (Ev.now _) (by rw [stepsT_eq, show i = B.length from h])))
  | d + 1, i, h => by
    have ih := steps_loop a0 L C B hB d (i + 1) (by omega)
    have ht : Int.tmod (wrap64 ((i : Int) + 1)) (B.length : Int) = Int.ofNat ((i + 1) % B.length) := by rw [wr (by omega) (by omega)]; rfl
    have hm := Nat.mod_lt (i + 1) (show B.length > 0 by omega)
    refine Ev.step (fun f => impl_house_steps.l0.eq_2 ..) (ev_pos (by omega) (ev_pos (by omega) (ev_pos (by omega) (ev_neg (by omega) ?_))))
    rw [ht]
    refine ev_pos (Int.natCast_nonneg _) (ev_pos (Int.ofNat_lt.2 hm) (ev_pos (by rw [List.length_map, List.length_range]; omega) ?_))
    rw [wr (by omega) (by omega)]
    rw [List.range_succ, List.map_append] at ih
    exact ih
section
variable {n : Nat} {L : List Int} (H : Home n L)
include H
theorem Home.lenB : (bordT n).length ≤ 24 := by rw [H.side.geo.2.1]; have := H.side.hi; omega
theorem Home.step {s : List Int} (hs : s ∈ stepsT (bordT n)) : ∃ x y, s = [x, y] ∧ (0 ≤ x ∧ x < (many n : Int)) ∧ (0 ≤ y ∧ y < (many n : Int)) := by
  have a := H.side.geo.2.2.2 s hs
  rw [stepsT_eq] at hs
  obtain ⟨t, _, e⟩ := List.mem_map.1 hs
  unfold okStep at a
  simp only [Bool.and_eq_true, decide_eq_true_eq] at a
  refine ⟨rd s 0, rd s 1, ?_, ⟨a.1.1.1.1, a.1.1.1.2⟩, ⟨a.1.1.2, a.1.2⟩⟩
  rw [← e]; rfl
theorem Home.steps_ev (a0 : Int) (C : List (List Int)) : Ev (fun k => impl_house_steps.f k a0 L C (bordT n)) (stepsT (bordT n)) :=
  steps_loop a0 L C (bordT n) (Nat.le_trans H.lenB (by decide)) (bordT n).length 0 (Nat.zero_add _)
/-- The doors of the border. -/
def gates (n : Nat) (L : List Int) : List (List Int) := (stepsT (bordT n)).filter (dr L)
theorem Home.entry (a0 : Int) (C : List (List Int)) (B : List Int) {s : List Int} (hs : s ∈ stepsT (bordT n)) : impl_house_entries_1.f s [(⟨a0, L, C, B⟩ : S55)] = some (!dr L s) := by
  obtain ⟨x, y, e, hx, hy⟩ := H.step hs
  subst e
  have hd := isDoor_eq H.lbl a0 C B hx hy
  unfold impl_house_entries_1.f
  rw [if_pos (by simp), if_pos (by simp), if_pos (by simp)]
  show (impl_house_isDoor.f a0 L C B x y).bind _ = _
  rw [hd]; rfl
theorem Home.entries_ev (a0 : Int) (C : List (List Int)) : Ev (fun k => impl_house_entries.f k a0 L C (bordT n)) (gates n L) := by
  refine Ev.bind (H.steps_ev a0 C) (ev_pos ?_ (ev_eq (Ev.now _) ?_))
  · rw [Bool.and_eq_true, decide_eq_true_eq]
    refine ⟨List.all_eq_true.2 fun s hs => by rw [H.entry a0 C (bordT n) hs]; rfl, ?_⟩
    rw [stepsT_eq, List.length_map, List.length_range]
    have := H.lenB; omega
  · unfold gates
    refine List.filter_congr fun s hs => ?_
    unfold impl_house_entries.q
    rw [H.entry a0 C (bordT n) hs]
    cases dr L s <;> rfl
theorem Home.border_loop : ∀ d i : Nat, i + d = (bordT n).length → Ev (fun k => spec_doBorder.l0 k L (bordT n) (((List.range i).map (QFnDoorsOfRooms.step (bordT n))).filter (dr L)) (bordT n) ((bordT n).length : Int) (i : Int)) (gates n L)
  | 0, i, h => Ev.step (fun f => spec_doBorder.l0.eq_2 ..) (ev_neg (by omega) (ev_eq (Ev.now _) (by unfold gates; rw [stepsT_eq, show i = (bordT n).length from h])))
  | d + 1, i, h => by
    have ih := Home.border_loop d (i + 1) (by omega)
    have hB := H.lenB
    have ht : Int.tmod (wrap64 ((i : Int) + 1)) ((bordT n).length : Int) = Int.ofNat ((i + 1) % (bordT n).length) := by rw [wr (by omega) (by omega)]; rfl
    have hm := Nat.mod_lt (i + 1) (show (bordT n).length > 0 by omega)
    have hst : QFnDoorsOfRooms.step (bordT n) i ∈ stepsT (bordT n) := by rw [stepsT_eq]; exact List.mem_map_of_mem (List.mem_range.2 (by omega))
    obtain ⟨x, y, e, hx, hy⟩ := H.step hst
    have e1 : rd (bordT n) (i : Int) = x := by
      have := congrArg (fun l : List Int => rd l 0) e; exact this
    have e2 : rd (bordT n) (Int.ofNat ((i + 1) % (bordT n).length)) = y := by
      have := congrArg (fun l : List Int => rd l 1) e; exact this
    have hf := List.length_filter_le (dr L) ((List.range i).map (QFnDoorsOfRooms.step (bordT n)))
    rw [List.length_map, List.length_range] at hf
    refine Ev.step (fun f => spec_doBorder.l0.eq_2 ..) (ev_pos (by omega) (ev_pos (by omega) (ev_pos (by omega) (ev_neg (by omega) ?_))))
    rw [ht]
    refine ev_pos (Int.natCast_nonneg _) (ev_pos (Int.ofNat_lt.2 hm) ?_)
    rw [e1, e2, wr (by omega) (by omega)]
    rw [List.range_succ, List.map_append, List.filter_append, List.map_singleton, e, List.filter_cons, List.filter_nil] at ih
    refine ev_bind0 (doDoor_eq H.lbl hx hy) ?_
    by_cases hd : dr L [x, y] = true
    · rw [if_pos hd] at ih
      exact ev_pos hd (ev_pos (by omega) ih)
    · rw [if_neg hd, List.append_nil] at ih
      exact ev_neg hd ih
theorem Home.border_ev : Ev (fun k => spec_doBorder.f k (n : Int) L) (gates n L) :=
  Ev.bind H.side.bordS (H.border_loop (bordT n).length 0 (Nat.zero_add _))
omit H in
theorem dr_inner (L : List Int) (s : List Int) : dr L (inner s) = dr L s := by
  have e0 : rd (inner s) 0 = mn (rd s 0) (rd s 1) := rfl
  have e1 : rd (inner s) 1 = mx (rd s 0) (rd s 1) := rfl
  unfold dr
  rw [e0, e1, decide_eq_decide]
  unfold mn mx
  by_cases h : rd s 1 < rd s 0
  · rw [if_pos h, if_neg (by omega)]; omega
  · by_cases h2 : rd s 0 < rd s 1
    · rw [if_neg h, if_pos h2]
    · rw [if_neg h, if_neg h2, show rd s 1 = rd s 0 by omega]
end
end Go.Proofs.Ytafjjbkkcedgnab.QFnDoorsOfRooms
/-! Points of a side: the program's test and the reference's. -/
namespace Go.Proofs.Ytafjjbkkcedgnab.QFnDoorsOfRooms
open Go.RowKit Go.Proofs.Ytafjjbkkcedgnab.PFnDoorsOfRooms Go.Proofs.YtafjjbkkcedgnabW.PrintWords Go.Proofs.YtafjjbkkcedgnabW.PrintLast Go.Proofs.YtafjjbkkcedgnabW.PrintMore
set_option linter.unusedVariables false
set_option linter.unusedSimpArgs false
set_option maxRecDepth 100000
theorem many_impl {n : Nat} (h : Side n) : impl_many.f (n : Int) = some (many n : Int) := by
  have : n = 1 ∨ n = 2 ∨ n = 3 ∨ n = 4 ∨ n = 5 ∨ n = 6 ∨ n = 7 ∨ n = 8 := by have := h.lo; have := h.hi; omega
  rcases this with rfl | rfl | rfl | rfl | rfl | rfl | rfl | rfl <;> decide +kernel
theorem point_spec {n : Nat} (h : Side n) (i : Int) : spec_mePoint.f (n : Int) i = some (decide (0 ≤ i ∧ i < many n)) := by
  have hb := many_le h.hi
  unfold spec_mePoint.f
  rw [side_spec, count_ev h rfl]
  have e : decide ((1 : Int) ≤ n ∧ (n : Int) ≤ 8) = true := by have := h.lo; have := h.hi; simp; omega
  simp only [e, Option.bind_some, if_true, in_spec]
  rw [wr (by omega) (by omega)]
  exact congrArg some (decide_eq_decide.2 (by omega))
/-- isPoint, at two numbers. -/
theorem isPoint_ev {n : Nat} (h : Side n) (i j : Int) : Ev (fun k => impl_isPoint.f k (n : Int) [i, j]) (decide ((0 ≤ i ∧ i < many n) ∧ (0 ≤ j ∧ j < many n))) := by
  have hb := many_le h.hi
  have e : decide ((1 : Int) ≤ n ∧ (n : Int) ≤ 8) = true := by have := h.lo; have := h.hi; simp; omega
  have one : ∀ x : Int, impl_isPoint_1.f x [(n : Int)] = some (!decide (0 ≤ x ∧ x < many n)) := by
    intro x
    unfold impl_isPoint_1.f
    rw [if_pos (by simp), rd_one, many_impl h, Option.bind_some, in_impl, wr (by omega) (by omega), Option.bind_some]
    exact congrArg some (congrArg _ (decide_eq_decide.2 (by omega)))
  refine ev_bind0 (side_impl _) ?_
  rw [e]
  refine ev_pos rfl ?_
  by_cases hi : 0 ≤ i ∧ i < many n
  · by_cases hj : 0 ≤ j ∧ j < many n
    · have z : Ev (fun k => slices_IndexFunc_int_int__impl_isPoint_1.f k [i, j] [(n : Int)]) (-1) := by
        refine Ev.step (fun f => slices_IndexFunc_int_int__impl_isPoint_1.l0.eq_2 ..) (ev_pos (by simp) (ev_pos (by decide) (ev_pos (by simp) (ev_bind0 (one _) (ev_neg (by simpa [rd] using hi) ?_)))))
        rw [w01]
        refine Ev.step (fun f => slices_IndexFunc_int_int__impl_isPoint_1.l0.eq_2 ..) (ev_pos (by simp) (ev_pos (by decide) (ev_pos (by simp) (ev_bind0 (one _) (ev_neg (by simpa [rd] using hj) ?_)))))
        rw [w12]
        exact Ev.step (fun f => slices_IndexFunc_int_int__impl_isPoint_1.l0.eq_2 ..) (ev_neg (by simp) (Ev.now _))
      refine Ev.bind (Ev.bind z (Ev.now _)) (ev_eq (Ev.now _) ?_)
      rw [decide_eq_true (⟨hi, hj⟩ : (0 ≤ i ∧ i < (many n : Int)) ∧ (0 ≤ j ∧ j < (many n : Int)))]
      decide
    · have z : Ev (fun k => slices_IndexFunc_int_int__impl_isPoint_1.f k [i, j] [(n : Int)]) 1 := by
        refine Ev.step (fun f => slices_IndexFunc_int_int__impl_isPoint_1.l0.eq_2 ..) (ev_pos (by simp) (ev_pos (by decide) (ev_pos (by simp) (ev_bind0 (one _) (ev_neg (by simpa [rd] using hi) ?_)))))
        rw [w01]
        exact Ev.step (fun f => slices_IndexFunc_int_int__impl_isPoint_1.l0.eq_2 ..) (ev_pos (by simp) (ev_pos (by decide) (ev_pos (by simp) (ev_bind0 (one _) (ev_pos (by rw [show rd [i, j] 1 = j from rfl, decide_eq_false hj]; rfl) (Ev.now _))))))
      refine Ev.bind (Ev.bind z (Ev.now _)) (ev_eq (Ev.now _) ?_)
      rw [decide_eq_false (fun z : (0 ≤ i ∧ i < (many n : Int)) ∧ (0 ≤ j ∧ j < (many n : Int)) => hj z.2)]
      decide
  · have z : Ev (fun k => slices_IndexFunc_int_int__impl_isPoint_1.f k [i, j] [(n : Int)]) 0 :=
      Ev.step (fun f => slices_IndexFunc_int_int__impl_isPoint_1.l0.eq_2 ..) (ev_pos (by simp) (ev_pos (by decide) (ev_pos (by simp) (ev_bind0 (one _) (ev_pos (by rw [show rd [i, j] 0 = i from rfl, decide_eq_false hi]; rfl) (Ev.now _))))))
    refine Ev.bind (Ev.bind z (Ev.now _)) (ev_eq (Ev.now _) ?_)
    rw [decide_eq_false (fun z : (0 ≤ i ∧ i < (many n : Int)) ∧ (0 ≤ j ∧ j < (many n : Int)) => hi z.1)]
    decide
end Go.Proofs.Ytafjjbkkcedgnab.QFnDoorsOfRooms
/-! All doors of a triangle; cells and their doors; what both programs tell of them. -/
namespace Go.Proofs.Ytafjjbkkcedgnab.QFnDoorsOfRooms
open Go.RowKit Go.Proofs.YtafjjbkkcedgnabOwn Go.Proofs.Ytafjjbkkcedgnab.PFnDoorsOfRooms Go.Proofs.YtafjjbkkcedgnabW.PrintWords Go.Proofs.YtafjjbkkcedgnabW.PrintLast Go.Proofs.YtafjjbkkcedgnabW.PrintMore
set_option linter.unusedVariables false
set_option linter.unusedSimpArgs false
set_option maxRecDepth 100000
/-- The neighbours of a point behind it. -/
def pr1 (N : Nat → Nat → Bool) (i : Nat) : Nat → Nat → List (List Int)
  | 0, _ => []
  | d + 1, j => if N i j = true then [(i : Int), (j : Int)] :: pr1 N i d (j + 1) else pr1 N i d (j + 1)
def pr0 (N : Nat → Nat → Bool) (m : Nat) : Nat → Nat → List (List Int)
  | 0, _ => []
  | d + 1, i => pr1 N i (m - (i + 1)) (i + 1) ++ pr0 N m d (i + 1)
/-- All pairs of neighbours. -/
def pairsT (n : Nat) : List (List Int) := pr0 (NB n) (many n) (many n) 0
theorem pr1_len (N : Nat → Nat → Bool) (i : Nat) : ∀ d j, (pr1 N i d j).length ≤ d
  | 0, _ => Nat.le_refl _
  | d + 1, j => by
    have := pr1_len N i d (j + 1)
    unfold pr1
    split
    · rw [List.length_cons]; omega
    · omega
section
variable {n : Nat} {L : List Int} (H : Home n L)
include H
theorem Home.house_ev : Ev (fun k => impl_houseOf.f k (n : Int) L) ((n : Int), L, cellsT n, bordT n, true) := by
  have h1 := labels_impl (n : Int) L (by have := H.lbl.len; have := H.lbl.small; omega)
  have hk : labB (n : Int) L = true := by
    unfold labB
    have hlo := H.side.lo
    have hhi := H.side.hi
    have c := of_decide_eq_true (H.side.tab cnt_tab)
    rw [decide_eq_true (show (1 : Int) ≤ (n : Int) ∧ (n : Int) ≤ 8 by omega), decide_eq_true (show (L.length : Int) = cnt (n : Int) by rw [c, H.lbl.len]), Bool.true_and, Bool.true_and]
    refine List.all_eq_true.2 fun x hx => ?_
    obtain ⟨i, hi, e⟩ := List.getElem_of_mem hx
    have := H.lbl.ok (i : Int) (by omega) (by have := H.lbl.len; omega)
    rw [rd_at hi, e] at this
    exact decide_eq_true this
  rw [hk] at h1
  exact Ev.bind h1 (ev_pos rfl (Ev.bind H.side.cellsI (Ev.bind H.side.bordI (Ev.now _))))
theorem Home.label_spec : Ev (fun k => spec_meLabels.f k (n : Int) L) true := by
  have h1 := labels_spec (n : Int) L (by have := H.lbl.len; have := H.lbl.small; omega)
  have hk : labB (n : Int) L = true := by
    unfold labB
    have hlo := H.side.lo
    have hhi := H.side.hi
    have c := of_decide_eq_true (H.side.tab cnt_tab)
    rw [decide_eq_true (show (1 : Int) ≤ (n : Int) ∧ (n : Int) ≤ 8 by omega), decide_eq_true (show (L.length : Int) = cnt (n : Int) by rw [c, H.lbl.len]), Bool.true_and, Bool.true_and]
    refine List.all_eq_true.2 fun x hx => ?_
    obtain ⟨i, hi, e⟩ := List.getElem_of_mem hx
    have := H.lbl.ok (i : Int) (by omega) (by have := H.lbl.len; omega)
    rw [rd_at hi, e] at this
    exact decide_eq_true this
  rw [hk] at h1
  exact h1
theorem doors_in (a0 : Int) (C : List (List Int)) (B : List Int) (i : Nat) (hi : i < many n) (r : List (List Int)) (R : List (List Int) × Bool)
    (c1 : Ev (fun f => impl_DoorsOf.l0 f r (ptsFn n) (ptsFn n) ((ptsFn n).length : Int) ((i : Int) + 1) a0 L C B) R) (c2 : Ev (fun f => spec_DoorsOf.l0 f (n : Int) L r (L.length : Int) ((i : Int) + 1)) R) :
    ∀ (d j : Nat) (out : List (List Int)), j + d = many n → i < j → out.length ≤ i * 100 + j → r = out ++ (pr1 (NB n) i d j).filter (dr L) →
      Ev (fun f => impl_DoorsOf.l1 f out (ptsFn n) (i : Int) (j : Int) (ptsFn n) ((ptsFn n).length : Int) (i : Int) a0 L C B (rdP (ptsFn n) i).f0 (rdP (ptsFn n) i).f1 (rdP (ptsFn n) i).f2) R ∧ Ev (fun f => spec_DoorsOf.l1 f (n : Int) L out (i : Int) (j : Int) (L.length : Int) (i : Int)) R
  | 0, j, out, hj, hij, ho, hr => by
    have hl := H.side.len
    have hL := H.lbl.len
    have hm := many_le H.side.hi
    have e : r = out := by rw [hr]; unfold pr1; simp
    subst e
    refine ⟨Ev.step (fun f => impl_DoorsOf.l1.eq_2 ..) (ev_neg (by omega) ?_), Ev.step (fun f => spec_DoorsOf.l1.eq_2 ..) (ev_neg (by omega) ?_)⟩
    · rw [wr (show -9223372036854775808 ≤ (i : Int) + 1 by omega) (by omega)]
      exact c1
    · rw [wr (show -9223372036854775808 ≤ (i : Int) + 1 by omega) (by omega)]
      exact c2
  | d + 1, j, out, hj, hij, ho, hr => by
    have hl := H.side.len
    have hL := H.lbl.len
    have hm := many_le H.side.hi
    have hjm : j < many n := by omega
    have ej : True → wrap64 ((j : Int) + 1) = ((j + 1 : Nat) : Int) := fun _ => by rw [wr (by omega) (by omega)]; omega
    have near := H.side.near hi hjm
    have meNear := H.side.meNear hi hjm
    have dI := isDoor_eq H.lbl a0 C B (i := (i : Int)) (j := (j : Int)) ⟨by omega, by omega⟩ ⟨by omega, by omega⟩
    have dS := doDoor_eq H.lbl (i := (i : Int)) (j := (j : Int)) ⟨by omega, by omega⟩ ⟨by omega, by omega⟩
    have go : ∀ out' : List (List Int), out'.length ≤ i * 100 + (j + 1) → r = out' ++ (pr1 (NB n) i d (j + 1)).filter (dr L) →
        Ev (fun f => impl_DoorsOf.l1 f out' (ptsFn n) (i : Int) (wrap64 ((j : Int) + 1)) (ptsFn n) ((ptsFn n).length : Int) (i : Int) a0 L C B (rdP (ptsFn n) i).f0 (rdP (ptsFn n) i).f1 (rdP (ptsFn n) i).f2) R ∧ Ev (fun f => spec_DoorsOf.l1 f (n : Int) L out' (i : Int) (wrap64 ((j : Int) + 1)) (L.length : Int) (i : Int)) R := fun out' h1 h2 => by
      rw [ej trivial]
      exact doors_in a0 C B i hi r R c1 c2 d (j + 1) out' (by omega) (by omega) h1 h2
    unfold pr1 at hr
    cases hN : NB n i j with
    | false =>
      rw [hN] at near meNear
      rw [hN, if_neg (by decide)] at hr
      obtain ⟨g1, g2⟩ := go out (by omega) hr
      exact ⟨Ev.step (fun f => impl_DoorsOf.l1.eq_2 ..) (ev_pos (by omega) (ev_pos (by omega) (Ev.bind near (ev_neg Bool.false_ne_true g1)))), Ev.step (fun f => spec_DoorsOf.l1.eq_2 ..) (ev_pos (by omega) (Ev.bind meNear (ev_neg (by decide) g2)))⟩
    | true =>
      rw [hN] at near meNear
      rw [hN, if_pos rfl, List.filter_cons] at hr
      cases hd : dr L [(i : Int), (j : Int)] with
      | false =>
        rw [hd] at dI dS
        rw [hd, if_neg (by decide)] at hr
        obtain ⟨g1, g2⟩ := go out (by omega) hr
        exact ⟨Ev.step (fun f => impl_DoorsOf.l1.eq_2 ..) (ev_pos (by omega) (ev_pos (by omega) (Ev.bind near (ev_pos rfl (ev_bind0 dI (ev_neg (by decide) g1)))))), Ev.step (fun f => spec_DoorsOf.l1.eq_2 ..) (ev_pos (by omega) (Ev.bind meNear (ev_pos rfl (ev_bind0 dS (ev_neg (by decide) g2)))))⟩
      | true =>
        rw [hd] at dI dS
        rw [hd, if_pos rfl] at hr
        obtain ⟨g1, g2⟩ := go (out ++ [[(i : Int), (j : Int)]]) (by rw [List.length_append, List.length_singleton]; omega) (by rw [hr, List.append_assoc]; rfl)
        exact ⟨Ev.step (fun f => impl_DoorsOf.l1.eq_2 ..) (ev_pos (by omega) (ev_pos (by omega) (Ev.bind near (ev_pos rfl (ev_bind0 dI (ev_pos rfl (ev_pos (by omega) g1))))))), Ev.step (fun f => spec_DoorsOf.l1.eq_2 ..) (ev_pos (by omega) (Ev.bind meNear (ev_pos rfl (ev_bind0 dS (ev_pos rfl (ev_pos (by omega) g2))))))⟩
theorem doors_out (a0 : Int) (C : List (List Int)) (B : List Int) : ∀ (d i : Nat) (out : List (List Int)), i + d = many n → out.length ≤ i * 100 →
      Ev (fun f => impl_DoorsOf.l0 f out (ptsFn n) (ptsFn n) ((ptsFn n).length : Int) (i : Int) a0 L C B) (out ++ (pr0 (NB n) (many n) d i).filter (dr L), true) ∧ Ev (fun f => spec_DoorsOf.l0 f (n : Int) L out (L.length : Int) (i : Int)) (out ++ (pr0 (NB n) (many n) d i).filter (dr L), true)
  | 0, i, out, hi, ho => by
    have hl := H.side.len
    have hL := H.lbl.len
    have hm := many_le H.side.hi
    exact ⟨Ev.step (fun f => impl_DoorsOf.l0.eq_2 ..) (ev_neg (by omega) (ev_eq (Ev.now _) (by unfold pr0; simp))), Ev.step (fun f => spec_DoorsOf.l0.eq_2 ..) (ev_neg (by omega) (ev_eq (Ev.now _) (by unfold pr0; simp)))⟩
  | d + 1, i, out, hi, ho => by
    have hl := H.side.len
    have hL := H.lbl.len
    have hm := many_le H.side.hi
    have ei : True → wrap64 ((i : Int) + 1) = ((i + 1 : Nat) : Int) := fun _ => by rw [wr (by omega) (by omega)]; omega
    have h1 := pr1_len (NB n) i (many n - (i + 1)) (i + 1)
    have hf := List.length_filter_le (dr L) (pr1 (NB n) i (many n - (i + 1)) (i + 1))
    obtain ⟨c1, c2⟩ := doors_out a0 C B d (i + 1) (out ++ (pr1 (NB n) i (many n - (i + 1)) (i + 1)).filter (dr L)) (by omega) (by rw [List.length_append]; omega)
    rw [show (((i + 1 : Nat)) : Int) = (i : Int) + 1 by omega] at c1 c2
    obtain ⟨g1, g2⟩ := doors_in H a0 C B i (by omega) _ _ c1 c2 (many n - (i + 1)) (i + 1) out (by omega) (by omega) (by omega) rfl
    have e : out ++ (pr1 (NB n) i (many n - (i + 1)) (i + 1)).filter (dr L) ++ (pr0 (NB n) (many n) d (i + 1)).filter (dr L) = out ++ (pr0 (NB n) (many n) (d + 1) i).filter (dr L) := by
      rw [List.append_assoc, ← List.filter_append]; rfl
    rw [e] at g1 g2
    refine ⟨Ev.step (fun f => impl_DoorsOf.l0.eq_2 ..) (ev_pos (by omega) (ev_pos (by omega) (ev_pos (by omega) ?_))), Ev.step (fun f => spec_DoorsOf.l0.eq_2 ..) (ev_pos (by omega) ?_)⟩
    · rw [ei trivial]; exact g1
    · rw [ei trivial]; exact g2
/-- All doors. -/
theorem Home.doors_ev : Ev (fun f => impl_DoorsOf.f f (n : Int) L) ((pairsT n).filter (dr L), true) ∧ Ev (fun f => spec_DoorsOf.f f (n : Int) L) ((pairsT n).filter (dr L), true) := by
  obtain ⟨g1, g2⟩ := doors_out H (n : Int) (cellsT n) (bordT n) (many n) 0 [] (Nat.zero_add _) (by simp)
  exact ⟨Ev.bind H.house_ev (ev_pos rfl (Ev.bind H.side.points g1)), Ev.bind H.label_spec (ev_pos rfl g2)⟩
theorem Home.cellIn (c : Int) : impl_isCell.f (n : Int) c = some (decide (inC (n * n) c)) ∧ Ev (fun f => spec_doCell.f f (n : Int) L c) (decide (inC (n * n) c)) := by
  have hn := H.nn
  have hlo := H.side.lo
  have hhi := H.side.hi
  have e : wrap64 ((n : Int) * (n : Int)) = ((n * n : Nat) : Int) := by rw [wr (by rw [← Int.natCast_mul]; omega) (by rw [← Int.natCast_mul]; omega), Int.natCast_mul]
  have e2 : decide (0 ≤ c ∧ c ≤ wrap64 (((n * n : Nat) : Int) - 1)) = decide (inC (n * n) c) := by
    rw [wr (by omega) (by omega)]
    exact decide_eq_decide.2 (by unfold inC; omega)
  constructor
  · unfold impl_isCell.f
    rw [side_impl, Option.bind_some, if_pos (decide_eq_true (by omega)), in_impl, Option.bind_some, e, e2]
  · refine Ev.bind H.label_spec (ev_pos rfl (ev_bind0 (in_spec _ _ _) ?_))
    rw [e, e2]
    exact Ev.now _
theorem Home.cdoors_ev {c : Int} (hc : inC (n * n) c) : Ev (fun f => impl_DoorsOfCell.f f (n : Int) L c) (doorsL L (cl n c), true) ∧ Ev (fun f => spec_DoorsOfCell.f f (n : Int) L c) (doorsL L (cl n c), true) := by
  obtain ⟨h1, h2⟩ := H.cellIn c
  rw [decide_eq_true hc] at h1 h2
  have hr := H.range hc
  exact ⟨Ev.bind H.house_ev (ev_pos rfl (ev_bind0 h1 (ev_pos rfl (Ev.bind (idoors_ev H.lbl (n : Int) (cellsT n) (bordT n) hr.1 hr.2 (H.tri hc)) (Ev.now _))))),
    Ev.bind h2 (ev_pos rfl (Ev.bind H.side.cellsS (ev_pos hr.1 (ev_pos hr.2 (Ev.bind (sdoors_ev H.lbl (H.tri hc)) (Ev.now _))))))⟩
theorem Home.cfull_ev {c : Int} (hc : inC (n * n) c) : Ev (fun f => impl_IsFull.f f (n : Int) L c) (fullL L (cl n c), true) ∧ Ev (fun f => spec_IsFull.f f (n : Int) L c) (fullL L (cl n c), true) := by
  obtain ⟨h1, h2⟩ := H.cellIn c
  rw [decide_eq_true hc] at h1 h2
  have hr := H.range hc
  exact ⟨Ev.bind H.house_ev (ev_pos rfl (ev_bind0 h1 (ev_pos rfl (ev_bind0 (isFull_eq H.lbl (n : Int) (cellsT n) (bordT n) hr.1 hr.2 (H.tri hc)) (Ev.now _))))),
    Ev.bind h2 (ev_pos rfl (Ev.bind H.side.cellsS (ev_pos hr.1 (ev_pos hr.2 (Ev.bind (doFull_ev H.lbl (H.tri hc)) (Ev.now _))))))⟩
theorem Home.bdoors_ev : Ev (fun f => impl_BorderDoors.f f (n : Int) L) (gates n L, true) ∧ Ev (fun f => spec_BorderDoors.f f (n : Int) L) (gates n L, true) :=
  ⟨Ev.bind H.house_ev (ev_pos rfl (Ev.bind (H.entries_ev (n : Int) (cellsT n)) (Ev.now _))), Ev.bind H.label_spec (ev_pos rfl (Ev.bind H.border_ev (Ev.now _)))⟩
/-- Two points: are they neighbours, and a door? -/
theorem Home.isDoor_ev (i j : Int) : ∃ p : Bool × Bool, Ev (fun f => impl_IsDoor.f f (n : Int) L i j) p ∧ Ev (fun f => spec_IsDoor.f f (n : Int) L i j) p ∧ (0 ≤ i → i < (many n : Int) → 0 ≤ j → j < (many n : Int) → NB n i.toNat j.toNat = true → p = (dr L [i, j], true)) := by
  have hp := isPoint_ev H.side i j
  have p1 := point_spec H.side i
  have p2 := point_spec H.side j
  have hm := many_le H.side.hi
  have hl := H.side.len
  have badI : Ev (fun f => impl_IsDoor.j0 f (n : Int) i j true (n : Int) L (cellsT n) (bordT n)) (false, false) := Ev.step (fun f => impl_IsDoor.j0.eq_2 ..) (ev_pos rfl (Ev.now _))
  have lab := H.label_spec
  by_cases hi : 0 ≤ i ∧ i < (many n : Int)
  · rw [decide_eq_true hi] at p1
    by_cases hj : 0 ≤ j ∧ j < (many n : Int)
    · rw [decide_eq_true hj] at p2
      rw [decide_eq_true ⟨hi, hj⟩] at hp
      obtain ⟨i', ei⟩ := Int.eq_ofNat_of_zero_le hi.1
      obtain ⟨j', ej⟩ := Int.eq_ofNat_of_zero_le hj.1
      subst ei ej
      have near := H.side.near (i := i') (j := j') (by omega) (by omega)
      have meNear := H.side.meNear (i := i') (j := j') (by omega) (by omega)
      have dI := isDoor_eq H.lbl (n : Int) (cellsT n) (bordT n) (i := (i' : Int)) (j := (j' : Int)) hi hj
      have dS := doDoor_eq H.lbl (i := (i' : Int)) (j := (j' : Int)) hi hj
      cases hN : NB n i' j' with
      | true =>
        rw [hN] at near meNear
        refine ⟨(dr L [(i' : Int), (j' : Int)], true), Ev.bind H.house_ev (ev_pos rfl (Ev.bind hp (Ev.step (fun f => impl_IsDoor.j0.eq_2 ..) (ev_neg Bool.false_ne_true (Ev.bind H.side.points (ev_pos hi.1 (ev_pos (by omega) (ev_pos hj.1 (ev_pos (by omega) (Ev.bind near (ev_pos rfl (ev_bind0 dI (Ev.now _))))))))))))), ?_, fun _ _ _ _ _ => rfl⟩
        exact Ev.bind (Ev.bind lab (ev_pos rfl (ev_bind0 p1 (ev_pos rfl (ev_bind0 p2 (ev_pos rfl (Ev.bind meNear (Ev.now _)))))))) (ev_pos rfl (ev_bind0 dS (Ev.now _)))
      | false =>
        rw [hN] at near meNear
        refine ⟨(false, false), Ev.bind H.house_ev (ev_pos rfl (Ev.bind hp (Ev.step (fun f => impl_IsDoor.j0.eq_2 ..) (ev_neg Bool.false_ne_true (Ev.bind H.side.points (ev_pos hi.1 (ev_pos (by omega) (ev_pos hj.1 (ev_pos (by omega) (Ev.bind near (ev_neg Bool.false_ne_true (Ev.now _)))))))))))), ?_, fun _ _ _ _ h => ?_⟩
        · exact Ev.bind (Ev.bind lab (ev_pos rfl (ev_bind0 p1 (ev_pos rfl (ev_bind0 p2 (ev_pos rfl (Ev.bind meNear (Ev.now _)))))))) (ev_neg (by decide) (Ev.now _))
        · rw [Int.toNat_natCast, Int.toNat_natCast, hN] at h; cases h
    · rw [decide_eq_false hj] at p2
      rw [decide_eq_false (fun z : (0 ≤ i ∧ i < (many n : Int)) ∧ (0 ≤ j ∧ j < (many n : Int)) => hj z.2)] at hp
      exact ⟨(false, false), Ev.bind H.house_ev (ev_pos rfl (Ev.bind hp badI)), Ev.bind (Ev.bind lab (ev_pos rfl (ev_bind0 p1 (ev_pos rfl (ev_bind0 p2 (ev_neg (by decide) (Ev.now _))))))) (ev_neg (by decide) (Ev.now _)), fun _ _ h1 h2 _ => absurd ⟨h1, h2⟩ hj⟩
  · rw [decide_eq_false hi] at p1
    rw [decide_eq_false (fun z : (0 ≤ i ∧ i < (many n : Int)) ∧ (0 ≤ j ∧ j < (many n : Int)) => hi z.1)] at hp
    exact ⟨(false, false), Ev.bind H.house_ev (ev_pos rfl (Ev.bind hp badI)), Ev.bind (Ev.bind lab (ev_pos rfl (ev_bind0 p1 (ev_neg (by decide) (Ev.now _))))) (ev_neg (by decide) (Ev.now _)), fun h1 h2 _ _ _ => absurd ⟨h1, h2⟩ hi⟩
end
/-- Each edge of a cell joins neighbours; edges of cells and those of the border are all pairs of neighbours, twice. -/
theorem edge_tab : ((List.range 9).all fun n => n == 0 || (((cellsT n).flatMap edges).all fun e => NB n (rd e 0).toNat (rd e 1).toNat) && (((cellsT n).flatMap edges) ++ (stepsT (bordT n)).map inner).isPerm (pairsT n ++ pairsT n)) = true := by decide +kernel
theorem fullDoor {L c : List Int} {m : Nat} (hL : Lbl L m) (hc : Tri c m) : (fullL L c = ((((doorsL L c).length : Nat) : Int) == 1)) ∧ (doorsL L c).length ≤ 2 := by
  have g1 := hc.lo
  have g2 := hc.ab
  have g3 := hc.bc
  have g4 := hc.hi
  have r0 := hL.ok (rd c 0) (by omega) (by omega)
  have r1 := hL.ok (rd c 1) (by omega) (by omega)
  have r2 := hL.ok (rd c 2) (by omega) (by omega)
  unfold doorsL edges fullL
  have e : ∀ x y : Int, dr L [x, y] = decide (rd L x + rd L y = 1) := fun x y => rfl
  simp only [List.filter_cons, List.filter_nil, e]
  generalize rd L (rd c 0) = a at *
  generalize rd L (rd c 1) = b at *
  generalize rd L (rd c 2) = d at *
  have h1 : a = 0 ∨ a = 1 ∨ a = 2 := by omega
  have h2 : b = 0 ∨ b = 1 ∨ b = 2 := by omega
  have h3 : d = 0 ∨ d = 1 ∨ d = 2 := by omega
  clear g1 g2 g3 g4 r0 r1 r2 e
  rcases h1 with rfl | rfl | rfl <;> rcases h2 with rfl | rfl | rfl <;> rcases h3 with rfl | rfl | rfl <;> simp
/-- Each door inside is one of two rooms, each of the border of one. -/
theorem Home.count {n : Nat} {L : List Int} (H : Home n L) : (((cellsT n).map fun c => (doorsL L c).length).sum) + (gates n L).length = 2 * ((pairsT n).filter (dr L)).length := by
  have hp := List.isPerm_iff.1 (Bool.and_eq_true_iff.1 (H.side.tab edge_tab)).2
  have h1 := hp.countP_eq (dr L)
  rw [List.countP_append, List.countP_append, List.countP_flatMap, List.countP_map] at h1
  have e1 : (dr L ∘ inner) = dr L := funext fun s => dr_inner L s
  rw [e1] at h1
  unfold gates
  rw [← List.countP_eq_length_filter, ← List.countP_eq_length_filter]
  have e2 : (fun c => (doorsL L c).length) = (List.countP (dr L) ∘ edges) := funext fun c => by unfold doorsL; rw [← List.countP_eq_length_filter]; rfl
  rw [e2]
  omega
end Go.Proofs.Ytafjjbkkcedgnab.QFnDoorsOfRooms
/-! Sides and labels as they are drawn. -/
namespace Go.Proofs.Ytafjjbkkcedgnab.QFnDoorsOfRooms
open Go.RowKit Go.Proofs.YtafjjbkkcedgnabOwn Go.Proofs.Ytafjjbkkcedgnab.PFnDoorsOfRooms Go.Proofs.YtafjjbkkcedgnabW.PrintWords Go.Proofs.YtafjjbkkcedgnabW.PrintLast Go.Proofs.YtafjjbkkcedgnabW.PrintMore
set_option linter.unusedVariables false
set_option linter.unusedSimpArgs false
set_option linter.unusedSectionVars false
set_option maxRecDepth 100000
theorem side_ev {l : List Int} (h : U8 l) {a : Int} (s m : Int) (h0 : 0 ≤ a) (h1 : a ≤ 4611686018427380000) : ∃ v a' s', spec_l1Cur_side.f l a s m = some (v, a', s') ∧ a ≤ a' ∧ a' ≤ a + 4 := by
  unfold spec_l1Cur_side.f
  obtain ⟨b, a1, s1, e1, b1, c1⟩ := one_ev h s 12 h0 (by omega)
  rw [e1, Option.bind_some]
  dsimp only
  cases b with
  | true =>
    obtain ⟨v, a2, s2, e2, _, b2, c2⟩ := among_ev h s1 [-1, 0, 8, 9] (by decide) (show 0 ≤ a1 by omega) (by omega)
    rw [if_pos rfl, e2, Option.bind_some]
    exact ⟨_, _, _, rfl, by dsimp only; omega, by dsimp only; omega⟩
  | false =>
    obtain ⟨v, a2, s2, e2, _, _, b2, c2⟩ := pick_ev h s1 m (show 0 ≤ a1 by omega) (by omega)
    rw [if_neg (by decide), e2, Option.bind_some]
    exact ⟨_, _, _, rfl, by dsimp only; omega, by dsimp only; omega⟩
theorem pts_sum : ((List.range 9).all fun n => (ptsFn n).all fun p => decide (p.f0 + p.f1 + p.f2 = (n : Int))) = true := by decide +kernel
theorem Side.sum {n : Nat} (h : Side n) {i : Nat} (hi : i < many n) : (rdP (ptsFn n) i).f0 + (rdP (ptsFn n) i).f1 + (rdP (ptsFn n) i).f2 = (n : Int) := by
  have a := List.all_eq_true.1 pts_sum n (List.mem_range.2 (by have := h.hi; omega))
  have hl : i < (ptsFn n).length := by rw [h.len]; exact hi
  have e : rdP (ptsFn n) (i : Int) = (ptsFn n)[i] := by
    show (ptsFn n).getD ((i : Int)).toNat _ = _
    rw [Int.toNat_natCast, List.getD_eq_getElem?_getD, List.getElem?_eq_getElem hl]; rfl
  rw [e]
  exact of_decide_eq_true (List.all_eq_true.1 a _ (List.getElem_mem hl))
section
variable {l : List Int} (h : U8 l) {n : Nat} (hS : Side n)
include h hS
theorem free_loop (out : List Int) (i : Nat) (P : List Int × Int × Int → Prop) (X : List Int) (hX : X.length = 3) (hout : out.length ≤ 1000) (A : Int) (hA : A ≤ 4611686018427380000) (cont : ∀ (v a' s' : Int), 0 ≤ a' → a' ≤ A + 2 → ∃ r, Ev (fun f => spec_l1Cur_sureLabels.l0 f (n : Int) (out ++ [v]) (wrap64 ((i : Int) + 1)) l a' s') r ∧ P r) :
    ∀ (d j : Nat) (free : List Int) (a s : Int), j + d = 3 → free.length ≤ j → 0 ≤ a → a ≤ A → (free ≠ [] ∨ ∃ q : Nat, j ≤ q ∧ q < 3 ∧ 0 < rd X (q : Int)) → ∃ r, Ev (fun f => spec_l1Cur_sureLabels.l1 f (n : Int) out (i : Int) free X (X.length : Int) (j : Int) l a s) r ∧ P r
  | 0, j, free, a, s, hj, hf, a0, a1, hx => by
    have hne : free ≠ [] := by
      rcases hx with e | ⟨q, q1, q2, _⟩
      · exact e
      · omega
    have hpos : 0 < free.length := List.length_pos_iff.2 hne
    obtain ⟨v, a2, s2, e2, v0, v1, b2, c2⟩ := pick_ev h s (free.length : Int) a0 (by omega)
    obtain ⟨r, hr, hP⟩ := cont (rd free v) a2 s2 (by omega) (by omega)
    exact ⟨r, Ev.step (fun f => spec_l1Cur_sureLabels.l1.eq_2 ..) (ev_neg (by omega) (ev_bind0 e2 (ev_pos v0 (ev_pos (show v < (free.length : Int) by omega) (ev_pos (by omega) hr))))), hP⟩
  | d + 1, j, free, a, s, hj, hf, a0, a1, hx => by
    have ej : True → wrap64 ((j : Int) + 1) = ((j + 1 : Nat) : Int) := fun _ => by rw [wr (by omega) (by omega)]; omega
    by_cases hp : rd X (j : Int) > 0
    · obtain ⟨r, hr, hP⟩ := free_loop out i P X hX hout A hA cont d (j + 1) (free ++ [(j : Int)]) a s (by omega) (by rw [List.length_append, List.length_singleton]; omega) a0 a1 (.inl (by simp))
      refine ⟨r, Ev.step (fun f => spec_l1Cur_sureLabels.l1.eq_2 ..) (ev_pos (by omega) (ev_pos (by omega) (ev_pos (by omega) (ev_pos hp (ev_pos (by omega) ?_))))), hP⟩
      rw [ej trivial]
      exact hr
    · obtain ⟨r, hr, hP⟩ := free_loop out i P X hX hout A hA cont d (j + 1) free a s (by omega) (by omega) a0 a1 (by
        rcases hx with e | ⟨q, q1, q2, q3⟩
        · exact .inl e
        · rcases Nat.eq_or_lt_of_le q1 with e | e
          · subst e; exact absurd q3 hp
          · exact .inr ⟨q, e, q2, q3⟩)
      refine ⟨r, Ev.step (fun f => spec_l1Cur_sureLabels.l1.eq_2 ..) (ev_pos (by omega) (ev_pos (by omega) (ev_pos (by omega) (ev_neg hp ?_)))), hP⟩
      rw [ej trivial]
      exact hr
theorem sureL_loop : ∀ (d i : Nat) (out : List Int) (a s : Int), i + d = many n → out.length = i → 0 ≤ a → a + 4 * (d : Int) ≤ 4611686018427380000 → ∃ r, Ev (fun f => spec_l1Cur_sureLabels.l0 f (n : Int) out (i : Int) l a s) r ∧ (r.1.length = many n ∧ 0 ≤ r.2.1 ∧ r.2.1 ≤ a + 4 * (d : Int))
  | 0, i, out, a, s, hi, ho, a0, a1 => ⟨(out, a, s), Ev.step (fun f => spec_l1Cur_sureLabels.l0.eq_2 ..) (ev_bind0 (count_ev hS rfl) (ev_neg (by omega) (Ev.now _))), by dsimp only; omega, a0, by dsimp only; omega⟩
  | d + 1, i, out, a, s, hi, ho, a0, a1 => by
    have hm := many_le hS.hi
    have hat := hS.at_ (i := i) (by omega)
    have hin := hS.inside (i := i) (by omega)
    have hsum := hS.sum (i := i) (by omega)
    have hlo := hS.lo
    obtain ⟨r, hr, h1, h2, h3⟩ := free_loop h hS out i (fun r => r.1.length = many n ∧ 0 ≤ r.2.1 ∧ r.2.1 ≤ a + 4 * ((d + 1 : Nat) : Int)) [(rdP (ptsFn n) i).f0, (rdP (ptsFn n) i).f1, (rdP (ptsFn n) i).f2] rfl (by omega) a (by omega) (fun v a' s' a2 a3 => by
      obtain ⟨r, hr, g1, g2, g3⟩ := sureL_loop d (i + 1) (out ++ [v]) a' s' (by omega) (by rw [List.length_append, List.length_singleton]; omega) a2 (by omega)
      refine ⟨r, ?_, g1, g2, by omega⟩
      rw [wr (by omega) (by omega)]
      exact hr) 3 0 [] a s rfl (by simp) a0 (by omega) (.inr (by
        by_cases p0 : 0 < (rdP (ptsFn n) i).f0
        · exact ⟨0, by omega, by omega, p0⟩
        · by_cases p1 : 0 < (rdP (ptsFn n) i).f1
          · exact ⟨1, by omega, by omega, p1⟩
          · exact ⟨2, by omega, by omega, show 0 < (rdP (ptsFn n) i).f2 by omega⟩))
    exact ⟨r, Ev.step (fun f => spec_l1Cur_sureLabels.l0.eq_2 ..) (ev_bind0 (count_ev hS rfl) (ev_pos (by omega) (Ev.bind hat hr))), h1, h2, h3⟩
end
theorem lab_loop {l : List Int} (h : U8 l) (n : Int) : ∀ (d i : Nat) (L : List Int) (a s : Int), i + d = L.length → L.length ≤ 1000 → 0 ≤ a → a + 2 * (d : Int) ≤ 4611686018427387000 → ∃ r : Int × List Int × Int × Int, Ev (fun f => spec_l1Cur_labels.l0 f n L (L.length : Int) (i : Int) l a s) r ∧ r.1 = n ∧ r.2.1.length = L.length ∧ 0 ≤ r.2.2.1 ∧ r.2.2.1 ≤ a + 2 * (d : Int)
  | 0, i, L, a, s, hi, hL, h0, h1 => ⟨(n, L, a, s), Ev.step (fun f => spec_l1Cur_labels.l0.eq_2 ..) (ev_neg (by omega) (Ev.now _)), rfl, rfl, h0, by dsimp only; omega⟩
  | d + 1, i, L, a, s, hi, hL, h0, h1 => by
    obtain ⟨v, a1, s1, e1, _, _, b1, c1⟩ := pick_ev h s 3 h0 (by omega)
    obtain ⟨r, hr, g0, g1, g2, g3⟩ := lab_loop h n d (i + 1) (L.set i v) a1 s1 (by rw [List.length_set]; omega) (by rw [List.length_set]; omega) (by omega) (by omega)
    rw [List.length_set] at hr g1
    refine ⟨r, Ev.step (fun f => spec_l1Cur_labels.l0.eq_2 ..) (ev_pos (by omega) (ev_bind0 e1 (ev_pos (by omega) (ev_pos (by omega) ?_)))), g0, g1, g2, by omega⟩
    rw [wr (show -9223372036854775808 ≤ (i : Int) + 1 by omega) (by omega), Int.toNat_natCast]
    exact hr
theorem labels_ev {l : List Int} (h : U8 l) (m : Int) : ∃ r : Int × List Int × Int × Int, Ev (fun f => spec_l1Cur_labels.f f l 0 0 m) r ∧ r.2.1.length ≤ 100 ∧ 0 ≤ r.2.2.1 ∧ r.2.2.1 ≤ 1000 := by
  obtain ⟨n, a1, s1, e1, b1, c1⟩ := side_ev h 0 m (Int.le_refl 0) (by decide)
  by_cases hs : 1 ≤ n ∧ n ≤ 8
  · obtain ⟨n', en⟩ := Int.eq_ofNat_of_zero_le (show 0 ≤ n by omega)
    subst en
    have hS : Side n' := ⟨by omega, by omega⟩
    have hm := many_le hS.hi
    have hm3 : 3 ≤ many n' := by
      have hlo := hS.lo
      unfold many
      have : 2 * 3 ≤ (n' + 1) * (n' + 2) := Nat.mul_le_mul (by omega) (by omega)
      omega
    obtain ⟨⟨L, a2, s2⟩, hL, g1, g2, g3⟩ := sureL_loop h hS (many n') 0 [] a1 s1 (Nat.zero_add _) rfl b1 (by omega)
    dsimp only at g1 g2 g3
    obtain ⟨v, a3, s3, e3, v0, v1, b3, c3⟩ := pick_ev h s2 10 g2 (by omega)
    have hr : ∀ r : Int × List Int × Int × Int, Ev (fun f => if v = 0 then ((spec_l1Cur_pick.f l a3 s3 (L.length : Int)).bind fun bt166 => ((spec_l1Cur_pick.f l bt166.2.1 bt166.2.2 3).bind fun bt169 => (if 0 ≤ bt166.1 then (if bt166.1 < (L.length : Int) then (some ((n' : Int), (L.set (bt166.1 : Int).toNat bt169.1), bt169.2.1, bt169.2.2)) else (none)) else (none)))) else (if v = 1 then ((spec_l1Cur_pick.f l a3 s3 (L.length : Int)).bind fun bt173 => ((spec_l1Cur_among.f l bt173.2.1 bt173.2.2 (([(-1), 3, 4611686018427387904] : List Int))).bind fun bt179 => (if 0 ≤ bt173.1 then (if bt173.1 < (L.length : Int) then (some ((n' : Int), (L.set (bt173.1 : Int).toNat bt179.1), bt179.2.1, bt179.2.2)) else (none)) else (none)))) else (if v = 2 then (spec_l1Cur_labels.l0 f (n' : Int) L (L.length : Int) 0 l a3 s3) else (if v = 3 then (if L.length < 17592186044416 then (some ((n' : Int), (L ++ [0]), a3, s3)) else (none)) else (some ((n' : Int), L, a3, s3)))))) r → Ev (fun f => spec_l1Cur_labels.f f l 0 0 m) r := fun r hr =>
      ev_bind0 e1 (ev_bind0 (side_spec _) (ev_pos (decide_eq_true hs) (Ev.bind (g := fun f => spec_l1Cur_sureLabels.f f l a1 s1 (n' : Int)) hL (ev_bind0 e3 hr))))
    by_cases h0 : v = 0
    · obtain ⟨v4, a4, s4, e4, w0, w1, b4, c4⟩ := pick_ev h s3 (L.length : Int) (show 0 ≤ a3 by omega) (by omega)
      obtain ⟨v5, a5, s5, e5, _, _, b5, c5⟩ := pick_ev h s4 3 (show 0 ≤ a4 by omega) (by omega)
      exact ⟨_, hr _ (ev_pos h0 (ev_bind0 e4 (ev_bind0 e5 (ev_pos w0 (ev_pos (show v4 < (L.length : Int) by omega) (Ev.now _)))))), by dsimp only; rw [List.length_set]; omega, by dsimp only; omega, by dsimp only; omega⟩
    · by_cases h1 : v = 1
      · obtain ⟨v4, a4, s4, e4, w0, w1, b4, c4⟩ := pick_ev h s3 (L.length : Int) (show 0 ≤ a3 by omega) (by omega)
        obtain ⟨v5, a5, s5, e5, _, b5, c5⟩ := among_ev h s4 [-1, 3, 4611686018427387904] (by decide) (show 0 ≤ a4 by omega) (by omega)
        exact ⟨_, hr _ (ev_neg h0 (ev_pos h1 (ev_bind0 e4 (ev_bind0 e5 (ev_pos w0 (ev_pos (show v4 < (L.length : Int) by omega) (Ev.now _))))))), by dsimp only; rw [List.length_set]; omega, by dsimp only; omega, by dsimp only; omega⟩
      · by_cases h2 : v = 2
        · obtain ⟨r, hr2, k0, k1, k2, k3⟩ := lab_loop h (n' : Int) L.length 0 L a3 s3 (Nat.zero_add _) (by omega) (by omega) (by omega)
          exact ⟨r, hr _ (ev_neg h0 (ev_neg h1 (ev_pos h2 hr2))), by omega, k2, by omega⟩
        · by_cases h3 : v = 3
          · exact ⟨_, hr _ (ev_neg h0 (ev_neg h1 (ev_neg h2 (ev_pos h3 (ev_pos (by omega) (Ev.now _)))))), by dsimp only; rw [List.length_append, List.length_singleton]; omega, by dsimp only; omega, by dsimp only; omega⟩
          · exact ⟨_, hr _ (ev_neg h0 (ev_neg h1 (ev_neg h2 (ev_neg h3 (Ev.now _))))), by dsimp only; omega, by dsimp only; omega, by dsimp only; omega⟩
  · exact ⟨_, ev_bind0 e1 (ev_bind0 (side_spec _) (ev_neg (by rw [decide_eq_false hs]; decide) (Ev.now _))), by simp, by dsimp only; omega, by dsimp only; omega⟩
theorem any_loop {l : List Int} (h : U8 l) (n : Int) : ∀ (d : Nat) (L : List Int) (a s : Int), 0 < L.length → L.length ≤ 1000 → 0 ≤ a → a + 4 * (d : Int) ≤ 4611686018427380000 → d ≤ 100 → ∃ r : Int × List Int × Int × Int, Ev (fun f => spec_l1Cur_anyLabels.l0 f n L (d : Int) l a s) r ∧ r.1 = n ∧ r.2.1.length = L.length ∧ 0 ≤ r.2.2.1 ∧ r.2.2.1 ≤ a + 4 * (d : Int)
  | 0, L, a, s, hL0, hL, h0, h1, hd => ⟨(n, L, a, s), Ev.step (fun f => spec_l1Cur_anyLabels.l0.eq_2 ..) (ev_neg (by omega) (Ev.now _)), rfl, rfl, h0, by dsimp only; omega⟩
  | d + 1, L, a, s, hL0, hL, h0, h1, hd => by
    obtain ⟨v, a1, s1, e1, v0, v1, b1, c1⟩ := pick_ev h s (L.length : Int) h0 (by omega)
    obtain ⟨v2, a2, s2, e2, _, _, b2, c2⟩ := pick_ev h s1 3 (show 0 ≤ a1 by omega) (by omega)
    obtain ⟨r, hr, g0, g1, g2, g3⟩ := any_loop h n d (L.set (v : Int).toNat v2) a2 s2 (by rw [List.length_set]; omega) (by rw [List.length_set]; omega) (by omega) (by omega) (by omega)
    rw [List.length_set] at g1
    refine ⟨r, Ev.step (fun f => spec_l1Cur_anyLabels.l0.eq_2 ..) (ev_pos (by omega) (ev_bind0 e1 (ev_bind0 e2 (ev_pos v0 (ev_pos (show v < (L.length : Int) by omega) ?_))))), g0, g1, g2, by omega⟩
    rw [wr (by omega) (by omega), show ((d + 1 : Nat) : Int) - 1 = (d : Int) by omega]
    exact hr
theorem labB_pos {a : Int} {L : List Int} (hk : labB a L = true) : 0 < L.length := by
  obtain ⟨n, e, H⟩ := home_of hk
  have h1 := H.lbl.len
  have hlo := H.side.lo
  have : 2 * 3 ≤ (n + 1) * (n + 2) := Nat.mul_le_mul (by omega) (by omega)
  have : 3 ≤ many n := by unfold many; omega
  omega
/-- A side and labels, whatever they are. -/
theorem anyL_ev {l : List Int} (h : U8 l) (m : Int) : ∃ r : Int × List Int × Int × Int, Ev (fun f => spec_l1Cur_anyLabels.f f l 0 0 m) r ∧ r.2.1.length ≤ 100 ∧ 0 ≤ r.2.2.1 ∧ r.2.2.1 ≤ 2000 := by
  obtain ⟨⟨n, L, a, s⟩, hL, g1, g2, g3⟩ := labels_ev h m
  dsimp only at g1 g2 g3
  have hk := labels_spec n L (by omega)
  have skip : Ev (fun f => spec_l1Cur_anyLabels.j0 f n L false l a s) (n, L, a, s) := Ev.step (fun f => spec_l1Cur_anyLabels.j0.eq_2 ..) (ev_neg (by decide) (Ev.now _))
  cases hb : labB n L with
  | false =>
    rw [hb] at hk
    exact ⟨_, Ev.bind hL (Ev.bind hk (ev_neg (by decide) skip)), g1, g2, by dsimp only; omega⟩
  | true =>
    rw [hb] at hk
    have hpos := labB_pos hb
    obtain ⟨b, a2, s2, e2, b2, c2⟩ := one_ev h s 2 g2 (by omega)
    cases b with
    | false => exact ⟨(n, L, a2, s2), Ev.bind hL (Ev.bind hk (ev_pos rfl (ev_bind0 e2 (Ev.step (fun f => spec_l1Cur_anyLabels.j0.eq_2 ..) (ev_neg Bool.false_ne_true (Ev.now _)))))), g1, by dsimp only; omega, by dsimp only; omega⟩
    | true =>
      obtain ⟨v, a3, s3, e3, v0, v1, b3, c3⟩ := pick_ev h s2 8 (show 0 ≤ a2 by omega) (by omega)
      obtain ⟨d, ed⟩ := Int.eq_ofNat_of_zero_le v0
      subst ed
      obtain ⟨r, hr, k0, k1, k2, k3⟩ := any_loop h n d L a3 s3 hpos (by omega) (by omega) (by omega) (by omega)
      exact ⟨r, Ev.bind hL (Ev.bind hk (ev_pos rfl (ev_bind0 e2 (Ev.step (fun f => spec_l1Cur_anyLabels.j0.eq_2 ..) (ev_pos rfl (ev_bind0 e3 hr)))))), by omega, k2, by omega⟩
end Go.Proofs.Ytafjjbkkcedgnab.QFnDoorsOfRooms
/-! A full room has one door, others none or two; doors are told: for every input; there are no conditions. -/
namespace Go.Proofs.Ytafjjbkkcedgnab.Pure
open Go.RowKit Go.Proofs.YtafjjbkkcedgnabOwn Go.Proofs.Ytafjjbkkcedgnab.PFnDoorsOfRooms Go.Proofs.YtafjjbkkcedgnabW.PrintWords Go.Proofs.YtafjjbkkcedgnabW.PrintLast Go.Proofs.YtafjjbkkcedgnabW.PrintMore Go.Proofs.Ytafjjbkkcedgnab.QFnDoorsOfRooms
set_option linter.unusedVariables false
set_option linter.unusedSectionVars false
set_option maxRecDepth 100000
theorem sameU_loop (a : List Int) (ha : a.length ≤ 10000) : ∀ d i : Nat, i + d = a.length → Ev (fun f => laws_uSame.l0 f a a (a.length : Int) (i : Int)) true
  | 0, i, h => Ev.step (fun f => laws_uSame.l0.eq_2 ..) (ev_neg (by omega) (Ev.now _))
  | d + 1, i, h => by
    refine Ev.step (fun f => laws_uSame.l0.eq_2 ..) (ev_pos (by omega) (ev_pos (by omega) (ev_pos (by omega) (ev_pos (by omega) (ev_pos rfl ?_)))))
    rw [wr (show -9223372036854775808 ≤ (i : Int) + 1 by omega) (by omega)]
    exact sameU_loop a ha d (i + 1) (by omega)
theorem sameU_ev (a : List Int) (ha : a.length ≤ 10000) : Ev (fun f => laws_uSame.f f a a) true := ev_pos rfl (sameU_loop a ha a.length 0 (by omega))
theorem rdR_at {T : List (List Int)} {i : Nat} (h : i < T.length) : rd_L2 T (i : Int) = T[i] := by
  unfold rd_L2
  rw [Int.toNat_natCast, List.getD_eq_getElem?_getD, List.getElem?_eq_getElem h]; rfl
theorem rows_loop (A : List (List Int)) (ha : A.length ≤ 10000) (he : ∀ r ∈ A, r.length ≤ 10000) : ∀ d i : Nat, i + d = A.length → Ev (fun f => laws_uSameRows.l0 f A A (A.length : Int) (i : Int)) true
  | 0, i, h => Ev.step (fun f => laws_uSameRows.l0.eq_2 ..) (ev_neg (by omega) (Ev.now _))
  | d + 1, i, h => by
    have hlt : i < A.length := by omega
    refine Ev.step (fun f => laws_uSameRows.l0.eq_2 ..) (ev_pos (by omega) (ev_pos (by omega) (ev_pos (by omega) (ev_pos (by omega) ?_))))
    rw [rdR_at hlt, wr (show -9223372036854775808 ≤ (i : Int) + 1 by omega) (by omega)]
    exact Ev.bind (sameU_ev _ (he _ (List.getElem_mem hlt))) (ev_pos rfl (rows_loop A ha he d (i + 1) (by omega)))
theorem rows_ev (A : List (List Int)) (ha : A.length ≤ 10000) (he : ∀ r ∈ A, r.length ≤ 10000) : Ev (fun f => laws_uSameRows.f f A A) true := ev_pos rfl (rows_loop A ha he A.length 0 (by omega))
/-! ### draws -/
theorem full_loop {n : Nat} {L : List Int} (H : Home n L) : ∀ (d i : Nat) (out : List Int), i + d = (cellsT n).length → out.length ≤ i → ∃ F, Ev (fun f => spec_doAllFull.l0 f L out (cellsT n) ((cellsT n).length : Int) (i : Int)) F ∧ F.length ≤ 100
  | 0, i, out, hi, ho => ⟨out, Ev.step (fun f => spec_doAllFull.l0.eq_2 ..) (ev_neg (by omega) (Ev.now _)), by have := H.lenC; omega⟩
  | d + 1, i, out, hi, ho => by
    have hc := H.lenC
    have hlt : i < (cellsT n).length := by omega
    have ei : True → wrap64 ((i : Int) + 1) = ((i + 1 : Nat) : Int) := fun _ => by rw [wr (by omega) (by omega)]; omega
    have hin : inC (n * n) (i : Int) := by unfold inC; rw [← H.len]; omega
    have e : rd_L2 (cellsT n) (i : Int) = cl n (i : Int) := rfl
    have hf := doFull_ev H.lbl (H.tri hin)
    cases hb : fullL L (cl n (i : Int)) with
    | true =>
      rw [hb] at hf
      obtain ⟨F, hF, hl⟩ := full_loop H d (i + 1) (out ++ [(i : Int)]) (by omega) (by rw [List.length_append, List.length_singleton]; omega)
      refine ⟨F, Ev.step (fun f => spec_doAllFull.l0.eq_2 ..) (ev_pos (by omega) (ev_pos (by omega) (ev_pos (by omega) ?_))), hl⟩
      rw [e, ei trivial]
      exact Ev.bind hf (ev_pos rfl (ev_pos (by omega) hF))
    | false =>
      rw [hb] at hf
      obtain ⟨F, hF, hl⟩ := full_loop H d (i + 1) out (by omega) (by omega)
      refine ⟨F, Ev.step (fun f => spec_doAllFull.l0.eq_2 ..) (ev_pos (by omega) (ev_pos (by omega) (ev_pos (by omega) ?_))), hl⟩
      rw [e, ei trivial]
      exact Ev.bind hf (ev_neg (by decide) hF)
theorem room_ev {l : List Int} (h : U8 l) : ∃ r : Int × List Int × Int, Ev (fun f => spec_DrawDoorsOfCell.f f l) r ∧ r.2.1.length ≤ 100 := by
  obtain ⟨⟨n, L, a, s⟩, hL, g1, g2, g3⟩ := anyL_ev h 4
  dsimp only at g1 g2 g3
  have hk := labels_spec n L (by omega)
  have out : ∀ r : Int × List Int × Int × Int × Int, Ev (fun f => spec_l1Cur_room.f f l 0 0) r → Ev (fun f => spec_DrawDoorsOfCell.f f l) (r.1, r.2.1, r.2.2.1) := fun r hr => Ev.bind hr (Ev.now _)
  have plain : ∀ (a s : Int), 0 ≤ a → a ≤ 3000 → ∃ r : Int × List Int × Int × Int × Int, Ev (fun f => spec_l1Cur_room.j0 f n L false l a s) r ∧ r.2.1.length ≤ 100 := fun a s a0 a1 => by
    obtain ⟨v, a2, s2, e2, _⟩ := pick_ev h s 18 a0 (by omega)
    exact ⟨_, Ev.step (fun f => spec_l1Cur_room.j0.eq_2 ..) (ev_neg Bool.false_ne_true (ev_bind0 e2 (Ev.now _))), g1⟩
  cases hb : labB n L with
  | false =>
    rw [hb] at hk
    obtain ⟨r, hr, hl⟩ := plain a s g2 (by omega)
    exact ⟨_, out r (Ev.bind hL (Ev.bind hk (ev_neg (by decide) hr))), hl⟩
  | true =>
    rw [hb] at hk
    obtain ⟨n', e, H⟩ := home_of hb
    subst e
    obtain ⟨b, a2, s2, e2, b2, c2⟩ := one_ev h s 3 g2 (by omega)
    have go : ∀ r : Int × List Int × Int × Int × Int, Ev (fun f => spec_l1Cur_room.j0 f (n' : Int) L (!b) l a2 s2) r → Ev (fun f => spec_l1Cur_room.f f l 0 0) r := fun r hr => Ev.bind hL (Ev.bind hk (ev_pos rfl (ev_bind0 e2 hr)))
    cases b with
    | true =>
      obtain ⟨r, hr, hl⟩ := plain a2 s2 (by omega) (by omega)
      exact ⟨_, out r (go r hr), hl⟩
    | false =>
      obtain ⟨F, hF, hl⟩ := full_loop H (cellsT n').length 0 [] (Nat.zero_add _) (by simp)
      have hA : Ev (fun f => spec_doAllFull.f f (n' : Int) L) F := Ev.bind H.side.cellsS hF
      by_cases h0 : (F.length : Int) > 0
      · obtain ⟨v, a3, s3, e3, v0, v1, _⟩ := pick_ev h s2 (F.length : Int) (show 0 ≤ a2 by omega) (by omega)
        exact ⟨_, out _ (go _ (Ev.step (fun f => spec_l1Cur_room.j0.eq_2 ..) (ev_pos rfl (Ev.bind hA (ev_pos h0 (ev_bind0 e3 (ev_pos v0 (ev_pos (show v < (F.length : Int) by omega) (Ev.now _))))))))), g1⟩
      · obtain ⟨v, a3, s3, e3, _⟩ := pick_ev h s2 18 (show 0 ≤ a2 by omega) (by omega)
        exact ⟨_, out _ (go _ (Ev.step (fun f => spec_l1Cur_room.j0.eq_2 ..) (ev_pos rfl (Ev.bind hA (ev_neg h0 (ev_bind0 e3 (Ev.now _))))))), g1⟩
theorem doorD_ev {l : List Int} (h : U8 l) : ∃ r : Int × List Int × Int × Int, Ev (fun f => spec_DrawIsDoor.f f l) r ∧ r.2.1.length ≤ 100 := by
  obtain ⟨⟨n, L, a, s⟩, hL, g1, g2, g3⟩ := anyL_ev h 4
  dsimp only at g1 g2 g3
  have hk := labels_spec n L (by omega)
  have out : ∀ r : Int × List Int × Int × Int × Int × Int, Ev (fun f => spec_l1Cur_door.f f l 0 0) r → Ev (fun f => spec_DrawIsDoor.f f l) (r.1, r.2.1, r.2.2.1, r.2.2.2.1) := fun r hr => Ev.bind hr (Ev.now _)
  cases hb : labB n L with
  | false =>
    rw [hb] at hk
    exact ⟨_, out _ (Ev.bind hL (Ev.bind hk (ev_neg (by decide) (Ev.now _)))), g1⟩
  | true =>
    rw [hb] at hk
    have hpos := labB_pos hb
    obtain ⟨n', e, H⟩ := home_of hb
    subst e
    have hB := H.border_ev
    have plain : ∀ (a s : Int), 0 ≤ a → a ≤ 3000 → ∃ r : Int × List Int × Int × Int × Int × Int, Ev (fun f => spec_l1Cur_door.j0 f (n' : Int) L (gates n' L) false l a s) r ∧ r.2.1.length ≤ 100 := fun a s a0 a1 => by
      obtain ⟨v, a2, s2, e2, v0, v1, b2, c2⟩ := pick_ev h s (L.length : Int) a0 (by omega)
      obtain ⟨v3, a3, s3, e3, _⟩ := among_ev h s2 [1, 2, 3, -1, 0] (by decide) (show 0 ≤ a2 by omega) (by omega)
      exact ⟨_, Ev.step (fun f => spec_l1Cur_door.j0.eq_2 ..) (ev_neg Bool.false_ne_true (ev_bind0 e2 (ev_bind0 e3 (Ev.now _)))), g1⟩
    by_cases h0 : ((gates n' L).length : Int) > 0
    · obtain ⟨b, a2, s2, e2, b2, c2⟩ := one_ev h s 4 g2 (by omega)
      have go : ∀ r : Int × List Int × Int × Int × Int × Int, Ev (fun f => spec_l1Cur_door.j0 f (n' : Int) L (gates n' L) (!b) l a2 s2) r → Ev (fun f => spec_l1Cur_door.f f l 0 0) r := fun r hr => Ev.bind hL (Ev.bind hk (ev_pos rfl (Ev.bind hB (ev_pos h0 (ev_bind0 e2 hr)))))
      cases b with
      | true =>
        obtain ⟨r, hr, hl⟩ := plain a2 s2 (by omega) (by omega)
        exact ⟨_, out r (go r hr), hl⟩
      | false =>
        obtain ⟨v, a3, s3, e3, v0, v1, b3, c3⟩ := pick_ev h s2 ((gates n' L).length : Int) (show 0 ≤ a2 by omega) (by omega)
        obtain ⟨v', ev⟩ := Int.eq_ofNat_of_zero_le v0
        subst ev
        have hlt : v' < (gates n' L).length := by omega
        obtain ⟨x, y, exy, _⟩ := H.step (List.mem_filter.1 (List.getElem_mem hlt)).1
        have er : rd_L2 (gates n' L) (v' : Int) = [x, y] := by rw [rdR_at hlt, exy]
        obtain ⟨w, a4, s4, e4, w0, w1, _⟩ := pick_ev h s3 2 (show 0 ≤ a3 by omega) (by omega)
        have ew : True → wrap64 (1 - w) = 1 - w := fun _ => wr (by omega) (by omega)
        refine ⟨((n' : Int), L, _, _), out ((n' : Int), L, rd [x, y] w, rd [x, y] (1 - w), a4, s4) (go _ (Ev.step (fun f => spec_l1Cur_door.j0.eq_2 ..) (ev_pos rfl (ev_bind0 e3 (ev_pos v0 (ev_pos (by omega) (ev_bind0 e4 ?_))))))), g1⟩
        dsimp only
        rw [er, ew trivial]
        exact ev_pos w0 (ev_pos (show w < (([x, y] : List Int).length : Int) by simp; omega) (ev_pos (by omega) (ev_pos (show 1 - w < (([x, y] : List Int).length : Int) by simp; omega) (Ev.now _))))
    · obtain ⟨r, hr, hl⟩ := plain a s g2 (by omega)
      exact ⟨_, out r (Ev.bind hL (Ev.bind hk (ev_pos rfl (Ev.bind hB (ev_neg h0 hr))))), hl⟩
/-! ### the law -/
theorem isDoor_two (n : Int) (L : List Int) (hl : L.length ≤ 1048576) (i j : Int) : ∃ p : Bool × Bool, Ev (fun f => impl_IsDoor.f f n L i j) p ∧ Ev (fun f => spec_IsDoor.f f n L i j) p := by
  have h1 := labels_impl n L hl
  have h2 := labels_spec n L hl
  cases hk : labB n L with
  | false =>
    rw [hk] at h1 h2
    exact ⟨(false, false), Ev.bind (Ev.bind h1 (ev_neg (by decide) (Ev.now _))) (ev_neg (by decide) (Ev.step (fun f => impl_IsDoor.j0.eq_2 ..) (ev_pos rfl (Ev.now _)))), Ev.bind (Ev.bind h2 (ev_neg (by decide) (Ev.now _))) (ev_neg (by decide) (Ev.now _))⟩
  | true =>
    obtain ⟨n', e, H⟩ := home_of hk
    subst e
    obtain ⟨p, g1, g2, _⟩ := H.isDoor_ev i j
    exact ⟨p, g1, g2⟩
theorem tail_ev {l : List Int} (h : U8 l) : Ev (fun k => (spec_DrawIsDoor.f k l).bind fun bt680 => ((impl_IsDoor.f k bt680.1 bt680.2.1 bt680.2.2.1 bt680.2.2.2).bind fun bt686 => ((spec_IsDoor.f k bt680.1 bt680.2.1 bt680.2.2.1 bt680.2.2.2).bind fun bt688 => (if (bt686.2 == bt688.2) = true then (some (bt686.1 == bt688.1)) else (none))))) true := by
  obtain ⟨⟨n, L, i, j⟩, hd, hl⟩ := doorD_ev h
  dsimp only at hl
  obtain ⟨⟨p1, p2⟩, g1, g2⟩ := isDoor_two n L (by omega) i j
  exact Ev.bind hd (Ev.bind g1 (Ev.bind g2 (ev_pos (beq_self_eq_true p2) (ev_eq (Ev.now _) (beq_self_eq_true p1)))))
theorem sum_loop {l : List Int} (h : U8 l) {n : Nat} {L : List Int} (H : Home n L) : ∀ (d i : Nat) (S : Nat), i + d = n * n → S + (((cellsT n).drop i).map fun c => (doorsL L c).length).sum + (gates n L).length = 2 * ((pairsT n).filter (dr L)).length → S ≤ 2 * i →
    Ev (fun f => laws_FnDoorsOfRooms.l1 f l (n : Int) L ((pairsT n).filter (dr L)) (gates n L) (S : Int) (i : Int)) true
  | 0, i, S, hi, hs, hS => by
    have hn := H.nn
    have hB := H.lenB
    have hg := List.length_filter_le (dr L) (stepsT (bordT n))
    have hst : (stepsT (bordT n)).length = (bordT n).length := by rw [stepsT_eq, List.length_map, List.length_range]
    have en : True → wrap64 ((n : Int) * (n : Int)) = ((n * n : Nat) : Int) := fun _ => by rw [wr (by rw [← Int.natCast_mul]; omega) (by rw [← Int.natCast_mul]; omega), Int.natCast_mul]
    rw [List.drop_eq_nil_of_le (by rw [H.len]; omega), List.map_nil, List.sum_nil] at hs
    refine Ev.step (fun f => laws_FnDoorsOfRooms.l1.eq_2 ..) ?_
    rw [en trivial]
    have hgl : (gates n L).length ≤ 24 := by unfold gates; omega
    refine ev_neg (by omega) (ev_pos ?_ (tail_ev h))
    rw [wr (show -9223372036854775808 ≤ 2 * (((pairsT n).filter (dr L)).length : Int) by omega) (by omega), wr (by omega) (by omega)]
    omega
  | d + 1, i, S, hi, hs, hS => by
    have hn := H.nn
    have hlt : i < (cellsT n).length := by rw [H.len]; omega
    have hin : inC (n * n) (i : Int) := by unfold inC; omega
    have en : True → wrap64 ((n : Int) * (n : Int)) = ((n * n : Nat) : Int) := fun _ => by rw [wr (by rw [← Int.natCast_mul]; omega) (by rw [← Int.natCast_mul]; omega), Int.natCast_mul]
    have ei : True → wrap64 ((i : Int) + 1) = ((i + 1 : Nat) : Int) := fun _ => by rw [wr (by omega) (by omega)]; omega
    obtain ⟨g1, _⟩ := H.cdoors_ev hin
    have h2 := (fullDoor H.lbl (H.tri hin)).2
    have ec : cl n (i : Int) = (cellsT n)[i] := by unfold cl; rw [Int.toNat_natCast, List.getD_eq_getElem?_getD, List.getElem?_eq_getElem hlt]; rfl
    rw [List.drop_eq_getElem_cons hlt, List.map_cons, List.sum_cons, ← ec] at hs
    have eS : True → wrap64 ((S : Int) + ((doorsL L (cl n (i : Int))).length : Int)) = ((S + (doorsL L (cl n (i : Int))).length : Nat) : Int) := fun _ => by rw [wr (by omega) (by omega)]; omega
    have ih := sum_loop h H d (i + 1) (S + (doorsL L (cl n (i : Int))).length) (by omega) (by omega) (by omega)
    refine Ev.step (fun f => laws_FnDoorsOfRooms.l1.eq_2 ..) ?_
    rw [en trivial]
    refine ev_pos (by omega) (Ev.bind g1 (ev_pos rfl ?_))
    dsimp only
    rw [eS trivial, ei trivial]
    exact ih
theorem pairs_each (N : Nat → Nat → Bool) (i : Nat) : ∀ d j, ∀ r ∈ pr1 N i d j, r.length = 2
  | 0, _, r, h => by cases h
  | d + 1, j, r, h => by
    unfold pr1 at h
    split at h
    · rcases List.mem_cons.1 h with e | e
      · rw [e]; rfl
      · exact pairs_each N i d (j + 1) r e
    · exact pairs_each N i d (j + 1) r h
theorem pairs0_each (N : Nat → Nat → Bool) (m : Nat) (hm : m ≤ 45) : ∀ d i, (∀ r ∈ pr0 N m d i, r.length = 2) ∧ (pr0 N m d i).length ≤ d * 45
  | 0, i => ⟨fun r h => (by cases h), by unfold pr0; simp⟩
  | d + 1, i => by
    obtain ⟨h1, h2⟩ := pairs0_each N m hm d (i + 1)
    have h3 := pr1_len N i (m - (i + 1)) (i + 1)
    unfold pr0
    refine ⟨fun r h => ?_, by rw [List.length_append]; omega⟩
    rcases List.mem_append.1 h with e | e
    · exact pairs_each N i _ _ r e
    · exact h1 r e
theorem mid_ev {l : List Int} (h : U8 l) : Ev (fun f => laws_FnDoorsOfRooms.j3 f l) true := by
  obtain ⟨⟨n, L, a, s⟩, hL, g1, g2, g3⟩ := anyL_ev h 4
  dsimp only at g1 g2 g3
  have hd : Ev (fun f => spec_DrawDoorsOf.f f l) (n, L) := Ev.bind hL (Ev.now _)
  have k1 := labels_impl n L (by omega)
  have k2 := labels_spec n L (by omega)
  cases hk : labB n L with
  | false =>
    rw [hk] at k1 k2
    have hh : Ev (fun f => impl_houseOf.f f n L) (0, [], [], [], false) := Ev.bind k1 (ev_neg (by decide) (Ev.now _))
    have e1 : Ev (fun f => impl_DoorsOf.f f n L) ([], false) := Ev.bind hh (ev_neg (by decide) (Ev.now _))
    have e2 : Ev (fun f => spec_DoorsOf.f f n L) ([], false) := Ev.bind k2 (ev_neg (by decide) (Ev.now _))
    have e3 : Ev (fun f => impl_BorderDoors.f f n L) ([], false) := Ev.bind hh (ev_neg (by decide) (Ev.now _))
    have e4 : Ev (fun f => spec_BorderDoors.f f n L) ([], false) := Ev.bind k2 (ev_neg (by decide) (Ev.now _))
    have sm := rows_ev [] (by simp) (fun r h => (by cases h))
    refine Ev.step (fun f => laws_FnDoorsOfRooms.j3.eq_2 ..) (Ev.bind hd (Ev.bind e1 (Ev.bind e2 (Ev.bind e3 (Ev.bind e4 (ev_neg Bool.false_ne_true (Ev.bind sm (ev_pos rfl (ev_neg Bool.false_ne_true (Ev.bind sm (ev_pos rfl ?_)))))))))))
    exact Ev.step (fun f => laws_FnDoorsOfRooms.j4.eq_2 ..) (ev_neg Bool.false_ne_true (ev_neg Bool.false_ne_true (tail_ev h)))
  | true =>
    obtain ⟨n', e, H⟩ := home_of hk
    subst e
    obtain ⟨e1, e2⟩ := H.doors_ev
    obtain ⟨e3, e4⟩ := H.bdoors_ev
    have hm := many_le H.side.hi
    have hp := pairs0_each (NB n') (many n') hm (many n') 0
    have hfl := List.length_filter_le (dr L) (pairsT n')
    have hpl : (pairsT n').length ≤ 45 * 45 := Nat.le_trans hp.2 (Nat.mul_le_mul_right _ hm)
    have s1 := rows_ev ((pairsT n').filter (dr L)) (by omega) (fun r h => by have := hp.1 r (List.mem_filter.1 h).1; omega)
    have hB := H.lenB
    have hg := List.length_filter_le (dr L) (stepsT (bordT n'))
    have hst : (stepsT (bordT n')).length = (bordT n').length := by rw [stepsT_eq, List.length_map, List.length_range]
    have s2 := rows_ev (gates n' L) (by unfold gates; omega) (fun r h => by
      obtain ⟨x, y, exy, _⟩ := H.step (List.mem_filter.1 h).1
      rw [exy]; simp)
    refine Ev.step (fun f => laws_FnDoorsOfRooms.j3.eq_2 ..) (Ev.bind hd (Ev.bind e1 (Ev.bind e2 (Ev.bind e3 (Ev.bind e4 (ev_neg Bool.false_ne_true (Ev.bind s1 (ev_pos rfl (ev_neg Bool.false_ne_true (Ev.bind s2 (ev_pos rfl ?_)))))))))))
    refine Ev.step (fun f => laws_FnDoorsOfRooms.j4.eq_2 ..) (ev_neg Bool.false_ne_true (ev_pos rfl ?_))
    exact sum_loop h H (n' * n') 0 0 (Nat.zero_add _) (by rw [List.drop_zero, Nat.zero_add]; exact H.count) (Nat.zero_le _)
theorem each_loop {l : List Int} (h : U8 l) {n : Nat} {L : List Int} (H : Home n L) {c : Int} (hc : inC (n * n) c) : ∀ d i : Nat, i + d = (doorsL L (cl n c)).length → Ev (fun f => laws_FnDoorsOfRooms.l0 f l (n : Int) L (doorsL L (cl n c)) ((doorsL L (cl n c)).length : Int) (i : Int)) true
  | 0, i, hi => Ev.step (fun f => laws_FnDoorsOfRooms.l0.eq_2 ..) (ev_neg (by omega) (mid_ev h))
  | d + 1, i, hi => by
    have h2 := (fullDoor H.lbl (H.tri hc)).2
    have hlt : i < (doorsL L (cl n c)).length := by omega
    have hmem := List.mem_filter.1 (List.getElem_mem hlt)
    obtain ⟨x, y, e, hx, hy⟩ := edges_ok (H.tri hc) _ hmem.1
    have hN : NB n x.toNat y.toNat = true := by
      have hr := H.range hc
      have hin : (doorsL L (cl n c))[i] ∈ (cellsT n).flatMap edges := List.mem_flatMap.2 ⟨cl n c, getD_lt (by omega), hmem.1⟩
      have := List.all_eq_true.1 (Bool.and_eq_true_iff.1 (H.side.tab edge_tab)).1 _ hin
      rw [e] at this
      exact this
    obtain ⟨p, g1, _, g3⟩ := H.isDoor_ev x y
    have hp := g3 hx.1 hx.2 hy.1 hy.2 hN
    have hd : dr L [x, y] = true := by rw [← e]; exact hmem.2
    rw [hd] at hp
    subst hp
    have er : rd_L2 (doorsL L (cl n c)) (i : Int) = [x, y] := by rw [rdR_at hlt, e]
    have ei : True → wrap64 ((i : Int) + 1) = ((i + 1 : Nat) : Int) := fun _ => by rw [wr (by omega) (by omega)]; omega
    refine Ev.step (fun f => laws_FnDoorsOfRooms.l0.eq_2 ..) (ev_pos (by omega) (ev_pos (by omega) (ev_pos (by omega) ?_)))
    rw [er, ei trivial]
    exact ev_pos (by simp) (ev_pos (by simp) (Ev.bind g1 (ev_pos rfl (ev_pos rfl (each_loop h H hc d (i + 1) (by omega))))))
theorem FnDoorsOfRooms : laws_FnDoorsOfRooms.Pure := by
  intro l0 l1 _ _ u0 _ _ u1
  apply Ev.rounds
  obtain ⟨b, hb⟩ : ∃ b, laws_big.f l0 l1 = some b := by
    unfold laws_big.f
    split <;> exact ⟨_, rfl⟩
  refine ev_bind0 hb ?_
  cases b with
  | true => exact ev_pos rfl (Ev.now _)
  | false =>
    refine ev_neg (by decide) ?_
    obtain ⟨⟨n, L, c⟩, hd, hl⟩ := room_ev u0
    dsimp only at hl
    have k1 := labels_impl n L (by omega)
    have k2 := labels_spec n L (by omega)
    have bad : Ev (fun f => impl_DoorsOfCell.f f n L c) ([], false) → Ev (fun f => spec_DoorsOfCell.f f n L c) ([], false) → Ev (fun f => impl_IsFull.f f n L c) (false, false) → Ev (fun f => spec_IsFull.f f n L c) (false, false) → Ev (fun k => (spec_DrawDoorsOfCell.f k l0).bind fun bt621 => ((impl_DoorsOfCell.f k bt621.1 bt621.2.1 bt621.2.2).bind fun bt626 => ((spec_DoorsOfCell.f k bt621.1 bt621.2.1 bt621.2.2).bind fun bt630 => ((impl_IsFull.f k bt621.1 bt621.2.1 bt621.2.2).bind fun bt634 => ((spec_IsFull.f k bt621.1 bt621.2.1 bt621.2.2).bind fun bt636 => (if (bt626.2 != bt630.2) = true then (none) else ((laws_uSameRows.f k bt626.1 bt630.1).bind fun t638 => (if t638 = true then (if (bt634.2 != bt636.2) = true then (none) else (if (bt634.1 != bt636.1) = true then (none) else (laws_FnDoorsOfRooms.j0 k l1 bt621.1 bt621.2.1 bt626.1 bt626.2 bt634.1 (bt634.2 != bt626.2)))) else (none))))))))) true := fun e1 e2 e3 e4 => by
      have sm := rows_ev [] (by simp) (fun r h => (by cases h))
      refine Ev.bind hd (Ev.bind e1 (Ev.bind e2 (Ev.bind e3 (Ev.bind e4 (ev_neg Bool.false_ne_true (Ev.bind sm (ev_pos rfl (ev_neg Bool.false_ne_true (ev_neg Bool.false_ne_true ?_)))))))))
      exact Ev.step (fun f => laws_FnDoorsOfRooms.j0.eq_2 ..) (ev_neg Bool.false_ne_true (ev_neg Bool.false_ne_true (mid_ev u1)))
    cases hk : labB n L with
    | false =>
      rw [hk] at k1 k2
      have hh : Ev (fun f => impl_houseOf.f f n L) (0, [], [], [], false) := Ev.bind k1 (ev_neg (by decide) (Ev.now _))
      have hc : Ev (fun f => spec_doCell.f f n L c) false := Ev.bind k2 (ev_neg (by decide) (Ev.now _))
      exact bad (Ev.bind hh (ev_neg (by decide) (Ev.now _))) (Ev.bind hc (ev_neg (by decide) (Ev.now _))) (Ev.bind hh (ev_neg (by decide) (Ev.now _))) (Ev.bind hc (ev_neg (by decide) (Ev.now _)))
    | true =>
      obtain ⟨n', e, H⟩ := home_of hk
      subst e
      by_cases hin : inC (n' * n') c
      · obtain ⟨e1, e2⟩ := H.cdoors_ev hin
        obtain ⟨e3, e4⟩ := H.cfull_ev hin
        obtain ⟨f1, f2⟩ := fullDoor H.lbl (H.tri hin)
        have sm := rows_ev (doorsL L (cl n' c)) (by omega) (fun r hr => by
          obtain ⟨x, y, exy, _⟩ := edges_ok (H.tri hin) r (List.mem_filter.1 hr).1
          rw [exy]; simp)
        refine Ev.bind hd (Ev.bind e1 (Ev.bind e2 (Ev.bind e3 (Ev.bind e4 (ev_neg Bool.false_ne_true (Ev.bind sm (ev_pos rfl (ev_neg Bool.false_ne_true (ev_neg (by dsimp only; rw [bne_self_eq_false]; decide) ?_)))))))))
        refine Ev.step (fun f => laws_FnDoorsOfRooms.j0.eq_2 ..) (ev_neg Bool.false_ne_true (ev_pos rfl (ev_neg (by dsimp only; rw [f1, bne_self_eq_false]; decide) ?_)))
        dsimp only
        rw [decide_eq_false (show ¬ ((doorsL L (cl n' c)).length : Int) > 2 by omega)]
        exact Ev.step (fun f => laws_FnDoorsOfRooms.j1.eq_2 ..) (ev_neg Bool.false_ne_true (each_loop u1 H hin (doorsL L (cl n' c)).length 0 (Nat.zero_add _)))
      · obtain ⟨h1, h2⟩ := H.cellIn c
        rw [decide_eq_false hin] at h1 h2
        exact bad (Ev.bind H.house_ev (ev_pos rfl (ev_bind0 h1 (ev_neg (by decide) (Ev.now _))))) (Ev.bind h2 (ev_neg (by decide) (Ev.now _))) (Ev.bind H.house_ev (ev_pos rfl (ev_bind0 h1 (ev_neg (by decide) (Ev.now _))))) (Ev.bind h2 (ev_neg (by decide) (Ev.now _)))
end Go.Proofs.Ytafjjbkkcedgnab.Pure
