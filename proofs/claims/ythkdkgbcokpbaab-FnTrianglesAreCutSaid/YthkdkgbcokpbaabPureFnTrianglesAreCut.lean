/- The law's text, and what it rests on, in one. -/
import Derived.Test.YthkdkgbcokpbaabPFnTrianglesAreCutx
import Derived.Laws.Bits64b
/-! Plain lemmas on numbers and rounds. -/
namespace Go.Proofs.Ythkdkgbcokpbaab.QFnTrianglesAreCut
open Go.RowKit Go.Proofs.Ythkdkgbcokpbaab.PFnTrianglesAreCut Go.Proofs.YthkdkgbcokpbaabW.PrintWords Go.Proofs.YthkdkgbcokpbaabW.PrintLast Go.Proofs.YthkdkgbcokpbaabW.PrintMore
set_option linter.unusedVariables false
set_option linter.unusedSimpArgs false
theorem wr {x : Int} (h : -9223372036854775808 ≤ x) (h' : x ≤ 9223372036854775807) : wrap64 x = x := by unfold wrap64; omega
theorem ev_eq {α : Type} {g : Nat → Option α} {r s : α} (h : Ev g r) (e : r = s) : Ev g s := e ▸ h
theorem ev_const {α : Type} {o : Option α} {r : α} (h : o = some r) : Ev (fun _ => o) r := ⟨0, fun _ _ => h⟩
/-- The values of two runs of one program are the same. -/
theorem ev_one {α : Type} {g : Nat → Option α} {r s : α} (h : Ev g r) (h' : Ev g s) : r = s := by
  obtain ⟨K, h⟩ := h
  obtain ⟨K', h'⟩ := h'
  have a := h (max K K') (by omega)
  have b := h' (max K K') (by omega)
  rw [a] at b
  exact Option.some.inj b
theorem ev_bind0 {α β : Type} {o : Option α} {f : Nat → α → Option β} {a : α} {r : β} (h : o = some a) (k : Ev (fun n => f n a) r) : Ev (fun n => o.bind (f n)) r :=
  Ev.bind (g := fun _ => o) (ev_const h) k
theorem ev_pos {α : Type} {c : Prop} [Decidable c] {f g : Nat → Option α} {r : α} (h : c) (k : Ev f r) : Ev (fun n => if c then f n else g n) r := Ev.congr (fun _ => if_pos h) k
theorem ev_neg {α : Type} {c : Prop} [Decidable c] {f g : Nat → Option α} {r : α} (h : ¬ c) (k : Ev g r) : Ev (fun n => if c then f n else g n) r := Ev.congr (fun _ => if_neg h) k
theorem rd_get {l : List Int} {i : Int} (h0 : 0 ≤ i) (h : i < l.length) : l[i.toNat]? = some (rd l i) := by
  unfold rd
  rw [List.getD_eq_getElem?_getD, List.getElem?_eq_getElem (by omega)]
  rfl
theorem rd_nat (l : List Int) (i : Nat) : rd l (i : Int) = l.getD i 0 := rfl
theorem rd_one (x : Int) : rd [x] 0 = x := rfl
end Go.Proofs.Ythkdkgbcokpbaab.QFnTrianglesAreCut
/-! Triangles: points, neighbours and cells, of the program and of the reference, as plain functions. -/
namespace Go.Proofs.Ythkdkgbcokpbaab.QFnTrianglesAreCut
open Go.RowKit Go.Proofs.Ythkdkgbcokpbaab.PFnTrianglesAreCut Go.Proofs.YthkdkgbcokpbaabW.PrintWords Go.Proofs.YthkdkgbcokpbaabW.PrintLast Go.Proofs.YthkdkgbcokpbaabW.PrintMore
set_option linter.unusedVariables false
set_option linter.unusedSimpArgs false
set_option maxRecDepth 100000
abbrev Pt := S54
abbrev rdP : List Pt → Int → Pt := rd_T54
/-- The points of a triangle. -/
def ptsFn (n : Nat) : List Pt := (List.range (n + 1)).flatMap fun (r : Nat) => (List.range (r + 1)).map fun (c : Nat) => (⟨(n : Int) - r, (r : Int) - c, (c : Int)⟩ : Pt)
def many (n : Nat) : Nat := (n + 1) * (n + 2) / 2
def nearFn (p q : Pt) : Bool :=
  let a := mx (p.f0 - q.f0) (q.f0 - p.f0)
  let b := mx (p.f1 - q.f1) (q.f1 - p.f1)
  let c := mx (p.f2 - q.f2) (q.f2 - p.f2)
  decide (a + b + c = 2) && decide (mx (mx (mx 0 a) b) c = 1)
/-- Coordinates are small. -/
def Small (p : Pt) : Prop := (-100 ≤ p.f0 ∧ p.f0 ≤ 100) ∧ (-100 ≤ p.f1 ∧ p.f1 ≤ 100) ∧ (-100 ≤ p.f2 ∧ p.f2 ≤ 100)
theorem mx_sub (x y : Int) (hx : -100 ≤ x ∧ x ≤ 100) (hy : -100 ≤ y ∧ y ≤ 100) : 0 ≤ mx (x - y) (y - x) ∧ mx (x - y) (y - x) ≤ 200 := by unfold mx; split <;> omega
theorem u1 : wrap64 1 = 1 := wr (by omega) (by omega)
theorem u2 : wrap64 2 = 2 := wr (by omega) (by omega)
theorem u3 : wrap64 3 = 3 := wr (by omega) (by omega)
theorem w01 : wrap64 (0 + 1) = 1 := wr (by omega) (by omega)
theorem w12 : wrap64 (1 + 1) = 2 := wr (by omega) (by omega)
theorem w23 : wrap64 (2 + 1) = 3 := wr (by omega) (by omega)
theorem near_ev (p q : Pt) (hp : Small p) (hq : Small q) : Ev (fun k => impl_near.f k p.f0 p.f1 p.f2 q.f0 q.f1 q.f2) (nearFn p q) := by
  obtain ⟨h0, h1, h2⟩ := hp
  obtain ⟨g0, g1, g2⟩ := hq
  have a0 : wrap64 (p.f0 - q.f0) = p.f0 - q.f0 := wr (by omega) (by omega)
  have a1 : wrap64 (p.f1 - q.f1) = p.f1 - q.f1 := wr (by omega) (by omega)
  have a2 : wrap64 (p.f2 - q.f2) = p.f2 - q.f2 := wr (by omega) (by omega)
  have b0 : wrap64 (q.f0 - p.f0) = q.f0 - p.f0 := wr (by omega) (by omega)
  have b1 : wrap64 (q.f1 - p.f1) = q.f1 - p.f1 := wr (by omega) (by omega)
  have b2 : wrap64 (q.f2 - p.f2) = q.f2 - p.f2 := wr (by omega) (by omega)
  have m0 := mx_sub p.f0 q.f0 h0 g0
  have m1 := mx_sub p.f1 q.f1 h1 g1
  have m2 := mx_sub p.f2 q.f2 h2 g2
  unfold nearFn
  dsimp only
  generalize ha : mx (p.f0 - q.f0) (q.f0 - p.f0) = a at *
  generalize hb : mx (p.f1 - q.f1) (q.f1 - p.f1) = b at *
  generalize hc : mx (p.f2 - q.f2) (q.f2 - p.f2) = c at *
  have s0 : wrap64 (0 + a) = a := (wr (by omega) (by omega)).trans (by omega)
  have s1 : wrap64 (a + b) = a + b := wr (by omega) (by omega)
  have s2 : wrap64 (a + b + c) = a + b + c := wr (by omega) (by omega)
  refine Ev.congr (f := fun k => impl_near.l0 k 0 0 0 p.f0 p.f1 p.f2 q.f0 q.f1 q.f2) (fun k => rfl) ?_
  refine Ev.step (f := fun k => impl_near.l0 k a (mx 0 a) 1 p.f0 p.f1 p.f2 q.f0 q.f1 q.f2) (fun k => by simp only [impl_near.l0, a0, b0, ha, s0, w01]; simp) ?_
  refine Ev.step (f := fun k => impl_near.l0 k (a + b) (mx (mx 0 a) b) 2 p.f0 p.f1 p.f2 q.f0 q.f1 q.f2) (fun k => by simp only [impl_near.l0, a1, b1, hb, s1, w12]; simp) ?_
  refine Ev.step (f := fun k => impl_near.l0 k (a + b + c) (mx (mx (mx 0 a) b) c) 3 p.f0 p.f1 p.f2 q.f0 q.f1 q.f2) (fun k => by simp only [impl_near.l0, a2, b2, hc, s2, w23]; simp) ?_
  refine Ev.step (f := fun _ => some (decide (a + b + c = 2) && decide (mx (mx (mx 0 a) b) c = 1))) (fun k => ?_) (Ev.now _)
  simp only [impl_near.l0]
  rw [if_neg (by decide)]
  by_cases e : a + b + c = 2
  · rw [if_pos e]; simp only [e, decide_true, Bool.true_and]; rfl
  · rw [if_neg e]; simp [e]
instance instPtEq : DecidableEq Pt := fun x y =>
  if h : x.f0 = y.f0 ∧ x.f1 = y.f1 ∧ x.f2 = y.f2 then .isTrue (by
    obtain ⟨a, b, c⟩ := x
    obtain ⟨d, e, f⟩ := y
    obtain ⟨h1, h2, h3⟩ := h
    simp only at h1 h2 h3
    subst h1 h2 h3
    rfl)
  else .isFalse (fun e => h (by subst e; exact ⟨rfl, rfl, rfl⟩))
theorem points_at : ((List.range 9).all fun n => n == 0 || (impl_points.f 120 (n : Int) == some (ptsFn n))) = true := by decide +kernel
theorem pts_len : ((List.range 9).all fun n => n == 0 || (ptsFn n).length == many n) = true := by decide +kernel
theorem at_spec : ((List.range 9).all fun n => n == 0 || (List.range 45).all fun i => decide (many n ≤ i) || (spec_meAt.f 20 (n : Int) (i : Int) == some [(rdP (ptsFn n) i).f0, (rdP (ptsFn n) i).f1, (rdP (ptsFn n) i).f2])) = true := by decide +kernel
theorem wn (j : Nat) (h : j < 1000000000) : wrap64 ((j : Int) + 1) = ((j + 1 : Nat) : Int) := by rw [wr (by omega) (by omega)]; omega
/-- What the tables say of one side. -/
structure Side (n : Nat) : Prop where
  lo : 1 ≤ n
  hi : n ≤ 8
theorem Side.points {n : Nat} (h : Side n) : Ev (fun k => impl_points.f k (n : Int)) (ptsFn n) := by
  have a := List.all_eq_true.1 points_at n (by simp; have := h.hi; omega)
  have z : (n == 0) = false := by simp; have := h.lo; omega
  rw [z, Bool.false_or] at a
  exact Ev.of (fun k => impl_points.mono _ k) (eq_of_beq a)
theorem many_le {n : Nat} (h : n ≤ 8) : many n ≤ 45 := by
  have : n = 0 ∨ n = 1 ∨ n = 2 ∨ n = 3 ∨ n = 4 ∨ n = 5 ∨ n = 6 ∨ n = 7 ∨ n = 8 := by omega
  rcases this with rfl | rfl | rfl | rfl | rfl | rfl | rfl | rfl | rfl <;> decide
theorem Side.len {n : Nat} (h : Side n) : (ptsFn n).length = many n := by
  have a := List.all_eq_true.1 pts_len n (by simp; have := h.hi; omega)
  have z : (n == 0) = false := by simp; have := h.lo; omega
  rw [z, Bool.false_or] at a
  exact eq_of_beq a
theorem Side.at_ {n : Nat} (h : Side n) {i : Nat} (hi : i < many n) : Ev (fun k => spec_meAt.f k (n : Int) (i : Int)) [(rdP (ptsFn n) i).f0, (rdP (ptsFn n) i).f1, (rdP (ptsFn n) i).f2] := by
  have a := List.all_eq_true.1 at_spec n (by simp; have := h.hi; omega)
  have z : (n == 0) = false := by simp; have := h.lo; omega
  rw [z, Bool.false_or] at a
  have b := List.all_eq_true.1 a i (by simp; have := many_le h.hi; omega)
  have y : decide (many n ≤ i) = false := by simp; omega
  rw [y, Bool.false_or] at b
  exact Ev.of (fun k => spec_meAt.mono _ _ k) (eq_of_beq b)
theorem small_pts : ((List.range 9).all fun n => (ptsFn n).all fun p => decide (0 ≤ p.f0) && decide (p.f0 ≤ 8) && decide (0 ≤ p.f1) && decide (p.f1 ≤ 8) && decide (0 ≤ p.f2) && decide (p.f2 ≤ 8)) = true := by decide +kernel
theorem Side.inside {n : Nat} (h : Side n) {i : Nat} (hi : i < many n) : (0 ≤ (rdP (ptsFn n) i).f0 ∧ (rdP (ptsFn n) i).f0 ≤ 8) ∧ (0 ≤ (rdP (ptsFn n) i).f1 ∧ (rdP (ptsFn n) i).f1 ≤ 8) ∧ (0 ≤ (rdP (ptsFn n) i).f2 ∧ (rdP (ptsFn n) i).f2 ≤ 8) := by
  have a := List.all_eq_true.1 small_pts n (by simp; have := h.hi; omega)
  have hl := h.len
  have e : rdP (ptsFn n) i = (ptsFn n)[i]'(by omega) := by
    show (ptsFn n).getD (i : Int).toNat _ = _
    rw [Int.toNat_natCast, List.getD_eq_getElem?_getD, List.getElem?_eq_getElem (by omega)]
    rfl
  have b := List.all_eq_true.1 a _ (List.getElem_mem (l := ptsFn n) (n := i) (by omega))
  rw [← e] at b
  simp only [Bool.and_eq_true, decide_eq_true_eq] at b
  omega
theorem Side.small {n : Nat} (h : Side n) {i : Nat} (hi : i < many n) : Small (rdP (ptsFn n) i) := by
  have := h.inside hi
  unfold Small
  omega
/-- Are points i and j neighbours? -/
def NB (n i j : Nat) : Bool := nearFn (rdP (ptsFn n) i) (rdP (ptsFn n) j)
theorem Side.near {n : Nat} (h : Side n) {i j : Nat} (hi : i < many n) (hj : j < many n) :
    Ev (fun k => impl_near.f k (rdP (ptsFn n) i).f0 (rdP (ptsFn n) i).f1 (rdP (ptsFn n) i).f2 (rdP (ptsFn n) j).f0 (rdP (ptsFn n) j).f1 (rdP (ptsFn n) j).f2) (NB n i j) := near_ev _ _ (h.small hi) (h.small hj)
theorem abs_ev (x : Int) (h : -100 ≤ x ∧ x ≤ 100) : spec_l1Abs.f x = some (mx x (-x)) := by
  have e : wrap64 (-x) = -x := wr (by omega) (by omega)
  simp only [spec_l1Abs.f, e, spec_l1Most.f, mx]
  split <;> split <;> simp <;> omega
theorem mx_abs (x y : Int) : mx (x - y) (-(x - y)) = mx (x - y) (y - x) := by rw [show -(x - y) = y - x by omega]
theorem mx3 (a b c : Int) (ha : 0 ≤ a) (hb : 0 ≤ b) (hc : 0 ≤ c) (h : a + b + c = 2) : (mx (mx (mx 0 a) b) c = 1 ↔ a ≤ 1 ∧ b ≤ 1 ∧ c ≤ 1) := by
  unfold mx
  split <;> split <;> split <;> omega
/-- The reference's neighbours are the same. -/
theorem Side.meNear {n : Nat} (h : Side n) {i j : Nat} (hi : i < many n) (hj : j < many n) : Ev (fun k => spec_meNear.f k (n : Int) (i : Int) (j : Int)) (NB n i j) := by
  refine Ev.bind (h.at_ hi) ?_
  refine Ev.bind (h.at_ hj) ?_
  obtain ⟨h0, h1, h2⟩ := h.inside hi
  obtain ⟨g0, g1, g2⟩ := h.inside hj
  unfold NB nearFn
  dsimp only
  generalize (rdP (ptsFn n) i).f0 = x0 at *
  generalize (rdP (ptsFn n) i).f1 = x1 at *
  generalize (rdP (ptsFn n) i).f2 = x2 at *
  generalize (rdP (ptsFn n) j).f0 = y0 at *
  generalize (rdP (ptsFn n) j).f1 = y1 at *
  generalize (rdP (ptsFn n) j).f2 = y2 at *
  have m0 := mx_sub x0 y0 (by omega) (by omega)
  have m1 := mx_sub x1 y1 (by omega) (by omega)
  have m2 := mx_sub x2 y2 (by omega) (by omega)
  have e0 : spec_l1Abs.f (wrap64 (x0 - y0)) = some (mx (x0 - y0) (y0 - x0)) := by rw [wr (by omega) (by omega), abs_ev _ (by omega), mx_abs]
  have e1 : spec_l1Abs.f (wrap64 (x1 - y1)) = some (mx (x1 - y1) (y1 - x1)) := by rw [wr (by omega) (by omega), abs_ev _ (by omega), mx_abs]
  have e2 : spec_l1Abs.f (wrap64 (x2 - y2)) = some (mx (x2 - y2) (y2 - x2)) := by rw [wr (by omega) (by omega), abs_ev _ (by omega), mx_abs]
  generalize mx (x0 - y0) (y0 - x0) = a at *
  generalize mx (x1 - y1) (y1 - x1) = b at *
  generalize mx (x2 - y2) (y2 - x2) = c at *
  have r0 : ∀ u v w : Int, rd [u, v, w] 0 = u := fun _ _ _ => rfl
  have r1 : ∀ u v w : Int, rd [u, v, w] 1 = v := fun _ _ _ => rfl
  have r2 : ∀ u v w : Int, rd [u, v, w] 2 = w := fun _ _ _ => rfl
  have s0 : wrap64 (0 + a) = a := (wr (by omega) (by omega)).trans (by omega)
  have s1 : wrap64 (a + b) = a + b := wr (by omega) (by omega)
  have s2 : wrap64 (a + b + c) = a + b + c := wr (by omega) (by omega)
  have sa : wrap64 a = a := wr (by omega) (by omega)
  have k3 := mx3 a b c (by omega) (by omega) (by omega)
  by_cases c0 : a > 1
  · refine Ev.step (f := fun _ => some false) (fun k => by simp only [spec_meNear.l0, r0, e0]; simp [c0]) (ev_eq (Ev.now _) ?_)
    by_cases hs : a + b + c = 2
    · have := k3 hs
      simp only [hs, decide_true, Bool.true_and]
      exact (decide_eq_false (by omega)).symm
    · simp [hs]
  refine Ev.step (f := fun k => spec_meNear.l0 k [x0, x1, x2] [y0, y1, y2] a 3 1) (fun k => by simp only [spec_meNear.l0, r0, e0]; simp [c0, sa, u1]) ?_
  by_cases c1 : b > 1
  · refine Ev.step (f := fun _ => some false) (fun k => by simp only [spec_meNear.l0, r1, e1]; simp [c1]) (ev_eq (Ev.now _) ?_)
    by_cases hs : a + b + c = 2
    · have := k3 hs
      simp only [hs, decide_true, Bool.true_and]
      exact (decide_eq_false (by omega)).symm
    · simp [hs]
  refine Ev.step (f := fun k => spec_meNear.l0 k [x0, x1, x2] [y0, y1, y2] (a + b) 3 2) (fun k => by simp only [spec_meNear.l0, r1, e1]; simp [c1, s1, u2]) ?_
  by_cases c2 : c > 1
  · refine Ev.step (f := fun _ => some false) (fun k => by simp only [spec_meNear.l0, r2, e2]; simp [c2]) (ev_eq (Ev.now _) ?_)
    by_cases hs : a + b + c = 2
    · have := k3 hs
      simp only [hs, decide_true, Bool.true_and]
      exact (decide_eq_false (by omega)).symm
    · simp [hs]
  refine Ev.step (f := fun k => spec_meNear.l0 k [x0, x1, x2] [y0, y1, y2] (a + b + c) 3 3) (fun k => by simp only [spec_meNear.l0, r2, e2]; simp [c2, s2, u3]) ?_
  refine Ev.step (f := fun _ => some ((a + b + c) == 2)) (fun k => by simp only [spec_meNear.l0]; simp) (ev_eq (Ev.now _) ?_)
  by_cases hs : a + b + c = 2
  · have := k3 hs
    simp only [hs, decide_true, Bool.true_and]
    exact (decide_eq_true (by omega)).symm
  · simp [hs]
/-- The cells, by three loops. -/
def c2 (N : Nat → Nat → Bool) (i j : Nat) : Nat → Nat → List (List Int)
  | 0, _ => []
  | d + 1, k => (if (N i j && N i k && N j k) = true then [[(i : Int), (j : Int), (k : Int)]] else []) ++ c2 N i j d (k + 1)
def c1 (N : Nat → Nat → Bool) (m i : Nat) : Nat → Nat → List (List Int)
  | 0, _ => []
  | d + 1, j => c2 N i j (m - (j + 1)) (j + 1) ++ c1 N m i d (j + 1)
def c0 (N : Nat → Nat → Bool) (m : Nat) : Nat → Nat → List (List Int)
  | 0, _ => []
  | d + 1, i => c1 N m i (m - (i + 1)) (i + 1) ++ c0 N m d (i + 1)
def cellsFn (n : Nat) : List (List Int) := c0 (NB n) (many n) (many n) 0
theorem c2_none {N : Nat → Nat → Bool} {i j : Nat} (h : N i j = false) : ∀ d k, c2 N i j d k = []
  | 0, _ => rfl
  | d + 1, k => by simp [c2, h, c2_none h d (k + 1)]
theorem c2_len (N : Nat → Nat → Bool) (i j : Nat) : ∀ d k, (c2 N i j d k).length ≤ d
  | 0, _ => Nat.le_refl _
  | d + 1, k => by
    have := c2_len N i j d (k + 1)
    rw [c2, List.length_append]
    split <;> simp <;> omega
theorem c1_len (N : Nat → Nat → Bool) (m i : Nat) (hm : m ≤ 45) : ∀ d j, (c1 N m i d j).length ≤ d * 45
  | 0, _ => Nat.le_refl _
  | d + 1, j => by
    have := c1_len N m i hm d (j + 1)
    have := c2_len N i j (m - (j + 1)) (j + 1)
    rw [c1, List.length_append]
    omega
theorem pts_lenI {n m : Nat} (h : Side n) (hm : many n = m) : ((ptsFn n).length : Int) = (m : Int) := by rw [h.len, hm]
section
variable {n m : Nat} (h : Side n) (hm : many n = m)
include h hm
theorem impl_l2 (i j : Nat) (hij : i < j) (hj : j < m) (r : List (List Int)) : ∀ (d k : Nat) (out : List (List Int)), k + d = m → j < k → out.length ≤ i * 2025 + j * 45 + k →
    Ev (fun f => impl_cells.l1 f (out ++ c2 (NB n) i j d k) (ptsFn n) i ((j + 1 : Nat) : Int) (ptsFn n) m i (rdP (ptsFn n) i).f0 (rdP (ptsFn n) i).f1 (rdP (ptsFn n) i).f2) r →
    Ev (fun f => impl_cells.l2 f out (ptsFn n) i j k (ptsFn n) m i (rdP (ptsFn n) i).f0 (rdP (ptsFn n) i).f1 (rdP (ptsFn n) i).f2) r := by
  have hl := pts_lenI h hm
  have hm45 := many_le h.hi
  rw [hm] at hm45
  intro d
  induction d with
  | zero =>
    intro k out hk hjk hb e
    rw [c2, List.append_nil] at e
    refine Ev.step (fun f => impl_cells.l2.eq_2 ..) ?_
    rw [hl]
    refine ev_neg (by omega) ?_
    refine Ev.step (fun f => impl_cells.j3.eq_2 ..) ?_
    refine ev_neg (by decide) ?_
    rw [wn j (by omega)]
    exact e
  | succ d ih =>
    intro k out hk hjk hb e
    refine Ev.step (fun f => impl_cells.l2.eq_2 ..) ?_
    rw [hl]
    refine ev_pos (by omega) (ev_pos (by omega) (ev_pos (by omega) ?_))
    refine Ev.bind (h.near (i := i) (j := j) (by omega) (by omega)) ?_
    refine Ev.step (fun f => impl_cells.j3.eq_2 ..) ?_
    cases hN : NB n i j with
    | false =>
      rw [c2_none hN, List.append_nil] at e
      refine ev_neg (by decide) ?_
      rw [wn j (by omega)]
      exact e
    | true =>
      rw [hl]
      refine ev_pos rfl (ev_pos (by omega) (ev_pos (by omega) ?_))
      refine Ev.bind (h.near (i := i) (j := k) (by omega) (by omega)) ?_
      rw [c2, hN, Bool.true_and] at e
      cases hK : NB n i k with
      | false =>
        rw [hK, Bool.false_and, if_neg (by decide), List.nil_append] at e
        refine ev_neg (by decide) ?_
        rw [wn k (by omega)]
        exact ih (k + 1) out (by omega) (by omega) (by omega) e
      | true =>
        refine ev_pos rfl (ev_pos (by omega) (ev_pos (by omega) ?_))
        refine Ev.bind (h.near (i := j) (j := k) (by omega) (by omega)) ?_
        rw [hK, Bool.true_and] at e
        cases hJ : NB n j k with
        | false =>
          rw [hJ, if_neg (by decide), List.nil_append] at e
          refine ev_neg (by decide) ?_
          rw [wn k (by omega)]
          exact ih (k + 1) out (by omega) (by omega) (by omega) e
        | true =>
          rw [hJ, if_pos rfl, ← List.append_assoc] at e
          refine ev_pos rfl (ev_pos (by omega) ?_)
          rw [wn k (by omega)]
          exact ih (k + 1) _ (by omega) (by omega) (by rw [List.length_append]; simp; omega) e
theorem impl_l1 (i : Nat) (hi : i < m) (r : List (List Int)) : ∀ (d j : Nat) (out : List (List Int)), j + d = m → i < j → out.length ≤ i * 2025 + j * 45 →
    Ev (fun f => impl_cells.l0 f (out ++ c1 (NB n) m i d j) (ptsFn n) (ptsFn n) m ((i + 1 : Nat) : Int)) r →
    Ev (fun f => impl_cells.l1 f out (ptsFn n) i j (ptsFn n) m i (rdP (ptsFn n) i).f0 (rdP (ptsFn n) i).f1 (rdP (ptsFn n) i).f2) r := by
  have hl := pts_lenI h hm
  have hm45 := many_le h.hi
  rw [hm] at hm45
  intro d
  induction d with
  | zero =>
    intro j out hj hij hb e
    rw [c1, List.append_nil] at e
    refine Ev.step (fun f => impl_cells.l1.eq_2 ..) ?_
    rw [hl]
    refine ev_neg (by omega) ?_
    rw [wn i (by omega)]
    exact e
  | succ d ih =>
    intro j out hj hij hb e
    refine Ev.step (fun f => impl_cells.l1.eq_2 ..) ?_
    rw [hl]
    refine ev_pos (by omega) ?_
    rw [wn j (by omega)]
    rw [c1, ← List.append_assoc] at e
    have hc := c2_len (NB n) i j (m - (j + 1)) (j + 1)
    exact impl_l2 h hm i j hij (by omega) r (m - (j + 1)) (j + 1) out (by omega) (by omega) (by omega) (ih (j + 1) _ (by omega) (by omega) (by rw [List.length_append]; omega) e)
theorem impl_l0 (r : List (List Int)) : ∀ (d i : Nat) (out : List (List Int)), i + d = m → out.length ≤ i * 2025 →
    r = out ++ c0 (NB n) m d i → Ev (fun f => impl_cells.l0 f out (ptsFn n) (ptsFn n) m i) r := by
  have hl := pts_lenI h hm
  have hm45 := many_le h.hi
  rw [hm] at hm45
  intro d
  induction d with
  | zero =>
    intro i out hi hb e
    rw [c0, List.append_nil] at e
    refine Ev.step (fun f => impl_cells.l0.eq_2 ..) ?_
    refine ev_neg (by omega) (ev_eq (Ev.now _) e.symm)
  | succ d ih =>
    intro i out hi hb e
    refine Ev.step (fun f => impl_cells.l0.eq_2 ..) ?_
    rw [hl]
    refine ev_pos (by omega) (ev_pos (by omega) (ev_pos (by omega) ?_))
    rw [wn i (by omega)]
    rw [c0, ← List.append_assoc] at e
    have hc := c1_len (NB n) m i hm45 (m - (i + 1)) (i + 1)
    exact impl_l1 h hm i (by omega) r (m - (i + 1)) (i + 1) out (by omega) (by omega) (by omega) (ih (i + 1) _ (by omega) (by rw [List.length_append]; omega) e)
theorem count_ev : spec_meCount.f (n : Int) = some (m : Int) := by
  have : n = 1 ∨ n = 2 ∨ n = 3 ∨ n = 4 ∨ n = 5 ∨ n = 6 ∨ n = 7 ∨ n = 8 := by have := h.lo; have := h.hi; omega
  subst hm
  rcases this with rfl | rfl | rfl | rfl | rfl | rfl | rfl | rfl <;> decide +kernel
theorem spec_l2 (i j : Nat) (hij : i < j) (hj : j < m) (r : List (List Int)) : ∀ (d k : Nat) (out : List (List Int)), k + d = m → j < k → out.length ≤ i * 2025 + j * 45 + k →
    Ev (fun f => spec_meCells.l1 f n (out ++ c2 (NB n) i j d k) i ((j + 1 : Nat) : Int)) r →
    Ev (fun f => spec_meCells.l2 f n out i j k) r := by
  have hm45 := many_le h.hi
  rw [hm] at hm45
  intro d
  induction d with
  | zero =>
    intro k out hk hjk hb e
    rw [c2, List.append_nil] at e
    refine Ev.step (fun f => spec_meCells.l2.eq_2 ..) ?_
    refine ev_bind0 (count_ev h hm) ?_
    refine ev_neg (by omega) ?_
    rw [wn j (by omega)]
    exact e
  | succ d ih =>
    intro k out hk hjk hb e
    refine Ev.step (fun f => spec_meCells.l2.eq_2 ..) ?_
    refine ev_bind0 (count_ev h hm) ?_
    refine ev_pos (by omega) ?_
    refine Ev.bind (h.meNear (i := i) (j := j) (by omega) (by omega)) ?_
    rw [wn k (by omega)]
    cases hN : NB n i j with
    | false =>
      rw [c2, hN, Bool.false_and, Bool.false_and, if_neg (by decide), List.nil_append] at e
      exact ev_neg (by decide) (ih (k + 1) out (by omega) (by omega) (by omega) e)
    | true =>
      refine ev_pos rfl ?_
      refine Ev.bind (h.meNear (i := i) (j := k) (by omega) (by omega)) ?_
      rw [c2, hN, Bool.true_and] at e
      cases hK : NB n i k with
      | false =>
        rw [hK, Bool.false_and, if_neg (by decide), List.nil_append] at e
        exact ev_neg (by decide) (ih (k + 1) out (by omega) (by omega) (by omega) e)
      | true =>
        refine ev_pos rfl ?_
        refine Ev.bind (h.meNear (i := j) (j := k) (by omega) (by omega)) ?_
        rw [hK, Bool.true_and] at e
        cases hJ : NB n j k with
        | false =>
          rw [hJ, if_neg (by decide), List.nil_append] at e
          exact ev_neg (by decide) (ih (k + 1) out (by omega) (by omega) (by omega) e)
        | true =>
          rw [hJ, if_pos rfl, ← List.append_assoc] at e
          exact ev_pos rfl (ev_pos (by omega) (ih (k + 1) _ (by omega) (by omega) (by rw [List.length_append]; simp; omega) e))
theorem spec_l1 (i : Nat) (hi : i < m) (r : List (List Int)) : ∀ (d j : Nat) (out : List (List Int)), j + d = m → i < j → out.length ≤ i * 2025 + j * 45 →
    Ev (fun f => spec_meCells.l0 f n (out ++ c1 (NB n) m i d j) ((i + 1 : Nat) : Int)) r →
    Ev (fun f => spec_meCells.l1 f n out i j) r := by
  have hm45 := many_le h.hi
  rw [hm] at hm45
  intro d
  induction d with
  | zero =>
    intro j out hj hij hb e
    rw [c1, List.append_nil] at e
    refine Ev.step (fun f => spec_meCells.l1.eq_2 ..) ?_
    refine ev_bind0 (count_ev h hm) ?_
    refine ev_neg (by omega) ?_
    rw [wn i (by omega)]
    exact e
  | succ d ih =>
    intro j out hj hij hb e
    refine Ev.step (fun f => spec_meCells.l1.eq_2 ..) ?_
    refine ev_bind0 (count_ev h hm) ?_
    refine ev_pos (by omega) ?_
    rw [wn j (by omega)]
    rw [c1, ← List.append_assoc] at e
    have hc := c2_len (NB n) i j (m - (j + 1)) (j + 1)
    exact spec_l2 h hm i j hij (by omega) r (m - (j + 1)) (j + 1) out (by omega) (by omega) (by omega) (ih (j + 1) _ (by omega) (by omega) (by rw [List.length_append]; omega) e)
theorem spec_l0 (r : List (List Int)) : ∀ (d i : Nat) (out : List (List Int)), i + d = m → out.length ≤ i * 2025 →
    r = out ++ c0 (NB n) m d i → Ev (fun f => spec_meCells.l0 f n out i) r := by
  have hm45 := many_le h.hi
  rw [hm] at hm45
  intro d
  induction d with
  | zero =>
    intro i out hi hb e
    rw [c0, List.append_nil] at e
    refine Ev.step (fun f => spec_meCells.l0.eq_2 ..) ?_
    refine ev_bind0 (count_ev h hm) ?_
    exact ev_neg (by omega) (ev_eq (Ev.now _) e.symm)
  | succ d ih =>
    intro i out hi hb e
    refine Ev.step (fun f => spec_meCells.l0.eq_2 ..) ?_
    refine ev_bind0 (count_ev h hm) ?_
    refine ev_pos (by omega) ?_
    rw [wn i (by omega)]
    rw [c0, ← List.append_assoc] at e
    have hc := c1_len (NB n) m i hm45 (m - (i + 1)) (i + 1)
    exact spec_l1 h hm i (by omega) r (m - (i + 1)) (i + 1) out (by omega) (by omega) (by omega) (ih (i + 1) _ (by omega) (by rw [List.length_append]; omega) e)
end
theorem Side.cells {n : Nat} (h : Side n) : Ev (fun k => impl_cells.f k (n : Int)) (cellsFn n) := by
  refine Ev.bind h.points ?_
  rw [pts_lenI h rfl]
  exact impl_l0 h rfl _ (many n) 0 [] (by omega) (Nat.le_refl _) rfl
theorem Side.meCells {n : Nat} (h : Side n) : Ev (fun k => spec_meCells.f k (n : Int)) (cellsFn n) :=
  spec_l0 h rfl _ (many n) 0 [] (by omega) (Nat.le_refl _) rfl
theorem c0_len (N : Nat → Nat → Bool) (m : Nat) (hm : m ≤ 45) : ∀ d i, (c0 N m d i).length ≤ d * 2025
  | 0, _ => Nat.le_refl _
  | d + 1, i => by
    have := c0_len N m hm d (i + 1)
    have := c1_len N m i hm (m - (i + 1)) (i + 1)
    rw [c0, List.length_append]
    omega
theorem Side.cells_len {n : Nat} (h : Side n) : (cellsFn n).length ≤ 91125 := by
  have := many_le h.hi
  have := c0_len (NB n) (many n) this (many n) 0
  unfold cellsFn
  omega
theorem c2_each (N : Nat → Nat → Bool) (i j : Nat) : ∀ d k, ∀ c ∈ c2 N i j d k, c.length = 3
  | 0, _, c, h => by simp [c2] at h
  | d + 1, k, c, h => by
    rw [c2, List.mem_append] at h
    rcases h with h | h
    · split at h
      · simp at h; subst h; rfl
      · simp at h
    · exact c2_each N i j d (k + 1) c h
theorem c1_each (N : Nat → Nat → Bool) (m i : Nat) : ∀ d j, ∀ c ∈ c1 N m i d j, c.length = 3
  | 0, _, c, h => by simp [c1] at h
  | d + 1, j, c, h => by
    rw [c1, List.mem_append] at h
    rcases h with h | h
    · exact c2_each _ _ _ _ _ c h
    · exact c1_each N m i d (j + 1) c h
theorem c0_each (N : Nat → Nat → Bool) (m : Nat) : ∀ d i, ∀ c ∈ c0 N m d i, c.length = 3
  | 0, _, c, h => by simp [c0] at h
  | d + 1, i, c, h => by
    rw [c0, List.mem_append] at h
    rcases h with h | h
    · exact c1_each _ _ _ _ _ c h
    · exact c0_each N m d (i + 1) c h
theorem cells_each (n : Nat) : ∀ c ∈ cellsFn n, c.length = 3 := c0_each _ _ _ _
end Go.Proofs.Ythkdkgbcokpbaab.QFnTrianglesAreCut
/-! Which cells have two points: the program's loop and the reference's tell the same. -/
namespace Go.Proofs.Ythkdkgbcokpbaab.QFnTrianglesAreCut
open Go.RowKit Go.Proofs.Ythkdkgbcokpbaab.PFnTrianglesAreCut Go.Proofs.YthkdkgbcokpbaabW.PrintWords Go.Proofs.YthkdkgbcokpbaabW.PrintLast Go.Proofs.YthkdkgbcokpbaabW.PrintMore
set_option linter.unusedVariables false
set_option linter.unusedSimpArgs false
set_option linter.unusedSectionVars false
set_option maxRecDepth 100000
theorem rd_mem {l : List Int} {i : Nat} (h : i < l.length) : rd l (i : Int) = l[i] := by
  show l.getD (i : Int).toNat 0 = _
  rw [Int.toNat_natCast, List.getD_eq_getElem?_getD, List.getElem?_eq_getElem h]; rfl
/-- slices.Contains, slices.Index. -/
theorem index_l0 (l : List Int) (x : Int) (hl : l.length < 1000000000) : ∀ (d i : Nat), i + d = l.length →
    ∃ r : Int, Ev (fun k => slices_Index_int_int.l0 k l x (l.length : Int) i) r ∧ (0 ≤ r ↔ x ∈ l.drop i) := by
  intro d
  induction d with
  | zero =>
    intro i hi
    refine ⟨-1, Ev.step (fun f => slices_Index_int_int.l0.eq_2 ..) (ev_neg (by omega) (Ev.now _)), ?_⟩
    rw [List.drop_eq_nil_of_le (by omega)]
    simp
  | succ d ih =>
    intro i hi
    obtain ⟨r, e, hr⟩ := ih (i + 1) (by omega)
    have hlt : i < l.length := by omega
    rw [List.drop_eq_getElem_cons hlt]
    by_cases hx : x = l[i]
    · exact ⟨i, Ev.step (fun f => slices_Index_int_int.l0.eq_2 ..) (ev_pos (by omega) (ev_pos (by omega) (ev_pos (by omega) (ev_pos (by rw [rd_mem hlt]; exact hx) (Ev.now _))))), ⟨fun _ => by rw [List.mem_cons]; exact .inl hx, fun _ => by omega⟩⟩
    · refine ⟨r, Ev.step (fun f => slices_Index_int_int.l0.eq_2 ..) (ev_pos (by omega) (ev_pos (by omega) (ev_pos (by omega) (ev_neg (by rw [rd_mem hlt]; exact hx) ?_)))), by rw [List.mem_cons, hr]; exact ⟨.inr, fun z => z.resolve_left hx⟩⟩
      rw [wn i (by omega)]
      exact e
theorem contains_ev (l : List Int) (x : Int) (hl : l.length < 1000000000) : Ev (fun k => slices_Contains_int_int.f k l x) (decide (x ∈ l)) := by
  obtain ⟨r, e, hr⟩ := index_l0 l x hl l.length 0 (by omega)
  refine Ev.bind (g := fun k => slices_Index_int_int.f k l x) e ?_
  refine ev_eq (Ev.now _) ?_
  rw [List.drop_zero] at hr
  exact decide_eq_decide.2 hr
theorem has_l0 (l : List Int) (x : Int) (hl : l.length < 1000000000) : ∀ (d i : Nat), i + d = l.length →
    Ev (fun k => spec_l1Has.l0 k x l (l.length : Int) i) (decide (x ∈ l.drop i)) := by
  intro d
  induction d with
  | zero =>
    intro i hi
    refine Ev.step (fun f => spec_l1Has.l0.eq_2 ..) (ev_neg (by omega) (ev_eq (Ev.now _) ?_))
    rw [List.drop_eq_nil_of_le (by omega)]
    simp
  | succ d ih =>
    intro i hi
    have hlt : i < l.length := by omega
    rw [List.drop_eq_getElem_cons hlt]
    by_cases hx : l[i] = x
    · exact Ev.step (fun f => spec_l1Has.l0.eq_2 ..) (ev_pos (by omega) (ev_pos (by omega) (ev_pos (by omega) (ev_pos (by rw [rd_mem hlt]; exact hx) (ev_eq (Ev.now _) (decide_eq_true (by rw [List.mem_cons]; exact .inl hx.symm)).symm)))))
    · refine Ev.step (fun f => spec_l1Has.l0.eq_2 ..) (ev_pos (by omega) (ev_pos (by omega) (ev_pos (by omega) (ev_neg (by rw [rd_mem hlt]; exact hx) ?_))))
      rw [wn i (by omega)]
      exact ev_eq (ih (i + 1) (by omega)) (decide_eq_decide.2 (by rw [List.mem_cons]; exact ⟨.inr, fun z => z.resolve_left (fun h => hx h.symm)⟩))
theorem has_ev (l : List Int) (x : Int) (hl : l.length < 1000000000) : Ev (fun k => spec_l1Has.f k l x) (decide (x ∈ l)) := has_l0 l x hl l.length 0 (by omega)
/-- The numbers of the cells with two points. -/
def withFn (cells : List (List Int)) (x y : Int) : Nat → Nat → List Int
  | 0, _ => []
  | d + 1, i => (if x ∈ cells.getD i [] ∧ y ∈ cells.getD i [] then [(i : Int)] else []) ++ withFn cells x y d (i + 1)
theorem withFn_len (cells : List (List Int)) (x y : Int) : ∀ d i, (withFn cells x y d i).length ≤ d
  | 0, _ => Nat.le_refl _
  | d + 1, i => by
    have := withFn_len cells x y d (i + 1)
    rw [withFn, List.length_append]
    split <;> simp <;> omega
section
variable (cells : List (List Int)) (x y : Int) (hl : cells.length < 1000000) (he : ∀ c ∈ cells, c.length = 3)
include hl he
theorem each_ (i : Nat) (h : i < cells.length) : (rd_L3 cells (i : Int)).length < 1000000000 := by
  show (cells.getD (i : Int).toNat []).length < _
  rw [Int.toNat_natCast, List.getD_eq_getElem?_getD, List.getElem?_eq_getElem h]
  have := he _ (List.getElem_mem (l := cells) (n := i) h)
  simp only [Option.getD_some]
  omega
theorem with_l0 (r : List Int) : ∀ (d i : Nat) (out : List Int), i + d = cells.length → out.length ≤ i → r = out ++ withFn cells x y d i →
    Ev (fun k => impl_with.l0 k x y out cells (cells.length : Int) i) r := by
  intro d
  induction d with
  | zero =>
    intro i out hi hb e
    rw [withFn, List.append_nil] at e
    exact Ev.step (fun f => impl_with.l0.eq_2 ..) (ev_neg (by omega) (ev_eq (Ev.now _) e.symm))
  | succ d ih =>
    intro i out hi hb e
    have hz := each_ cells hl he i (by omega)
    refine Ev.step (fun f => impl_with.l0.eq_2 ..) (ev_pos (by omega) (ev_pos (by omega) (ev_pos (by omega) ?_)))
    rw [withFn] at e
    refine Ev.bind (contains_ev _ x hz) ?_
    rw [wn i (by omega)]
    by_cases hx : x ∈ cells.getD i []
    · refine ev_pos (decide_eq_true hx) ?_
      refine Ev.bind (contains_ev _ y hz) ?_
      by_cases hy : y ∈ cells.getD i []
      · rw [if_pos ⟨hx, hy⟩, ← List.append_assoc] at e
        exact ev_pos (decide_eq_true hy) (ev_pos (by omega) (ih (i + 1) _ (by omega) (by rw [List.length_append]; simp; omega) e))
      · rw [if_neg (fun z => hy z.2), List.nil_append] at e
        exact ev_neg (fun z => hy (of_decide_eq_true z)) (ih (i + 1) _ (by omega) (by omega) e)
    · rw [if_neg (fun z => hx z.1), List.nil_append] at e
      exact ev_neg (fun z => hx (of_decide_eq_true z)) (ih (i + 1) _ (by omega) (by omega) e)
theorem meWith_l0 (r : List Int) : ∀ (d i : Nat) (out : List Int), i + d = cells.length → out.length ≤ i → r = out ++ withFn cells x y d i →
    Ev (fun k => spec_meWith.l0 k x y out cells (cells.length : Int) i) r := by
  intro d
  induction d with
  | zero =>
    intro i out hi hb e
    rw [withFn, List.append_nil] at e
    exact Ev.step (fun f => spec_meWith.l0.eq_2 ..) (ev_neg (by omega) (ev_eq (Ev.now _) e.symm))
  | succ d ih =>
    intro i out hi hb e
    have hz := each_ cells hl he i (by omega)
    refine Ev.step (fun f => spec_meWith.l0.eq_2 ..) (ev_pos (by omega) (ev_pos (by omega) (ev_pos (by omega) ?_)))
    rw [withFn] at e
    refine Ev.bind (has_ev _ x hz) ?_
    rw [wn i (by omega)]
    by_cases hx : x ∈ cells.getD i []
    · refine ev_pos (decide_eq_true hx) ?_
      refine Ev.bind (has_ev _ y hz) ?_
      by_cases hy : y ∈ cells.getD i []
      · rw [if_pos ⟨hx, hy⟩, ← List.append_assoc] at e
        exact ev_pos (decide_eq_true hy) (ev_pos (by omega) (ih (i + 1) _ (by omega) (by rw [List.length_append]; simp; omega) e))
      · rw [if_neg (fun z => hy z.2), List.nil_append] at e
        exact ev_neg (fun z => hy (of_decide_eq_true z)) (ih (i + 1) _ (by omega) (by omega) e)
    · rw [if_neg (fun z => hx z.1), List.nil_append] at e
      exact ev_neg (fun z => hx (of_decide_eq_true z)) (ih (i + 1) _ (by omega) (by omega) e)
theorem with_ev : Ev (fun k => impl_with.f k cells x y) (withFn cells x y cells.length 0) := with_l0 cells x y hl he _ cells.length 0 [] (by omega) (Nat.le_refl _) rfl
theorem meWith_ev : Ev (fun k => spec_meWith.f k cells x y) (withFn cells x y cells.length 0) := meWith_l0 cells x y hl he _ cells.length 0 [] (by omega) (Nat.le_refl _) rfl
end
end Go.Proofs.Ythkdkgbcokpbaab.QFnTrianglesAreCut
/-! Triangles: tables of the cells and of the border, and what they say of doors: each edge has one cell or two. -/
namespace Go.Proofs.Ythkdkgbcokpbaab.QFnTrianglesAreCut
open Go.RowKit Go.Proofs.Ythkdkgbcokpbaab.PFnTrianglesAreCut Go.Proofs.YthkdkgbcokpbaabW.PrintWords Go.Proofs.YthkdkgbcokpbaabW.PrintLast Go.Proofs.YthkdkgbcokpbaabW.PrintMore
set_option linter.unusedVariables false
set_option linter.unusedSimpArgs false
set_option maxRecDepth 100000
def cellsT : Nat → List (List Int)
  | 1 => [[0,1,2]]
  | 2 => [[0,1,2],[1,2,4],[1,3,4],[2,4,5]]
  | 3 => [[0,1,2],[1,2,4],[1,3,4],[2,4,5],[3,4,7],[3,6,7],[4,5,8],[4,7,8],[5,8,9]]
  | 4 => [[0,1,2],[1,2,4],[1,3,4],[2,4,5],[3,4,7],[3,6,7],[4,5,8],[4,7,8],[5,8,9],[6,7,11],[6,10,11],[7,8,12],[7,11,12],[8,9,13],[8,12,13],[9,13,14]]
  | 5 => [[0,1,2],[1,2,4],[1,3,4],[2,4,5],[3,4,7],[3,6,7],[4,5,8],[4,7,8],[5,8,9],[6,7,11],[6,10,11],[7,8,12],[7,11,12],[8,9,13],[8,12,13],[9,13,14],[10,11,16],[10,15,16],[11,12,17],[11,16,17],[12,13,18],[12,17,18],[13,14,19],[13,18,19],[14,19,20]]
  | 6 => [[0,1,2],[1,2,4],[1,3,4],[2,4,5],[3,4,7],[3,6,7],[4,5,8],[4,7,8],[5,8,9],[6,7,11],[6,10,11],[7,8,12],[7,11,12],[8,9,13],[8,12,13],[9,13,14],[10,11,16],[10,15,16],[11,12,17],[11,16,17],[12,13,18],[12,17,18],[13,14,19],[13,18,19],[14,19,20],[15,16,22],[15,21,22],[16,17,23],[16,22,23],[17,18,24],[17,23,24],[18,19,25],[18,24,25],[19,20,26],[19,25,26],[20,26,27]]
  | 7 => [[0,1,2],[1,2,4],[1,3,4],[2,4,5],[3,4,7],[3,6,7],[4,5,8],[4,7,8],[5,8,9],[6,7,11],[6,10,11],[7,8,12],[7,11,12],[8,9,13],[8,12,13],[9,13,14],[10,11,16],[10,15,16],[11,12,17],[11,16,17],[12,13,18],[12,17,18],[13,14,19],[13,18,19],[14,19,20],[15,16,22],[15,21,22],[16,17,23],[16,22,23],[17,18,24],[17,23,24],[18,19,25],[18,24,25],[19,20,26],[19,25,26],[20,26,27],[21,22,29],[21,28,29],[22,23,30],[22,29,30],[23,24,31],[23,30,31],[24,25,32],[24,31,32],[25,26,33],[25,32,33],[26,27,34],[26,33,34],[27,34,35]]
  | 8 => [[0,1,2],[1,2,4],[1,3,4],[2,4,5],[3,4,7],[3,6,7],[4,5,8],[4,7,8],[5,8,9],[6,7,11],[6,10,11],[7,8,12],[7,11,12],[8,9,13],[8,12,13],[9,13,14],[10,11,16],[10,15,16],[11,12,17],[11,16,17],[12,13,18],[12,17,18],[13,14,19],[13,18,19],[14,19,20],[15,16,22],[15,21,22],[16,17,23],[16,22,23],[17,18,24],[17,23,24],[18,19,25],[18,24,25],[19,20,26],[19,25,26],[20,26,27],[21,22,29],[21,28,29],[22,23,30],[22,29,30],[23,24,31],[23,30,31],[24,25,32],[24,31,32],[25,26,33],[25,32,33],[26,27,34],[26,33,34],[27,34,35],[28,29,37],[28,36,37],[29,30,38],[29,37,38],[30,31,39],[30,38,39],[31,32,40],[31,39,40],[32,33,41],[32,40,41],[33,34,42],[33,41,42],[34,35,43],[34,42,43],[35,43,44]]
  | _ => []
def bordT : Nat → List Int
  | 1 => [0,1,2]
  | 2 => [0,1,3,4,5,2]
  | 3 => [0,1,3,6,7,8,9,5,2]
  | 4 => [0,1,3,6,10,11,12,13,14,9,5,2]
  | 5 => [0,1,3,6,10,15,16,17,18,19,20,14,9,5,2]
  | 6 => [0,1,3,6,10,15,21,22,23,24,25,26,27,20,14,9,5,2]
  | 7 => [0,1,3,6,10,15,21,28,29,30,31,32,33,34,35,27,20,14,9,5,2]
  | 8 => [0,1,3,6,10,15,21,28,36,37,38,39,40,41,42,43,44,35,27,20,14,9,5,2]
  | _ => []
theorem cells_tab : ((List.range 9).all fun n => n == 0 || cellsFn n == cellsT n) = true := by decide +kernel
theorem bordI_tab : ((List.range 9).all fun n => n == 0 || impl_border.f 120 (n : Int) == some (bordT n)) = true := by decide +kernel
/-- The edges of a cell. -/
def edges (c : List Int) : List (List Int) := [[rd c 0, rd c 1], [rd c 0, rd c 2], [rd c 1, rd c 2]]
def wth (C : List (List Int)) (x y : Int) : List Int := withFn C x y C.length 0
/-- A cell of a table: three points, rising; the cells at each of its edges are itself alone, or itself and one other that has the edge, too. -/
def okCell (C : List (List Int)) (m i : Nat) : Bool :=
  let c := C.getD i []
  decide (c.length = 3) && decide (0 ≤ rd c 0) && decide (rd c 0 < rd c 1) && decide (rd c 1 < rd c 2) && decide (rd c 2 < (m : Int)) &&
    (edges c).all fun d => match wth C (rd d 0) (rd d 1) with
      | [p] => decide (p = (i : Int))
      | [p, q] => decide (p = (i : Int)) && decide (i < q.toNat) && decide (0 ≤ q) && decide (q.toNat < C.length) && (edges (C.getD q.toNat [])).contains d ||
          decide (q = (i : Int)) && decide (p.toNat < i) && decide (0 ≤ p) && decide (p.toNat < C.length) && (edges (C.getD p.toNat [])).contains d
      | _ => false
/-- The steps along a border. -/
def stepsT (b : List Int) : List (List Int) := (List.range b.length).map fun (t : Nat) => [rd b (t : Int), rd b (Int.ofNat ((t + 1) % b.length))]
def inner (s : List Int) : List Int := [mn (rd s 0) (rd s 1), mx (rd s 0) (rd s 1)]
/-- A step along the border is the edge of one cell alone. -/
def okStep (C : List (List Int)) (m : Nat) (s : List Int) : Bool :=
  decide (0 ≤ rd s 0) && decide (rd s 0 < (m : Int)) && decide (0 ≤ rd s 1) && decide (rd s 1 < (m : Int)) &&
    match wth C (rd (inner s) 0) (rd (inner s) 1) with
      | [p] => decide (0 ≤ p) && decide (p.toNat < C.length) && (edges (C.getD p.toNat [])).contains (inner s)
      | _ => false
theorem geo : ((List.range 9).all fun n => n == 0 || (decide ((cellsT n).length = n * n) && decide ((bordT n).length = 3 * n) && ((List.range (n * n)).all (okCell (cellsT n) (many n)) && (stepsT (bordT n)).all (okStep (cellsT n) (many n))))) = true := by decide +kernel
section
variable {n : Nat} (h : Side n)
include h
theorem Side.tab {f : Nat → Bool} (hf : ((List.range 9).all fun n => n == 0 || f n) = true) : f n = true := by
  have a := List.all_eq_true.1 hf n (by simp; have := h.hi; omega)
  have z : (n == 0) = false := by simp; have := h.lo; omega
  rw [z, Bool.false_or] at a
  exact a
theorem Side.cellsT : cellsFn n = cellsT n := eq_of_beq (h.tab cells_tab)
theorem Side.cellsI : Ev (fun k => impl_cells.f k (n : Int)) (QFnTrianglesAreCut.cellsT n) := by rw [← h.cellsT]; exact h.cells
theorem Side.cellsS : Ev (fun k => spec_meCells.f k (n : Int)) (QFnTrianglesAreCut.cellsT n) := by rw [← h.cellsT]; exact h.meCells
theorem Side.bordI : Ev (fun k => impl_border.f k (n : Int)) (bordT n) := Ev.of (fun k => impl_border.mono _ k) (eq_of_beq (h.tab bordI_tab))
theorem Side.geo : (QFnTrianglesAreCut.cellsT n).length = n * n ∧ (bordT n).length = 3 * n ∧ (∀ i, i < n * n → okCell (QFnTrianglesAreCut.cellsT n) (many n) i = true) ∧ ∀ s ∈ stepsT (bordT n), okStep (QFnTrianglesAreCut.cellsT n) (many n) s = true := by
  have a := h.tab QFnTrianglesAreCut.geo
  simp only [Bool.and_eq_true, decide_eq_true_eq] at a
  exact ⟨a.1.1, a.1.2, fun i hi => List.all_eq_true.1 a.2.1 i (List.mem_range.2 hi), fun s hs => List.all_eq_true.1 a.2.2 s hs⟩
end
end Go.Proofs.Ythkdkgbcokpbaab.QFnTrianglesAreCut
/-! What the reference's cursor draws: a number within the bounds that were asked for, whatever the bytes are. -/
namespace Go.Proofs.Ythkdkgbcokpbaab.QFnTrianglesAreCut
open Go.RowKit Go.Proofs.Ythkdkgbcokpbaab.PFnTrianglesAreCut Go.Proofs.YthkdkgbcokpbaabW.PrintWords Go.Proofs.YthkdkgbcokpbaabW.PrintLast Go.Proofs.YthkdkgbcokpbaabW.PrintMore
set_option linter.unusedVariables false
set_option linter.unusedSimpArgs false
def U8 (l : List Int) : Prop := ∀ x ∈ l, (Lit.int .u8 x).wf = true
theorem u8_rd {l : List Int} (h : U8 l) (i : Int) : 0 ≤ rd l i ∧ rd l i ≤ 255 := by
  unfold rd
  rw [List.getD_eq_getElem?_getD]
  cases hc : l[i.toNat]? with
  | none => exact ⟨Int.le_refl 0, by decide⟩
  | some x =>
    have h1 := h x (List.mem_of_getElem? hc)
    have h2 := Bool.and_eq_true_iff.1 (show (decide (IntKind.u8.min ≤ x) && decide (x ≤ IntKind.u8.max)) = true from h1)
    have h3 : (0 : Int) ≤ x := of_decide_eq_true h2.1
    have h4 : x ≤ 255 := of_decide_eq_true h2.2
    exact ⟨h3, h4⟩
theorem and255 {x : Int} (h0 : 0 ≤ x) (h1 : x < 18446744073709551616) : 0 ≤ Go.bits .and .u64 x 255 ∧ Go.bits .and .u64 x 255 ≤ 255 := by
  obtain ⟨n, e⟩ := Int.eq_ofNat_of_zero_le h0
  subst e
  have h2 := bits_and_u64_nat n 255 (by omega) (by omega)
  rw [show ((255 : Nat) : Int) = 255 from rfl] at h2
  rw [h2]
  have := @Nat.and_le_right n 255
  omega
theorem next_ev {l : List Int} (h : U8 l) {a : Int} (s : Int) (h0 : 0 ≤ a) (h1 : a < 4611686018427387904) : ∃ v s', spec_l1Cur_next.f l a s = some (v, a + 1, s') ∧ 0 ≤ v ∧ v ≤ 255 := by
  unfold spec_l1Cur_next.f
  have hw : ∀ x : Int, 0 ≤ IntKind.u64.wrap x ∧ IntKind.u64.wrap x < 18446744073709551616 := fun x => by rw [IntKind.wrap_u64]; omega
  have hv : ∀ x : Int, 0 ≤ wrap64 (Go.bits .and .u64 (IntKind.u64.wrap x / 1099511627776) 255) ∧ wrap64 (Go.bits .and .u64 (IntKind.u64.wrap x / 1099511627776) 255) ≤ 255 := fun x => by
    have := hw x
    have h2 := and255 (x := IntKind.u64.wrap x / 1099511627776) (by omega) (by omega)
    rw [wr (by omega) (by omega)]
    exact h2
  rw [wr (show -9223372036854775808 ≤ a + 1 by omega) (by omega)]
  by_cases hl : a < (l.length : Int)
  · have hr := u8_rd h a
    rw [if_pos hl, if_pos h0, wr (show -9223372036854775808 ≤ rd l a by omega) (by omega), if_pos (by omega)]
    exact ⟨_, _, rfl, hr.1, hr.2⟩
  · rw [if_neg hl, if_neg (by omega)]
    exact ⟨_, _, rfl, hv _⟩
theorem pick_ev {l : List Int} (h : U8 l) {a : Int} (s n : Int) (h0 : 0 ≤ a) (h1 : a < 4611686018427387900) : ∃ v a' s', spec_l1Cur_pick.f l a s n = some (v, a', s') ∧ 0 ≤ v ∧ (v < n ∨ v = 0) ∧ a ≤ a' ∧ a' ≤ a + 2 := by
  unfold spec_l1Cur_pick.f
  by_cases hn : n ≤ 1
  · rw [if_pos hn]
    exact ⟨_, _, _, rfl, Int.le_refl 0, .inr rfl, by omega, by omega⟩
  · obtain ⟨v, s1, e1, v0, v1⟩ := next_ev h s h0 (by omega)
    rw [if_neg hn, e1, Option.bind_some]
    by_cases h2 : n > 200
    · obtain ⟨v', s2, e2, w0, w1⟩ := next_ev h s1 (show 0 ≤ a + 1 by omega) (by omega)
      rw [if_pos h2]
      dsimp only
      rw [e2, Option.bind_some, if_neg (by omega)]
      dsimp only
      rw [wr (show -9223372036854775808 ≤ v * 256 by omega) (by omega), wr (show -9223372036854775808 ≤ v * 256 + v' by omega) (by omega)]
      exact ⟨_, _, _, rfl, Int.tmod_nonneg _ (by omega), .inl (Int.tmod_lt_of_pos _ (by omega)), by omega, by omega⟩
    · rw [if_neg h2, if_neg (by omega)]
      exact ⟨_, _, _, rfl, Int.tmod_nonneg _ v0, .inl (Int.tmod_lt_of_pos _ (by omega)), by dsimp only; omega, by dsimp only; omega⟩
theorem among_ev {l : List Int} (h : U8 l) {a : Int} (s : Int) (L : List Int) (hL : 0 < L.length) (h0 : 0 ≤ a) (h1 : a < 4611686018427387900) : ∃ v a' s', spec_l1Cur_among.f l a s L = some (v, a', s') ∧ v ∈ L ∧ a ≤ a' ∧ a' ≤ a + 2 := by
  unfold spec_l1Cur_among.f
  obtain ⟨v, a', s', e, v0, v1, h2, h3⟩ := pick_ev h s (L.length : Int) h0 h1
  rw [e, Option.bind_some]
  dsimp only
  rw [if_pos v0, if_pos (by omega)]
  refine ⟨_, _, _, rfl, ?_, h2, h3⟩
  unfold rd
  rw [List.getD_eq_getElem?_getD, List.getElem?_eq_getElem (by omega)]
  exact List.getElem_mem _
end Go.Proofs.Ythkdkgbcokpbaab.QFnTrianglesAreCut
/-! Once in so many times, as it is drawn. -/
namespace Go.Proofs.Ythkdkgbcokpbaab.QFnTrianglesAreCut
open Go.RowKit Go.Proofs.YthkdkgbcokpbaabOwn Go.Proofs.Ythkdkgbcokpbaab.PFnTrianglesAreCut Go.Proofs.YthkdkgbcokpbaabW.PrintWords Go.Proofs.YthkdkgbcokpbaabW.PrintLast Go.Proofs.YthkdkgbcokpbaabW.PrintMore
set_option linter.unusedVariables false
set_option linter.unusedSimpArgs false
set_option maxRecDepth 100000
theorem one_ev {l : List Int} (h : U8 l) {a : Int} (s n : Int) (h0 : 0 ≤ a) (h1 : a < 4611686018427387900) : ∃ b a' s', spec_l1Cur_one.f l a s n = some (b, a', s') ∧ a ≤ a' ∧ a' ≤ a + 2 := by
  obtain ⟨v, a', s', e, _, _, h2, h3⟩ := pick_ev h s n h0 h1
  exact ⟨v == 0, a', s', by unfold spec_l1Cur_one.f; rw [e]; rfl, h2, h3⟩
end Go.Proofs.Ythkdkgbcokpbaab.QFnTrianglesAreCut
/-! Points are their numbers and back, neighbours are so both ways, and each two share one cell on the border and two inside: for every input; there are no conditions. -/
namespace Go.Proofs.Ythkdkgbcokpbaab.Pure
open Go.RowKit Go.Proofs.YthkdkgbcokpbaabOwn Go.Proofs.Ythkdkgbcokpbaab.PFnTrianglesAreCut Go.Proofs.YthkdkgbcokpbaabW.PrintWords Go.Proofs.YthkdkgbcokpbaabW.PrintLast Go.Proofs.YthkdkgbcokpbaabW.PrintMore Go.Proofs.Ythkdkgbcokpbaab.QFnTrianglesAreCut
set_option linter.unusedVariables false
set_option linter.unusedSectionVars false
set_option maxRecDepth 100000
theorem in_spec (a b c : Int) : spec_l1In.f a b c = some (decide (b ≤ a ∧ a ≤ c)) := by
  unfold spec_l1In.f
  by_cases h : a ≥ b
  · rw [if_pos h]; simp [show b ≤ a from h]
  · rw [if_neg h]; simp [show ¬ b ≤ a from h]
theorem in_impl (a b c : Int) : impl_in.f a b c = some (decide (b ≤ a ∧ a ≤ c)) := by
  unfold impl_in.f
  by_cases h : b ≤ a
  · rw [if_pos h]; simp [h]
  · rw [if_neg h]; simp [h]
theorem side_spec (a : Int) : spec_meSide.f a = some (decide (1 ≤ a ∧ a ≤ 8)) := by
  unfold spec_meSide.f
  rw [in_spec]; rfl
theorem side_impl (a : Int) : impl_isSide.f a = some (decide (1 ≤ a ∧ a ≤ 8)) := by
  unfold impl_isSide.f
  rw [in_impl]; rfl
theorem many_impl {n : Nat} (h : Side n) : impl_many.f (n : Int) = some (many n : Int) := by
  have : n = 1 ∨ n = 2 ∨ n = 3 ∨ n = 4 ∨ n = 5 ∨ n = 6 ∨ n = 7 ∨ n = 8 := by have := h.lo; have := h.hi; omega
  rcases this with rfl | rfl | rfl | rfl | rfl | rfl | rfl | rfl <;> decide +kernel
theorem point_spec {n : Nat} (h : Side n) (i : Int) : spec_mePoint.f (n : Int) i = some (decide (0 ≤ i ∧ i < many n)) := by
  have hb := many_le h.hi
  unfold spec_mePoint.f
  rw [side_spec, count_ev h rfl]
  have e : decide ((1 : Int) ≤ n ∧ (n : Int) ≤ 8) = true := by have := h.lo; have := h.hi; simp; omega
  simp only [e, Option.bind_some, if_true, in_spec]
  rw [wr (by omega) (by omega)]
  exact congrArg some (decide_eq_decide.2 (by omega))
theorem side_of {a : Int} (h : 1 ≤ a ∧ a ≤ 8) : ∃ n : Nat, a = (n : Int) ∧ Side n := by
  obtain ⟨n, rfl⟩ := Int.eq_ofNat_of_zero_le (show 0 ≤ a by omega)
  exact ⟨n, rfl, ⟨by omega, by omega⟩⟩
theorem rdI_at {l : List Int} {i : Nat} (h : i < l.length) : rd l (i : Int) = l[i] := by rw [rd_nat, List.getD_eq_getElem?_getD, List.getElem?_eq_getElem h]; rfl
section
variable {n : Nat} (h : Side n)
include h
def okP (n : Nat) (l : List Int) : Bool := l.all fun x => decide (0 ≤ x ∧ x < (many n : Int))
theorem isP_one (x : Int) : impl_isPoint_1.f x [(n : Int)] = some (!decide (0 ≤ x ∧ x < (many n : Int))) := by
  have hb := many_le h.hi
  unfold impl_isPoint_1.f
  rw [if_pos (by simp), rd_one, many_impl h, Option.bind_some, in_impl, wr (by omega) (by omega), Option.bind_some]
  exact congrArg some (congrArg _ (decide_eq_decide.2 (by omega)))
theorem isP_loop (l : List Int) (hl : l.length ≤ 1000) : ∀ d i : Nat, i + d = l.length → ∃ r : Int, Ev (fun k => slices_IndexFunc_int_int__impl_isPoint_1.l0 k l (l.length : Int) (i : Int) [(n : Int)]) r ∧ decide (r ≥ 0) = !okP n (l.drop i)
  | 0, i, hi => ⟨-1, Ev.step (fun f => slices_IndexFunc_int_int__impl_isPoint_1.l0.eq_2 ..) (ev_neg (by omega) (Ev.now _)), by rw [List.drop_eq_nil_of_le (by omega)]; rfl⟩
  | d + 1, i, hi => by
    have hlt : i < l.length := by omega
    by_cases hc : 0 ≤ l[i] ∧ l[i] < (many n : Int)
    · obtain ⟨r, h1, h2⟩ := isP_loop l hl d (i + 1) (by omega)
      refine ⟨r, Ev.step (fun f => slices_IndexFunc_int_int__impl_isPoint_1.l0.eq_2 ..) (ev_pos (by omega) (ev_pos (by omega) (ev_pos (by omega) (ev_bind0 (isP_one h _) (ev_neg (by rw [rdI_at hlt, decide_eq_true hc]; decide) ?_))))), ?_⟩
      · rw [wr (by omega) (by omega)]; exact h1
      · rw [h2]
        unfold okP
        rw [List.drop_eq_getElem_cons hlt, List.all_cons, decide_eq_true hc, Bool.true_and]
    · refine ⟨i, Ev.step (fun f => slices_IndexFunc_int_int__impl_isPoint_1.l0.eq_2 ..) (ev_pos (by omega) (ev_pos (by omega) (ev_pos (by omega) (ev_bind0 (isP_one h _) (ev_pos (by rw [rdI_at hlt, decide_eq_false hc]; rfl) (Ev.now _)))))), ?_⟩
      unfold okP
      rw [List.drop_eq_getElem_cons hlt, List.all_cons, decide_eq_false hc, Bool.false_and, decide_eq_true (by omega)]
      rfl
theorem isP_ev (l : List Int) (hl : l.length ≤ 1000) : Ev (fun k => impl_isPoint.f k (n : Int) l) (okP n l) := by
  obtain ⟨r, h1, h2⟩ := isP_loop h l hl l.length 0 (by omega)
  rw [List.drop_zero] at h2
  refine ev_bind0 (side_impl _) ?_
  rw [decide_eq_true (show (1 : Int) ≤ n ∧ (n : Int) ≤ 8 by have := h.lo; have := h.hi; omega)]
  refine ev_pos rfl (Ev.bind (Ev.bind h1 (Ev.now _)) (ev_eq (Ev.now _) ?_))
  rw [h2, Bool.not_not]
end
theorem isP_no {a : Int} (ha : ¬ (1 ≤ a ∧ a ≤ 8)) (l : List Int) : Ev (fun k => impl_isPoint.f k a l) false := by
  refine ev_bind0 (side_impl _) ?_
  rw [decide_eq_false ha]
  exact ev_neg (by decide) (Ev.now _)
theorem point_no {a : Int} (ha : ¬ (1 ≤ a ∧ a ≤ 8)) (i : Int) : spec_mePoint.f a i = some false := by unfold spec_mePoint.f; rw [side_spec, decide_eq_false ha]; rfl
/-! ### tables -/
def ptL (n i : Nat) : List Int := [(rdP (ptsFn n) i).f0, (rdP (ptsFn n) i).f1, (rdP (ptsFn n) i).f2]
def nbL (n i : Nat) : List Int := List.map (α := Nat) (fun j => (j : Int)) ((List.range (many n)).filter (fun j => NB n i j))
def sdL (n i : Nat) : List Int := (if (rdP (ptsFn n) i).f0 = 0 then [0] else []) ++ ((if (rdP (ptsFn n) i).f1 = 0 then [1] else []) ++ (if (rdP (ptsFn n) i).f2 = 0 then [2] else []))
def vars (p : List Int) : List (List Int) := p :: (p ++ [0]) :: p.set 0 4611686018427387904 :: ([0, 1, 2] : List Nat).flatMap fun j => ([0, 1, 2] : List Int).map fun d => p.set j (wrap64 (rd p (j : Int) + wrap64 (d - 1)))
def cellAt (n c : Nat) : List Int := (cellsT n).getD c []
def upB (n c : Nat) : Bool := spec_meUp.f 40 (n : Int) (cellAt n c) == some true
theorem nb_tab : ((List.range 9).all fun n => n == 0 || (List.range 45).all fun i => decide (many n ≤ i) || (impl_NeighboursOf.f 120 (n : Int) (i : Int) == some (nbL n i, true) && spec_NeighboursOf.f 60 (n : Int) (i : Int) == some (nbL n i, true))) = true := by decide +kernel
theorem sd_tab : ((List.range 9).all fun n => n == 0 || (List.range 45).all fun i => decide (many n ≤ i) || (impl_SidesOf.f 120 (n : Int) (i : Int) == some (sdL n i, true) && spec_SidesOf.f 60 (n : Int) (i : Int) == some (sdL n i, true))) = true := by decide +kernel
theorem ix_tab : ((List.range 9).all fun n => n == 0 || (List.range 45).all fun i => decide (many n ≤ i) || (impl_IndexOfPoint.f 120 (n : Int) (ptL n i) == some ((i : Int), true) && (laws_uSum.f 10 (ptL n i) == some (n : Int) && laws_uHas.f 60 (bordT n) (i : Int) == some (decide (((sdL n i).length : Int) > 0))))) = true := by decide +kernel
theorem cw_tab : ((List.range 9).all fun n => n == 0 || (List.range 45).all fun i => decide (many n ≤ i) || (nbL n i).all fun j => laws_uHas.f 60 (nbL n j.toNat) (i : Int) == some true && (decide (1 ≤ (wth (cellsT n) (i : Int) j).length) && decide ((wth (cellsT n) (i : Int) j).length ≤ 2))) = true := by decide +kernel
theorem var_tab : ((List.range 9).all fun n => n == 0 || (List.range 45).all fun i => decide (many n ≤ i) || (vars (ptL n i)).all fun q => (impl_IndexOfPoint.f 120 (n : Int) q).isSome && impl_IndexOfPoint.f 120 (n : Int) q == spec_IndexOfPoint.f 20 (n : Int) q) = true := by decide +kernel
theorem up_tab : ((List.range 9).all fun n => n == 0 || (List.range (n * n)).all fun c => spec_meUp.f 40 (n : Int) (cellAt n c) == some (upB n c) && impl_isUp.f 120 (n : Int) (cellAt n c) == some (upB n c)) = true := by decide +kernel
theorem less_tab : ((List.range 9).all fun n => n == 0 || (List.range (n * n)).all fun c => c == 0 || laws_uLess.f 10 (cellAt n (c - 1)) (cellAt n c) == some true) = true := by decide +kernel
theorem end_tab : ((List.range 9).all fun n => n == 0 || (decide (((cellsT n).length : Int) = wrap64 ((n : Int) * (n : Int))) && (decide ((((List.range (n * n)).filter (upB n)).length : Int) = wrap64 (Int.tdiv (wrap64 ((n : Int) * (wrap64 ((n : Int) + 1)))) 2)) && decide ((many n : Int) = wrap64 (Int.tdiv (wrap64 ((wrap64 ((n : Int) + 1)) * (wrap64 ((n : Int) + 2)))) 2))))) = true := by decide +kernel
section
variable {n : Nat} (h : Side n)
include h
theorem tab2 {f : Nat → Nat → Bool} (hf : ((List.range 9).all fun n => n == 0 || (List.range 45).all fun i => decide (many n ≤ i) || f n i) = true) {i : Nat} (hi : i < many n) : f n i = true := by
  have hb := many_le h.hi
  have a := List.all_eq_true.1 (h.tab hf) i (List.mem_range.2 (by omega))
  rw [decide_eq_false (by omega), Bool.false_or] at a
  exact a
theorem nb_ev {i : Nat} (hi : i < many n) : Ev (fun k => impl_NeighboursOf.f k (n : Int) (i : Int)) (nbL n i, true) ∧ Ev (fun k => spec_NeighboursOf.f k (n : Int) (i : Int)) (nbL n i, true) := by
  have a := Bool.and_eq_true_iff.1 (tab2 h nb_tab hi)
  exact ⟨Ev.of (fun k => impl_NeighboursOf.mono _ _ k) (eq_of_beq a.1), Ev.of (fun k => spec_NeighboursOf.mono _ _ k) (eq_of_beq a.2)⟩
theorem sd_ev {i : Nat} (hi : i < many n) : Ev (fun k => impl_SidesOf.f k (n : Int) (i : Int)) (sdL n i, true) ∧ Ev (fun k => spec_SidesOf.f k (n : Int) (i : Int)) (sdL n i, true) := by
  have a := Bool.and_eq_true_iff.1 (tab2 h sd_tab hi)
  exact ⟨Ev.of (fun k => impl_SidesOf.mono _ _ k) (eq_of_beq a.1), Ev.of (fun k => spec_SidesOf.mono _ _ k) (eq_of_beq a.2)⟩
theorem ix_ev {i : Nat} (hi : i < many n) : Ev (fun k => impl_IndexOfPoint.f k (n : Int) (ptL n i)) ((i : Int), true) ∧ Ev (fun k => laws_uSum.f k (ptL n i)) (n : Int) ∧ Ev (fun k => laws_uHas.f k (bordT n) (i : Int)) (decide (((sdL n i).length : Int) > 0)) := by
  have a := Bool.and_eq_true_iff.1 (tab2 h ix_tab hi)
  have b := Bool.and_eq_true_iff.1 a.2
  exact ⟨Ev.of (fun k => impl_IndexOfPoint.mono _ _ k) (eq_of_beq a.1), Ev.of (fun k => laws_uSum.mono _ k) (eq_of_beq b.1), Ev.of (fun k => laws_uHas.mono _ _ k) (eq_of_beq b.2)⟩
theorem cw_ev {i : Nat} (hi : i < many n) {j : Int} (hj : j ∈ nbL n i) : Ev (fun k => laws_uHas.f k (nbL n j.toNat) (i : Int)) true ∧ 1 ≤ (wth (cellsT n) (i : Int) j).length ∧ (wth (cellsT n) (i : Int) j).length ≤ 2 := by
  have a := Bool.and_eq_true_iff.1 (List.all_eq_true.1 (tab2 h cw_tab hi) j hj)
  have b := Bool.and_eq_true_iff.1 a.2
  exact ⟨Ev.of (fun k => laws_uHas.mono _ _ k) (eq_of_beq a.1), of_decide_eq_true b.1, of_decide_eq_true b.2⟩
theorem var_ev {i : Nat} (hi : i < many n) {q : List Int} (hq : q ∈ vars (ptL n i)) : ∃ r, Ev (fun k => impl_IndexOfPoint.f k (n : Int) q) r ∧ Ev (fun k => spec_IndexOfPoint.f k (n : Int) q) r := by
  have a := Bool.and_eq_true_iff.1 (List.all_eq_true.1 (tab2 h var_tab hi) q hq)
  obtain ⟨r, hr⟩ := Option.isSome_iff_exists.1 a.1
  have e := eq_of_beq a.2
  exact ⟨r, Ev.of (fun k => impl_IndexOfPoint.mono _ _ k) hr, Ev.of (fun k => spec_IndexOfPoint.mono _ _ k) (e.symm.trans hr)⟩
theorem up_ev {c : Nat} (hc : c < n * n) : Ev (fun k => spec_meUp.f k (n : Int) (cellAt n c)) (upB n c) ∧ Ev (fun k => impl_isUp.f k (n : Int) (cellAt n c)) (upB n c) := by
  have a := Bool.and_eq_true_iff.1 (List.all_eq_true.1 (h.tab up_tab) c (List.mem_range.2 hc))
  exact ⟨Ev.of (fun k => spec_meUp.mono _ _ k) (eq_of_beq a.1), Ev.of (fun k => impl_isUp.mono _ _ k) (eq_of_beq a.2)⟩
theorem less_ev {c : Nat} (hc : c + 1 < n * n) : Ev (fun k => laws_uLess.f k (cellAt n c) (cellAt n (c + 1))) true := by
  have a := List.all_eq_true.1 (h.tab less_tab) (c + 1) (List.mem_range.2 hc)
  rw [show (c + 1 == 0) = false from rfl, Bool.false_or, Nat.add_sub_cancel] at a
  exact Ev.of (fun k => laws_uLess.mono _ _ k) (eq_of_beq a)
theorem nn_le : n * n ≤ 64 := Nat.mul_le_mul h.hi h.hi
theorem lenC : (cellsT n).length = n * n := h.geo.1
theorem three : ∀ c ∈ cellsT n, c.length = 3 := by rw [← h.cellsT]; exact cells_each n
theorem wth_len (x y : Int) : (wth (cellsT n) x y).length ≤ 64 := by
  have := withFn_len (cellsT n) x y (cellsT n).length 0
  have := nn_le h
  have := lenC h
  unfold wth
  omega
theorem nbL_len (i : Nat) : (nbL n i).length ≤ 45 := by
  have := many_le h.hi
  have := List.length_filter_le (fun j => NB n i j) (List.range (many n))
  unfold nbL
  rw [List.length_map]
  rw [List.length_range] at this
  omega
end
theorem nbL_lt {n i : Nat} {j : Int} (hj : j ∈ nbL n i) : ∃ j' : Nat, j = (j' : Int) ∧ j' < many n ∧ NB n i j' = true := by
  obtain ⟨j', h1, rfl⟩ := List.mem_map.1 hj
  have h2 := List.mem_filter.1 h1
  exact ⟨j', rfl, List.mem_range.1 h2.1, h2.2⟩
/-! ### the laws' helpers -/
theorem sameU_loop (a : List Int) (ha : a.length ≤ 10000) : ∀ d i : Nat, i + d = a.length → Ev (fun f => laws_uSame.l0 f a a (a.length : Int) (i : Int)) true
  | 0, i, h => Ev.step (fun f => laws_uSame.l0.eq_2 ..) (ev_neg (by omega) (Ev.now _))
  | d + 1, i, h => by
    refine Ev.step (fun f => laws_uSame.l0.eq_2 ..) (ev_pos (by omega) (ev_pos (by omega) (ev_pos (by omega) (ev_pos (by omega) (ev_pos rfl ?_)))))
    rw [wr (show -9223372036854775808 ≤ (i : Int) + 1 by omega) (by omega)]
    exact sameU_loop a ha d (i + 1) (by omega)
theorem sameU_ev (a : List Int) (ha : a.length ≤ 10000) : Ev (fun f => laws_uSame.f f a a) true := ev_pos rfl (sameU_loop a ha a.length 0 (by omega))
theorem rdR_at {T : List (List Int)} {i : Nat} (h : i < T.length) : rd_L3 T (i : Int) = T[i] := by
  unfold rd_L3
  rw [Int.toNat_natCast, List.getD_eq_getElem?_getD, List.getElem?_eq_getElem h]; rfl
theorem rows_loop (A : List (List Int)) (ha : A.length ≤ 10000) (he : ∀ r ∈ A, r.length ≤ 10000) : ∀ d i : Nat, i + d = A.length → Ev (fun f => laws_uSameRows.l0 f A A (A.length : Int) (i : Int)) true
  | 0, i, h => Ev.step (fun f => laws_uSameRows.l0.eq_2 ..) (ev_neg (by omega) (Ev.now _))
  | d + 1, i, h => by
    have hlt : i < A.length := by omega
    refine Ev.step (fun f => laws_uSameRows.l0.eq_2 ..) (ev_pos (by omega) (ev_pos (by omega) (ev_pos (by omega) (ev_pos (by omega) ?_))))
    rw [rdR_at hlt, wr (show -9223372036854775808 ≤ (i : Int) + 1 by omega) (by omega)]
    exact Ev.bind (sameU_ev _ (he _ (List.getElem_mem hlt))) (ev_pos rfl (rows_loop A ha he d (i + 1) (by omega)))
theorem rows_ev (A : List (List Int)) (ha : A.length ≤ 10000) (he : ∀ r ∈ A, r.length ≤ 10000) : Ev (fun f => laws_uSameRows.f f A A) true := ev_pos rfl (rows_loop A ha he A.length 0 (by omega))
/-! ### the same answers -/
theorem cells_with {n : Nat} (h : Side n) {i j : Nat} (hi : i < many n) (hj : j < many n) (hN : NB n i j = true) : Ev (fun k => impl_CellsWith.f k (n : Int) (i : Int) (j : Int)) (wth (cellsT n) i j, true) ∧ Ev (fun k => spec_CellsWith.f k (n : Int) (i : Int) (j : Int)) (wth (cellsT n) i j, true) := by
  have hlen := pts_lenI h rfl
  have hc := lenC h
  have hnn := nn_le h
  have ok : okP n [(i : Int), (j : Int)] = true := by unfold okP; simp; omega
  constructor
  · refine Ev.bind (isP_ev h _ (by simp)) ?_
    rw [ok]
    refine ev_pos rfl (Ev.bind h.points ?_)
    rw [hlen]
    refine ev_pos (by omega) (ev_pos (by omega) (ev_pos (by omega) (ev_pos (by omega) (Ev.bind (h.near hi hj) ?_))))
    rw [hN]
    exact ev_pos rfl (Ev.bind h.cellsI (Ev.bind (with_ev _ _ _ (by omega) (three h)) (Ev.now _)))
  · refine ev_bind0 (point_spec h _) ?_
    rw [decide_eq_true (show 0 ≤ (i : Int) ∧ (i : Int) < (many n : Int) by omega)]
    refine ev_pos rfl (ev_bind0 (point_spec h _) ?_)
    rw [decide_eq_true (show 0 ≤ (j : Int) ∧ (j : Int) < (many n : Int) by omega)]
    refine ev_pos rfl (Ev.bind (h.meNear hi hj) ?_)
    rw [hN]
    exact Ev.step (fun f => spec_CellsWith.j0.eq_2 ..) (ev_neg (by decide) (Ev.bind h.cellsS (Ev.bind (meWith_ev _ _ _ (by omega) (three h)) (Ev.now _))))
theorem cells_same (a x y : Int) : ∃ r : List Int × Bool, Ev (fun k => impl_CellsWith.f k a x y) r ∧ Ev (fun k => spec_CellsWith.f k a x y) r ∧ r.1.length ≤ 100 := by
  by_cases hn : 1 ≤ a ∧ a ≤ 8
  · obtain ⟨n, rfl, h⟩ := side_of hn
    have hlen := pts_lenI h rfl
    by_cases hi : 0 ≤ x ∧ x < (many n : Int)
    · by_cases hj : 0 ≤ y ∧ y < (many n : Int)
      · obtain ⟨i, rfl⟩ := Int.eq_ofNat_of_zero_le hi.1
        obtain ⟨j, rfl⟩ := Int.eq_ofNat_of_zero_le hj.1
        cases hN : NB n i j with
        | true =>
          have g := cells_with h (show i < many n by omega) (show j < many n by omega) hN
          exact ⟨_, g.1, g.2, by have := wth_len h (i : Int) (j : Int); dsimp only; omega⟩
        | false =>
          have ok : okP n [(i : Int), (j : Int)] = true := by unfold okP; simp; omega
          refine ⟨([], false), ?_, ?_, by simp⟩
          · refine Ev.bind (isP_ev h _ (by simp)) ?_
            rw [ok]
            refine ev_pos rfl (Ev.bind h.points ?_)
            rw [hlen]
            refine ev_pos (by omega) (ev_pos (by omega) (ev_pos (by omega) (ev_pos (by omega) (Ev.bind (h.near (by omega) (by omega)) ?_))))
            rw [hN]
            exact ev_neg (by decide) (Ev.now _)
          · refine ev_bind0 (point_spec h _) ?_
            rw [decide_eq_true hi]
            refine ev_pos rfl (ev_bind0 (point_spec h _) ?_)
            rw [decide_eq_true hj]
            refine ev_pos rfl (Ev.bind (h.meNear (by omega) (by omega)) ?_)
            rw [hN]
            exact Ev.step (fun f => spec_CellsWith.j0.eq_2 ..) (ev_pos rfl (Ev.now _))
      · have ok : okP n [x, y] = false := by unfold okP; rw [List.all_cons, List.all_cons, decide_eq_false hj]; simp
        refine ⟨([], false), ?_, ?_, by simp⟩
        · refine Ev.bind (isP_ev h _ (by simp)) ?_
          rw [ok]
          exact ev_neg (by decide) (Ev.now _)
        · refine ev_bind0 (point_spec h _) ?_
          rw [decide_eq_true hi]
          refine ev_pos rfl (ev_bind0 (point_spec h _) ?_)
          rw [decide_eq_false hj]
          exact ev_neg (by decide) (Ev.step (fun f => spec_CellsWith.j0.eq_2 ..) (ev_pos rfl (Ev.now _)))
    · have ok : okP n [x, y] = false := by unfold okP; rw [List.all_cons, decide_eq_false hi]; simp
      refine ⟨([], false), ?_, ?_, by simp⟩
      · refine Ev.bind (isP_ev h _ (by simp)) ?_
        rw [ok]
        exact ev_neg (by decide) (Ev.now _)
      · refine ev_bind0 (point_spec h _) ?_
        rw [decide_eq_false hi]
        exact ev_neg (by decide) (Ev.step (fun f => spec_CellsWith.j0.eq_2 ..) (ev_pos rfl (Ev.now _)))
  · refine ⟨([], false), Ev.bind (isP_no hn _) (ev_neg (by decide) (Ev.now _)), ?_, by simp⟩
    exact ev_bind0 (point_no hn _) (ev_neg (by decide) (Ev.step (fun f => spec_CellsWith.j0.eq_2 ..) (ev_pos rfl (Ev.now _))))
theorem rd_cell {n : Nat} (c : Nat) : rd_L3 (cellsT n) (c : Int) = cellAt n c := rfl
theorem isUp_both {n : Nat} (h : Side n) {c : Nat} (hc : c < n * n) : Ev (fun k => impl_IsUpCell.f k (n : Int) (c : Int)) (upB n c, true) ∧ Ev (fun k => spec_IsUpCell.f k (n : Int) (c : Int)) (upB n c, true) := by
  have hl := lenC h
  have hnn := nn_le h
  have hu := up_ev h hc
  have en : True → (n : Int) * (n : Int) = ((n * n : Nat) : Int) := fun _ => (Int.natCast_mul n n).symm
  have hs : decide ((1 : Int) ≤ n ∧ (n : Int) ≤ 8) = true := decide_eq_true (by have := h.lo; have := h.hi; omega)
  have hr : decide ((0 : Int) ≤ (c : Int) ∧ (c : Int) ≤ wrap64 (wrap64 ((n : Int) * (n : Int)) - 1)) = true := by
    rw [en trivial, wr (show -9223372036854775808 ≤ ((n * n : Nat) : Int) by omega) (by omega), wr (by omega) (by omega)]
    exact decide_eq_true (by omega)
  constructor
  · refine ev_bind0 (a := true) (by unfold impl_isCell.f; rw [side_impl, hs, Option.bind_some, if_pos rfl, in_impl, hr]; rfl) (ev_pos rfl (Ev.bind h.cellsI (ev_pos (by omega) (ev_pos (by omega) ?_))))
    rw [rd_cell]
    exact Ev.bind hu.2 (Ev.now _)
  · refine ev_bind0 (side_spec _) ?_
    rw [hs]
    refine ev_pos rfl (ev_bind0 (in_spec _ _ _) ?_)
    rw [hr]
    refine Ev.step (fun f => spec_IsUpCell.j0.eq_2 ..) (ev_neg (by decide) (Ev.bind h.cellsS (ev_pos (by omega) (ev_pos (by omega) ?_))))
    rw [rd_cell]
    exact Ev.bind hu.1 (Ev.now _)
theorem up_same (a x : Int) : ∃ r : Bool × Bool, Ev (fun k => impl_IsUpCell.f k a x) r ∧ Ev (fun k => spec_IsUpCell.f k a x) r := by
  by_cases hn : 1 ≤ a ∧ a ≤ 8
  · obtain ⟨n, rfl, h⟩ := side_of hn
    have hnn := nn_le h
    have en : True → (n : Int) * (n : Int) = ((n * n : Nat) : Int) := fun _ => (Int.natCast_mul n n).symm
    by_cases hx : 0 ≤ x ∧ x < ((n * n : Nat) : Int)
    · obtain ⟨c, rfl⟩ := Int.eq_ofNat_of_zero_le hx.1
      exact ⟨_, isUp_both h (by omega)⟩
    · have hr : decide ((0 : Int) ≤ x ∧ x ≤ wrap64 (wrap64 ((n : Int) * (n : Int)) - 1)) = false := by
        rw [en trivial, wr (show -9223372036854775808 ≤ ((n * n : Nat) : Int) by omega) (by omega), wr (by omega) (by omega)]
        exact decide_eq_false (by omega)
      refine ⟨(false, false), ?_, ?_⟩
      · refine ev_bind0 (a := false) (by unfold impl_isCell.f; rw [side_impl, decide_eq_true hn, Option.bind_some, if_pos rfl, in_impl, hr]; rfl) (ev_neg (by decide) (Ev.now _))
      · refine ev_bind0 (side_spec _) ?_
        rw [decide_eq_true hn]
        refine ev_pos rfl (ev_bind0 (in_spec _ _ _) ?_)
        rw [hr]
        exact Ev.step (fun f => spec_IsUpCell.j0.eq_2 ..) (ev_pos rfl (Ev.now _))
  · refine ⟨(false, false), ?_, ?_⟩
    · refine ev_bind0 (a := false) (by unfold impl_isCell.f; rw [side_impl, decide_eq_false hn, Option.bind_some, if_neg (by decide)]) (ev_neg (by decide) (Ev.now _))
    · refine ev_bind0 (side_spec _) ?_
      rw [decide_eq_false hn]
      exact ev_neg (by decide) (Ev.step (fun f => spec_IsUpCell.j0.eq_2 ..) (ev_pos rfl (Ev.now _)))
/-! ### draws -/
theorem side_ev {l : List Int} (h : U8 l) {a : Int} (s m : Int) (h0 : 0 ≤ a) (h1 : a ≤ 4611686018427380000) : ∃ v a' s', spec_l1Cur_side.f l a s m = some (v, a', s') ∧ a ≤ a' ∧ a' ≤ a + 4 := by
  unfold spec_l1Cur_side.f
  obtain ⟨b, a1, s1, e1, b1, c1⟩ := one_ev h s 12 h0 (by omega)
  rw [e1, Option.bind_some]
  dsimp only
  cases b with
  | true =>
    obtain ⟨v, a2, s2, e2, _, b2, c2⟩ := among_ev h s1 [-1, 0, 8, 9] (by decide) (show 0 ≤ a1 by omega) (by omega)
    rw [if_pos rfl, e2, Option.bind_some]
    exact ⟨_, _, _, rfl, by dsimp only; omega, by dsimp only; omega⟩
  | false =>
    obtain ⟨v, a2, s2, e2, _, _, b2, c2⟩ := pick_ev h s1 m (show 0 ≤ a1 by omega) (by omega)
    rw [if_neg (by decide), e2, Option.bind_some]
    exact ⟨_, _, _, rfl, by dsimp only; omega, by dsimp only; omega⟩
theorem index_same {l : List Int} (h : U8 l) : ∃ p r, Ev (fun k => spec_DrawIndexOfPoint.f k l) p ∧ Ev (fun k => impl_IndexOfPoint.f k p.1 p.2) r ∧ Ev (fun k => spec_IndexOfPoint.f k p.1 p.2) r := by
  obtain ⟨n, a1, s1, e1, b1, c1⟩ := side_ev h 0 6 (Int.le_refl 0) (by decide)
  by_cases hn : 1 ≤ n ∧ n ≤ 8
  · obtain ⟨n, rfl, hS⟩ := side_of hn
    have hb := many_le hS.hi
    have hm0 : 0 < many n := by
      unfold many
      have : 2 * 3 ≤ (n + 1) * (n + 2) := Nat.mul_le_mul (by have := hS.lo; omega) (by omega)
      omega
    obtain ⟨i, a2, s2, e2, i0, i1, b2, c2⟩ := pick_ev h s1 (many n : Int) b1 (by omega)
    obtain ⟨i, rfl⟩ := Int.eq_ofNat_of_zero_le i0
    have hi : i < many n := by omega
    have hat := hS.at_ hi
    obtain ⟨v, a3, s3, e3, v0, v1, b3, c3⟩ := pick_ev h s2 8 (show 0 ≤ a2 by omega) (by omega)
    have out : ∀ q : List Int, q ∈ vars (ptL n i) → Ev (fun k => spec_DrawIndexOfPoint.f k l) ((n : Int), q) → ∃ p r, Ev (fun k => spec_DrawIndexOfPoint.f k l) p ∧ Ev (fun k => impl_IndexOfPoint.f k p.1 p.2) r ∧ Ev (fun k => spec_IndexOfPoint.f k p.1 p.2) r := fun q hq hd => by
      obtain ⟨r, g1, g2⟩ := var_ev hS hi hq
      exact ⟨_, r, hd, g1, g2⟩
    have go : ∀ (q : List Int), Ev (fun k => if v = 0 then ((spec_l1Cur_pick.f l a3 s3 3).bind fun bt300 => (if 0 ≤ bt300.1 then (if bt300.1 < ((ptL n i).length : Int) then ((spec_l1Cur_pick.f l bt300.2.1 bt300.2.2 3).bind fun bt304 => (some ((n : Int), ((ptL n i).set (bt300.1 : Int).toNat (wrap64 ((rd (ptL n i) bt300.1) + (wrap64 (bt304.1 - 1)))))))) else (none)) else (none))) else (if v = 1 then (if (ptL n i).length < 17592186044416 then (some ((n : Int), ((ptL n i) ++ [0]))) else (none)) else (if v = 2 then (if 0 < ((ptL n i).length : Int) then (some ((n : Int), ((ptL n i).set (0 : Int).toNat 4611686018427387904))) else (none)) else (some ((n : Int), ptL n i))))) ((n : Int), q) → Ev (fun k => spec_DrawIndexOfPoint.f k l) ((n : Int), q) := fun q hq =>
      ev_bind0 e1 (ev_bind0 (side_spec _) (ev_pos (decide_eq_true hn) (ev_bind0 (count_ev hS rfl) (ev_bind0 e2 (Ev.bind hat (ev_bind0 e3 hq))))))
    by_cases h0 : v = 0
    · obtain ⟨j, a4, s4, e4, j0, j1, b4, c4⟩ := pick_ev h s3 3 (show 0 ≤ a3 by omega) (by omega)
      obtain ⟨d, a5, s5, e5, d0, d1, b5, c5⟩ := pick_ev h s4 3 (show 0 ≤ a4 by omega) (by omega)
      obtain ⟨j, rfl⟩ := Int.eq_ofNat_of_zero_le j0
      refine out _ ?_ (go _ (ev_pos h0 (ev_bind0 e4 (ev_pos j0 (ev_pos (show (j : Int) < ((ptL n i).length : Int) by unfold ptL; simp; omega) (ev_bind0 e5 (Ev.now _)))))))
      unfold vars
      refine List.mem_cons_of_mem _ (List.mem_cons_of_mem _ (List.mem_cons_of_mem _ (List.mem_flatMap.2 ⟨j, ?_, List.mem_map.2 ⟨d, ?_, ?_⟩⟩)))
      · have : j = 0 ∨ j = 1 ∨ j = 2 := by omega
        rcases this with rfl | rfl | rfl <;> simp
      · have : d = 0 ∨ d = 1 ∨ d = 2 := by omega
        rcases this with rfl | rfl | rfl <;> simp
      · rw [Int.toNat_natCast]
    · by_cases h1 : v = 1
      · exact out _ (by unfold vars; simp) (go _ (ev_neg h0 (ev_pos h1 (ev_pos (by unfold ptL; simp) (Ev.now _)))))
      · by_cases h2 : v = 2
        · exact out ((ptL n i).set 0 4611686018427387904) (by unfold vars; simp) (go _ (ev_neg h0 (ev_neg h1 (ev_pos h2 (ev_pos (by unfold ptL; simp) (Ev.now _))))))
        · exact out _ (by unfold vars; simp) (go _ (ev_neg h0 (ev_neg h1 (ev_neg h2 (Ev.now _)))))
  · refine ⟨(n, [0, 0, 0]), (0, false), ?_, ?_, ?_⟩
    · refine ev_bind0 e1 (ev_bind0 (side_spec _) ?_)
      rw [decide_eq_false hn]
      exact ev_neg (by decide) (Ev.now _)
    · refine ev_bind0 (side_impl _) ?_
      dsimp only
      rw [decide_eq_false hn]
      exact ev_neg (by decide) (Ev.now _)
    · refine ev_bind0 (side_spec _) ?_
      dsimp only
      rw [decide_eq_false hn]
      exact ev_neg (by decide) (Ev.now _)
/-! ### the law -/
theorem j9_ev {l : List Int} (h : U8 l) : Ev (fun f => laws_FnTrianglesAreCut.j9 f l) true := by
  obtain ⟨n, a1, s1, e1, b1, c1⟩ := side_ev h 0 5 (Int.le_refl 0) (by decide)
  obtain ⟨i, a2, s2, e2, i0, i1, b2, c2⟩ := pick_ev h s1 22 b1 (by omega)
  obtain ⟨j, a3, s3, e3, _, b3, c3⟩ := among_ev h s2 [1, 1, 2, 3, 4, 5, (-1), 0] (by decide) (show 0 ≤ a2 by omega) (by omega)
  have hd : spec_DrawCellsWith.f l = some (n, wrap64 (i - 1), wrap64 ((wrap64 (i - 1)) + j)) := by
    unfold spec_DrawCellsWith.f
    rw [e1, Option.bind_some]
    dsimp only
    rw [e2, Option.bind_some]
    dsimp only
    rw [e3]; rfl
  obtain ⟨v, a4, s4, e4, v0, v1, b4, c4⟩ := pick_ev h s1 27 b1 (by omega)
  have hd2 : spec_DrawIsUpCell.f l = some (n, wrap64 (v - 1)) := by
    unfold spec_DrawIsUpCell.f
    rw [e1, Option.bind_some]
    dsimp only
    rw [e4]; rfl
  obtain ⟨r, g1, g2, g3⟩ := cells_same n (wrap64 (i - 1)) (wrap64 ((wrap64 (i - 1)) + j))
  obtain ⟨q, k1, k2⟩ := up_same n (wrap64 (v - 1))
  exact Ev.step (fun f => laws_FnTrianglesAreCut.j9.eq_2 ..) (ev_bind0 hd (Ev.bind g1 (Ev.bind g2 (ev_bind0 hd2 (Ev.bind k1 (Ev.bind k2 (ev_pos (beq_self_eq_true _) (Ev.bind (sameU_ev _ (by omega)) (ev_pos rfl (ev_pos (beq_self_eq_true _) (ev_eq (Ev.now _) (beq_self_eq_true _))))))))))))
def ups (n c : Nat) : Nat := ((List.range c).filter (upB n)).length
theorem ups_succ (n c : Nat) : ups n (c + 1) = if upB n c = true then ups n c + 1 else ups n c := by
  unfold ups
  rw [List.range_succ, List.filter_append, List.length_append]
  by_cases hc : upB n c = true
  · rw [if_pos hc, List.filter_cons, if_pos hc]; simp
  · rw [if_neg hc, List.filter_cons, if_neg hc]; simp
theorem ups_le (n c : Nat) : ups n c ≤ c := by
  have := List.length_filter_le (upB n) (List.range c)
  rw [List.length_range] at this
  exact this
theorem l1_ev {l : List Int} (h : U8 l) {n : Nat} (hS : Side n) : ∀ d c : Nat, c + d = n * n → Ev (fun f => laws_FnTrianglesAreCut.l1 f l (n : Int) (cellsT n) (ups n c : Int) (cellsT n) ((cellsT n).length : Int) (c : Int)) true
  | 0, c, hc => by
    have hl := lenC hS
    have t := Bool.and_eq_true_iff.1 (hS.tab end_tab)
    have t2 := Bool.and_eq_true_iff.1 t.2
    have ec : c = n * n := by omega
    have hcnt : impl_CountPoints.f (n : Int) = some ((many n : Int), true) := by
      unfold impl_CountPoints.f
      rw [side_impl, decide_eq_true (show (1 : Int) ≤ n ∧ (n : Int) ≤ 8 by have := hS.lo; have := hS.hi; omega), Option.bind_some, if_pos rfl, many_impl hS]; rfl
    refine Ev.step (fun f => laws_FnTrianglesAreCut.l1.eq_2 ..) (ev_neg (by omega) (ev_bind0 hcnt (ev_pos (of_decide_eq_true t.1) (ev_pos ?_ (ev_pos rfl (ev_pos (of_decide_eq_true t2.2) (j9_ev h)))))))
    rw [ec]
    exact of_decide_eq_true t2.1
  | d + 1, c, hc => by
    have hl := lenC hS
    have hnn := nn_le hS
    have hlt : c < n * n := by omega
    have hu := (isUp_both hS hlt).1
    have hup := ups_le n c
    have ei : True → wrap64 ((c : Int) + 1) = ((c + 1 : Nat) : Int) := fun _ => by rw [wr (by omega) (by omega)]; omega
    have eu : True → wrap64 ((ups n c : Int) + 1) = ((ups n c + 1 : Nat) : Int) := fun _ => by rw [wr (by omega) (by omega)]; omega
    have ih := l1_ev h hS d (c + 1) (by omega)
    have j8 : Ev (fun f => laws_FnTrianglesAreCut.j8 f l (n : Int) (cellsT n) (ups n c : Int) (upB n c) (cellsT n) ((cellsT n).length : Int) (c : Int) false) true := by
      refine Ev.step (fun f => laws_FnTrianglesAreCut.j8.eq_2 ..) (ev_neg Bool.false_ne_true ?_)
      rw [ei trivial, eu trivial]
      rw [ups_succ] at ih
      by_cases hb : upB n c = true
      · rw [if_pos hb] at ih
        exact ev_pos hb ih
      · rw [if_neg hb] at ih
        exact ev_neg hb ih
    refine Ev.step (fun f => laws_FnTrianglesAreCut.l1.eq_2 ..) (ev_pos (by omega) (ev_pos (by omega) (ev_pos (by omega) (Ev.bind hu (ev_pos rfl ?_)))))
    rcases c with _ | c
    · exact ev_neg (by omega) j8
    · have hw : True → wrap64 (((c + 1 : Nat) : Int) - 1) = (c : Int) := fun _ => by rw [wr (by omega) (by omega)]; omega
      refine ev_pos (by omega) ?_
      rw [hw trivial]
      refine ev_pos (by omega) (ev_pos (by omega) ?_)
      rw [rd_cell, rd_cell]
      exact Ev.bind (less_ev hS hlt) j8
theorem j5_ev {l0 l1 : List Int} (h0 : U8 l0) (h1 : U8 l1) : Ev (fun f => laws_FnTrianglesAreCut.j5 f l0 l1 false) true := by
  obtain ⟨n, a1, s1, e1, b1, c1⟩ := side_ev h1 0 5 (Int.le_refl 0) (by decide)
  have hd : spec_DrawCellsOf.f l1 = some n := by
    unfold spec_DrawCellsOf.f
    rw [e1]; rfl
  refine Ev.step (fun f => laws_FnTrianglesAreCut.j5.eq_2 ..) (ev_neg Bool.false_ne_true (ev_bind0 hd ?_))
  by_cases hn : 1 ≤ n ∧ n ≤ 8
  · obtain ⟨n, rfl, hS⟩ := side_of hn
    have hl := lenC hS
    have hnn := nn_le hS
    have g1 : Ev (fun k => impl_CellsOf.f k (n : Int)) (cellsT n, true) := by
      refine ev_bind0 (side_impl _) ?_
      rw [decide_eq_true hn]
      exact ev_pos rfl (Ev.bind hS.cellsI (Ev.now _))
    have g2 : Ev (fun k => spec_CellsOf.f k (n : Int)) (cellsT n, true) := by
      refine ev_bind0 (side_spec _) ?_
      rw [decide_eq_true hn]
      exact ev_pos rfl (Ev.bind hS.cellsS (Ev.now _))
    refine Ev.bind g1 (Ev.bind g2 (ev_neg Bool.false_ne_true (Ev.bind (rows_ev (cellsT n) (by omega) (fun r hr => by have := three hS r hr; omega)) ?_)))
    exact Ev.step (fun f => laws_FnTrianglesAreCut.j6.eq_2 ..) (ev_neg Bool.false_ne_true (ev_pos rfl (l1_ev h0 hS (n * n) 0 (Nat.zero_add _))))
  · have g1 : Ev (fun k => impl_CellsOf.f k n) ([], false) := by
      refine ev_bind0 (side_impl _) ?_
      rw [decide_eq_false hn]
      exact ev_neg Bool.false_ne_true (Ev.now _)
    have g2 : Ev (fun k => spec_CellsOf.f k n) ([], false) := by
      refine ev_bind0 (side_spec _) ?_
      rw [decide_eq_false hn]
      exact ev_neg Bool.false_ne_true (Ev.now _)
    refine Ev.bind g1 (Ev.bind g2 (ev_neg Bool.false_ne_true (Ev.bind (rows_ev [] (by simp) (fun r hr => (by cases hr))) ?_)))
    exact Ev.step (fun f => laws_FnTrianglesAreCut.j6.eq_2 ..) (ev_neg Bool.false_ne_true (ev_neg Bool.false_ne_true (j9_ev h0)))
theorem j4_ev {l0 l1 : List Int} (h0 : U8 l0) (h1 : U8 l1) : Ev (fun f => laws_FnTrianglesAreCut.j4 f l0 l1) true := by
  obtain ⟨p, r, g1, g2, g3⟩ := index_same h1
  refine Ev.step (fun f => laws_FnTrianglesAreCut.j4.eq_2 ..) (Ev.bind g1 (Ev.bind g2 (Ev.bind g3 (ev_neg (by rw [bne_self_eq_false]; decide) ?_))))
  rw [bne_self_eq_false]
  exact j5_ev h0 h1
theorem l0_ev {l0 l1 : List Int} (h0 : U8 l0) (h1 : U8 l1) {n : Nat} (hS : Side n) {i : Nat} (hi : i < many n) : ∀ d t : Nat, t + d = (nbL n i).length → Ev (fun f => laws_FnTrianglesAreCut.l0 f l0 l1 (n : Int) (i : Int) (nbL n i) ((nbL n i).length : Int) (t : Int)) true
  | 0, t, ht => Ev.step (fun f => laws_FnTrianglesAreCut.l0.eq_2 ..) (ev_neg (by omega) (j4_ev h0 h1))
  | d + 1, t, ht => by
    have hlt : t < (nbL n i).length := by omega
    have hL := nbL_len hS i
    have ei : True → wrap64 ((t : Int) + 1) = ((t + 1 : Nat) : Int) := fun _ => by rw [wr (by omega) (by omega)]; omega
    have hmem := List.getElem_mem hlt
    have er := rdI_at hlt
    generalize (nbL n i)[t] = j at hmem er
    obtain ⟨j', rfl, hj, hN⟩ := nbL_lt hmem
    have hc := cw_ev hS hi hmem
    rw [Int.toNat_natCast] at hc
    refine Ev.step (fun f => laws_FnTrianglesAreCut.l0.eq_2 ..) (ev_pos (by omega) (ev_pos (by omega) (ev_pos (by omega) ?_)))
    rw [er, ei trivial]
    exact Ev.bind (nb_ev hS hj).1 (Ev.bind (cells_with hS hi hj hN).1 (ev_pos rfl (Ev.bind hc.1 (ev_pos rfl (ev_pos rfl (ev_neg (by dsimp only; omega) (ev_neg (by dsimp only; omega) (l0_ev h0 h1 hS hi d (t + 1) (by omega)))))))))
theorem FnTrianglesAreCut : laws_FnTrianglesAreCut.Pure := by
  intro l0 l1 _ _ u0 _ _ u1
  apply Ev.rounds
  obtain ⟨b, hb⟩ : ∃ b, laws_big.f l0 l1 = some b := by
    unfold laws_big.f
    split <;> exact ⟨_, rfl⟩
  refine ev_bind0 hb ?_
  cases b with
  | true => exact ev_pos rfl (Ev.now _)
  | false =>
    refine ev_neg Bool.false_ne_true ?_
    have h0 : U8 l0 := u0
    have h1 : U8 l1 := u1
    obtain ⟨n, a1, s1, e1, b1, c1⟩ := side_ev h0 0 6 (Int.le_refl 0) (by decide)
    obtain ⟨v, a2, s2, e2, v0, v1, b2, c2⟩ := pick_ev h0 s1 30 b1 (by omega)
    have hd : spec_DrawPointAt.f l0 = some (n, wrap64 (v - 1)) := by
      unfold spec_DrawPointAt.f
      rw [e1, Option.bind_some]
      dsimp only
      rw [e2]; rfl
    generalize wrap64 (v - 1) = x at hd
    refine ev_bind0 hd ?_
    dsimp only
    have bad : Ev (fun k => impl_isPoint.f k n [x]) false → spec_mePoint.f n x = some false → Ev (fun k => (impl_PointAt.f k n x).bind fun bt432 => ((spec_PointAt.f k n x).bind fun bt436 => ((impl_NeighboursOf.f k n x).bind fun bt440 => ((spec_NeighboursOf.f k n x).bind fun bt444 => ((impl_SidesOf.f k n x).bind fun bt448 => ((spec_SidesOf.f k n x).bind fun bt452 => (if (bt432.2 != bt436.2) = true then (none) else ((laws_uSame.f k bt432.1 bt436.1).bind fun t456 => (if t456 = true then (if (bt440.2 != bt444.2) = true then (none) else ((laws_uSame.f k bt440.1 bt444.1).bind fun t457 => (if t457 = true then (if (bt448.2 != bt452.2) = true then (none) else ((laws_uSame.f k bt448.1 bt452.1).bind fun t458 => (if t458 = true then (if (bt440.2 != bt432.2) = true then (none) else (laws_FnTrianglesAreCut.j0 k l0 l1 n x bt432.1 bt432.2 bt440.1 bt448.1 (bt448.2 != bt432.2))) else (none)))) else (none)))) else (none)))))))))) true := fun g1 g2 => by
      have sm := sameU_ev [] (by simp)
      refine Ev.bind (Ev.bind g1 (ev_neg Bool.false_ne_true (Ev.now _))) (Ev.bind (ev_bind0 g2 (ev_neg Bool.false_ne_true (Ev.now _))) (Ev.bind (Ev.bind g1 (ev_neg Bool.false_ne_true (Ev.now _))) (Ev.bind (ev_bind0 g2 (ev_neg Bool.false_ne_true (Ev.now _))) (Ev.bind (Ev.bind g1 (ev_neg Bool.false_ne_true (Ev.now _))) (Ev.bind (ev_bind0 g2 (ev_neg Bool.false_ne_true (Ev.now _))) (ev_neg Bool.false_ne_true (Ev.bind sm (ev_pos rfl (ev_neg Bool.false_ne_true (Ev.bind sm (ev_pos rfl (ev_neg Bool.false_ne_true (Ev.bind sm (ev_pos rfl (ev_neg Bool.false_ne_true ?_)))))))))))))))
      exact Ev.step (fun f => laws_FnTrianglesAreCut.j0.eq_2 ..) (ev_neg Bool.false_ne_true (ev_neg Bool.false_ne_true (j4_ev h0 h1)))
    by_cases hn : 1 ≤ n ∧ n ≤ 8
    · obtain ⟨n, rfl, hS⟩ := side_of hn
      have hlen := pts_lenI hS rfl
      by_cases hx : 0 ≤ x ∧ x < (many n : Int)
      · obtain ⟨i, rfl⟩ := Int.eq_ofNat_of_zero_le hx.1
        have hi : i < many n := by omega
        have ok : okP n [(i : Int)] = true := by unfold okP; simp; omega
        have p1 : Ev (fun k => impl_PointAt.f k (n : Int) (i : Int)) (ptL n i, true) := by
          refine Ev.bind (isP_ev hS _ (by simp)) ?_
          rw [ok]
          exact ev_pos rfl (Ev.bind hS.points (ev_pos (by omega) (ev_pos (by omega) (Ev.now _))))
        have p2 : Ev (fun k => spec_PointAt.f k (n : Int) (i : Int)) (ptL n i, true) := by
          refine ev_bind0 (point_spec hS _) ?_
          rw [decide_eq_true hx]
          exact ev_pos rfl (Ev.bind (hS.at_ hi) (Ev.now _))
        obtain ⟨n1, n2⟩ := nb_ev hS hi
        obtain ⟨s1, s2⟩ := sd_ev hS hi
        obtain ⟨i1, i2, i3⟩ := ix_ev hS hi
        have sm1 := sameU_ev (ptL n i) (by unfold ptL; simp)
        have sm2 := sameU_ev (nbL n i) (by have := nbL_len hS i; omega)
        have sm3 := sameU_ev (sdL n i) (by unfold sdL; simp only [List.length_append]; split <;> split <;> split <;> simp)
        have gB : Ev (fun k => impl_BorderOf.f k (n : Int)) (bordT n, true) := by
          refine ev_bind0 (side_impl _) ?_
          rw [decide_eq_true hn]
          exact ev_pos rfl (Ev.bind hS.bordI (Ev.now _))
        refine Ev.bind p1 (Ev.bind p2 (Ev.bind n1 (Ev.bind n2 (Ev.bind s1 (Ev.bind s2 (ev_neg Bool.false_ne_true (Ev.bind sm1 (ev_pos rfl (ev_neg Bool.false_ne_true (Ev.bind sm2 (ev_pos rfl (ev_neg Bool.false_ne_true (Ev.bind sm3 (ev_pos rfl (ev_neg Bool.false_ne_true ?_)))))))))))))))
        refine Ev.step (fun f => laws_FnTrianglesAreCut.j0.eq_2 ..) (ev_neg Bool.false_ne_true (ev_pos rfl (Ev.bind i1 (ev_pos rfl (ev_pos rfl (Ev.bind i2 ?_))))))
        rw [bne_self_eq_false]
        refine Ev.step (fun f => laws_FnTrianglesAreCut.j1.eq_2 ..) (ev_neg Bool.false_ne_true (Ev.bind gB (ev_pos rfl (Ev.bind i3 ?_))))
        rw [bne_self_eq_false]
        exact Ev.step (fun f => laws_FnTrianglesAreCut.j2.eq_2 ..) (ev_neg Bool.false_ne_true (l0_ev h0 h1 hS hi (nbL n i).length 0 (Nat.zero_add _)))
      · refine bad ?_ ?_
        · have ok : okP n [x] = false := by unfold okP; rw [List.all_cons, decide_eq_false hx]; rfl
          have := isP_ev hS [x] (by simp)
          rw [ok] at this
          exact this
        · rw [point_spec hS, decide_eq_false hx]
    · exact bad (isP_no hn _) (point_no hn _)
end Go.Proofs.Ythkdkgbcokpbaab.Pure
