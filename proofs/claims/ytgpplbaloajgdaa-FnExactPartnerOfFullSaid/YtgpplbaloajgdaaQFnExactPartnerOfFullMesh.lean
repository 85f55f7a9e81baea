/- Triangles: points, neighbours and cells, of the program and of the reference, as plain functions. -/
import Derived.Test.YtgpplbaloajgdaaQFnExactPartnerOfFullBase
namespace Go.Proofs.Ytgpplbaloajgdaa.QFnExactPartnerOfFull
open Go.RowKit Go.Proofs.Ytgpplbaloajgdaa.PFnExactPartnerOfFull Go.Proofs.YtgpplbaloajgdaaW.PrintWords Go.Proofs.YtgpplbaloajgdaaW.PrintLast Go.Proofs.YtgpplbaloajgdaaW.PrintMore
set_option linter.unusedVariables false
set_option linter.unusedSimpArgs false
set_option maxRecDepth 100000
abbrev Pt := S70
abbrev rdP : List Pt → Int → Pt := rd_T70
/-- The points of a triangle. -/
def ptsFn (n : Nat) : List Pt := (List.range (n + 1)).flatMap fun (r : Nat) => (List.range (r + 1)).map fun (c : Nat) => (⟨(n : Int) - r, (r : Int) - c, (c : Int)⟩ : Pt)
def many (n : Nat) : Nat := (n + 1) * (n + 2) / 2
def nearFn (p q : Pt) : Bool :=
  let a := mx (p.f0 - q.f0) (q.f0 - p.f0)
  let b := mx (p.f1 - q.f1) (q.f1 - p.f1)
  let c := mx (p.f2 - q.f2) (q.f2 - p.f2)
  decide (a + b + c = 2) && decide (mx (mx (mx 0 a) b) c = 1)
/-- Coordinates are small. -/
def Small (p : Pt) : Prop := (-100 ≤ p.f0 ∧ p.f0 ≤ 100) ∧ (-100 ≤ p.f1 ∧ p.f1 ≤ 100) ∧ (-100 ≤ p.f2 ∧ p.f2 ≤ 100)
theorem mx_sub (x y : Int) (hx : -100 ≤ x ∧ x ≤ 100) (hy : -100 ≤ y ∧ y ≤ 100) : 0 ≤ mx (x - y) (y - x) ∧ mx (x - y) (y - x) ≤ 200 := by unfold mx; split <;> omega
theorem u1 : wrap64 1 = 1 := wr (by omega) (by omega)
theorem u2 : wrap64 2 = 2 := wr (by omega) (by omega)
theorem u3 : wrap64 3 = 3 := wr (by omega) (by omega)
theorem w01 : wrap64 (0 + 1) = 1 := wr (by omega) (by omega)
theorem w12 : wrap64 (1 + 1) = 2 := wr (by omega) (by omega)
theorem w23 : wrap64 (2 + 1) = 3 := wr (by omega) (by omega)
theorem near_ev (p q : Pt) (hp : Small p) (hq : Small q) : Ev (fun k => impl_near.f k p.f0 p.f1 p.f2 q.f0 q.f1 q.f2) (nearFn p q) := by
  obtain ⟨h0, h1, h2⟩ := hp
  obtain ⟨g0, g1, g2⟩ := hq
  have a0 : wrap64 (p.f0 - q.f0) = p.f0 - q.f0 := wr (by omega) (by omega)
  have a1 : wrap64 (p.f1 - q.f1) = p.f1 - q.f1 := wr (by omega) (by omega)
  have a2 : wrap64 (p.f2 - q.f2) = p.f2 - q.f2 := wr (by omega) (by omega)
  have b0 : wrap64 (q.f0 - p.f0) = q.f0 - p.f0 := wr (by omega) (by omega)
  have b1 : wrap64 (q.f1 - p.f1) = q.f1 - p.f1 := wr (by omega) (by omega)
  have b2 : wrap64 (q.f2 - p.f2) = q.f2 - p.f2 := wr (by omega) (by omega)
  have m0 := mx_sub p.f0 q.f0 h0 g0
  have m1 := mx_sub p.f1 q.f1 h1 g1
  have m2 := mx_sub p.f2 q.f2 h2 g2
  unfold nearFn
  dsimp only
  generalize ha : mx (p.f0 - q.f0) (q.f0 - p.f0) = a at *
  generalize hb : mx (p.f1 - q.f1) (q.f1 - p.f1) = b at *
  generalize hc : mx (p.f2 - q.f2) (q.f2 - p.f2) = c at *
  have s0 : wrap64 (0 + a) = a := (wr (by omega) (by omega)).trans (by omega)
  have s1 : wrap64 (a + b) = a + b := wr (by omega) (by omega)
  have s2 : wrap64 (a + b + c) = a + b + c := wr (by omega) (by omega)
  refine Ev.congr (f := fun k => impl_near.l0 k 0 0 0 p.f0 p.f1 p.f2 q.f0 q.f1 q.f2) (fun k => rfl) ?_
  refine Ev.step (f := fun k => impl_near.l0 k a (mx 0 a) 1 p.f0 p.f1 p.f2 q.f0 q.f1 q.f2) (fun k => by simp only [impl_near.l0, a0, b0, ha, s0, w01]; simp) ?_
  refine Ev.step (f := fun k => impl_near.l0 k (a + b) (mx (mx 0 a) b) 2 p.f0 p.f1 p.f2 q.f0 q.f1 q.f2) (fun k => by simp only [impl_near.l0, a1, b1, hb, s1, w12]; simp) ?_
  refine Ev.step (f := fun k => impl_near.l0 k (a + b + c) (mx (mx (mx 0 a) b) c) 3 p.f0 p.f1 p.f2 q.f0 q.f1 q.f2) (fun k => by simp only [impl_near.l0, a2, b2, hc, s2, w23]; simp) ?_
  refine Ev.step (f := fun _ => some (decide (a + b + c = 2) && decide (mx (mx (mx 0 a) b) c = 1))) (fun k => ?_) (Ev.now _)
  simp only [impl_near.l0]
  rw [if_neg (by decide)]
  by_cases e : a + b + c = 2
  · rw [if_pos e]; simp only [e, decide_true, Bool.true_and]; rfl
  · rw [if_neg e]; simp [e]
instance instPtEq : DecidableEq Pt := fun x y =>
  if h : x.f0 = y.f0 ∧ x.f1 = y.f1 ∧ x.f2 = y.f2 then .isTrue (by
    obtain ⟨a, b, c⟩ := x
    obtain ⟨d, e, f⟩ := y
    obtain ⟨h1, h2, h3⟩ := h
    simp only at h1 h2 h3
    subst h1 h2 h3
    rfl)
  else .isFalse (fun e => h (by subst e; exact ⟨rfl, rfl, rfl⟩))
theorem points_at : ((List.range 9).all fun n => n == 0 || (impl_points.f 120 (n : Int) == some (ptsFn n))) = true := by decide +kernel
theorem pts_len : ((List.range 9).all fun n => n == 0 || (ptsFn n).length == many n) = true := by decide +kernel
theorem at_spec : ((List.range 9).all fun n => n == 0 || (List.range 45).all fun i => decide (many n ≤ i) || (spec_meAt.f 20 (n : Int) (i : Int) == some [(rdP (ptsFn n) i).f0, (rdP (ptsFn n) i).f1, (rdP (ptsFn n) i).f2])) = true := by decide +kernel
theorem wn (j : Nat) (h : j < 1000000000) : wrap64 ((j : Int) + 1) = ((j + 1 : Nat) : Int) := by rw [wr (by omega) (by omega)]; omega
/-- What the tables say of one side. -/
structure Side (n : Nat) : Prop where
  lo : 1 ≤ n
  hi : n ≤ 8
theorem Side.points {n : Nat} (h : Side n) : Ev (fun k => impl_points.f k (n : Int)) (ptsFn n) := by
  have a := List.all_eq_true.1 points_at n (by simp; have := h.hi; omega)
  have z : (n == 0) = false := by simp; have := h.lo; omega
  rw [z, Bool.false_or] at a
  exact Ev.of (fun k => impl_points.mono _ k) (eq_of_beq a)
theorem many_le {n : Nat} (h : n ≤ 8) : many n ≤ 45 := by
  have : n = 0 ∨ n = 1 ∨ n = 2 ∨ n = 3 ∨ n = 4 ∨ n = 5 ∨ n = 6 ∨ n = 7 ∨ n = 8 := by omega
  rcases this with rfl | rfl | rfl | rfl | rfl | rfl | rfl | rfl | rfl <;> decide
theorem Side.len {n : Nat} (h : Side n) : (ptsFn n).length = many n := by
  have a := List.all_eq_true.1 pts_len n (by simp; have := h.hi; omega)
  have z : (n == 0) = false := by simp; have := h.lo; omega
  rw [z, Bool.false_or] at a
  exact eq_of_beq a
theorem Side.at_ {n : Nat} (h : Side n) {i : Nat} (hi : i < many n) : Ev (fun k => spec_meAt.f k (n : Int) (i : Int)) [(rdP (ptsFn n) i).f0, (rdP (ptsFn n) i).f1, (rdP (ptsFn n) i).f2] := by
  have a := List.all_eq_true.1 at_spec n (by simp; have := h.hi; omega)
  have z : (n == 0) = false := by simp; have := h.lo; omega
  rw [z, Bool.false_or] at a
  have b := List.all_eq_true.1 a i (by simp; have := many_le h.hi; omega)
  have y : decide (many n ≤ i) = false := by simp; omega
  rw [y, Bool.false_or] at b
  exact Ev.of (fun k => spec_meAt.mono _ _ k) (eq_of_beq b)
theorem small_pts : ((List.range 9).all fun n => (ptsFn n).all fun p => decide (0 ≤ p.f0) && decide (p.f0 ≤ 8) && decide (0 ≤ p.f1) && decide (p.f1 ≤ 8) && decide (0 ≤ p.f2) && decide (p.f2 ≤ 8)) = true := by decide +kernel
theorem Side.inside {n : Nat} (h : Side n) {i : Nat} (hi : i < many n) : (0 ≤ (rdP (ptsFn n) i).f0 ∧ (rdP (ptsFn n) i).f0 ≤ 8) ∧ (0 ≤ (rdP (ptsFn n) i).f1 ∧ (rdP (ptsFn n) i).f1 ≤ 8) ∧ (0 ≤ (rdP (ptsFn n) i).f2 ∧ (rdP (ptsFn n) i).f2 ≤ 8) := by
  have a := List.all_eq_true.1 small_pts n (by simp; have := h.hi; omega)
  have hl := h.len
  have e : rdP (ptsFn n) i = (ptsFn n)[i]'(by omega) := by
    show (ptsFn n).getD (i : Int).toNat _ = _
    rw [Int.toNat_natCast, List.getD_eq_getElem?_getD, List.getElem?_eq_getElem (by omega)]
    rfl
  have b := List.all_eq_true.1 a _ (List.getElem_mem (l := ptsFn n) (n := i) (by omega))
  rw [← e] at b
  simp only [Bool.and_eq_true, decide_eq_true_eq] at b
  omega
theorem Side.small {n : Nat} (h : Side n) {i : Nat} (hi : i < many n) : Small (rdP (ptsFn n) i) := by
  have := h.inside hi
  unfold Small
  omega
/-- Are points i and j neighbours? -/
def NB (n i j : Nat) : Bool := nearFn (rdP (ptsFn n) i) (rdP (ptsFn n) j)
theorem Side.near {n : Nat} (h : Side n) {i j : Nat} (hi : i < many n) (hj : j < many n) :
    Ev (fun k => impl_near.f k (rdP (ptsFn n) i).f0 (rdP (ptsFn n) i).f1 (rdP (ptsFn n) i).f2 (rdP (ptsFn n) j).f0 (rdP (ptsFn n) j).f1 (rdP (ptsFn n) j).f2) (NB n i j) := near_ev _ _ (h.small hi) (h.small hj)
theorem abs_ev (x : Int) (h : -100 ≤ x ∧ x ≤ 100) : spec_l1Abs.f x = some (mx x (-x)) := by
  have e : wrap64 (-x) = -x := wr (by omega) (by omega)
  simp only [spec_l1Abs.f, e, spec_l1Most.f, mx]
  split <;> split <;> simp <;> omega
theorem mx_abs (x y : Int) : mx (x - y) (-(x - y)) = mx (x - y) (y - x) := by rw [show -(x - y) = y - x by omega]
theorem mx3 (a b c : Int) (ha : 0 ≤ a) (hb : 0 ≤ b) (hc : 0 ≤ c) (h : a + b + c = 2) : (mx (mx (mx 0 a) b) c = 1 ↔ a ≤ 1 ∧ b ≤ 1 ∧ c ≤ 1) := by
  unfold mx
  split <;> split <;> split <;> omega
/-- The reference's neighbours are the same. -/
theorem Side.meNear {n : Nat} (h : Side n) {i j : Nat} (hi : i < many n) (hj : j < many n) : Ev (fun k => spec_meNear.f k (n : Int) (i : Int) (j : Int)) (NB n i j) := by
  refine Ev.bind (h.at_ hi) ?_
  refine Ev.bind (h.at_ hj) ?_
  obtain ⟨h0, h1, h2⟩ := h.inside hi
  obtain ⟨g0, g1, g2⟩ := h.inside hj
  unfold NB nearFn
  dsimp only
  generalize (rdP (ptsFn n) i).f0 = x0 at *
  generalize (rdP (ptsFn n) i).f1 = x1 at *
  generalize (rdP (ptsFn n) i).f2 = x2 at *
  generalize (rdP (ptsFn n) j).f0 = y0 at *
  generalize (rdP (ptsFn n) j).f1 = y1 at *
  generalize (rdP (ptsFn n) j).f2 = y2 at *
  have m0 := mx_sub x0 y0 (by omega) (by omega)
  have m1 := mx_sub x1 y1 (by omega) (by omega)
  have m2 := mx_sub x2 y2 (by omega) (by omega)
  have e0 : spec_l1Abs.f (wrap64 (x0 - y0)) = some (mx (x0 - y0) (y0 - x0)) := by rw [wr (by omega) (by omega), abs_ev _ (by omega), mx_abs]
  have e1 : spec_l1Abs.f (wrap64 (x1 - y1)) = some (mx (x1 - y1) (y1 - x1)) := by rw [wr (by omega) (by omega), abs_ev _ (by omega), mx_abs]
  have e2 : spec_l1Abs.f (wrap64 (x2 - y2)) = some (mx (x2 - y2) (y2 - x2)) := by rw [wr (by omega) (by omega), abs_ev _ (by omega), mx_abs]
  generalize mx (x0 - y0) (y0 - x0) = a at *
  generalize mx (x1 - y1) (y1 - x1) = b at *
  generalize mx (x2 - y2) (y2 - x2) = c at *
  have r0 : ∀ u v w : Int, rd [u, v, w] 0 = u := fun _ _ _ => rfl
  have r1 : ∀ u v w : Int, rd [u, v, w] 1 = v := fun _ _ _ => rfl
  have r2 : ∀ u v w : Int, rd [u, v, w] 2 = w := fun _ _ _ => rfl
  have s0 : wrap64 (0 + a) = a := (wr (by omega) (by omega)).trans (by omega)
  have s1 : wrap64 (a + b) = a + b := wr (by omega) (by omega)
  have s2 : wrap64 (a + b + c) = a + b + c := wr (by omega) (by omega)
  have sa : wrap64 a = a := wr (by omega) (by omega)
  have k3 := mx3 a b c (by omega) (by omega) (by omega)
  by_cases c0 : a > 1
  · refine Ev.step (f := fun _ => some false) (fun k => by simp only [spec_meNear.l0, r0, e0]; simp [c0]) (ev_eq (Ev.now _) ?_)
    by_cases hs : a + b + c = 2
    · have := k3 hs
      simp only [hs, decide_true, Bool.true_and]
      exact (decide_eq_false (by omega)).symm
    · simp [hs]
  refine Ev.step (f := fun k => spec_meNear.l0 k [x0, x1, x2] [y0, y1, y2] a 3 1) (fun k => by simp only [spec_meNear.l0, r0, e0]; simp [c0, sa, u1]) ?_
  by_cases c1 : b > 1
  · refine Ev.step (f := fun _ => some false) (fun k => by simp only [spec_meNear.l0, r1, e1]; simp [c1]) (ev_eq (Ev.now _) ?_)
    by_cases hs : a + b + c = 2
    · have := k3 hs
      simp only [hs, decide_true, Bool.true_and]
      exact (decide_eq_false (by omega)).symm
    · simp [hs]
  refine Ev.step (f := fun k => spec_meNear.l0 k [x0, x1, x2] [y0, y1, y2] (a + b) 3 2) (fun k => by simp only [spec_meNear.l0, r1, e1]; simp [c1, s1, u2]) ?_
  by_cases c2 : c > 1
  · refine Ev.step (f := fun _ => some false) (fun k => by simp only [spec_meNear.l0, r2, e2]; simp [c2]) (ev_eq (Ev.now _) ?_)
    by_cases hs : a + b + c = 2
    · have := k3 hs
      simp only [hs, decide_true, Bool.true_and]
      exact (decide_eq_false (by omega)).symm
    · simp [hs]
  refine Ev.step (f := fun k => spec_meNear.l0 k [x0, x1, x2] [y0, y1, y2] (a + b + c) 3 3) (fun k => by simp only [spec_meNear.l0, r2, e2]; simp [c2, s2, u3]) ?_
  refine Ev.step (f := fun _ => some ((a + b + c) == 2)) (fun k => by simp only [spec_meNear.l0]; simp) (ev_eq (Ev.now _) ?_)
  by_cases hs : a + b + c = 2
  · have := k3 hs
    simp only [hs, decide_true, Bool.true_and]
    exact (decide_eq_true (by omega)).symm
  · simp [hs]
/-- The cells, by three loops. -/
def c2 (N : Nat → Nat → Bool) (i j : Nat) : Nat → Nat → List (List Int)
  | 0, _ => []
  | d + 1, k => (if (N i j && N i k && N j k) = true then [[(i : Int), (j : Int), (k : Int)]] else []) ++ c2 N i j d (k + 1)
def c1 (N : Nat → Nat → Bool) (m i : Nat) : Nat → Nat → List (List Int)
  | 0, _ => []
  | d + 1, j => c2 N i j (m - (j + 1)) (j + 1) ++ c1 N m i d (j + 1)
def c0 (N : Nat → Nat → Bool) (m : Nat) : Nat → Nat → List (List Int)
  | 0, _ => []
  | d + 1, i => c1 N m i (m - (i + 1)) (i + 1) ++ c0 N m d (i + 1)
def cellsFn (n : Nat) : List (List Int) := c0 (NB n) (many n) (many n) 0
theorem c2_none {N : Nat → Nat → Bool} {i j : Nat} (h : N i j = false) : ∀ d k, c2 N i j d k = []
  | 0, _ => rfl
  | d + 1, k => by simp [c2, h, c2_none h d (k + 1)]
theorem c2_len (N : Nat → Nat → Bool) (i j : Nat) : ∀ d k, (c2 N i j d k).length ≤ d
  | 0, _ => Nat.le_refl _
  | d + 1, k => by
    have := c2_len N i j d (k + 1)
    rw [c2, List.length_append]
    split <;> simp <;> omega
theorem c1_len (N : Nat → Nat → Bool) (m i : Nat) (hm : m ≤ 45) : ∀ d j, (c1 N m i d j).length ≤ d * 45
  | 0, _ => Nat.le_refl _
  | d + 1, j => by
    have := c1_len N m i hm d (j + 1)
    have := c2_len N i j (m - (j + 1)) (j + 1)
    rw [c1, List.length_append]
    omega
theorem pts_lenI {n m : Nat} (h : Side n) (hm : many n = m) : ((ptsFn n).length : Int) = (m : Int) := by rw [h.len, hm]
section
variable {n m : Nat} (h : Side n) (hm : many n = m)
include h hm
theorem impl_l2 (i j : Nat) (hij : i < j) (hj : j < m) (r : List (List Int)) : ∀ (d k : Nat) (out : List (List Int)), k + d = m → j < k → out.length ≤ i * 2025 + j * 45 + k →
    Ev (fun f => impl_cells.l1 f (out ++ c2 (NB n) i j d k) (ptsFn n) i ((j + 1 : Nat) : Int) (ptsFn n) m i (rdP (ptsFn n) i).f0 (rdP (ptsFn n) i).f1 (rdP (ptsFn n) i).f2) r →
    Ev (fun f => impl_cells.l2 f out (ptsFn n) i j k (ptsFn n) m i (rdP (ptsFn n) i).f0 (rdP (ptsFn n) i).f1 (rdP (ptsFn n) i).f2) r := by
  have hl := pts_lenI h hm
  have hm45 := many_le h.hi
  rw [hm] at hm45
  intro d
  induction d with
  | zero =>
    intro k out hk hjk hb e
    rw [c2, List.append_nil] at e
    refine Ev.step (fun f => impl_cells.l2.eq_2 ..) ?_
    rw [hl]
    refine ev_neg (by omega) ?_
    refine Ev.step (fun f => impl_cells.j3.eq_2 ..) ?_
    refine ev_neg (by decide) ?_
    rw [wn j (by omega)]
    exact e
  | succ d ih =>
    intro k out hk hjk hb e
    refine Ev.step (fun f => impl_cells.l2.eq_2 ..) ?_
    rw [hl]
    refine ev_pos (by omega) (ev_pos (by omega) (ev_pos (by omega) ?_))
    refine Ev.bind (h.near (i := i) (j := j) (by omega) (by omega)) ?_
    refine Ev.step (fun f => impl_cells.j3.eq_2 ..) ?_
    cases hN : NB n i j with
    | false =>
      rw [c2_none hN, List.append_nil] at e
      refine ev_neg (by decide) ?_
      rw [wn j (by omega)]
      exact e
    | true =>
      rw [hl]
      refine ev_pos rfl (ev_pos (by omega) (ev_pos (by omega) ?_))
      refine Ev.bind (h.near (i := i) (j := k) (by omega) (by omega)) ?_
      rw [c2, hN, Bool.true_and] at e
      cases hK : NB n i k with
      | false =>
        rw [hK, Bool.false_and, if_neg (by decide), List.nil_append] at e
        refine ev_neg (by decide) ?_
        rw [wn k (by omega)]
        exact ih (k + 1) out (by omega) (by omega) (by omega) e
      | true =>
        refine ev_pos rfl (ev_pos (by omega) (ev_pos (by omega) ?_))
        refine Ev.bind (h.near (i := j) (j := k) (by omega) (by omega)) ?_
        rw [hK, Bool.true_and] at e
        cases hJ : NB n j k with
        | false =>
          rw [hJ, if_neg (by decide), List.nil_append] at e
          refine ev_neg (by decide) ?_
          rw [wn k (by omega)]
          exact ih (k + 1) out (by omega) (by omega) (by omega) e
        | true =>
          rw [hJ, if_pos rfl, ← List.append_assoc] at e
          refine ev_pos rfl (ev_pos (by omega) ?_)
          rw [wn k (by omega)]
          exact ih (k + 1) _ (by omega) (by omega) (by rw [List.length_append]; simp; omega) e
theorem impl_l1 (i : Nat) (hi : i < m) (r : List (List Int)) : ∀ (d j : Nat) (out : List (List Int)), j + d = m → i < j → out.length ≤ i * 2025 + j * 45 →
    Ev (fun f => impl_cells.l0 f (out ++ c1 (NB n) m i d j) (ptsFn n) (ptsFn n) m ((i + 1 : Nat) : Int)) r →
    Ev (fun f => impl_cells.l1 f out (ptsFn n) i j (ptsFn n) m i (rdP (ptsFn n) i).f0 (rdP (ptsFn n) i).f1 (rdP (ptsFn n) i).f2) r := by
  have hl := pts_lenI h hm
  have hm45 := many_le h.hi
  rw [hm] at hm45
  intro d
  induction d with
  | zero =>
    intro j out hj hij hb e
    rw [c1, List.append_nil] at e
    refine Ev.step (fun f => impl_cells.l1.eq_2 ..) ?_
    rw [hl]
    refine ev_neg (by omega) ?_
    rw [wn i (by omega)]
    exact e
  | succ d ih =>
    intro j out hj hij hb e
    refine Ev.step (fun f => impl_cells.l1.eq_2 ..) ?_
    rw [hl]
    refine ev_pos (by omega) ?_
    rw [wn j (by omega)]
    rw [c1, ← List.append_assoc] at e
    have hc := c2_len (NB n) i j (m - (j + 1)) (j + 1)
    exact impl_l2 h hm i j hij (by omega) r (m - (j + 1)) (j + 1) out (by omega) (by omega) (by omega) (ih (j + 1) _ (by omega) (by omega) (by rw [List.length_append]; omega) e)
theorem impl_l0 (r : List (List Int)) : ∀ (d i : Nat) (out : List (List Int)), i + d = m → out.length ≤ i * 2025 →
    r = out ++ c0 (NB n) m d i → Ev (fun f => impl_cells.l0 f out (ptsFn n) (ptsFn n) m i) r := by
  have hl := pts_lenI h hm
  have hm45 := many_le h.hi
  rw [hm] at hm45
  intro d
  induction d with
  | zero =>
    intro i out hi hb e
    rw [c0, List.append_nil] at e
    refine Ev.step (fun f => impl_cells.l0.eq_2 ..) ?_
    refine ev_neg (by omega) (ev_eq (Ev.now _) e.symm)
  | succ d ih =>
    intro i out hi hb e
    refine Ev.step (fun f => impl_cells.l0.eq_2 ..) ?_
    rw [hl]
    refine ev_pos (by omega) (ev_pos (by omega) (ev_pos (by omega) ?_))
    rw [wn i (by omega)]
    rw [c0, ← List.append_assoc] at e
    have hc := c1_len (NB n) m i hm45 (m - (i + 1)) (i + 1)
    exact impl_l1 h hm i (by omega) r (m - (i + 1)) (i + 1) out (by omega) (by omega) (by omega) (ih (i + 1) _ (by omega) (by rw [List.length_append]; omega) e)
theorem count_ev : spec_meCount.f (n : Int) = some (m : Int) := by
  have : n = 1 ∨ n = 2 ∨ n = 3 ∨ n = 4 ∨ n = 5 ∨ n = 6 ∨ n = 7 ∨ n = 8 := by have := h.lo; have := h.hi; omega
  subst hm
  rcases this with rfl | rfl | rfl | rfl | rfl | rfl | rfl | rfl <;> decide +kernel
theorem spec_l2 (i j : Nat) (hij : i < j) (hj : j < m) (r : List (List Int)) : ∀ (d k : Nat) (out : List (List Int)), k + d = m → j < k → out.length ≤ i * 2025 + j * 45 + k →
    Ev (fun f => spec_meCells.l1 f n (out ++ c2 (NB n) i j d k) i ((j + 1 : Nat) : Int)) r →
    Ev (fun f => spec_meCells.l2 f n out i j k) r := by
  have hm45 := many_le h.hi
  rw [hm] at hm45
  intro d
  induction d with
  | zero =>
    intro k out hk hjk hb e
    rw [c2, List.append_nil] at e
    refine Ev.step (fun f => spec_meCells.l2.eq_2 ..) ?_
    refine ev_bind0 (count_ev h hm) ?_
    refine ev_neg (by omega) ?_
    rw [wn j (by omega)]
    exact e
  | succ d ih =>
    intro k out hk hjk hb e
    refine Ev.step (fun f => spec_meCells.l2.eq_2 ..) ?_
    refine ev_bind0 (count_ev h hm) ?_
    refine ev_pos (by omega) ?_
    refine Ev.bind (h.meNear (i := i) (j := j) (by omega) (by omega)) ?_
    rw [wn k (by omega)]
    cases hN : NB n i j with
    | false =>
      rw [c2, hN, Bool.false_and, Bool.false_and, if_neg (by decide), List.nil_append] at e
      exact ev_neg (by decide) (ih (k + 1) out (by omega) (by omega) (by omega) e)
    | true =>
      refine ev_pos rfl ?_
      refine Ev.bind (h.meNear (i := i) (j := k) (by omega) (by omega)) ?_
      rw [c2, hN, Bool.true_and] at e
      cases hK : NB n i k with
      | false =>
        rw [hK, Bool.false_and, if_neg (by decide), List.nil_append] at e
        exact ev_neg (by decide) (ih (k + 1) out (by omega) (by omega) (by omega) e)
      | true =>
        refine ev_pos rfl ?_
        refine Ev.bind (h.meNear (i := j) (j := k) (by omega) (by omega)) ?_
        rw [hK, Bool.true_and] at e
        cases hJ : NB n j k with
        | false =>
          rw [hJ, if_neg (by decide), List.nil_append] at e
          exact ev_neg (by decide) (ih (k + 1) out (by omega) (by omega) (by omega) e)
        | true =>
          rw [hJ, if_pos rfl, ← List.append_assoc] at e
          exact ev_pos rfl (ev_pos (by omega) (ih (k + 1) _ (by omega) (by omega) (by rw [List.length_append]; simp; omega) e))
theorem spec_l1 (i : Nat) (hi : i < m) (r : List (List Int)) : ∀ (d j : Nat) (out : List (List Int)), j + d = m → i < j → out.length ≤ i * 2025 + j * 45 →
    Ev (fun f => spec_meCells.l0 f n (out ++ c1 (NB n) m i d j) ((i + 1 : Nat) : Int)) r →
    Ev (fun f => spec_meCells.l1 f n out i j) r := by
  have hm45 := many_le h.hi
  rw [hm] at hm45
  intro d
  induction d with
  | zero =>
    intro j out hj hij hb e
    rw [c1, List.append_nil] at e
    refine Ev.step (fun f => spec_meCells.l1.eq_2 ..) ?_
    refine ev_bind0 (count_ev h hm) ?_
    refine ev_neg (by omega) ?_
    rw [wn i (by omega)]
    exact e
  | succ d ih =>
    intro j out hj hij hb e
    refine Ev.step (fun f => spec_meCells.l1.eq_2 ..) ?_
    refine ev_bind0 (count_ev h hm) ?_
    refine ev_pos (by omega) ?_
    rw [wn j (by omega)]
    rw [c1, ← List.append_assoc] at e
    have hc := c2_len (NB n) i j (m - (j + 1)) (j + 1)
    exact spec_l2 h hm i j hij (by omega) r (m - (j + 1)) (j + 1) out (by omega) (by omega) (by omega) (ih (j + 1) _ (by omega) (by omega) (by rw [List.length_append]; omega) e)
theorem spec_l0 (r : List (List Int)) : ∀ (d i : Nat) (out : List (List Int)), i + d = m → out.length ≤ i * 2025 →
    r = out ++ c0 (NB n) m d i → Ev (fun f => spec_meCells.l0 f n out i) r := by
  have hm45 := many_le h.hi
  rw [hm] at hm45
  intro d
  induction d with
  | zero =>
    intro i out hi hb e
    rw [c0, List.append_nil] at e
    refine Ev.step (fun f => spec_meCells.l0.eq_2 ..) ?_
    refine ev_bind0 (count_ev h hm) ?_
    exact ev_neg (by omega) (ev_eq (Ev.now _) e.symm)
  | succ d ih =>
    intro i out hi hb e
    refine Ev.step (fun f => spec_meCells.l0.eq_2 ..) ?_
    refine ev_bind0 (count_ev h hm) ?_
    refine ev_pos (by omega) ?_
    rw [wn i (by omega)]
    rw [c0, ← List.append_assoc] at e
    have hc := c1_len (NB n) m i hm45 (m - (i + 1)) (i + 1)
    exact spec_l1 h hm i (by omega) r (m - (i + 1)) (i + 1) out (by omega) (by omega) (by omega) (ih (i + 1) _ (by omega) (by rw [List.length_append]; omega) e)
end
theorem Side.cells {n : Nat} (h : Side n) : Ev (fun k => impl_cells.f k (n : Int)) (cellsFn n) := by
  refine Ev.bind h.points ?_
  rw [pts_lenI h rfl]
  exact impl_l0 h rfl _ (many n) 0 [] (by omega) (Nat.le_refl _) rfl
theorem Side.meCells {n : Nat} (h : Side n) : Ev (fun k => spec_meCells.f k (n : Int)) (cellsFn n) :=
  spec_l0 h rfl _ (many n) 0 [] (by omega) (Nat.le_refl _) rfl
theorem c0_len (N : Nat → Nat → Bool) (m : Nat) (hm : m ≤ 45) : ∀ d i, (c0 N m d i).length ≤ d * 2025
  | 0, _ => Nat.le_refl _
  | d + 1, i => by
    have := c0_len N m hm d (i + 1)
    have := c1_len N m i hm (m - (i + 1)) (i + 1)
    rw [c0, List.length_append]
    omega
theorem Side.cells_len {n : Nat} (h : Side n) : (cellsFn n).length ≤ 91125 := by
  have := many_le h.hi
  have := c0_len (NB n) (many n) this (many n) 0
  unfold cellsFn
  omega
theorem c2_each (N : Nat → Nat → Bool) (i j : Nat) : ∀ d k, ∀ c ∈ c2 N i j d k, c.length = 3
  | 0, _, c, h => by simp [c2] at h
  | d + 1, k, c, h => by
    rw [c2, List.mem_append] at h
    rcases h with h | h
    · split at h
      · simp at h; subst h; rfl
      · simp at h
    · exact c2_each N i j d (k + 1) c h
theorem c1_each (N : Nat → Nat → Bool) (m i : Nat) : ∀ d j, ∀ c ∈ c1 N m i d j, c.length = 3
  | 0, _, c, h => by simp [c1] at h
  | d + 1, j, c, h => by
    rw [c1, List.mem_append] at h
    rcases h with h | h
    · exact c2_each _ _ _ _ _ c h
    · exact c1_each N m i d (j + 1) c h
theorem c0_each (N : Nat → Nat → Bool) (m : Nat) : ∀ d i, ∀ c ∈ c0 N m d i, c.length = 3
  | 0, _, c, h => by simp [c0] at h
  | d + 1, i, c, h => by
    rw [c0, List.mem_append] at h
    rcases h with h | h
    · exact c1_each _ _ _ _ _ c h
    · exact c0_each N m d (i + 1) c h
theorem cells_each (n : Nat) : ∀ c ∈ cellsFn n, c.length = 3 := c0_each _ _ _ _
end Go.Proofs.Ytgpplbaloajgdaa.QFnExactPartnerOfFull
