/- The necklace theorem of two thieves, by Fan's lemma: as many cuts as kinds are enough. -/
import Derived.Test.YtmbkkhpjcblijaaDoorPFnExactFewestCutsx
set_option linter.unusedVariables false
set_option linter.unusedSimpArgs false
set_option linter.unusedSectionVars false
namespace Go.Proofs.YtmbkkhpjcblijaaDoor.QFnExactFewestCuts.Neck
/-! ### even numbers -/
theorem even_invol {α : Type} [DecidableEq α] (f : α → α) : ∀ (n : Nat) (L : List α), L.length = n → L.Nodup → (∀ x ∈ L, f x ∈ L ∧ f (f x) = x ∧ f x ≠ x) → n % 2 = 0 := by
  intro n
  induction n using Nat.strongRecOn with
  | _ n ih =>
    intro L hl hn hf
    cases L with
    | nil => subst hl; rfl
    | cons x r =>
      obtain ⟨h1, h2, h3⟩ := hf x List.mem_cons_self
      obtain ⟨hx, hr⟩ := List.nodup_cons.1 hn
      have hfx : f x ∈ r := (List.mem_cons.1 h1).resolve_left h3
      have hlen := List.length_erase_of_mem hfx
      have hpos : 0 < r.length := List.length_pos_of_mem hfx
      rw [List.length_cons] at hl
      have := ih (n - 2) (by omega) (r.erase (f x)) (by omega) (hr.erase _) (fun y hy => by
        obtain ⟨hy1, hy2⟩ := hr.mem_erase_iff.1 hy
        obtain ⟨g1, g2, g3⟩ := hf y (List.mem_cons_of_mem _ hy2)
        have e1 : f y ≠ x := fun e => hy1 (by rw [← e, g2])
        have e2 : f y ≠ f x := fun e => hx (by rw [← h2, ← e, g2]; exact hy2)
        exact ⟨hr.mem_erase_iff.2 ⟨e2, (List.mem_cons.1 g1).resolve_left e1⟩, g2, g3⟩)
      omega
theorem len_le {α : Type} [DecidableEq α] : ∀ (A B : List α), A.Nodup → (∀ x ∈ A, x ∈ B) → A.length ≤ B.length
  | [], _, _, _ => Nat.zero_le _
  | x :: r, B, hn, h => by
    obtain ⟨hx, hr⟩ := List.nodup_cons.1 hn
    have hB := h x List.mem_cons_self
    have := len_le r (B.erase x) hr (fun y hy => (List.mem_erase_of_ne (fun e => hx (by rw [← e]; exact hy))).2 (h y (List.mem_cons_of_mem _ hy)))
    have h2 := List.length_erase_of_mem hB
    have h3 := List.length_pos_of_mem hB
    rw [List.length_cons]
    omega
theorem nodup_map_on {α β : Type} (f : α → β) {A : List α} (hA : A.Nodup) (h : ∀ x ∈ A, ∀ y ∈ A, f x = f y → x = y) : (A.map f).Nodup :=
  List.pairwise_map.2 (List.Pairwise.imp_of_mem (fun {a b} ha hb hab e => hab (h a ha b hb e)) hA)
theorem len_of_bij {α β : Type} [DecidableEq α] [DecidableEq β] {A : List α} {B : List β} (hA : A.Nodup) (hB : B.Nodup) (f : α → β) (g : β → α) (h1 : ∀ x ∈ A, f x ∈ B ∧ g (f x) = x) (h2 : ∀ y ∈ B, g y ∈ A ∧ f (g y) = y) : A.length = B.length := by
  have a := len_le (A.map f) B (nodup_map_on f hA fun x hx y hy e => by rw [← (h1 x hx).2, ← (h1 y hy).2, e]) (fun z hz => by
    obtain ⟨x, hx, rfl⟩ := List.mem_map.1 hz
    exact (h1 x hx).1)
  have b := len_le (B.map g) A (nodup_map_on g hB fun x hx y hy e => by rw [← (h2 x hx).2, ← (h2 y hy).2, e]) (fun z hz => by
    obtain ⟨x, hx, rfl⟩ := List.mem_map.1 hz
    exact (h2 x hx).1)
  rw [List.length_map] at a b
  omega
/-! ### all lists of some length -/
def tup {α : Type} (A : List α) : Nat → List (List α)
  | 0 => [[]]
  | k + 1 => A.flatMap fun a => (tup A k).map (a :: ·)
theorem mem_tup {α : Type} {A : List α} : ∀ {k : Nat} {l : List α}, l ∈ tup A k ↔ l.length = k ∧ ∀ x ∈ l, x ∈ A
  | 0, l => by
    constructor
    · intro h
      have : l = [] := by simpa [tup] using h
      subst this
      exact ⟨rfl, fun x hx => by cases hx⟩
    · rintro ⟨h, _⟩
      have : l = [] := List.eq_nil_of_length_eq_zero h
      subst this
      exact List.mem_singleton.2 rfl
  | k + 1, l => by
    unfold tup
    rw [List.mem_flatMap]
    constructor
    · rintro ⟨a, ha, h⟩
      obtain ⟨r, hr, rfl⟩ := List.mem_map.1 h
      obtain ⟨h1, h2⟩ := mem_tup.1 hr
      exact ⟨by rw [List.length_cons, h1], fun x hx => by
        rcases List.mem_cons.1 hx with e | e
        · rw [e]; exact ha
        · exact h2 x e⟩
    · rintro ⟨h1, h2⟩
      cases l with
      | nil => cases h1
      | cons a r => exact ⟨a, h2 a List.mem_cons_self, List.mem_map.2 ⟨r, mem_tup.2 ⟨by simpa using h1, fun x hx => h2 x (List.mem_cons_of_mem _ hx)⟩, rfl⟩⟩
theorem nodup_tup {α : Type} {A : List α} (hA : A.Nodup) : ∀ k, (tup A k).Nodup
  | 0 => by simp [tup]
  | k + 1 => by
    unfold tup
    refine List.pairwise_flatMap.2 ⟨fun a _ => nodup_map_on _ (nodup_tup hA k) (fun x _ y _ e => (List.cons.inj e).2), List.Pairwise.imp ?_ hA⟩
    intro a b hab x hx y hy e
    obtain ⟨r, _, rfl⟩ := List.mem_map.1 hx
    obtain ⟨r', _, rfl⟩ := List.mem_map.1 hy
    exact hab (List.cons.inj e).1
/-! ### labels that alternate -/
abbrev Lab := Nat × Bool
def ng (x : Lab) : Lab := (x.1, !x.2)
theorem ng_ng (x : Lab) : ng (ng x) = x := by simp [ng]
/-- Of the m kinds from i on: each at most once, with the signs one after the other, q the first. -/
def alt : Nat → Nat → Bool → (Lab → Nat) → Bool
  | 0, _, _, _ => true
  | m + 1, i, q, n => if n (i, true) + n (i, false) = 0 then alt m (i + 1) q n else if n (i, q) = 1 ∧ n (i, !q) = 0 then alt m (i + 1) (!q) n else false
theorem alt_succ (m i : Nat) (q : Bool) (n : Lab → Nat) : alt (m + 1) i q n = if n (i, true) + n (i, false) = 0 then alt m (i + 1) q n else if n (i, q) = 1 ∧ n (i, !q) = 0 then alt m (i + 1) (!q) n else false := rfl
theorem two_cases (q s : Bool) : q = s ∨ q = !s := by cases q <;> cases s <;> simp
theorem alt_congr : ∀ (m i : Nat) (q : Bool) (n n' : Lab → Nat), (∀ j s, i ≤ j → n (j, s) = n' (j, s)) → alt m i q n = alt m i q n'
  | 0, _, _, _, _, _ => rfl
  | m + 1, i, q, n, n', h => by
    unfold alt
    rw [h i true (Nat.le_refl _), h i false (Nat.le_refl _), h i q (Nat.le_refl _), h i (!q) (Nat.le_refl _), alt_congr m (i + 1) q n n' (fun j s hj => h j s (by omega)), alt_congr m (i + 1) (!q) n n' (fun j s hj => h j s (by omega))]
theorem alt_neg : ∀ (m i : Nat) (q : Bool) (n n' : Lab → Nat), (∀ j s, n' (j, s) = n (j, !s)) → alt m i q n' = alt m i (!q) n
  | 0, _, _, _, _, _ => rfl
  | m + 1, i, q, n, n', h => by
    unfold alt
    rw [h i true, h i false, h i q, h i (!q), alt_neg m (i + 1) q n n' h, alt_neg m (i + 1) (!q) n n' h]
    simp only [Bool.not_not, Bool.not_true, Bool.not_false]
    rw [Nat.add_comm]
def dec (n : Lab → Nat) (x : Lab) : Lab → Nat := fun y => if y = x then n y - 1 else n y
theorem dec_self (n : Lab → Nat) (x : Lab) : dec n x x = n x - 1 := if_pos rfl
theorem dec_ne (n : Lab → Nat) {x y : Lab} (h : y ≠ x) : dec n x y = n y := if_neg h
def G (m i : Nat) (q : Bool) (n : Lab → Nat) (x : Lab) : Bool := decide (i ≤ x.1) && alt m i q (dec n x)
theorem count_split (L : List Lab) (x : Lab) (c : Bool) (f g : Lab → Bool) (h : ∀ y ∈ L, f y = if y = x then c else g y) (hg : g x = false) : L.countP f = (if c = true then L.count x else 0) + L.countP g := by
  induction L with
  | nil => simp
  | cons y r ih =>
    have ih := ih (fun z hz => h z (List.mem_cons_of_mem _ hz))
    have hy := h y List.mem_cons_self
    rw [List.countP_cons, List.countP_cons, List.count_cons, ih, hy]
    by_cases e : y = x
    · subst e
      rw [if_pos rfl, hg]
      cases c <;> simp <;> omega
    · rw [if_neg e]
      have : (y == x) = false := beq_eq_false_iff_ne.2 e
      rw [this]
      cases c <;> simp <;> omega
def b1 (b : Bool) : Nat := if b = true then 1 else 0
theorem fan_count (L : List Lab) (hL : ∀ j, L.count (j, true) = 0 ∨ L.count (j, false) = 0) : ∀ (m i : Nat) (q : Bool), (∀ x ∈ L, x.1 < i + m) → L.countP (G m i q (fun x => L.count x)) % 2 = (b1 (alt m i true (fun x => L.count x)) + b1 (alt m i false (fun x => L.count x))) % 2
  | 0, i, q, hb => by
    have : L.countP (G 0 i q (fun x => L.count x)) = 0 := List.countP_eq_zero.2 (fun x hx => by
      have := hb x hx
      simp [G]; omega)
    rw [this]; simp [alt, b1]
  | m + 1, i, q, hb => by
    have ih := fun q' => fan_count L hL m (i + 1) q' (fun x hx => by have := hb x hx; omega)
    -- the one sign that may be there
    obtain ⟨s, hs⟩ : ∃ s, L.count (i, !s) = 0 := by
      rcases hL i with h | h
      · exact ⟨false, h⟩
      · exact ⟨true, h⟩
    have hno : ∀ y ∈ L, y.1 = i → y = (i, s) := fun y hy e => by
      obtain ⟨a, b⟩ := y
      subst e
      rcases two_cases b s with h | h
      · rw [h]
      · subst h
        have := List.count_eq_zero.1 hs
        exact absurd hy this
    have hsum : L.count (i, true) + L.count (i, false) = L.count (i, s) := by cases s <;> simp_all
    -- what an element of another kind tells
    have hoth : ∀ q' y, y.1 ≠ i → i ≤ y.1 → alt (m + 1) i q' (dec (fun x => L.count x) y) = if L.count (i, s) = 0 then alt m (i + 1) q' (dec (fun x => L.count x) y) else if L.count (i, s) = 1 ∧ q' = s then alt m (i + 1) (!q') (dec (fun x => L.count x) y) else false := fun q' y hy _ => by
      rw [alt_succ, dec_ne _ (fun e => hy (by rw [← e])), dec_ne _ (fun e => hy (by rw [← e])), dec_ne _ (fun e => hy (by rw [← e])), dec_ne _ (fun e => hy (by rw [← e])), hsum]
      by_cases h0 : L.count (i, s) = 0
      · rw [if_pos h0, if_pos h0]
      · rw [if_neg h0, if_neg h0]
        rcases two_cases q' s with e | e
        · subst e
          rw [hs]
          by_cases h1 : L.count (i, q') = 1
          · rw [if_pos ⟨h1, rfl⟩, if_pos ⟨h1, rfl⟩]
          · rw [if_neg (fun z => h1 z.1), if_neg (fun z => h1 z.1)]
        · subst e
          rw [hs, if_neg (fun z => absurd z.1 (by decide)), if_neg (fun z => absurd z.2 (by cases s <;> decide))]
    have hall : ∀ q', alt (m + 1) i q' (fun x => L.count x) = if L.count (i, s) = 0 then alt m (i + 1) q' (fun x => L.count x) else if L.count (i, s) = 1 ∧ q' = s then alt m (i + 1) (!q') (fun x => L.count x) else false := fun q' => by
      show (if L.count (i, true) + L.count (i, false) = 0 then alt m (i + 1) q' (fun x => L.count x) else if L.count (i, q') = 1 ∧ L.count (i, !q') = 0 then alt m (i + 1) (!q') (fun x => L.count x) else false) = _
      rw [hsum]
      by_cases h0 : L.count (i, s) = 0
      · rw [if_pos h0, if_pos h0]
      · rw [if_neg h0, if_neg h0]
        rcases two_cases q' s with e | e
        · subst e
          rw [hs]
          by_cases h1 : L.count (i, q') = 1
          · rw [if_pos ⟨h1, rfl⟩, if_pos ⟨h1, rfl⟩]
          · rw [if_neg (fun z => h1 z.1), if_neg (fun z => h1 z.1)]
        · subst e
          rw [hs, if_neg (fun z => absurd z.1 (by decide)), if_neg (fun z => absurd z.2 (by cases s <;> decide))]
    have hself : ∀ q', alt (m + 1) i q' (dec (fun x => L.count x) (i, s)) = if L.count (i, s) - 1 = 0 then alt m (i + 1) q' (fun x => L.count x) else if L.count (i, s) - 1 = 1 ∧ q' = s then alt m (i + 1) (!q') (fun x => L.count x) else false := fun q' => by
      have e1 : dec (fun x => L.count x) (i, s) (i, s) = L.count (i, s) - 1 := dec_self _ _
      have e2 : dec (fun x => L.count x) (i, s) (i, !s) = 0 := by rw [dec_ne _ (by simp)]; exact hs
      have e3 : dec (fun x => L.count x) (i, s) (i, true) + dec (fun x => L.count x) (i, s) (i, false) = L.count (i, s) - 1 := by cases s <;> simp_all
      have c1 : ∀ q'', alt m (i + 1) q'' (dec (fun x => L.count x) (i, s)) = alt m (i + 1) q'' (fun x => L.count x) := fun q'' => alt_congr _ _ _ _ _ (fun j s' hj => dec_ne _ (by simp; omega))
      show (if dec (fun x => L.count x) (i, s) (i, true) + dec (fun x => L.count x) (i, s) (i, false) = 0 then _ else _) = _
      rw [e3, c1, c1]
      by_cases h0 : L.count (i, s) - 1 = 0
      · rw [if_pos h0, if_pos h0]
      · rw [if_neg h0, if_neg h0]
        rcases two_cases q' s with e | e
        · subst e
          rw [e1, e2]
          by_cases h1 : L.count (i, q') - 1 = 1
          · rw [if_pos ⟨h1, rfl⟩, if_pos ⟨h1, rfl⟩]
          · rw [if_neg (fun z => h1 z.1), if_neg (fun z => h1 z.1)]
        · subst e
          rw [e2, if_neg (fun z => absurd z.1 (by decide)), if_neg (fun z => absurd z.2 (by cases s <;> decide))]
    rw [hall true, hall false]
    by_cases h0 : L.count (i, s) = 0
    · have hc : L.countP (G (m + 1) i q (fun x => L.count x)) = L.countP (G m (i + 1) q (fun x => L.count x)) := List.countP_congr (fun y hy => by
        have hne : y.1 ≠ i := fun e => List.count_eq_zero.1 h0 (by rw [← hno y hy e]; exact hy)
        unfold G
        by_cases hle : i ≤ y.1
        · rw [hoth q y hne hle, if_pos h0, decide_eq_true hle, decide_eq_true (show i + 1 ≤ y.1 by omega)]
        · rw [decide_eq_false hle, decide_eq_false (show ¬ i + 1 ≤ y.1 by omega), Bool.false_and, Bool.false_and])
      rw [hc, if_pos h0, if_pos h0]
      exact ih q
    · rw [if_neg h0, if_neg h0]
      by_cases h1 : L.count (i, s) = 1
      · by_cases hq : q = s
        · have hc := count_split L (i, s) (alt m (i + 1) q (fun x => L.count x)) (G (m + 1) i q (fun x => L.count x)) (G m (i + 1) (!q) (fun x => L.count x)) (fun y hy => by
            by_cases e : y = (i, s)
            · rw [if_pos e, e]
              unfold G
              rw [hself q, if_pos (by omega), decide_eq_true (Nat.le_refl i), Bool.true_and]
            · rw [if_neg e]
              have hne : y.1 ≠ i := fun e' => e (hno y hy e')
              unfold G
              by_cases hle : i ≤ y.1
              · rw [hoth q y hne hle, if_neg h0, if_pos ⟨h1, hq⟩, decide_eq_true hle, decide_eq_true (show i + 1 ≤ y.1 by omega)]
              · rw [decide_eq_false hle, decide_eq_false (show ¬ i + 1 ≤ y.1 by omega), Bool.false_and, Bool.false_and]) (by unfold G; rw [decide_eq_false (by simp)]; rfl)
          have := ih (!q)
          rw [hc, h1]
          subst hq
          cases q <;> simp [b1] at this ⊢ <;> omega
        · have hc := count_split L (i, s) (alt m (i + 1) q (fun x => L.count x)) (G (m + 1) i q (fun x => L.count x)) (fun _ => false) (fun y hy => by
            by_cases e : y = (i, s)
            · rw [if_pos e, e]
              unfold G
              rw [hself q, if_pos (by omega), decide_eq_true (Nat.le_refl i), Bool.true_and]
            · rw [if_neg e]
              have hne : y.1 ≠ i := fun e' => e (hno y hy e')
              unfold G
              by_cases hle : i ≤ y.1
              · rw [hoth q y hne hle, if_neg h0, if_neg (fun z => hq z.2), Bool.and_false]
              · rw [decide_eq_false hle, Bool.false_and]) rfl
          rw [hc, h1]
          have e : q = !s := by cases q <;> cases s <;> simp_all
          subst e
          cases s <;> simp [b1]
      · have hc := count_split L (i, s) (G (m + 1) i q (fun x => L.count x) (i, s)) (G (m + 1) i q (fun x => L.count x)) (fun _ => false) (fun y hy => by
            by_cases e : y = (i, s)
            · rw [if_pos e, e]
            · rw [if_neg e]
              have hne : y.1 ≠ i := fun e' => e (hno y hy e')
              unfold G
              by_cases hle : i ≤ y.1
              · rw [hoth q y hne hle, if_neg h0, if_neg (fun z => h1 z.1), Bool.and_false]
              · rw [decide_eq_false hle, Bool.false_and]) rfl
        have e0 : ∀ q', (if L.count (i, s) = 1 ∧ q' = s then alt m (i + 1) (!q') (fun x => L.count x) else false) = false := fun q' => if_neg (fun z => h1 z.1)
        have e1 : L.countP (fun _ : Lab => false) = 0 := List.countP_eq_zero.2 (fun _ _ => by simp)
        rw [hc, e0, e0, e1]
        by_cases h2 : L.count (i, s) = 2
        · rw [h2]; split <;> rfl
        · have : G (m + 1) i q (fun x => L.count x) (i, s) = false := by
            unfold G
            rw [hself q, if_neg (by omega), if_neg (fun z => h2 (by omega)), Bool.and_false]
          rw [this]; rfl
theorem alt_le : ∀ (m i : Nat) (q : Bool) (n : Lab → Nat), alt m i q n = true → ∀ j, i ≤ j → j < i + m → n (j, true) + n (j, false) ≤ 1
  | 0, i, _, _, _, j, h1, h2 => by omega
  | m + 1, i, q, n, h, j, h1, h2 => by
    unfold alt at h
    split at h
    · rename_i h0
      rcases Nat.lt_or_ge i j with h3 | h3
      · exact alt_le m (i + 1) q n h j h3 (by omega)
      · have : j = i := by omega
        subst this; omega
    · split at h
      · rename_i h0 h4
        rcases Nat.lt_or_ge i j with h3 | h3
        · exact alt_le m (i + 1) (!q) n h j h3 (by omega)
        · have : j = i := by omega
          subst this
          cases q <;> simp at h4 <;> omega
      · cases h
theorem alt_both : ∀ (m i : Nat) (n : Lab → Nat), alt m i true n = true → alt m i false n = true → ∀ j s, i ≤ j → j < i + m → n (j, s) = 0
  | 0, i, n, _, _, j, s, h1, h2 => by omega
  | m + 1, i, n, ha, hb, j, s, h1, h2 => by
    unfold alt at ha hb
    by_cases h0 : n (i, true) + n (i, false) = 0
    · rw [if_pos h0] at ha hb
      rcases Nat.lt_or_ge i j with h3 | h3
      · exact alt_both m (i + 1) n ha hb j s h3 (by omega)
      · have : j = i := by omega
        subst this
        cases s <;> omega
    · rw [if_neg h0] at ha hb
      by_cases h4 : n (i, true) = 1 ∧ n (i, !true) = 0
      · rw [if_neg (fun z => by have := z.1; have := h4.2; simp at *; omega)] at hb
        cases hb
      · rw [if_neg h4] at ha
        cases ha
end Go.Proofs.YtmbkkhpjcblijaaDoor.QFnExactFewestCuts.Neck
namespace Go.Proofs.YtmbkkhpjcblijaaDoor.QFnExactFewestCuts.Neck
/-! ### chains of signed places -/
def vec (l : List Lab) : Nat → Int := fun u => if (u, true) ∈ l then 1 else if (u, false) ∈ l then -1 else 0
theorem vec_congr {l l' : List Lab} (h : ∀ x, x ∈ l ↔ x ∈ l') : vec l = vec l' := by
  funext u
  unfold vec
  simp only [h]
def swp : Nat → List Lab → List Lab
  | 0, a :: b :: r => b :: a :: r
  | j + 1, a :: r => a :: swp j r
  | _, l => l
theorem swp_at : ∀ (p : List Lab) (a b : Lab) (r : List Lab), swp p.length (p ++ a :: b :: r) = p ++ b :: a :: r
  | [], _, _, _ => rfl
  | x :: p, a, b, r => by
    show x :: swp p.length (p ++ a :: b :: r) = _
    rw [swp_at p]; rfl
def flp : List Lab → List Lab
  | [] => []
  | [x] => [ng x]
  | a :: b :: r => a :: flp (b :: r)
theorem flp_at : ∀ (p : List Lab) (x : Lab), flp (p ++ [x]) = p ++ [ng x]
  | [], _ => rfl
  | [y], x => rfl
  | y :: z :: p, x => by
    show y :: flp (z :: p ++ [x]) = _
    rw [flp_at (z :: p) x]; rfl
theorem split_at {l : List Lab} {j : Nat} (h : j + 1 < l.length) : ∃ p a b r, l = p ++ a :: b :: r ∧ p.length = j := by
  refine ⟨l.take j, l[j], l[j + 1], l.drop (j + 2), ?_, by rw [List.length_take]; omega⟩
  rw [← List.drop_eq_getElem_cons (by omega), ← List.drop_eq_getElem_cons (by omega), List.take_append_drop]
theorem split_last {l : List Lab} {k : Nat} (h : l.length = k + 1) : ∃ p x, l = p ++ [x] ∧ p.length = k := by
  have hne : l ≠ [] := fun e => by rw [e] at h; cases h
  exact ⟨l.dropLast, l.getLast hne, (List.dropLast_concat_getLast hne).symm, by rw [List.length_dropLast]; omega⟩
section
variable (Λ : (Nat → Int) → Lab)
/-- The labels along a chain. -/
def lb : List Lab → List Lab → List Lab
  | _, [] => []
  | pre, a :: r => Λ (vec (pre ++ [a])) :: lb (pre ++ [a]) r
theorem lb_len : ∀ (pre r : List Lab), (lb Λ pre r).length = r.length
  | _, [] => rfl
  | pre, a :: r => by unfold lb; rw [List.length_cons, lb_len, List.length_cons]
theorem lb_append : ∀ (pre p r : List Lab), lb Λ pre (p ++ r) = lb Λ pre p ++ lb Λ (pre ++ p) r
  | pre, [], r => by rw [List.append_nil]; rfl
  | pre, a :: p, r => by
    show Λ (vec (pre ++ [a])) :: lb Λ (pre ++ [a]) (p ++ r) = _
    rw [lb_append (pre ++ [a]) p r, List.append_assoc]; rfl
theorem lb_congr : ∀ (r : List Lab) (pre pre' : List Lab), (∀ x, x ∈ pre ↔ x ∈ pre') → lb Λ pre r = lb Λ pre' r
  | [], _, _, _ => rfl
  | a :: r, pre, pre', h => by
    have h2 : ∀ x, x ∈ pre ++ [a] ↔ x ∈ pre' ++ [a] := fun x => by rw [List.mem_append, List.mem_append, h]
    unfold lb
    rw [vec_congr h2, lb_congr r _ _ h2]
theorem lb_mem : ∀ (r pre : List Lab) (y : Lab), y ∈ lb Λ pre r → ∃ q r', q ≠ [] ∧ r = q ++ r' ∧ y = Λ (vec (pre ++ q))
  | [], _, y, h => by cases h
  | a :: r, pre, y, h => by
    unfold lb at h
    rcases List.mem_cons.1 h with e | e
    · exact ⟨[a], r, by simp, rfl, e⟩
    · obtain ⟨q, r', _, rfl, e2⟩ := lb_mem r _ y e
      exact ⟨a :: q, r', by simp, rfl, by rw [e2, List.append_assoc]; rfl⟩
theorem facet_swap (p : List Lab) (a b : Lab) (r : List Lab) : (lb Λ [] (p ++ a :: b :: r)).eraseIdx p.length = (lb Λ [] (p ++ b :: a :: r)).eraseIdx p.length := by
  have h : ∀ (a b : Lab), (lb Λ [] (p ++ a :: b :: r)).eraseIdx p.length = lb Λ [] p ++ (Λ (vec (p ++ [a] ++ [b])) :: lb Λ (p ++ [a] ++ [b]) r) := fun a b => by
    rw [lb_append, List.eraseIdx_append_of_length_le (by rw [lb_len]; exact Nat.le_refl _), lb_len, Nat.sub_self]; rfl
  have hm : ∀ x, x ∈ p ++ [a] ++ [b] ↔ x ∈ p ++ [b] ++ [a] := fun x => by simp; constructor <;> rintro (h | h | h) <;> simp [h]
  rw [h, h, vec_congr hm, lb_congr Λ r _ _ hm]
theorem facet_last (p : List Lab) (x : Lab) : (lb Λ [] (p ++ [x])).eraseIdx p.length = lb Λ [] p := by
  rw [lb_append, List.eraseIdx_append_of_length_le (by rw [lb_len]; exact Nat.le_refl _), lb_len, Nat.sub_self]
  show lb Λ [] p ++ [] = _
  rw [List.append_nil]
/-- Signed orders of the places below k. -/
def pool (k : Nat) : List Lab := (List.range k).flatMap fun i => [(i, true), (i, false)]
theorem mem_pool {k : Nat} {x : Lab} : x ∈ pool k ↔ x.1 < k := by
  obtain ⟨i, s⟩ := x
  unfold pool
  rw [List.mem_flatMap]
  constructor
  · rintro ⟨a, ha, h⟩
    have := List.mem_range.1 ha
    simp at h
    rcases h with h | h <;> (show i < k; omega)
  · intro h
    exact ⟨i, List.mem_range.2 h, by cases s <;> simp⟩
theorem nodup_pool (k : Nat) : (pool k).Nodup := by
  refine List.pairwise_flatMap.2 ⟨fun a _ => by simp, List.Pairwise.imp ?_ List.nodup_range⟩
  intro a b hab x hx y hy e
  simp at hx hy
  rcases hx with hx | hx <;> rcases hy with hy | hy <;> rw [hx, hy] at e <;> exact hab (by have := congrArg Prod.fst e; exact this)
structure SP (k : Nat) (l : List Lab) : Prop where
  len : l.length = k
  nodup : (l.map Prod.fst).Nodup
  lt : ∀ x ∈ l, x.1 < k
/-- .. the greatest place with a plus. -/
structure HP (k : Nat) (l : List Lab) : Prop where
  sp : SP k l
  up : k = 0 ∨ (k - 1, true) ∈ l
instance (k : Nat) (l : List Lab) : Decidable (HP k l) := decidable_of_iff (((l.length = k ∧ (l.map Prod.fst).Nodup) ∧ ∀ x ∈ l, x.1 < k) ∧ (k = 0 ∨ (k - 1, true) ∈ l)) ⟨fun h => ⟨⟨h.1.1.1, h.1.1.2, h.1.2⟩, h.2⟩, fun h => ⟨⟨⟨h.sp.len, h.sp.nodup⟩, h.sp.lt⟩, h.up⟩⟩
def Hs (k : Nat) : List (List Lab) := (tup (pool k) k).filter fun l => decide (HP k l)
theorem mem_Hs {k : Nat} {l : List Lab} : l ∈ Hs k ↔ HP k l := by
  unfold Hs
  rw [List.mem_filter, decide_eq_true_eq]
  exact ⟨fun h => h.2, fun h => ⟨mem_tup.2 ⟨h.sp.len, fun x hx => mem_pool.2 (h.sp.lt x hx)⟩, h⟩⟩
theorem nodup_Hs (k : Nat) : (Hs k).Nodup := List.Pairwise.filter _ (nodup_tup (nodup_pool k) k)
theorem SP.perm {k : Nat} {l l' : List Lab} (h : SP k l) (e : List.Perm l l') : SP k l' :=
  ⟨by rw [← e.length_eq, h.len], (e.map Prod.fst).nodup_iff.1 h.nodup, fun x hx => h.lt x (e.mem_iff.2 hx)⟩
theorem SP.one {k : Nat} {l : List Lab} (h : SP k l) {u : Nat} (ha : (u, true) ∈ l) (hb : (u, false) ∈ l) : False := by
  have := h.nodup
  have h2 : ∀ l : List Lab, (l.map Prod.fst).Nodup → (u, true) ∈ l → (u, false) ∈ l → False := fun l => by
    induction l with
    | nil => intro _ h; cases h
    | cons y r ih =>
      intro hn h1 h2
      rw [List.map_cons, List.nodup_cons] at hn
      rcases List.mem_cons.1 h1 with e1 | e1 <;> rcases List.mem_cons.1 h2 with e2 | e2
      · rw [← e1] at e2; cases e2
      · exact hn.1 (List.mem_map.2 ⟨_, e2, by rw [← e1]⟩)
      · exact hn.1 (List.mem_map.2 ⟨_, e1, by rw [← e2]⟩)
      · exact ih hn.2 e1 e2
  exact h2 l this ha hb
theorem ng_mem {l : List Lab} {u : Nat} {s : Bool} : (u, s) ∈ l.map ng ↔ (u, !s) ∈ l := by
  rw [List.mem_map]
  constructor
  · rintro ⟨⟨a, b⟩, h, e⟩
    unfold ng at e
    injection e with e1 e2
    subst e1 e2
    rw [Bool.not_not]; exact h
  · intro h
    exact ⟨(u, !s), h, by simp [ng]⟩
theorem SP.ng {k : Nat} {l : List Lab} (h : SP k l) : SP k (l.map ng) :=
  ⟨by rw [List.length_map, h.len], by rw [List.map_map]; exact h.nodup, fun x hx => by
    obtain ⟨y, hy, rfl⟩ := List.mem_map.1 hx
    exact h.lt y hy⟩
theorem ngng (l : List Lab) : (l.map ng).map ng = l := by
  rw [List.map_map]
  have : (ng ∘ ng) = id := funext ng_ng
  rw [this, List.map_id]
/-- The labels alternate, q first. -/
def al (B : Nat) (q : Bool) (L : List Lab) : Bool := alt B 0 q (fun x => L.count x)
theorem al_ng (B : Nat) (q : Bool) (L : List Lab) : al B q (L.map ng) = al B (!q) L := by
  unfold al
  refine alt_neg _ _ _ _ _ (fun j s => ?_)
  show (L.map ng).count (j, s) = L.count (j, !s)
  have hinj : ∀ x y : Lab, ng x = ng y → x = y := fun x y e => by rw [← ng_ng x, e, ng_ng]
  rw [show ((j, s) : Lab) = ng (j, !s) by simp [ng], List.count_eq_countP, List.countP_map, List.count_eq_countP]
  refine List.countP_congr (fun x _ => ?_)
  simp only [Function.comp, beq_iff_eq]
  exact ⟨fun e => hinj _ _ e, fun e => by rw [e]⟩
structure Good (n B : Nat) : Prop where
  col : ∀ k l, k ≤ n → SP k l → ∀ q r, l = q ++ r → q ≠ [] → (Λ (vec q)).1 < B
  neg : ∀ k l, k ≤ n → SP k l → ∀ q r, l = q ++ r → q ≠ [] → Λ (vec (q.map ng)) = ng (Λ (vec q))
  comp : ∀ k l, k ≤ n → SP k l → ∀ q r r', l = q ++ r ++ r' → q ≠ [] → Λ (vec (q ++ r)) ≠ ng (Λ (vec q))
variable {n B : Nat} {Λ : (Nat → Int) → Lab} (g : Good Λ n B)
include g
theorem lb_ng {k : Nat} (hk : k ≤ n) : ∀ (r pre : List Lab), SP k (pre ++ r) → lb Λ (pre.map ng) (r.map ng) = (lb Λ pre r).map ng
  | [], _, _ => rfl
  | a :: r, pre, h => by
    have e : pre ++ a :: r = (pre ++ [a]) ++ r := by rw [List.append_assoc]; rfl
    have e2 : pre.map ng ++ [ng a] = (pre ++ [a]).map ng := by rw [List.map_append]; rfl
    show Λ (vec (pre.map ng ++ [ng a])) :: lb Λ (pre.map ng ++ [ng a]) (r.map ng) = ng (Λ (vec (pre ++ [a]))) :: (lb Λ (pre ++ [a]) r).map ng
    rw [e2, g.neg k _ hk h (pre ++ [a]) r e (by simp), lb_ng hk r (pre ++ [a]) (e ▸ h)]
theorem lb_lt {k : Nat} (hk : k ≤ n) {l : List Lab} (h : SP k l) : ∀ x ∈ lb Λ [] l, x.1 < B := fun x hx => by
  obtain ⟨q, r, hq, e, rfl⟩ := lb_mem Λ l [] x hx
  exact g.col k l hk h q r e hq
theorem lb_comp {k : Nat} (hk : k ≤ n) {l : List Lab} (h : SP k l) : ∀ j, (lb Λ [] l).count (j, true) = 0 ∨ (lb Λ [] l).count (j, false) = 0 := fun j => by
  rcases Nat.eq_zero_or_pos ((lb Λ [] l).count (j, true)) with h1 | h1
  · exact .inl h1
  rcases Nat.eq_zero_or_pos ((lb Λ [] l).count (j, false)) with h2 | h2
  · exact .inr h2
  exfalso
  obtain ⟨q, r, hq, e, e1⟩ := lb_mem Λ l [] _ (List.count_pos_iff.1 h1)
  obtain ⟨q', r', hq', e', e1'⟩ := lb_mem Λ l [] _ (List.count_pos_iff.1 h2)
  rw [List.nil_append] at e1 e1'
  rcases List.append_eq_append_iff.1 (e.symm.trans e') with ⟨t, h3, h4⟩ | ⟨t, h3, h4⟩
  · subst h3
    exact g.comp k l hk h q t r' (by rw [e, h4, List.append_assoc]) hq (by rw [← e1', ← e1]; rfl)
  · subst h3
    exact g.comp k l hk h q' t r (by rw [e', h4, List.append_assoc]) hq' (by rw [← e1', ← e1]; rfl)
/-- The doors of a chain: the labels without the j-th alternate. -/
theorem doors_count {k : Nat} (hk : k ≤ n) {l : List Lab} (h : SP k l) : ((List.range k).countP fun j => al B true ((lb Λ [] l).eraseIdx j)) % 2 = (b1 (al B true (lb Λ [] l)) + b1 (al B false (lb Λ [] l))) % 2 := by
  have h1 := fan_count (lb Λ [] l) (lb_comp g hk h) B 0 true (fun x hx => by have := lb_lt g hk h x hx; omega)
  have hl : (lb Λ [] l).length = k := by rw [lb_len, h.len]
  have h2 : ((List.range k).countP fun j => al B true ((lb Λ [] l).eraseIdx j)) = (lb Λ [] l).countP (G B 0 true (fun x => (lb Λ [] l).count x)) := by
    generalize lb Λ [] l = L at hl
    have e : L = (List.range k).map (fun j => L.getD j (0, true)) := by
      apply List.ext_getElem
      · simp [hl]
      · intro i h1 h2; simp [List.getElem?_eq_getElem h1]
    conv => rhs; rw [show L.countP (G B 0 true (fun x => L.count x)) = ((List.range k).map (fun j => L.getD j (0, true))).countP (G B 0 true (fun x => L.count x)) from congrArg _ e]
    rw [List.countP_map]
    refine List.countP_congr (fun j hj => ?_)
    have hj := List.mem_range.1 hj
    have hjl : j < L.length := by omega
    have hcnt : (fun x => (L.eraseIdx j).count x) = dec (fun x => L.count x) (L.getD j (0, true)) := by
      funext x
      have e1 : L = L.take j ++ L[j] :: L.drop (j + 1) := by rw [← List.drop_eq_getElem_cons hjl, List.take_append_drop]
      have e2 : L.eraseIdx j = L.take j ++ L.drop (j + 1) := List.eraseIdx_eq_take_drop_succ L j
      have e3 : L.getD j (0, true) = L[j] := by rw [List.getD_eq_getElem?_getD, List.getElem?_eq_getElem hjl]; rfl
      have e4 : L.count x = (L.take j).count x + ((L.drop (j + 1)).count x + if L[j] == x then 1 else 0) := by
        conv => lhs; rw [e1]
        rw [List.count_append, List.count_cons]
      rw [e3, e2, List.count_append]
      unfold dec
      by_cases hx : x = L[j]
      · rw [if_pos hx]
        show _ = L.count x - 1
        rw [e4, if_pos (beq_iff_eq.2 hx.symm)]; omega
      · rw [if_neg hx]
        show _ = L.count x
        rw [e4, if_neg (fun z => hx (beq_iff_eq.1 z).symm)]; omega
    simp only [Function.comp, G, al, hcnt, Nat.zero_le, decide_true, Bool.true_and]
  rw [h2]
  exact h1
end
end Go.Proofs.YtmbkkhpjcblijaaDoor.QFnExactFewestCuts.Neck
namespace Go.Proofs.YtmbkkhpjcblijaaDoor.QFnExactFewestCuts.Neck
section
variable {Λ : (Nat → Int) → Lab} {n B : Nat}
def alL (Λ : (Nat → Int) → Lab) (B : Nat) (q : Bool) (l : List Lab) : Bool := al B q (lb Λ [] l)
/-- The chains whose labels alternate. -/
def As (Λ : (Nat → Int) → Lab) (B k : Nat) : List (List Lab) := (Hs k).filter fun l => alL Λ B true l || alL Λ B false l
def okd (Λ : (Nat → Int) → Lab) (B : Nat) (l : List Lab) (j : Nat) : Bool := al B true ((lb Λ [] l).eraseIdx j)
def Ds (Λ : (Nat → Int) → Lab) (B k : Nat) : List (List Lab × Nat) := (Hs k).flatMap fun l => ((List.range k).filter (okd Λ B l)).map (l, ·)
theorem mem_Ds {k : Nat} {x : List Lab × Nat} : x ∈ Ds Λ B k ↔ HP k x.1 ∧ x.2 < k ∧ okd Λ B x.1 x.2 = true := by
  unfold Ds
  rw [List.mem_flatMap]
  constructor
  · rintro ⟨l, hl, h⟩
    obtain ⟨j, hj, rfl⟩ := List.mem_map.1 h
    obtain ⟨h1, h2⟩ := List.mem_filter.1 hj
    exact ⟨mem_Hs.1 hl, List.mem_range.1 h1, h2⟩
  · rintro ⟨h1, h2, h3⟩
    exact ⟨x.1, mem_Hs.2 h1, List.mem_map.2 ⟨x.2, List.mem_filter.2 ⟨List.mem_range.2 h2, h3⟩, rfl⟩⟩
theorem nodup_Ds (k : Nat) : (Ds Λ B k).Nodup := by
  refine List.pairwise_flatMap.2 ⟨fun l _ => nodup_map_on _ (List.Pairwise.filter _ List.nodup_range) (fun x _ y _ e => (Prod.mk.inj e).2), List.Pairwise.imp ?_ (nodup_Hs k)⟩
  intro a b hab x hx y hy e
  obtain ⟨j, _, rfl⟩ := List.mem_map.1 hx
  obtain ⟨j', _, rfl⟩ := List.mem_map.1 hy
  exact hab (Prod.mk.inj e).1
theorem al_both {L : List Lab} (hb : ∀ x ∈ L, x.1 < B) (h1 : al B true L = true) (h2 : al B false L = true) : L = [] := by
  cases L with
  | nil => rfl
  | cons x r =>
    exfalso
    have := alt_both B 0 _ h1 h2 x.1 x.2 (Nat.zero_le _) (by have := hb x List.mem_cons_self; omega)
    exact List.count_eq_zero.1 this List.mem_cons_self
theorem Ds_len (g : Good Λ n B) {k : Nat} (hk : k + 1 ≤ n) : (Ds Λ B (k + 1)).length % 2 = (As Λ B (k + 1)).length % 2 := by
  unfold Ds As
  have : ∀ M : List (List Lab), (∀ l ∈ M, HP (k + 1) l) → (M.flatMap fun l => ((List.range (k + 1)).filter (okd Λ B l)).map (l, ·)).length % 2 = (M.filter fun l => alL Λ B true l || alL Λ B false l).length % 2 := fun M => by
    induction M with
    | nil => intro _; rfl
    | cons l r ih =>
      intro h
      have ih := ih (fun x hx => h x (List.mem_cons_of_mem _ hx))
      have hl := h l List.mem_cons_self
      have hd := doors_count g hk hl.sp
      have hne : lb Λ [] l ≠ [] := fun e => by have := congrArg List.length e; rw [lb_len, hl.sp.len] at this; cases this
      have hx : ¬ (al B true (lb Λ [] l) = true ∧ al B false (lb Λ [] l) = true) := fun z => hne (al_both (lb_lt g hk hl.sp) z.1 z.2)
      rw [List.flatMap_cons, List.length_append, List.length_map, ← List.countP_eq_length_filter, List.filter_cons]
      have e : (List.countP (okd Λ B l) (List.range (k + 1))) % 2 = b1 (alL Λ B true l || alL Λ B false l) % 2 := by
        rw [show (List.countP (okd Λ B l) (List.range (k + 1))) % 2 = _ from hd]
        unfold alL
        cases h1 : al B true (lb Λ [] l) <;> cases h2 : al B false (lb Λ [] l) <;> simp_all [b1]
      cases hc : (alL Λ B true l || alL Λ B false l) with
      | true => rw [hc] at e; simp only [b1, if_true] at e; rw [if_pos rfl, List.length_cons]; omega
      | false => rw [hc] at e; simp [b1] at e; rw [if_neg (by decide)]; omega
  exact this _ (fun l hl => mem_Hs.1 hl)
/-- A door of the border: the last place alone, with its plus. -/
def bd (k : Nat) (x : List Lab × Nat) : Bool := decide (x.2 = k) && decide (x.1.getLast? = some (k, true))
def piv (k : Nat) (x : List Lab × Nat) : List Lab × Nat := if x.2 < k then (swp x.2 x.1, x.2) else (flp x.1, x.2)
theorem inner_even {k : Nat} : ((Ds Λ B (k + 1)).filter fun x => !bd k x).length % 2 = 0 := by
  refine even_invol (piv k) _ _ rfl (List.Pairwise.filter _ (nodup_Ds (k + 1))) (fun x hx => ?_)
  obtain ⟨hx1, hx2⟩ := List.mem_filter.1 hx
  obtain ⟨hH, hj, hok⟩ := mem_Ds.1 hx1
  obtain ⟨l, j⟩ := x
  by_cases hlt : j < k
  · obtain ⟨p, a, b, r, rfl, rfl⟩ := split_at (l := l) (j := j) (by rw [hH.sp.len]; omega)
    have hperm : List.Perm (p ++ a :: b :: r) (p ++ b :: a :: r) := List.Perm.append_left p (List.Perm.swap b a r)
    have e : piv k (p ++ a :: b :: r, p.length) = (p ++ b :: a :: r, p.length) := by unfold piv; rw [if_pos hlt]; show (swp _ _, _) = _; rw [swp_at]
    have e2 : piv k (p ++ b :: a :: r, p.length) = (p ++ a :: b :: r, p.length) := by unfold piv; rw [if_pos hlt]; show (swp _ _, _) = _; rw [swp_at]
    rw [e, e2]
    refine ⟨List.mem_filter.2 ⟨mem_Ds.2 ⟨⟨hH.sp.perm hperm, hH.up.imp id (hperm.mem_iff.1)⟩, hj, ?_⟩, ?_⟩, rfl, fun z => ?_⟩
    · unfold okd at hok ⊢
      rw [← facet_swap]; exact hok
    · unfold bd
      rw [decide_eq_false (show ¬ p.length = k by omega)]; rfl
    · have h1 := List.append_cancel_left (Prod.mk.inj z).1
      have hn := hH.sp.nodup
      injection h1 with h2 _
      subst h2
      rw [List.map_append, List.map_cons, List.map_cons] at hn
      have := (List.nodup_append.1 hn).2.1
      rw [List.nodup_cons] at this
      exact this.1 List.mem_cons_self
  · have hjk : j = k := by have : j < k + 1 := hj; omega
    subst hjk
    obtain ⟨p, ⟨c, s⟩, rfl, hp⟩ := split_last hH.sp.len
    have e : ∀ s, piv j (p ++ [(c, s)], j) = (p ++ [(c, !s)], j) := fun s => by unfold piv; rw [if_neg hlt]; show (flp _, _) = _; rw [flp_at]; rfl
    have hbd : ∀ s, bd j (p ++ [(c, s)], j) = decide (c = j ∧ s = true) := fun s => by
      unfold bd
      rw [decide_eq_true rfl, Bool.true_and]
      have : (p ++ [(c, s)]).getLast? = some (c, s) := by simp
      rw [this]
      simp
    rw [e, e, Bool.not_not]
    have hcj : c ≠ j := fun ec => by
      subst ec
      cases s with
      | true => rw [hbd] at hx2; simp at hx2
      | false =>
        rcases hH.up with h0 | h0
        · omega
        · rw [Nat.add_sub_cancel] at h0
          exact hH.sp.one h0 (by simp)
    have hsp : SP (j + 1) (p ++ [(c, !s)]) := ⟨by rw [List.length_append, hp]; rfl, by have := hH.sp.nodup; rw [List.map_append] at this ⊢; exact this, fun x hx => by
      rcases List.mem_append.1 hx with h | h
      · exact hH.sp.lt x (List.mem_append_left _ h)
      · have : x = (c, !s) := by simpa using h
        rw [this]; exact hH.sp.lt (c, s) (by simp)⟩
    refine ⟨List.mem_filter.2 ⟨mem_Ds.2 ⟨⟨hsp, ?_⟩, hj, ?_⟩, ?_⟩, rfl, fun z => ?_⟩
    · refine hH.up.imp id (fun h => ?_)
      rw [Nat.add_sub_cancel] at h ⊢
      rcases List.mem_append.1 h with h | h
      · exact List.mem_append_left _ h
      · have : (j, true) = (c, s) := by simpa using h
        exact absurd (congrArg Prod.fst this).symm hcj
    · unfold okd at hok ⊢
      rw [← hp] at hok ⊢
      rw [facet_last] at hok ⊢
      exact hok
    · rw [hbd, decide_eq_false (fun z => hcj z.1)]; rfl
    · have h1 := List.append_cancel_left (Prod.mk.inj z).1
      injection h1 with h2 _
      injection h2 with _ h3
      cases s <;> cases h3
def toA (k : Nat) (x : List Lab × Nat) : List Lab := if k = 0 ∨ (k - 1, true) ∈ x.1.dropLast then x.1.dropLast else x.1.dropLast.map ng
def toD (Λ : (Nat → Int) → Lab) (B k : Nat) (l : List Lab) : List Lab × Nat := if alL Λ B true l = true then (l ++ [(k, true)], k) else (l.map ng ++ [(k, true)], k)
theorem HP.snoc {k : Nat} {l : List Lab} (h : SP k l) : HP (k + 1) (l ++ [(k, true)]) := by
  refine ⟨⟨by rw [List.length_append, h.len]; rfl, ?_, fun x hx => ?_⟩, .inr (by simp)⟩
  · rw [List.map_append]
    refine List.nodup_append.2 ⟨h.nodup, by simp, fun a ha b hb e => ?_⟩
    obtain ⟨y, hy, rfl⟩ := List.mem_map.1 ha
    have := h.lt y hy
    have hb : b = k := by simpa using hb
    omega
  · rcases List.mem_append.1 hx with h1 | h1
    · have := h.lt x h1; omega
    · have : x = (k, true) := by simpa using h1
      rw [this]; exact Nat.lt_succ_self k
theorem okd_snoc (p : List Lab) (x : Lab) {k : Nat} (h : p.length = k) : okd Λ B (p ++ [x]) k = alL Λ B true p := by
  unfold okd alL
  rw [← h, facet_last]
theorem alL_ng (g : Good Λ n B) {k : Nat} (hk : k ≤ n) {l : List Lab} (h : SP k l) (q : Bool) : alL Λ B q (l.map ng) = alL Λ B (!q) l := by
  have := lb_ng g hk l [] h
  unfold alL
  rw [show lb Λ [] (l.map ng) = (lb Λ [] l).map ng from this, al_ng]
theorem border_len (g : Good Λ n B) {k : Nat} (hk : k + 1 ≤ n) : ((Ds Λ B (k + 1)).filter fun x => bd k x).length = (As Λ B k).length := by
  refine len_of_bij (List.Pairwise.filter _ (nodup_Ds (k + 1))) (List.Pairwise.filter _ (nodup_Hs k)) (toA k) (toD Λ B k) (fun x hx => ?_) (fun l hl => ?_)
  · obtain ⟨hx1, hx2⟩ := List.mem_filter.1 hx
    obtain ⟨hH, hj, hok⟩ := mem_Ds.1 hx1
    obtain ⟨l, j⟩ := x
    unfold bd at hx2
    obtain ⟨hj1, hlast⟩ := Bool.and_eq_true_iff.1 hx2
    have hj1 : j = k := of_decide_eq_true hj1
    subst hj1
    obtain ⟨p, x, rfl, hp⟩ := split_last hH.sp.len
    have hx : x = (j, true) := by
      have := of_decide_eq_true hlast
      simpa using this
    subst hx
    have hok2 : alL Λ B true p = true := by
      have := okd_snoc (Λ := Λ) (B := B) p (j, true) hp
      rw [← this]; exact hok
    have hsp : SP j p := ⟨hp, by have := hH.sp.nodup; rw [List.map_append] at this; exact (List.nodup_append.1 this).1, fun y hy => by
      have h1 := hH.sp.lt y (List.mem_append_left _ hy)
      have hn := hH.sp.nodup
      rw [List.map_append] at hn
      have h2 := (List.nodup_append.1 hn).2.2 y.1 (List.mem_map.2 ⟨y, hy, rfl⟩) j (by simp)
      omega⟩
    have ed : (p ++ [(j, true)]).dropLast = p := by simp
    unfold toA
    simp only [ed]
    by_cases hc : j = 0 ∨ (j - 1, true) ∈ p
    · rw [if_pos hc]
      refine ⟨List.mem_filter.2 ⟨mem_Hs.2 ⟨hsp, hc⟩, by rw [hok2]; rfl⟩, ?_⟩
      unfold toD
      rw [if_pos hok2]
    · rw [if_neg hc]
      have hj0 : j ≠ 0 := fun e => hc (.inl e)
      have hmem : (j - 1, false) ∈ p := by
        -- the place j - 1 is there
        have hall : ∀ i, i < j → i ∈ p.map Prod.fst := fun i hi => by
          have h1 := len_le (List.range j) (p.map Prod.fst)
          refine Classical.byContradiction fun hno => ?_
          have h2 := len_le (p.map Prod.fst) ((List.range j).erase i) hsp.nodup (fun z hz => by
            obtain ⟨y, hy, rfl⟩ := List.mem_map.1 hz
            exact (List.mem_erase_of_ne (fun e => hno (by rw [← e]; exact List.mem_map.2 ⟨y, hy, rfl⟩))).2 (List.mem_range.2 (hsp.lt y hy)))
          rw [List.length_map, List.length_erase_of_mem (List.mem_range.2 hi), List.length_range, hsp.len] at h2
          omega
        obtain ⟨⟨a, s⟩, ha, e⟩ := List.mem_map.1 (hall (j - 1) (by omega))
        have e : a = j - 1 := e
        subst e
        cases s with
        | true => exact absurd (.inr ha) hc
        | false => exact ha
      have hnt : alL Λ B true (p.map ng) = false := by
        rw [alL_ng g (by omega) hsp]
        cases h2 : alL Λ B (!true) p with
        | false => rfl
        | true =>
          have := al_both (lb_lt g (by omega) hsp) hok2 h2
          have h3 := congrArg List.length this
          rw [lb_len, hp] at h3
          exact absurd h3 hj0
      refine ⟨List.mem_filter.2 ⟨mem_Hs.2 ⟨hsp.ng, .inr (ng_mem.2 hmem)⟩, ?_⟩, ?_⟩
      · have : alL Λ B false (p.map ng) = true := by rw [alL_ng g (by omega) hsp]; exact hok2
        rw [this, Bool.or_true]
      · unfold toD
        rw [if_neg (by rw [hnt]; decide), ngng]
  · obtain ⟨h1, h2⟩ := List.mem_filter.1 hl
    have hH := mem_Hs.1 h1
    unfold toD
    by_cases hc : alL Λ B true l = true
    · rw [if_pos hc]
      refine ⟨List.mem_filter.2 ⟨mem_Ds.2 ⟨HP.snoc hH.sp, Nat.lt_succ_self k, by rw [okd_snoc _ _ hH.sp.len]; exact hc⟩, by unfold bd; simp⟩, ?_⟩
      unfold toA
      have ed : (l ++ [(k, true)]).dropLast = l := by simp
      simp only [ed]
      rw [if_pos hH.up]
    · rw [if_neg hc]
      have hf : alL Λ B false l = true := by
        cases h3 : alL Λ B true l with
        | true => exact absurd h3 hc
        | false => rw [h3, Bool.false_or] at h2; exact h2
      have hk0 : k ≠ 0 := fun e => by
        subst e
        have : l = [] := List.eq_nil_of_length_eq_zero hH.sp.len
        subst this
        apply hc
        have : ∀ (m i : Nat) (q : Bool), alt m i q (fun x => ([] : List Lab).count x) = true := fun m => by
          induction m with
          | zero => intro i q; rfl
          | succ m ih => intro i q; rw [alt_succ, if_pos (by simp)]; exact ih (i + 1) q
        exact this B 0 true
      refine ⟨List.mem_filter.2 ⟨mem_Ds.2 ⟨HP.snoc hH.sp.ng, Nat.lt_succ_self k, by rw [okd_snoc _ _ hH.sp.ng.len, alL_ng g (by omega) hH.sp]; exact hf⟩, by unfold bd; simp⟩, ?_⟩
      unfold toA
      have ed : (l.map ng ++ [(k, true)]).dropLast = l.map ng := by simp
      simp only [ed]
      rw [if_neg, ngng]
      rintro (h3 | h3)
      · exact hk0 h3
      · rcases hH.up with h4 | h4
        · exact hk0 h4
        · exact hH.sp.one h4 (ng_mem.1 h3)
theorem As_odd (g : Good Λ n B) : ∀ k, k ≤ n → (As Λ B k).length % 2 = 1
  | 0, _ => by
    have hH : Hs 0 = [[]] := by unfold Hs; simp [tup]; exact ⟨⟨rfl, by simp, fun x hx => by cases hx⟩, .inl rfl⟩
    have : ∀ (m i : Nat) (q : Bool), alt m i q (fun x => ([] : List Lab).count x) = true := fun m => by
      induction m with
      | zero => intro i q; rfl
      | succ m ih => intro i q; rw [alt_succ, if_pos (by simp)]; exact ih (i + 1) q
    have e : alL Λ B true [] = true := this B 0 true
    unfold As
    rw [hH, List.filter_cons, e]
    rfl
  | k + 1, hk => by
    have ih := As_odd g k (by omega)
    have h1 := Ds_len g hk
    have h2 := inner_even (Λ := Λ) (B := B) (k := k)
    have h3 := border_len g hk
    have h4 := List.length_eq_countP_add_countP (bd k) (l := Ds Λ B (k + 1))
    rw [List.countP_eq_length_filter, List.countP_eq_length_filter] at h4
    have h5 : (Ds Λ B (k + 1)).filter (fun a => decide ¬ bd k a = true) = (Ds Λ B (k + 1)).filter (fun x => !bd k x) := List.filter_congr (fun x _ => by cases bd k x <;> rfl)
    rw [h5] at h4
    have h6 : (Ds Λ B (k + 1)).filter (bd k) = (Ds Λ B (k + 1)).filter (fun x => bd k x) := rfl
    rw [h6, h3] at h4
    omega
/-- Fan's lemma: labels of signed places need as many kinds as there are places. -/
theorem fan (g : Good Λ n B) (C : List Nat) (hC : ∀ k l, k ≤ n → SP k l → ∀ q r, l = q ++ r → q ≠ [] → (Λ (vec q)).1 ∈ C) : n ≤ C.length := by
  have h := As_odd g n (Nat.le_refl n)
  have hpos : 0 < (As Λ B n).length := by omega
  obtain ⟨l, hl⟩ := List.exists_mem_of_length_pos hpos
  obtain ⟨h1, h2⟩ := List.mem_filter.1 hl
  have hH := mem_Hs.1 h1
  have hle : ∀ j, (lb Λ [] l).count (j, true) + (lb Λ [] l).count (j, false) ≤ 1 := fun j => by
    rcases Nat.lt_or_ge j B with hj | hj
    · rcases Bool.or_eq_true_iff.1 h2 with h3 | h3
      · exact alt_le B 0 _ _ h3 j (Nat.zero_le _) (by omega)
      · exact alt_le B 0 _ _ h3 j (Nat.zero_le _) (by omega)
    · have hz : ∀ s, (lb Λ [] l).count (j, s) = 0 := fun s => List.count_eq_zero.2 (fun hm => by have := lb_lt g (Nat.le_refl n) hH.sp _ hm; omega)
      rw [hz, hz]; omega
  have hn : ((lb Λ [] l).map Prod.fst).Nodup := List.nodup_iff_count.2 (fun j => by
    have := hle j
    have e : ∀ L : List Lab, (L.map Prod.fst).count j = L.count (j, true) + L.count (j, false) := fun L => by
      induction L with
      | nil => rfl
      | cons x r ih =>
        obtain ⟨a, s⟩ := x
        rw [List.map_cons, List.count_cons, List.count_cons, List.count_cons, ih]
        by_cases ha : a = j
        · subst ha; cases s <;> simp <;> omega
        · cases s <;> simp [ha]
    rw [e]; exact this)
  have := len_le ((lb Λ [] l).map Prod.fst) C hn (fun x hx => by
    obtain ⟨y, hy, rfl⟩ := List.mem_map.1 hx
    obtain ⟨q, r, hq, e, rfl⟩ := lb_mem Λ l [] y hy
    exact hC n l (Nat.le_refl n) hH.sp q r e hq)
  rw [List.length_map, lb_len, hH.sp.len] at this
  exact this
end
end Go.Proofs.YtmbkkhpjcblijaaDoor.QFnExactFewestCuts.Neck
namespace Go.Proofs.YtmbkkhpjcblijaaDoor.QFnExactFewestCuts.Neck
/-! ### how often signs alternate -/
/-- How often the signs of the d places from u on alternate, b the sign ahead (0 at the start). -/
def ac (x : Nat → Int) : Nat → Nat → Int → Nat
  | 0, _, _ => 0
  | d + 1, u, b => if x u = 0 ∨ x u = b then ac x d (u + 1) b else ac x d (u + 1) (x u) + 1
/-- The first sign. -/
def fs (x : Nat → Int) : Nat → Nat → Int
  | 0, _ => 0
  | d + 1, u => if x u = 0 then fs x d (u + 1) else x u
theorem ac_lip (x : Nat → Int) : ∀ d u b c, ac x d u b ≤ ac x d u c + 1
  | 0, _, _, _ => Nat.zero_le _
  | d + 1, u, b, c => by
    unfold ac
    have h1 := ac_lip x d (u + 1) b c
    have h2 := ac_lip x d (u + 1) b (x u)
    have h3 := ac_lip x d (u + 1) (x u) c
    by_cases h0 : x u = 0
    · rw [if_pos (.inl h0), if_pos (.inl h0)]; exact h1
    · by_cases hb : x u = b <;> by_cases hc : x u = c
      · rw [if_pos (.inr hb), if_pos (.inr hc)]; exact h1
      · rw [if_pos (.inr hb), if_neg (by rintro (h | h); exact h0 h; exact hc h)]; omega
      · rw [if_neg (by rintro (h | h); exact h0 h; exact hb h), if_pos (.inr hc), hc]; exact Nat.le_refl _
      · rw [if_neg (by rintro (h | h); exact h0 h; exact hb h), if_neg (by rintro (h | h); exact h0 h; exact hc h)]; omega
theorem ac_mono {x y : Nat → Int} (h : ∀ u, x u ≠ 0 → y u = x u) : ∀ d u b, ac x d u b ≤ ac y d u b
  | 0, _, _ => Nat.le_refl _
  | d + 1, u, b => by
    unfold ac
    have h1 := ac_mono h d (u + 1) b
    by_cases h0 : x u = 0
    · rw [if_pos (.inl h0)]
      by_cases hy : y u = 0 ∨ y u = b
      · rw [if_pos hy]; exact h1
      · rw [if_neg hy]
        have := ac_lip x d (u + 1) b (y u)
        have := ac_mono h d (u + 1) (y u)
        omega
    · rw [h u h0]
      by_cases hb : x u = 0 ∨ x u = b
      · rw [if_pos hb, if_pos hb]; exact h1
      · rw [if_neg hb, if_neg hb]
        have := ac_mono h d (u + 1) (x u)
        omega
theorem fs_other (x : Nat → Int) : ∀ d u c, fs x d u ≠ 0 → fs x d u ≠ c → ac x d u c = ac x d u 0
  | 0, _, _, _, _ => rfl
  | d + 1, u, c, h1, h2 => by
    unfold fs at h1 h2
    unfold ac
    by_cases h0 : x u = 0
    · rw [if_pos h0] at h1 h2
      rw [if_pos (.inl h0), if_pos (.inl h0)]
      exact fs_other x d (u + 1) c h1 h2
    · rw [if_neg h0] at h1 h2
      rw [if_neg (by rintro (h | h); exact h0 h; exact h2 h), if_neg (by rintro (h | h); exact h0 h; exact h0 h)]
theorem fs_same (x : Nat → Int) : ∀ d u, fs x d u ≠ 0 → ac x d u (fs x d u) + 1 = ac x d u 0
  | 0, _, h => absurd rfl h
  | d + 1, u, h => by
    by_cases h0 : x u = 0
    · have e : fs x (d + 1) u = fs x d (u + 1) := if_pos h0
      rw [e] at h ⊢
      unfold ac
      rw [if_pos (.inl h0), if_pos (.inl h0)]
      exact fs_same x d (u + 1) h
    · have e : fs x (d + 1) u = x u := if_neg h0
      rw [e]
      unfold ac
      rw [if_pos (.inr rfl), if_neg (by rintro (h | h); exact h0 h; exact h0 h)]
theorem fs_lt {x y : Nat → Int} (h : ∀ u, x u ≠ 0 → y u = x u) (d u : Nat) (h1 : fs x d u ≠ 0) (h2 : fs y d u ≠ 0) (h3 : fs x d u ≠ fs y d u) : ac x d u 0 < ac y d u 0 := by
  have a := fs_other x d u (fs y d u) h1 h3
  have b := ac_mono h d u (fs y d u)
  have c := fs_same y d u h2
  omega
theorem ac_neg (x : Nat → Int) : ∀ d u b, ac (fun v => -x v) d u (-b) = ac x d u b
  | 0, _, _ => rfl
  | d + 1, u, b => by
    have h1 := ac_neg x d (u + 1) b
    have h2 := ac_neg x d (u + 1) (x u)
    unfold ac
    by_cases h : x u = 0 ∨ x u = b
    · rw [if_pos h, if_pos (by omega), h1]
    · rw [if_neg h, if_neg (by omega), h2]
theorem fs_neg (x : Nat → Int) : ∀ d u, fs (fun v => -x v) d u = -fs x d u
  | 0, _ => rfl
  | d + 1, u => by
    unfold fs
    by_cases h : x u = 0
    · rw [if_pos h, if_pos (by omega), fs_neg x d]
    · rw [if_neg h, if_neg (by omega)]
theorem fs_unit (x : Nat → Int) (h : ∀ u, x u = 0 ∨ x u = 1 ∨ x u = -1) : ∀ d u, fs x d u = 0 ∨ fs x d u = 1 ∨ fs x d u = -1
  | 0, _ => .inl rfl
  | d + 1, u => by
    unfold fs
    split
    · exact fs_unit x h d (u + 1)
    · exact h u
theorem fs_some (x : Nat → Int) : ∀ d u v, u ≤ v → v < u + d → x v ≠ 0 → fs x d u ≠ 0
  | 0, u, v, h1, h2, _ => by omega
  | d + 1, u, v, h1, h2, h3 => by
    unfold fs
    by_cases h : x u = 0
    · rw [if_pos h]
      refine fs_some x d (u + 1) v ?_ (by omega) h3
      rcases Nat.lt_or_ge u v with h4 | h4
      · exact h4
      · have : u = v := by omega
        subst this
        exact absurd h h3
    · rw [if_neg h]; exact h
theorem ac_pos (x : Nat → Int) (d u : Nat) (h : fs x d u ≠ 0) : 0 < ac x d u 0 := by have := fs_same x d u h; omega
/-- Every second sign turned. -/
def tw (x : Nat → Int) : Nat → Int := fun u => if u % 2 = 0 then x u else -x u
theorem tw_zero (x : Nat → Int) (u : Nat) : tw x u = 0 ↔ x u = 0 := by unfold tw; split <;> omega
theorem tw_neg (x : Nat → Int) : tw (fun u => -x u) = fun u => -tw x u := by funext u; unfold tw; split <;> rfl
/-- One after the other: either the signs alternate or the turned ones do. -/
theorem ac_tw {y : Nat → Int} : ∀ d u, (∀ v, u ≤ v → v < u + 1 + d → y v = 1 ∨ y v = -1) → ac y d (u + 1) (y u) + ac (tw y) d (u + 1) (tw y u) = d
  | 0, _, _ => rfl
  | d + 1, u, h => by
    have h0 := h u (Nat.le_refl _) (by omega)
    have h1 := h (u + 1) (by omega) (by omega)
    have ih := ac_tw (y := y) d (u + 1) (fun v h2 h3 => h v (by omega) (by omega))
    unfold ac
    by_cases e : y (u + 1) = y u
    · have e2 : ¬ (tw y (u + 1) = 0 ∨ tw y (u + 1) = tw y u) := by unfold tw; split <;> split <;> omega
      rw [if_pos (.inr e), if_neg e2, ← e]; omega
    · have e2 : tw y (u + 1) = tw y u := by unfold tw; split <;> split <;> omega
      rw [if_neg (by omega), if_pos (.inr e2), ← e2]; omega
theorem ac_full {y : Nat → Int} {n : Nat} (hn : 0 < n) (h : ∀ v, v < n → y v = 1 ∨ y v = -1) : ac y n 0 0 + ac (tw y) n 0 0 = n + 1 := by
  obtain ⟨d, rfl⟩ : ∃ d, n = d + 1 := ⟨n - 1, by omega⟩
  have h0 := h 0 (by omega)
  have := ac_tw (y := y) d 0 (fun v _ h2 => h v (by omega))
  unfold ac
  rw [if_neg (by omega), if_neg (by rw [tw_zero]; omega)]
  omega
/-! ### counting -/
def ct (f : Nat → Bool) : Nat → Nat
  | 0 => 0
  | n + 1 => ct f n + if f n = true then 1 else 0
theorem ct_congr {f g : Nat → Bool} : ∀ n, (∀ u, u < n → f u = g u) → ct f n = ct g n
  | 0, _ => rfl
  | n + 1, h => by
    unfold ct
    rw [ct_congr n (fun u hu => h u (by omega)), h n (by omega)]
theorem ct_false : ∀ n, ct (fun _ => false) n = 0
  | 0 => rfl
  | n + 1 => by unfold ct; rw [ct_false n]; rfl
theorem ct_mono {f g : Nat → Bool} : ∀ n, (∀ u, u < n → f u = true → g u = true) → ct f n ≤ ct g n
  | 0, _ => Nat.le_refl _
  | n + 1, h => by
    unfold ct
    have := ct_mono n (fun u hu => h u (by omega))
    have := h n (by omega)
    split <;> split <;> simp_all <;> omega
theorem ct_one {f g : Nat → Bool} : ∀ n u, u < n → (∀ v, v < n → v ≠ u → f v = g v) → f u = false → g u = true → ct g n = ct f n + 1
  | 0, u, h, _, _, _ => by omega
  | n + 1, u, h, h1, h2, h3 => by
    unfold ct
    rcases Nat.lt_or_ge u n with h4 | h4
    · rw [ct_one n u h4 (fun v hv => h1 v (by omega)) h2 h3, h1 n (by omega) (by omega)]; omega
    · have : u = n := by omega
      subst this
      rw [ct_congr u (fun v hv => (h1 v (by omega) (by omega)).symm), h2, h3]; simp
theorem ct_add {f g k : Nat → Bool} : ∀ n, (∀ u, u < n → (if f u = true then 1 else 0) + (if g u = true then 1 else 0) = (if k u = true then 1 else 0 : Nat)) → ct f n + ct g n = ct k n
  | 0, _ => rfl
  | n + 1, h => by
    have := ct_add n (fun u hu => h u (by omega))
    have := h n (by omega)
    unfold ct
    omega
section
variable (kind : Nat → Nat)
def P (x : Nat → Int) (n i : Nat) : Nat := ct (fun u => kind u == i && x u == 1) n
def Q (x : Nat → Int) (n i : Nat) : Nat := ct (fun u => kind u == i && x u == -1) n
def Z (x : Nat → Int) (n i : Nat) : Nat := ct (fun u => kind u == i && x u == 0) n
def T (n i : Nat) : Nat := ct (fun u => kind u == i) n
theorem PQZ {x : Nat → Int} (hx : ∀ u, x u = 0 ∨ x u = 1 ∨ x u = -1) (n i : Nat) : P kind x n i + Q kind x n i + Z kind x n i = T kind n i := by
  have h1 : P kind x n i + Q kind x n i = ct (fun u => kind u == i && !(x u == 0)) n := ct_add n (fun u _ => by
    cases kind u == i
    · rfl
    · rcases hx u with h | h | h <;> rw [h] <;> rfl)
  rw [h1]
  exact ct_add n (fun u _ => by cases kind u == i <;> cases x u == 0 <;> rfl)
theorem P_neg (x : Nat → Int) (n i : Nat) : P kind (fun u => -x u) n i = Q kind x n i := ct_congr n (fun u _ => by
  show (kind u == i && -x u == 1) = (kind u == i && x u == -1)
  have : (-x u == 1) = (x u == -1) := by rw [Bool.eq_iff_iff, beq_iff_eq, beq_iff_eq]; omega
  rw [this])
theorem Q_neg (x : Nat → Int) (n i : Nat) : Q kind (fun u => -x u) n i = P kind x n i := ct_congr n (fun u _ => by
  show (kind u == i && -x u == -1) = (kind u == i && x u == 1)
  have : (-x u == -1) = (x u == 1) := by rw [Bool.eq_iff_iff, beq_iff_eq, beq_iff_eq]; omega
  rw [this])
theorem P_le {x y : Nat → Int} (h : ∀ u, x u ≠ 0 → y u = x u) (n i : Nat) : P kind x n i ≤ P kind y n i := ct_mono n (fun u _ hu => by
  obtain ⟨h1, h2⟩ := Bool.and_eq_true_iff.1 hu
  have h3 : x u = 1 := beq_iff_eq.1 h2
  show (kind u == i && y u == 1) = true
  rw [h1, h u (by omega), h3]; rfl)
theorem Q_le {x y : Nat → Int} (h : ∀ u, x u ≠ 0 → y u = x u) (n i : Nat) : Q kind x n i ≤ Q kind y n i := ct_mono n (fun u _ hu => by
  obtain ⟨h1, h2⟩ := Bool.and_eq_true_iff.1 hu
  have h3 : x u = -1 := beq_iff_eq.1 h2
  show (kind u == i && y u == -1) = true
  rw [h1, h u (by omega), h3]; rfl)
def put (x : Nat → Int) (u : Nat) (s : Int) : Nat → Int := fun v => if v = u then s else x v
theorem put_ge {x : Nat → Int} {u : Nat} {s : Int} (h : x u = 0) : ∀ v, x v ≠ 0 → put x u s v = x v := fun v hv => if_neg (fun e => hv (by rw [e]; exact h))
/-- What has no excess is completed without one. -/
theorem complete (half : Nat → Nat) (n : Nat) (hh : ∀ u, u < n → T kind n (kind u) = 2 * half (kind u)) : ∀ (z : Nat) (x : Nat → Int), ct (fun u => x u == 0) n = z → (∀ u, x u = 0 ∨ x u = 1 ∨ x u = -1) →
    (∀ u, u < n → P kind x n (kind u) ≤ half (kind u) ∧ Q kind x n (kind u) ≤ half (kind u)) →
    ∃ y : Nat → Int, (∀ u, x u ≠ 0 → y u = x u) ∧ (∀ u, y u = 0 ∨ y u = 1 ∨ y u = -1) ∧ (∀ u, u < n → y u = 1 ∨ y u = -1) ∧ ∀ u, u < n → P kind y n (kind u) = half (kind u) ∧ Q kind y n (kind u) = half (kind u)
  | 0, x, hz, hx, hb => by
    have hno : ∀ m, ct (fun u => x u == 0) m = 0 → ∀ u, u < m → x u ≠ 0 := fun m => by
      induction m with
      | zero => intro _ u hu; omega
      | succ m ih =>
        intro h u hu
        unfold ct at h
        rcases Nat.lt_or_ge u m with h1 | h1
        · exact ih (by omega) u h1
        · have : u = m := by omega
          subst this
          intro e
          simp [e] at h
    have hn := hno n hz
    refine ⟨x, fun _ _ => rfl, hx, fun u hu => (hx u).resolve_left (hn u hu), fun u hu => ?_⟩
    have h1 := PQZ kind hx n (kind u)
    have h2 : Z kind x n (kind u) = 0 := by
      have : Z kind x n (kind u) = ct (fun _ => false) n := ct_congr n (fun v hv => by
        have : (x v == 0) = false := beq_eq_false_iff_ne.2 (hn v hv)
        show (kind v == kind u && x v == 0) = false
        rw [this, Bool.and_false])
      rw [this, ct_false]
    have h3 := hh u hu
    have h4 := hb u hu
    omega
  | z + 1, x, hz, hx, hb => by
    have hex : ∀ m, ct (fun u => x u == 0) m ≠ 0 → ∃ u, u < m ∧ x u = 0 := fun m => by
      induction m with
      | zero => intro h; exact absurd rfl h
      | succ m ih =>
        intro h
        by_cases h1 : x m = 0
        · exact ⟨m, by omega, h1⟩
        · unfold ct at h
          have : (x m == 0) = false := beq_eq_false_iff_ne.2 h1
          rw [this] at h
          obtain ⟨u, hu, e⟩ := ih (by simpa using h)
          exact ⟨u, by omega, e⟩
    obtain ⟨u, hu, e⟩ := hex n (by omega)
    have hstep : ∀ s : Int, (s = 1 ∨ s = -1) → (∀ v, v < n → P kind (put x u s) n (kind v) ≤ half (kind v) ∧ Q kind (put x u s) n (kind v) ≤ half (kind v)) →
        ∃ y : Nat → Int, (∀ u, x u ≠ 0 → y u = x u) ∧ (∀ u, y u = 0 ∨ y u = 1 ∨ y u = -1) ∧ (∀ u, u < n → y u = 1 ∨ y u = -1) ∧ ∀ u, u < n → P kind y n (kind u) = half (kind u) ∧ Q kind y n (kind u) = half (kind u) := fun s hs hb2 => by
      have hz2 : ct (fun v => put x u s v == 0) n = z := by
        have := ct_one (f := fun v => put x u s v == 0) (g := fun v => x v == 0) n u hu (fun v _ hv => by show (put x u s v == 0) = (x v == 0); unfold put; rw [if_neg hv]) (by show (put x u s u == 0) = false; unfold put; rw [if_pos rfl]; rcases hs with h | h <;> rw [h] <;> rfl) (by show (x u == 0) = true; rw [e]; rfl)
        omega
      have hx2 : ∀ v, put x u s v = 0 ∨ put x u s v = 1 ∨ put x u s v = -1 := fun v => by unfold put; split; exact .inr hs; exact hx v
      obtain ⟨y, h1, h2, h3, h4⟩ := complete half n hh z (put x u s) hz2 hx2 hb2
      exact ⟨y, fun v hv => (h1 v (by rw [put_ge e v hv]; exact hv)).trans (put_ge e v hv), h2, h3, h4⟩
    have hPs : ∀ (s : Int) i, (s = 1 ∨ s = -1) → P kind (put x u s) n i = P kind x n i + (if kind u = i ∧ s = 1 then 1 else 0) ∧ Q kind (put x u s) n i = Q kind x n i + (if kind u = i ∧ s = -1 then 1 else 0) := fun s i hs => by
      constructor
      · by_cases hc : kind u = i ∧ s = 1
        · rw [if_pos hc]
          exact ct_one n u hu (fun v _ hv => by show (kind v == i && x v == 1) = (kind v == i && put x u s v == 1); unfold put; rw [if_neg hv]) (by show (kind u == i && x u == 1) = false; rw [e]; simp) (by show (kind u == i && put x u s u == 1) = true; unfold put; rw [if_pos rfl, hc.1, hc.2]; simp)
        · rw [if_neg hc]
          refine ct_congr n (fun v _ => ?_)
          show (kind v == i && put x u s v == 1) = (kind v == i && x v == 1)
          unfold put
          by_cases hv : v = u
          · subst hv
            rw [if_pos rfl, e]
            by_cases hk : kind v = i
            · have : s = -1 := hs.resolve_left (fun z => hc ⟨hk, z⟩)
              rw [this]; simp
            · have : (kind v == i) = false := beq_eq_false_iff_ne.2 hk
              rw [this]; rfl
          · rw [if_neg hv]
      · by_cases hc : kind u = i ∧ s = -1
        · rw [if_pos hc]
          exact ct_one n u hu (fun v _ hv => by show (kind v == i && x v == -1) = (kind v == i && put x u s v == -1); unfold put; rw [if_neg hv]) (by show (kind u == i && x u == -1) = false; rw [e]; simp) (by show (kind u == i && put x u s u == -1) = true; unfold put; rw [if_pos rfl, hc.1, hc.2]; simp)
        · rw [if_neg hc]
          refine ct_congr n (fun v _ => ?_)
          show (kind v == i && put x u s v == -1) = (kind v == i && x v == -1)
          unfold put
          by_cases hv : v = u
          · subst hv
            rw [if_pos rfl, e]
            by_cases hk : kind v = i
            · have : s = 1 := hs.resolve_right (fun z => hc ⟨hk, z⟩)
              rw [this]; simp
            · have : (kind v == i) = false := beq_eq_false_iff_ne.2 hk
              rw [this]; rfl
          · rw [if_neg hv]
    have h1 := PQZ kind hx n (kind u)
    have h2 : 0 < Z kind x n (kind u) := by
      have := ct_one (f := fun _ => false) (g := fun v => decide (v = u)) n u hu (fun v _ hv => (decide_eq_false hv).symm) rfl (decide_eq_true rfl)
      have h3 : ct (fun v => decide (v = u)) n ≤ Z kind x n (kind u) := ct_mono n (fun v _ hv => by
        have : v = u := of_decide_eq_true hv
        subst this
        show (kind v == kind v && x v == 0) = true
        rw [e]; simp)
      omega
    have h3 := hh u hu
    have h4 := hb u hu
    by_cases hc : P kind x n (kind u) < half (kind u)
    · refine hstep 1 (.inl rfl) (fun v hv => ?_)
      have h5 := hPs 1 (kind v) (.inl rfl)
      have h6 := hb v hv
      rw [h5.1, h5.2]
      by_cases hk : kind u = kind v
      · rw [if_pos ⟨hk, rfl⟩, if_neg (by omega), ← hk]; omega
      · rw [if_neg (fun z => hk z.1), if_neg (fun z => hk z.1)]; omega
    · refine hstep (-1) (.inr rfl) (fun v hv => ?_)
      have h5 := hPs (-1) (kind v) (.inr rfl)
      have h6 := hb v hv
      rw [h5.1, h5.2]
      by_cases hk : kind u = kind v
      · rw [if_neg (by omega), if_pos ⟨hk, rfl⟩, ← hk]; omega
      · rw [if_neg (fun z => hk z.1), if_neg (fun z => hk z.1)]; omega
end
end Go.Proofs.YtmbkkhpjcblijaaDoor.QFnExactFewestCuts.Neck
namespace Go.Proofs.YtmbkkhpjcblijaaDoor.QFnExactFewestCuts.Neck
structure Val (n : Nat) (x : Nat → Int) : Prop where
  unit : ∀ u, x u = 0 ∨ x u = 1 ∨ x u = -1
  some_ : ∃ u, u < n ∧ x u ≠ 0
theorem vec_unit (l : List Lab) (u : Nat) : vec l u = 0 ∨ vec l u = 1 ∨ vec l u = -1 := by
  unfold vec
  split
  · exact .inr (.inl rfl)
  · split
    · exact .inr (.inr rfl)
    · exact .inl rfl
theorem vec_val {k n : Nat} (hk : k ≤ n) {q r : List Lab} (h : SP k (q ++ r)) (hq : q ≠ []) : Val n (vec q) := by
  refine ⟨vec_unit q, ?_⟩
  cases q with
  | nil => exact absurd rfl hq
  | cons x q =>
    obtain ⟨u, s⟩ := x
    have hlt := h.lt (u, s) (by simp)
    refine ⟨u, by have : u < k := hlt; omega, ?_⟩
    unfold vec
    cases s with
    | true => rw [if_pos List.mem_cons_self]; decide
    | false =>
      rw [if_neg (fun z => h.one (u := u) (List.mem_append_left _ z) (by simp)), if_pos List.mem_cons_self]
      decide
theorem vec_ng {k : Nat} {q r : List Lab} (h : SP k (q ++ r)) : vec (q.map ng) = fun u => -vec q u := by
  funext u
  unfold vec
  by_cases h1 : (u, true) ∈ q
  · have h2 : (u, false) ∉ q := fun z => h.one (u := u) (List.mem_append_left _ h1) (List.mem_append_left _ z)
    rw [if_neg (fun z => h2 (ng_mem.1 z)), if_pos (ng_mem.2 h1), if_pos h1]
  · rw [if_neg h1]
    by_cases h2 : (u, false) ∈ q
    · rw [if_pos (ng_mem.2 h2), if_pos h2]; rfl
    · rw [if_neg (fun z => h2 (ng_mem.1 z)), if_neg (fun z => h1 (ng_mem.1 z)), if_neg h2]; rfl
theorem vec_ge {k : Nat} {q r r' : List Lab} (h : SP k (q ++ r ++ r')) : ∀ u, vec q u ≠ 0 → vec (q ++ r) u = vec q u := fun u hu => by
  unfold vec at hu ⊢
  by_cases h1 : (u, true) ∈ q
  · rw [if_pos h1, if_pos (List.mem_append_left _ h1)]
  · rw [if_neg h1] at hu ⊢
    by_cases h2 : (u, false) ∈ q
    · rw [if_pos h2, if_neg (fun z => h.one (u := u) (List.mem_append_left _ z) (List.mem_append_left _ (List.mem_append_left _ h2))), if_pos (List.mem_append_left _ h2)]
    · rw [if_neg h2] at hu
      exact absurd rfl hu
section
variable (kind : Nat → Nat) (half : Nat → Nat) (n : Nat) (K : List Nat)
def exc (x : Nat → Int) (i : Nat) : Bool := decide (half i < P kind x n i) || decide (half i < Q kind x n i)
/-- A label: how often the turned signs alternate, if it is not much; otherwise a kind of which one has too much. -/
def Lam (x : Nat → Int) : Lab :=
  if ac (tw x) n 0 0 + K.length + 1 ≤ n then (ac (tw x) n 0 0 - 1, decide (fs (tw x) n 0 = 1))
  else match K.find? (exc kind half n x) with
    | some i => (n + i, decide (half i < P kind x n i))
    | none => (0, true)
/-- Is there a fair cut with as many cuts as kinds? -/
def Fair (kind half : Nat → Nat) (n t : Nat) : Prop := ∃ y : Nat → Int, (∀ u, u < n → y u = 1 ∨ y u = -1) ∧ ac y n 0 0 ≤ t + 1 ∧ ∀ u, u < n → P kind y n (kind u) = half (kind u) ∧ Q kind y n (kind u) = half (kind u)
variable {kind half n K}
theorem fs_val {x : Nat → Int} (h : Val n x) : fs (tw x) n 0 = 1 ∨ fs (tw x) n 0 = -1 := by
  obtain ⟨u, hu, hx⟩ := h.some_
  have h1 := fs_some (tw x) n 0 u (Nat.zero_le _) (by omega) (fun z => hx ((tw_zero x u).1 z))
  have h2 := fs_unit (tw x) (fun v => by have := h.unit v; unfold tw; split <;> omega) n 0
  omega
theorem tw_ge {x y : Nat → Int} (h : ∀ u, x u ≠ 0 → y u = x u) : ∀ u, tw x u ≠ 0 → tw y u = tw x u := fun u hu => by
  have := h u (fun z => hu ((tw_zero x u).2 z))
  unfold tw
  rw [this]
variable (hK : ∀ u, u < n → kind u ∈ K) (hh : ∀ u, u < n → T kind n (kind u) = 2 * half (kind u)) (hT : ∀ i, i ∈ K → T kind n i = 2 * half i) (hno : ¬ Fair kind half n K.length) (hn : 0 < n)
include hK hh hT hno hn
theorem find_some {x : Nat → Int} (hx : Val n x) (h : ¬ ac (tw x) n 0 0 + K.length + 1 ≤ n) : ∃ i, K.find? (exc kind half n x) = some i ∧ i ∈ K ∧ exc kind half n x i = true := by
  cases hf : K.find? (exc kind half n x) with
  | some i => exact ⟨i, rfl, List.mem_of_find?_eq_some hf, List.find?_some hf⟩
  | none =>
    exfalso
    have hb : ∀ u, u < n → P kind x n (kind u) ≤ half (kind u) ∧ Q kind x n (kind u) ≤ half (kind u) := fun u hu => by
      have := List.find?_eq_none.1 hf (kind u) (hK u hu)
      unfold exc at this
      simp at this
      omega
    obtain ⟨y, h1, h2, h3, h4⟩ := complete kind half n hh _ x rfl hx.unit hb
    refine hno ⟨y, h3, ?_, h4⟩
    have h5 := ac_mono (tw_ge h1) n 0 0
    have h6 := ac_full hn h3
    omega
theorem exc_one {x : Nat → Int} (hx : Val n x) {i : Nat} (hi : i ∈ K) (h : exc kind half n x i = true) : decide (half i < Q kind x n i) = !decide (half i < P kind x n i) := by
  have h1 := PQZ kind hx.unit n i
  have h2 := hT i hi
  unfold exc at h
  by_cases hp : half i < P kind x n i
  · rw [decide_eq_true hp, decide_eq_false (show ¬ half i < Q kind x n i by omega)]; rfl
  · rw [decide_eq_false hp, Bool.false_or] at h
    rw [decide_eq_false hp, h]; rfl
theorem lam_lt {x : Nat → Int} (hx : Val n x) : (Lam kind half n K x).1 ∈ (List.range (n - 1 - K.length)) ++ K.map (n + ·) := by
  unfold Lam
  by_cases h : ac (tw x) n 0 0 + K.length + 1 ≤ n
  · rw [if_pos h]
    have hf := fs_val hx
    have := ac_pos (tw x) n 0 (by omega)
    refine List.mem_append_left _ (List.mem_range.2 ?_)
    show ac (tw x) n 0 0 - 1 < n - 1 - K.length
    omega
  · rw [if_neg h]
    obtain ⟨i, e, hi, _⟩ := find_some hK hh hT hno hn hx h
    rw [e]
    exact List.mem_append_right _ (List.mem_map.2 ⟨i, hi, rfl⟩)
theorem lam_neg {x : Nat → Int} (hx : Val n x) : Lam kind half n K (fun u => -x u) = ng (Lam kind half n K x) := by
  have ha : ac (tw (fun u => -x u)) n 0 0 = ac (tw x) n 0 0 := by
    rw [tw_neg]
    exact ac_neg (tw x) n 0 0
  unfold Lam
  rw [ha]
  by_cases h : ac (tw x) n 0 0 + K.length + 1 ≤ n
  · rw [if_pos h, if_pos h, tw_neg, fs_neg]
    have hf := fs_val hx
    unfold ng
    rcases hf with hf | hf <;> rw [hf] <;> rfl
  · rw [if_neg h, if_neg h]
    have he : exc kind half n (fun u => -x u) = exc kind half n x := by
      funext i
      unfold exc
      rw [P_neg, Q_neg, Bool.or_comm]
    rw [he]
    obtain ⟨i, e, hi, hex⟩ := find_some hK hh hT hno hn hx h
    rw [e]
    show (n + i, decide (half i < P kind (fun u => -x u) n i)) = (n + i, !decide (half i < P kind x n i))
    rw [P_neg, exc_one hK hh hT hno hn hx hi hex]
theorem lam_comp {x y : Nat → Int} (hx : Val n x) (hy : Val n y) (h : ∀ u, x u ≠ 0 → y u = x u) : Lam kind half n K y ≠ ng (Lam kind half n K x) := by
  have hm := ac_mono (tw_ge h) n 0 0
  unfold Lam
  by_cases h1 : ac (tw y) n 0 0 + K.length + 1 ≤ n
  · rw [if_pos h1, if_pos (by omega)]
    intro e
    obtain ⟨e1, e2⟩ := Prod.mk.inj e
    have hfx := fs_val hx
    have hfy := fs_val hy
    have p1 := ac_pos (tw x) n 0 (by omega)
    have hlt := fs_lt (tw_ge h) n 0 (by omega) (by omega)
    have e3 : fs (tw x) n 0 ≠ fs (tw y) n 0 := fun z => by
      rw [z] at e2
      have e2 : decide (fs (tw y) n 0 = 1) = !decide (fs (tw y) n 0 = 1) := e2
      cases hd : decide (fs (tw y) n 0 = 1) <;> rw [hd] at e2 <;> cases e2
    have := hlt e3
    have e1 : ac (tw y) n 0 0 - 1 = ac (tw x) n 0 0 - 1 := e1
    omega
  · rw [if_neg h1]
    obtain ⟨j, ej, hj, hexj⟩ := find_some hK hh hT hno hn hy h1
    rw [ej]
    by_cases h2 : ac (tw x) n 0 0 + K.length + 1 ≤ n
    · rw [if_pos h2]
      intro e
      have := (Prod.mk.inj e).1
      have : n + j = ac (tw x) n 0 0 - 1 := this
      omega
    · rw [if_neg h2]
      obtain ⟨i, ei, hi, hexi⟩ := find_some hK hh hT hno hn hx h2
      rw [ei]
      intro e
      obtain ⟨e1, e2⟩ := Prod.mk.inj e
      have e1 : n + j = n + i := e1
      have e1 : j = i := by omega
      subst e1
      have e2 : decide (half j < P kind y n j) = !decide (half j < P kind x n j) := e2
      have hP := P_le kind h n j
      have hQ := Q_le kind h n j
      have a1 := exc_one hK hh hT hno hn hx hi hexi
      have a2 := exc_one hK hh hT hno hn hy hj hexj
      by_cases hp : half j < P kind x n j
      · rw [decide_eq_true hp, decide_eq_true (show half j < P kind y n j by omega)] at e2
        cases e2
      · rw [decide_eq_false hp] at a1 e2
        have hq : half j < Q kind x n j := of_decide_eq_true a1
        rw [e2, decide_eq_true (show half j < Q kind y n j by omega)] at a2
        cases a2
end
/-- The necklace theorem of two thieves: as many cuts as kinds are enough. -/
theorem necklace (kind half : Nat → Nat) (n : Nat) (K : List Nat) (hK : ∀ u, u < n → kind u ∈ K) (hT : ∀ i, i ∈ K → T kind n i = 2 * half i) (hn : K.length + 1 ≤ n) : Fair kind half n K.length := by
  refine Classical.byContradiction fun hno => ?_
  have hh : ∀ u, u < n → T kind n (kind u) = 2 * half (kind u) := fun u hu => hT _ (hK u hu)
  have hn0 : 0 < n := by omega
  obtain ⟨B, hB⟩ : ∃ B, ∀ c ∈ (List.range (n - 1 - K.length)) ++ K.map (n + ·), c < B := by
    have : ∀ L : List Nat, ∃ B, ∀ c ∈ L, c < B := fun L => by
      induction L with
      | nil => exact ⟨0, fun c h => by cases h⟩
      | cons a r ih =>
        obtain ⟨B, h⟩ := ih
        refine ⟨a + B + 1, fun c hc => ?_⟩
        rcases List.mem_cons.1 hc with e | e
        · omega
        · have := h c e; omega
    exact this _
  have g : Good (Lam kind half n K) n B := by
    refine ⟨fun k l hk h q r e hq => ?_, fun k l hk h q r e hq => ?_, fun k l hk h q r r' e hq => ?_⟩
    · subst e
      exact hB _ (lam_lt hK hh hT hno hn0 (vec_val hk h hq))
    · subst e
      rw [vec_ng h]
      exact lam_neg hK hh hT hno hn0 (vec_val hk h hq)
    · subst e
      refine lam_comp hK hh hT hno hn0 (vec_val hk (r := r ++ r') (by rw [← List.append_assoc]; exact h) hq) (vec_val hk h (by simp [hq])) (vec_ge h)
  have := fan g ((List.range (n - 1 - K.length)) ++ K.map (n + ·)) (fun k l hk h q r e hq => by
    subst e
    exact lam_lt hK hh hT hno hn0 (vec_val hk h hq))
  rw [List.length_append, List.length_range, List.length_map] at this
  omega
end Go.Proofs.YtmbkkhpjcblijaaDoor.QFnExactFewestCuts.Neck
