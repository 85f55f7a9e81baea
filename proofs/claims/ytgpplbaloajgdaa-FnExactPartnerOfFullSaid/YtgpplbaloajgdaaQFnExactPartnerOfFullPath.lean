/- Walks through doors: a walk enters no room twice. -/
import Derived.Test.YtgpplbaloajgdaaPFnExactPartnerOfFullx
set_option linter.unusedVariables false
namespace Go.Proofs.Ytgpplbaloajgdaa.QFnExactPartnerOfFull.Path
theorem len_le {α : Type} [DecidableEq α] : ∀ (A B : List α), A.Nodup → (∀ x ∈ A, x ∈ B) → A.length ≤ B.length
  | [], _, _, _ => Nat.zero_le _
  | x :: r, B, hn, h => by
    obtain ⟨hx, hr⟩ := List.nodup_cons.1 hn
    have hB := h x List.mem_cons_self
    have := len_le r (B.erase x) hr (fun y hy => (List.mem_erase_of_ne (fun e => hx (by rw [← e]; exact hy))).2 (h y (List.mem_cons_of_mem _ hy)))
    have h2 := List.length_erase_of_mem hB
    have h3 := List.length_pos_of_mem hB
    rw [List.length_cons]
    omega
def inC (N : Nat) (c : Int) : Prop := 0 ≤ c ∧ c < (N : Int)
/-- Rooms and doors: a room that is not full has a door and just one other one; behind a door lies another room, or nothing. -/
structure House (bey : Int → List Int → Int) (oth : Int → List Int → List Int) (full : Int → Bool) (door : Int → List Int → Prop) (N : Nat) : Prop where
  other : ∀ c d, inC N c → full c = false → door c d → door c (oth c d) ∧ oth c d ≠ d ∧ ∀ e, door c e → e = d ∨ e = oth c d
  beyond : ∀ c d, inC N c → door c d → bey c d = -1 ∨ (inC N (bey c d) ∧ bey c d ≠ c ∧ door (bey c d) d ∧ bey (bey c d) d = c)
section
variable (bey : Int → List Int → Int) (oth : Int → List Int → List Int)
/-- The rooms and the doors of a walk. -/
def sq (c0 : Int) (d0 : List Int) : Nat → Int × List Int
  | 0 => (c0, d0)
  | k + 1 => (bey (sq c0 d0 k).1 (oth (sq c0 d0 k).1 (sq c0 d0 k).2), oth (sq c0 d0 k).1 (sq c0 d0 k).2)
variable {bey oth} {full : Int → Bool} {door : Int → List Int → Prop} {N : Nat} (h : House bey oth full door N)
/-- Where a walk begins: out of nothing, or out of a full room. -/
structure Begin (bey : Int → List Int → Int) (full : Int → Bool) (door : Int → List Int → Prop) (N : Nat) (c0 : Int) (d0 : List Int) : Prop where
  door : 0 ≤ c0 → inC N c0 ∧ door c0 d0
  back : 0 ≤ c0 → bey c0 d0 = -1 ∨ full (bey c0 d0) = true
include h
theorem alive {c0 : Int} {d0 : List Int} (b : Begin bey full door N c0 d0) : ∀ k, (∀ i, i ≤ k → 0 ≤ (sq bey oth c0 d0 i).1) → (∀ i, i < k → full (sq bey oth c0 d0 i).1 = false) →
    (∀ i, i ≤ k → inC N (sq bey oth c0 d0 i).1 ∧ door (sq bey oth c0 d0 i).1 (sq bey oth c0 d0 i).2) ∧ ∀ i j, i < j → j ≤ k → (sq bey oth c0 d0 i).1 ≠ (sq bey oth c0 d0 j).1
  | 0, h1, _ => ⟨fun i hi => by
      have : i = 0 := by omega
      subst this
      exact b.door (h1 0 (Nat.le_refl _)), fun i j h2 h3 => by omega⟩
  | k + 1, h1, h2 => by
    obtain ⟨g1, g2⟩ := alive b k (fun i hi => h1 i (by omega)) (fun i hi => h2 i (by omega))
    have hf := h2 k (Nat.lt_succ_self k)
    obtain ⟨gk1, gk2⟩ := g1 k (Nat.le_refl _)
    obtain ⟨o1, o2, o3⟩ := h.other _ _ gk1 hf gk2
    have hp := h1 (k + 1) (Nat.le_refl _)
    have hb := h.beyond _ _ gk1 o1
    have e1 : (sq bey oth c0 d0 (k + 1)).1 = bey (sq bey oth c0 d0 k).1 (oth (sq bey oth c0 d0 k).1 (sq bey oth c0 d0 k).2) := rfl
    have e2 : (sq bey oth c0 d0 (k + 1)).2 = oth (sq bey oth c0 d0 k).1 (sq bey oth c0 d0 k).2 := rfl
    rw [← e2] at hb o1 o2 o3
    rw [← e2] at e1
    rw [← e1] at hb
    rcases hb with hb | ⟨b1, b2, b3, b4⟩
    · omega
    refine ⟨fun i hi => ?_, fun i j hij hj => ?_⟩
    · rcases Nat.lt_or_ge i (k + 1) with h3 | h3
      · exact g1 i (by omega)
      · have : i = k + 1 := by omega
        subst this
        exact ⟨b1, b3⟩
    · rcases Nat.lt_or_ge j (k + 1) with h3 | h3
      · exact g2 i j hij (by omega)
      · have : j = k + 1 := by omega
        subst this
        intro e
        rcases Nat.lt_or_ge i k with hik | hik
        · -- an elder room
          obtain ⟨gi1, gi2⟩ := g1 i (by omega)
          obtain ⟨p1, p2, p3⟩ := h.other _ _ gi1 (h2 i (by omega)) gi2
          rw [← e] at b3 b4
          rcases p3 _ b3 with e3 | e3
          · cases i with
            | zero =>
              have e4 : bey c0 d0 = (sq bey oth c0 d0 k).1 := by
                rw [← b4, e3]; rfl
              rcases b.back (h1 0 (by omega)) with e5 | e5
              · have := gk1.1; omega
              · rw [e4, hf] at e5; cases e5
            | succ i =>
              obtain ⟨gj1, gj2⟩ := g1 i (by omega)
              obtain ⟨q1, q2, q3⟩ := h.other _ _ gj1 (h2 i (by omega)) gj2
              have e6 : (sq bey oth c0 d0 (i + 1)).1 = bey (sq bey oth c0 d0 i).1 (sq bey oth c0 d0 (i + 1)).2 := rfl
              rcases h.beyond _ _ gj1 q1 with e7 | ⟨_, _, _, e8⟩
              · have e9 : (sq bey oth c0 d0 (i + 1)).1 = -1 := e7
                have := gi1.1; omega
              · have e9 : bey (sq bey oth c0 d0 (i + 1)).1 (sq bey oth c0 d0 (i + 1)).2 = (sq bey oth c0 d0 i).1 := e8
                rw [← e3, b4] at e9
                exact g2 i k (by omega) (Nat.le_refl _) e9.symm
          · have e4 : oth (sq bey oth c0 d0 i).1 (sq bey oth c0 d0 i).2 = (sq bey oth c0 d0 (i + 1)).2 := rfl
            rw [e4] at e3
            have e5 : (sq bey oth c0 d0 (i + 1)).1 = (sq bey oth c0 d0 k).1 := by
              rw [← b4, e3]; rfl
            rcases Nat.lt_or_ge (i + 1) k with h6 | h6
            · exact g2 (i + 1) k h6 (Nat.le_refl _) e5
            · have : i + 1 = k := by omega
              rw [this] at e3
              exact o2 e3
        · have : i = k := by omega
          subst this
          exact b2 e.symm
/-- A walk is no longer than there are rooms. -/
theorem short {c0 : Int} {d0 : List Int} (b : Begin bey full door N c0 d0) (k : Nat) (h1 : ∀ i, i ≤ k → 0 ≤ (sq bey oth c0 d0 i).1) (h2 : ∀ i, i < k → full (sq bey oth c0 d0 i).1 = false) : k + 1 ≤ N := by
  obtain ⟨g1, g2⟩ := alive h b k h1 h2
  have hn : ((List.range (k + 1)).map fun i => ((sq bey oth c0 d0 i).1).toNat).Nodup := by
    refine List.pairwise_map.2 (List.Pairwise.imp_of_mem ?_ List.pairwise_lt_range)
    intro a c ha hc hac e
    have ha' := List.mem_range.1 ha
    have hc' := List.mem_range.1 hc
    have := g2 a c hac (by omega)
    have x1 := h1 a (by omega)
    have x2 := h1 c (by omega)
    omega
  have := len_le _ (List.range N) hn (fun x hx => by
    obtain ⟨i, hi, rfl⟩ := List.mem_map.1 hx
    have hi := List.mem_range.1 hi
    have := (g1 i (by omega)).1
    unfold inC at this
    exact List.mem_range.2 (by omega))
  rw [List.length_map, List.length_range, List.length_range] at this
  exact this
/-- Where a walk ends. -/
theorem ends {c0 : Int} {d0 : List Int} (b : Begin bey full door N c0 d0) : ∃ K, K ≤ N ∧ (∀ i, i < K → 0 ≤ (sq bey oth c0 d0 i).1 ∧ full (sq bey oth c0 d0 i).1 = false) ∧ ((sq bey oth c0 d0 K).1 < 0 ∨ (0 ≤ (sq bey oth c0 d0 K).1 ∧ full (sq bey oth c0 d0 K).1 = true)) := by
  refine Classical.byContradiction fun hno => ?_
  have hall : ∀ i, i ≤ N → 0 ≤ (sq bey oth c0 d0 i).1 ∧ full (sq bey oth c0 d0 i).1 = false := fun i => by
    induction i using Nat.strongRecOn with
    | _ i ih =>
      intro hi
      refine Classical.byContradiction fun hc => hno ⟨i, hi, fun j hj => ih j hj (by omega), ?_⟩
      rcases Int.lt_or_le (sq bey oth c0 d0 i).1 0 with h3 | h3
      · exact .inl h3
      · refine .inr ⟨h3, ?_⟩
        cases h4 : full (sq bey oth c0 d0 i).1 with
        | true => rfl
        | false => exact absurd ⟨h3, h4⟩ hc
  have := short h b N (fun i hi => (hall i hi).1) (fun i hi => (hall i (by omega)).2)
  omega
end
end Go.Proofs.Ytgpplbaloajgdaa.QFnExactPartnerOfFull.Path
