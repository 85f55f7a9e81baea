/- What the reference's cursor draws: a number within the bounds that were asked for, whatever the bytes are. -/
import Derived.Test.YtemgnbpcchlpiaaDoorQFnKneserColoursBase
import Derived.Laws.Bits64b
namespace Go.Proofs.YtemgnbpcchlpiaaDoor.QFnKneserColours
open Go.RowKit Go.Proofs.YtemgnbpcchlpiaaDoor.PFnKneserColours Go.Proofs.YtemgnbpcchlpiaaDoorW.PrintWords Go.Proofs.YtemgnbpcchlpiaaDoorW.PrintLast Go.Proofs.YtemgnbpcchlpiaaDoorW.PrintMore
set_option linter.unusedVariables false
set_option linter.unusedSimpArgs false
def U8 (l : List Int) : Prop := ∀ x ∈ l, (Lit.int .u8 x).wf = true
theorem u8_rd {l : List Int} (h : U8 l) (i : Int) : 0 ≤ rd l i ∧ rd l i ≤ 255 := by
  unfold rd
  rw [List.getD_eq_getElem?_getD]
  cases hc : l[i.toNat]? with
  | none => exact ⟨Int.le_refl 0, by decide⟩
  | some x =>
    have h1 := h x (List.mem_of_getElem? hc)
    have h2 := Bool.and_eq_true_iff.1 (show (decide (IntKind.u8.min ≤ x) && decide (x ≤ IntKind.u8.max)) = true from h1)
    have h3 : (0 : Int) ≤ x := of_decide_eq_true h2.1
    have h4 : x ≤ 255 := of_decide_eq_true h2.2
    exact ⟨h3, h4⟩
theorem and255 {x : Int} (h0 : 0 ≤ x) (h1 : x < 18446744073709551616) : 0 ≤ Go.bits .and .u64 x 255 ∧ Go.bits .and .u64 x 255 ≤ 255 := by
  obtain ⟨n, e⟩ := Int.eq_ofNat_of_zero_le h0
  subst e
  have h2 := bits_and_u64_nat n 255 (by omega) (by omega)
  rw [show ((255 : Nat) : Int) = 255 from rfl] at h2
  rw [h2]
  have := @Nat.and_le_right n 255
  omega
theorem next_ev {l : List Int} (h : U8 l) {a : Int} (s : Int) (h0 : 0 ≤ a) (h1 : a < 4611686018427387904) : ∃ v s', spec_l1Cur_next.f l a s = some (v, a + 1, s') ∧ 0 ≤ v ∧ v ≤ 255 := by
  unfold spec_l1Cur_next.f
  have hw : ∀ x : Int, 0 ≤ IntKind.u64.wrap x ∧ IntKind.u64.wrap x < 18446744073709551616 := fun x => by rw [IntKind.wrap_u64]; omega
  have hv : ∀ x : Int, 0 ≤ wrap64 (Go.bits .and .u64 (IntKind.u64.wrap x / 1099511627776) 255) ∧ wrap64 (Go.bits .and .u64 (IntKind.u64.wrap x / 1099511627776) 255) ≤ 255 := fun x => by
    have := hw x
    have h2 := and255 (x := IntKind.u64.wrap x / 1099511627776) (by omega) (by omega)
    rw [wr (by omega) (by omega)]
    exact h2
  rw [wr (show -9223372036854775808 ≤ a + 1 by omega) (by omega)]
  by_cases hl : a < (l.length : Int)
  · have hr := u8_rd h a
    rw [if_pos hl, if_pos h0, wr (show -9223372036854775808 ≤ rd l a by omega) (by omega), if_pos (by omega)]
    exact ⟨_, _, rfl, hr.1, hr.2⟩
  · rw [if_neg hl, if_neg (by omega)]
    exact ⟨_, _, rfl, hv _⟩
theorem pick_ev {l : List Int} (h : U8 l) {a : Int} (s n : Int) (h0 : 0 ≤ a) (h1 : a < 4611686018427387900) : ∃ v a' s', spec_l1Cur_pick.f l a s n = some (v, a', s') ∧ 0 ≤ v ∧ (v < n ∨ v = 0) ∧ a ≤ a' ∧ a' ≤ a + 2 := by
  unfold spec_l1Cur_pick.f
  by_cases hn : n ≤ 1
  · rw [if_pos hn]
    exact ⟨_, _, _, rfl, Int.le_refl 0, .inr rfl, by omega, by omega⟩
  · obtain ⟨v, s1, e1, v0, v1⟩ := next_ev h s h0 (by omega)
    rw [if_neg hn, e1, Option.bind_some]
    by_cases h2 : n > 200
    · obtain ⟨v', s2, e2, w0, w1⟩ := next_ev h s1 (show 0 ≤ a + 1 by omega) (by omega)
      rw [if_pos h2]
      dsimp only
      rw [e2, Option.bind_some, if_neg (by omega)]
      dsimp only
      rw [wr (show -9223372036854775808 ≤ v * 256 by omega) (by omega), wr (show -9223372036854775808 ≤ v * 256 + v' by omega) (by omega)]
      exact ⟨_, _, _, rfl, Int.tmod_nonneg _ (by omega), .inl (Int.tmod_lt_of_pos _ (by omega)), by omega, by omega⟩
    · rw [if_neg h2, if_neg (by omega)]
      exact ⟨_, _, _, rfl, Int.tmod_nonneg _ v0, .inl (Int.tmod_lt_of_pos _ (by omega)), by dsimp only; omega, by dsimp only; omega⟩
theorem among_ev {l : List Int} (h : U8 l) {a : Int} (s : Int) (L : List Int) (hL : 0 < L.length) (h0 : 0 ≤ a) (h1 : a < 4611686018427387900) : ∃ v a' s', spec_l1Cur_among.f l a s L = some (v, a', s') ∧ v ∈ L ∧ a ≤ a' ∧ a' ≤ a + 2 := by
  unfold spec_l1Cur_among.f
  obtain ⟨v, a', s', e, v0, v1, h2, h3⟩ := pick_ev h s (L.length : Int) h0 h1
  rw [e, Option.bind_some]
  dsimp only
  rw [if_pos v0, if_pos (by omega)]
  refine ⟨_, _, _, rfl, ?_, h2, h3⟩
  unfold rd
  rw [List.getD_eq_getElem?_getD, List.getElem?_eq_getElem (by omega)]
  exact List.getElem_mem _
theorem sets_ev {l : List Int} (h : U8 l) {a : Int} (s m : Int) (h0 : 0 ≤ a) (h1 : a < 4611686018427387000) : ∃ n k a' s', spec_l1Cur_sets.f l a s m = some (n, k, a', s') ∧ a ≤ a' ∧ a' ≤ a + 10 := by
  unfold spec_l1Cur_sets.f
  obtain ⟨v, a1, s1, e1, _, _, b1, c1⟩ := pick_ev h s m h0 (by omega)
  rw [e1, Option.bind_some]
  dsimp only
  obtain ⟨v2, a2, s2, e2, _, _, b2, c2⟩ := pick_ev h s1 (wrap64 (Int.tdiv (wrap64 ((wrap64 (1 + v)) + 1)) 2)) (show 0 ≤ a1 by omega) (by omega)
  rw [e2, Option.bind_some]
  dsimp only
  obtain ⟨v3, a3, s3, e3, _, _, b3, c3⟩ := pick_ev h s2 12 (show 0 ≤ a2 by omega) (by omega)
  rw [e3, Option.bind_some]
  dsimp only
  by_cases c0 : v3 = 0
  · obtain ⟨v4, a4, s4, e4, _, b4, c4⟩ := among_ev h s3 [0, 8, 9] (by decide) (show 0 ≤ a3 by omega) (by omega)
    rw [if_pos c0, e4, Option.bind_some]
    exact ⟨_, _, _, _, rfl, by dsimp only; omega, by dsimp only; omega⟩
  · rw [if_neg c0]
    by_cases c5 : v3 = 1
    · obtain ⟨v4, a4, s4, e4, _, b4, c4⟩ := among_ev h s3 [-1, 0, wrap64 (1 + v), wrap64 ((wrap64 (1 + v)) + 1)] (by simp) (show 0 ≤ a3 by omega) (by omega)
      rw [if_pos c5, e4, Option.bind_some]
      exact ⟨_, _, _, _, rfl, by dsimp only; omega, by dsimp only; omega⟩
    · rw [if_neg c5]
      exact ⟨_, _, _, _, rfl, by omega, by omega⟩
end Go.Proofs.YtemgnbpcchlpiaaDoor.QFnKneserColours
