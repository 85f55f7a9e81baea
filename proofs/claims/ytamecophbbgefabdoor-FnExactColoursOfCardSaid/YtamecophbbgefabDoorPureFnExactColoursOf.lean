/- ColoursOf of the program returns what the reference's returns, for all arguments; there are no conditions. -/
import Derived.Test.YtamecophbbgefabDoorQFnExactColoursOfSets
import Derived.Test.YtamecophbbgefabDoorQFnExactColoursOfMarkS
import Derived.Test.YtamecophbbgefabDoorQFnExactColoursOfEqS
namespace Go.Proofs.YtamecophbbgefabDoor.Pure
open Go.RowKit Go.Proofs.YtamecophbbgefabDoorOwn Go.Proofs.YtamecophbbgefabDoor.PFnExactColoursOf Go.Proofs.YtamecophbbgefabDoorW.PrintWords Go.Proofs.YtamecophbbgefabDoorW.PrintLast Go.Proofs.YtamecophbbgefabDoorW.PrintMore Go.Proofs.YtamecophbbgefabDoor.QFnExactColoursOf
set_option linter.unusedVariables false
set_option linter.unusedSectionVars false
set_option maxRecDepth 100000
theorem rd_at {l : List Int} {i : Nat} (h : i < l.length) : rd l (i : Int) = l[i] := by rw [rd_nat, List.getD_eq_getElem?_getD, List.getElem?_eq_getElem h]; rfl
def cz (x : Nat) : Nat := Go.Lib.ctz 64 x
theorem cz_all : ((List.range 256).all fun x => decide (x = 0) || (((List.range (cz x)).all fun i => decide (Int.tmod (shr .i64 (x : Int) (i : Int)) 2 = 0)) && (!decide (Int.tmod (shr .i64 (x : Int) ((cz x : Nat) : Int)) 2 = 0) && decide (cz x < 8)))) = true := by decide +kernel
theorem cz_spec {x : Nat} (h0 : 1 ≤ x) (h : x < 256) : (∀ i, i < cz x → Int.tmod (shr .i64 (x : Int) (i : Int)) 2 = 0) ∧ ¬ Int.tmod (shr .i64 (x : Int) ((cz x : Nat) : Int)) 2 = 0 ∧ cz x < 8 := by
  have := List.all_eq_true.1 cz_all x (List.mem_range.2 h)
  rw [decide_eq_false (by omega), Bool.false_or] at this
  obtain ⟨h1, h2⟩ := Bool.and_eq_true_iff.1 this
  obtain ⟨h3, h4⟩ := Bool.and_eq_true_iff.1 h2
  exact ⟨fun i hi => of_decide_eq_true (List.all_eq_true.1 h1 i (List.mem_range.2 hi)), of_decide_eq_false (by simpa using h3), of_decide_eq_true h4⟩
/-- The least number of colours. -/
def few (n k : Int) : Int := if 2 * k > n then 1 else n - 2 * k + 2
theorem few_impl {n k : Int} (h1 : 1 ≤ n) (h2 : n ≤ 8) (h3 : 1 ≤ k) (h4 : k ≤ n) : impl_fewest.f n k = some (few n k) := by
  unfold impl_fewest.f few
  rw [wr (show -9223372036854775808 ≤ 2 * k by omega) (by omega), wr (show -9223372036854775808 ≤ n - 2 * k by omega) (by omega), wr (show -9223372036854775808 ≤ n - 2 * k + 2 by omega) (by omega)]
  split <;> rfl
theorem few_spec {n k : Int} (h1 : 1 ≤ n) (h2 : n ≤ 8) (h3 : 1 ≤ k) (h4 : k ≤ n) : spec_knFewest.f n k = some (few n k) := by
  unfold spec_knFewest.f few spec_l1Most.f
  rw [wr (show -9223372036854775808 ≤ 2 * k by omega) (by omega), wr (show -9223372036854775808 ≤ n - 2 * k by omega) (by omega), wr (show -9223372036854775808 ≤ n - 2 * k + 2 by omega) (by omega)]
  by_cases h : 1 > n - 2 * k + 2
  · rw [if_pos h, if_pos (by omega)]; rfl
  · rw [if_neg h]
    by_cases h5 : 2 * k > n
    · rw [if_pos h5, show n - 2 * k + 2 = 1 by omega]; rfl
    · rw [if_neg h5]; rfl
theorem few_le {n k : Int} (h1 : 1 ≤ n) (h2 : n ≤ 8) (h3 : 1 ≤ k) (h4 : k ≤ n) : 1 ≤ few n k ∧ few n k ≤ 10 := by
  unfold few
  split <;> omega
def least (a b : Int) : Int := if a < b then a else b
theorem least_spec (a b : Int) : spec_l1Least.f a b = some (least a b) := by
  unfold spec_l1Least.f least
  split <;> rfl
theorem least_mn (a b : Int) : mn a b = least a b := by
  unfold mn least
  split <;> split <;> omega
/-- The colour of a set. -/
def col (F y : Int) : Int := least ((cz y.toNat : Nat) : Int) (F - 1)
theorem sel_mem (k : Int) {y : Int} : ∀ d i, y ∈ sel k d i → ∃ x : Nat, y = (x : Int) ∧ pcN x = k ∧ x < i + d
  | 0, i, h => by cases h
  | d + 1, i, h => by
    unfold sel at h
    split at h
    · rename_i hc
      rcases List.mem_cons.1 h with e | e
      · exact ⟨i, e, hc, by omega⟩
      · obtain ⟨x, h1, h2, h3⟩ := sel_mem k d (i + 1) e
        exact ⟨x, h1, h2, by omega⟩
    · obtain ⟨x, h1, h2, h3⟩ := sel_mem k d (i + 1) h
      exact ⟨x, h1, h2, by omega⟩
theorem pc_pos {x : Nat} (h : 1 ≤ pcN x) : 1 ≤ x := by
  rcases Nat.eq_zero_or_pos x with h0 | h0
  · subst h0
    exact absurd h (by decide)
  · exact h0
section
variable (n k : Int) (h1 : 1 ≤ n) (h2 : n ≤ 8) (h3 : 1 ≤ k) (h4 : k ≤ n) (T : List Int) (hT : T.length ≤ 1000) (hm : ∀ y ∈ T, ∃ x : Nat, y = (x : Int) ∧ 1 ≤ x ∧ x < 256)
include h1 h2 h3 h4 hT hm
theorem impl_loop : ∀ (d i : Nat) (acc : List Int), i + d = T.length → acc.length ≤ i → Ev (fun r => impl_ColoursOf.l0 r n k acc T (T.length : Int) (i : Int)) (acc ++ (T.drop i).map (col (few n k)), true)
  | 0, i, acc, h, ha => Ev.step (fun f => impl_ColoursOf.l0.eq_2 ..) (ev_neg (by omega) (ev_eq (Ev.now _) (by rw [List.drop_eq_nil_of_le (by omega)]; simp)))
  | d + 1, i, acc, h, ha => by
    have hlt : i < T.length := by omega
    obtain ⟨x, ex, hx1, hx2⟩ := hm _ (List.getElem_mem hlt)
    have hf := few_le h1 h2 h3 h4
    have hw : IntKind.u64.wrap (x : Int) = (x : Int) := by rw [IntKind.wrap_u64]; omega
    have htz : bits_TrailingZeros.f (x : Int) = some ((cz x : Nat) : Int) := by
      unfold bits_TrailingZeros.f
      rw [if_pos (by simp; omega)]; rfl
    refine Ev.step (fun f => impl_ColoursOf.l0.eq_2 ..) (ev_pos (by omega) (ev_pos (by omega) (ev_pos (by omega) ?_)))
    rw [rd_at hlt, List.drop_eq_getElem_cons hlt, List.map_cons, ex, hw]
    refine ev_bind0 htz (ev_bind0 (few_impl h1 h2 h3 h4) (ev_pos (by omega) ?_))
    rw [wr (show -9223372036854775808 ≤ (i : Int) + 1 by omega) (by omega), wr (show -9223372036854775808 ≤ few n k - 1 by omega) (by omega), least_mn]
    have := impl_loop d (i + 1) (acc ++ [least ((cz x : Nat) : Int) (few n k - 1)]) (by omega) (by simp; omega)
    rw [List.append_assoc] at this
    exact this
theorem tz_loop (x : Nat) (hx1 : 1 ≤ x) (hx2 : x < 256) (acc : List Int) (i : Int) (R : List Int × Bool) (ha : acc.length < 17592186044416) (cont : Ev (fun r => spec_ColoursOf.l0 r n k (acc ++ [least ((cz x : Nat) : Int) (few n k - 1)]) T (T.length : Int) (wrap64 (i + 1))) R) :
    ∀ (d j : Nat), j + d = cz x → Ev (fun r => spec_ColoursOf.l1 r n k acc (x : Int) (j : Int) T (T.length : Int) i) R
  | 0, j, h => by
    obtain ⟨_, hz, _⟩ := cz_spec hx1 hx2
    have hf := few_le h1 h2 h3 h4
    have e : j = cz x := by omega
    rw [e]
    refine Ev.step (fun f => spec_ColoursOf.l1.eq_2 ..) (ev_pos (by omega) (ev_neg hz (ev_bind0 (few_spec h1 h2 h3 h4) ?_)))
    rw [wr (show -9223372036854775808 ≤ few n k - 1 by omega) (by omega)]
    exact ev_bind0 (least_spec _ _) (ev_pos ha cont)
  | d + 1, j, h => by
    obtain ⟨hz, _, h8⟩ := cz_spec hx1 hx2
    refine Ev.step (fun f => spec_ColoursOf.l1.eq_2 ..) (ev_pos (by omega) (ev_pos (hz j (by omega)) ?_))
    rw [wr (show -9223372036854775808 ≤ (j : Int) + 1 by omega) (by omega)]
    exact tz_loop x hx1 hx2 acc i R ha cont d (j + 1) (by omega)
theorem spec_loop : ∀ (d i : Nat) (acc : List Int), i + d = T.length → acc.length ≤ i → Ev (fun r => spec_ColoursOf.l0 r n k acc T (T.length : Int) (i : Int)) (acc ++ (T.drop i).map (col (few n k)), true)
  | 0, i, acc, h, ha => Ev.step (fun f => spec_ColoursOf.l0.eq_2 ..) (ev_neg (by omega) (ev_eq (Ev.now _) (by rw [List.drop_eq_nil_of_le (by omega)]; simp)))
  | d + 1, i, acc, h, ha => by
    have hlt : i < T.length := by omega
    obtain ⟨x, ex, hx1, hx2⟩ := hm _ (List.getElem_mem hlt)
    refine Ev.step (fun f => spec_ColoursOf.l0.eq_2 ..) (ev_pos (by omega) (ev_pos (by omega) (ev_pos (by omega) ?_)))
    rw [rd_at hlt, List.drop_eq_getElem_cons hlt, List.map_cons, ex]
    have := spec_loop d (i + 1) (acc ++ [least ((cz x : Nat) : Int) (few n k - 1)]) (by omega) (by simp; omega)
    rw [List.append_assoc] at this
    refine tz_loop n k h1 h2 h3 h4 T hT hm x hx1 hx2 acc (i : Int) _ (by omega) ?_ (cz x) 0 (by omega)
    rw [wr (by omega) (by omega)]
    exact this
end
theorem FnExactColoursOf : laws_FnExactColoursOf.Pure := by
  intro a0 a1 _ _
  apply Ev.rounds
  have key : ∀ (l : List Int) (b : Bool), l.length ≤ 1000 → Ev (fun k => spec_ColoursOf.f k a0 a1) (l, b) → Ev (fun k => impl_ColoursOf.f k a0 a1) (l, b) → Ev (fun k => laws_FnExactColoursOf.f k a0 a1) true := by
    intro l b hl hs hi
    have he := eqIntS_self l (by omega)
    obtain ⟨l', hm, hh⟩ := mark_held l (by omega)
    refine Ev.bind hs (Ev.bind hi (Ev.bind he (ev_pos rfl ?_)))
    rw [bne_self_eq_false]
    refine Ev.step (fun f => laws_FnExactColoursOf.j0.eq_2 ..) (ev_neg (by decide) (Ev.bind hm (Ev.bind hh (ev_neg (by omega) (ev_pos rfl ?_)))))
    refine Ev.bind hi (Ev.bind he (ev_pos rfl ?_))
    rw [bne_self_eq_false]
    exact Ev.step (fun f => laws_FnExactColoursOf.j1.eq_2 ..) (ev_neg (by decide) (Ev.bind hh (ev_neg (by omega) (ev_pos rfl (Ev.now _)))))
  cases hg : items a0 a1 with
  | false => exact key [] false (by simp) (ev_bind0 (given_eq a0 a1) (ev_neg (by rw [hg]; decide) (Ev.now _))) (ev_bind0 (items_eq a0 a1) (ev_neg (by rw [hg]; decide) (Ev.now _)))
  | true =>
    have hn : (1 ≤ a0 ∧ a0 ≤ 8) ∧ (1 ≤ a1 ∧ a1 ≤ a0) := by
      unfold items at hg
      exact ⟨of_decide_eq_true (Bool.and_eq_true_iff.1 hg).1, of_decide_eq_true (Bool.and_eq_true_iff.1 hg).2⟩
    obtain ⟨⟨n1, n2⟩, k1, k2⟩ := hn
    obtain ⟨n, en⟩ := Int.eq_ofNat_of_zero_le (show 0 ≤ a0 by omega)
    subst en
    have hl := setL_len a1 (show n < 9 by omega)
    have hp := pow_le (show n < 9 by omega)
    have hm : ∀ y ∈ setL n a1, ∃ x : Nat, y = (x : Int) ∧ 1 ≤ x ∧ x < 256 := fun y hy => by
      obtain ⟨x, e1, e2, e3⟩ := sel_mem _ _ _ hy
      exact ⟨x, e1, pc_pos (by omega), by omega⟩
    have r1 := spec_loop (n : Int) a1 n1 n2 k1 k2 (setL n a1) (by omega) hm (setL n a1).length 0 [] (by omega) (by simp)
    have r2 := impl_loop (n : Int) a1 n1 n2 k1 k2 (setL n a1) (by omega) hm (setL n a1).length 0 [] (by omega) (by simp)
    rw [List.drop_zero, List.nil_append] at r1 r2
    exact key _ true (by rw [List.length_map]; omega) (ev_bind0 (given_eq _ _) (ev_pos hg (Ev.bind (knSets_ev n a1 (by omega)) r1))) (ev_bind0 (items_eq _ _) (ev_pos hg (Ev.bind (setsOf_ev n a1 (by omega)) r2)))
end Go.Proofs.YtamecophbbgefabDoor.Pure
