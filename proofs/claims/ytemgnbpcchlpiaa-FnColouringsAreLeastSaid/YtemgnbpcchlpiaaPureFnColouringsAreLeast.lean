/- A colouring is found exactly if there are as many colours as told, also of stable sets alone: for every input; there are no conditions. -/
import Derived.Test.YtemgnbpcchlpiaaQFnColouringsAreLeastStab
import Derived.Test.YtemgnbpcchlpiaaQFnColouringsAreLeastDraw
namespace Go.Proofs.Ytemgnbpcchlpiaa.Pure
open Go.RowKit Go.Proofs.YtemgnbpcchlpiaaOwn Go.Proofs.Ytemgnbpcchlpiaa.PFnColouringsAreLeast Go.Proofs.YtemgnbpcchlpiaaW.PrintWords Go.Proofs.YtemgnbpcchlpiaaW.PrintLast Go.Proofs.YtemgnbpcchlpiaaW.PrintMore Go.Proofs.Ytemgnbpcchlpiaa.QFnColouringsAreLeast
set_option linter.unusedVariables false
set_option linter.unusedSectionVars false
set_option maxRecDepth 100000
theorem few_impl {n k : Int} (h1 : 1 ≤ n) (h2 : n ≤ 8) (h3 : 1 ≤ k) (h4 : k ≤ n) : impl_fewest.f n k = some (few n k) := by
  unfold impl_fewest.f few
  rw [wr (show -9223372036854775808 ≤ 2 * k by omega) (by omega), wr (show -9223372036854775808 ≤ n - 2 * k by omega) (by omega), wr (show -9223372036854775808 ≤ n - 2 * k + 2 by omega) (by omega)]
  split <;> rfl
theorem fewC_ev {n k : Int} (hg : items n k = true) : impl_FewestColours.f n k = some (few n k, true) := by
  obtain ⟨⟨n1, n2⟩, k1, k2⟩ := items_in hg
  unfold impl_FewestColours.f
  rw [items_eq, Option.bind_some, if_pos hg, few_impl n1 n2 k1 k2]; rfl
theorem fewC_bad {n k : Int} (hg : items n k = false) : impl_FewestColours.f n k = some (0, false) := by
  unfold impl_FewestColours.f
  rw [items_eq, Option.bind_some, if_neg (by rw [hg]; decide)]
theorem same_loop (a : List Int) (ha : a.length ≤ 10000) : ∀ d i : Nat, i + d = a.length → Ev (fun f => laws_uSame.l0 f a a (a.length : Int) (i : Int)) true
  | 0, i, h => Ev.step (fun f => laws_uSame.l0.eq_2 ..) (ev_neg (by omega) (Ev.now _))
  | d + 1, i, h => by
    refine Ev.step (fun f => laws_uSame.l0.eq_2 ..) (ev_pos (by omega) (ev_pos (by omega) (ev_pos (by omega) (ev_pos (by omega) (ev_pos rfl ?_)))))
    rw [wr (show -9223372036854775808 ≤ (i : Int) + 1 by omega) (by omega)]
    exact same_loop a ha d (i + 1) (by omega)
theorem same_ev (a : List Int) (ha : a.length ≤ 10000) : Ev (fun f => laws_uSame.f f a a) true := ev_pos rfl (same_loop a ha a.length 0 (by omega))
theorem draw1 {l : List Int} (h : U8 l) : ∃ r : Int × Int × Int, spec_DrawColourWith.f l = some r := by
  unfold spec_DrawColourWith.f spec_l1Cur_one.f
  obtain ⟨n, k, a, s, e0, b0, c0⟩ := sets_ev h 0 6 (Int.le_refl 0) (by decide)
  rw [e0, Option.bind_some]
  dsimp only
  obtain ⟨f, hf⟩ : ∃ f, spec_knFewest.f n k = some f := by
    unfold spec_knFewest.f spec_l1Most.f
    split <;> exact ⟨_, rfl⟩
  rw [hf, Option.bind_some]
  obtain ⟨v, a1, s1, e1, _, _, b1, c1⟩ := pick_ev h s 4 (show 0 ≤ a by omega) (by omega)
  rw [e1, Option.bind_some]
  dsimp only
  obtain ⟨v2, a2, s2, e2, _, _, b2, c2⟩ := pick_ev h s1 10 (show 0 ≤ a1 by omega) (by omega)
  rw [e2, Option.bind_some, Option.bind_some]
  dsimp only
  by_cases h0 : (v2 == 0) = true
  · obtain ⟨v3, a3, s3, e3, _⟩ := among_ev h s2 [0, 1, 8, 9] (by decide) (show 0 ≤ a2 by omega) (by omega)
    rw [if_pos h0, e3]
    exact ⟨_, rfl⟩
  · rw [if_neg h0]
    exact ⟨_, rfl⟩
theorem draw2 {l : List Int} (h : U8 l) : ∃ r : Int × Int × Int, spec_DrawColourStableWith.f l = some r := by
  unfold spec_DrawColourStableWith.f
  obtain ⟨n, k, a, s, e0, b0, c0⟩ := sets_ev h 0 7 (Int.le_refl 0) (by decide)
  rw [e0, Option.bind_some]
  dsimp only
  obtain ⟨f, hf⟩ : ∃ f, spec_l1Least.f 9 (wrap64 ((wrap64 (n - (wrap64 (2 * k)))) + 2)) = some f := by
    unfold spec_l1Least.f
    split <;> exact ⟨_, rfl⟩
  obtain ⟨g, hg⟩ : ∃ g, spec_l1Most.f 0 f = some g := by
    unfold spec_l1Most.f
    split <;> exact ⟨_, rfl⟩
  rw [hf, Option.bind_some, hg, Option.bind_some]
  obtain ⟨v, a1, s1, e1, _⟩ := pick_ev h s 3 (show 0 ≤ a by omega) (by omega)
  rw [e1]
  exact ⟨_, rfl⟩
/-- No two neighbours are in a set. -/
def ring (m : Nat) (y : Int) : Prop := ∀ i : Nat, i < m → Int.tmod (shr .i64 y (i : Int)) 2 = 1 → ¬ Int.tmod (shr .i64 y (((i + 1) % m : Nat) : Int)) 2 = 1
theorem ring_in {m : Nat} {j : Int} (hm : m ≤ 8) {S : List Int} (i : Nat) (x : Int) (hx : j > 1 → ring m x) (cont : Ev (fun f => laws_FnColouringsAreLeast.l2 f (m : Int) j S (S.length : Int) (wrap64 ((i : Int) + 1))) true) :
    ∀ d q : Nat, q + d = m → Ev (fun f => laws_FnColouringsAreLeast.l3 f (m : Int) j x (q : Int) S (S.length : Int) (i : Int)) true
  | 0, q, h => Ev.step (fun f => laws_FnColouringsAreLeast.l3.eq_2 ..) (ev_neg (by omega) cont)
  | d + 1, q, h => by
    have ih := ring_in hm i x hx cont d (q + 1) (by omega)
    have ew : wrap64 ((q : Int) + 1) = ((q + 1 : Nat) : Int) := by rw [wr (by omega) (by omega)]; omega
    have et : Int.tmod ((q + 1 : Nat) : Int) (m : Int) = (((q + 1) % m : Nat) : Int) := by rw [Int.tmod_eq_emod_of_nonneg (by omega)]; omega
    refine Ev.step (fun f => laws_FnColouringsAreLeast.l3.eq_2 ..) (ev_pos (by omega) ?_)
    rw [ew, et]
    by_cases hj : j > 1
    · refine ev_pos hj (ev_pos (by omega) ?_)
      by_cases h1 : Int.tmod (shr .i64 x (q : Int)) 2 = 1
      · exact ev_pos h1 (ev_neg (by omega) (ev_pos (by omega) (ev_neg (hx hj q (by omega) h1) ih)))
      · exact ev_neg h1 ih
    · exact ev_neg hj ih
theorem ring_out {m : Nat} {j : Int} (hm : m ≤ 8) {S : List Int} (hS : S.length ≤ 1000) (hx : ∀ x ∈ S, j > 1 → ring m x) : ∀ d i : Nat, i + d = S.length → Ev (fun f => laws_FnColouringsAreLeast.l2 f (m : Int) j S (S.length : Int) (i : Int)) true
  | 0, i, h => Ev.step (fun f => laws_FnColouringsAreLeast.l2.eq_2 ..) (ev_neg (by omega) (Ev.now _))
  | d + 1, i, h => by
    refine Ev.step (fun f => laws_FnColouringsAreLeast.l2.eq_2 ..) (ev_pos (by omega) (ev_pos (by omega) (ev_pos (by omega) ?_)))
    refine ring_in hm i _ (by rw [rdAt (show i < S.length by omega)]; exact hx _ (List.getElem_mem _)) ?_ m 0 (by omega)
    rw [wr (show -9223372036854775808 ≤ (i : Int) + 1 by omega) (by omega)]
    exact ring_out hm hS hx d (i + 1) (by omega)
section
variable {m : Nat} {j : Int} {S L : List Int} (hS : S.length ≤ 1000) (hs : ∀ y ∈ S, ∃ x : Nat, y = (x : Int) ∧ x < 256) (hl : L.length ≤ S.length) (hap : ∀ i q : Nat, q < i → i < L.length → (S.getD q 0).toNat &&& (S.getD i 0).toNat = 0 → L.getD q 0 ≠ L.getD i 0) (fin : Ev (fun f => laws_FnColouringsAreLeast.j8 f (m : Int) j S) true)
include hS hs hl hap fin
theorem eq_in (i : Nat) (hi : i < L.length) (cont : Ev (fun f => laws_FnColouringsAreLeast.l0 f (m : Int) j L S L (L.length : Int) ((i : Int) + 1)) true) :
    ∀ d q : Nat, q + d = i → Ev (fun f => laws_FnColouringsAreLeast.l1 f (m : Int) j L S (i : Int) (rd L (i : Int)) L (L.length : Int) (i : Int) (L.take i) ((L.take i).length : Int) (q : Int)) true
  | 0, q, h => by
    have hlen : (L.take i).length = i := by rw [List.length_take]; omega
    rw [hlen]
    refine Ev.step (fun f => laws_FnColouringsAreLeast.l1.eq_2 ..) (ev_neg (by omega) ?_)
    rw [wr (show -9223372036854775808 ≤ (i : Int) + 1 by omega) (by omega)]
    exact cont
  | d + 1, q, h => by
    have ih := eq_in i hi cont d (q + 1) (by omega)
    have hlen : (L.take i).length = i := by rw [List.length_take]; omega
    rw [hlen] at ih ⊢
    have hq : q < (L.take i).length := by omega
    have next : Ev (fun f => laws_FnColouringsAreLeast.l1 f (m : Int) j L S (i : Int) (rd L (i : Int)) L (L.length : Int) (i : Int) (L.take i) (i : Int) (wrap64 ((q : Int) + 1))) true := by
      rw [wr (show -9223372036854775808 ≤ (q : Int) + 1 by omega) (by omega)]
      exact ih
    have e2 : rd (L.take i) (q : Int) = rd L (q : Int) := by rw [rdAt hq, List.getElem_take, rdAt (show q < L.length by omega)]
    refine Ev.step (fun f => laws_FnColouringsAreLeast.l1.eq_2 ..) (ev_pos (by omega) (ev_pos (by omega) (ev_pos (by rw [hlen]; omega) ?_)))
    rw [e2]
    by_cases hc : rd L (i : Int) = rd L (q : Int)
    · have hi' : i < S.length := by omega
      have hq' : q < S.length := by omega
      obtain ⟨x, ex, hx⟩ := hs _ (List.getElem_mem hi')
      obtain ⟨y, ey, hy⟩ := hs _ (List.getElem_mem hq')
      have r1 : rd S (i : Int) = (x : Int) := by rw [rdAt hi', ex]
      have r2 : rd S (q : Int) = (y : Int) := by rw [rdAt hq', ey]
      have g1 : S.getD i 0 = (x : Int) := r1
      have g2 : S.getD q 0 = (y : Int) := r2
      have hb : Go.bits .and .i64 (rd S (i : Int)) (rd S (q : Int)) = ((x &&& y : Nat) : Int) := by rw [r1, r2]; exact and_i64 x y hx hy
      refine ev_pos hc (ev_pos (by omega) (ev_pos (by omega) (ev_pos (by omega) (ev_neg ?_ next))))
      intro h0
      refine absurd hc.symm (hap i q (by omega) hi ?_)
      rw [g1, g2, Int.toNat_natCast, Int.toNat_natCast, Nat.and_comm]
      omega
    · exact ev_neg hc next
theorem eq_out : ∀ d i : Nat, i + d = L.length → Ev (fun f => laws_FnColouringsAreLeast.l0 f (m : Int) j L S L (L.length : Int) (i : Int)) true
  | 0, i, h => Ev.step (fun f => laws_FnColouringsAreLeast.l0.eq_2 ..) (ev_neg (by omega) fin)
  | d + 1, i, h => by
    refine Ev.step (fun f => laws_FnColouringsAreLeast.l0.eq_2 ..) (ev_pos (by omega) (ev_pos (by omega) (ev_pos (by omega) (ev_pos (by omega) (ev_bind0 rfl ?_)))))
    rw [Int.toNat_natCast]
    exact eq_in hS hs hl hap fin i (by omega) (eq_out d (i + 1) (by omega)) i 0 (by omega)
end
/-- What is told of stable sets. -/
theorem stab_end {l : List Int} (h : U8 l) : Ev (fun f => laws_FnColouringsAreLeast.j2 f l) true := by
  obtain ⟨⟨n, k, c⟩, hd⟩ := draw2 h
  cases hg : items n k with
  | false =>
    have bad : ¬ items n k = true := by rw [hg]; decide
    have g1 : Ev (fun f => impl_ColourStableWith.f f n k c) ([], false) := ev_bind0 (items_eq n k) (ev_neg bad (Ev.step (fun f => impl_ColourStableWith.j0.eq_2 ..) (ev_pos rfl (Ev.now _))))
    have g2 : Ev (fun f => spec_ColourStableWith.f f n k c) ([], false) := ev_bind0 (given_eq n k) (ev_neg bad (Ev.step (fun f => spec_ColourStableWith.j0.eq_2 ..) (ev_pos rfl (Ev.now _))))
    have g3 : Ev (fun f => impl_StableSets.f f n k) ([], false) := ev_bind0 (items_eq n k) (ev_neg bad (Ev.now _))
    have g4 : Ev (fun f => spec_StableSets.f f n k) ([], false) := ev_bind0 (given_eq n k) (ev_neg bad (Ev.now _))
    have g5 : Ev (fun f => impl_CountStable.f f n k) (0, false) := ev_bind0 (items_eq n k) (ev_neg bad (Ev.now _))
    have g6 : Ev (fun f => spec_CountStable.f f n k) (0, false) := ev_bind0 (given_eq n k) (ev_neg bad (Ev.now _))
    have hs := same_ev [] (by simp)
    have fin : Ev (fun f => laws_FnColouringsAreLeast.j8 f n k []) true := Ev.step (fun f => laws_FnColouringsAreLeast.j8.eq_2 ..) (Ev.step (fun f => laws_FnColouringsAreLeast.l2.eq_2 ..) (ev_neg (by decide) (Ev.now _)))
    refine Ev.step (fun f => laws_FnColouringsAreLeast.j2.eq_2 ..) (ev_bind0 hd (Ev.bind g1 (Ev.bind g2 (Ev.bind g3 (Ev.bind g4 (Ev.bind g5 (Ev.bind g6 (ev_neg Bool.false_ne_true (Ev.bind hs (ev_pos rfl (ev_neg Bool.false_ne_true (Ev.bind hs (ev_pos rfl (ev_neg Bool.false_ne_true (ev_pos rfl (ev_neg Bool.false_ne_true (ev_neg Bool.false_ne_true ?_)))))))))))))))))
    refine Ev.step (fun f => laws_FnColouringsAreLeast.j3.eq_2 ..) (ev_neg Bool.false_ne_true (ev_bind0 (fewC_bad hg) (ev_neg Bool.false_ne_true ?_)))
    exact Ev.step (fun f => laws_FnColouringsAreLeast.j4.eq_2 ..) (ev_neg Bool.false_ne_true fin)
  | true =>
    obtain ⟨⟨n1, n2⟩, k1, k2⟩ := items_in hg
    obtain ⟨n', en⟩ := Int.eq_ofNat_of_zero_le (show 0 ≤ n by omega)
    obtain ⟨k', ek⟩ := Int.eq_ofNat_of_zero_le (show 0 ≤ k by omega)
    subst en ek
    have hn : n' < 9 := by omega
    have hl := stabL_len (n := n') (k' : Int) hn
    have a1 := knStable_ev n' (k' : Int) (by omega) hn
    have a2 := stable_ev n' k' (by omega) (by omega) hn
    have hring : ∀ x ∈ stabL n' (k' : Int), (k' : Int) > 1 → ring n' x := fun x hx hk i hi h1 h2 => by
      have := List.all_eq_true.1 (List.all_eq_true.1 ring_all n' (List.mem_range.2 hn)) k' (List.mem_range.2 (by omega))
      rw [decide_eq_false (by omega), Bool.false_or] at this
      have := List.all_eq_true.1 (List.all_eq_true.1 this x hx) i (List.mem_range.2 hi)
      rw [Bool.or_eq_true, decide_eq_true_eq, decide_eq_true_eq] at this
      rcases this with e | e
      · exact e h1
      · exact e h2
    have fin : Ev (fun f => laws_FnColouringsAreLeast.j8 f (n' : Int) (k' : Int) (stabL n' (k' : Int))) true := Ev.step (fun f => laws_FnColouringsAreLeast.j8.eq_2 ..) (ring_out (by omega) (by omega) hring (stabL n' (k' : Int)).length 0 (by omega))
    have g3 : Ev (fun f => impl_StableSets.f f (n' : Int) (k' : Int)) (stabL n' (k' : Int), true) := ev_bind0 (items_eq _ _) (ev_pos hg (Ev.bind a2 (Ev.now _)))
    have g4 : Ev (fun f => spec_StableSets.f f (n' : Int) (k' : Int)) (stabL n' (k' : Int), true) := ev_bind0 (given_eq _ _) (ev_pos hg (Ev.bind a1 (Ev.now _)))
    have g5 : Ev (fun f => impl_CountStable.f f (n' : Int) (k' : Int)) (((stabL n' (k' : Int)).length : Int), true) := ev_bind0 (items_eq _ _) (ev_pos hg (Ev.bind a2 (Ev.now _)))
    have g6 : Ev (fun f => spec_CountStable.f f (n' : Int) (k' : Int)) (((stabL n' (k' : Int)).length : Int), true) := by
      have := List.all_eq_true.1 (List.all_eq_true.1 count_all n' (List.mem_range.2 hn)) k' (List.mem_range.2 (by omega))
      rw [decide_eq_false (by omega), decide_eq_false (by omega), Bool.false_or, Bool.false_or] at this
      exact ev_mono (g := fun f => spec_CountStable.f f (n' : Int) (k' : Int)) (K := 14) (fun f => spec_CountStable.mono _ _ _) (of_decide_eq_true this)
    have hs2 := same_ev (stabL n' (k' : Int)) (by omega)
    have first : ∀ (L : List Int) (b : Bool), L.length ≤ 10000 → Ev (fun f => impl_ColourStableWith.f f (n' : Int) (k' : Int) c) (L, b) → Ev (fun f => spec_ColourStableWith.f f (n' : Int) (k' : Int) c) (L, b) → Ev (fun f => laws_FnColouringsAreLeast.j3 f (n' : Int) (k' : Int) c L b (stabL n' (k' : Int)) true false) true → Ev (fun f => laws_FnColouringsAreLeast.j2 f l) true := by
      intro L b hL g1 g2 cont
      have hs1 := same_ev L hL
      refine Ev.step (fun f => laws_FnColouringsAreLeast.j2.eq_2 ..) (ev_bind0 hd (Ev.bind g1 (Ev.bind g2 (Ev.bind g3 (Ev.bind g4 (Ev.bind g5 (Ev.bind g6 (ev_neg (by rw [bne_self_eq_false]; decide) (Ev.bind hs1 (ev_pos rfl (ev_neg Bool.false_ne_true (Ev.bind hs2 (ev_pos rfl (ev_neg Bool.false_ne_true (ev_pos rfl (ev_neg Bool.false_ne_true (ev_pos rfl ?_)))))))))))))))))
      dsimp only
      rw [bne_self_eq_false]
      exact cont
    have badI : Ev (fun f => impl_ColourStableWith.j0 f (n' : Int) (k' : Int) c true) ([], false) := Ev.step (fun f => impl_ColourStableWith.j0.eq_2 ..) (ev_pos rfl (Ev.now _))
    have badS : Ev (fun f => spec_ColourStableWith.j0 f (n' : Int) (k' : Int) c true) ([], false) := Ev.step (fun f => spec_ColourStableWith.j0.eq_2 ..) (ev_pos rfl (Ev.now _))
    have out : ∀ L b, Ev (fun f => laws_FnColouringsAreLeast.j4 f (n' : Int) (k' : Int) c L b (stabL n' (k' : Int)) (few (n' : Int) (k' : Int)) true false) true := fun L b => Ev.step (fun f => laws_FnColouringsAreLeast.j4.eq_2 ..) (ev_neg Bool.false_ne_true fin)
    by_cases h7 : (n' : Int) > 7
    · exact first [] false (by simp) (ev_bind0 (items_eq _ _) (ev_pos hg (ev_pos h7 badI))) (ev_bind0 (given_eq _ _) (ev_pos hg (ev_pos h7 badS))) (Ev.step (fun f => laws_FnColouringsAreLeast.j3.eq_2 ..) (ev_neg Bool.false_ne_true (ev_bind0 (fewC_ev hg) (ev_pos rfl (ev_neg (by omega) (out _ _))))))
    · by_cases hc : 1 ≤ c ∧ c ≤ 8
      · obtain ⟨m, em⟩ := Int.eq_ofNat_of_zero_le (show 0 ≤ c by omega)
        subst em
        have h3 := kn_start (stabL n' (k' : Int)) m (by omega) (by omega)
        have h4 := coloured_eq (stabL n' (k' : Int)) m (by omega) (by omega)
        have hb := List.all_eq_true.1 (List.all_eq_true.1 chkB_all n' (List.mem_range.2 (by omega))) k' (List.mem_range.2 (by omega))
        rw [decide_eq_false (by omega), decide_eq_false (by omega), Bool.false_or, Bool.false_or] at hb
        have hb := List.all_eq_true.1 hb m (List.mem_range.2 (by omega))
        rw [decide_eq_false (by omega), Bool.false_or] at hb
        have ht := told_len (stabL n' (k' : Int)) (m : Int)
        generalize told (colG (stabL n' (k' : Int)) (m : Int) (stabL n' (k' : Int)).length [] 0) = t at h3 h4 hb ht
        obtain ⟨L, b⟩ := t
        unfold chkB at hb
        rw [Bool.and_eq_true, decide_eq_true_eq] at hb
        obtain ⟨q1, q2⟩ := hb
        dsimp only at q1 q2 ht
        refine first L b (by omega) (ev_bind0 (items_eq _ _) (ev_pos hg (ev_neg h7 (ev_bind0 (in_impl _ _ _) ?_)))) (ev_bind0 (given_eq _ _) (ev_pos hg (ev_neg h7 (ev_bind0 (in_spec _ _ _) ?_)))) (Ev.step (fun f => laws_FnColouringsAreLeast.j3.eq_2 ..) (ev_neg Bool.false_ne_true (ev_bind0 (fewC_ev hg) (ev_pos rfl (ev_pos (by omega) (ev_pos (by omega) ?_))))))
        · rw [decide_eq_true hc]
          exact Ev.step (fun f => impl_ColourStableWith.j0.eq_2 ..) (ev_neg (by decide) (Ev.bind a2 (ev_bind0 h4 (Ev.now _))))
        · rw [decide_eq_true hc]
          exact Ev.step (fun f => spec_ColourStableWith.j0.eq_2 ..) (ev_neg (by decide) (Ev.bind a1 (Ev.bind h3 (Ev.now _))))
        · dsimp only
          rw [decide_eq_true (show (m : Int) ≤ 8 by omega)]
          have loop : Ev (fun f => laws_FnColouringsAreLeast.j5 f (n' : Int) (k' : Int) L (stabL n' (k' : Int)) false) true := by
            refine Ev.step (fun f => laws_FnColouringsAreLeast.j5.eq_2 ..) (ev_neg Bool.false_ne_true ?_)
            refine eq_out (by omega) (stabL_small hn) ht (fun i q hq hi h0 => ?_) fin L.length 0 (by omega)
            cases b with
            | true =>
              rw [if_pos rfl] at q2
              exact (apB_of _ _ q2).2 q i hq (by omega) h0
            | false =>
              rw [if_neg (by decide)] at q2
              rw [of_decide_eq_true q2] at hi
              cases hi
          refine Ev.step (fun f => laws_FnColouringsAreLeast.j4.eq_2 ..) (ev_pos rfl (ev_pos rfl ?_))
          by_cases h0 : ((stabL n' (k' : Int)).length : Int) = 0
          · refine ev_pos h0 ?_
            rw [decide_eq_true (show (stabL n' (k' : Int)).length = 0 by omega), Bool.true_or] at q1
            rw [q1, bne_self_eq_false]
            exact loop
          · refine ev_neg h0 ?_
            rw [decide_eq_false (show ¬ (stabL n' (k' : Int)).length = 0 by omega), Bool.false_or] at q1
            rw [q1, bne_self_eq_false]
            exact loop
      · refine first [] false (by simp) (ev_bind0 (items_eq _ _) (ev_pos hg (ev_neg h7 (ev_bind0 (in_impl _ _ _) ?_)))) (ev_bind0 (given_eq _ _) (ev_pos hg (ev_neg h7 (ev_bind0 (in_spec _ _ _) ?_)))) (Ev.step (fun f => laws_FnColouringsAreLeast.j3.eq_2 ..) (ev_neg Bool.false_ne_true (ev_bind0 (fewC_ev hg) (ev_pos rfl (ev_pos (by omega) ?_)))))
        · rw [decide_eq_false hc]; exact badI
        · rw [decide_eq_false hc]; exact badS
        · by_cases h1 : c ≥ 1
          · refine ev_pos h1 ?_
            rw [decide_eq_false (show ¬ c ≤ 8 by omega)]
            exact out _ _
          · exact ev_neg h1 (out _ _)
theorem FnColouringsAreLeast : laws_FnColouringsAreLeast.Pure := by
  intro l0 l1 _ _ u0 _ _ u1
  apply Ev.rounds
  obtain ⟨b, hb⟩ : ∃ b, laws_big.f l0 l1 = some b := by
    unfold laws_big.f
    split <;> exact ⟨_, rfl⟩
  refine ev_bind0 hb ?_
  cases b with
  | true => exact ev_pos rfl (Ev.now _)
  | false =>
    refine ev_neg (by decide) ?_
    obtain ⟨⟨n, k, c⟩, hd⟩ := draw1 u0
    have fin := stab_end u1
    have skip : ∀ L b F, Ev (fun f => laws_FnColouringsAreLeast.j1 f l1 n k c L b F false) true := fun L b F => Ev.step (fun f => laws_FnColouringsAreLeast.j1.eq_2 ..) (ev_neg Bool.false_ne_true fin)
    have first : ∀ (L : List Int) (b : Bool), L.length ≤ 10000 → Ev (fun f => impl_ColourWith.f f n k c) (L, b) → Ev (fun f => spec_ColourWith.f f n k c) (L, b) → Ev (fun f => laws_FnColouringsAreLeast.j0 f l1 n k c L b false) true → Ev (fun k_ => (spec_DrawColourWith.f l0).bind fun bt280 => ((impl_ColourWith.f k_ bt280.1 bt280.2.1 bt280.2.2).bind fun bt283 => ((spec_ColourWith.f k_ bt280.1 bt280.2.1 bt280.2.2).bind fun bt287 => (if (bt283.2 != bt287.2) = true then (none) else ((laws_uSame.f k_ bt283.1 bt287.1).bind fun t291 => (laws_FnColouringsAreLeast.j0 k_ l1 bt280.1 bt280.2.1 bt280.2.2 bt283.1 bt283.2 (!t291))))))) true := by
      intro L b hL g1 g2 cont
      exact ev_bind0 hd (Ev.bind g1 (Ev.bind g2 (ev_neg (by rw [bne_self_eq_false]; decide) (Ev.bind (same_ev L hL) cont))))
    have badS : Ev (fun f => spec_ColourWith.j0 f n k c true) ([], false) := Ev.step (fun f => spec_ColourWith.j0.eq_2 ..) (ev_pos rfl (Ev.now _))
    have badI : Ev (fun f => impl_ColourWith.j0 f n k c true) ([], false) := Ev.step (fun f => impl_ColourWith.j0.eq_2 ..) (ev_pos rfl (Ev.now _))
    cases hg : items n k with
    | false =>
      have bad : ¬ items n k = true := by rw [hg]; decide
      exact first [] false (by simp) (ev_bind0 (items_eq _ _) (ev_neg bad badI)) (ev_bind0 (given_eq _ _) (ev_neg bad badS)) (Ev.step (fun f => laws_FnColouringsAreLeast.j0.eq_2 ..) (ev_neg Bool.false_ne_true (ev_bind0 (fewC_bad hg) (ev_neg Bool.false_ne_true (skip _ _ _)))))
    | true =>
      by_cases h6 : n > 6
      · exact first [] false (by simp) (ev_bind0 (items_eq _ _) (ev_pos hg (ev_pos h6 badI))) (ev_bind0 (given_eq _ _) (ev_pos hg (ev_pos h6 badS))) (Ev.step (fun f => laws_FnColouringsAreLeast.j0.eq_2 ..) (ev_neg Bool.false_ne_true (ev_bind0 (fewC_ev hg) (ev_pos rfl (ev_neg (by omega) (skip _ _ _))))))
      · by_cases hc : 1 ≤ c ∧ c ≤ 8
        · obtain ⟨⟨n1, n2⟩, k1, k2⟩ := items_in hg
          obtain ⟨n', en⟩ := Int.eq_ofNat_of_zero_le (show 0 ≤ n by omega)
          obtain ⟨k', ek⟩ := Int.eq_ofNat_of_zero_le (show 0 ≤ k by omega)
          obtain ⟨m, em⟩ := Int.eq_ofNat_of_zero_le (show 0 ≤ c by omega)
          subst en ek em
          have hn : n' < 9 := by omega
          have hl := setL_len (n := n') (k' : Int) hn
          have a1 := knSets_ev n' (k' : Int) hn
          have a2 := setsOf_ev n' (k' : Int) hn
          have h3 := kn_start (setL n' (k' : Int)) m (by omega) (by omega)
          have h4 := coloured_eq (setL n' (k' : Int)) m (by omega) (by omega)
          have hb := List.all_eq_true.1 (List.all_eq_true.1 chkA_all n' (List.mem_range.2 (by omega))) k' (List.mem_range.2 (by omega))
          rw [decide_eq_false (by omega), decide_eq_false (by omega), Bool.false_or, Bool.false_or] at hb
          have hb := List.all_eq_true.1 hb m (List.mem_range.2 (by omega))
          rw [decide_eq_false (by omega), Bool.false_or] at hb
          have ht := told_len (setL n' (k' : Int)) (m : Int)
          generalize told (colG (setL n' (k' : Int)) (m : Int) (setL n' (k' : Int)).length [] 0) = t at h3 h4 hb ht
          obtain ⟨L, b⟩ := t
          unfold chkA at hb
          rw [Bool.and_eq_true, decide_eq_true_eq] at hb
          obtain ⟨q1, q2⟩ := hb
          dsimp only at q1 q2 ht
          refine first L b (by omega) (ev_bind0 (items_eq _ _) (ev_pos hg (ev_neg h6 (ev_bind0 (in_impl _ _ _) ?_)))) (ev_bind0 (given_eq _ _) (ev_pos hg (ev_neg h6 (ev_bind0 (in_spec _ _ _) ?_)))) (Ev.step (fun f => laws_FnColouringsAreLeast.j0.eq_2 ..) (ev_neg Bool.false_ne_true (ev_bind0 (fewC_ev hg) (ev_pos rfl (ev_pos (by omega) (ev_pos (by omega) ?_))))))
          · rw [decide_eq_true hc]
            exact Ev.step (fun f => impl_ColourWith.j0.eq_2 ..) (ev_neg (by decide) (Ev.bind a2 (ev_bind0 h4 (Ev.now _))))
          · rw [decide_eq_true hc]
            exact Ev.step (fun f => spec_ColourWith.j0.eq_2 ..) (ev_neg (by decide) (Ev.bind a1 (Ev.bind h3 (Ev.now _))))
          · dsimp only
            rw [decide_eq_true (show (m : Int) ≤ 8 by omega)]
            refine Ev.step (fun f => laws_FnColouringsAreLeast.j1.eq_2 ..) (ev_pos rfl (ev_neg (by rw [q1, bne_self_eq_false]; decide) ?_))
            cases b with
            | false => exact ev_neg Bool.false_ne_true fin
            | true =>
              rw [Bool.not_true, Bool.false_or, Bool.and_eq_true] at q2
              obtain ⟨w1, w2⟩ := apB_of _ _ q2.1
              obtain ⟨b, hb1, hb2⟩ := isCol_ev hg L (by omega)
              obtain rfl : b = true := hb2.2 ⟨w1, fun i j _ => w2 i j, fun x hx => of_decide_eq_true (List.all_eq_true.1 q2.2 x hx)⟩
              exact ev_pos rfl (Ev.bind hb1 (ev_pos rfl (ev_pos rfl fin)))
        · refine first [] false (by simp) (ev_bind0 (items_eq _ _) (ev_pos hg (ev_neg h6 (ev_bind0 (in_impl _ _ _) ?_)))) (ev_bind0 (given_eq _ _) (ev_pos hg (ev_neg h6 (ev_bind0 (in_spec _ _ _) ?_)))) (Ev.step (fun f => laws_FnColouringsAreLeast.j0.eq_2 ..) (ev_neg Bool.false_ne_true (ev_bind0 (fewC_ev hg) (ev_pos rfl (ev_pos (by omega) ?_)))))
          · rw [decide_eq_false hc]; exact badI
          · rw [decide_eq_false hc]; exact badS
          · by_cases h1 : c ≥ 1
            · refine ev_pos h1 ?_
              rw [decide_eq_false (show ¬ c ≤ 8 by omega)]
              exact skip _ _ _
            · exact ev_neg h1 (skip _ _ _)
end Go.Proofs.Ytemgnbpcchlpiaa.Pure
