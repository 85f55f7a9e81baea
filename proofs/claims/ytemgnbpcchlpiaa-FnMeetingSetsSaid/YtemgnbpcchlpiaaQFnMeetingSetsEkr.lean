/- No colour of a colouring has more sets than told: each list of sets is cut into structures of which so many sets at most meet in pairs. -/
import Derived.Test.YtemgnbpcchlpiaaQFnMeetingSetsSets
namespace Go.Proofs.Ytemgnbpcchlpiaa.QFnMeetingSets
open Go.RowKit Go.Proofs.YtemgnbpcchlpiaaOwn Go.Proofs.Ytemgnbpcchlpiaa.PFnMeetingSets Go.Proofs.YtemgnbpcchlpiaaW.PrintWords Go.Proofs.YtemgnbpcchlpiaaW.PrintLast Go.Proofs.YtemgnbpcchlpiaaW.PrintMore
set_option linter.unusedVariables false
set_option linter.unusedSimpArgs false
set_option maxRecDepth 100000
/-- All parts of a list. -/
def subs : List Nat → List (List Nat)
  | [] => [[]]
  | a :: l => subs l ++ (subs l).map (a :: ·)
theorem filter_subs (p : Nat → Bool) : ∀ l : List Nat, l.filter p ∈ subs l
  | [] => List.mem_singleton.2 rfl
  | a :: l => by
    rw [List.filter_cons, subs]
    have ih := filter_subs p l
    split
    · exact List.mem_append.2 (.inr (List.mem_map.2 ⟨_, ih, rfl⟩))
    · exact List.mem_append.2 (.inl ih)
/-- Do all of these sets meet in pairs? -/
def meetB (S : List Int) : List Nat → Bool
  | [] => true
  | a :: l => (l.all fun b => decide (a = b) || decide ((S.getD a 0).toNat &&& (S.getD b 0).toNat ≠ 0)) && meetB S l
theorem meetB_of (S : List Int) : ∀ l : List Nat, (∀ a ∈ l, ∀ b ∈ l, a ≠ b → (S.getD a 0).toNat &&& (S.getD b 0).toNat ≠ 0) → meetB S l = true
  | [], _ => rfl
  | a :: l, h => by
    rw [meetB, Bool.and_eq_true]
    refine ⟨List.all_eq_true.2 fun b hb => ?_, meetB_of S l fun a' ha b hb => h a' (List.mem_cons_of_mem _ ha) b (List.mem_cons_of_mem _ hb)⟩
    rw [Bool.or_eq_true, decide_eq_true_eq, decide_eq_true_eq]
    by_cases e : a = b
    · exact .inl e
    · exact .inr (h a (List.mem_cons_self ..) b (List.mem_cons_of_mem _ hb) e)
/-- How many sets of k of n items there are. -/
def chs : Nat → Nat → Nat
  | _, 0 => 1
  | 0, _ + 1 => 0
  | n + 1, k + 1 => chs n k + chs n (k + 1)
def strs : List ((Nat × Nat) × (List (List Nat) × Nat)) :=
  [((2, 1), ([[0, 1]], 1)),
   ((3, 1), ([[0, 1, 2]], 1)),
   ((4, 1), ([[0, 1, 2, 3]], 1)),
   ((4, 2), ([[0, 5], [1, 4], [2, 3]], 1)),
   ((5, 1), ([[0, 1, 2, 3, 4]], 1)),
   ((5, 2), ([[0, 7, 8, 5, 3], [1, 2, 4, 9, 6]], 2)),
   ((6, 1), ([[0, 1, 2, 3, 4, 5]], 1)),
   ((6, 2), ([[10, 7, 5], [11, 1, 9], [12, 4, 6], [13, 8, 0], [14, 3, 2]], 1)),
   ((6, 3), ([[0, 19], [1, 18], [2, 17], [3, 16], [4, 15], [5, 14], [6, 13], [7, 12], [8, 11], [9, 10]], 1)),
   ((7, 1), ([[0, 1, 2, 3, 4, 5, 6]], 1)),
   ((7, 2), ([[0, 7, 9, 13, 20, 17, 1], [3, 5, 8, 19, 16, 11, 10], [6, 14, 12, 2, 4, 18, 15]], 2)),
   ((7, 3), ([[0, 12, 14, 19, 29, 26, 21], [4, 27, 28, 32, 15, 13, 1], [10, 17, 18, 9, 25, 23, 20], [2, 3, 22, 31, 34, 16, 7], [5, 6, 8, 24, 33, 30, 11]], 3)),
   ((8, 1), ([[0, 1, 2, 3, 4, 5, 6, 7]], 1)),
   ((8, 2), ([[21, 16, 12, 9], [22, 1, 18, 14], [23, 4, 6, 20], [24, 8, 11, 15], [25, 13, 17, 0], [26, 19, 3, 2], [27, 10, 7, 5]], 1)),
   ((8, 3), ([[1, 14, 19, 34, 54, 52, 36, 0], [4, 8, 3, 40, 47, 55, 30, 26], [23, 25, 28, 43, 42, 46, 10, 13], [20, 27, 6, 9, 15, 48, 45, 50], [7, 29, 33, 32, 12, 37, 35, 41], [5, 18, 17, 31, 51, 53, 38, 2], [21, 22, 24, 39, 44, 49, 16, 11]], 3)),
   ((8, 4), ([[0, 69], [1, 68], [2, 67], [3, 66], [4, 65], [5, 64], [6, 63], [7, 62], [8, 61], [9, 60], [10, 59], [11, 58], [12, 57], [13, 56], [14, 55], [15, 54], [16, 53], [17, 52], [18, 51], [19, 50], [20, 49], [21, 48], [22, 47], [23, 46], [24, 45], [25, 44], [26, 43], [27, 42], [28, 41], [29, 40], [30, 39], [31, 38], [32, 37], [33, 36], [34, 35]], 1))]
def chkOne (e : (Nat × Nat) × (List (List Nat) × Nat)) : Bool :=
  let S := setL e.1.1 (e.1.2 : Int)
  (e.2.1.flatten.isPerm (List.range S.length) && e.2.1.all fun t => (subs t).all fun u => !meetB S u || decide (u.length ≤ e.2.2)) && decide (e.2.1.length * e.2.2 ≤ chs (e.1.1 - 1) (e.1.2 - 1))
theorem chk_all : strs.all chkOne = true := by decide +kernel
theorem strs_has : ((List.range 9).all fun n => (List.range 9).all fun k => decide (k = 0) || decide (n < 2 * k) || strs.any fun e => decide (e.1 = (n, k))) = true := by decide +kernel
theorem sum_le (s : Nat) (f : List Nat → Nat) : ∀ T : List (List Nat), (∀ t ∈ T, f t ≤ s) → (T.map f).sum ≤ T.length * s
  | [], _ => by simp
  | t :: T, h => by
    have := sum_le s f T fun x hx => h x (List.mem_cons_of_mem _ hx)
    have h0 := h t (List.mem_cons_self ..)
    rw [List.map_cons, List.sum_cons, List.length_cons, Nat.succ_mul]
    omega
/-- No colour has more sets than told. -/
theorem ekr {n k : Nat} (hn : n ≤ 8) (hk : 1 ≤ k) (h2 : 2 * k ≤ n) (c : List Int) (hc : c.length = (setL n (k : Int)).length)
    (hd : ∀ i j : Nat, i < j → j < c.length → ((setL n (k : Int)).getD i 0).toNat &&& ((setL n (k : Int)).getD j 0).toNat = 0 → c.getD i 0 ≠ c.getD j 0) (x : Int) : c.countP (fun y => decide (x = y)) ≤ chs (n - 1) (k - 1) := by
  have h1 := List.all_eq_true.1 strs_has n (List.mem_range.2 (by omega))
  have h3 := List.all_eq_true.1 h1 k (List.mem_range.2 (by omega))
  rw [decide_eq_false (by omega), decide_eq_false (by omega), Bool.false_or, Bool.false_or] at h3
  obtain ⟨⟨nk, T, s⟩, he, hnk⟩ := List.any_eq_true.1 h3
  obtain rfl : nk = (n, k) := of_decide_eq_true hnk
  have h4 := List.all_eq_true.1 chk_all _ he
  unfold chkOne at h4
  simp only [Bool.and_eq_true, decide_eq_true_eq] at h4
  obtain ⟨⟨h5, h6⟩, h7⟩ := h4
  have hp := List.isPerm_iff.1 h5
  have e1 : c = (List.range c.length).map fun i => c.getD i 0 := by
    apply List.ext_getElem
    · simp
    · intro i hi _
      simp [List.getD_eq_getElem?_getD, List.getElem?_eq_getElem hi]
  have e2 : c.countP (fun y => decide (x = y)) = (List.range c.length).countP (fun i => decide (x = c.getD i 0)) := by
    conv => lhs; rw [e1]
    rw [List.countP_map]; rfl
  rw [e2, hc, ← hp.countP_eq, List.countP_flatten]
  refine Nat.le_trans (sum_le s _ T fun t ht => ?_) h7
  rw [List.countP_eq_length_filter]
  have h8 := List.all_eq_true.1 (List.all_eq_true.1 h6 t ht) _ (filter_subs (fun i => decide (x = c.getD i 0)) t)
  rw [meetB_of] at h8
  · simpa using h8
  · intro a ha b hb hab e
    have a1 := (List.mem_filter.1 ha)
    have b1 := (List.mem_filter.1 hb)
    have ea : x = c.getD a 0 := of_decide_eq_true a1.2
    have eb : x = c.getD b 0 := of_decide_eq_true b1.2
    have la : a < c.length := by
      have : a ∈ T.flatten := List.mem_flatten.2 ⟨t, ht, a1.1⟩
      have := List.mem_range.1 (hp.mem_iff.1 this)
      omega
    have lb : b < c.length := by
      have : b ∈ T.flatten := List.mem_flatten.2 ⟨t, ht, b1.1⟩
      have := List.mem_range.1 (hp.mem_iff.1 this)
      omega
    rcases Nat.lt_or_gt_of_ne hab with h | h
    · exact hd a b h lb e (ea.symm.trans eb)
    · exact hd b a h la (by rw [Nat.and_comm]; exact e) (eb.symm.trans ea)
end Go.Proofs.Ytemgnbpcchlpiaa.QFnMeetingSets
