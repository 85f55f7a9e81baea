/- Sets of so many items, as the program and the reference lay them out. -/
import Derived.Test.YtemgnbpcchlpiaaDoorQFnKneserColoursBase
namespace Go.Proofs.YtemgnbpcchlpiaaDoor.QFnKneserColours
open Go.RowKit Go.Proofs.YtemgnbpcchlpiaaDoorOwn Go.Proofs.YtemgnbpcchlpiaaDoor.PFnKneserColours Go.Proofs.YtemgnbpcchlpiaaDoorW.PrintWords Go.Proofs.YtemgnbpcchlpiaaDoorW.PrintLast Go.Proofs.YtemgnbpcchlpiaaDoorW.PrintMore
set_option linter.unusedVariables false
set_option linter.unusedSimpArgs false
set_option maxRecDepth 100000
theorem ev_mono {α : Type} {g : Nat → Option α} (hm : ∀ k, LeO (g k) (g (k + 1))) {K : Nat} {r : α} (h : g K = some r) : Ev g r := by
  refine ⟨K, fun k hk => ?_⟩
  obtain ⟨d, rfl⟩ := Nat.le.dest hk
  clear hk
  induction d with
  | zero => exact h
  | succ d ih => exact hm _ _ ih
/-- How many items a set has. -/
def pcN (x : Nat) : Int := ((x % 2 + x / 2 % 2 + x / 4 % 2 + x / 8 % 2 + x / 16 % 2 + x / 32 % 2 + x / 64 % 2 + x / 128 % 2 : Nat) : Int)
theorem oc_all : ((List.range 256).all fun x => decide (bits_OnesCount.f (IntKind.u64.wrap (x : Int)) = some (pcN x))) = true := by decide +kernel
theorem oc_eq {x : Nat} (h : x < 256) : bits_OnesCount.f (IntKind.u64.wrap (x : Int)) = some (pcN x) := of_decide_eq_true (List.all_eq_true.1 oc_all x (List.mem_range.2 h))
theorem sz_all : ((List.range 256).all fun x => decide (spec_knSize.f 12 (x : Int) = some (pcN x))) = true := by decide +kernel
theorem sz_ev {x : Nat} (h : x < 256) : Ev (fun k => spec_knSize.f k (x : Int)) (pcN x) := ev_mono (g := fun k => spec_knSize.f k (x : Int)) (K := 12) (fun k => spec_knSize.mono _ _) (of_decide_eq_true (List.all_eq_true.1 sz_all x (List.mem_range.2 h)))
theorem shl_eq {n : Nat} (h : n < 9) : shl .i64 1 (n : Int) = ((2 ^ n : Nat) : Int) := by
  have : ((List.range 9).all fun n => decide (shl .i64 1 (n : Int) = ((2 ^ n : Nat) : Int))) = true := by decide +kernel
  exact of_decide_eq_true (List.all_eq_true.1 this n (List.mem_range.2 h))
/-- Of d sets from i on: those of k items. -/
def sel (k : Int) : Nat → Nat → List Int
  | 0, _ => []
  | d + 1, i => if pcN i = k then (i : Int) :: sel k d (i + 1) else sel k d (i + 1)
theorem sel_len (k : Int) : ∀ d i, (sel k d i).length ≤ d
  | 0, _ => Nat.le_refl _
  | d + 1, i => by
    have := sel_len k d (i + 1)
    unfold sel
    split
    · rw [List.length_cons]; omega
    · omega
def setL (n : Nat) (k : Int) : List Int := sel k (2 ^ n) 0
theorem pow_le {n : Nat} (h : n < 9) : 2 ^ n ≤ 256 := by
  have : 2 ^ n ≤ 2 ^ 8 := Nat.pow_le_pow_right (by omega) (by omega)
  omega
theorem setL_len {n : Nat} (k : Int) (h : n < 9) : (setL n k).length ≤ 256 := Nat.le_trans (sel_len _ _ _) (pow_le h)
theorem impl_sets_loop (kk : Int) (N : Nat) (hN : N ≤ 256) : ∀ (d i : Nat) (acc : List Int), i + d = N → acc.length ≤ i → Ev (fun k => impl_setsOf.l0 k kk acc (N : Int) (i : Int)) (acc ++ sel kk d i)
  | 0, i, acc, h, ha => Ev.step (fun f => impl_setsOf.l0.eq_2 ..) (ev_neg (by omega) (ev_eq (Ev.now _) (by unfold sel; rw [List.append_nil])))
  | d + 1, i, acc, h, ha => by
    refine Ev.step (fun f => impl_setsOf.l0.eq_2 ..) (ev_pos (by omega) (ev_bind0 (oc_eq (by omega)) ?_))
    rw [wr (show -9223372036854775808 ≤ (i : Int) + 1 by omega) (by omega)]
    unfold sel
    by_cases hc : pcN i = kk
    · rw [if_pos hc]
      refine ev_pos hc (ev_pos (by omega) ?_)
      have := impl_sets_loop kk N hN d (i + 1) (acc ++ [(i : Int)]) (by omega) (by simp; omega)
      rw [List.append_assoc] at this
      exact this
    · rw [if_neg hc]
      exact ev_neg hc (impl_sets_loop kk N hN d (i + 1) acc (by omega) (by omega))
theorem spec_sets_loop (kk : Int) (n : Nat) (hn : n < 9) : ∀ (d i : Nat) (acc : List Int), i + d = 2 ^ n → acc.length ≤ i → Ev (fun k => spec_knSets.l0 k (n : Int) kk acc (i : Int)) (acc ++ sel kk d i)
  | 0, i, acc, h, ha => by
    refine Ev.step (fun f => spec_knSets.l0.eq_2 ..) (ev_pos (by omega) ?_)
    rw [shl_eq hn]
    exact ev_neg (by omega) (ev_eq (Ev.now _) (by unfold sel; rw [List.append_nil]))
  | d + 1, i, acc, h, ha => by
    have hp := pow_le hn
    refine Ev.step (fun f => spec_knSets.l0.eq_2 ..) (ev_pos (by omega) ?_)
    rw [shl_eq hn]
    refine ev_pos (by omega) (Ev.bind (sz_ev (by omega)) ?_)
    rw [wr (show -9223372036854775808 ≤ (i : Int) + 1 by omega) (by omega)]
    unfold sel
    by_cases hc : pcN i = kk
    · rw [if_pos hc]
      refine ev_pos hc (ev_pos (by omega) ?_)
      have := spec_sets_loop kk n hn d (i + 1) (acc ++ [(i : Int)]) (by omega) (by simp; omega)
      rw [List.append_assoc] at this
      exact this
    · rw [if_neg hc]
      exact ev_neg hc (spec_sets_loop kk n hn d (i + 1) acc (by omega) (by omega))
theorem setsOf_ev (n : Nat) (kk : Int) (hn : n < 9) : Ev (fun k => impl_setsOf.f k (n : Int) kk) (setL n kk) := by
  refine ev_pos (by omega) ?_
  rw [shl_eq hn]
  exact impl_sets_loop kk (2 ^ n) (pow_le hn) (2 ^ n) 0 [] (by omega) (by simp)
theorem knSets_ev (n : Nat) (kk : Int) (hn : n < 9) : Ev (fun k => spec_knSets.f k (n : Int) kk) (setL n kk) := spec_sets_loop kk n hn (2 ^ n) 0 [] (by omega) (by simp)
theorem in_spec (a b c : Int) : spec_l1In.f a b c = some (decide (b ≤ a ∧ a ≤ c)) := by
  unfold spec_l1In.f
  by_cases h : a ≥ b
  · rw [if_pos h]; simp [show b ≤ a from h]
  · rw [if_neg h]; simp [show ¬ b ≤ a from h]
theorem in_impl (a b c : Int) : impl_in.f a b c = some (decide (b ≤ a ∧ a ≤ c)) := by
  unfold impl_in.f
  by_cases h : b ≤ a
  · rw [if_pos h]; simp [h]
  · rw [if_neg h]; simp [h]
def items (n k : Int) : Bool := decide (1 ≤ n ∧ n ≤ 8) && decide (1 ≤ k ∧ k ≤ n)
theorem given_eq (n k : Int) : spec_knGiven.f n k = some (items n k) := by
  unfold spec_knGiven.f items
  rw [in_spec, Option.bind_some]
  by_cases h : 1 ≤ n ∧ n ≤ 8
  · rw [decide_eq_true h, if_pos rfl, in_spec]; rfl
  · rw [decide_eq_false h, if_neg (by decide)]; rfl
theorem items_eq (n k : Int) : impl_areItems.f n k = some (items n k) := by
  unfold impl_areItems.f items
  rw [in_impl, Option.bind_some]
  by_cases h : 1 ≤ n ∧ n ≤ 8
  · rw [decide_eq_true h, if_pos rfl, in_impl]; rfl
  · rw [decide_eq_false h, if_neg (by decide)]; rfl
end Go.Proofs.YtemgnbpcchlpiaaDoor.QFnKneserColours
