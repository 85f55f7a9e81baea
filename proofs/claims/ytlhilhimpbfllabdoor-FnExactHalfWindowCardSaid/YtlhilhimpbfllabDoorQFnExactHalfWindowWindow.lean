/- Necklaces: windows. -/
import Derived.Test.YtlhilhimpbfllabDoorQFnExactHalfWindowCountsI
namespace Go.Proofs.YtlhilhimpbfllabDoor.QFnExactHalfWindow
open Go.RowKit Go.Proofs.YtlhilhimpbfllabDoor.PFnExactHalfWindow Go.Proofs.YtlhilhimpbfllabDoorW.PrintWords Go.Proofs.YtlhilhimpbfllabDoorW.PrintLast Go.Proofs.YtlhilhimpbfllabDoorW.PrintMore
set_option linter.unusedVariables false
set_option linter.unusedSimpArgs false
set_option maxRecDepth 100000
/-- The beads of a window. -/
def winL (s : ByteArray) (a n : Nat) : List UInt8 := ((s.data.toList ++ s.data.toList).drop a).take n
theorem winL_get (s : ByteArray) (a i : Nat) (hs : 0 < s.size) (ha : a < s.size) (hi : i < s.size) : ∃ b, ((s.data.toList ++ s.data.toList).drop a)[i]? = some b ∧ s.data.toList[(a + i) % s.size]? = some b := by
  have hl := size_list s
  rw [List.getElem?_drop]
  rcases Nat.lt_or_ge (a + i) s.size with h | h
  · rw [Nat.mod_eq_of_lt h, List.getElem?_append_left (by omega)]
    exact ⟨_, List.getElem?_eq_getElem (by omega), List.getElem?_eq_getElem (by omega)⟩
  · have e : (a + i) % s.size = a + i - s.size := by rw [Nat.mod_eq_sub_mod h, Nat.mod_eq_of_lt (by omega)]
    rw [e, List.getElem?_append_right (by omega), hl]
    exact ⟨_, List.getElem?_eq_getElem (by omega), List.getElem?_eq_getElem (by omega)⟩
theorem nlWindow_loop (s : ByteArray) (hb : beads s = true) (hs0 : 0 < s.size) (hs : s.size ≤ 1000) (a n : Nat) (ha : a < s.size) (hn : n ≤ s.size) :
    ∀ d i : Nat, i + d = n → Ev (fun k => spec_nlWindow.l0 k s (a : Int) (n : Int) (cntL (((s.data.toList ++ s.data.toList).drop a).take i)) (i : Int)) (cntL (winL s a n))
  | 0, i, h => by
    refine Ev.step (fun f => spec_nlWindow.l0.eq_2 ..) (ev_neg (by omega) (ev_eq (Ev.now _) ?_))
    rw [show i = n by omega]; rfl
  | d + 1, i, h => by
    obtain ⟨b, hg1, hg2⟩ := winL_get s a i hs0 ha (by omega)
    have hk := kind_range (bead_at hb hg2)
    have hw : wrap64 ((a : Int) + (i : Int)) = ((a + i : Nat) : Int) := by rw [wr (by omega) (by omega)]; omega
    have ht : Int.tmod ((a + i : Nat) : Int) (s.size : Int) = (((a + i) % s.size : Nat) : Int) := by rw [Int.tmod_eq_emod_of_nonneg (by omega)]; omega
    have hlt : (a + i) % s.size < s.size := Nat.mod_lt _ hs0
    refine Ev.step (fun f => spec_nlWindow.l0.eq_2 ..) (ev_pos (by omega) (ev_neg (by omega) ?_))
    rw [hw, ht]
    refine ev_pos (by omega) (ev_pos (by omega) ?_)
    rw [bt_get hg2]
    refine ev_pos hk.1 (ev_pos (by rw [cntL_len]; exact hk.2) ?_)
    rw [cnt_step _ _ (bead_at hb hg2) (by rw [List.length_take, List.length_drop, List.length_append, size_list]; omega), take_snoc hg1, wr (show -9223372036854775808 ≤ (i : Int) + 1 by omega) (by omega)]
    exact nlWindow_loop s hb hs0 hs a n ha hn d (i + 1) (by omega)
theorem nlWindow_ev (s : ByteArray) (hb : beads s = true) (hs0 : 0 < s.size) (hs : s.size ≤ 1000) (a n : Nat) (ha : a < s.size) (hn : n ≤ s.size) : Ev (fun k => spec_nlWindow.f k s (a : Int) (n : Int)) (cntL (winL s a n)) :=
  ev_pos (by decide) (nlWindow_loop s hb hs0 hs a n ha hn n 0 (by omega))
theorem window_data (s : ByteArray) (a n : Nat) : ((s ++ s).extract a (a + n)).data.toList = winL s a n := by
  unfold winL
  rw [ByteArray.data_extract, Array.toList_extract, ByteArray.data_append, Array.toList_append, List.extract_eq_take_drop]
  congr 1
  omega
theorem window_ev (s : ByteArray) (hs : s.size ≤ 1000) (a n : Nat) (ha : a < s.size) (hn : n ≤ s.size) : ∃ t, impl_window.f s (a : Int) (n : Int) = some t ∧ t.data.toList = winL s a n := by
  have hsz : (s ++ s).size = s.size + s.size := ByteArray.size_append
  refine ⟨(s ++ s).extract a (a + n), ?_, window_data s a n⟩
  have hw : wrap64 ((a : Int) + (n : Int)) = ((a + n : Nat) : Int) := by rw [wr (by omega) (by omega)]; omega
  unfold impl_window.f
  rw [hw, if_pos]
  · rfl
  · simp only [Bool.and_eq_true, decide_eq_true_eq]
    refine ⟨⟨⟨by omega, by omega⟩, by omega⟩, ?_⟩
    rw [hsz]; omega
theorem winL_mem {s : ByteArray} {a n : Nat} {b : UInt8} (h : b ∈ winL s a n) : b ∈ s.data.toList := by
  have := List.mem_of_mem_drop (List.mem_of_mem_take h)
  simpa using this
theorem win_counts (s : ByteArray) (hb : beads s = true) (hs : s.size ≤ 100) (a n : Nat) (ha : a < s.size) (hn : n ≤ s.size) (t : ByteArray) (ht : t.data.toList = winL s a n) : Ev (fun k => impl_counts.f k t) (cntL (winL s a n)) := by
  have hl : t.size ≤ n := by
    rw [← size_list, ht]
    unfold winL
    rw [List.length_take]; omega
  rw [← ht]
  refine counts_ev t ?_ (by omega)
  unfold beads
  rw [ht]
  exact List.all_eq_true.2 fun b hm => List.all_eq_true.1 hb b (winL_mem hm)
end Go.Proofs.YtlhilhimpbfllabDoor.QFnExactHalfWindow
