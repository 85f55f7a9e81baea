/- SortedBeads of the program returns what the reference's returns, for all lists; there are no conditions. -/
import Derived.Test.YtamecophbbgefaaQFnExactSortedBeadsToInt
import Derived.Test.YtamecophbbgefaaQFnExactSortedBeadsEqS
namespace Go.Proofs.Ytamecophbbgefaa.Pure
open Go.RowKit Go.Proofs.Ytamecophbbgefaa.PFnExactSortedBeads Go.Proofs.YtamecophbbgefaaW.PrintWords Go.Proofs.YtamecophbbgefaaW.PrintLast Go.Proofs.YtamecophbbgefaaW.PrintMore Go.Proofs.Ytamecophbbgefaa.QFnExactSortedBeads
set_option linter.unusedVariables false
set_option maxRecDepth 100000
theorem in_spec (a b c : Int) : spec_l1In.f a b c = some (decide (b ≤ a ∧ a ≤ c)) := by
  unfold spec_l1In.f
  by_cases h : a ≥ b
  · rw [if_pos h]; simp [show b ≤ a from h]
  · rw [if_neg h]; simp [show ¬ b ≤ a from h]
theorem in_impl (a b c : Int) : impl_in.f a b c = some (decide (b ≤ a ∧ a ≤ c)) := by
  unfold impl_in.f
  by_cases h : b ≤ a
  · rw [if_pos h]; simp [h]
  · rw [if_neg h]; simp [h]
theorem rd_at {l : List Int} {i : Nat} (h : i < l.length) : rd l (i : Int) = l[i] := by rw [rd_nat, List.getD_eq_getElem?_getD, List.getElem?_eq_getElem h]; rfl
/-- All numbers are from 0 to 16. -/
def okB (l : List Int) : Bool := l.all (fun x => decide (0 ≤ x ∧ x ≤ 16))
theorem all_loop (l : List Int) (hl : l.length ≤ 1048576) : ∀ d i : Nat, i + d = l.length → Ev (fun k => spec_l1All.l0 k 0 16 l (l.length : Int) (i : Int)) (okB (l.drop i))
  | 0, i, h => Ev.step (fun f => spec_l1All.l0.eq_2 ..) (ev_neg (by omega) (ev_eq (Ev.now _) (by rw [List.drop_eq_nil_of_le (by omega)]; rfl)))
  | d + 1, i, h => by
    have hlt : i < l.length := by omega
    refine Ev.step (fun f => spec_l1All.l0.eq_2 ..) (ev_pos (by omega) (ev_pos (by omega) (ev_pos (by omega) (ev_bind0 (in_spec _ _ _) ?_))))
    unfold okB
    rw [List.drop_eq_getElem_cons hlt, List.all_cons, rd_at hlt, wr (show -9223372036854775808 ≤ (i : Int) + 1 by omega) (by omega)]
    by_cases hc : 0 ≤ l[i] ∧ l[i] ≤ 16
    · rw [decide_eq_true hc, Bool.true_and]
      exact ev_pos rfl (all_loop l hl d (i + 1) (by omega))
    · rw [decide_eq_false hc, Bool.false_and]
      exact ev_neg (by decide) (Ev.now _)
theorem bad_one (x : Int) : impl_SortedBeads_1.f x = some (!decide (0 ≤ x ∧ x ≤ 16)) := by
  unfold impl_SortedBeads_1.f
  rw [in_impl]; rfl
theorem bad_loop (l : List Int) (hl : l.length ≤ 1048576) : ∀ d i : Nat, i + d = l.length → ∃ r : Int, Ev (fun k => slices_IndexFunc_int_int__impl_SortedBeads_1.l0 k l (l.length : Int) (i : Int)) r ∧ decide (r ≥ 0) = !okB (l.drop i)
  | 0, i, h => ⟨-1, Ev.step (fun f => slices_IndexFunc_int_int__impl_SortedBeads_1.l0.eq_2 ..) (ev_neg (by omega) (Ev.now _)), by rw [List.drop_eq_nil_of_le (by omega)]; rfl⟩
  | d + 1, i, h => by
    have hlt : i < l.length := by omega
    by_cases hc : 0 ≤ l[i] ∧ l[i] ≤ 16
    · obtain ⟨r, h1, h2⟩ := bad_loop l hl d (i + 1) (by omega)
      refine ⟨r, Ev.step (fun f => slices_IndexFunc_int_int__impl_SortedBeads_1.l0.eq_2 ..) (ev_pos (by omega) (ev_pos (by omega) (ev_pos (by omega) (ev_bind0 (bad_one _) (ev_neg (by rw [rd_at hlt, decide_eq_true hc]; decide) ?_))))), ?_⟩
      · rw [wr (by omega) (by omega)]; exact h1
      · rw [h2]
        unfold okB
        rw [List.drop_eq_getElem_cons hlt, List.all_cons, decide_eq_true hc, Bool.true_and]
    · refine ⟨i, Ev.step (fun f => slices_IndexFunc_int_int__impl_SortedBeads_1.l0.eq_2 ..) (ev_pos (by omega) (ev_pos (by omega) (ev_pos (by omega) (ev_bind0 (bad_one _) (ev_pos (by rw [rd_at hlt, decide_eq_false hc]; rfl) (Ev.now _)))))), ?_⟩
      unfold okB
      rw [List.drop_eq_getElem_cons hlt, List.all_cons, decide_eq_false hc, Bool.false_and, decide_eq_true (by omega)]
      rfl
theorem bad_ev (l : List Int) (hl : l.length ≤ 1048576) : Ev (fun k => slices_ContainsFunc_int_int__impl_SortedBeads_1.f k l) (!okB l) := by
  obtain ⟨r, h1, h2⟩ := bad_loop l hl l.length 0 (by omega)
  rw [List.drop_zero] at h2
  exact Ev.bind h1 (ev_eq (Ev.now _) h2)
def bc (i : Nat) : UInt8 := UInt8.ofNat (97 + i)
theorem letter {i : Nat} (h : i < 4) : (⟨#[97, 98, 99, 100]⟩ : ByteArray).extract ((i : Int)).toNat ((i : Int) + 1).toNat = ⟨[bc i].toArray⟩ := by
  match i, h with
  | 0, _ => rfl
  | 1, _ => rfl
  | 2, _ => rfl
  | 3, _ => rfl
theorem append_list (a b : List UInt8) : (⟨a.toArray⟩ : ByteArray) ++ ⟨b.toArray⟩ = ⟨(a ++ b).toArray⟩ := by
  apply ByteArray.ext
  rw [ByteArray.data_append]
  simp
theorem size_mk (a : List UInt8) : (⟨a.toArray⟩ : ByteArray).size = a.length := by
  show a.toArray.size = a.length
  simp
/-- The beads of d kinds from the kind i on. -/
def sbL (l : List Int) : Nat → Nat → List UInt8
  | 0, _ => []
  | d + 1, i => List.replicate (rd l (i : Int)).toNat (bc i) ++ sbL l d (i + 1)
def sm (l : List Int) : Nat → Nat → Int
  | 0, _ => 0
  | d + 1, i => rd l (i : Int) + sm l d (i + 1)
theorem sbL_len (l : List Int) (h0 : ∀ i : Nat, i < 4 → 0 ≤ rd l (i : Int) ∧ rd l (i : Int) ≤ 16) : ∀ d i : Nat, i + d = 4 → ((sbL l d i).length : Int) = sm l d i ∧ 0 ≤ sm l d i ∧ sm l d i ≤ 16 * d
  | 0, i, h => ⟨rfl, by simp [sm], by simp [sm]⟩
  | d + 1, i, h => by
    have ih := sbL_len l h0 d (i + 1) (by omega)
    have hx := h0 i (by omega)
    unfold sbL sm
    rw [List.length_append, List.length_replicate]
    omega
def fin (bs : List UInt8) : ByteArray × Bool := if bs.length > 16 then ((⟨#[]⟩ : ByteArray), false) else (⟨bs.toArray⟩, true)
theorem l1_loop (l : List Int) (i : Nat) (hi : i < 4) (R : ByteArray × Bool) : ∀ (m : Nat) (acc : List UInt8), acc.length + m ≤ 1000 → Ev (fun k => spec_SortedBeads.l0 k ⟨(acc ++ List.replicate m (bc i)).toArray⟩ l (l.length : Int) (wrap64 ((i : Int) + 1))) R →
    Ev (fun k => spec_SortedBeads.l1 k ⟨acc.toArray⟩ (i : Int) (m : Int) l (l.length : Int) (i : Int)) R
  | 0, acc, h, cont => by
    rw [List.replicate_zero, List.append_nil] at cont
    exact Ev.step (fun f => spec_SortedBeads.l1.eq_2 ..) (ev_neg (by omega) cont)
  | m + 1, acc, h, cont => by
    refine Ev.step (fun f => spec_SortedBeads.l1.eq_2 ..) (ev_pos (by omega) (ev_pos (by omega) ?_))
    rw [wr (show -9223372036854775808 ≤ (i : Int) + 1 by omega) (by omega), letter hi, wr (show -9223372036854775808 ≤ ((m + 1 : Nat) : Int) - 1 by omega) (by omega), append_list, size_mk, size_mk, show ((m + 1 : Nat) : Int) - 1 = (m : Int) by omega]
    refine ev_pos (by omega) (ev_pos (by omega) (ev_pos (by simp; omega) ?_))
    refine l1_loop l i hi R m (acc ++ [bc i]) (by simp; omega) ?_
    rw [List.append_assoc]
    exact cont
theorem spec_loop (l : List Int) (h4 : l.length = 4) (h0 : ∀ i : Nat, i < 4 → 0 ≤ rd l (i : Int) ∧ rd l (i : Int) ≤ 16) : ∀ (d i : Nat) (acc : List UInt8), i + d = 4 → acc.length ≤ 16 * i →
    Ev (fun k => spec_SortedBeads.l0 k ⟨acc.toArray⟩ l (l.length : Int) (i : Int)) (fin (acc ++ sbL l d i))
  | 0, i, acc, h, ha => by
    refine Ev.step (fun f => spec_SortedBeads.l0.eq_2 ..) (ev_neg (by omega) ?_)
    unfold fin sbL
    rw [List.append_nil, size_mk]
    by_cases hc : acc.length > 16
    · rw [if_pos hc]; exact ev_pos (by omega) (Ev.now _)
    · rw [if_neg hc]; exact ev_neg (by omega) (Ev.now _)
  | d + 1, i, acc, h, ha => by
    have hx := h0 i (by omega)
    refine Ev.step (fun f => spec_SortedBeads.l0.eq_2 ..) (ev_pos (by omega) (ev_pos (by omega) (ev_pos (by omega) ?_)))
    have e : rd l (i : Int) = (((rd l (i : Int)).toNat : Nat) : Int) := by omega
    have ih := spec_loop l h4 h0 d (i + 1) (acc ++ List.replicate (rd l (i : Int)).toNat (bc i)) (by omega) (by rw [List.length_append, List.length_replicate]; omega)
    have := l1_loop l i (by omega) (fin (acc ++ sbL l (d + 1) i)) (rd l (i : Int)).toNat acc (by omega) (by
      rw [wr (by omega) (by omega)]
      unfold sbL
      rw [← List.append_assoc]
      exact ih)
    rw [← e] at this
    exact this
theorem rep_one (c : UInt8) : ∀ n : Nat, Go.Lib.repeatL [c] n = List.replicate n c := by
  intro n
  induction n with
  | zero => rfl
  | succ n ih => simp [Go.Lib.repeatL, List.replicate_succ] at ih ⊢; exact ih
theorem impl_loop (l : List Int) (h4 : l.length = 4) (h0 : ∀ i : Nat, i < 4 → 0 ≤ rd l (i : Int) ∧ rd l (i : Int) ≤ 16) : ∀ (d i : Nat) (acc : List UInt8), i + d = 4 → acc.length ≤ 16 * i →
    Ev (fun k => impl_SortedBeads.l0 k ⟨acc.toArray⟩ l (l.length : Int) (i : Int)) (⟨(acc ++ sbL l d i).toArray⟩, true)
  | 0, i, acc, h, ha => Ev.step (fun f => impl_SortedBeads.l0.eq_2 ..) (ev_neg (by omega) (ev_eq (Ev.now _) (by unfold sbL; rw [List.append_nil])))
  | d + 1, i, acc, h, ha => by
    have hx := h0 i (by omega)
    refine Ev.step (fun f => impl_SortedBeads.l0.eq_2 ..) (ev_pos (by omega) (ev_pos (by omega) (ev_pos (by omega) ?_)))
    rw [wr (show -9223372036854775808 ≤ (i : Int) + 1 by omega) (by omega), letter (by omega : i < 4)]
    refine ev_pos (by omega) (ev_pos (by omega) ?_)
    have hr : strings_Repeat.f ⟨[bc i].toArray⟩ (rd l (i : Int)) = some ⟨(List.replicate (rd l (i : Int)).toNat (bc i)).toArray⟩ := by
      unfold strings_Repeat.f
      rw [if_pos]
      · rw [← rep_one]
      · rw [size_mk]
        simp
        omega
    refine ev_bind0 hr ?_
    rw [append_list, size_mk, size_mk]
    refine ev_pos (by rw [List.length_replicate]; omega) ?_
    have := impl_loop l h4 h0 d (i + 1) (acc ++ List.replicate (rd l (i : Int)).toNat (bc i)) (by omega) (by rw [List.length_append, List.length_replicate]; omega)
    unfold sbL
    rw [← List.append_assoc]
    exact this
theorem sum_loop (l : List Int) (h4 : l.length = 4) (h0 : ∀ i : Nat, i < 4 → 0 ≤ rd l (i : Int) ∧ rd l (i : Int) ≤ 16) : ∀ (d i : Nat) (a : Int), i + d = 4 → 0 ≤ a → a ≤ 16 * i →
    Ev (fun k => impl_sum.l0 k a l (l.length : Int) (i : Int)) (a + sm l d i)
  | 0, i, a, h, ha, hb => Ev.step (fun f => impl_sum.l0.eq_2 ..) (ev_neg (by omega) (ev_eq (Ev.now _) (by simp [sm])))
  | d + 1, i, a, h, ha, hb => by
    have hx := h0 i (by omega)
    refine Ev.step (fun f => impl_sum.l0.eq_2 ..) (ev_pos (by omega) (ev_pos (by omega) (ev_pos (by omega) ?_)))
    rw [wr (show -9223372036854775808 ≤ (i : Int) + 1 by omega) (by omega), wr (show -9223372036854775808 ≤ a + rd l (i : Int) by omega) (by omega)]
    have := sum_loop l h4 h0 d (i + 1) (a + rd l (i : Int)) (by omega) (by omega) (by omega)
    unfold sm
    rw [← Int.add_assoc]
    exact this
def resS (l : List Int) : ByteArray × Bool := if l.length = 4 ∧ okB l = true then fin (sbL l 4 0) else ((⟨#[]⟩ : ByteArray), false)
theorem okB_rd {l : List Int} (h4 : l.length = 4) (h : okB l = true) : ∀ i : Nat, i < 4 → 0 ≤ rd l (i : Int) ∧ rd l (i : Int) ≤ 16 := fun i hi => by
  have hlt : i < l.length := by omega
  rw [rd_at hlt]
  exact of_decide_eq_true (List.all_eq_true.1 h _ (List.getElem_mem hlt))
theorem spec_ev (l : List Int) (hl : l.length ≤ 1048576) : Ev (fun k => spec_SortedBeads.f k l) (resS l) := by
  unfold resS
  have bad : Ev (fun k => spec_SortedBeads.j0 k l true) ((⟨#[]⟩ : ByteArray), false) := Ev.step (fun f => spec_SortedBeads.j0.eq_2 ..) (ev_pos rfl (Ev.now _))
  by_cases h4 : l.length = 4
  · have ha := all_loop l hl l.length 0 (by omega)
    rw [List.drop_zero] at ha
    refine ev_pos (by omega) (Ev.bind ha ?_)
    cases hk : okB l with
    | false => rw [if_neg (fun z => by cases z.2)]; exact bad
    | true =>
      rw [if_pos ⟨h4, rfl⟩]
      refine Ev.step (fun f => spec_SortedBeads.j0.eq_2 ..) (ev_neg (by decide) ?_)
      exact spec_loop l h4 (okB_rd h4 hk) 4 0 [] rfl (by simp)
  · rw [if_neg (fun z => h4 z.1)]
    exact ev_neg (by omega) bad
theorem impl_ev (l : List Int) (hl : l.length ≤ 1048576) : Ev (fun k => impl_SortedBeads.f k l) (resS l) := by
  unfold resS
  have bad : Ev (fun k => impl_SortedBeads.j0 k l true) ((⟨#[]⟩ : ByteArray), false) := Ev.step (fun f => impl_SortedBeads.j0.eq_2 ..) (ev_pos rfl (Ev.now _))
  by_cases h4 : l.length = 4
  · have ha := bad_ev l hl
    refine ev_pos (by omega) (Ev.bind ha ?_)
    cases hk : okB l with
    | false => rw [if_neg (fun z => by cases z.2)]; exact ev_pos rfl bad
    | true =>
      rw [if_pos ⟨h4, rfl⟩]
      have h0 := okB_rd h4 hk
      have hs := sum_loop l h4 h0 4 0 0 rfl (by omega) (by omega)
      have hn := sbL_len l h0 4 0 rfl
      refine ev_neg (by decide) (Ev.bind hs ?_)
      rw [Int.zero_add]
      unfold fin
      by_cases hc : sm l 4 0 > 16
      · rw [decide_eq_true hc, if_pos (by omega)]
        exact bad
      · rw [decide_eq_false hc, if_neg (by omega)]
        exact Ev.step (fun f => impl_SortedBeads.j0.eq_2 ..) (ev_neg (by decide) (impl_loop l h4 h0 4 0 [] rfl (by simp)))
  · rw [if_neg (fun z => h4 z.1)]
    exact ev_neg (by omega) bad
theorem FnExactSortedBeads : laws_FnExactSortedBeads.Pure := by
  intro l0 _ _ _
  apply Ev.rounds
  by_cases h : (l0.length : Int) > 1048576
  · exact ev_pos h (Ev.now _)
  have hl : l0.length ≤ 1048576 := by omega
  have hc := toIntS_ev l0 hl
  have he := eqIntS_self l0 (by omega)
  refine ev_neg h (Ev.bind hc (Ev.bind (spec_ev l0 hl) (Ev.bind hc (Ev.bind (impl_ev l0 hl) (ev_pos rfl ?_)))))
  rw [bne_self_eq_false]
  exact Ev.step (fun f => laws_FnExactSortedBeads.j0.eq_2 ..) (ev_neg (by decide) (Ev.bind hc (Ev.bind he (ev_pos rfl (Ev.now _)))))
end Go.Proofs.Ytamecophbbgefaa.Pure
