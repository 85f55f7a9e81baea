/- ReverseBeads of the program returns what the reference's returns, for all texts; there are no conditions. -/
import Derived.Test.YtkchmffegceplaaDoorQFnExactReverseBeadsBeads
namespace Go.Proofs.YtkchmffegceplaaDoor.Pure
open Go.RowKit Go.Proofs.YtkchmffegceplaaDoor.PFnExactReverseBeads Go.Proofs.YtkchmffegceplaaDoorW.PrintWords Go.Proofs.YtkchmffegceplaaDoorW.PrintLast Go.Proofs.YtkchmffegceplaaDoorW.PrintMore Go.Proofs.YtkchmffegceplaaDoor.QFnExactReverseBeads
set_option maxRecDepth 100000
theorem extract_one {s : ByteArray} {i : Nat} {b : UInt8} (h : s.data.toList[i]? = some b) : s.extract i (i + 1) = ⟨#[b]⟩ := by
  have hl := (List.getElem?_eq_some_iff.1 h).1
  have h2 := (List.getElem?_eq_some_iff.1 h).2
  apply ByteArray.ext
  rw [ByteArray.data_extract]
  apply Array.ext'
  rw [Array.toList_extract, List.extract_eq_take_drop]
  rw [List.drop_eq_getElem_cons hl, h2]
  simp
theorem append_list (a b : List UInt8) : (⟨a.toArray⟩ : ByteArray) ++ ⟨b.toArray⟩ = ⟨(a ++ b).toArray⟩ := by
  apply ByteArray.ext
  rw [ByteArray.data_append]
  simp
theorem rev_loop (s : ByteArray) (hs : s.size ≤ 16) : ∀ n : Nat, n ≤ s.size → Ev (fun k => spec_ReverseBeads.l0 k s ⟨((s.data.toList.drop n).reverse).toArray⟩ ((n : Int) - 1)) (⟨s.data.toList.reverse.toArray⟩, true)
  | 0, _ => Ev.step (fun f => spec_ReverseBeads.l0.eq_2 ..) (ev_neg (by omega) (Ev.now _))
  | n + 1, h => by
    obtain ⟨b, hb⟩ := get_lt (s := s) (i := n) (by omega)
    have hl := (List.getElem?_eq_some_iff.1 hb).1
    have e : (((n + 1 : Nat) : Int) - 1) = (n : Int) := by omega
    rw [e]
    have hex : s.extract ((n : Int) : Int).toNat ((wrap64 ((n : Int) + 1)) : Int).toNat = ⟨#[b]⟩ := by
      rw [wr (by omega) (by omega)]
      have e1 : ((n : Int)).toNat = n := by omega
      have e2 : ((n : Int) + 1).toNat = n + 1 := by omega
      rw [e1, e2]
      exact extract_one hb
    refine Ev.step (fun f => spec_ReverseBeads.l0.eq_2 ..) (ev_pos (by omega) (ev_pos (by omega) (ev_pos (by rw [wr (by omega) (by omega)]; omega) (ev_pos (by rw [wr (by omega) (by omega)]; omega) ?_))))
    rw [hex]
    have hz : (⟨((s.data.toList.drop (n + 1)).reverse).toArray⟩ : ByteArray).size ≤ 16 := by
      show ((s.data.toList.drop (n + 1)).reverse).toArray.size ≤ 16
      have := size_list s
      simp
      omega
    refine ev_pos (by show _ + 1 ≤ _; omega) ?_
    have ha : (⟨((s.data.toList.drop (n + 1)).reverse).toArray⟩ : ByteArray) ++ (⟨#[b]⟩ : ByteArray) = ⟨((s.data.toList.drop n).reverse).toArray⟩ := by
      rw [List.drop_eq_getElem_cons hl, (List.getElem?_eq_some_iff.1 hb).2, List.reverse_cons]
      exact append_list _ [b]
    rw [ha, wr (by omega) (by omega)]
    exact rev_loop s hs n (by omega)
theorem spec_rev (s : ByteArray) : Ev (fun k => spec_ReverseBeads.f k s) (if neckl s = true then (⟨s.data.toList.reverse.toArray⟩, true) else ((⟨#[]⟩ : ByteArray), false)) := by
  refine Ev.bind (nlGood_ev s) ?_
  cases h : neckl s with
  | false => exact ev_neg (by decide) (Ev.now _)
  | true =>
    have hs : s.size ≤ 16 := by
      unfold neckl at h
      exact of_decide_eq_true (Bool.and_eq_true_iff.1 h).1
    refine ev_pos rfl ?_
    have := rev_loop s hs s.size (Nat.le_refl _)
    rw [List.drop_eq_nil_of_le (by rw [size_list]; omega)] at this
    rw [wr (by omega) (by omega)]
    exact this
theorem impl_rev (s : ByteArray) : impl_ReverseBeads.f s = some (if neckl s = true then (⟨s.data.toList.reverse.toArray⟩, true) else ((⟨#[]⟩ : ByteArray), false)) := by
  unfold impl_ReverseBeads.f
  rw [isNecklace_ev, Option.bind_some]
  cases h : neckl s with
  | false => rfl
  | true =>
    have hs : s.size ≤ 16 := by
      unfold neckl at h
      exact of_decide_eq_true (Bool.and_eq_true_iff.1 h).1
    rw [if_pos rfl, if_pos rfl, if_pos (by omega)]
theorem FnExactReverseBeads : laws_FnExactReverseBeads.Pure := by
  intro a0 _
  apply Ev.rounds
  by_cases h : (a0.size : Int) > 1048576
  · exact ev_pos h (Ev.now _)
  · refine ev_neg h (Ev.bind (spec_rev a0) (ev_bind0 (impl_rev a0) ?_))
    generalize (if neckl a0 = true then ((⟨a0.data.toList.reverse.toArray⟩ : ByteArray), true) else ((⟨#[]⟩ : ByteArray), false)) = p
    obtain ⟨p1, p2⟩ := p
    exact ev_pos rfl (ev_neg (by simp) (Ev.now _))
end Go.Proofs.YtkchmffegceplaaDoor.Pure
