/- Necklaces: lists of cuts, signs and shares: what both programs' loops tell. -/
import Derived.Test.YtlhilhimpbfllaaDoorQFnExactIsFairSplitCounts
import Derived.Test.YtlhilhimpbfllaaDoorQFnExactIsFairSplitEqS
namespace Go.Proofs.YtlhilhimpbfllaaDoor.QFnExactIsFairSplit
open Go.RowKit Go.Proofs.YtlhilhimpbfllaaDoor.PFnExactIsFairSplit Go.Proofs.YtlhilhimpbfllaaDoorW.PrintWords Go.Proofs.YtlhilhimpbfllaaDoorW.PrintLast Go.Proofs.YtlhilhimpbfllaaDoorW.PrintMore
set_option linter.unusedVariables false
set_option linter.unusedSimpArgs false
set_option maxRecDepth 100000
theorem in_spec (a b c : Int) : spec_l1In.f a b c = some (decide (b ≤ a ∧ a ≤ c)) := by
  unfold spec_l1In.f
  by_cases h : a ≥ b
  · rw [if_pos h]; simp [show b ≤ a from h]
  · rw [if_neg h]; simp [show ¬ b ≤ a from h]
theorem in_impl (a b c : Int) : impl_in.f a b c = some (decide (b ≤ a ∧ a ≤ c)) := by
  unfold impl_in.f
  by_cases h : b ≤ a
  · rw [if_pos h]; simp [h]
  · rw [if_neg h]; simp [h]
/-- d numbers from the place i on are between 1 and m, each above the one ahead of it. -/
def rise (m : Int) (l : List Int) : Nat → Nat → Bool
  | 0, _ => true
  | d + 1, i => if 1 ≤ rd l (i : Int) ∧ rd l (i : Int) ≤ m then (if 0 < i ∧ rd l ((i : Int) - 1) ≥ rd l (i : Int) then false else rise m l d (i + 1)) else false
theorem rising_loop (m : Int) (l : List Int) (hl : l.length ≤ 1048576) : ∀ d i : Nat, i + d = l.length → Ev (fun k => spec_l1Rising.l0 k l 1 m l (l.length : Int) (i : Int)) (rise m l d i)
  | 0, i, h => Ev.step (fun f => spec_l1Rising.l0.eq_2 ..) (ev_neg (by omega) (Ev.now _))
  | d + 1, i, h => by
    refine Ev.step (fun f => spec_l1Rising.l0.eq_2 ..) (ev_pos (by omega) (ev_pos (by omega) (ev_pos (by omega) (ev_bind0 (in_spec _ _ _) ?_))))
    unfold rise
    have ih := rising_loop m l hl d (i + 1) (by omega)
    by_cases hc : 1 ≤ rd l (i : Int) ∧ rd l (i : Int) ≤ m
    · rw [decide_eq_true hc, if_pos hc]
      refine ev_pos rfl ?_
      by_cases hi : 0 < i
      · refine ev_pos (by omega) ?_
        rw [wr (show -9223372036854775808 ≤ (i : Int) - 1 by omega) (by omega), wr (show -9223372036854775808 ≤ (i : Int) + 1 by omega) (by omega)]
        refine ev_pos (by omega) (ev_pos (by omega) ?_)
        by_cases hr : rd l ((i : Int) - 1) ≥ rd l (i : Int)
        · rw [if_pos ⟨hi, hr⟩]; exact ev_pos hr (Ev.now _)
        · rw [if_neg (fun z => hr z.2)]; exact ev_neg hr ih
      · rw [if_neg (fun z => hi z.1)]
        refine ev_neg (by omega) ?_
        rw [wr (show -9223372036854775808 ≤ (i : Int) + 1 by omega) (by omega)]
        exact ih
    · rw [decide_eq_false hc, if_neg hc]
      exact ev_neg (by decide) (Ev.now _)
theorem areCuts_loop (s : ByteArray) (hs : s.size ≤ 16) (l : List Int) (hl : l.length ≤ 1048576) : ∀ d i : Nat, i + d = l.length → Ev (fun k => impl_areCuts.l0 k s l l (l.length : Int) (i : Int)) (rise ((s.size : Int) - 1) l d i)
  | 0, i, h => Ev.step (fun f => impl_areCuts.l0.eq_2 ..) (ev_neg (by omega) (Ev.now _))
  | d + 1, i, h => by
    refine Ev.step (fun f => impl_areCuts.l0.eq_2 ..) (ev_pos (by omega) (ev_pos (by omega) (ev_pos (by omega) (ev_bind0 (in_impl _ _ _) ?_))))
    rw [wr (show -9223372036854775808 ≤ (s.size : Int) - 1 by omega) (by omega)]
    unfold rise
    have ih := areCuts_loop s hs l hl d (i + 1) (by omega)
    by_cases hc : 1 ≤ rd l (i : Int) ∧ rd l (i : Int) ≤ (s.size : Int) - 1
    · rw [decide_eq_true hc, if_pos hc]
      refine ev_pos rfl ?_
      by_cases hi : 0 < i
      · refine ev_pos (by omega) ?_
        rw [wr (show -9223372036854775808 ≤ (i : Int) - 1 by omega) (by omega), wr (show -9223372036854775808 ≤ (i : Int) + 1 by omega) (by omega)]
        refine ev_pos (by omega) (ev_pos (by omega) ?_)
        by_cases hr : rd l ((i : Int) - 1) ≥ rd l (i : Int)
        · rw [if_pos ⟨hi, hr⟩]; exact ev_pos hr (Ev.now _)
        · rw [if_neg (fun z => hr z.2)]; exact ev_neg hr ih
      · rw [if_neg (fun z => hi z.1)]
        refine ev_neg (by omega) ?_
        rw [wr (show -9223372036854775808 ≤ (i : Int) + 1 by omega) (by omega)]
        exact ih
    · rw [decide_eq_false hc, if_neg hc]
      exact ev_neg (by decide) (Ev.now _)
/-- The lists that are cuts of a necklace. -/
def cutsOf (s : ByteArray) (l : List Int) : Bool := neckl s && rise ((s.size : Int) - 1) l l.length 0
theorem nlCuts_ev (s : ByteArray) (l : List Int) (hl : l.length ≤ 1048576) : Ev (fun k => spec_nlCuts.f k s l) (cutsOf s l) := by
  have e := nlGood_ev s
  unfold cutsOf
  cases hn : neckl s with
  | false => rw [hn] at e; exact Ev.bind e (ev_neg (by decide) (Ev.now _))
  | true =>
    rw [hn] at e
    have hs := neckl_size hn
    refine Ev.bind e (ev_pos rfl (Ev.bind (a := rise ((s.size : Int) - 1) l l.length 0) ?_ (Ev.now _)))
    have := rising_loop ((s.size : Int) - 1) l hl l.length 0 (by omega)
    rw [wr (by omega) (by omega)]
    exact this
theorem areCuts_ev (s : ByteArray) (l : List Int) (hl : l.length ≤ 1048576) : Ev (fun k => impl_areCuts.f k s l) (cutsOf s l) := by
  have e := isNecklace_ev s
  unfold cutsOf
  cases hn : neckl s with
  | false => rw [hn] at e; exact ev_bind0 e (ev_neg (by decide) (Ev.now _))
  | true =>
    rw [hn] at e
    exact ev_bind0 e (ev_pos rfl (areCuts_loop s (neckl_size hn) l hl l.length 0 (by omega)))
/-- Is x among d numbers from the place i on? -/
def among (l : List Int) (x : Int) : Nat → Nat → Bool
  | 0, _ => false
  | d + 1, i => if rd l (i : Int) = x then true else among l x d (i + 1)
theorem has_loop (l : List Int) (hl : l.length ≤ 1048576) (x : Int) : ∀ d i : Nat, i + d = l.length → Ev (fun k => spec_l1Has.l0 k x l (l.length : Int) (i : Int)) (among l x d i)
  | 0, i, h => Ev.step (fun f => spec_l1Has.l0.eq_2 ..) (ev_neg (by omega) (Ev.now _))
  | d + 1, i, h => by
    refine Ev.step (fun f => spec_l1Has.l0.eq_2 ..) (ev_pos (by omega) (ev_pos (by omega) (ev_pos (by omega) ?_)))
    unfold among
    by_cases hc : rd l (i : Int) = x
    · rw [if_pos hc]; exact ev_pos hc (Ev.now _)
    · rw [if_neg hc, wr (by omega) (by omega)]; exact ev_neg hc (has_loop l hl x d (i + 1) (by omega))
theorem index_loop (l : List Int) (hl : l.length ≤ 1048576) (x : Int) : ∀ d i : Nat, i + d = l.length → ∃ r : Int, Ev (fun k => slices_Index_int_int.l0 k l x (l.length : Int) (i : Int)) r ∧ decide (r ≥ 0) = among l x d i
  | 0, i, h => ⟨-1, Ev.step (fun f => slices_Index_int_int.l0.eq_2 ..) (ev_neg (by omega) (Ev.now _)), rfl⟩
  | d + 1, i, h => by
    by_cases hc : rd l (i : Int) = x
    · refine ⟨i, Ev.step (fun f => slices_Index_int_int.l0.eq_2 ..) (ev_pos (by omega) (ev_pos (by omega) (ev_pos (by omega) (ev_pos hc.symm (Ev.now _))))), ?_⟩
      unfold among
      rw [if_pos hc]
      exact decide_eq_true (by omega)
    · obtain ⟨r, h1, h2⟩ := index_loop l hl x d (i + 1) (by omega)
      refine ⟨r, Ev.step (fun f => slices_Index_int_int.l0.eq_2 ..) (ev_pos (by omega) (ev_pos (by omega) (ev_pos (by omega) (ev_neg (fun z => hc z.symm) ?_)))), ?_⟩
      · rw [wr (by omega) (by omega)]; exact h1
      · unfold among
        rw [if_neg hc, h2]
theorem has_ev (l : List Int) (hl : l.length ≤ 1048576) (x : Int) : Ev (fun k => spec_l1Has.f k l x) (among l x l.length 0) := has_loop l hl x l.length 0 (by omega)
theorem contains_ev (l : List Int) (hl : l.length ≤ 1048576) (x : Int) : Ev (fun k => slices_Contains_int_int.f k l x) (among l x l.length 0) := by
  obtain ⟨r, h1, h2⟩ := index_loop l hl x l.length 0 (by omega)
  refine Ev.bind h1 (ev_eq (Ev.now _) h2)
/-- The signs of the beads from the place i on. -/
def signsFn (l : List Int) : Nat → Nat → Int → List Int
  | 0, _, _ => []
  | d + 1, i, sg => if among l (i : Int) l.length 0 = true then -sg :: signsFn l d (i + 1) (-sg) else sg :: signsFn l d (i + 1) sg
theorem signsFn_len (l : List Int) : ∀ d i sg, (signsFn l d i sg).length = d
  | 0, _, _ => rfl
  | d + 1, i, sg => by unfold signsFn; split <;> simp [signsFn_len l d]
theorem signsFn_unit (l : List Int) : ∀ d i sg, (sg = 1 ∨ sg = -1) → ∀ x ∈ signsFn l d i sg, x = 1 ∨ x = -1
  | 0, _, _, _, x, hx => by cases hx
  | d + 1, i, sg, h, x, hx => by
    unfold signsFn at hx
    split at hx
    · rcases List.mem_cons.1 hx with rfl | hx
      · omega
      · exact signsFn_unit l d (i + 1) (-sg) (by omega) x hx
    · rcases List.mem_cons.1 hx with rfl | hx
      · exact h
      · exact signsFn_unit l d (i + 1) sg h x hx
theorem nlSigns_loop (s : ByteArray) (hs : s.size ≤ 16) (l : List Int) (hl : l.length ≤ 1048576) : ∀ (d i : Nat) (sg : Int) (out : List Int), (sg = 1 ∨ sg = -1) → i + d = s.size → out.length = i →
    Ev (fun k => spec_nlSigns.l0 k s l out sg (i : Int)) (out ++ signsFn l d i sg)
  | 0, i, sg, out, hsg, h, ho => Ev.step (fun f => spec_nlSigns.l0.eq_2 ..) (ev_neg (by omega) (ev_eq (Ev.now _) (List.append_nil _).symm))
  | d + 1, i, sg, out, hsg, h, ho => by
    refine Ev.step (fun f => spec_nlSigns.l0.eq_2 ..) (ev_pos (by omega) (Ev.bind (has_ev l hl _) ?_))
    unfold signsFn
    by_cases hc : among l (i : Int) l.length 0 = true
    · rw [if_pos hc, wr (show -9223372036854775808 ≤ -sg by omega) (by omega), wr (show -9223372036854775808 ≤ (i : Int) + 1 by omega) (by omega)]
      refine ev_pos hc (ev_pos (by omega) ?_)
      have := nlSigns_loop s hs l hl d (i + 1) (-sg) (out ++ [-sg]) (by omega) (by omega) (by simp [ho])
      rw [List.append_assoc] at this
      exact this
    · rw [if_neg hc, wr (show -9223372036854775808 ≤ (i : Int) + 1 by omega) (by omega)]
      refine ev_neg hc (ev_pos (by omega) ?_)
      have := nlSigns_loop s hs l hl d (i + 1) sg (out ++ [sg]) hsg (by omega) (by simp [ho])
      rw [List.append_assoc] at this
      exact this
theorem signs_loop (n : Nat) (hs : n ≤ 16) (l : List Int) (hl : l.length ≤ 1048576) : ∀ (d i : Nat) (sg : Int) (out : List Int), (sg = 1 ∨ sg = -1) → i + d = n → out.length = i →
    Ev (fun k => impl_signs.l0 k l out sg (n : Int) (i : Int)) (out ++ signsFn l d i sg)
  | 0, i, sg, out, hsg, h, ho => Ev.step (fun f => impl_signs.l0.eq_2 ..) (ev_neg (by omega) (ev_eq (Ev.now _) (List.append_nil _).symm))
  | d + 1, i, sg, out, hsg, h, ho => by
    refine Ev.step (fun f => impl_signs.l0.eq_2 ..) (ev_pos (by omega) (Ev.bind (contains_ev l hl _) ?_))
    unfold signsFn
    by_cases hc : among l (i : Int) l.length 0 = true
    · rw [if_pos hc, wr (show -9223372036854775808 ≤ -sg by omega) (by omega), wr (show -9223372036854775808 ≤ (i : Int) + 1 by omega) (by omega)]
      refine ev_pos hc (ev_pos (by omega) ?_)
      have := signs_loop n hs l hl d (i + 1) (-sg) (out ++ [-sg]) (by omega) (by omega) (by simp [ho])
      rw [List.append_assoc] at this
      exact this
    · rw [if_neg hc, wr (show -9223372036854775808 ≤ (i : Int) + 1 by omega) (by omega)]
      refine ev_neg hc (ev_pos (by omega) ?_)
      have := signs_loop n hs l hl d (i + 1) sg (out ++ [sg]) hsg (by omega) (by simp [ho])
      rw [List.append_assoc] at this
      exact this
theorem nlSigns_ev (s : ByteArray) (hs : s.size ≤ 16) (l : List Int) (hl : l.length ≤ 1048576) : Ev (fun k => spec_nlSigns.f k s l) (signsFn l s.size 0 1) :=
  nlSigns_loop s hs l hl s.size 0 1 [] (.inl rfl) (by omega) rfl
theorem signs_ev (s : ByteArray) (hs : s.size ≤ 16) (l : List Int) (hl : l.length ≤ 1048576) : Ev (fun k => impl_signs.f k s l) (signsFn l s.size 0 1) :=
  signs_loop s.size hs l hl s.size 0 1 [] (.inl rfl) (by omega) rfl
/-- toIntS copies. -/
theorem toIntS_loop (l : List Int) (hl : l.length ≤ 1048576) : ∀ d i : Nat, i + d = l.length → Ev (fun k => laws_toIntS.l0 k l (l.take i ++ List.replicate d 0) (i : Int)) l
  | 0, i, h => by
    refine Ev.step (fun f => laws_toIntS.l0.eq_2 ..) (ev_neg (by omega) (ev_eq (Ev.now _) ?_))
    rw [List.take_of_length_le (by omega)]; simp
  | d + 1, i, h => by
    have hlt : i < l.length := by omega
    have hz : (l.take i ++ List.replicate (d + 1) 0).length = l.length := by simp; omega
    refine Ev.step (fun f => laws_toIntS.l0.eq_2 ..) (ev_pos (by omega) (ev_pos (by omega) (ev_pos (by rw [hz]; omega) ?_)))
    have e1 : ((i : Int)).toNat = i := by omega
    rw [e1, wr (by omega) (by omega), rd_nat]
    have e2 : (l.take i ++ List.replicate (d + 1) 0).set i (l.getD i 0) = l.take (i + 1) ++ List.replicate d 0 := by
      have e3 : l.getD i 0 = l[i] := by rw [List.getD_eq_getElem?_getD, List.getElem?_eq_getElem hlt]; rfl
      rw [e3, List.set_append, if_neg (by simp; omega), List.length_take, Nat.min_eq_left (by omega), Nat.sub_self, List.replicate_succ, List.set_cons_zero, List.take_succ_eq_append_getElem hlt, List.append_assoc]
      rfl
    rw [e2]
    exact toIntS_loop l hl d (i + 1) (by omega)
theorem toIntS_ev (l : List Int) (hl : l.length ≤ 1048576) : Ev (fun k => laws_toIntS.f k l) l := by
  refine ev_pos (by omega) (ev_pos (by omega) ?_)
  have := toIntS_loop l hl l.length 0 (by omega)
  have e1 : ((l.length : Int)).toNat = l.length := by omega
  rw [e1]
  simpa using this
end Go.Proofs.YtlhilhimpbfllaaDoor.QFnExactIsFairSplit
