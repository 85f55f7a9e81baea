/- Necklaces: which texts are necklaces; the program's test and the reference's. -/
import Derived.Test.YtmbkkhpjcblijaaDoorQFnExactFewestCutsBase
namespace Go.Proofs.YtmbkkhpjcblijaaDoor.QFnExactFewestCuts
open Go.RowKit Go.Proofs.YtmbkkhpjcblijaaDoor.PFnExactFewestCuts Go.Proofs.YtmbkkhpjcblijaaDoorW.PrintWords Go.Proofs.YtmbkkhpjcblijaaDoorW.PrintLast Go.Proofs.YtmbkkhpjcblijaaDoorW.PrintMore
set_option linter.unusedVariables false
set_option linter.unusedSimpArgs false
def isBead (b : UInt8) : Bool := decide (97 ≤ b.toNat ∧ b.toNat ≤ 100)
def beads (s : ByteArray) : Bool := s.data.toList.all isBead
/-- The texts that are necklaces. -/
def neckl (s : ByteArray) : Bool := decide (s.size ≤ 16) && beads s
theorem size_list (s : ByteArray) : s.data.toList.length = s.size := Array.length_toList
theorem bt_get {s : ByteArray} {i : Nat} {b : UInt8} (h : s.data.toList[i]? = some b) : bt s (i : Int) = (b.toNat : Int) := by
  have hl := (List.getElem?_eq_some_iff.1 h).1
  have hs : i < s.size := by rw [← size_list]; exact hl
  unfold bt
  have e : ((i : Int).toNat) = i := by omega
  rw [dif_pos (by rw [e]; exact hs)]
  have : s[((i : Int).toNat)]'(by rw [e]; exact hs) = b := by
    have h2 := (List.getElem?_eq_some_iff.1 h).2
    simp only [e]
    rw [← h2]
    rfl
  rw [this]
theorem get_lt {s : ByteArray} {i : Nat} (h : i < s.size) : ∃ b, s.data.toList[i]? = some b := ⟨_, List.getElem?_eq_getElem (by rw [size_list]; exact h)⟩
theorem all_drop {p : UInt8 → Bool} {l : List UInt8} {i : Nat} {b : UInt8} (h : l[i]? = some b) : (l.drop i).all p = (p b && (l.drop (i + 1)).all p) := by
  have hl := (List.getElem?_eq_some_iff.1 h).1
  rw [List.drop_eq_getElem_cons hl, List.all_cons, (List.getElem?_eq_some_iff.1 h).2]
theorem good_loop (s : ByteArray) (hs : s.size ≤ 16) : ∀ d i : Nat, i + d = s.size → Ev (fun k => spec_nlGood.l0 k s (i : Int)) ((s.data.toList.drop i).all isBead)
  | 0, i, h => by
    refine Ev.step (fun f => spec_nlGood.l0.eq_2 ..) (ev_neg (by omega) (ev_eq (Ev.now _) ?_))
    rw [List.drop_eq_nil_of_le (by rw [size_list]; omega)]
    rfl
  | d + 1, i, h => by
    obtain ⟨b, hb⟩ := get_lt (s := s) (i := i) (by omega)
    have hl := b.toNat_lt
    refine Ev.step (fun f => spec_nlGood.l0.eq_2 ..) (ev_pos (by omega) (ev_pos (by omega) ?_))
    rw [bt_get hb, all_drop hb]
    by_cases h1 : (b.toNat : Int) < 97
    · refine ev_pos h1 (ev_eq (Ev.now _) ?_)
      rw [show isBead b = false by unfold isBead; exact decide_eq_false (by omega)]; rfl
    · refine ev_neg h1 ?_
      by_cases h2 : ((b.toNat : Int) - 97) % 256 ≥ 4
      · refine ev_pos h2 (ev_eq (Ev.now _) ?_)
        rw [show isBead b = false by unfold isBead; exact decide_eq_false (by omega)]; rfl
      · refine ev_neg h2 ?_
        rw [show isBead b = true by unfold isBead; exact decide_eq_true (by omega), wr (by omega) (by omega), Bool.true_and]
        exact good_loop s hs d (i + 1) (by omega)
theorem nlGood_ev (s : ByteArray) : Ev (fun k => spec_nlGood.f k s) (neckl s) := by
  unfold spec_nlGood.f neckl
  by_cases h : s.size ≤ 16
  · refine ev_neg (by omega) ?_
    rw [decide_eq_true h, Bool.true_and]
    exact good_loop s h s.size 0 (by omega)
  · refine ev_pos (by omega) ?_
    rw [decide_eq_false h, Bool.false_and]
    exact Ev.now _
theorem mem_dropWhile {p : UInt8 → Bool} {x : UInt8} (hx : p x = false) : ∀ {l : List UInt8}, x ∈ l → x ∈ l.dropWhile p
  | [], h => h
  | y :: l, h => by
    rw [List.dropWhile_cons]
    split
    · rename_i hy
      refine mem_dropWhile hx ?_
      rcases List.mem_cons.1 h with rfl | h
      · rw [hx] at hy; cases hy
      · exact h
    · exact h
theorem dropWhile_all {p : UInt8 → Bool} : ∀ {l : List UInt8}, (∀ x ∈ l, p x = true) → l.dropWhile p = []
  | [], _ => rfl
  | y :: l, h => by rw [List.dropWhile_cons, if_pos (h y (by simp))]; exact dropWhile_all (fun x hx => h x (by simp [hx]))
theorem trimS_nil (l cs : List UInt8) : (Go.Lib.trimS l cs == []) = l.all (cs.contains ·) := by
  cases h : l.all (cs.contains ·) with
  | true =>
    have h' := List.all_eq_true.1 h
    have e : Go.Lib.trimRightS l cs = [] := by
      unfold Go.Lib.trimRightS
      rw [dropWhile_all (fun x hx => h' x (by simpa using hx))]; rfl
    unfold Go.Lib.trimS
    rw [e]; rfl
  | false =>
    obtain ⟨x, hx, hp⟩ := List.all_eq_false.1 h
    have hp : cs.contains x = false := by simpa using hp
    have hr : x ∈ Go.Lib.trimRightS l cs := by
      unfold Go.Lib.trimRightS
      exact List.mem_reverse.2 (mem_dropWhile hp (List.mem_reverse.2 hx))
    have ht : x ∈ Go.Lib.trimS l cs := mem_dropWhile hp hr
    cases e : Go.Lib.trimS l cs with
    | nil => rw [e] at ht; cases ht
    | cons a b => rfl
theorem abcd (b : UInt8) : ([97, 98, 99, 100] : List UInt8).contains b = isBead b := by
  unfold isBead
  have h : b.toNat < 256 := b.toNat_lt
  by_cases hb : 97 ≤ b.toNat ∧ b.toNat ≤ 100
  · rw [decide_eq_true hb]
    have : b = 97 ∨ b = 98 ∨ b = 99 ∨ b = 100 := by
      have : b.toNat = 97 ∨ b.toNat = 98 ∨ b.toNat = 99 ∨ b.toNat = 100 := by omega
      rcases this with e | e | e | e
      · exact .inl (UInt8.toNat_inj.1 e)
      · exact .inr (.inl (UInt8.toNat_inj.1 e))
      · exact .inr (.inr (.inl (UInt8.toNat_inj.1 e)))
      · exact .inr (.inr (.inr (UInt8.toNat_inj.1 e)))
    rcases this with rfl | rfl | rfl | rfl <;> rfl
  · rw [decide_eq_false hb]
    cases e : ([97, 98, 99, 100] : List UInt8).contains b with
    | false => rfl
    | true =>
      have := List.contains_iff_mem.1 e
      simp at this
      rcases this with rfl | rfl | rfl | rfl <;> exact absurd (by decide) hb
theorem isNecklace_ev (s : ByteArray) : impl_IsNecklace.f s = some (neckl s) := by
  unfold impl_IsNecklace.f neckl
  by_cases h : s.size ≤ 16
  · rw [if_pos (by omega), decide_eq_true h, Bool.true_and]
    unfold strings_Trim.f
    rw [if_pos (by rw [decide_eq_true (show s.size ≤ 9223372036854775807 by omega)]; decide +kernel), Option.bind_some]
    have e : (⟨(Go.Lib.trimS s.data.toList (⟨#[97, 98, 99, 100]⟩ : ByteArray).data.toList).toArray⟩ : ByteArray).toList = Go.Lib.trimS s.data.toList [97, 98, 99, 100] := by
      rw [ByteArray.toList_eq]
    rw [e, trimS_nil]
    unfold beads
    exact congrArg some (congrArg (fun p => s.data.toList.all p) (funext abcd))
  · rw [if_neg (by omega), decide_eq_false h, Bool.false_and]
end Go.Proofs.YtmbkkhpjcblijaaDoor.QFnExactFewestCuts
