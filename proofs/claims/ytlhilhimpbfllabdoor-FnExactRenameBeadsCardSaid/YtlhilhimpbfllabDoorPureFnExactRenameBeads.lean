/- RenameBeads of the program returns what the reference's returns, for all texts and lists; there are no conditions. -/
import Derived.Test.YtlhilhimpbfllabDoorQFnExactRenameBeadsCounts
import Derived.Test.YtlhilhimpbfllabDoorQFnExactRenameBeadsToInt
import Derived.Test.YtlhilhimpbfllabDoorQFnExactRenameBeadsEqS
namespace Go.Proofs.YtlhilhimpbfllabDoor.Pure
open Go.RowKit Go.Proofs.YtlhilhimpbfllabDoor.PFnExactRenameBeads Go.Proofs.YtlhilhimpbfllabDoorW.PrintWords Go.Proofs.YtlhilhimpbfllabDoorW.PrintLast Go.Proofs.YtlhilhimpbfllabDoorW.PrintMore Go.Proofs.YtlhilhimpbfllabDoor.QFnExactRenameBeads
set_option linter.unusedVariables false
set_option maxRecDepth 100000
theorem in_spec (a b c : Int) : spec_l1In.f a b c = some (decide (b ≤ a ∧ a ≤ c)) := by
  unfold spec_l1In.f
  by_cases h : a ≥ b
  · rw [if_pos h]; simp [show b ≤ a from h]
  · rw [if_neg h]; simp [show ¬ b ≤ a from h]
/-! ### sorted rows -/
theorem sorted_eq : ∀ l m : List Int, l.Pairwise (fun a b => a ≤ b) → m.Pairwise (fun a b => a ≤ b) → l.Perm m → l = m
  | [], m, _, _, h => h.nil_eq
  | a :: l, [], _, _, h => by have := h.length_eq; simp at this
  | a :: l, b :: m, h1, h2, h => by
    have ha : a ∈ b :: m := h.mem_iff.1 (List.mem_cons_self)
    have hb : b ∈ a :: l := h.mem_iff.2 (List.mem_cons_self)
    have e1 : b ≤ a := by
      rcases List.mem_cons.1 ha with e | e
      · omega
      · exact (List.pairwise_cons.1 h2).1 a e
    have e2 : a ≤ b := by
      rcases List.mem_cons.1 hb with e | e
      · omega
      · exact (List.pairwise_cons.1 h1).1 b e
    have e : a = b := by omega
    subst e
    rw [sorted_eq l m (List.pairwise_cons.1 h1).2 (List.pairwise_cons.1 h2).2 ((List.perm_cons a).1 h)]
def srt (l : List Int) : List Int := l.mergeSort fun x y => decide (x ≤ y)
theorem srt_perm (l : List Int) : (srt l).Perm l := List.mergeSort_perm _ _
theorem srt_sorted (l : List Int) : (srt l).Pairwise (fun a b => a ≤ b) := by
  have := List.pairwise_mergeSort (le := fun x y : Int => decide (x ≤ y)) (by intro a b c; simp; omega) (by intro a b; simp; omega) l
  exact this.imp (fun h => by simpa using h)
/-- The four kinds, each once. -/
def permB (l : List Int) : Bool := decide (l.length = 4) && (l.all (fun x => decide (0 ≤ x ∧ x ≤ 3)) && decide l.Nodup)
theorem four : ∀ a b c d : Fin 4, [a, b, c, d].Nodup → ([a, b, c, d].map fun x : Fin 4 => ((x.val : Nat) : Int)).Perm [0, 1, 2, 3] := by decide +kernel
theorem fin_of {x : Int} (h : 0 ≤ x ∧ x ≤ 3) : ∃ a : Fin 4, ((a.val : Nat) : Int) = x := ⟨⟨x.toNat, by omega⟩, by simp; omega⟩
theorem permB_srt (l : List Int) : permB l = decide (srt l = [0, 1, 2, 3]) := by
  by_cases h : srt l = [0, 1, 2, 3]
  · rw [decide_eq_true h]
    have hp : l.Perm [0, 1, 2, 3] := h ▸ (srt_perm l).symm
    unfold permB
    rw [decide_eq_true (show l.length = 4 from hp.length_eq), decide_eq_true (show l.Nodup from hp.nodup_iff.2 (by decide)), Bool.true_and, Bool.and_true]
    refine List.all_eq_true.2 fun x hx => ?_
    have := hp.mem_iff.1 hx
    simp at this
    exact decide_eq_true (by omega)
  · rw [decide_eq_false h]
    cases hb : permB l with
    | false => rfl
    | true =>
      exfalso
      unfold permB at hb
      simp only [Bool.and_eq_true, decide_eq_true_eq] at hb
      obtain ⟨h1, h2, h3⟩ := hb
      apply h
      refine sorted_eq _ _ (srt_sorted l) (by decide) ((srt_perm l).trans ?_)
      match l, h1, h2, h3 with
      | [x, y, z, u], _, h2, h3 =>
        have hx := fun v (hv : v ∈ [x, y, z, u]) => of_decide_eq_true (List.all_eq_true.1 h2 v hv)
        obtain ⟨a, rfl⟩ := fin_of (hx x (by simp))
        obtain ⟨b, rfl⟩ := fin_of (hx y (by simp))
        obtain ⟨c, rfl⟩ := fin_of (hx z (by simp))
        obtain ⟨d, rfl⟩ := fin_of (hx u (by simp))
        refine four a b c d ?_
        have : ([a, b, c, d].map fun x : Fin 4 => ((x.val : Nat) : Int)).Nodup := h3
        exact (List.pairwise_map.1 this).imp (fun hne e => hne (by rw [e]))
theorem all_loop (l : List Int) (hl : l.length ≤ 1048576) : ∀ d i : Nat, i + d = l.length → Ev (fun k => spec_l1All.l0 k 0 3 l (l.length : Int) (i : Int)) ((l.drop i).all (fun x => decide (0 ≤ x ∧ x ≤ 3)))
  | 0, i, h => Ev.step (fun f => spec_l1All.l0.eq_2 ..) (ev_neg (by omega) (ev_eq (Ev.now _) (by rw [List.drop_eq_nil_of_le (by omega)]; rfl)))
  | d + 1, i, h => by
    have hlt : i < l.length := by omega
    have hr : rd l (i : Int) = l[i] := by rw [rd_nat, List.getD_eq_getElem?_getD, List.getElem?_eq_getElem hlt]; rfl
    refine Ev.step (fun f => spec_l1All.l0.eq_2 ..) (ev_pos (by omega) (ev_pos (by omega) (ev_pos (by omega) (ev_bind0 (in_spec _ _ _) ?_))))
    rw [List.drop_eq_getElem_cons hlt, List.all_cons, hr, wr (show -9223372036854775808 ≤ (i : Int) + 1 by omega) (by omega)]
    by_cases hc : 0 ≤ l[i] ∧ l[i] ≤ 3
    · rw [decide_eq_true hc, Bool.true_and]
      exact ev_pos rfl (all_loop l hl d (i + 1) (by omega))
    · rw [decide_eq_false hc, Bool.false_and]
      exact ev_neg (by decide) (Ev.now _)
theorem has_loop (l : List Int) (x : Int) (hl : l.length ≤ 1048576) : ∀ d i : Nat, i + d = l.length → Ev (fun k => spec_l1Has.l0 k x l (l.length : Int) (i : Int)) ((l.drop i).any (fun y => decide (y = x)))
  | 0, i, h => Ev.step (fun f => spec_l1Has.l0.eq_2 ..) (ev_neg (by omega) (ev_eq (Ev.now _) (by rw [List.drop_eq_nil_of_le (by omega)]; rfl)))
  | d + 1, i, h => by
    have hlt : i < l.length := by omega
    have hr : rd l (i : Int) = l[i] := by rw [rd_nat, List.getD_eq_getElem?_getD, List.getElem?_eq_getElem hlt]; rfl
    refine Ev.step (fun f => spec_l1Has.l0.eq_2 ..) (ev_pos (by omega) (ev_pos (by omega) (ev_pos (by omega) ?_)))
    rw [List.drop_eq_getElem_cons hlt, List.any_cons, hr, wr (show -9223372036854775808 ≤ (i : Int) + 1 by omega) (by omega)]
    by_cases hc : l[i] = x
    · rw [decide_eq_true hc, Bool.true_or]
      exact ev_pos hc (Ev.now _)
    · rw [decide_eq_false hc, Bool.false_or]
      exact ev_neg hc (has_loop l x hl d (i + 1) (by omega))
theorem extract_one {s : ByteArray} {i : Nat} {b : UInt8} (h : s.data.toList[i]? = some b) : s.extract i (i + 1) = ⟨#[b]⟩ := by
  have hl := (List.getElem?_eq_some_iff.1 h).1
  have h2 := (List.getElem?_eq_some_iff.1 h).2
  apply ByteArray.ext
  rw [ByteArray.data_extract]
  apply Array.ext'
  rw [Array.toList_extract, List.extract_eq_take_drop]
  rw [List.drop_eq_getElem_cons hl, h2]
  simp
theorem append_list (a b : List UInt8) : (⟨a.toArray⟩ : ByteArray) ++ ⟨b.toArray⟩ = ⟨(a ++ b).toArray⟩ := by
  apply ByteArray.ext
  rw [ByteArray.data_append]
  simp
theorem letter {x : Int} (h : 0 ≤ x ∧ x ≤ 3) : (⟨#[97, 98, 99, 100]⟩ : ByteArray).extract x.toNat (x + 1).toNat = ⟨#[UInt8.ofNat (97 + x.toNat)]⟩ := by
  obtain ⟨a, rfl⟩ := fin_of h
  have e : (((a.val : Nat) : Int) + 1).toNat = a.val + 1 := by omega
  rw [e, Int.toNat_natCast]
  exact extract_one (by revert a; decide)
theorem ren_loop (s : ByteArray) (l : List Int) (hb : beads s = true) (hs : s.size ≤ 16) (h4 : l.length = 4) (hl : ∀ i : Nat, i < 4 → 0 ≤ rd l (i : Int) ∧ rd l (i : Int) ≤ 3) :
    ∀ d i : Nat, i + d = s.size → Ev (fun k => spec_RenameBeads.l1 k s l ⟨((s.data.toList.take i).map (renB l)).toArray⟩ (i : Int)) (⟨(s.data.toList.map (renB l)).toArray⟩, true)
  | 0, i, h => Ev.step (fun f => spec_RenameBeads.l1.eq_2 ..) (ev_neg (by omega) (ev_eq (Ev.now _) (by rw [List.take_of_length_le (by rw [size_list]; omega)])))
  | d + 1, i, h => by
    obtain ⟨b, hg⟩ := get_lt (s := s) (i := i) (by omega)
    have hbd : 97 ≤ b.toNat ∧ b.toNat ≤ 100 := of_decide_eq_true (bead_at hb hg)
    have e : ((b.toNat : Int) - 97) % 256 = (b.toNat : Int) - 97 := by omega
    have hx := hl (b.toNat - 97) (by omega)
    have e1 : ((b.toNat - 97 : Nat) : Int) = (b.toNat : Int) - 97 := by omega
    rw [e1] at hx
    have hz : (⟨((s.data.toList.take i).map (renB l)).toArray⟩ : ByteArray).size ≤ 16 := by
      show ((s.data.toList.take i).map (renB l)).toArray.size ≤ 16
      have := size_list s
      simp
      omega
    refine Ev.step (fun f => spec_RenameBeads.l1.eq_2 ..) (ev_pos (by omega) (ev_pos (by omega) ?_))
    rw [bt_get hg, e, wr (show -9223372036854775808 ≤ rd l ((b.toNat : Int) - 97) + 1 by omega) (by omega), letter hx, wr (show -9223372036854775808 ≤ (i : Int) + 1 by omega) (by omega)]
    refine ev_pos (by omega) (ev_pos (by omega) (ev_pos hx.1 (ev_pos (by omega) (ev_pos (by omega) (ev_pos (by show _ + 1 ≤ _; omega) ?_)))))
    have ha : (⟨((s.data.toList.take i).map (renB l)).toArray⟩ : ByteArray) ++ (⟨#[UInt8.ofNat (97 + (rd l ((b.toNat : Int) - 97)).toNat)]⟩ : ByteArray) = ⟨((s.data.toList.take (i + 1)).map (renB l)).toArray⟩ := by
      rw [List.take_add_one, hg, List.map_append]
      exact append_list _ [renB l b]
    rw [ha]
    exact ren_loop s l hb hs h4 hl d (i + 1) (by omega)
/-- Is none of d names from the place i on one of those ahead of it? -/
def newAt (l : List Int) : Nat → Nat → Bool
  | 0, _ => true
  | d + 1, i => if ((l.take i).any fun y => decide (y = rd l (i : Int))) = true then false else newAt l d (i + 1)
theorem names_loop (s : ByteArray) (l : List Int) (R : ByteArray × Bool) (hl : l.length ≤ 1048576) (cont : Ev (fun k => spec_RenameBeads.l1 k s l (⟨#[]⟩ : ByteArray) 0) R) :
    ∀ d i : Nat, i + d = l.length → Ev (fun k => spec_RenameBeads.l0 k s l l (l.length : Int) (i : Int)) (if newAt l d i = true then R else ((⟨#[]⟩ : ByteArray), false))
  | 0, i, h => Ev.step (fun f => spec_RenameBeads.l0.eq_2 ..) (ev_neg (by omega) (by unfold newAt; rw [if_pos rfl]; exact cont))
  | d + 1, i, h => by
    have hh := has_loop (l.take i) (rd l (i : Int)) (by rw [List.length_take]; omega) (l.take i).length 0 (by omega)
    rw [List.drop_zero] at hh
    refine Ev.step (fun f => spec_RenameBeads.l0.eq_2 ..) (ev_pos (by omega) (ev_pos (by omega) (ev_pos (by omega) (ev_pos (by omega) ?_))))
    rw [show ((i : Int)).toNat = i by omega]
    refine Ev.bind hh ?_
    unfold newAt
    by_cases hc : ((l.take i).any fun y => decide (y = rd l (i : Int))) = true
    · rw [if_pos hc]
      exact ev_pos hc (by rw [if_neg (by decide)]; exact Ev.now _)
    · rw [if_neg hc, wr (show -9223372036854775808 ≤ (i : Int) + 1 by omega) (by omega)]
      exact ev_neg hc (names_loop s l R hl cont d (i + 1) (by omega))
theorem newAt_nodup (a b c d : Int) : newAt [a, b, c, d] 4 0 = decide [a, b, c, d].Nodup := by
  have r0 : rd [a, b, c, d] ((0 : Nat) : Int) = a := rfl
  have r1 : rd [a, b, c, d] ((0 + 1 : Nat) : Int) = b := rfl
  have r2 : rd [a, b, c, d] ((0 + 1 + 1 : Nat) : Int) = c := rfl
  have r3 : rd [a, b, c, d] ((0 + 1 + 1 + 1 : Nat) : Int) = d := rfl
  unfold newAt newAt newAt newAt newAt
  rw [r0, r1, r2, r3]
  simp only [List.take_zero, List.take_succ_cons, List.any_nil, List.any_cons, Bool.or_false, List.nodup_cons, List.mem_cons, List.not_mem_nil, List.nodup_nil, Bool.or_eq_true, decide_eq_true_eq]
  by_cases h1 : a = b <;> by_cases h2 : a = c <;> by_cases h3 : a = d <;> by_cases h4 : b = c <;> by_cases h5 : b = d <;> by_cases h6 : c = d <;> simp_all
def resR (s : ByteArray) (l : List Int) : ByteArray × Bool := if neckl s = true ∧ permB l = true then (⟨(s.data.toList.map (renB l)).toArray⟩, true) else ((⟨#[]⟩ : ByteArray), false)
theorem permB_rd {l : List Int} (h : permB l = true) : l.length = 4 ∧ ∀ i : Nat, i < 4 → 0 ≤ rd l (i : Int) ∧ rd l (i : Int) ≤ 3 := by
  unfold permB at h
  simp only [Bool.and_eq_true, decide_eq_true_eq] at h
  obtain ⟨h1, h2, h3⟩ := h
  refine ⟨h1, fun i hi => ?_⟩
  have hlt : i < l.length := by omega
  have hr : rd l (i : Int) = l[i] := by rw [rd_nat, List.getD_eq_getElem?_getD, List.getElem?_eq_getElem hlt]; rfl
  rw [hr]
  exact of_decide_eq_true (List.all_eq_true.1 h2 _ (List.getElem_mem hlt))
theorem spec_ren (s : ByteArray) (l : List Int) (hl : l.length ≤ 1048576) : Ev (fun k => spec_RenameBeads.f k s l) (resR s l) := by
  have e := nlGood_ev s
  have bad : Ev (fun k => spec_RenameBeads.j0 k s l true) ((⟨#[]⟩ : ByteArray), false) := Ev.step (fun f => spec_RenameBeads.j0.eq_2 ..) (ev_pos rfl (Ev.now _))
  unfold resR
  cases hn : neckl s with
  | false =>
    rw [hn] at e
    rw [if_neg (fun z => by cases z.1)]
    exact Ev.bind e (ev_neg (by decide) bad)
  | true =>
    rw [hn] at e
    refine Ev.bind e (ev_pos rfl ?_)
    by_cases h4 : l.length = 4
    · have ha := all_loop l hl l.length 0 (by omega)
      rw [List.drop_zero] at ha
      refine ev_pos (by omega) (Ev.bind ha ?_)
      cases hA : l.all (fun x => decide (0 ≤ x ∧ x ≤ 3)) with
      | false =>
        rw [if_neg (fun z => by have := z.2; unfold permB at this; rw [hA] at this; simp at this)]
        exact bad
      | true =>
        refine Ev.step (fun f => spec_RenameBeads.j0.eq_2 ..) (ev_neg (by decide) ?_)
        have hpn : permB l = newAt l 4 0 := by
          unfold permB
          rw [hA, decide_eq_true h4, Bool.true_and, Bool.true_and]
          match l, h4 with
          | [a, b, c, d], _ => exact (newAt_nodup a b c d).symm
        have hr : ∀ i : Nat, i < 4 → 0 ≤ rd l (i : Int) ∧ rd l (i : Int) ≤ 3 := fun i hi => by
          have hlt : i < l.length := by omega
          have hr : rd l (i : Int) = l[i] := by rw [rd_nat, List.getD_eq_getElem?_getD, List.getElem?_eq_getElem hlt]; rfl
          rw [hr]
          exact of_decide_eq_true (List.all_eq_true.1 hA _ (List.getElem_mem hlt))
        have := names_loop s l _ hl (ren_loop s l (neckl_beads hn) (neckl_size hn) h4 hr s.size 0 (by omega)) 4 0 (by omega)
        rw [← hpn] at this
        by_cases hp : permB l = true
        · rw [if_pos hp] at this
          rw [if_pos ⟨rfl, hp⟩]
          exact this
        · rw [if_neg hp] at this
          rw [if_neg (fun z => hp z.2)]
          exact this
    · rw [if_neg (fun z => h4 (permB_rd z.2).1)]
      exact ev_neg (by omega) bad
theorem impl_ren (s : ByteArray) (l : List Int) (hl : l.length ≤ 1048576) : impl_RenameBeads.f s l = some (resR s l) := by
  unfold impl_RenameBeads.f resR
  rw [if_pos (by omega), isNecklace_ev, Option.bind_some]
  cases hn : neckl s with
  | false => rw [if_neg (by decide), if_neg (fun z => by cases z.1)]
  | true =>
    rw [if_pos rfl]
    have hp := permB_srt l
    unfold srt at hp
    by_cases h : (l.mergeSort fun x y => decide (x ≤ y)) = [0, 1, 2, 3]
    · rw [decide_eq_true h] at hp
      have hall : (s.data.toList.all fun b => decide (97 ≤ b.toNat ∧ b.toNat < 101)) = true := List.all_eq_true.2 fun b hb => by
        have h1 : isBead b = true := List.all_eq_true.1 (neckl_beads hn) b hb
        unfold isBead at h1
        have h2 := of_decide_eq_true h1
        exact decide_eq_true (by omega)
      have hsz := neckl_size hn
      rw [if_pos h, if_pos ⟨by omega, hall⟩, if_pos ⟨rfl, hp⟩]
    · rw [decide_eq_false h] at hp
      rw [if_neg h, if_neg (fun z => by rw [hp] at z; cases z.2)]
theorem resR_len (s : ByteArray) (l : List Int) : True := trivial
theorem FnExactRenameBeads : laws_FnExactRenameBeads.Pure := by
  intro a0 l1 _ _ _ _
  apply Ev.rounds
  by_cases h : (a0.size : Int) > 1048576
  · exact ev_pos h (Ev.now _)
  by_cases h2 : (l1.length : Int) > 1048576
  · exact ev_neg h (ev_pos h2 (Ev.now _))
  have hl : l1.length ≤ 1048576 := by omega
  have hc := toIntS_ev l1 hl
  have he1 := eqIntS_self l1 (by omega)
  refine ev_neg h (ev_neg h2 (Ev.bind hc (Ev.bind (spec_ren a0 l1 hl) (Ev.bind hc (ev_bind0 (impl_ren a0 l1 hl) (ev_pos rfl ?_))))))
  rw [bne_self_eq_false]
  exact Ev.step (fun f => laws_FnExactRenameBeads.j0.eq_2 ..) (ev_neg (by decide) (Ev.bind hc (Ev.bind he1 (ev_pos rfl (Ev.now _)))))
end Go.Proofs.YtlhilhimpbfllabDoor.Pure
