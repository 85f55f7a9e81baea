/- Necklaces: the shares of the first thief, and fair cuts. -/
import Derived.Test.YtmbkkhpjcblijaaDoorQFnExactFewestCutsSigns
namespace Go.Proofs.YtmbkkhpjcblijaaDoor.QFnExactFewestCuts
open Go.RowKit Go.Proofs.YtmbkkhpjcblijaaDoor.PFnExactFewestCuts Go.Proofs.YtmbkkhpjcblijaaDoorW.PrintWords Go.Proofs.YtmbkkhpjcblijaaDoorW.PrintLast Go.Proofs.YtmbkkhpjcblijaaDoorW.PrintMore
set_option linter.unusedVariables false
set_option linter.unusedSimpArgs false
set_option maxRecDepth 100000
/-- The beads of the first thief among the first i. -/
def mine (bs : List UInt8) (sg : List Int) : Nat → List UInt8
  | 0 => []
  | i + 1 => if rd sg (i : Int) = 1 then mine bs sg i ++ (match bs[i]? with | some b => [b] | none => []) else mine bs sg i
theorem mine_len (bs : List UInt8) (sg : List Int) : ∀ i, (mine bs sg i).length ≤ i
  | 0 => Nat.le_refl _
  | i + 1 => by
    have := mine_len bs sg i
    unfold mine
    split
    · rw [List.length_append]; split <;> simp <;> omega
    · omega
theorem mine_some {bs : List UInt8} {sg : List Int} {i : Nat} {b : UInt8} (hg : bs[i]? = some b) (h : rd sg (i : Int) = 1) : mine bs sg (i + 1) = mine bs sg i ++ [b] := by
  show (if rd sg (i : Int) = 1 then _ else _) = _
  rw [if_pos h, hg]
theorem mine_none {bs : List UInt8} {sg : List Int} {i : Nat} (h : ¬ rd sg (i : Int) = 1) : mine bs sg (i + 1) = mine bs sg i := by
  show (if rd sg (i : Int) = 1 then _ else _) = _
  rw [if_neg h]
theorem nlShares_loop (s : ByteArray) (hb : beads s = true) (hs : s.size ≤ 16) (sg : List Int) (hl : sg.length = s.size) : ∀ d i : Nat, i + d = s.size →
    Ev (fun k => spec_nlShares.l0 k s (cntL (mine s.data.toList sg i)) sg (sg.length : Int) (i : Int)) (cntL (mine s.data.toList sg s.size))
  | 0, i, h => by
    have e : i = s.size := by omega
    subst e
    exact Ev.step (fun f => spec_nlShares.l0.eq_2 ..) (ev_neg (by omega) (Ev.now _))
  | d + 1, i, h => by
    obtain ⟨b, hg⟩ := get_lt (s := s) (i := i) (by omega)
    have hk := kind_range (bead_at hb hg)
    have hm := mine_len s.data.toList sg i
    have ih := nlShares_loop s hb hs sg hl d (i + 1) (by omega)
    refine Ev.step (fun f => spec_nlShares.l0.eq_2 ..) (ev_pos (by omega) (ev_pos (by omega) (ev_pos (by omega) ?_)))
    rw [wr (show -9223372036854775808 ≤ (i : Int) + 1 by omega) (by omega)]
    by_cases hc : rd sg (i : Int) = 1
    · refine ev_pos hc (ev_pos (by omega) ?_)
      rw [bt_get hg]
      refine ev_pos hk.1 (ev_pos (by rw [cntL_len]; exact hk.2) ?_)
      rw [cnt_step _ _ (bead_at hb hg) (by omega), ← mine_some hg hc]
      exact ih
    · rw [mine_none hc] at ih
      exact ev_neg hc ih
theorem shares_loop (s : ByteArray) (hb : beads s = true) (hs : s.size ≤ 16) (sg : List Int) (hl : sg.length = s.size) (hu : ∀ x ∈ sg, x = 1 ∨ x = -1) : ∀ d i : Nat, i + d = s.size →
    Ev (fun k => impl_shares.l0 k s (cntL (mine s.data.toList sg i)) sg (sg.length : Int) (i : Int)) (cntL (mine s.data.toList sg s.size))
  | 0, i, h => by
    have e : i = s.size := by omega
    subst e
    exact Ev.step (fun f => impl_shares.l0.eq_2 ..) (ev_neg (by omega) (Ev.now _))
  | d + 1, i, h => by
    obtain ⟨b, hg⟩ := get_lt (s := s) (i := i) (by omega)
    have hk := kind_range (bead_at hb hg)
    have hm := mine_len s.data.toList sg i
    have ih := shares_loop s hb hs sg hl hu d (i + 1) (by omega)
    have hx : rd sg (i : Int) = 1 ∨ rd sg (i : Int) = -1 := by
      rw [rd_nat, List.getD_eq_getElem?_getD, List.getElem?_eq_getElem (by omega)]
      exact hu _ (List.getElem_mem _)
    refine Ev.step (fun f => impl_shares.l0.eq_2 ..) (ev_pos (by omega) (ev_pos (by omega) (ev_pos (by omega) ?_)))
    rw [wr (show -9223372036854775808 ≤ (i : Int) + 1 by omega) (by omega)]
    by_cases hc : rd sg (i : Int) = 1
    · refine ev_pos (by omega) (ev_pos (by omega) ?_)
      rw [bt_get hg]
      refine ev_pos hk.1 (ev_pos (by rw [cntL_len]; exact hk.2) ?_)
      rw [cnt_step _ _ (bead_at hb hg) (by omega), ← mine_some hg hc]
      exact ih
    · rw [mine_none hc] at ih
      exact ev_neg (by omega) ih
/-- The shares of the first thief. -/
def shareL (s : ByteArray) (l : List Int) : List Int := cntL (mine s.data.toList (signsFn l s.size 0 1) s.size)
theorem nlShares_ev (s : ByteArray) (hb : beads s = true) (hs : s.size ≤ 16) (l : List Int) (hl : l.length ≤ 1048576) : Ev (fun k => spec_nlShares.f k s l) (shareL s l) :=
  ev_pos (by decide) (Ev.bind (nlSigns_ev s hs l hl) (nlShares_loop s hb hs _ (signsFn_len _ _ _ _) s.size 0 (by omega)))
theorem shares_ev (s : ByteArray) (hb : beads s = true) (hs : s.size ≤ 16) (l : List Int) (hl : l.length ≤ 1048576) : Ev (fun k => impl_shares.f k s l) (shareL s l) :=
  ev_pos (by decide) (Ev.bind (signs_ev s hs l hl) (shares_loop s hb hs _ (signsFn_len _ _ _ _) (signsFn_unit _ _ _ _ (.inl rfl)) s.size 0 (by omega)))
end Go.Proofs.YtmbkkhpjcblijaaDoor.QFnExactFewestCuts
