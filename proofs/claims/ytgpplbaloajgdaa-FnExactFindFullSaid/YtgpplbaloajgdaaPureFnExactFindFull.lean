/- FindFull of the program returns what the reference's returns, for all labels; there are no conditions. -/
import Derived.Test.YtgpplbaloajgdaaQFnExactFindFullEnter
import Derived.Test.YtgpplbaloajgdaaQFnExactFindFullEqS
import Derived.Test.YtgpplbaloajgdaaQFnExactFindFullToInt
namespace Go.Proofs.Ytgpplbaloajgdaa.Pure
open Go.RowKit Go.Proofs.Ytgpplbaloajgdaa.PFnExactFindFull Go.Proofs.YtgpplbaloajgdaaW.PrintWords Go.Proofs.YtgpplbaloajgdaaW.PrintLast Go.Proofs.YtgpplbaloajgdaaW.PrintMore Go.Proofs.Ytgpplbaloajgdaa.QFnExactFindFull
set_option linter.unusedVariables false
theorem last_rd (vs : List Int) (x : Int) (h : vs.length ≤ 64) : wrap64 (((vs ++ [x]).length : Int) - 1) = (vs.length : Int) ∧ rd (vs ++ [x]) (vs.length : Int) = x := by
  have e : ((vs ++ [x]).length : Int) = (vs.length : Int) + 1 := by simp
  refine ⟨by rw [e, wr (by omega) (by omega)]; omega, ?_⟩
  rw [rd_at (by simp)]; simp
theorem loops {n : Nat} {L : List Int} (H : Home n L) (a0 : Int) (B : List Int) : ∀ d i : Nat, i + d = (gates n L).length → ∃ r, Ev (fun k => impl_FindFull.l0 k (gates n L) ((gates n L).length : Int) (i : Int) a0 L (cellsT n) B) r ∧ Ev (fun k => spec_FindFull.l0 k (n : Int) L (cellsT n) (gates n L) ((gates n L).length : Int) (i : Int)) r
  | 0, i, h => ⟨(0, false), Ev.step (fun f => impl_FindFull.l0.eq_2 ..) (ev_neg (by omega) (Ev.now _)), Ev.step (fun f => spec_FindFull.l0.eq_2 ..) (ev_neg (by omega) (Ev.now _))⟩
  | d + 1, i, h => by
    have hlt : i < (gates n L).length := by omega
    have hg : (gates n L).length ≤ 24 := by
      refine Nat.le_trans (List.length_filter_le _ _) ?_
      rw [stepsT_eq, List.length_map, List.length_range]; exact H.lenB
    have er : rd_L1 (gates n L) (i : Int) = (gates n L)[i] := by unfold rd_L1; rw [Int.toNat_natCast, List.getD_eq_getElem?_getD, List.getElem?_eq_getElem hlt]; rfl
    have hm := List.getElem_mem hlt
    obtain ⟨x', y', e, _, _⟩ := H.step (List.mem_filter.1 hm).1
    obtain ⟨vs, x, dd, b, hv, hx, hf, hi, hs⟩ := H.enter hm
    obtain ⟨l1, l2⟩ := last_rd vs x hv
    have hrg := H.range hx
    have hlen : (gates n L)[i].length = 2 := by rw [e]; rfl
    obtain ⟨r, r1, r2⟩ := loops H a0 B d (i + 1) (by omega)
    have ev1 : ∀ {s : Int × Bool}, (b = true → s = (x, true)) → (b = false → s = r) → Ev (fun k => impl_FindFull.l0 k (gates n L) ((gates n L).length : Int) (i : Int) a0 L (cellsT n) B) s := fun {s} h1 h2 => by
      refine Ev.step (fun f => impl_FindFull.l0.eq_2 ..) (ev_pos (by omega) (ev_pos (by omega) (ev_pos (by omega) ?_)))
      rw [er]
      refine ev_pos (by omega) (ev_pos (by omega) (Ev.bind (hi a0 B) ?_))
      show Ev (fun k => if b = true then _ else _) s
      cases hb : b with
      | true =>
        refine ev_pos rfl ?_
        rw [l1, l2, h1 hb]
        exact ev_pos (by omega) (ev_pos (by rw [List.length_append, List.length_singleton]; omega) (Ev.now _))
      | false =>
        refine ev_neg (by decide) ?_
        rw [wr (by omega) (by omega), h2 hb]
        exact r1
    have ev2 : ∀ {s : Int × Bool}, (b = true → s = (x, true)) → (b = false → s = r) → Ev (fun k => spec_FindFull.l0 k (n : Int) L (cellsT n) (gates n L) ((gates n L).length : Int) (i : Int)) s := fun {s} h1 h2 => by
      refine Ev.step (fun f => spec_FindFull.l0.eq_2 ..) (ev_pos (by omega) (ev_pos (by omega) (ev_pos (by omega) ?_)))
      rw [er]
      refine ev_pos (by omega) (ev_pos (by omega) (Ev.bind hs ?_))
      have ec : rd_L1 (cellsT n) x = cl n x := rfl
      have hff : Ev (fun k => spec_doFull.f k L (cl n x)) b := by rw [← hf]; exact doFull_ev H.lbl (H.tri hx)
      rw [l1, l2, ec]
      refine ev_pos (by omega) (ev_pos (by rw [List.length_append, List.length_singleton]; omega) (ev_pos hrg.1 (ev_pos hrg.2 (Ev.bind hff ?_))))
      cases hb : b with
      | true =>
        rw [h1 hb]
        exact ev_pos rfl (Ev.now _)
      | false =>
        refine ev_neg (by decide) ?_
        rw [wr (by omega) (by omega), h2 hb]
        exact r2
    cases hb : b with
    | true => exact ⟨(x, true), ev1 (fun _ => rfl) (fun z => by rw [hb] at z; cases z), ev2 (fun _ => rfl) (fun z => by rw [hb] at z; cases z)⟩
    | false => exact ⟨r, ev1 (fun z => by rw [hb] at z; cases z) (fun _ => rfl), ev2 (fun z => by rw [hb] at z; cases z) (fun _ => rfl)⟩
theorem both (a0 : Int) (l : List Int) (hl : l.length ≤ 1048576) : ∃ r, Ev (fun k => impl_FindFull.f k a0 l) r ∧ Ev (fun k => spec_FindFull.f k a0 l) r := by
  have h1 := labels_impl a0 l hl
  have h2 := labels_spec a0 l hl
  cases hk : labB a0 l with
  | false =>
    rw [hk] at h1 h2
    exact ⟨(0, false), Ev.bind (Ev.bind h1 (ev_neg (by decide) (Ev.now _))) (ev_neg (by decide) (Ev.now _)), Ev.bind h2 (ev_neg (by decide) (Ev.now _))⟩
  | true =>
    rw [hk] at h1 h2
    obtain ⟨n, e, H⟩ := home_of hk
    subst e
    obtain ⟨r, r1, r2⟩ := loops H (n : Int) (bordT n) (gates n l).length 0 (Nat.zero_add _)
    exact ⟨r, Ev.bind (Ev.bind h1 (ev_pos rfl (Ev.bind H.side.cellsI (Ev.bind H.side.bordI (Ev.now _))))) (ev_pos rfl (Ev.bind (H.entries_ev (n : Int) (cellsT n)) r1)),
      Ev.bind h2 (ev_pos rfl (Ev.bind H.side.cellsS (Ev.bind H.border_ev r2)))⟩
theorem FnExactFindFull : laws_FnExactFindFull.Pure := by
  intro a0 l1 _ _ _ _
  apply Ev.rounds
  by_cases h : (l1.length : Int) > 1048576
  · exact ev_pos h (Ev.now _)
  have hl : l1.length ≤ 1048576 := by omega
  have hc := toIntS_ev l1 hl
  have he := eqIntS_self l1 (by omega)
  obtain ⟨r, r1, r2⟩ := both a0 l1 hl
  refine ev_neg h (Ev.bind hc (Ev.bind r2 (Ev.bind hc (Ev.bind r1 (ev_pos rfl ?_)))))
  rw [bne_self_eq_false]
  exact Ev.step (fun f => laws_FnExactFindFull.j0.eq_2 ..) (ev_neg (by decide) (Ev.bind hc (Ev.bind he (ev_pos rfl (Ev.now _)))))
end Go.Proofs.Ytgpplbaloajgdaa.Pure
