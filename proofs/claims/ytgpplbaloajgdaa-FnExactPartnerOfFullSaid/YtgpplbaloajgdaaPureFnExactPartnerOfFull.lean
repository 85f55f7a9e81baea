/- PartnerOfFull of the program returns what the reference's returns, for all labels and cells; there are no conditions. -/
import Derived.Test.YtgpplbaloajgdaaQFnExactPartnerOfFullLeave
import Derived.Test.YtgpplbaloajgdaaQFnExactPartnerOfFullEqS
import Derived.Test.YtgpplbaloajgdaaQFnExactPartnerOfFullToInt
namespace Go.Proofs.Ytgpplbaloajgdaa.Pure
open Go.RowKit Go.Proofs.Ytgpplbaloajgdaa.PFnExactPartnerOfFull Go.Proofs.YtgpplbaloajgdaaW.PrintWords Go.Proofs.YtgpplbaloajgdaaW.PrintLast Go.Proofs.YtgpplbaloajgdaaW.PrintMore Go.Proofs.Ytgpplbaloajgdaa.QFnExactPartnerOfFull
set_option linter.unusedVariables false
theorem both (a0 : Int) (l : List Int) (hl : l.length ≤ 1048576) (c : Int) : ∃ r, Ev (fun k => impl_PartnerOfFull.f k a0 l c) r ∧ Ev (fun k => spec_PartnerOfFull.f k a0 l c) r := by
  have h1 := labels_impl a0 l hl
  have h2 := labels_spec a0 l hl
  have noI : ∀ x0 x1 x2 x3, Ev (fun k => impl_PartnerOfFull.j0 k c true x0 x1 x2 x3) (0, false) := fun x0 x1 x2 x3 => Ev.step (fun f => impl_PartnerOfFull.j0.eq_2 ..) (ev_pos rfl (Ev.now _))
  have noS : Ev (fun k => spec_PartnerOfFull.j0 k a0 l c true) (0, false) := Ev.step (fun f => spec_PartnerOfFull.j0.eq_2 ..) (ev_pos rfl (Ev.now _))
  cases hk : labB a0 l with
  | false =>
    rw [hk] at h1 h2
    exact ⟨(0, false), Ev.bind (Ev.bind h1 (ev_neg (by decide) (Ev.now _))) (ev_neg (by decide) (noI _ _ _ _)), Ev.bind (Ev.bind h2 (ev_neg (by decide) (Ev.now _))) (ev_neg (by decide) noS)⟩
  | true =>
    rw [hk] at h1 h2
    obtain ⟨n, e, H⟩ := home_of hk
    subst e
    have goI : ∀ {r : Int × Bool}, Ev (fun k => (impl_isCell.f (n : Int) c).bind fun t368 => (if t368 = true then ((impl_house_isFull.f (n : Int) l (cellsT n) (bordT n) c).bind fun t369 => (impl_PartnerOfFull.j0 k c (!t369) (n : Int) l (cellsT n) (bordT n))) else (impl_PartnerOfFull.j0 k c true (n : Int) l (cellsT n) (bordT n)))) r → Ev (fun k => impl_PartnerOfFull.f k (n : Int) l c) r := fun {r} hr =>
      Ev.bind (Ev.bind h1 (ev_pos rfl (Ev.bind H.side.cellsI (Ev.bind H.side.bordI (Ev.now _))))) (ev_pos rfl hr)
    by_cases hc : Path.inC (n * n) c
    · have rg := H.range hc
      have ec : rd_L1 (cellsT n) c = cl n c := rfl
      have hcell : Ev (fun k => spec_doCell.f k (n : Int) l c) true := Ev.bind h2 (ev_pos rfl (ev_bind0 (H.cellS c) (ev_eq (Ev.now _) (decide_eq_true hc))))
      have hcI := H.cellI c
      rw [decide_eq_true hc] at hcI
      have hIf := isFull_eq H.lbl (n : Int) (cellsT n) (bordT n) rg.1 rg.2 (H.tri hc)
      have hSf : Ev (fun k => spec_doFull.f k l (cl n c)) (fullAt n l c) := doFull_ev H.lbl (H.tri hc)
      have hIf : impl_house_isFull.f (n : Int) l (cellsT n) (bordT n) c = some (fullAt n l c) := hIf
      have goS : ∀ {r : Int × Bool}, Ev (fun k => spec_PartnerOfFull.j0 k (n : Int) l c (!fullAt n l c)) r → Ev (fun k => spec_PartnerOfFull.f k (n : Int) l c) r := fun {r} hr => by
        refine Ev.bind hcell (ev_pos rfl (Ev.bind H.side.cellsS (ev_pos rg.1 (ev_pos rg.2 ?_))))
        rw [ec]
        exact Ev.bind hSf hr
      cases hf : fullAt n l c with
      | false =>
        rw [hf] at hIf goS
        exact ⟨(0, false), goI (ev_bind0 hcI (ev_pos rfl (ev_bind0 hIf (noI _ _ _ _)))), goS noS⟩
      | true =>
        rw [hf] at hIf goS
        obtain ⟨vs, b, hi, hs, hr⟩ := H.leave hc hf
        rcases hr with ⟨e1, e2⟩ | ⟨ws, x, e1, hw, hx, hfx⟩
        · subst e1 e2
          exact ⟨(0, false), goI (ev_bind0 hcI (ev_pos rfl (ev_bind0 hIf (Ev.step (fun f => impl_PartnerOfFull.j0.eq_2 ..) (ev_neg (by decide) (Ev.bind (hi (n : Int) (bordT n)) (ev_neg (by decide) (Ev.now _)))))))),
            goS (Ev.step (fun f => spec_PartnerOfFull.j0.eq_2 ..) (ev_neg (by decide) (Ev.bind hs (ev_pos rfl (Ev.now _)))))⟩
        · subst e1
          obtain ⟨l1, l2⟩ := last_rd ws x hw
          have rx := H.range hx
          have ex : rd_L1 (cellsT n) x = cl n x := rfl
          have lt : (ws.length : Int) < ((ws ++ [x]).length : Int) := by rw [List.length_append, List.length_singleton]; omega
          have nz : ¬ ((ws ++ [x]).length : Int) = 0 := by rw [List.length_append, List.length_singleton]; omega
          have hff : Ev (fun k => spec_doFull.f k l (cl n x)) b := by rw [← hfx]; exact doFull_ev H.lbl (H.tri hx)
          refine ⟨if b = true then (x, true) else (0, false), goI (ev_bind0 hcI (ev_pos rfl (ev_bind0 hIf (Ev.step (fun f => impl_PartnerOfFull.j0.eq_2 ..) (ev_neg (by decide) (Ev.bind (hi (n : Int) (bordT n)) ?_)))))),
            goS (Ev.step (fun f => spec_PartnerOfFull.j0.eq_2 ..) (ev_neg (by decide) (Ev.bind hs (ev_neg nz (Ev.bind H.side.cellsS ?_)))))⟩
          · show Ev (fun k => if b = true then _ else _) _
            cases b with
            | true =>
              refine ev_pos rfl ?_
              rw [l1, l2]
              exact ev_pos (by omega) (ev_pos lt (Ev.now _))
            | false => exact ev_neg (by decide) (Ev.now _)
          · rw [l1, l2, ex]
            refine ev_pos (by omega) (ev_pos lt (ev_pos rx.1 (ev_pos rx.2 (Ev.bind hff ?_))))
            cases b with
            | true => exact ev_pos rfl (Ev.now _)
            | false => exact ev_neg (by decide) (Ev.now _)
    · have hcell : Ev (fun k => spec_doCell.f k (n : Int) l c) false := Ev.bind h2 (ev_pos rfl (ev_bind0 (H.cellS c) (ev_eq (Ev.now _) (decide_eq_false hc))))
      have hcI := H.cellI c
      rw [decide_eq_false hc] at hcI
      exact ⟨(0, false), goI (ev_bind0 hcI (ev_neg (by decide) (noI _ _ _ _))), Ev.bind hcell (ev_neg (by decide) noS)⟩
theorem FnExactPartnerOfFull : laws_FnExactPartnerOfFull.Pure := by
  intro a0 l1 a2 _ _ _ _ _
  apply Ev.rounds
  by_cases h : (l1.length : Int) > 1048576
  · exact ev_pos h (Ev.now _)
  have hl : l1.length ≤ 1048576 := by omega
  have hc := toIntS_ev l1 hl
  have he := eqIntS_self l1 (by omega)
  obtain ⟨r, r1, r2⟩ := both a0 l1 hl a2
  refine ev_neg h (Ev.bind hc (Ev.bind r2 (Ev.bind hc (Ev.bind r1 (ev_pos rfl ?_)))))
  rw [bne_self_eq_false]
  exact Ev.step (fun f => laws_FnExactPartnerOfFull.j0.eq_2 ..) (ev_neg (by decide) (Ev.bind hc (Ev.bind he (ev_pos rfl (Ev.now _)))))
end Go.Proofs.Ytgpplbaloajgdaa.Pure
