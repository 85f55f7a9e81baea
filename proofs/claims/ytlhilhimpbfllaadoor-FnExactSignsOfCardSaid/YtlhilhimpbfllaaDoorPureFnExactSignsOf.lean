/- SignsOf of the program returns what the reference's returns, for all texts and lists; there are no conditions. -/
import Derived.Test.YtlhilhimpbfllaaDoorQFnExactSignsOfCuts
import Derived.Test.YtlhilhimpbfllaaDoorQFnExactSignsOfMarkS
namespace Go.Proofs.YtlhilhimpbfllaaDoor.Pure
open Go.RowKit Go.Proofs.YtlhilhimpbfllaaDoor.PFnExactSignsOf Go.Proofs.YtlhilhimpbfllaaDoorW.PrintWords Go.Proofs.YtlhilhimpbfllaaDoorW.PrintLast Go.Proofs.YtlhilhimpbfllaaDoorW.PrintMore Go.Proofs.YtlhilhimpbfllaaDoor.QFnExactSignsOf
set_option maxRecDepth 100000
theorem FnExactSignsOf : laws_FnExactSignsOf.Pure := by
  intro a0 l1 _ _ _ _
  apply Ev.rounds
  by_cases h : (a0.size : Int) > 1048576
  · exact ev_pos h (Ev.now _)
  by_cases h2 : (l1.length : Int) > 1048576
  · exact ev_neg h (ev_pos h2 (Ev.now _))
  have hl : l1.length ≤ 1048576 := by omega
  have key : ∀ (l : List Int) (b : Bool), l.length ≤ 16 → Ev (fun k => spec_SignsOf.f k a0 l1) (l, b) → Ev (fun k => impl_SignsOf.f k a0 l1) (l, b) → Ev (fun k => laws_FnExactSignsOf.f k a0 l1) true := by
    intro l b hl1 hs hi
    have hc := toIntS_ev l1 hl
    have he := eqIntS_self l (by omega)
    have he1 := eqIntS_self l1 (by omega)
    obtain ⟨l', hm, hh⟩ := mark_held l (by omega)
    obtain ⟨l1', hm1, hh1⟩ := mark_held l1 (by omega)
    refine ev_neg h (ev_neg h2 (Ev.bind hc (Ev.bind hs (Ev.bind hc (Ev.bind hi (Ev.bind he (ev_pos rfl ?_)))))))
    rw [bne_self_eq_false]
    refine Ev.step (fun f => laws_FnExactSignsOf.j0.eq_2 ..) (ev_neg (by decide) (Ev.bind hc (Ev.bind he1 (ev_pos rfl (Ev.bind hm1 (ev_neg (by omega) (Ev.bind he (ev_pos rfl ?_))))))))
    rw [bne_self_eq_false]
    refine Ev.step (fun f => laws_FnExactSignsOf.j1.eq_2 ..) (ev_neg (by decide) (Ev.bind hm (Ev.bind hh (ev_neg (by omega) (ev_pos rfl ?_)))))
    refine Ev.bind hc (Ev.bind hi (Ev.bind he (ev_pos rfl ?_)))
    rw [bne_self_eq_false]
    exact Ev.step (fun f => laws_FnExactSignsOf.j2.eq_2 ..) (ev_neg (by decide) (Ev.bind hh (ev_neg (by omega) (ev_pos rfl (Ev.now _)))))
  have e1 := nlCuts_ev a0 l1 hl
  have e2 := areCuts_ev a0 l1 hl
  cases hn : cutsOf a0 l1 with
  | false =>
    rw [hn] at e1 e2
    exact key [] false (by simp) (Ev.bind e1 (ev_neg (by decide) (Ev.now _))) (Ev.bind e2 (ev_neg (by decide) (Ev.now _)))
  | true =>
    rw [hn] at e1 e2
    have hk : neckl a0 = true := (Bool.and_eq_true_iff.1 hn).1
    have hb := neckl_beads hk
    have hs := neckl_size hk
    exact key (signsFn l1 a0.size 0 1) true (by rw [signsFn_len]; exact hs) (Ev.bind e1 (ev_pos rfl (Ev.bind (nlSigns_ev a0 hs l1 hl) (Ev.now _)))) (Ev.bind e2 (ev_pos rfl (Ev.bind (signs_ev a0 hs l1 hl) (Ev.now _))))
end Go.Proofs.YtlhilhimpbfllaaDoor.Pure
