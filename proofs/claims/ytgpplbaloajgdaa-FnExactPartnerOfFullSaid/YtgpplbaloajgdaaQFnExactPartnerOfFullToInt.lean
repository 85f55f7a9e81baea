/- toIntS copies a list. -/
import Derived.Test.YtgpplbaloajgdaaQFnExactPartnerOfFullBase
namespace Go.Proofs.Ytgpplbaloajgdaa.QFnExactPartnerOfFull
open Go.RowKit Go.Proofs.Ytgpplbaloajgdaa.PFnExactPartnerOfFull Go.Proofs.YtgpplbaloajgdaaW.PrintWords Go.Proofs.YtgpplbaloajgdaaW.PrintLast Go.Proofs.YtgpplbaloajgdaaW.PrintMore
set_option linter.unusedVariables false
set_option linter.unusedSimpArgs false
set_option maxRecDepth 100000
/-- toIntS copies. -/
theorem toIntS_loop (l : List Int) (hl : l.length ≤ 1048576) : ∀ d i : Nat, i + d = l.length → Ev (fun k => laws_toIntS.l0 k l (l.take i ++ List.replicate d 0) (i : Int)) l
  | 0, i, h => by
    refine Ev.step (fun f => laws_toIntS.l0.eq_2 ..) (ev_neg (by omega) (ev_eq (Ev.now _) ?_))
    rw [List.take_of_length_le (by omega)]; simp
  | d + 1, i, h => by
    have hlt : i < l.length := by omega
    have hz : (l.take i ++ List.replicate (d + 1) 0).length = l.length := by simp; omega
    refine Ev.step (fun f => laws_toIntS.l0.eq_2 ..) (ev_pos (by omega) (ev_pos (by omega) (ev_pos (by rw [hz]; omega) ?_)))
    have e1 : ((i : Int)).toNat = i := by omega
    rw [e1, wr (by omega) (by omega), rd_nat]
    have e2 : (l.take i ++ List.replicate (d + 1) 0).set i (l.getD i 0) = l.take (i + 1) ++ List.replicate d 0 := by
      have e3 : l.getD i 0 = l[i] := by rw [List.getD_eq_getElem?_getD, List.getElem?_eq_getElem hlt]; rfl
      rw [e3, List.set_append, if_neg (by simp; omega), List.length_take, Nat.min_eq_left (by omega), Nat.sub_self, List.replicate_succ, List.set_cons_zero, List.take_succ_eq_append_getElem hlt, List.append_assoc]
      rfl
    rw [e2]
    exact toIntS_loop l hl d (i + 1) (by omega)
theorem toIntS_ev (l : List Int) (hl : l.length ≤ 1048576) : Ev (fun k => laws_toIntS.f k l) l := by
  refine ev_pos (by omega) (ev_pos (by omega) ?_)
  have := toIntS_loop l hl l.length 0 (by omega)
  have e1 : ((l.length : Int)).toNat = l.length := by omega
  rw [e1]
  simpa using this
end Go.Proofs.Ytgpplbaloajgdaa.QFnExactPartnerOfFull
