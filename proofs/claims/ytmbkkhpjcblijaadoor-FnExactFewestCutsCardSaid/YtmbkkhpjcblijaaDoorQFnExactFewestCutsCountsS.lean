/- Necklaces: the reference's counts. -/
import Derived.Test.YtmbkkhpjcblijaaDoorQFnExactFewestCutsCounts
namespace Go.Proofs.YtmbkkhpjcblijaaDoor.QFnExactFewestCuts
open Go.RowKit Go.Proofs.YtmbkkhpjcblijaaDoor.PFnExactFewestCuts Go.Proofs.YtmbkkhpjcblijaaDoorW.PrintWords Go.Proofs.YtmbkkhpjcblijaaDoorW.PrintLast Go.Proofs.YtmbkkhpjcblijaaDoorW.PrintMore
set_option linter.unusedVariables false
set_option linter.unusedSimpArgs false
set_option maxRecDepth 100000
theorem nlCounts_loop (s : ByteArray) (hb : beads s = true) (hs : s.size ≤ 1000) : ∀ d i : Nat, i + d = s.size → Ev (fun k => spec_nlCounts.l0 k s (cntL (s.data.toList.take i)) (i : Int)) (cntL s.data.toList)
  | 0, i, h => by
    refine Ev.step (fun f => spec_nlCounts.l0.eq_2 ..) (ev_neg (by omega) (ev_eq (Ev.now _) ?_))
    rw [List.take_of_length_le (by rw [size_list]; omega)]
  | d + 1, i, h => by
    obtain ⟨b, hg⟩ := get_lt (s := s) (i := i) (by omega)
    have hk := kind_range (bead_at hb hg)
    refine Ev.step (fun f => spec_nlCounts.l0.eq_2 ..) (ev_pos (by omega) (ev_pos (by omega) ?_))
    rw [bt_get hg]
    refine ev_pos hk.1 (ev_pos (by rw [cntL_len]; exact hk.2) ?_)
    rw [cnt_step _ _ (bead_at hb hg) (by rw [List.length_take]; omega), take_snoc hg, wr (by omega) (by omega)]
    exact nlCounts_loop s hb hs d (i + 1) (by omega)
theorem nlCounts_ev (s : ByteArray) (hb : beads s = true) (hs : s.size ≤ 1000) : Ev (fun k => spec_nlCounts.f k s) (cntL s.data.toList) :=
  ev_pos (by decide) (nlCounts_loop s hb hs s.size 0 (by omega))
end Go.Proofs.YtmbkkhpjcblijaaDoor.QFnExactFewestCuts
