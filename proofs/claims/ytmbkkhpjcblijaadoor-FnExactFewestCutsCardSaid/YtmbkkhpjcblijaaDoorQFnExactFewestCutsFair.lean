/- Necklaces: fair cuts. -/
import Derived.Test.YtmbkkhpjcblijaaDoorQFnExactFewestCutsShares
import Derived.Test.YtmbkkhpjcblijaaDoorQFnExactFewestCutsCountsS
import Derived.Test.YtmbkkhpjcblijaaDoorQFnExactFewestCutsCountsI
namespace Go.Proofs.YtmbkkhpjcblijaaDoor.QFnExactFewestCuts
open Go.RowKit Go.Proofs.YtmbkkhpjcblijaaDoor.PFnExactFewestCuts Go.Proofs.YtmbkkhpjcblijaaDoorW.PrintWords Go.Proofs.YtmbkkhpjcblijaaDoorW.PrintLast Go.Proofs.YtmbkkhpjcblijaaDoorW.PrintMore
set_option linter.unusedVariables false
set_option linter.unusedSimpArgs false
set_option maxRecDepth 100000
/-- Twice the one is the other, at d places from i on. -/
def twice (a b : List Int) : Nat → Nat → Bool
  | 0, _ => true
  | d + 1, i => if 2 * rd a (i : Int) = rd b (i : Int) then twice a b d (i + 1) else false
theorem nlFair_loop (x y : List UInt8) (hx : x.length ≤ 16) : ∀ d i : Nat, i + d = 4 → Ev (fun k => spec_nlFair.l0 k (cntL y) (cntL x) 4 (i : Int)) (twice (cntL x) (cntL y) d i)
  | 0, i, h => Ev.step (fun f => spec_nlFair.l0.eq_2 ..) (ev_neg (by omega) (Ev.now _))
  | d + 1, i, h => by
    have hb := cntL_le x i
    refine Ev.step (fun f => spec_nlFair.l0.eq_2 ..) (ev_pos (by omega) (ev_pos (by omega) (ev_pos (by rw [cntL_len]; omega) (ev_pos (by rw [cntL_len]; omega) ?_))))
    unfold twice
    rw [wr (show -9223372036854775808 ≤ 2 * rd (cntL x) (i : Int) by omega) (by omega), wr (show -9223372036854775808 ≤ (i : Int) + 1 by omega) (by omega)]
    by_cases hc : 2 * rd (cntL x) (i : Int) = rd (cntL y) (i : Int)
    · rw [if_pos hc]; exact ev_pos hc (nlFair_loop x y hx d (i + 1) (by omega))
    · rw [if_neg hc]; exact ev_neg hc (Ev.now _)
theorem isFair_loop (x y : List UInt8) (hx : x.length ≤ 16) : ∀ d i : Nat, i + d = 4 → Ev (fun k => impl_isFair.l0 k (cntL x) (cntL y) 4 (i : Int)) (twice (cntL x) (cntL y) d i)
  | 0, i, h => Ev.step (fun f => impl_isFair.l0.eq_2 ..) (ev_neg (by omega) (Ev.now _))
  | d + 1, i, h => by
    have hb := cntL_le x i
    refine Ev.step (fun f => impl_isFair.l0.eq_2 ..) (ev_pos (by omega) (ev_pos (by omega) (ev_pos (by rw [cntL_len]; omega) (ev_pos (by rw [cntL_len]; omega) ?_))))
    unfold twice
    rw [wr (show -9223372036854775808 ≤ 2 * rd (cntL x) (i : Int) by omega) (by omega), wr (show -9223372036854775808 ≤ (i : Int) + 1 by omega) (by omega)]
    by_cases hc : 2 * rd (cntL x) (i : Int) = rd (cntL y) (i : Int)
    · rw [if_pos hc]; exact ev_pos hc (isFair_loop x y hx d (i + 1) (by omega))
    · rw [if_neg hc]; exact ev_neg hc (Ev.now _)
/-- Are cuts fair? -/
def fairOf (s : ByteArray) (l : List Int) : Bool := twice (shareL s l) (cntL s.data.toList) 4 0
theorem nlFair_ev (s : ByteArray) (hb : beads s = true) (hs : s.size ≤ 16) (l : List Int) (hl : l.length ≤ 1048576) : Ev (fun k => spec_nlFair.f k s l) (fairOf s l) :=
  Ev.bind (nlCounts_ev s hb (by omega)) (Ev.bind (nlShares_ev s hb hs l hl) (nlFair_loop _ _ (Nat.le_trans (mine_len _ _ _) hs) 4 0 rfl))
theorem isFair_ev (s : ByteArray) (hb : beads s = true) (hs : s.size ≤ 16) (l : List Int) (hl : l.length ≤ 1048576) : Ev (fun k => impl_isFair.f k s l) (fairOf s l) :=
  Ev.bind (counts_ev s hb (by omega)) (Ev.bind (shares_ev s hb hs l hl) (isFair_loop _ _ (Nat.le_trans (mine_len _ _ _) hs) 4 0 rfl))
end Go.Proofs.YtmbkkhpjcblijaaDoor.QFnExactFewestCuts
