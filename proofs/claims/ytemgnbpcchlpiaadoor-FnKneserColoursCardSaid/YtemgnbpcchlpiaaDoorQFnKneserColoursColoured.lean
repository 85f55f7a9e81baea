/- Colours as they are drawn. -/
import Derived.Test.YtemgnbpcchlpiaaDoorQFnKneserColoursColS
import Derived.Test.YtemgnbpcchlpiaaDoorQFnKneserColoursDraw
namespace Go.Proofs.YtemgnbpcchlpiaaDoor.QFnKneserColours
open Go.RowKit Go.Proofs.YtemgnbpcchlpiaaDoorOwn Go.Proofs.YtemgnbpcchlpiaaDoor.PFnKneserColours Go.Proofs.YtemgnbpcchlpiaaDoorW.PrintWords Go.Proofs.YtemgnbpcchlpiaaDoorW.PrintLast Go.Proofs.YtemgnbpcchlpiaaDoorW.PrintMore
set_option linter.unusedVariables false
set_option linter.unusedSimpArgs false
set_option linter.unusedSectionVars false
set_option maxRecDepth 100000
theorem own_ev (l : List Int) (h : l.length ≤ 10000) : spec_l1Own.f l = some l := by
  unfold spec_l1Own.f
  rw [Option.bind_some, if_pos (by simp; omega), List.nil_append]
theorem coloured_loop {l : List Int} (h : U8 l) (n k : Int) : ∀ (d i : Nat) (L : List Int) (a s : Int), i + d = L.length → L.length ≤ 1000 → 0 ≤ a → a + 2 * (d : Int) ≤ 4611686018427387000 → ∃ r : Int × Int × List Int × Int × Int, Ev (fun f => spec_l1Cur_coloured.l0 f n k L (L.length : Int) (i : Int) l a s) r ∧ r.2.2.1.length = L.length
  | 0, i, L, a, s, hi, hL, h0, h1 => ⟨(n, k, L, a, s), Ev.step (fun f => spec_l1Cur_coloured.l0.eq_2 ..) (ev_neg (by omega) (Ev.now _)), rfl⟩
  | d + 1, i, L, a, s, hi, hL, h0, h1 => by
    obtain ⟨v, a1, s1, e1, _, _, b1, c1⟩ := pick_ev h s 3 h0 (by omega)
    obtain ⟨r, hr, hl⟩ := coloured_loop h n k d (i + 1) (L.set i v) a1 s1 (by rw [List.length_set]; omega) (by rw [List.length_set]; omega) (by omega) (by omega)
    rw [List.length_set] at hr hl
    refine ⟨r, Ev.step (fun f => spec_l1Cur_coloured.l0.eq_2 ..) (ev_pos (by omega) (ev_bind0 e1 (ev_pos (by omega) (ev_pos (by omega) ?_)))), hl⟩
    rw [wr (show -9223372036854775808 ≤ (i : Int) + 1 by omega) (by omega), Int.toNat_natCast]
    exact hr
theorem coloured_ev {l : List Int} (h : U8 l) : ∃ r : Int × Int × List Int × Int × Int, Ev (fun f => spec_l1Cur_coloured.f f l 0 0) r ∧ r.2.2.1.length ≤ 300 := by
  obtain ⟨n, k, a, s, e0, b0, c0⟩ := sets_ev h 0 6 (Int.le_refl 0) (by decide)
  cases hg : items n k with
  | false => exact ⟨(n, k, [0], a, s), ev_bind0 e0 (ev_bind0 (given_eq n k) (ev_neg (by rw [hg]; decide) (Ev.now _))), by simp⟩
  | true =>
    obtain ⟨⟨n1, n2⟩, k1, k2⟩ := items_in hg
    obtain ⟨n', en⟩ := Int.eq_ofNat_of_zero_le (show 0 ≤ n by omega)
    subst en
    have hc := colS_ev (n := n') (k := k) (by omega) (by omega) k1 k2
    have hlen : ((setL n' k).map (col (few (n' : Int) k))).length ≤ 256 := by rw [List.length_map]; exact setL_len k (by omega)
    have hpos : 0 < ((setL n' k).map (col (few (n' : Int) k))).length := by rw [List.length_map]; exact setL_some (by omega) (by omega) k2
    generalize (setL n' k).map (col (few (n' : Int) k)) = L at hc hlen hpos
    obtain ⟨v, a1, s1, e1, v0, _, b1, c1⟩ := pick_ev h s 6 (show 0 ≤ a by omega) (by omega)
    suffices hs : ∃ r : Int × Int × List Int × Int × Int, Ev (fun f => if v = 0 then ((spec_l1Cur_pick.f l a1 s1 (L.length : Int)).bind fun bt219 => ((spec_l1Cur_pick.f l bt219.2.1 bt219.2.2 4).bind fun bt222 => (if 0 ≤ bt219.1 then (if bt219.1 < (L.length : Int) then (some ((n' : Int), k, (L.set (bt219.1 : Int).toNat (wrap64 (bt222.1 - 1))), bt222.2.1, bt222.2.2)) else (none)) else (none)))) else (if v = 1 then (if L.length < 17592186044416 then (some ((n' : Int), k, (L ++ [0]), a1, s1)) else (none)) else (if v = 2 then (spec_l1Cur_coloured.l0 f (n' : Int) k L (L.length : Int) 0 l a1 s1) else (some ((n' : Int), k, L, a1, s1))))) r ∧ r.2.2.1.length ≤ 300 by
      obtain ⟨r, hr, hl⟩ := hs
      exact ⟨r, ev_bind0 e0 (ev_bind0 (given_eq _ _) (ev_pos hg (Ev.bind hc (ev_bind0 (own_ev L (by omega)) (ev_bind0 e1 hr))))), hl⟩
    by_cases h0 : v = 0
    · obtain ⟨v2, a2, s2, e2, w0, w1, b2, c2⟩ := pick_ev h s1 (L.length : Int) (show 0 ≤ a1 by omega) (by omega)
      obtain ⟨v3, a3, s3, e3, _, _, b3, c3⟩ := pick_ev h s2 4 (show 0 ≤ a2 by omega) (by omega)
      refine ⟨_, ev_pos h0 (ev_bind0 e2 (ev_bind0 e3 (ev_pos w0 (ev_pos (show v2 < (L.length : Int) by omega) (Ev.now _))))), ?_⟩
      dsimp only
      rw [List.length_set]
      omega
    · by_cases h1 : v = 1
      · refine ⟨_, ev_neg h0 (ev_pos h1 (ev_pos (by omega) (Ev.now _))), ?_⟩
        dsimp only
        rw [List.length_append, List.length_singleton]
        omega
      · by_cases h2 : v = 2
        · obtain ⟨r, hr, hl⟩ := coloured_loop h (n' : Int) k L.length 0 L a1 s1 (by omega) (by omega) (by omega) (by omega)
          exact ⟨r, ev_neg h0 (ev_neg h1 (ev_pos h2 hr)), by omega⟩
        · exact ⟨_, ev_neg h0 (ev_neg h1 (ev_neg h2 (Ev.now _))), by dsimp only; omega⟩
end Go.Proofs.YtemgnbpcchlpiaaDoor.QFnKneserColours
