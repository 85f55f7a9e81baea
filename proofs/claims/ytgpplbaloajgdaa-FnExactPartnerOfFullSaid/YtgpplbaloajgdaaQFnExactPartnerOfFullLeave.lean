/- A walk out of a full room. -/
import Derived.Test.YtgpplbaloajgdaaQFnExactPartnerOfFullHomeOf
namespace Go.Proofs.Ytgpplbaloajgdaa.QFnExactPartnerOfFull
open Go.RowKit Go.Proofs.Ytgpplbaloajgdaa.PFnExactPartnerOfFull Go.Proofs.YtgpplbaloajgdaaW.PrintWords Go.Proofs.YtgpplbaloajgdaaW.PrintLast Go.Proofs.YtgpplbaloajgdaaW.PrintMore
set_option linter.unusedVariables false
set_option linter.unusedSimpArgs false
set_option maxRecDepth 100000
instance decIn (N : Nat) (c : Int) : Decidable (Path.inC N c) := by unfold Path.inC; infer_instance
section
variable {n : Nat} {L : List Int} (H : Home n L)
include H
theorem Home.fullDoor {c : Int} (hc : Path.inC (n * n) c) (hf : fullAt n L c = true) : ∃ d rest, doorsL L (cl n c) = d :: rest := by
  have T := H.tri hc
  unfold fullAt at hf
  generalize cl n c = w at *
  have g1 := T.lo
  have g2 := T.ab
  have g3 := T.bc
  have g4 := T.hi
  have r0 := H.lbl.ok (rd w 0) (by omega) (by omega)
  have r1 := H.lbl.ok (rd w 1) (by omega) (by omega)
  have r2 := H.lbl.ok (rd w 2) (by omega) (by omega)
  have nf : rd L (rd w 0) ≠ rd L (rd w 1) ∧ rd L (rd w 0) ≠ rd L (rd w 2) ∧ rd L (rd w 1) ≠ rd L (rd w 2) := of_decide_eq_true hf
  have d1 : dr L [rd w 0, rd w 1] = decide (rd L (rd w 0) + rd L (rd w 1) = 1) := rfl
  have d2 : dr L [rd w 0, rd w 2] = decide (rd L (rd w 0) + rd L (rd w 2) = 1) := rfl
  have d3 : dr L [rd w 1, rd w 2] = decide (rd L (rd w 1) + rd L (rd w 2) = 1) := rfl
  have one : ∀ e, e ∈ edges w → dr L e = true → ∃ d rest, doorsL L w = d :: rest := fun e h1 h2 => by
    have hm : e ∈ doorsL L w := List.mem_filter.2 ⟨h1, h2⟩
    match hE : doorsL L w with
    | [] => rw [hE] at hm; cases hm
    | d :: rest => exact ⟨d, rest, rfl⟩
  by_cases h1 : rd L (rd w 0) + rd L (rd w 1) = 1
  · exact one [rd w 0, rd w 1] (by simp [edges]) (by rw [d1]; exact decide_eq_true h1)
  · by_cases h2 : rd L (rd w 0) + rd L (rd w 2) = 1
    · exact one [rd w 0, rd w 2] (by simp [edges]) (by rw [d2]; exact decide_eq_true h2)
    · exact one [rd w 1, rd w 2] (by simp [edges]) (by rw [d3]; exact decide_eq_true (by omega))
/-- Both walks out of a full room. -/
theorem Home.leave {c : Int} (hc : Path.inC (n * n) c) (hf : fullAt n L c = true) : ∃ vs b, (∀ a0 B, Ev (fun k => impl_house_leave.f k a0 L (cellsT n) B c) (vs, b)) ∧ Ev (fun k => spec_doPartner.f k (n : Int) L c) vs ∧
    ((vs = [] ∧ b = false) ∨ ∃ ws x, vs = ws ++ [x] ∧ ws.length ≤ 64 ∧ Path.inC (n * n) x ∧ fullAt n L x = b) := by
  obtain ⟨d, rest, hE⟩ := H.fullDoor hc hf
  have hd : doorAt n L c d := by unfold doorAt; rw [hE]; exact List.mem_cons_self
  have rg := H.range hc
  have hB := H.house.beyond c d hc hd
  have hb : Path.Begin (beyAt n) (fullAt n L) (doorAt n L) (n * n) (beyAt n c d) d := ⟨fun h0 => by
    rcases hB with e | ⟨b1, b2, b3, b4⟩
    · omega
    · exact ⟨b1, b3⟩, fun h0 => by
    rcases hB with e | ⟨b1, b2, b3, b4⟩
    · omega
    · exact .inr (by rw [b4]; exact hf)⟩
  have hT := H.tri hc
  have ec : rd_L1 (cellsT n) c = cl n c := rfl
  have hI : ∀ a0 B, Ev (fun k => impl_house_doors.f k a0 L (cellsT n) B c) (d :: rest) := fun a0 B => by rw [← hE]; exact idoors_ev H.lbl a0 (cellsT n) B rg.1 rg.2 hT
  have hS : Ev (fun k => spec_doOfCell.f k L (cl n c)) (d :: rest) := by rw [← hE]; exact sdoors_ev H.lbl hT
  have hz : rd_L1 (d :: rest) 0 = d := rfl
  have lift : ∀ r : List Int × List Int × Bool, (∀ a0 B, Ev (fun k => impl_house_walk.f k a0 L (cellsT n) B (beyAt n c d) d) r) → ∀ a0 B, Ev (fun k => impl_house_leave.f k a0 L (cellsT n) B c) (r.1, r.2.2) := fun r hr a0 B => by
    refine Ev.bind (hI a0 B) (ev_pos (by simp) ?_)
    rw [hz]
    exact Ev.bind (beyond_ev H.lenC H.three a0 L B c (H.two hc hd)) (Ev.bind (hr a0 B) (Ev.now _))
  have lift2 : ∀ r : List Int × List Int, Ev (fun k => spec_doWalk.f k (cellsT n) L d (beyAt n c d)) r → Ev (fun k => spec_doPartner.f k (n : Int) L c) r.1 := fun r hr => by
    refine Ev.bind H.side.cellsS (ev_pos rg.1 (ev_pos rg.2 ?_))
    rw [ec]
    refine Ev.bind hS (ev_pos (by simp) ?_)
    rw [hz]
    exact Ev.bind (next_ev H.lenC H.three c (H.two hc hd)) (Ev.bind hr (Ev.now _))
  obtain ⟨K, hK, hw, he⟩ := H.walks _ _ hb
  have bd := fun k (hk : k ≤ n * n) => H.bound (beyAt n c d) d hk
  rcases he with ⟨he, hi, hsp⟩ | ⟨hcx, hfx, hi, hsp⟩
  · cases K with
    | zero => exact ⟨_, _, lift _ hi, lift2 _ hsp, .inl ⟨rfl, rfl⟩⟩
    | succ K =>
      obtain ⟨g1, _⟩ := Path.alive H.house hb K (fun t ht => (hw t (by omega)).1) (fun t ht => (hw t (by omega)).2)
      exact ⟨_, _, lift _ hi, lift2 _ hsp, .inr ⟨_, _, vis_succ _ _ _, bd K (by omega), (g1 K (Nat.le_refl _)).1, (hw K (by omega)).2⟩⟩
  · exact ⟨_, _, lift _ hi, lift2 _ hsp, .inr ⟨_, _, vis_succ _ _ _, bd K hK, hcx, hfx⟩⟩
/-- Is this a cell? -/
theorem Home.cellI (c : Int) : impl_isCell.f (n : Int) c = some (decide (Path.inC (n * n) c)) := by
  have hn := H.nn
  have e : (n : Int) * (n : Int) = ((n * n : Nat) : Int) := by push_cast; rfl
  have w1 : wrap64 ((n * n : Nat) : Int) = ((n * n : Nat) : Int) := wr (by omega) (by omega)
  unfold impl_isCell.f
  rw [side_impl, e, w1, wr (by omega) (by omega), in_impl, decide_eq_true (show (1 : Int) ≤ (n : Int) ∧ (n : Int) ≤ 8 by have := H.side.lo; have := H.side.hi; omega)]
  show some _ = some _
  rw [Option.some.injEq, decide_eq_decide]
  unfold Path.inC; omega
theorem Home.cellS (c : Int) : spec_l1In.f c 0 (wrap64 ((wrap64 ((n : Int) * (n : Int))) - 1)) = some (decide (Path.inC (n * n) c)) := by
  have hn := H.nn
  have e : (n : Int) * (n : Int) = ((n * n : Nat) : Int) := by push_cast; rfl
  have w1 : wrap64 ((n * n : Nat) : Int) = ((n * n : Nat) : Int) := wr (by omega) (by omega)
  rw [e, w1, wr (by omega) (by omega), in_spec, Option.some.injEq, decide_eq_decide]
  unfold Path.inC; omega
end
end Go.Proofs.Ytgpplbaloajgdaa.QFnExactPartnerOfFull
