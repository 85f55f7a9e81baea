/- Doors of the border; what the program's and the reference's walk tell that come in at one. -/
import Derived.Test.YtgpplbaloajgdaaQFnExactFindFullWalks
namespace Go.Proofs.Ytgpplbaloajgdaa.QFnExactFindFull
open Go.RowKit Go.Proofs.Ytgpplbaloajgdaa.PFnExactFindFull Go.Proofs.YtgpplbaloajgdaaW.PrintWords Go.Proofs.YtgpplbaloajgdaaW.PrintLast Go.Proofs.YtgpplbaloajgdaaW.PrintMore
set_option linter.unusedVariables false
set_option linter.unusedSimpArgs false
set_option maxRecDepth 100000
theorem cnt_tab : ((List.range 9).all fun n => n == 0 || decide (cnt (n : Int) = (many n : Int))) = true := by decide +kernel
/-- Labels that are taken. -/
theorem home_of {a : Int} {l : List Int} (h : labB a l = true) : ∃ n : Nat, a = (n : Int) ∧ Home n l := by
  unfold labB at h
  simp only [Bool.and_eq_true, decide_eq_true_eq] at h
  obtain ⟨⟨h1, h2⟩, h3, h4⟩ := h
  have e : a = ((a.toNat : Nat) : Int) := by omega
  have s : Side a.toNat := ⟨by omega, by omega⟩
  refine ⟨a.toNat, e, s, ?_⟩
  rw [e] at h3
  have c := of_decide_eq_true (s.tab cnt_tab)
  exact lbl_of (by omega) (by have := many_le s.hi; omega) h4
def step (B : List Int) (t : Nat) : List Int := [rd B (t : Int), rd B (Int.ofNat ((t + 1) % B.length))]
theorem stepsT_eq (B : List Int) : stepsT B = (List.range B.length).map (step B) := rfl
theorem steps_loop (a0 : Int) (L : List Int) (C : List (List Int)) (B : List Int) (hB : B.length ≤ 1000) : ∀ d i : Nat, i + d = B.length → Ev (fun k => impl_house_steps.l0 k ((List.range i).map (step B)) B (B.length : Int) (i : Int) a0 L C B) (stepsT B)
  | 0, i, h => Ev.step (fun f => impl_house_steps.l0.eq_2 ..) (ev_neg (by omega) (ev_eq (Ev.now _) (by rw [stepsT_eq, show i = B.length from h])))
  | d + 1, i, h => by
    have ih := steps_loop a0 L C B hB d (i + 1) (by omega)
    have ht : Int.tmod (wrap64 ((i : Int) + 1)) (B.length : Int) = Int.ofNat ((i + 1) % B.length) := by rw [wr (by omega) (by omega)]; rfl
    have hm := Nat.mod_lt (i + 1) (show B.length > 0 by omega)
    refine Ev.step (fun f => impl_house_steps.l0.eq_2 ..) (ev_pos (by omega) (ev_pos (by omega) (ev_pos (by omega) (ev_neg (by omega) ?_))))
    rw [ht]
    refine ev_pos (Int.natCast_nonneg _) (ev_pos (Int.ofNat_lt.2 hm) (ev_pos (by rw [List.length_map, List.length_range]; omega) ?_))
    rw [wr (by omega) (by omega)]
    rw [List.range_succ, List.map_append] at ih
    exact ih
section
variable {n : Nat} {L : List Int} (H : Home n L)
include H
theorem Home.lenB : (bordT n).length ≤ 24 := by rw [H.side.geo.2.1]; have := H.side.hi; omega
theorem Home.step {s : List Int} (hs : s ∈ stepsT (bordT n)) : ∃ x y, s = [x, y] ∧ (0 ≤ x ∧ x < (many n : Int)) ∧ (0 ≤ y ∧ y < (many n : Int)) := by
  have a := H.side.geo.2.2.2 s hs
  rw [stepsT_eq] at hs
  obtain ⟨t, _, e⟩ := List.mem_map.1 hs
  unfold okStep at a
  simp only [Bool.and_eq_true, decide_eq_true_eq] at a
  refine ⟨rd s 0, rd s 1, ?_, ⟨a.1.1.1.1, a.1.1.1.2⟩, ⟨a.1.1.2, a.1.2⟩⟩
  rw [← e]; rfl
theorem Home.steps_ev (a0 : Int) (C : List (List Int)) : Ev (fun k => impl_house_steps.f k a0 L C (bordT n)) (stepsT (bordT n)) :=
  steps_loop a0 L C (bordT n) (Nat.le_trans H.lenB (by decide)) (bordT n).length 0 (Nat.zero_add _)
/-- The doors of the border. -/
def gates (n : Nat) (L : List Int) : List (List Int) := (stepsT (bordT n)).filter (dr L)
theorem Home.entry (a0 : Int) (C : List (List Int)) (B : List Int) {s : List Int} (hs : s ∈ stepsT (bordT n)) : impl_house_entries_1.f s [(⟨a0, L, C, B⟩ : S42)] = some (!dr L s) := by
  obtain ⟨x, y, e, hx, hy⟩ := H.step hs
  subst e
  have hd := isDoor_eq H.lbl a0 C B hx hy
  unfold impl_house_entries_1.f
  rw [if_pos (by simp), if_pos (by simp), if_pos (by simp)]
  show (impl_house_isDoor.f a0 L C B x y).bind _ = _
  rw [hd]; rfl
theorem Home.entries_ev (a0 : Int) (C : List (List Int)) : Ev (fun k => impl_house_entries.f k a0 L C (bordT n)) (gates n L) := by
  refine Ev.bind (H.steps_ev a0 C) (ev_pos ?_ (ev_eq (Ev.now _) ?_))
  · rw [Bool.and_eq_true, decide_eq_true_eq]
    refine ⟨List.all_eq_true.2 fun s hs => by rw [H.entry a0 C (bordT n) hs]; rfl, ?_⟩
    rw [stepsT_eq, List.length_map, List.length_range]
    have := H.lenB; omega
  · unfold gates
    refine List.filter_congr fun s hs => ?_
    unfold impl_house_entries.q
    rw [H.entry a0 C (bordT n) hs]
    cases dr L s <;> rfl
theorem Home.border_loop : ∀ d i : Nat, i + d = (bordT n).length → Ev (fun k => spec_doBorder.l0 k L (bordT n) (((List.range i).map (QFnExactFindFull.step (bordT n))).filter (dr L)) (bordT n) ((bordT n).length : Int) (i : Int)) (gates n L)
  | 0, i, h => Ev.step (fun f => spec_doBorder.l0.eq_2 ..) (ev_neg (by omega) (ev_eq (Ev.now _) (by unfold gates; rw [stepsT_eq, show i = (bordT n).length from h])))
  | d + 1, i, h => by
    have ih := Home.border_loop d (i + 1) (by omega)
    have hB := H.lenB
    have ht : Int.tmod (wrap64 ((i : Int) + 1)) ((bordT n).length : Int) = Int.ofNat ((i + 1) % (bordT n).length) := by rw [wr (by omega) (by omega)]; rfl
    have hm := Nat.mod_lt (i + 1) (show (bordT n).length > 0 by omega)
    have hst : QFnExactFindFull.step (bordT n) i ∈ stepsT (bordT n) := by rw [stepsT_eq]; exact List.mem_map_of_mem (List.mem_range.2 (by omega))
    obtain ⟨x, y, e, hx, hy⟩ := H.step hst
    have e1 : rd (bordT n) (i : Int) = x := by
      have := congrArg (fun l : List Int => rd l 0) e; exact this
    have e2 : rd (bordT n) (Int.ofNat ((i + 1) % (bordT n).length)) = y := by
      have := congrArg (fun l : List Int => rd l 1) e; exact this
    have hf := List.length_filter_le (dr L) ((List.range i).map (QFnExactFindFull.step (bordT n)))
    rw [List.length_map, List.length_range] at hf
    refine Ev.step (fun f => spec_doBorder.l0.eq_2 ..) (ev_pos (by omega) (ev_pos (by omega) (ev_pos (by omega) (ev_neg (by omega) ?_))))
    rw [ht]
    refine ev_pos (Int.natCast_nonneg _) (ev_pos (Int.ofNat_lt.2 hm) ?_)
    rw [e1, e2, wr (by omega) (by omega)]
    rw [List.range_succ, List.map_append, List.filter_append, List.map_singleton, e, List.filter_cons, List.filter_nil] at ih
    refine ev_bind0 (doDoor_eq H.lbl hx hy) ?_
    by_cases hd : dr L [x, y] = true
    · rw [if_pos hd] at ih
      exact ev_pos hd (ev_pos (by omega) ih)
    · rw [if_neg hd, List.append_nil] at ih
      exact ev_neg hd ih
theorem Home.border_ev : Ev (fun k => spec_doBorder.f k (n : Int) L) (gates n L) :=
  Ev.bind H.side.bordS (H.border_loop (bordT n).length 0 (Nat.zero_add _))
omit H in
theorem dr_inner (L : List Int) (s : List Int) : dr L (inner s) = dr L s := by
  have e0 : rd (inner s) 0 = mn (rd s 0) (rd s 1) := rfl
  have e1 : rd (inner s) 1 = mx (rd s 0) (rd s 1) := rfl
  unfold dr
  rw [e0, e1, decide_eq_decide]
  unfold mn mx
  by_cases h : rd s 1 < rd s 0
  · rw [if_pos h, if_neg (by omega)]; omega
  · by_cases h2 : rd s 0 < rd s 1
    · rw [if_neg h, if_pos h2]
    · rw [if_neg h, if_neg h2, show rd s 1 = rd s 0 by omega]
theorem Home.begin {s : List Int} (hs : s ∈ gates n L) : 0 ≤ beyAt n (-1) (inner s) ∧ Path.Begin (beyAt n) (fullAt n L) (doorAt n L) (n * n) (beyAt n (-1) (inner s)) (inner s) := by
  obtain ⟨hs, hd⟩ := List.mem_filter.1 hs
  have a := H.side.geo.2.2.2 s hs
  unfold okStep at a
  simp only [Bool.and_eq_true] at a
  have b := a.2
  have hlen := H.len
  revert b
  unfold beyAt bey
  generalize hW : wth (cellsT n) (rd (inner s) 0) (rd (inner s) 1) = W
  intro b
  match W, b, hW with
  | [p], b, hW =>
    simp only [Bool.and_eq_true, decide_eq_true_eq] at b
    obtain ⟨⟨b1, b2⟩, b3⟩ := b
    have x1 : fb [p] (-1) = p := by simp [fb]; omega
    rw [x1]
    refine ⟨b1, fun _ => ⟨⟨b1, by omega⟩, ?_⟩, fun _ => .inl (by show fb (wth (cellsT n) (rd (inner s) 0) (rd (inner s) 1)) p = -1; rw [hW]; unfold fb; rw [if_pos rfl]; rfl)⟩
    unfold doorAt doorsL cl
    exact List.mem_filter.2 ⟨List.contains_iff_mem.1 b3, by rw [dr_inner]; exact hd⟩
omit H in
theorem doInner_eq (x y : Int) : spec_doInner.f x y = some [mn x y, mx x y] := by
  unfold spec_doInner.f spec_l1Least.f spec_l1Most.f mn mx
  by_cases h : x < y
  · rw [if_pos h, if_neg (by omega), if_neg (by omega), if_pos h]; rfl
  · by_cases h2 : y < x
    · rw [if_neg h, if_pos h2, if_pos h2, if_neg h]; rfl
    · rw [if_neg h, if_neg h2, if_neg h2, if_neg h, show x = y by omega]; rfl
/-- Both walks in at a door of the border. -/
theorem Home.enter {s : List Int} (hs : s ∈ gates n L) : ∃ vs x dd b, vs.length ≤ 64 ∧ Path.inC (n * n) x ∧ fullAt n L x = b ∧ (∀ a0 B, Ev (fun k => impl_house_enter.f k a0 L (cellsT n) B (rd s 0) (rd s 1)) (vs ++ [x], dd, b)) ∧ Ev (fun k => spec_doFrom.f k (n : Int) L (rd s 0) (rd s 1)) (vs ++ [x], dd) := by
  obtain ⟨h0, hb⟩ := H.begin hs
  have hin : (inner s).length = 2 := rfl
  have lift : ∀ r : List Int × List Int × Bool, (∀ a0 B, Ev (fun k => impl_house_walk.f k a0 L (cellsT n) B (beyAt n (-1) (inner s)) (inner s)) r) → ∀ a0 B, Ev (fun k => impl_house_enter.f k a0 L (cellsT n) B (rd s 0) (rd s 1)) r := fun r hr a0 B =>
    ev_bind0 rfl (Ev.bind (beyond_ev H.lenC H.three a0 L B (-1) (d := inner s) hin) (Ev.bind (hr a0 B) (Ev.now _)))
  have lift2 : ∀ r : List Int × List Int, Ev (fun k => spec_doWalk.f k (cellsT n) L (inner s) (beyAt n (-1) (inner s))) r → Ev (fun k => spec_doFrom.f k (n : Int) L (rd s 0) (rd s 1)) r := fun r hr =>
    Ev.bind H.side.cellsS (ev_bind0 (doInner_eq _ _) (ev_bind0 (doInner_eq _ _) (Ev.bind (next_ev H.lenC H.three (-1) (d := inner s) hin) (Ev.bind hr (Ev.now _)))))
  obtain ⟨K, hK, hw, he⟩ := H.walks _ _ hb
  have bd := fun k (hk : k ≤ n * n) => H.bound (beyAt n (-1) (inner s)) (inner s) hk
  rcases he with ⟨he, hi, hsp⟩ | ⟨hc, hf, hi, hsp⟩
  · cases K with
    | zero => exact absurd h0 (by have : (at_ n L (beyAt n (-1) (inner s)) (inner s) 0).1 = beyAt n (-1) (inner s) := rfl; omega)
    | succ K =>
      rw [vis_succ] at hi hsp
      obtain ⟨g1, _⟩ := Path.alive H.house hb K (fun t ht => (hw t (by omega)).1) (fun t ht => (hw t (by omega)).2)
      exact ⟨_, _, _, _, bd K (by omega), (g1 K (Nat.le_refl _)).1, (hw K (by omega)).2, lift _ hi, lift2 _ hsp⟩
  · rw [vis_succ] at hi hsp
    exact ⟨_, _, _, _, bd K hK, hc, hf, lift _ hi, lift2 _ hsp⟩
end
end Go.Proofs.Ytgpplbaloajgdaa.QFnExactFindFull
