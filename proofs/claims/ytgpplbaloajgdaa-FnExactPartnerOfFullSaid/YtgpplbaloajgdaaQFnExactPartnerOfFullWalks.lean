/- The rooms of a labelled triangle are a house; the walks of the program's and of the reference's are the walk of that house. -/
import Derived.Test.YtgpplbaloajgdaaQFnExactPartnerOfFullRooms
import Derived.Test.YtgpplbaloajgdaaQFnExactPartnerOfFullPath
namespace Go.Proofs.Ytgpplbaloajgdaa.QFnExactPartnerOfFull
open Go.RowKit Go.Proofs.Ytgpplbaloajgdaa.PFnExactPartnerOfFull Go.Proofs.YtgpplbaloajgdaaW.PrintWords Go.Proofs.YtgpplbaloajgdaaW.PrintLast Go.Proofs.YtgpplbaloajgdaaW.PrintMore
set_option linter.unusedVariables false
set_option linter.unusedSimpArgs false
set_option maxRecDepth 100000
/-- Labels of a triangle. -/
structure Home (n : Nat) (L : List Int) : Prop where
  side : Side n
  lbl : Lbl L (many n)
def cl (n : Nat) (c : Int) : List Int := (cellsT n).getD c.toNat []
def fullAt (n : Nat) (L : List Int) (c : Int) : Bool := fullL L (cl n c)
def doorAt (n : Nat) (L : List Int) (c : Int) (d : List Int) : Prop := d ∈ doorsL L (cl n c)
def othAt (n : Nat) (L : List Int) (c : Int) (d : List Int) : List Int := fo (doorsL L (cl n c)) d
def beyAt (n : Nat) (c : Int) (d : List Int) : Int := bey (cellsT n) c d
theorem getD_lt {l : List (List Int)} {i : Nat} (h : i < l.length) : l.getD i [] ∈ l := by
  rw [List.getD_eq_getElem?_getD, List.getElem?_eq_getElem h]; exact List.getElem_mem h
section
variable {n : Nat} {L : List Int} (H : Home n L)
include H
theorem Home.nn : n * n ≤ 64 := Nat.le_trans (Nat.mul_le_mul H.side.hi H.side.hi) (by decide)
theorem Home.len : (cellsT n).length = n * n := H.side.geo.1
theorem Home.lenC : (cellsT n).length ≤ 100 := by rw [H.len]; have := H.nn; omega
theorem Home.cell {c : Int} (hc : Path.inC (n * n) c) : okCell (cellsT n) (many n) c.toNat = true := H.side.geo.2.2.1 _ (by unfold Path.inC at hc; omega)
theorem Home.tri {c : Int} (hc : Path.inC (n * n) c) : Tri (cl n c) (many n) := by
  have a := H.cell hc
  unfold okCell at a
  simp only [Bool.and_eq_true, decide_eq_true_eq] at a
  exact ⟨a.1.1.1.1.1, a.1.1.1.1.2, a.1.1.1.2, a.1.1.2, a.1.2⟩
theorem Home.three : ∀ c ∈ cellsT n, c.length = 3 := fun c hc => by
  obtain ⟨i, hi, e⟩ := List.getElem_of_mem hc
  have := (H.tri (c := (i : Int)) (by unfold Path.inC; rw [← H.len]; omega)).len
  unfold cl at this
  rw [Int.toNat_natCast, List.getD_eq_getElem?_getD, List.getElem?_eq_getElem hi] at this
  rw [← e]; exact this
theorem Home.range {c : Int} (hc : Path.inC (n * n) c) : 0 ≤ c ∧ c < ((cellsT n).length : Int) := by rw [H.len]; exact hc
/-- A door has two ends. -/
theorem Home.two {c : Int} (hc : Path.inC (n * n) c) {d : List Int} (hd : doorAt n L c d) : d.length = 2 := by
  unfold doorAt doorsL at hd
  obtain ⟨x, y, e, _⟩ := edges_ok (H.tri hc) d (List.mem_filter.1 hd).1
  rw [e]; rfl
theorem Home.oth2 {c : Int} {d : List Int} (hc : Path.inC (n * n) c) (hf : fullAt n L c = false) (hd : doorAt n L c d) : doorAt n L c (othAt n L c d) ∧ othAt n L c d ≠ d ∧ ∀ e, doorAt n L c e → e = d ∨ e = othAt n L c d := by
    have T := H.tri hc
    unfold fullAt at hf
    unfold doorAt othAt at *
    generalize cl n c = w at *
    have g1 := T.lo
    have g2 := T.ab
    have g3 := T.bc
    have g4 := T.hi
    have r0 := H.lbl.ok (rd w 0) (by omega) (by omega)
    have r1 := H.lbl.ok (rd w 1) (by omega) (by omega)
    have r2 := H.lbl.ok (rd w 2) (by omega) (by omega)
    have nf : ¬ (rd L (rd w 0) ≠ rd L (rd w 1) ∧ rd L (rd w 0) ≠ rd L (rd w 2) ∧ rd L (rd w 1) ≠ rd L (rd w 2)) := of_decide_eq_false hf
    have n1 : ([rd w 0, rd w 1] : List Int) ≠ [rd w 0, rd w 2] := fun e => by simp at e; omega
    have n2 : ([rd w 0, rd w 1] : List Int) ≠ [rd w 1, rd w 2] := fun e => by simp at e; omega
    have n3 : ([rd w 0, rd w 2] : List Int) ≠ [rd w 1, rd w 2] := fun e => by simp at e; omega
    have d1 : dr L [rd w 0, rd w 1] = decide (rd L (rd w 0) + rd L (rd w 1) = 1) := rfl
    have d2 : dr L [rd w 0, rd w 2] = decide (rd L (rd w 0) + rd L (rd w 2) = 1) := rfl
    have d3 : dr L [rd w 1, rd w 2] = decide (rd L (rd w 1) + rd L (rd w 2) = 1) := rfl
    have two : ∀ X Y : List Int, X ≠ Y → d ∈ [X, Y] → fo [X, Y] d ∈ [X, Y] ∧ fo [X, Y] d ≠ d ∧ ∀ e, e ∈ [X, Y] → e = d ∨ e = fo [X, Y] d := fun X Y hne hm => by
      rcases List.mem_cons.1 hm with e | e
      · subst e
        have : fo [d, Y] d = Y := by simp [fo, hne.symm]
        rw [this]
        exact ⟨by simp, hne.symm, fun e he => by simpa using he⟩
      · have e := List.mem_singleton.1 e
        subst e
        have : fo [X, d] d = X := by simp [fo, hne]
        rw [this]
        exact ⟨by simp, hne, fun e he => by rcases List.mem_cons.1 he with h | h; · exact .inr h
                                            · exact .inl (List.mem_singleton.1 h)⟩
    by_cases h1 : rd L (rd w 0) + rd L (rd w 1) = 1
    · by_cases h2 : rd L (rd w 0) + rd L (rd w 2) = 1
      · have h3 : ¬ rd L (rd w 1) + rd L (rd w 2) = 1 := by omega
        have E : doorsL L w = [[rd w 0, rd w 1], [rd w 0, rd w 2]] := by simp [doorsL, edges, List.filter_cons, d1, d2, d3, h1, h2, h3]
        rw [E] at hd ⊢
        exact two _ _ n1 hd
      · have h3 : rd L (rd w 1) + rd L (rd w 2) = 1 := by omega
        have E : doorsL L w = [[rd w 0, rd w 1], [rd w 1, rd w 2]] := by simp [doorsL, edges, List.filter_cons, d1, d2, d3, h1, h2, h3]
        rw [E] at hd ⊢
        exact two _ _ n2 hd
    · by_cases h2 : rd L (rd w 0) + rd L (rd w 2) = 1
      · have h3 : rd L (rd w 1) + rd L (rd w 2) = 1 := by omega
        have E : doorsL L w = [[rd w 0, rd w 2], [rd w 1, rd w 2]] := by simp [doorsL, edges, List.filter_cons, d1, d2, d3, h1, h2, h3]
        rw [E] at hd ⊢
        exact two _ _ n3 hd
      · have h3 : ¬ rd L (rd w 1) + rd L (rd w 2) = 1 := by omega
        have E : doorsL L w = [] := by simp [doorsL, edges, List.filter_cons, d1, d2, d3, h1, h2, h3]
        rw [E] at hd
        cases hd
theorem Home.bey2 {c : Int} {d : List Int} (hc : Path.inC (n * n) c) (hd : doorAt n L c d) : beyAt n c d = -1 ∨ (Path.inC (n * n) (beyAt n c d) ∧ beyAt n c d ≠ c ∧ doorAt n L (beyAt n c d) d ∧ beyAt n (beyAt n c d) d = c) := by
    have a := H.cell hc
    unfold doorAt doorsL at hd
    obtain ⟨he, hdr⟩ := List.mem_filter.1 hd
    unfold okCell at a
    simp only [Bool.and_eq_true] at a
    have b := List.all_eq_true.1 a.2 d he
    have hn := H.len
    have hc' := hc
    unfold Path.inC at hc'
    unfold beyAt bey
    have here : ((c.toNat : Nat) : Int) = c := by omega
    have door2 : ∀ q : Int, (edges ((cellsT n).getD q.toNat [])).contains d = true → doorAt n L q d := fun q hq => by
      unfold doorAt doorsL cl
      exact List.mem_filter.2 ⟨List.contains_iff_mem.1 hq, hdr⟩
    revert b
    generalize wth (cellsT n) (rd d 0) (rd d 1) = W
    intro b
    match W, b with
    | [p], b =>
      have e : p = c := by have := of_decide_eq_true b; omega
      exact .inl (by simp [fb, e])
    | [p, q], b =>
      simp only [Bool.or_eq_true, Bool.and_eq_true, decide_eq_true_eq] at b
      rcases b with b | b
      · obtain ⟨⟨⟨⟨b1, b2⟩, b3⟩, b4⟩, b5⟩ := b
        have e1 : p = c := by omega
        have e2 : q ≠ c := by omega
        subst e1
        have x1 : fb [p, q] p = q := by simp [fb, e2]
        have x2 : fb [p, q] q = p := by simp [fb, e2.symm]
        rw [x1, x2]
        exact .inr ⟨⟨b3, by omega⟩, e2, door2 q b5, rfl⟩
      · obtain ⟨⟨⟨⟨b1, b2⟩, b3⟩, b4⟩, b5⟩ := b
        have e1 : q = c := by omega
        have e2 : p ≠ c := by omega
        subst e1
        have x1 : fb [p, q] q = p := by simp [fb, e2]
        have x2 : fb [p, q] p = q := by simp [fb, e2.symm]
        rw [x1, x2]
        exact .inr ⟨⟨b3, by omega⟩, e2, door2 p b5, rfl⟩
theorem Home.house : Path.House (beyAt n) (othAt n L) (fullAt n L) (doorAt n L) (n * n) := ⟨fun c d hc hf hd => H.oth2 hc hf hd, fun c d hc hd => H.bey2 hc hd⟩
end
/-! ### walks -/
section
variable {n : Nat} {L : List Int} (H : Home n L) (c0 : Int) (d0 : List Int)
def at_ (n : Nat) (L : List Int) (c0 : Int) (d0 : List Int) (i : Nat) : Int × List Int := Path.sq (beyAt n) (othAt n L) c0 d0 i
def vis (n : Nat) (L : List Int) (c0 : Int) (d0 : List Int) (k : Nat) : List Int := (List.range k).map fun i => (at_ n L c0 d0 i).1
theorem vis_len (k : Nat) : (vis n L c0 d0 k).length = k := by unfold vis; rw [List.length_map, List.length_range]
theorem vis_succ (k : Nat) : vis n L c0 d0 (k + 1) = vis n L c0 d0 k ++ [(at_ n L c0 d0 k).1] := by unfold vis; rw [List.range_succ, List.map_append]; rfl
include H
theorem Home.other {a0 : Int} {B : List Int} {c : Int} (hc : Path.inC (n * n) c) {d : List Int} (hd : doorAt n L c d) : Ev (fun k => impl_house_other.f k a0 L (cellsT n) B c d) (othAt n L c d) := by
  have r := H.range hc
  refine Ev.bind (idoors_ev H.lbl a0 (cellsT n) B r.1 r.2 (H.tri hc)) ?_
  refine other_loop _ (Nat.le_trans (List.length_filter_le _ _) (by simp [edges])) (fun e he => ?_) d _ 0 (Nat.zero_add _)
  rw [H.two hc he]; omega
theorem Home.bound {k : Nat} (hk : k ≤ n * n) : (vis n L c0 d0 k).length ≤ 64 := by rw [vis_len]; exact Nat.le_trans hk H.nn
theorem Home.iwalk (b : Path.Begin (beyAt n) (fullAt n L) (doorAt n L) (n * n) c0 d0) {K : Nat} (hK : K ≤ n * n) (hw : ∀ i, i < K → 0 ≤ (at_ n L c0 d0 i).1 ∧ fullAt n L (at_ n L c0 d0 i).1 = false) (a0 : Int) (B : List Int) {r : List Int × List Int × Bool}
    (hr : Ev (fun k => impl_house_walk.l0 k (at_ n L c0 d0 K).1 (at_ n L c0 d0 K).2 (vis n L c0 d0 K) a0 L (cellsT n) B) r) : ∀ j i, i + j = K → Ev (fun k => impl_house_walk.l0 k (at_ n L c0 d0 i).1 (at_ n L c0 d0 i).2 (vis n L c0 d0 i) a0 L (cellsT n) B) r
  | 0, i, h => by
    have : i = K := h
    subst this
    exact hr
  | j + 1, i, h => by
    obtain ⟨g1, _⟩ := Path.alive H.house b i (fun t ht => (hw t (by omega)).1) (fun t ht => (hw t (by omega)).2)
    obtain ⟨hc, hd⟩ := g1 i (Nat.le_refl _)
    obtain ⟨h0, hf⟩ := hw i (by omega)
    have rg := H.range hc
    have bd := H.bound c0 d0 (k := i) (by omega)
    have ho := (H.house.other _ _ hc hf hd).1
    have ih := Home.iwalk b hK hw a0 B hr j (i + 1) (by omega)
    refine Ev.step (fun f => impl_house_walk.l0.eq_2 ..) (ev_pos h0 (ev_pos (by omega) (ev_bind0 rfl (ev_bind0 (isFull_eq H.lbl a0 (cellsT n) B rg.1 rg.2 (H.tri hc)) (ev_neg ?_ (Ev.bind (H.other hc hd) (Ev.bind (beyond_ev H.lenC H.three a0 L B _ (H.two hc ho)) ?_)))))))
    · intro e
      have : fullAt n L (at_ n L c0 d0 i).1 = true := e
      rw [hf] at this; cases this
    · rw [← vis_succ]; exact ih
theorem Home.sl1 {c : Int} (hc : Path.inC (n * n) c) {d : List Int} {acc : List Int} {r : List Int × List Int} (E : List (List Int)) (hE : E.length ≤ 1000) (he : ∀ e ∈ E, e.length = 2) : ∀ q i : Nat, i + q = E.length → (∃ e ∈ E.drop i, e ≠ d) →
    Ev (fun k => spec_doWalk.l0 k (cellsT n) L (fo (E.drop i) d) (beyAt n c (fo (E.drop i) d)) acc) r → Ev (fun k => spec_doWalk.l1 k (cellsT n) L d c acc E (E.length : Int) (i : Int)) r
  | 0, i, h, ⟨e, hm, _⟩, _ => by rw [List.drop_eq_nil_of_le (by omega)] at hm; cases hm
  | q + 1, i, h, hm, hr => by
    have hlt : i < E.length := by omega
    have er : rd_L1 E (i : Int) = E[i] := by unfold rd_L1; rw [Int.toNat_natCast, List.getD_eq_getElem?_getD, List.getElem?_eq_getElem hlt]; rfl
    have hl := he _ (List.getElem_mem hlt)
    rw [List.drop_eq_getElem_cons hlt] at hm hr
    rw [fo] at hr
    refine Ev.step (fun f => spec_doWalk.l1.eq_2 ..) (ev_pos (by omega) (ev_pos (by omega) (ev_pos (by omega) ?_)))
    rw [er, wr (by omega) (by omega)]
    refine Ev.bind (same_ev _ _ (by omega)) ?_
    by_cases e : E[i] = d
    · rw [if_pos e] at hr
      refine ev_pos (decide_eq_true e) (Home.sl1 hc E hE he q (i + 1) (by omega) ?_ hr)
      obtain ⟨e', hm, hne⟩ := hm
      rcases List.mem_cons.1 hm with e2 | e2
      · exact absurd (e2.trans e) hne
      · exact ⟨e', e2, hne⟩
    · rw [if_neg e] at hr
      exact ev_neg (by rw [decide_eq_false e]; decide) (Ev.bind (next_ev H.lenC H.three c hl) hr)
theorem Home.swalk (b : Path.Begin (beyAt n) (fullAt n L) (doorAt n L) (n * n) c0 d0) {K : Nat} (hK : K ≤ n * n) (hw : ∀ i, i < K → 0 ≤ (at_ n L c0 d0 i).1 ∧ fullAt n L (at_ n L c0 d0 i).1 = false) {r : List Int × List Int}
    (hr : Ev (fun k => spec_doWalk.l0 k (cellsT n) L (at_ n L c0 d0 K).2 (at_ n L c0 d0 K).1 (vis n L c0 d0 K)) r) : ∀ j i, i + j = K → Ev (fun k => spec_doWalk.l0 k (cellsT n) L (at_ n L c0 d0 i).2 (at_ n L c0 d0 i).1 (vis n L c0 d0 i)) r
  | 0, i, h => by
    have : i = K := h
    subst this
    exact hr
  | j + 1, i, h => by
    obtain ⟨g1, _⟩ := Path.alive H.house b i (fun t ht => (hw t (by omega)).1) (fun t ht => (hw t (by omega)).2)
    obtain ⟨hc, hd⟩ := g1 i (Nat.le_refl _)
    obtain ⟨h0, hf⟩ := hw i (by omega)
    have rg := H.range hc
    have bd := H.bound c0 d0 (k := i) (by omega)
    obtain ⟨o1, o2, o3⟩ := H.house.other _ _ hc hf hd
    have ih := Home.swalk b hK hw hr j (i + 1) (by omega)
    have ec : rd_L1 (cellsT n) (at_ n L c0 d0 i).1 = cl n (at_ n L c0 d0 i).1 := rfl
    have hlen := H.len
    have hvl : (vis n L c0 d0 i).length = i := vis_len c0 d0 i
    refine Ev.step (fun f => spec_doWalk.l0.eq_2 ..) (ev_pos h0 ?_)
    refine Ev.step (fun f => spec_doWalk.j1.eq_2 ..) (ev_pos (decide_eq_true (by omega)) (ev_pos (by omega) (ev_bind0 rfl (ev_pos h0 (ev_pos rg.2 ?_)))))
    rw [ec]
    refine Ev.bind (doFull_ev H.lbl (H.tri hc)) (ev_neg ?_ (Ev.bind (sdoors_ev H.lbl (H.tri hc)) ?_))
    · intro e
      have : fullAt n L (at_ n L c0 d0 i).1 = true := e
      rw [hf] at this; cases this
    · refine H.sl1 hc _ (Nat.le_trans (List.length_filter_le _ _) (by simp [edges])) (fun e he => H.two hc he) _ 0 (Nat.zero_add _) ⟨_, o1, o2⟩ ?_
      rw [← vis_succ]; exact ih
/-- Both walks. -/
theorem Home.walks (b : Path.Begin (beyAt n) (fullAt n L) (doorAt n L) (n * n) c0 d0) : ∃ K, K ≤ n * n ∧ (∀ i, i < K → 0 ≤ (at_ n L c0 d0 i).1 ∧ fullAt n L (at_ n L c0 d0 i).1 = false) ∧
    (((at_ n L c0 d0 K).1 < 0 ∧ (∀ a0 B, Ev (fun k => impl_house_walk.f k a0 L (cellsT n) B c0 d0) (vis n L c0 d0 K, (at_ n L c0 d0 K).2, false)) ∧ Ev (fun k => spec_doWalk.f k (cellsT n) L d0 c0) (vis n L c0 d0 K, (at_ n L c0 d0 K).2)) ∨
     (Path.inC (n * n) (at_ n L c0 d0 K).1 ∧ fullAt n L (at_ n L c0 d0 K).1 = true ∧ (∀ a0 B, Ev (fun k => impl_house_walk.f k a0 L (cellsT n) B c0 d0) (vis n L c0 d0 (K + 1), (at_ n L c0 d0 K).2, true)) ∧ Ev (fun k => spec_doWalk.f k (cellsT n) L d0 c0) (vis n L c0 d0 (K + 1), (at_ n L c0 d0 K).2))) := by
  obtain ⟨K, hK, hw, he⟩ := Path.ends H.house b
  refine ⟨K, hK, hw, ?_⟩
  have bd := H.bound c0 d0 hK
  have hlen := H.len
  have hvl : (vis n L c0 d0 K).length = K := vis_len c0 d0 K
  rcases he with he | ⟨he, hf⟩
  · refine .inl ⟨he, fun a0 B => ?_, ?_⟩
    · refine H.iwalk c0 d0 b hK hw a0 B ?_ K 0 (by omega)
      exact Ev.step (fun f => impl_house_walk.l0.eq_2 ..) (ev_neg (by unfold at_; omega) (Ev.now _))
    · refine H.swalk c0 d0 b hK hw ?_ K 0 (by omega)
      refine Ev.step (fun f => spec_doWalk.l0.eq_2 ..) (ev_neg (by unfold at_; omega) ?_)
      exact Ev.step (fun f => spec_doWalk.j1.eq_2 ..) (ev_neg (by decide) (Ev.now _))
  · obtain ⟨g1, _⟩ := Path.alive H.house b K (fun t ht => by
      rcases Nat.lt_or_ge t K with h | h
      · exact (hw t h).1
      · have : t = K := by omega
        subst this; exact he) (fun t ht => (hw t ht).2)
    obtain ⟨hc, hd⟩ := g1 K (Nat.le_refl _)
    have rg := H.range hc
    have h0 : (at_ n L c0 d0 K).1 ≥ 0 := he
    refine .inr ⟨hc, hf, fun a0 B => ?_, ?_⟩
    · refine H.iwalk c0 d0 b hK hw a0 B ?_ K 0 (by omega)
      refine Ev.step (fun f => impl_house_walk.l0.eq_2 ..) (ev_pos h0 (ev_pos (by omega) (ev_bind0 rfl (ev_bind0 (isFull_eq H.lbl a0 (cellsT n) B rg.1 rg.2 (H.tri hc)) (ev_pos hf ?_)))))
      rw [vis_succ]; exact Ev.now _
    · refine H.swalk c0 d0 b hK hw ?_ K 0 (by omega)
      have ec : rd_L1 (cellsT n) (at_ n L c0 d0 K).1 = cl n (at_ n L c0 d0 K).1 := rfl
      refine Ev.step (fun f => spec_doWalk.l0.eq_2 ..) (ev_pos h0 ?_)
      refine Ev.step (fun f => spec_doWalk.j1.eq_2 ..) (ev_pos (decide_eq_true (by omega)) (ev_pos (by omega) (ev_bind0 rfl (ev_pos h0 (ev_pos rg.2 ?_)))))
      have hff : Ev (fun k => spec_doFull.f k L (cl n (at_ n L c0 d0 K).1)) (fullL L (cl n (at_ n L c0 d0 K).1)) := doFull_ev H.lbl (H.tri hc)
      refine Ev.bind hff (ev_pos hf ?_)
      rw [vis_succ]; exact Ev.now _
end
end Go.Proofs.Ytgpplbaloajgdaa.QFnExactPartnerOfFull
