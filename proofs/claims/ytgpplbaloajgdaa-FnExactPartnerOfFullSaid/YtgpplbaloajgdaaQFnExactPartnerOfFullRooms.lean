/- Rooms and doors: what the program's functions and the reference's tell of them, as plain functions. -/
import Derived.Test.YtgpplbaloajgdaaQFnExactPartnerOfFullGeo
import Derived.Test.YtgpplbaloajgdaaQFnExactPartnerOfFullLabels
namespace Go.Proofs.Ytgpplbaloajgdaa.QFnExactPartnerOfFull
open Go.RowKit Go.Proofs.Ytgpplbaloajgdaa.PFnExactPartnerOfFull Go.Proofs.YtgpplbaloajgdaaW.PrintWords Go.Proofs.YtgpplbaloajgdaaW.PrintLast Go.Proofs.YtgpplbaloajgdaaW.PrintMore
set_option linter.unusedVariables false
set_option linter.unusedSimpArgs false
set_option maxRecDepth 100000
/-- Are the ends of an edge labelled 0 and 1? -/
def dr (L : List Int) (d : List Int) : Bool := decide (rd L (rd d 0) + rd L (rd d 1) = 1)
def doorsL (L c : List Int) : List (List Int) := (edges c).filter (dr L)
def fullL (L c : List Int) : Bool := decide (rd L (rd c 0) ≠ rd L (rd c 1) ∧ rd L (rd c 0) ≠ rd L (rd c 2) ∧ rd L (rd c 1) ≠ rd L (rd c 2))
/-- Labels of m points. -/
structure Lbl (L : List Int) (m : Nat) : Prop where
  len : L.length = m
  small : m ≤ 1000
  ok : ∀ i : Int, 0 ≤ i → i < (m : Int) → 0 ≤ rd L i ∧ rd L i ≤ 2
/-- A cell: three points, rising. -/
structure Tri (c : List Int) (m : Nat) : Prop where
  len : c.length = 3
  lo : 0 ≤ rd c 0
  ab : rd c 0 < rd c 1
  bc : rd c 1 < rd c 2
  hi : rd c 2 < (m : Int)
theorem lbl_of {L : List Int} {m : Nat} (hl : L.length = m) (hm : m ≤ 1000) (ho : okB L = true) : Lbl L m := ⟨hl, hm, fun i h0 h1 => by
  have hlt : i.toNat < L.length := by omega
  have e : rd L i = L[i.toNat] := by
    unfold rd
    rw [List.getD_eq_getElem?_getD, List.getElem?_eq_getElem hlt]; rfl
  rw [e]
  have := List.all_eq_true.1 ho _ (List.getElem_mem hlt)
  exact of_decide_eq_true this⟩
theorem edges_ok {c : List Int} {m : Nat} (hc : Tri c m) : ∀ e ∈ edges c, ∃ x y, e = [x, y] ∧ (0 ≤ x ∧ x < (m : Int)) ∧ (0 ≤ y ∧ y < (m : Int)) := fun e he => by
  have h1 := hc.lo
  have h2 := hc.ab
  have h3 := hc.bc
  have h4 := hc.hi
  unfold edges at he
  simp only [List.mem_cons, List.not_mem_nil, or_false] at he
  rcases he with e1 | e1 | e1
  · exact ⟨_, _, e1, by omega, by omega⟩
  · exact ⟨_, _, e1, by omega, by omega⟩
  · exact ⟨_, _, e1, by omega, by omega⟩
theorem bits_full {x y z : Int} (hx : 0 ≤ x ∧ x ≤ 2) (hy : 0 ≤ y ∧ y ≤ 2) (hz : 0 ≤ z ∧ z ≤ 2) : (Go.bits .or .i64 (Go.bits .or .i64 (shl .i64 1 x) (shl .i64 1 y)) (shl .i64 1 z) == 7) = decide (x ≠ y ∧ x ≠ z ∧ y ≠ z) ∧ (Go.bits .or .i64 (Go.bits .or .i64 (Go.bits .or .i64 0 (shl .i64 1 x)) (shl .i64 1 y)) (shl .i64 1 z) == 7) = decide (x ≠ y ∧ x ≠ z ∧ y ≠ z) := by
  have h1 : x = 0 ∨ x = 1 ∨ x = 2 := by omega
  have h2 : y = 0 ∨ y = 1 ∨ y = 2 := by omega
  have h3 : z = 0 ∨ z = 1 ∨ z = 2 := by omega
  rcases h1 with rfl | rfl | rfl <;> rcases h2 with rfl | rfl | rfl <;> rcases h3 with rfl | rfl | rfl <;> decide
section
variable {L : List Int} {m : Nat} (hL : Lbl L m)
include hL
theorem isDoor_eq (a0 : Int) (C : List (List Int)) (B : List Int) {i j : Int} (hi : 0 ≤ i ∧ i < (m : Int)) (hj : 0 ≤ j ∧ j < (m : Int)) : impl_house_isDoor.f a0 L C B i j = some (dr L [i, j]) := by
  have h1 := hL.ok i hi.1 hi.2
  have h2 := hL.ok j hj.1 hj.2
  have hl := hL.len
  unfold impl_house_isDoor.f dr
  rw [if_pos hi.1, if_pos (by omega), if_pos hj.1, if_pos (by omega), show rd [i, j] 0 = i from rfl, show rd [i, j] 1 = j from rfl]
  by_cases e : rd L i = rd L j
  · rw [if_pos e, decide_eq_false (by omega)]
  · rw [if_neg e]
    by_cases e2 : rd L i < 2
    · rw [if_pos e2]
      congr 1
      rw [decide_eq_decide]; omega
    · rw [if_neg e2, decide_eq_false (by omega)]
theorem doDoor_eq {i j : Int} (hi : 0 ≤ i ∧ i < (m : Int)) (hj : 0 ≤ j ∧ j < (m : Int)) : spec_doDoor.f L i j = some (dr L [i, j]) := by
  have h1 := hL.ok i hi.1 hi.2
  have h2 := hL.ok j hj.1 hj.2
  have hl := hL.len
  unfold spec_doDoor.f dr
  rw [if_pos hi.1, if_pos (by omega), if_pos hj.1, if_pos (by omega), wr (by omega) (by omega)]
  congr 1
/-! ### doors of a cell -/
theorem idoors_loop (a0 : Int) (C : List (List Int)) (B : List Int) (E : List (List Int)) (hE : E.length ≤ 1000) (hp : ∀ e ∈ E, ∃ x y, e = [x, y] ∧ (0 ≤ x ∧ x < (m : Int)) ∧ (0 ≤ y ∧ y < (m : Int))) :
    ∀ (d i : Nat) (acc : List (List Int)), i + d = E.length → acc.length ≤ 10000 + i → Ev (fun k => impl_house_doors.l0 k acc E (E.length : Int) (i : Int) a0 L C B) (acc ++ (E.drop i).filter (dr L))
  | 0, i, acc, h, _ => Ev.step (fun f => impl_house_doors.l0.eq_2 ..) (ev_neg (by omega) (ev_eq (Ev.now _) (by rw [List.drop_eq_nil_of_le (by omega)]; simp)))
  | d + 1, i, acc, h, ha => by
    have hlt : i < E.length := by omega
    obtain ⟨x, y, e, hx, hy⟩ := hp _ (List.getElem_mem hlt)
    have er : rd_L1 E (i : Int) = [x, y] := by unfold rd_L1; rw [Int.toNat_natCast, List.getD_eq_getElem?_getD, List.getElem?_eq_getElem hlt, e]; rfl
    have ih := fun acc' hacc => idoors_loop a0 C B E hE hp d (i + 1) acc' (by omega) hacc
    refine Ev.step (fun f => impl_house_doors.l0.eq_2 ..) (ev_pos (by omega) (ev_pos (by omega) (ev_pos (by omega) ?_)))
    rw [er]
    refine ev_pos (by simp) (ev_pos (by simp) (ev_bind0 (isDoor_eq hL a0 C B (i := rd [x, y] 0) (j := rd [x, y] 1) hx hy) ?_))
    rw [wr (by omega) (by omega), List.drop_eq_getElem_cons hlt, e, List.filter_cons]
    show Ev (fun k => if dr L [x, y] = true then _ else _) _
    by_cases hd : dr L [x, y] = true
    · rw [if_pos hd]
      refine ev_pos hd (ev_pos (by omega) ?_)
      have := ih (acc ++ [[x, y]]) (by simp; omega)
      rw [List.append_assoc] at this
      exact this
    · rw [if_neg hd]
      exact ev_neg hd (ih acc (by omega))
theorem idoors_ev (a0 : Int) (C : List (List Int)) (B : List Int) {ci : Int} (h0 : 0 ≤ ci) (h1 : ci < (C.length : Int)) (hc : Tri (C.getD ci.toNat []) m) : Ev (fun k => impl_house_doors.f k a0 L C B ci) (doorsL L (C.getD ci.toNat [])) := by
  have hl := hc.len
  have er : rd_L1 C ci = C.getD ci.toNat [] := rfl
  unfold impl_house_doors.f
  rw [er]
  refine ev_pos h0 (ev_pos h1 (ev_pos (by omega) (ev_pos (by omega) (ev_pos (by omega) (ev_bind0 rfl ?_)))))
  have := idoors_loop hL a0 C B (edges (C.getD ci.toNat [])) (by simp [edges]) (edges_ok hc) 3 0 [] rfl (by simp)
  rw [List.nil_append, List.drop_zero] at this
  exact this
theorem sdoors_l1 (c : List Int) (xa xi : Int) (hxa : 0 ≤ xa ∧ xa < (m : Int)) (R : List Int) (hR : R.length ≤ 100) (hp : ∀ y ∈ R, 0 ≤ y ∧ y < (m : Int)) (r : List (List Int)) : ∀ (d i : Nat) (acc : List (List Int)), i + d = R.length → acc.length ≤ 10000 + i →
    Ev (fun k => spec_doOfCell.l0 k L c (acc ++ ((R.drop i).map fun b => [xa, b]).filter (dr L)) c (c.length : Int) (wrap64 (xi + 1))) r → Ev (fun k => spec_doOfCell.l1 k L c acc xa c (c.length : Int) xi R (R.length : Int) (i : Int)) r
  | 0, i, acc, h, ha, cont => by
    rw [List.drop_eq_nil_of_le (by omega), List.map_nil, List.filter_nil, List.append_nil] at cont
    exact Ev.step (fun f => spec_doOfCell.l1.eq_2 ..) (ev_neg (by omega) cont)
  | d + 1, i, acc, h, ha, cont => by
    have hlt : i < R.length := by omega
    have e : rd R (i : Int) = R[i] := rd_at hlt
    have hy := hp _ (List.getElem_mem hlt)
    rw [List.drop_eq_getElem_cons hlt, List.map_cons, List.filter_cons] at cont
    refine Ev.step (fun f => spec_doOfCell.l1.eq_2 ..) (ev_pos (by omega) (ev_pos (by omega) (ev_pos (by omega) ?_)))
    rw [e, wr (by omega) (by omega)]
    refine ev_bind0 (doDoor_eq hL hxa hy) ?_
    by_cases hd : dr L [xa, R[i]] = true
    · rw [if_pos hd] at cont
      refine ev_pos hd (ev_pos (by omega) (sdoors_l1 c xa xi hxa R hR hp r d (i + 1) (acc ++ [[xa, R[i]]]) (by omega) (by simp; omega) ?_))
      rw [List.append_assoc]; exact cont
    · rw [if_neg hd] at cont
      exact ev_neg hd (sdoors_l1 c xa xi hxa R hR hp r d (i + 1) acc (by omega) (by omega) cont)
theorem sdoors_ev {c : List Int} (hc : Tri c m) : Ev (fun k => spec_doOfCell.f k L c) (doorsL L c) := by
  have hl := hc.len
  have h1 := hc.lo
  have h2 := hc.ab
  have h3 := hc.bc
  have h4 := hc.hi
  obtain ⟨x, y, z, rfl⟩ : ∃ x y z, c = [x, y, z] := by
    match c, hl with
    | [x, y, z], _ => exact ⟨x, y, z, rfl⟩
  have e0 : rd [x, y, z] 0 = x := rfl
  have e1 : rd [x, y, z] 1 = y := rfl
  have e2 : rd [x, y, z] 2 = z := rfl
  rw [e0] at h1
  rw [e0, e1] at h2
  rw [e1, e2] at h3
  rw [e2] at h4
  unfold spec_doOfCell.f
  refine Ev.step (fun f => spec_doOfCell.l0.eq_2 ..) (ev_pos (by simp) (ev_pos (by simp) (ev_pos (by simp) ?_)))
  rw [w01]
  refine ev_pos (by simp) (ev_pos (by simp) ?_)
  refine sdoors_l1 hL [x, y, z] x 0 (by omega) [y, z] (by simp) (fun v hv => by simp at hv; omega) _ 2 0 [] rfl (by simp) ?_
  rw [w01]
  refine Ev.step (fun f => spec_doOfCell.l0.eq_2 ..) (ev_pos (by simp) (ev_pos (by simp) (ev_pos (by simp) ?_)))
  rw [w12]
  refine ev_pos (by simp) (ev_pos (by simp) ?_)
  have hlen : ∀ l : List Int, (([] : List (List Int)) ++ (l.map fun b => [x, b]).filter (dr L)).length ≤ l.length := fun l => by
    rw [List.nil_append]
    exact Nat.le_trans (List.length_filter_le _ _) (by simp)
  have hl2 := hlen (List.drop 0 [y, z])
  refine sdoors_l1 hL [x, y, z] y 1 (by omega) [z] (by simp) (fun v hv => by simp at hv; omega) _ 1 0 _ rfl (Nat.le_trans hl2 (by simp)) ?_
  rw [w12]
  refine Ev.step (fun f => spec_doOfCell.l0.eq_2 ..) (ev_pos (by simp) (ev_pos (by simp) (ev_pos (by simp) ?_)))
  rw [w23]
  refine ev_pos (by simp) (ev_pos (by simp) ?_)
  refine sdoors_l1 hL [x, y, z] z 2 (by omega) [] (by simp) (fun v hv => by cases hv) _ 0 0 _ rfl ?_ ?_
  · have := List.length_filter_le (dr L) ((List.drop 0 [z]).map fun b => [y, b])
    rw [List.length_append]
    simp at this hl2 ⊢
    omega
  rw [w23]
  refine Ev.step (fun f => spec_doOfCell.l0.eq_2 ..) (ev_neg (by simp) (ev_eq (Ev.now _) ?_))
  unfold doorsL edges
  rw [e0, e1, e2]
  simp only [List.drop_zero, List.map_cons, List.map_nil, List.filter_cons, List.filter_nil, List.nil_append]
  cases dr L [x, y] <;> cases dr L [x, z] <;> cases dr L [y, z] <;> rfl
/-! ### full cells -/
theorem isFull_eq (a0 : Int) (C : List (List Int)) (B : List Int) {ci : Int} (h0 : 0 ≤ ci) (h1 : ci < (C.length : Int)) (hc : Tri (C.getD ci.toNat []) m) : impl_house_isFull.f a0 L C B ci = some (fullL L (C.getD ci.toNat [])) := by
  have hl := hc.len
  have g1 := hc.lo
  have g2 := hc.ab
  have g3 := hc.bc
  have g4 := hc.hi
  have hll := hL.len
  have er : rd_L1 C ci = C.getD ci.toNat [] := rfl
  unfold impl_house_isFull.f
  rw [er]
  generalize C.getD ci.toNat [] = c at *
  have r0 := hL.ok (rd c 0) (by omega) (by omega)
  have r1 := hL.ok (rd c 1) (by omega) (by omega)
  have r2 := hL.ok (rd c 2) (by omega) (by omega)
  rw [if_pos h0, if_pos h1, if_pos (by omega), if_pos (by omega), if_pos (by omega), if_pos (by omega), if_pos (by omega), if_pos (by omega), if_pos (by omega), if_pos (by omega), if_pos (by omega), if_pos (by omega), if_pos (by omega), if_pos (by omega)]
  rw [(bits_full r0 r1 r2).1]
  rfl
theorem doFull_ev {c : List Int} (hc : Tri c m) : Ev (fun k => spec_doFull.f k L c) (fullL L c) := by
  have hl := hc.len
  have g1 := hc.lo
  have g2 := hc.ab
  have g3 := hc.bc
  have g4 := hc.hi
  have hll := hL.len
  have r0 := hL.ok (rd c 0) (by omega) (by omega)
  have r1 := hL.ok (rd c 1) (by omega) (by omega)
  have r2 := hL.ok (rd c 2) (by omega) (by omega)
  unfold spec_doFull.f
  refine Ev.step (fun f => spec_doFull.l0.eq_2 ..) (ev_pos (by omega) (ev_pos (by omega) (ev_pos (by omega) (ev_pos (by omega) (ev_pos (by omega) (ev_pos (by omega) ?_))))))
  rw [w01]
  refine Ev.step (fun f => spec_doFull.l0.eq_2 ..) (ev_pos (by omega) (ev_pos (by omega) (ev_pos (by omega) (ev_pos (by omega) (ev_pos (by omega) (ev_pos (by omega) ?_))))))
  rw [w12]
  refine Ev.step (fun f => spec_doFull.l0.eq_2 ..) (ev_pos (by omega) (ev_pos (by omega) (ev_pos (by omega) (ev_pos (by omega) (ev_pos (by omega) (ev_pos (by omega) ?_))))))
  rw [w23]
  refine Ev.step (fun f => spec_doFull.l0.eq_2 ..) (ev_neg (by omega) (ev_eq (Ev.now _) ?_))
  rw [(bits_full r0 r1 r2).2]
  rfl
end
/-! ### behind a door -/
/-- The first number other than one. -/
def fb : List Int → Int → Int
  | [], _ => -1
  | p :: r, c => if p = c then fb r c else p
theorem beyond_loop (W : List Int) (hW : W.length ≤ 1000) (c : Int) : ∀ d i : Nat, i + d = W.length → Ev (fun k => impl_house_beyond.l0 k c W (W.length : Int) (i : Int)) (fb (W.drop i) c)
  | 0, i, h => Ev.step (fun f => impl_house_beyond.l0.eq_2 ..) (ev_neg (by omega) (ev_eq (Ev.now _) (by rw [List.drop_eq_nil_of_le (by omega)]; rfl)))
  | d + 1, i, h => by
    have hlt : i < W.length := by omega
    refine Ev.step (fun f => impl_house_beyond.l0.eq_2 ..) (ev_pos (by omega) (ev_pos (by omega) (ev_pos (by omega) ?_)))
    rw [rd_at hlt, wr (by omega) (by omega), List.drop_eq_getElem_cons hlt, fb]
    by_cases e : W[i] = c
    · rw [if_pos e]; exact ev_pos e (beyond_loop W hW c d (i + 1) (by omega))
    · rw [if_neg e]; exact ev_neg e (Ev.now _)
theorem next_loop (W : List Int) (hW : W.length ≤ 1000) (c : Int) : ∀ d i : Nat, i + d = W.length → Ev (fun k => spec_doNext.l0 k c W (W.length : Int) (i : Int)) (fb (W.drop i) c)
  | 0, i, h => Ev.step (fun f => spec_doNext.l0.eq_2 ..) (ev_neg (by omega) (ev_eq (Ev.now _) (by rw [List.drop_eq_nil_of_le (by omega)]; rfl)))
  | d + 1, i, h => by
    have hlt : i < W.length := by omega
    refine Ev.step (fun f => spec_doNext.l0.eq_2 ..) (ev_pos (by omega) (ev_pos (by omega) (ev_pos (by omega) ?_)))
    rw [rd_at hlt, wr (by omega) (by omega), List.drop_eq_getElem_cons hlt, fb]
    by_cases e : W[i] = c
    · rw [if_pos e]; exact ev_pos e (next_loop W hW c d (i + 1) (by omega))
    · rw [if_neg e]; exact ev_neg e (Ev.now _)
def bey (C : List (List Int)) (c : Int) (d : List Int) : Int := fb (wth C (rd d 0) (rd d 1)) c
theorem beyond_ev {C : List (List Int)} (hl : C.length ≤ 100) (he : ∀ c ∈ C, c.length = 3) (a0 : Int) (L B : List Int) (c : Int) {d : List Int} (hd : d.length = 2) : Ev (fun k => impl_house_beyond.f k a0 L C B c d) (bey C c d) := by
  have hw := withFn_len C (rd d 0) (rd d 1) C.length 0
  refine ev_pos (by omega) (ev_pos (by omega) (Ev.bind (with_ev C (rd d 0) (rd d 1) (by omega) he) ?_))
  exact beyond_loop (wth C (rd d 0) (rd d 1)) (Nat.le_trans hw (by omega)) c (wth C (rd d 0) (rd d 1)).length 0 (by omega)
theorem next_ev {C : List (List Int)} (hl : C.length ≤ 100) (he : ∀ c ∈ C, c.length = 3) (c : Int) {d : List Int} (hd : d.length = 2) : Ev (fun k => spec_doNext.f k C d c) (bey C c d) := by
  have hw := withFn_len C (rd d 0) (rd d 1) C.length 0
  refine ev_pos (by omega) (ev_pos (by omega) (Ev.bind (meWith_ev C (rd d 0) (rd d 1) (by omega) he) ?_))
  exact next_loop (wth C (rd d 0) (rd d 1)) (Nat.le_trans hw (by omega)) c (wth C (rd d 0) (rd d 1)).length 0 (by omega)
/-! ### equal lists -/
theorem drop_eq {a b : List Int} (hl : a.length = b.length) {i : Nat} (hi : i < a.length) : (a.drop i = b.drop i) ↔ (rd a (i : Int) = rd b (i : Int) ∧ a.drop (i + 1) = b.drop (i + 1)) := by
  rw [List.drop_eq_getElem_cons hi, List.drop_eq_getElem_cons (show i < b.length by omega), List.cons.injEq, rd_at hi, rd_at (show i < b.length by omega)]
theorem equal_loop (a b : List Int) (hl : a.length = b.length) (hs : a.length ≤ 1000000) : ∀ d i : Nat, i + d = a.length → Ev (fun k => slices_Equal_int_int.l0 k a b (a.length : Int) (i : Int)) (decide (a.drop i = b.drop i))
  | 0, i, h => Ev.step (fun f => slices_Equal_int_int.l0.eq_2 ..) (ev_neg (by omega) (ev_eq (Ev.now _) (by rw [List.drop_eq_nil_of_le (by omega), List.drop_eq_nil_of_le (by omega)]; rfl)))
  | d + 1, i, h => by
    have hd := drop_eq hl (show i < a.length by omega)
    refine Ev.step (fun f => slices_Equal_int_int.l0.eq_2 ..) (ev_pos (by omega) (ev_pos (by omega) (ev_pos (by omega) (ev_pos (by omega) ?_))))
    rw [wr (by omega) (by omega)]
    by_cases e : rd a (i : Int) = rd b (i : Int)
    · exact ev_pos e (ev_eq (equal_loop a b hl hs d (i + 1) (by omega)) (by rw [decide_eq_decide]; exact ⟨fun z => hd.2 ⟨e, z⟩, fun z => (hd.1 z).2⟩))
    · exact ev_neg e (ev_eq (Ev.now _) (by rw [decide_eq_false (fun z => e (hd.1 z).1)]))
theorem equal_ev (a b : List Int) (hs : a.length ≤ 1000000) : Ev (fun k => slices_Equal_int_int.f k a b) (decide (a = b)) := by
  by_cases hl : a.length = b.length
  · have := equal_loop a b hl hs a.length 0 (by omega)
    rw [List.drop_zero, List.drop_zero] at this
    exact ev_pos (by omega) this
  · exact ev_neg (by omega) (ev_eq (Ev.now _) (decide_eq_false (fun z => hl (by rw [z]))).symm)
theorem same_loop (a b : List Int) (hl : a.length = b.length) (hs : a.length ≤ 1000000) : ∀ d i : Nat, i + d = a.length → Ev (fun k => spec_l1Same.l0 k a b (a.length : Int) (i : Int)) (decide (a.drop i = b.drop i))
  | 0, i, h => Ev.step (fun f => spec_l1Same.l0.eq_2 ..) (ev_neg (by omega) (ev_eq (Ev.now _) (by rw [List.drop_eq_nil_of_le (by omega), List.drop_eq_nil_of_le (by omega)]; rfl)))
  | d + 1, i, h => by
    have hd := drop_eq hl (show i < a.length by omega)
    refine Ev.step (fun f => spec_l1Same.l0.eq_2 ..) (ev_pos (by omega) (ev_pos (by omega) (ev_pos (by omega) (ev_pos (by omega) ?_))))
    rw [wr (by omega) (by omega)]
    by_cases e : rd a (i : Int) = rd b (i : Int)
    · exact ev_pos e (ev_eq (same_loop a b hl hs d (i + 1) (by omega)) (by rw [decide_eq_decide]; exact ⟨fun z => hd.2 ⟨e, z⟩, fun z => (hd.1 z).2⟩))
    · exact ev_neg e (ev_eq (Ev.now _) (by rw [decide_eq_false (fun z => e (hd.1 z).1)]))
theorem same_ev (a b : List Int) (hs : a.length ≤ 1000000) : Ev (fun k => spec_l1Same.f k a b) (decide (a = b)) := by
  by_cases hl : a.length = b.length
  · have := same_loop a b hl hs a.length 0 (by omega)
    rw [List.drop_zero, List.drop_zero] at this
    exact ev_pos (by omega) this
  · exact ev_neg (by omega) (ev_eq (Ev.now _) (decide_eq_false (fun z => hl (by rw [z]))).symm)
/-! ### the other door -/
/-- The first door other than one. -/
def fo : List (List Int) → List Int → List Int
  | [], _ => []
  | e :: r, d => if e = d then fo r d else e
theorem other_loop (E : List (List Int)) (hE : E.length ≤ 1000) (he : ∀ e ∈ E, e.length ≤ 1000) (d : List Int) : ∀ q i : Nat, i + q = E.length → Ev (fun k => impl_house_other.l0 k d E (E.length : Int) (i : Int)) (fo (E.drop i) d)
  | 0, i, h => Ev.step (fun f => impl_house_other.l0.eq_2 ..) (ev_neg (by omega) (ev_eq (Ev.now _) (by rw [List.drop_eq_nil_of_le (by omega)]; rfl)))
  | q + 1, i, h => by
    have hlt : i < E.length := by omega
    have er : rd_L1 E (i : Int) = E[i] := by unfold rd_L1; rw [Int.toNat_natCast, List.getD_eq_getElem?_getD, List.getElem?_eq_getElem hlt]; rfl
    have hl := he _ (List.getElem_mem hlt)
    refine Ev.step (fun f => impl_house_other.l0.eq_2 ..) (ev_pos (by omega) (ev_pos (by omega) (ev_pos (by omega) ?_)))
    rw [er, wr (by omega) (by omega), List.drop_eq_getElem_cons hlt, fo]
    refine Ev.bind (equal_ev _ _ (by omega)) ?_
    by_cases e : E[i] = d
    · rw [if_pos e]; exact ev_pos (decide_eq_true e) (other_loop E hE he d q (i + 1) (by omega))
    · rw [if_neg e]; exact ev_neg (by rw [decide_eq_false e]; decide) (Ev.now _)
end Go.Proofs.Ytgpplbaloajgdaa.QFnExactPartnerOfFull
