/- Three rows of thirds: how the program and the reference make them. -/
import Derived.Test.YtafjjbkkcedgnaaDoorThreeI
import Derived.Test.YtafjjbkkcedgnaaDoorOwnI
namespace Go.Proofs.YtafjjbkkcedgnaaDoorOwn
open Go.RowKit Go.Shelf Go.Proofs.YtafjjbkkcedgnaaDoorW.PrintWords Go.Proofs.YtafjjbkkcedgnaaDoorW.PrintLast Go.Proofs.YtafjjbkkcedgnaaDoorW.PrintMore
set_option linter.unusedVariables false
set_option linter.unusedSimpArgs false
theorem meas4 {p g : Nat} (hp : p < 4) (h : 4 - p ≤ g) : 4 - (p + 1) < g := by omega
/-- The kinds of the beads. -/
def ksOf (s : ByteArray) : List Nat := s.data.toList.map fun b => b.toNat - 97
def goodThree (s : ByteArray) (cs : List Int) : Bool := decide (s.size ≤ 9) && (s.data.toList.all fun b => decide (97 ≤ b.toNat ∧ b.toNat < 101)) && decide (cs.length = 4) && cs.all fun x => decide (0 ≤ x ∧ x ≤ 1000)
def thirds (cs : List Int) : Rws := fun _ k => Int.tdiv (rd cs (k : Int)) 3
section
variable {s : ByteArray} {cs : List Int}
theorem good_parts (h : goodThree s cs = true) : s.size ≤ 9 ∧ (∀ b ∈ s.data.toList, 97 ≤ b.toNat ∧ b.toNat < 101) ∧ cs.length = 4 ∧ ∀ x ∈ cs, 0 ≤ x ∧ x ≤ 1000 := by
  unfold goodThree at h
  simp only [Bool.and_eq_true, decide_eq_true_eq, List.all_eq_true] at h
  exact ⟨h.1.1.1, h.1.1.2, h.1.2, h.2⟩
theorem good_len : (ksOf s).length = s.size := by unfold ksOf; rw [List.length_map]; exact Array.length_toList
theorem good_ks (h : goodThree s cs = true) : ∀ (i k : Nat), (ksOf s)[i]? = some k → k < 4 ∧ ∀ h : i < s.size, ((s[i]'h).toNat : Int) = 97 + (k : Int) := fun i k hk => by
  unfold ksOf at hk
  rw [List.getElem?_map] at hk
  obtain ⟨b, hb, rfl⟩ := Option.map_eq_some_iff.1 hk
  have h2 := (good_parts h).2.1 b (List.mem_of_getElem? hb)
  refine ⟨by omega, fun hlt => ?_⟩
  obtain ⟨h3, h4⟩ := List.getElem?_eq_some_iff.1 hb
  have e : s[i]'hlt = b := by rw [← h4]; rfl
  rw [e]; omega
theorem good_at (h : goodThree s cs = true) {k : Nat} (hk : k < 4) : cs[k]? = some (rd cs (k : Int)) ∧ 0 ≤ rd cs (k : Int) ∧ rd cs (k : Int) ≤ 1000 := by
  have hl : k < cs.length := by rw [(good_parts h).2.2.1]; exact hk
  have e : rd cs (k : Int) = cs[k] := by unfold rd; rw [Int.toNat_natCast, List.getD_eq_getElem?_getD, List.getElem?_eq_getElem hl]; rfl
  have := (good_parts h).2.2.2 cs[k] (List.getElem_mem hl)
  exact ⟨by rw [e]; exact List.getElem?_eq_getElem hl, by rw [e]; exact this.1, by rw [e]; exact this.2⟩
theorem tdiv_range {x : Int} (h0 : 0 ≤ x) (h1 : x ≤ 1000) : 0 ≤ Int.tdiv x 3 ∧ Int.tdiv x 3 ≤ 1000 := by
  rw [Int.tdiv_eq_ediv_of_nonneg h0]; omega
theorem thirds_range (h : goodThree s cs = true) : ∀ p k, p < 3 → k < 4 → 0 ≤ thirds cs p k ∧ thirds cs p k ≤ 1000 := fun p k _ hk => tdiv_range (good_at h hk).2.1 (good_at h hk).2.2
theorem wrap_tdiv {x : Int} (h0 : 0 ≤ x) (h1 : x ≤ 1000) : wrap64 (Int.tdiv x 3) = Int.tdiv x 3 := wrap_self (tdiv_range h0 h1).1 (by have := (tdiv_range h0 h1).2; omega)
end
/-- p of the rows lie. -/
structure Some3 (w : World) (base p : Nat) (bk : Nat → Nat) (rows : Rws) : Prop where
  apart : ∀ q q', q < p → q' < p → bk q = bk q' → q = q'
  base : ∀ q, q < p → base ≤ bk q
  at_ : ∀ q, q < p → ∃ cur : Array Value, w.heap[bk q]? = some (.cells cur 3 (0, 0)) ∧ ∀ k, k < 4 → cur[k]? = some (.int .i64 (rows q k))
section
variable {w w1 w2 : World} {bk cp : Nat → Nat} {rows : Rws} {p base g cap : Nat}
theorem Some3.zero : Some3 w base 0 bk rows := ⟨fun q q' h => by omega, fun q h => by omega, fun q h => by omega⟩
theorem Some3.lt (h : Some3 w base p bk rows) {q : Nat} (hq : q < p) : bk q < w.heap.size := by
  obtain ⟨cur, h1, _⟩ := h.at_ q hq
  exact blk_lt h1
theorem Some3.kept (h : Some3 w base p bk rows) (hk : ∀ q, q < p → w1.heap[bk q]? = w.heap[bk q]?) : Some3 w1 base p bk rows :=
  ⟨h.apart, h.base, fun q hq => by obtain ⟨cur, h1, h2⟩ := h.at_ q hq; exact ⟨cur, (hk q hq).trans h1, h2⟩⟩
theorem Some3.below (h : Some3 w base p bk rows) (hb : Below w.heap.size w w1) : Some3 w1 base p bk rows := h.kept fun q hq => hb.block _ (h.lt hq)
def putAt (bk : Nat → Nat) (p g : Nat) : Nat → Nat := fun q => if q = p then g else bk q
theorem putAt_self : putAt bk p g p = g := if_pos rfl
theorem putAt_lt {q : Nat} (h : q < p) : putAt bk p g q = bk q := if_neg (by omega)
theorem Some3.push {cur : Array Value} (h : Some3 w base p bk rows) (hg : w.heap[g]? = some (.cells cur 3 (0, 0))) (hc : ∀ k, k < 4 → cur[k]? = some (.int .i64 (rows p k))) (hb : base ≤ g) (hne : ∀ q, q < p → bk q ≠ g) : Some3 w base (p + 1) (putAt bk p g) rows := by
  refine ⟨fun q q' h1 h2 e => ?_, fun q hq => ?_, fun q hq => ?_⟩
  · rcases Nat.lt_or_ge q p with h3 | h3
    · rw [putAt_lt h3] at e
      rcases Nat.lt_or_ge q' p with h4 | h4
      · rw [putAt_lt h4] at e; exact h.apart q q' h3 h4 e
      · have : q' = p := by omega
        subst this
        rw [putAt_self] at e
        exact absurd e (hne q h3)
    · have e1 : q = p := by omega
      subst e1
      rw [putAt_self] at e
      rcases Nat.lt_or_ge q' q with h4 | h4
      · rw [putAt_lt h4] at e; exact absurd e.symm (hne q' h4)
      · omega
  · rcases Nat.lt_or_ge q p with h3 | h3
    · rw [putAt_lt h3]; exact h.base q h3
    · have e1 : q = p := by omega
      subst e1
      rw [putAt_self]; exact hb
  · rcases Nat.lt_or_ge q p with h3 | h3
    · rw [putAt_lt h3]; exact h.at_ q h3
    · have e1 : q = p := by omega
      subst e1
      rw [putAt_self]; exact ⟨cur, hg, hc⟩
theorem Some3.full (h : Some3 w base 3 bk rows) : Rows3 w bk rows := ⟨h.apart, h.at_⟩
theorem below_setCell {B b i : Nat} {u : Value} (hb : Below B w w1) (h : B ≤ b) : Below B w (w1.setCell ⟨b, i, none⟩ u) := by
  refine ⟨hb.os, hb.tape, hb.output, ?_, fun k hk => ?_⟩
  · rw [set_size]; exact hb.size
  · rw [set_other i u (by omega)]; exact hb.block k hk
end
/-! ### the program's array of three rows -/
def sl3 (bk cp : Nat → Nat) (p q : Nat) : Value := if q < p then .slice (some ⟨bk q, 0, none⟩) 4 (cp q) else .slice none 0 0
def boxCs (bk cp : Nat → Nat) (p : Nat) : Array Value := #[sl3 bk cp p 0, sl3 bk cp p 1, sl3 bk cp p 2]
structure Arr (w wr : World) (gb p : Nat) (bk cp : Nat → Nat) (rows : Rws) : Prop where
  some3 : Some3 wr w.heap.size p bk rows
  box : wr.heap[gb]? = some (.cells (boxCs bk cp p) 58 (0, 0))
  ne : ∀ q, q < p → gb ≠ bk q
  low : w.heap.size ≤ gb
  below : Below w.heap.size w wr
structure Mid (w wi : World) (gb p b i cap : Nat) (bk cp : Nat → Nat) (cs : List Int) : Prop where
  some3 : Some3 wi w.heap.size p bk (thirds cs)
  box : wi.heap[gb]? = some (.cells (boxCs (putAt bk p b) (putAt cp p cap) (p + 1)) 58 (0, 0))
  ne : ∀ q, q < p → gb ≠ bk q
  neb : gb ≠ b
  fresh : ∀ q, q < p → bk q ≠ b
  low : w.heap.size ≤ gb
  lowb : w.heap.size ≤ b
  row : ∃ cur : Array Value, wi.heap[b]? = some (.cells cur 3 (0, 0)) ∧ ∀ j, j < 4 → cur[j]? = some (.int .i64 (if j < i then thirds cs p j else rd cs (j : Int)))
  below : Below w.heap.size w wi
section
variable {w w1 w2 wr wi : World} {bk cp : Nat → Nat} {rows : Rws} {cs : List Int} {p base g gb b i cap n : Nat}
theorem Arr.drewN (h : Arr w wr gb p bk cp rows) (n : Nat) : Arr w (wr.drewN n) gb p bk cp rows := ⟨h.some3.kept fun _ _ => rfl, h.box, h.ne, h.low, pw_below_drewN h.below n⟩
theorem Mid.drewN (h : Mid w wi gb p b i cap bk cp cs) (n : Nat) : Mid w (wi.drewN n) gb p b i cap bk cp cs := ⟨h.some3.kept fun _ _ => rfl, h.box, h.ne, h.neb, h.fresh, h.low, h.lowb, h.row, pw_below_drewN h.below n⟩
theorem Arr.start (hb : Below w.heap.size w wr) (hg : w.heap.size ≤ gb) (hbox : wr.heap[gb]? = some (.cells #[.slice none 0 0, .slice none 0 0, .slice none 0 0] 58 (0, 0))) : Arr w wr gb 0 bk cp rows :=
  ⟨.zero, hbox, fun q h => by omega, hg, hb⟩
theorem frozen_no {W : World} {b i : Nat} {cur : Array Value} {t : TypeId} (h : W.heap[b]? = some (.cells cur t (0, 0))) : W.frozen? ⟨b, i, none⟩ = false := by
  unfold World.frozen?
  rw [h]
  simp
theorem Arr.cell (h : Arr w wr gb p bk cp rows) (hp : p < 3) : wr.cell? ⟨gb, p, none⟩ = some (.slice none 0 0) := by
  rw [blk_cell h.box p]
  match p, hp with
  | 0, _ => rfl
  | 1, _ => rfl
  | 2, _ => rfl
theorem Arr.kept (h : Arr w wr gb p bk cp rows) (hb : Below wr.heap.size wr w1) : Arr w w1 gb p bk cp rows :=
  ⟨h.some3.below hb, (hb.block _ (blk_lt h.box)).trans h.box, h.ne, h.low, h.below.trans (hb.mono h.below.size)⟩
theorem Arr.enter (h : Arr w wr gb p bk cp (thirds cs)) (hp : p < 3) (hb : Below wr.heap.size wr w1) (hlo : wr.heap.size ≤ b) {cur : Array Value} (hblk : w1.heap[b]? = some (.cells cur 3 (0, 0))) (hc : ∀ j, j < 4 → cur[j]? = some (.int .i64 (rd cs (j : Int)))) :
    Mid w (w1.setCell ⟨gb, p, none⟩ (.slice (some ⟨b, 0, none⟩) 4 cap)) gb p b 0 cap bk cp cs := by
  have h1 := h.kept hb
  have hgb := blk_lt h.box
  have hsz := h.below.size
  have hf : ∀ q, q < p → bk q < wr.heap.size := fun q hq => h.some3.lt hq
  refine ⟨h1.some3.kept fun q hq => set_other _ _ (fun e => h.ne q hq e.symm), ?_, h.ne, by omega, fun q hq e => by have := hf q hq; omega, h.low, by omega, ⟨cur, ?_, fun j hj => by rw [if_neg (Nat.not_lt_zero j)]; exact hc j hj⟩, below_setCell h1.below h.low⟩
  · rw [set_at h1.box p _]
    congr 2
    match p, hp with
    | 0, _ => rfl
    | 1, _ => rfl
    | 2, _ => rfl
  · rw [set_other _ _ (by omega)]; exact hblk
theorem Mid.cell (h : Mid w wi gb p b i cap bk cp cs) (hi : i < 4) : wi.cell? ⟨b, i, none⟩ = some (.int .i64 (rd cs (i : Int))) := by
  obtain ⟨cur, h1, h2⟩ := h.row
  rw [blk_cell h1 i, h2 i hi, if_neg (Nat.lt_irrefl i)]
theorem Mid.thawed (h : Mid w wi gb p b i cap bk cp cs) : wi.frozen? ⟨b, i, none⟩ = false := by
  obtain ⟨cur, h1, h2⟩ := h.row
  exact frozen_no h1
theorem Mid.boxcell (h : Mid w wi gb p b i cap bk cp cs) (hp : p < 3) : wi.cell? ⟨gb, p, none⟩ = some (.slice (some ⟨b, 0, none⟩) 4 cap) := by
  rw [blk_cell h.box p]
  match p, hp with
  | 0, _ => rfl
  | 1, _ => rfl
  | 2, _ => rfl
theorem Mid.step (h : Mid w wi gb p b i cap bk cp cs) (hi : i < 4) : Mid w (wi.setCell ⟨b, i, none⟩ (.int .i64 (Int.tdiv (rd cs (i : Int)) 3))) gb p b (i + 1) cap bk cp cs := by
  obtain ⟨cur, h1, h2⟩ := h.row
  refine ⟨h.some3.kept fun q hq => set_other _ _ (h.fresh q hq), by rw [set_other _ _ h.neb]; exact h.box, h.ne, h.neb, h.fresh, h.low, h.lowb, ⟨_, set_at h1 i _, fun j hj => ?_⟩, below_setCell h.below h.lowb⟩
  have hlt : j < cur.size := (Array.getElem?_eq_some_iff.1 (h2 j hj)).1
  rw [Array.getElem?_setIfInBounds]
  by_cases e : i = j
  · subst e
    rw [if_pos rfl, if_pos hlt, if_pos (Nat.lt_succ_self i)]; rfl
  · rw [if_neg e, h2 j hj]
    by_cases h3 : j < i
    · rw [if_pos h3, if_pos (by omega)]
    · rw [if_neg h3, if_neg (by omega)]
theorem Mid.done (h : Mid w wi gb p b 4 cap bk cp cs) : Arr w wi gb (p + 1) (putAt bk p b) (putAt cp p cap) (thirds cs) := by
  obtain ⟨cur, h1, h2⟩ := h.row
  refine ⟨h.some3.push h1 (fun k hk => by rw [h2 k hk, if_pos hk]) h.lowb h.fresh, h.box, fun q hq => ?_, h.low, h.below⟩
  rcases Nat.lt_or_ge q p with h3 | h3
  · rw [putAt_lt h3]; exact h.ne q h3
  · have e1 : q = p := by omega
    subst e1
    rw [putAt_self]; exact h.neb
theorem Arr.full (h : Arr w wr gb 3 bk cp rows) : wr.heap[gb]? = some (.cells #[.slice (some ⟨bk 0, 0, none⟩) 4 (cp 0), .slice (some ⟨bk 1, 0, none⟩) 4 (cp 1), .slice (some ⟨bk 2, 0, none⟩) 4 (cp 2)] 58 (0, 0)) := h.box
end
/-! ### the reference's list of three rows -/
def tk (cs : List Int) (i : Nat) : List Int := (cs.take i).map fun x => Int.tdiv x 3
def rowVs (bk cp : Nat → Nat) (p : Nat) : List Value := (List.range p).map fun q => .slice (some ⟨bk q, 0, none⟩) 4 (cp q)
structure Lst (w wr : World) (v : Value) (p : Nat) (bk cp : Nat → Nat) (rows : Rws) : Prop where
  own : wr.ownsRow w.heap.size 24 1 v (rowVs bk cp p).length (rowVs bk cp p)
  some3 : Some3 wr w.heap.size p bk rows
  ne : ∀ q, q < p → v.ownBlock ≠ some (bk q)
  below : Below w.heap.size w wr
section
variable {w w1 w2 w3 wr wi : World} {bk cp : Nat → Nat} {rows : Rws} {cs : List Int} {p base g gb b i cap n : Nat} {v v1 u : Value}
theorem rowVs_len : (rowVs bk cp p).length = p := by unfold rowVs; rw [List.length_map, List.length_range]
theorem rowVs_push : rowVs bk cp p ++ [Value.slice (some ⟨g, 0, none⟩) 4 cap] = rowVs (putAt bk p g) (putAt cp p cap) (p + 1) := by
  unfold rowVs
  rw [List.range_succ, List.map_append, List.map_singleton, putAt_self, putAt_self]
  congr 1
  apply List.map_congr_left
  intro q hq
  have hq := List.mem_range.1 hq
  rw [putAt_lt hq, putAt_lt hq]
theorem own_keep {e : TypeId} {sz n : Nat} {xs : List Value} (h : w.ownsRow base e sz v n xs) (hb : Below w.heap.size w w1) : w1.ownsRow base e sz v n xs := by
  refine ⟨h.1, ?_⟩
  rcases h.2 with h2 | ⟨g, cap, cur, rfl, hb1, hg, h3⟩
  · exact .inl h2
  · exact .inr ⟨g, cap, cur, rfl, hb1, (hb.block g (blk_lt hg)).trans hg, h3⟩
theorem Lst.start (hb : Below w.heap.size w wr) : Lst w wr (.slice none 0 0) 0 bk cp rows := ⟨World.ownsRow_nil _ _ _ _, .zero, fun q h => by omega, hb⟩
theorem Lst.kept (h : Lst w wr v p bk cp rows) (hb : Below wr.heap.size wr w1) : Lst w w1 v p bk cp rows := ⟨own_keep h.own hb, h.some3.below hb, h.ne, h.below.trans (hb.mono h.below.size)⟩
theorem Lst.drewN (h : Lst w wr v p bk cp rows) (n : Nat) : Lst w (wr.drewN n) v p bk cp rows := ⟨h.own, h.some3.kept fun _ _ => rfl, h.ne, pw_below_drewN h.below n⟩
theorem tk_len (h : i ≤ cs.length) : (tk cs i).length = i := by unfold tk; rw [List.length_map, List.length_take]; omega
theorem tk_succ (h : cs[i]? = some (rd cs (i : Int))) : tk cs i ++ [Int.tdiv (rd cs (i : Int)) 3] = tk cs (i + 1) := by
  unfold tk
  rw [List.take_add_one, h, List.map_append]
  rfl
/-- A full row of thirds. -/
theorem row_form (h : wi.ownsRow base 3 1 u (tk cs 4).length (nums .i64 (tk cs 4))) (h4 : cs.length = 4) (hv : ∀ k : Nat, k < 4 → cs[k]? = some (rd cs (k : Int))) :
    ∃ g cap cur, u = .slice (some ⟨g, 0, none⟩) 4 cap ∧ base ≤ g ∧ wi.heap[g]? = some (.cells cur 3 (0, 0)) ∧ ∀ k, k < 4 → cur[k]? = some (.int .i64 (thirds cs p k)) := by
  have hl : (tk cs 4).length = 4 := tk_len (by omega)
  rw [hl] at h
  rcases h.2 with ⟨_, h2⟩ | ⟨g, cap, cur, rfl, hb1, hg, _, _, _, ht⟩
  · omega
  · refine ⟨g, cap, cur, rfl, hb1, hg, fun k hk => ?_⟩
    rw [Nat.mul_one] at ht
    rw [← Array.getElem?_toList, ← List.getElem?_take_of_lt (l := cur.toList) (j := 4) hk, ht]
    unfold nums tk thirds
    rw [List.getElem?_map, List.getElem?_map, List.getElem?_take_of_lt hk, hv k hk]
    rfl
theorem Lst.push (h : Lst w wr v p bk cp rows) (hb : Below wr.heap.size wr w2) {cur : Array Value} (hlo : wr.heap.size ≤ g) (hg : w2.heap[g]? = some (.cells cur 3 (0, 0))) (hc : ∀ k, k < 4 → cur[k]? = some (.int .i64 (rows p k)))
    (ho : w3.ownsRow w.heap.size 24 1 v1 (rowVs bk cp p ++ [Value.slice (some ⟨g, 0, none⟩) 4 cap]).length (rowVs bk cp p ++ [Value.slice (some ⟨g, 0, none⟩) 4 cap])) (hB : Below w.heap.size w w3) (hgr : w2.grownBy w3 v.ownBlock) (hat : v1.ownBlock = v.ownBlock ∨ ∃ b, v1.ownBlock = some b ∧ w2.heap.size ≤ b) :
    Lst w w3 v1 (p + 1) (putAt bk p g) (putAt cp p cap) rows := by
  have h2 := h.kept hb
  have hvlt : ∀ k, v.ownBlock = some k → k < wr.heap.size := fun k hk => own_lt h.own k hk
  have hblt : ∀ q, q < p → bk q < wr.heap.size := fun q hq => h.some3.lt hq
  have hsz := h.below.size
  have hgv : some g ≠ v.ownBlock := fun e => by have := hvlt g e.symm; omega
  have hg3 : w3.heap[g]? = some (.cells cur 3 (0, 0)) := (hgr.block g (blk_lt hg) hgv).trans hg
  rw [rowVs_push] at ho
  refine ⟨ho, (h2.some3.kept fun q hq => hgr.block _ (h2.some3.lt hq) (fun e => h.ne q hq e.symm)).push hg3 hc (by omega) (fun q hq e => by have := hblt q hq; omega), fun q hq e => ?_, hB⟩
  have hlt : putAt bk p g q < w2.heap.size ∧ v.ownBlock ≠ some (putAt bk p g q) := by
    rcases Nat.lt_or_ge q p with h3 | h3
    · rw [putAt_lt h3]; exact ⟨Nat.lt_of_lt_of_le (hblt q h3) hb.size, h.ne q h3⟩
    · have e1 : q = p := by omega
      subst e1
      rw [putAt_self]; exact ⟨blk_lt hg, fun e => hgv e.symm⟩
  rcases hat with e1 | ⟨b, e1, e2⟩
  · exact hlt.2 (e1.symm.trans e)
  · rw [e] at e1
    have e3 : putAt bk p g q = b := Option.some.inj e1
    have := hlt.1
    rw [e3] at this
    exact absurd this (Nat.not_lt.2 e2)
theorem Lst.full (h : Lst w wr v 3 bk cp rows) : ∃ lb cap, v = .slice (some ⟨lb, 0, none⟩) 3 cap ∧ (∀ q, q < 3 → lb ≠ bk q) ∧ Left wr lb 0 bk cp := by
  have ho := h.own
  rw [rowVs_len] at ho
  rcases ho.2 with ⟨_, h2⟩ | ⟨g, cap, cur, rfl, hb1, hg, _, _, _, ht⟩
  · omega
  · refine ⟨g, cap, rfl, fun q hq e => h.ne q hq (by rw [← e]; rfl), fun q hq => ?_⟩
    rw [Nat.mul_one] at ht
    rw [Nat.zero_add, blk_cell hg q, ← Array.getElem?_toList, ← List.getElem?_take_of_lt (l := cur.toList) (j := 3) hq, ht]
    unfold rowVs
    rw [List.getElem?_map, List.getElem?_range hq]
    rfl
end
end Go.Proofs.YtafjjbkkcedgnaaDoorOwn
