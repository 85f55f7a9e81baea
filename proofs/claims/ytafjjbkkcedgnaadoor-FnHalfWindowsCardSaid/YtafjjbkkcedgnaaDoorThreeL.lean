/- Beads for three people: the two searches, which lower and restore the people's rows in place: walked once each. -/
import Derived.Test.YtafjjbkkcedgnaaDoorProg
import Derived.Test.YtafjjbkkcedgnaaDoorOwn
import Derived.Test.YtafjjbkkcedgnaaDoorWMore
import Derived.Shelf.GgSortFunc.SW
import Derived.Shelf.Abstract
import Derived.Lib.SliceRun
import Derived.Lib.Walk
import Derived.WalkKit
import Derived.Below
import Derived.KernelRfl
import Derived.Deep.LoopGhost
import Derived.Deep.Draws
namespace Go.Proofs.YtafjjbkkcedgnaaDoorOwn
open Go.RowKit Go.Shelf Go.Proofs.YtafjjbkkcedgnaaDoorW.PrintWords Go.Proofs.YtafjjbkkcedgnaaDoorW.PrintLast Go.Proofs.YtafjjbkkcedgnaaDoorW.PrintMore
set_option linter.unusedVariables false
set_option linter.unusedSimpArgs false
abbrev Rws := Nat → Nat → Int
def upd (rows : Rws) (p k : Nat) (v : Int) : Rws := fun p' k' => if p' = p ∧ k' = k then v else rows p' k'
/-- Three rows of four numbers lie in the blocks bk 0, bk 1, bk 2. -/
structure Rows3 (w : World) (bk : Nat → Nat) (rows : Rws) : Prop where
  apart : ∀ p q, p < 3 → q < 3 → bk p = bk q → p = q
  at_ : ∀ p, p < 3 → ∃ cur : Array Value, w.heap[bk p]? = some (.cells cur 3 (0, 0)) ∧ ∀ k, k < 4 → cur[k]? = some (.int .i64 (rows p k))
section
variable {w w1 w2 : World} {bk : Nat → Nat} {rows : Rws} {p k : Nat}
theorem Rows3.cell (h : Rows3 w bk rows) (hp : p < 3) (hk : k < 4) : w.cell? ⟨bk p, k, none⟩ = some (.int .i64 (rows p k)) := by
  obtain ⟨cur, h1, h2⟩ := h.at_ p hp
  rw [blk_cell h1 k]; exact h2 k hk
theorem Rows3.thawed (h : Rows3 w bk rows) (hp : p < 3) : w.frozen? ⟨bk p, k, none⟩ = false := by
  obtain ⟨cur, h1, h2⟩ := h.at_ p hp
  unfold World.frozen?
  rw [h1]
  simp
theorem Rows3.lt (h : Rows3 w bk rows) (hp : p < 3) : bk p < w.heap.size := by
  obtain ⟨cur, h1, _⟩ := h.at_ p hp
  exact blk_lt h1
theorem set_at {cur : Array Value} {b : Nat} {t : TypeId} (h : w.heap[b]? = some (.cells cur t (0, 0))) (k : Nat) (u : Value) : (w.setCell ⟨b, k, none⟩ u).heap[b]? = some (.cells (cur.setIfInBounds k u) t (0, 0)) := by
  rw [Go.Sort.setCell_eq]
  unfold Go.Sort.mapBlock
  show (w.heap.modify b _)[b]? = _
  rw [Array.getElem?_modify, if_pos rfl, h]
  rfl
theorem set_other {b c : Nat} (k : Nat) (u : Value) (h : ¬ c = b) : (w.setCell ⟨b, k, none⟩ u).heap[c]? = w.heap[c]? := by
  rw [Go.Sort.setCell_eq]
  unfold Go.Sort.mapBlock
  show (w.heap.modify b _)[c]? = _
  rw [Array.getElem?_modify, if_neg (fun e => h e.symm)]
theorem set_size (b k : Nat) (u : Value) : (w.setCell ⟨b, k, none⟩ u).heap.size = w.heap.size := by
  rw [Go.Sort.setCell_eq]
  unfold Go.Sort.mapBlock
  show (w.heap.modify b _).size = _
  rw [Array.size_modify]
theorem Rows3.set (h : Rows3 w bk rows) (hp : p < 3) (v : Int) : Rows3 (w.setCell ⟨bk p, k, none⟩ (.int .i64 v)) bk (upd rows p k v) := by
  refine ⟨h.apart, fun q hq => ?_⟩
  obtain ⟨cur, h1, h2⟩ := h.at_ q hq
  by_cases e : q = p
  · subst e
    refine ⟨_, set_at h1 k _, fun j hj => ?_⟩
    have hlt : j < cur.size := by
      have := h2 j hj
      exact (Array.getElem?_eq_some_iff.1 this).1
    rw [Array.getElem?_setIfInBounds]
    unfold upd
    by_cases ej : k = j
    · subst ej
      rw [if_pos rfl, if_pos hlt, if_pos ⟨rfl, rfl⟩]
    · rw [if_neg ej, if_neg (fun z => ej z.2.symm)]
      exact h2 j hj
  · refine ⟨cur, ?_, fun j hj => ?_⟩
    · rw [set_other k _ (fun z => e (h.apart q p hq hp z))]; exact h1
    · unfold upd
      rw [if_neg (fun z => e z.1)]
      exact h2 j hj
theorem Rows3.below (h : Rows3 w bk rows) (hb : Below w.heap.size w w1) : Rows3 w1 bk rows :=
  ⟨h.apart, fun q hq => by
    obtain ⟨cur, h1, h2⟩ := h.at_ q hq
    exact ⟨cur, (hb.block _ (blk_lt h1)).trans h1, h2⟩⟩
/-- What was lowered is put back: all that lay, lies. -/
theorem Rows3.restore {v : Int} (h : Rows3 w bk rows) (hp : p < 3) (hk : k < 4) (hb : Below (w.setCell ⟨bk p, k, none⟩ (.int .i64 v)).heap.size (w.setCell ⟨bk p, k, none⟩ (.int .i64 v)) w2) : Below w.heap.size w (w2.setCell ⟨bk p, k, none⟩ (.int .i64 (rows p k))) := by
  obtain ⟨cur, h1, h2⟩ := h.at_ p hp
  have hlt := blk_lt h1
  have hs : (w.setCell ⟨bk p, k, none⟩ (.int .i64 v)).heap.size = w.heap.size := set_size _ _ _
  rw [hs] at hb
  have h3 := (hb.block (bk p) hlt).trans (set_at h1 k _)
  refine ⟨hb.os, hb.tape, hb.output, by rw [set_size]; exact hs ▸ hb.size, fun j hj => ?_⟩
  by_cases e : j = bk p
  · subst e
    rw [set_at h3 k _, h1]
    have hkc : k < cur.size := (Array.getElem?_eq_some_iff.1 (h2 k hk)).1
    congr 2
    apply Array.ext_getElem?
    intro i
    rw [Array.getElem?_setIfInBounds, Array.getElem?_setIfInBounds, Array.size_setIfInBounds]
    by_cases ei : k = i
    · subst ei
      rw [if_pos rfl, if_pos hkc, h2 k hk]
    · rw [if_neg ei, if_neg ei]
  · rw [set_other k _ e, hb.block j hj, set_other k _ e]
end
/-- The best of d people from p on. -/
def lp (g : Nat → Rws → Int) (k : Nat) (pen : Nat → Int) (rows : Rws) : Nat → Nat → Int → Int
  | 0, _, best => best
  | d + 1, p, best => if rows p k = 0 then lp g k pen rows d (p + 1) best else lp g k pen rows d (p + 1) (min best (pen p + g p (upd rows p k (rows p k - 1))))
/-- The least number of cuts with which the beads that are left (of the kinds ks, n in all) can be given; who got the one ahead: last, if there was one. -/
def nl (n : Nat) : List Nat → Nat → Rws → Int
  | [], _, _ => 0
  | k :: r, last, rows => lp (fun p rows' => nl n r p rows') k (fun p => if r.length + 1 < n ∧ p ≠ last then 1 else 0) rows 3 0 1000
theorem lp_range (g : Nat → Rws → Int) (k : Nat) (pen : Nat → Int) (rows : Rws) (hg : ∀ p r, 0 ≤ g p r) (hp : ∀ p, 0 ≤ pen p) : ∀ d p best, 0 ≤ best → 0 ≤ lp g k pen rows d p best ∧ lp g k pen rows d p best ≤ best
  | 0, _, best, h => ⟨h, Int.le_refl _⟩
  | d + 1, p, best, h => by
    unfold lp
    split
    · exact lp_range g k pen rows hg hp d (p + 1) best h
    · have h1 := hg p (upd rows p k (rows p k - 1))
      have h2 := hp p
      have h3 : 0 ≤ min best (pen p + g p (upd rows p k (rows p k - 1))) := by omega
      have := lp_range g k pen rows hg hp d (p + 1) _ h3
      exact ⟨this.1, Int.le_trans this.2 (Int.min_le_left _ _)⟩
theorem nl_range (n : Nat) : ∀ (ks : List Nat) (last : Nat) (rows : Rws), 0 ≤ nl n ks last rows ∧ nl n ks last rows ≤ 1000
  | [], _, _ => by simp [nl]
  | k :: r, last, rows => lp_range _ k _ rows (fun p r' => (nl_range n r p r').1) (fun p => by split <;> omega) 3 0 1000 (by omega)
end Go.Proofs.YtafjjbkkcedgnaaDoorOwn
