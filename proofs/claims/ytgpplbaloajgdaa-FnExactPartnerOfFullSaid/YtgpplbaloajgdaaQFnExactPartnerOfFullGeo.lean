/- Triangles: tables of the cells and of the border, and what they say of doors: each edge has one cell or two. -/
import Derived.Test.YtgpplbaloajgdaaQFnExactPartnerOfFullMesh
import Derived.Test.YtgpplbaloajgdaaQFnExactPartnerOfFullCellsWith
namespace Go.Proofs.Ytgpplbaloajgdaa.QFnExactPartnerOfFull
open Go.RowKit Go.Proofs.Ytgpplbaloajgdaa.PFnExactPartnerOfFull Go.Proofs.YtgpplbaloajgdaaW.PrintWords Go.Proofs.YtgpplbaloajgdaaW.PrintLast Go.Proofs.YtgpplbaloajgdaaW.PrintMore
set_option linter.unusedVariables false
set_option linter.unusedSimpArgs false
set_option maxRecDepth 100000
def cellsT : Nat → List (List Int)
  | 1 => [[0,1,2]]
  | 2 => [[0,1,2],[1,2,4],[1,3,4],[2,4,5]]
  | 3 => [[0,1,2],[1,2,4],[1,3,4],[2,4,5],[3,4,7],[3,6,7],[4,5,8],[4,7,8],[5,8,9]]
  | 4 => [[0,1,2],[1,2,4],[1,3,4],[2,4,5],[3,4,7],[3,6,7],[4,5,8],[4,7,8],[5,8,9],[6,7,11],[6,10,11],[7,8,12],[7,11,12],[8,9,13],[8,12,13],[9,13,14]]
  | 5 => [[0,1,2],[1,2,4],[1,3,4],[2,4,5],[3,4,7],[3,6,7],[4,5,8],[4,7,8],[5,8,9],[6,7,11],[6,10,11],[7,8,12],[7,11,12],[8,9,13],[8,12,13],[9,13,14],[10,11,16],[10,15,16],[11,12,17],[11,16,17],[12,13,18],[12,17,18],[13,14,19],[13,18,19],[14,19,20]]
  | 6 => [[0,1,2],[1,2,4],[1,3,4],[2,4,5],[3,4,7],[3,6,7],[4,5,8],[4,7,8],[5,8,9],[6,7,11],[6,10,11],[7,8,12],[7,11,12],[8,9,13],[8,12,13],[9,13,14],[10,11,16],[10,15,16],[11,12,17],[11,16,17],[12,13,18],[12,17,18],[13,14,19],[13,18,19],[14,19,20],[15,16,22],[15,21,22],[16,17,23],[16,22,23],[17,18,24],[17,23,24],[18,19,25],[18,24,25],[19,20,26],[19,25,26],[20,26,27]]
  | 7 => [[0,1,2],[1,2,4],[1,3,4],[2,4,5],[3,4,7],[3,6,7],[4,5,8],[4,7,8],[5,8,9],[6,7,11],[6,10,11],[7,8,12],[7,11,12],[8,9,13],[8,12,13],[9,13,14],[10,11,16],[10,15,16],[11,12,17],[11,16,17],[12,13,18],[12,17,18],[13,14,19],[13,18,19],[14,19,20],[15,16,22],[15,21,22],[16,17,23],[16,22,23],[17,18,24],[17,23,24],[18,19,25],[18,24,25],[19,20,26],[19,25,26],[20,26,27],[21,22,29],[21,28,29],[22,23,30],[22,29,30],[23,24,31],[23,30,31],[24,25,32],[24,31,32],[25,26,33],[25,32,33],[26,27,34],[26,33,34],[27,34,35]]
  | 8 => [[0,1,2],[1,2,4],[1,3,4],[2,4,5],[3,4,7],[3,6,7],[4,5,8],[4,7,8],[5,8,9],[6,7,11],[6,10,11],[7,8,12],[7,11,12],[8,9,13],[8,12,13],[9,13,14],[10,11,16],[10,15,16],[11,12,17],[11,16,17],[12,13,18],[12,17,18],[13,14,19],[13,18,19],[14,19,20],[15,16,22],[15,21,22],[16,17,23],[16,22,23],[17,18,24],[17,23,24],[18,19,25],[18,24,25],[19,20,26],[19,25,26],[20,26,27],[21,22,29],[21,28,29],[22,23,30],[22,29,30],[23,24,31],[23,30,31],[24,25,32],[24,31,32],[25,26,33],[25,32,33],[26,27,34],[26,33,34],[27,34,35],[28,29,37],[28,36,37],[29,30,38],[29,37,38],[30,31,39],[30,38,39],[31,32,40],[31,39,40],[32,33,41],[32,40,41],[33,34,42],[33,41,42],[34,35,43],[34,42,43],[35,43,44]]
  | _ => []
def bordT : Nat → List Int
  | 1 => [0,1,2]
  | 2 => [0,1,3,4,5,2]
  | 3 => [0,1,3,6,7,8,9,5,2]
  | 4 => [0,1,3,6,10,11,12,13,14,9,5,2]
  | 5 => [0,1,3,6,10,15,16,17,18,19,20,14,9,5,2]
  | 6 => [0,1,3,6,10,15,21,22,23,24,25,26,27,20,14,9,5,2]
  | 7 => [0,1,3,6,10,15,21,28,29,30,31,32,33,34,35,27,20,14,9,5,2]
  | 8 => [0,1,3,6,10,15,21,28,36,37,38,39,40,41,42,43,44,35,27,20,14,9,5,2]
  | _ => []
theorem cells_tab : ((List.range 9).all fun n => n == 0 || cellsFn n == cellsT n) = true := by decide +kernel
theorem bordI_tab : ((List.range 9).all fun n => n == 0 || impl_border.f 120 (n : Int) == some (bordT n)) = true := by decide +kernel
/-- The edges of a cell. -/
def edges (c : List Int) : List (List Int) := [[rd c 0, rd c 1], [rd c 0, rd c 2], [rd c 1, rd c 2]]
def wth (C : List (List Int)) (x y : Int) : List Int := withFn C x y C.length 0
/-- A cell of a table: three points, rising; the cells at each of its edges are itself alone, or itself and one other that has the edge, too. -/
def okCell (C : List (List Int)) (m i : Nat) : Bool :=
  let c := C.getD i []
  decide (c.length = 3) && decide (0 ≤ rd c 0) && decide (rd c 0 < rd c 1) && decide (rd c 1 < rd c 2) && decide (rd c 2 < (m : Int)) &&
    (edges c).all fun d => match wth C (rd d 0) (rd d 1) with
      | [p] => decide (p = (i : Int))
      | [p, q] => decide (p = (i : Int)) && decide (i < q.toNat) && decide (0 ≤ q) && decide (q.toNat < C.length) && (edges (C.getD q.toNat [])).contains d ||
          decide (q = (i : Int)) && decide (p.toNat < i) && decide (0 ≤ p) && decide (p.toNat < C.length) && (edges (C.getD p.toNat [])).contains d
      | _ => false
/-- The steps along a border. -/
def stepsT (b : List Int) : List (List Int) := (List.range b.length).map fun (t : Nat) => [rd b (t : Int), rd b (Int.ofNat ((t + 1) % b.length))]
def inner (s : List Int) : List Int := [mn (rd s 0) (rd s 1), mx (rd s 0) (rd s 1)]
/-- A step along the border is the edge of one cell alone. -/
def okStep (C : List (List Int)) (m : Nat) (s : List Int) : Bool :=
  decide (0 ≤ rd s 0) && decide (rd s 0 < (m : Int)) && decide (0 ≤ rd s 1) && decide (rd s 1 < (m : Int)) &&
    match wth C (rd (inner s) 0) (rd (inner s) 1) with
      | [p] => decide (0 ≤ p) && decide (p.toNat < C.length) && (edges (C.getD p.toNat [])).contains (inner s)
      | _ => false
theorem geo : ((List.range 9).all fun n => n == 0 || (decide ((cellsT n).length = n * n) && decide ((bordT n).length = 3 * n) && ((List.range (n * n)).all (okCell (cellsT n) (many n)) && (stepsT (bordT n)).all (okStep (cellsT n) (many n))))) = true := by decide +kernel
section
variable {n : Nat} (h : Side n)
include h
theorem Side.tab {f : Nat → Bool} (hf : ((List.range 9).all fun n => n == 0 || f n) = true) : f n = true := by
  have a := List.all_eq_true.1 hf n (by simp; have := h.hi; omega)
  have z : (n == 0) = false := by simp; have := h.lo; omega
  rw [z, Bool.false_or] at a
  exact a
theorem Side.cellsT : cellsFn n = cellsT n := eq_of_beq (h.tab cells_tab)
theorem Side.cellsI : Ev (fun k => impl_cells.f k (n : Int)) (QFnExactPartnerOfFull.cellsT n) := by rw [← h.cellsT]; exact h.cells
theorem Side.cellsS : Ev (fun k => spec_meCells.f k (n : Int)) (QFnExactPartnerOfFull.cellsT n) := by rw [← h.cellsT]; exact h.meCells
theorem Side.bordI : Ev (fun k => impl_border.f k (n : Int)) (bordT n) := Ev.of (fun k => impl_border.mono _ k) (eq_of_beq (h.tab bordI_tab))
theorem Side.geo : (QFnExactPartnerOfFull.cellsT n).length = n * n ∧ (bordT n).length = 3 * n ∧ (∀ i, i < n * n → okCell (QFnExactPartnerOfFull.cellsT n) (many n) i = true) ∧ ∀ s ∈ stepsT (bordT n), okStep (QFnExactPartnerOfFull.cellsT n) (many n) s = true := by
  have a := h.tab QFnExactPartnerOfFull.geo
  simp only [Bool.and_eq_true, decide_eq_true_eq] at a
  exact ⟨a.1.1, a.1.2, fun i hi => List.all_eq_true.1 a.2.1 i (List.mem_range.2 hi), fun s hs => List.all_eq_true.1 a.2.2 s hs⟩
end
end Go.Proofs.Ytgpplbaloajgdaa.QFnExactPartnerOfFull
