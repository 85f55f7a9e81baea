/- math/bits.TrailingZeros' table, where a world has it laid. -/
import Derived.Test.YtemgnbpcchlpiaaDoorProg
import Derived.Test.YtemgnbpcchlpiaaDoorOwn
import Derived.Test.YtemgnbpcchlpiaaDoorShelf
import Derived.Test.YtemgnbpcchlpiaaDoorRows
import Derived.Shelf.Spec.TrailingZeros
import Derived.Lay
import Derived.LaidMore
import Derived.ProofKit
import Derived.OpenShut
namespace Go.Proofs.YtemgnbpcchlpiaaDoorOwn
open Go.RowKit Go.Shelf Go.Proofs.YtemgnbpcchlpiaaDoorW.PrintWords Go.Proofs.YtemgnbpcchlpiaaDoorW.PrintLast
set_option linter.unusedVariables false
set_option linter.unusedSimpArgs false
/-- The table lies in the world. -/
def TabW (w : World) : Prop := TabAt 1 Go.Lib.deBruijn64tab w
theorem tab_below {w w' : World} {B : Nat} (h : TabW w) (hB : w.heap.size ≤ B) (hb : Below B w w') : TabW w' := fun j hj => by
  have hc := h j hj
  have hlt : (1 : Nat) < w.heap.size := by
    have h2 := hc
    unfold World.cell? at h2
    rcases Nat.lt_or_ge 1 w.heap.size with h1 | h1
    · exact h1
    · rw [Array.getElem?_eq_none h1] at h2
      cases h2
  have e : w'.heap[1]? = w.heap[1]? := hb.block 1 (by omega)
  unfold World.cell? at hc ⊢
  rw [e]; exact hc
theorem tab_laid {W : World} (h : laidMetH Tryd.prog Go.Proofs.YtemgnbpcchlpiaaDoor.Rows.fnKneserColoursRow.laid W) : TabW W := by
  rw [MakeChecks.laidMetH_plain _ _ _ (by kernel_rfl)] at h
  obtain ⟨ps, hvars, _, _⟩ := h
  obtain ⟨_, _, _, _, _, q1, _, _, _, _, hr, _⟩ := hvars
  obtain ⟨g, t, cs, fuel, p, q, hg, ht, hv, hd, _, _⟩ := hr
  obtain rfl := Option.some.inj ((show Tryd.prog.globalNamed "math/bits.deBruijn64tab" = some 1 by kernel_rfl).symm.trans hg)
  obtain rfl := Option.some.inj ((show (Tryd.prog.globals[1]?).map (·.type) = some 62 by kernel_rfl).symm.trans ht)
  obtain ⟨xs, m, _, ex, _, hl, hel⟩ := DataW.trod_array Tryd.underlying62 hd
  have c5 : Tryd.prog.cellsOf 5 = 1 := by kernel_rfl
  have hlen : Go.Lib.deBruijn64tab.length = 64 := by kernel_rfl
  intro r hr0
  have hr64 : r < 64 := by omega
  have hE := hel r (by omega)
  rw [c5, Nat.mul_one, List.getElem?_eq_getElem (by omega)] at hE
  obtain ⟨z, e1, e2, _⟩ := DataW.trod_int Tryd.underlying5 hE
  have e3 : (xs.map (·.1)) = Go.Lib.deBruijn64tab.map fun n : Nat => (DataW.lit (.int .u8 (n : Int)) : DataW Unit) := (DataW.agg.inj (Prod.mk.inj ex).1).symm.trans (by rfl)
  have e4 : (xs.map (·.1))[r]? = (Go.Lib.deBruijn64tab.map fun n : Nat => (DataW.lit (.int .u8 (n : Int)) : DataW Unit))[r]? := by rw [e3]
  rw [List.getElem?_map, List.getElem?_map, List.getElem?_eq_getElem (by omega : r < xs.length), List.getElem?_eq_getElem (by omega : r < Go.Lib.deBruijn64tab.length), e2] at e4
  have hz : z = ((Go.Lib.deBruijn64tab.getD r 0 : Nat) : Int) := by
    simp only [Option.map_some, Option.some.injEq, DataW.lit.injEq, Lit.int.injEq, true_and] at e4
    rw [e4, List.getD, List.getElem?_eq_getElem (by omega : r < Go.Lib.deBruijn64tab.length)]; rfl
  rw [World.var?_cell hg hv r, ← hz]
  have : cs.toList[r]? = some (.int .u8 z) := by
    have h0 : ((cs.toList.drop r).take 1)[0]? = some (.int .u8 z) := by rw [e1]; rfl
    simpa using h0
  simpa using this
theorem tz_at (x : Nat) (hx : x < 18446744073709551616) (w : World) (hT : TabW w) :
    Calls Tryd.prog 28 #[.int .u64 x] w fun e w' => e = .returned (.int .i64 (Go.Lib.ctz 64 x)) ∧ w' = w := Any7.bits_TrailingZeros Tryd.tzL x hx w (fun _ => hT)
end Go.Proofs.YtemgnbpcchlpiaaDoorOwn
