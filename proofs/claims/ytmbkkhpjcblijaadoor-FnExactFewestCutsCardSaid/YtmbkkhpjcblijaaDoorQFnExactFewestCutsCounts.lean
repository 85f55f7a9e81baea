/- Necklaces: the numbers of beads of the four kinds. -/
import Derived.Test.YtmbkkhpjcblijaaDoorQFnExactFewestCutsBeads
namespace Go.Proofs.YtmbkkhpjcblijaaDoor.QFnExactFewestCuts
open Go.RowKit Go.Proofs.YtmbkkhpjcblijaaDoor.PFnExactFewestCuts Go.Proofs.YtmbkkhpjcblijaaDoorW.PrintWords Go.Proofs.YtmbkkhpjcblijaaDoorW.PrintLast Go.Proofs.YtmbkkhpjcblijaaDoorW.PrintMore
set_option linter.unusedVariables false
set_option linter.unusedSimpArgs false
set_option maxRecDepth 100000
def cn (v : Nat) (l : List UInt8) : Int := ((l.countP fun b => decide (b.toNat = v) : Nat) : Int)
/-- The numbers of the four kinds. -/
def cntL (l : List UInt8) : List Int := [cn 97 l, cn 98 l, cn 99 l, cn 100 l]
theorem cn_le (v : Nat) (l : List UInt8) : 0 ≤ cn v l ∧ cn v l ≤ l.length := by
  unfold cn
  have := List.countP_le_length (p := fun b : UInt8 => decide (b.toNat = v)) (l := l)
  omega
theorem cn_snoc (v : Nat) (l : List UInt8) (b : UInt8) : cn v (l ++ [b]) = cn v l + (if b.toNat = v then 1 else 0) := by
  unfold cn
  rw [List.countP_append, List.countP_singleton]
  by_cases h : b.toNat = v <;> simp [h]
theorem kind_cases {b : UInt8} (hb : isBead b = true) : b.toNat = 97 ∨ b.toNat = 98 ∨ b.toNat = 99 ∨ b.toNat = 100 := by
  unfold isBead at hb
  have := of_decide_eq_true hb
  omega
theorem cnt_step (l : List UInt8) (b : UInt8) (hb : isBead b = true) (hl : l.length ≤ 1000) :
    (cntL l).set ((((b.toNat : Int) - 97) % 256 : Int).toNat) (wrap64 (rd (cntL l) (((b.toNat : Int) - 97) % 256) + 1)) = cntL (l ++ [b]) := by
  have h1 := cn_le 97 l
  have h2 := cn_le 98 l
  have h3 := cn_le 99 l
  have h4 := cn_le 100 l
  unfold cntL
  rw [cn_snoc, cn_snoc, cn_snoc, cn_snoc]
  rcases kind_cases hb with h | h | h | h
  · have e : (((b.toNat : Int) - 97) % 256) = 0 := by omega
    rw [e, show rd [cn 97 l, cn 98 l, cn 99 l, cn 100 l] 0 = cn 97 l from rfl, wr (by omega) (by omega), h]
    simp
  · have e : (((b.toNat : Int) - 97) % 256) = 1 := by omega
    rw [e, show rd [cn 97 l, cn 98 l, cn 99 l, cn 100 l] 1 = cn 98 l from rfl, wr (by omega) (by omega), h]
    simp
  · have e : (((b.toNat : Int) - 97) % 256) = 2 := by omega
    rw [e, show rd [cn 97 l, cn 98 l, cn 99 l, cn 100 l] 2 = cn 99 l from rfl, wr (by omega) (by omega), h]
    simp
  · have e : (((b.toNat : Int) - 97) % 256) = 3 := by omega
    rw [e, show rd [cn 97 l, cn 98 l, cn 99 l, cn 100 l] 3 = cn 100 l from rfl, wr (by omega) (by omega), h]
    simp
theorem cntL_len (l : List UInt8) : (cntL l).length = 4 := rfl
theorem cntL_le (l : List UInt8) (i : Nat) : 0 ≤ rd (cntL l) i ∧ rd (cntL l) i ≤ l.length := by
  have h1 := cn_le 97 l
  have h2 := cn_le 98 l
  have h3 := cn_le 99 l
  have h4 := cn_le 100 l
  rw [rd_nat]
  match i with
  | 0 => exact h1
  | 1 => exact h2
  | 2 => exact h3
  | 3 => exact h4
  | n + 4 => simp [cntL]
theorem kind_range {b : UInt8} (hb : isBead b = true) : 0 ≤ ((b.toNat : Int) - 97) % 256 ∧ ((b.toNat : Int) - 97) % 256 < 4 := by
  rcases kind_cases hb with h | h | h | h <;> omega
theorem bead_at {s : ByteArray} (h : beads s = true) {i : Nat} {b : UInt8} (hb : s.data.toList[i]? = some b) : isBead b = true :=
  List.all_eq_true.1 h b (List.mem_of_getElem? hb)
theorem take_snoc {l : List UInt8} {i : Nat} {b : UInt8} (h : l[i]? = some b) : l.take i ++ [b] = l.take (i + 1) := by
  rw [List.take_add_one, h]; rfl
theorem neckl_size {s : ByteArray} (h : neckl s = true) : s.size ≤ 16 := of_decide_eq_true (Bool.and_eq_true_iff.1 h).1
theorem neckl_beads {s : ByteArray} (h : neckl s = true) : beads s = true := (Bool.and_eq_true_iff.1 h).2
theorem cntL_nil : (List.replicate 4 0 : List Int) = cntL [] := rfl
end Go.Proofs.YtmbkkhpjcblijaaDoor.QFnExactFewestCuts
