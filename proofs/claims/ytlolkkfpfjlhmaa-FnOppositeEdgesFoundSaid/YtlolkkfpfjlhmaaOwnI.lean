/- A row of numbers of the call's own that is not empty is a slice with an address. -/
import Derived.Test.YtlolkkfpfjlhmaaProg
import Derived.Test.YtlolkkfpfjlhmaaOwn
namespace Go.Proofs.YtlolkkfpfjlhmaaOwn
open Go.RowKit Go.Proofs.YtlolkkfpfjlhmaaW.PrintWords Go.Proofs.YtlolkkfpfjlhmaaW.PrintLast
set_option linter.unusedVariables false
set_option linter.unusedSimpArgs false
def encI (x : Int) : Value := .int .i64 x
theorem ownI {w : World} {base : Nat} {ok : Nat → Prop} {v : Value} {xs : List Int} (hS : Kd.R (Kd.int .i64) 3 w base ok v xs) (hpos : 0 < xs.length) :
    ∃ blk cap cur, v = .slice (some ⟨blk, 0, none⟩) xs.length cap ∧ base ≤ blk ∧ w.heap[blk]? = some (.cells cur 3 (0, 0)) ∧ xs.length ≤ cap ∧ cap ≤ 9223372036854775807 ∧ cur.size = cap ∧ ∀ (j : Nat) (x : Int), xs[j]? = some x → cur[j]? = some (encI x) := by
  obtain ⟨h0, inner, ho, hr⟩ := hS
  obtain ⟨hlen, ⟨rfl, hn⟩ | ⟨blk, cap, cur, rfl, hge, hblk, hcap, hmax, hsz, htake⟩⟩ := ho
  · omega
  · have e1 : (Kd.int IntKind.i64).sz = 1 := rfl
    rw [e1] at hsz htake
    rw [Nat.mul_one] at htake
    refine ⟨blk, cap, cur, rfl, hge, hblk, hcap, hmax, by omega, fun j x hx => ?_⟩
    have hu : (inner.drop (j * 1)).take 1 = [encI x] := hr.2 j x hx
    have hlt : j < xs.length := (List.getElem?_eq_some_iff.1 hx).1
    rw [Nat.mul_one] at hu
    have h3 : inner[j]? = some (encI x) := by
      have := congrArg (fun l => l[0]?) hu
      simpa [List.getElem?_take_of_lt, List.getElem?_drop] using this
    rw [← htake, List.getElem?_take_of_lt hlt] at h3
    rw [← Array.getElem?_toList]; exact h3
end Go.Proofs.YtlolkkfpfjlhmaaOwn
