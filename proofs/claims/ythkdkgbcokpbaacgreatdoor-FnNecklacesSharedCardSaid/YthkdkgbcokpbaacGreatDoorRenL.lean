/- slices.Clone, slices.Sort and slices.Equal over rows of numbers, in the print's words. -/
import Derived.Test.YthkdkgbcokpbaacGreatDoorDelI
import Derived.Test.YthkdkgbcokpbaacGreatDoorShelfR
import Derived.Shelf.Sort.Plain
import Derived.Shelf.Slices.In.SortNone
import Derived.Shelf.Slices.Clone
import Derived.Shelf.SlicesE.Equal
import Derived.Shelf.GgSortFunc.SW
namespace Go.Proofs.YthkdkgbcokpbaacGreatDoorOwn
open Go.RowKit Go.Shelf Go.Proofs.YthkdkgbcokpbaacGreatDoorW.PrintWords Go.Proofs.YthkdkgbcokpbaacGreatDoorW.PrintLast
set_option linter.unusedVariables false
set_option linter.unusedSimpArgs false
theorem spot_none {w : World} {a : Addr} {u : Value} (h : w.cell? a = some u) : a.spot = none := by
  unfold World.cell? at h
  cases hs : a.spot with
  | none => rfl
  | some k =>
    rw [hs] at h
    split at h <;> simp at h
theorem cell_lt {w : World} {a : Addr} {u : Value} (h : w.cell? a = some u) : a.block < w.heap.size := by
  unfold World.cell? at h
  rcases Nat.lt_or_ge a.block w.heap.size with h1 | h1
  · exact h1
  · rw [Array.getElem?_eq_none h1] at h
    cases h
theorem readsI {w : World} {A : Option Addr} {xs : List Int} (hC : Kd.C (Kd.int .i64) w A xs.length xs) (hp : 0 < xs.length) :
    ∃ b o, A = some ⟨b, o, none⟩ ∧ ∀ (j : Nat) (x : Int), xs[j]? = some x → w.cell? ⟨b, o + j, none⟩ = some (encI x) := by
  obtain ⟨ad, e, hc⟩ := hC.2.2 hp
  have hcell : ∀ (j : Nat) (x : Int), xs[j]? = some x → w.cell? (ad.add j) = some (encI x) := fun j x hx => by
    obtain ⟨c, _, hR, hu⟩ := hc j x hx
    have hc1 : c = [encI x] := hR
    have := hu 0 (encI x) (by rw [hc1]; rfl)
    have e1 : (Kd.int IntKind.i64).sz = 1 := rfl
    rwa [e1, Nat.mul_one, Nat.add_zero] at this
  have h0 := hcell 0 _ (List.getElem?_eq_getElem hp)
  have hs : ad.spot = none := spot_none (a := ad.add 0) h0
  obtain ⟨b, o, sp⟩ := ad
  cases hs
  exact ⟨b, o, e, fun j x hx => by have := hcell j x hx; rwa [add_at] at this⟩
theorem ownsI_ok {w : World} {base : Nat} {v : Value} {n : Nat} {xs : List Value} (h : w.ownsRow base 3 1 v n xs) : ∀ k, v.ownBlock = some k → (fun _ => True) k := fun _ _ => trivial
theorem cloneI {w : World} {A : Option Addr} {c : Nat} {xs : List Int} (hC : Kd.C (Kd.int .i64) w A xs.length xs) (hbig : xs.length ≤ 1099511627776) :
    Calls Tryz.prog 44 #[.slice A xs.length c] w fun e w' => ∃ v', e = .returned v' ∧ Kd.R (Kd.int .i64) 3 w' w.heap.size (fun _ => True) v' xs ∧ Below w.heap.size w w' := by
  rcases Nat.eq_zero_or_pos xs.length with h0 | hp
  · have hx : xs = [] := List.eq_nil_of_length_eq_zero h0
    subst hx
    cases A with
    | none => exact (Go.Proofs.Any.slices_Clone_int_nil Go.Proofs.Tryz.cloneI 0 c w).mono fun e w' hh => ⟨_, hh.1, Kd.R_nil _ _ _ _ _, hh.2 ▸ Below.refl _ _⟩
    | some ad => exact (Go.Proofs.Any.slices_Clone_int_zero Go.Proofs.Tryz.cloneI ad c w).mono fun e w' ⟨v', he, ho, _, hb⟩ => ⟨v', he, R_of_own (fun _ _ => trivial) ho, hb⟩
  · obtain ⟨b, o, rfl, hc⟩ := readsI hC hp
    refine (Go.Proofs.Any.slices_Clone_int Go.Proofs.Tryz.cloneI b o xs.length c xs w (Nat.le_refl _) (by omega) (fun j hj => ?_)).mono fun e w' ⟨v', he, ho, _, hb⟩ => ⟨v', he, R_of_own (fun _ _ => trivial) (by rwa [List.take_length] at ho), hb⟩
    have := hc j _ (List.getElem?_eq_getElem hj)
    rw [this, List.getD_eq_getElem?_getD, List.getElem?_eq_getElem hj]
    rfl
theorem sortI {w : World} {base : Nat} {ok : Nat → Prop} {v : Value} {xs : List Int} (hS : Kd.R (Kd.int .i64) 3 w base ok v xs) (hbig : xs.length ≤ 1099511627776) :
    Calls Tryz.prog 45 #[v] w fun e w' => e = .returned (.tuple #[]) ∧ Kd.R (Kd.int .i64) 3 w' base ok v (xs.mergeSort fun x y => decide (x ≤ y)) ∧ w'.os = w.os ∧ w'.tape = w.tape ∧ w'.output = w.output ∧ Kept w w' (fun k => some k = v.ownBlock) := by
  rcases Nat.eq_zero_or_pos xs.length with h0 | hp
  · have hx : xs = [] := List.eq_nil_of_length_eq_zero h0
    subst hx
    obtain ⟨A, c, rfl⟩ := Kd.R_slice hS
    exact (Go.Proofs.Any.slices_Sort_int_none Go.Proofs.Tryz.sortI A c w).mono fun e w' hh => ⟨hh.1, by rw [hh.2, List.mergeSort_nil]; exact hS, by rw [hh.2], by rw [hh.2], by rw [hh.2], hh.2 ▸ Kept.refl _ _⟩
  · obtain ⟨blk, cap, cur, rfl, hge, hblk, hcap, hmax, hsz, hc⟩ := ownI hS hp
    have hok : ok blk := by
      exact hS.1 blk rfl
    have hH := holdsI hblk hc
    refine (Go.Proofs.Any.slices_Sort_int Go.Proofs.Tryz.sortI blk 0 cap xs w hH (blk_lt hblk) (by omega)).mono ?_
    rintro e w' ⟨he, n, os, rfl⟩
    have hl : (xs.mergeSort fun x y => decide (x ≤ y)).length = xs.length := List.length_mergeSort _
    have hlt : blk < (Go.Sort.putRow encI (Go.Sort.ahead w n) blk 0 (xs.mergeSort fun x y => decide (x ≤ y)).toArray).heap.size := by rw [Go.Sort.size_putRow]; exact blk_lt hblk
    refine ⟨he, ?_, rfl, rfl, rfl, ?_⟩
    · rw [← hl]
      refine ownI_mk (cur := Go.Sort.putCells encI 0 (xs.mergeSort fun x y => decide (x ≤ y)).toArray cur) hok hge ?_ (by omega) hmax (by rw [Go.Sort.putCells]; simpa using hsz) (fun j x hx => ?_)
      · exact (Go.Sort.heap_grow_old _ os hlt).trans (put_at hblk _)
      · have hj : j < (xs.mergeSort fun x y => decide (x ≤ y)).length := (List.getElem?_eq_some_iff.1 hx).1
        have hlt : j < cur.size := by omega
        unfold Go.Sort.putCells
        rw [Array.getElem?_mapIdx, Array.getElem?_eq_getElem hlt, Option.map_some, if_pos ⟨Nat.zero_le _, by simp; omega⟩]
        congr 2
        exact getBang (by rw [Nat.sub_zero]; exact hx)
    · refine (put_kept (q := n) (n := xs.length) (cap := cap) (xs.mergeSort fun x y => decide (x ≤ y)).toArray).then_ (S2 := fun _ => False) ?_ (fun _ h => h.elim)
      refine ⟨?_, fun k hk _ => Go.Sort.heap_grow_old _ os hk⟩
      show _ ≤ ((Go.Sort.putRow encI (Go.Sort.ahead w n) blk 0 _).heap ++ os).size
      rw [Array.size_append]; omega
theorem equal_ne {w : World} {A B : Option Addr} {n c m d : Nat} (h : n ≠ m) :
    Calls Tryz.prog 46 #[.slice A n c, .slice B m d] w fun e w' => e = .returned (.bool false) ∧ ∃ q, w' = w.drewN q := by
  have hne : ((n : Int) == (m : Int)) = false := beq_eq_false_iff_ne.2 (by omega)
  go_enter Tryz.func46, Tryz.ntmps46
  go_wp2
  go_ret
  exact ⟨rfl, 0, rfl⟩
theorem allEqI : ∀ xs ys : List Int, Lib.allEq (fun x y => decide (x = y)) xs ys = decide (xs = ys)
  | [], [] => rfl
  | [], y :: ys => by simp [Lib.allEq]
  | x :: xs, [] => by simp [Lib.allEq]
  | x :: xs, y :: ys => by
    have ih := allEqI xs ys
    simp only [Lib.allEq, ih]
    by_cases h1 : x = y <;> by_cases h2 : xs = ys <;> simp [h1, h2]
theorem equalI {w : World} {A B : Option Addr} {c d : Nat} {xs ys : List Int} (hx : Kd.C (Kd.int .i64) w A xs.length xs) (hy : Kd.C (Kd.int .i64) w B ys.length ys) (hp : 0 < ys.length) :
    Calls Tryz.prog 46 #[.slice A xs.length c, .slice B ys.length d] w fun e w' => e = .returned (.bool (decide (xs = ys))) ∧ ∃ q, w' = w.drewN q := by
  by_cases hl : xs.length = ys.length
  · obtain ⟨b1, o1, rfl, h1⟩ := readsI hx (by omega)
    obtain ⟨b2, o2, rfl, h2⟩ := readsI hy hp
    have := Go.Proofs.AnyE.slices_Equal Go.Proofs.Tryz.eqI encI _ (NeqAt.intD _ _ .i64) b1 o1 xs.length c b2 o2 ys.length d xs ys w (Nat.le_refl _) (Nat.le_refl _) hx.2.1 hy.2.1
      (fun j hj => by rw [h1 j _ (List.getElem?_eq_getElem hj), getElem!_pos xs j hj]) (fun j hj => by rw [h2 j _ (List.getElem?_eq_getElem hj), getElem!_pos ys j hj])
    rw [List.take_length, List.take_length] at this
    rw [allEqI] at this
    exact this
  · have hd : decide (xs = ys) = false := decide_eq_false (fun e => hl (by rw [e]))
    rw [hd]
    exact equal_ne hl
theorem four_ints (w : World) : (Kd.int .i64).C (w.alloc (.cells #[.int .i64 0, .int .i64 1, .int .i64 2, .int .i64 3] 3 (0, 0))) (some ⟨w.heap.size, 0, none⟩) 4 [0, 1, 2, 3] := by
  refine ⟨rfl, by decide, fun _ => ⟨_, rfl, fun j p hj => ?_⟩⟩
  have hh : (w.alloc (.cells #[.int .i64 0, .int .i64 1, .int .i64 2, .int .i64 3] 3 (0, 0))).heap[w.heap.size]? = some (.cells #[.int .i64 0, .int .i64 1, .int .i64 2, .int .i64 3] 3 (0, 0)) := by
    unfold World.alloc
    simp
  refine ⟨[.int .i64 p], rfl, rfl, fun i u hu => ?_⟩
  have hi : i = 0 ∧ u = .int .i64 p := by
    cases i with
    | zero => exact ⟨rfl, (Option.some.inj hu).symm⟩
    | succ i => simp at hu
  obtain ⟨rfl, rfl⟩ := hi
  have e1 : (Kd.int IntKind.i64).sz = 1 := rfl
  rw [e1, Nat.mul_one, Nat.add_zero, add_at]
  show (w.alloc _).cell? ⟨w.heap.size, 0 + j, none⟩ = _
  rw [Nat.zero_add, blk_cell hh j]
  match j, hj with
  | 0, hj => cases hj; rfl
  | 1, hj => cases hj; rfl
  | 2, hj => cases hj; rfl
  | 3, hj => cases hj; rfl
theorem equal_four {w2 w3 : World} {A2 : Option Addr} {c2 base : Nat} {ok : Nat → Prop} {l1 : List Int} {b : Bool} (hS : Kd.R (Kd.int .i64) 3 w2 base ok (.slice A2 (l1.mergeSort fun x y => decide (x ≤ y)).length c2) (l1.mergeSort fun x y => decide (x ≤ y))) (hb : Below w2.heap.size w2 w3) (hd : decide ((l1.mergeSort fun x y => decide (x ≤ y)) = [0, 1, 2, 3]) = b) :
    Calls Tryz.prog 46 #[.slice A2 l1.length c2, .slice (some ⟨w3.heap.size, 0, none⟩) 4 4] (w3.alloc (.cells #[.int .i64 0, .int .i64 1, .int .i64 2, .int .i64 3] 3 (0, 0))) fun e w' => e = .returned (.bool b) ∧ Below w3.heap.size w3 w' := by
  have hl : (l1.mergeSort fun x y => decide (x ≤ y)).length = l1.length := List.length_mergeSort _
  have h1 := equalI (A := A2) (B := some ⟨w3.heap.size, 0, none⟩) (c := c2) (d := 4) (Kd.C_below (Kd.R_reads' hS).2.2 (below_alloc hb _)) (four_ints w3) (by decide)
  rw [hl, hd] at h1
  refine h1.mono ?_
  rintro e w' ⟨he, q, rfl⟩
  exact ⟨he, pw_below_drewN (below_alloc (Below.refl _ _) _) q⟩
end Go.Proofs.YthkdkgbcokpbaacGreatDoorOwn
