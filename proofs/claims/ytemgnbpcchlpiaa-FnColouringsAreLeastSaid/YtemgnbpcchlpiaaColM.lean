/- impl.coloured: the row that it makes, and the search over it. -/
import Derived.Test.YtemgnbpcchlpiaaColL
import Derived.Laws.MakeOwn
namespace Go.Proofs.YtemgnbpcchlpiaaOwn
open Go.RowKit Go.Shelf Go.Proofs.YtemgnbpcchlpiaaW.PrintWords Go.Proofs.YtemgnbpcchlpiaaW.PrintLast Go.Proofs.YtemgnbpcchlpiaaW.PrintMore
set_option linter.unusedVariables false
set_option linter.unusedSimpArgs false
theorem sw_block {w0 W : World} {B : Nat} {dk : Array Int} {cur : Array Value} {t : TypeId} (h : SW encI w0 B 0 dk W) (hb : w0.heap[B]? = some (.cells cur t (0, 0))) : W.heap[B]? = some (.cells (Go.Sort.putCells encI 0 dk cur) t (0, 0)) := by
  obtain ⟨n, os, rfl⟩ := h
  unfold sortWorld
  rw [Go.Sort.heap_grow_old _ os (by rw [Go.Sort.size_putRow]; exact blk_lt hb)]
  exact put_at hb dk
theorem sw_belowI {w W : World} {o : Obj} {dk : Array Int} (h : SW encI (w.alloc o) w.heap.size 0 dk W) : Below w.heap.size w W := by
  obtain ⟨n, os, rfl⟩ := h
  have hb := below_alloc (Below.refl w.heap.size w) o
  refine ⟨hb.os, hb.tape, hb.output, ?_, fun k hk => ?_⟩
  · unfold sortWorld
    rw [Go.Sort.size_grow, Go.Sort.size_putRow]
    exact Nat.le_trans hb.size (Nat.le_add_right _ _)
  · unfold sortWorld
    rw [Go.Sort.heap_grow_old _ os (by rw [Go.Sort.size_putRow]; exact Nat.lt_of_lt_of_le hk hb.size), put_far dk (by omega)]
    exact hb.block k hk
theorem spot_none2 {w : World} {a : Addr} {u : Value} (h : w.cell? a = some u) : a.spot = none := by
  unfold World.cell? at h
  cases hs : a.spot with
  | none => rfl
  | some k =>
    rw [hs] at h
    split at h <;> simp at h
theorem cell_lt2 {w : World} {a : Addr} {u : Value} (h : w.cell? a = some u) : a.block < w.heap.size := by
  unfold World.cell? at h
  rcases Nat.lt_or_ge a.block w.heap.size with h1 | h1
  · exact h1
  · rw [Array.getElem?_eq_none h1] at h
    cases h
theorem readsI2 {w : World} {A : Option Addr} {xs : List Int} (hC : Kd.C (Kd.int .i64) w A xs.length xs) (hp : 0 < xs.length) :
    ∃ b o, A = some ⟨b, o, none⟩ ∧ ∀ (j : Nat) (x : Int), xs[j]? = some x → w.cell? ⟨b, o + j, none⟩ = some (encI x) := by
  obtain ⟨ad, e, hc⟩ := hC.2.2 hp
  have hcell : ∀ (j : Nat) (x : Int), xs[j]? = some x → w.cell? (ad.add j) = some (encI x) := fun j x hx => by
    obtain ⟨c, _, hR, hu⟩ := hc j x hx
    have hc1 : c = [encI x] := hR
    have := hu 0 (encI x) (by rw [hc1]; rfl)
    have e1 : (Kd.int IntKind.i64).sz = 1 := rfl
    rwa [e1, Nat.mul_one, Nat.add_zero] at this
  have h0 := hcell 0 _ (List.getElem?_eq_getElem hp)
  have hs : ad.spot = none := spot_none2 (a := ad.add 0) h0
  obtain ⟨b, o, sp⟩ := ad
  cases hs
  exact ⟨b, o, e, fun j x hx => by have := hcell j x hx; rwa [add_at] at this⟩
def zeroW (w : World) (n : Nat) : World := w.alloc (.cells (madeCells (Value.int .i64 0).cells (n * 1)) 3 (0, 0))
theorem zeroW_at (w : World) (n : Nat) : (zeroW w n).heap[w.heap.size]? = some (.cells (madeCells (Value.int .i64 0).cells (n * 1)) 3 (0, 0)) := by
  unfold zeroW World.alloc
  simp
theorem made_run (w : World) (n : Nat) (hn : n ≤ 1000) : (Instr.makeSlice 26 (.int .i64 0) (.int .i64 (n : Int))).run Try.prog w = .ok (.slice (some ⟨w.heap.size, 0, none⟩) 0 n) (zeroW w n) := by
  obtain ⟨i, hi, hz, hs, hb⟩ := info_parts (P := Try.prog) (by kernel_rfl : (Try.prog.info? 3).map (fun i => (i.zero, i.size, i.bytes)) = some (some (.int .i64 0), 1, 8))
  have h := run_makeSlice (P := Try.prog) w 26 3 i (.int .i64 0) Try.underlying26 hi hz .i64 .i64 0 (n : Int) (Int.le_refl _) (by omega) (by rw [hs]; omega) (by rw [hb]; omega) (by omega)
  rw [hs] at h
  exact h
theorem zeroW_has (w : World) (n : Nat) : Has (zeroW w n) w.heap.size n [] (Array.replicate n 0) := by
  refine ⟨by simp, by simp, fun j x hx => by simp at hx, fun j hj => ?_, blk_lt (zeroW_at w n)⟩
  have hj2 : j < n := by simpa using hj
  refine ⟨?_, ?_⟩
  · rw [Nat.zero_add, blk_cell (zeroW_at w n) j]
    rw [getElem!_pos (Array.replicate n (0 : Int)) j (by simpa using hj2)]
    simp [madeCells, encI, Value.cells, hj2, Nat.mod_one]
  · unfold World.frozen?
    rw [zeroW_at]
    simp
theorem zeroW_R {w W : World} {n : Nat} {dk : Array Int} {ok : Nat → Prop} (hok : ∀ k, ok k) (hs : SW encI (zeroW w n) w.heap.size 0 dk W) (hn : dk.size = n) (hm : n ≤ 1000) : Kd.R (Kd.int .i64) 3 W w.heap.size ok (.slice (some ⟨w.heap.size, 0, none⟩) n n) dk.toList := by
  have hl : dk.toList.length = n := by rw [Array.length_toList, hn]
  have := ownI_mk (w := W) (base := w.heap.size) (ok := ok) (xs := dk.toList) (blk := w.heap.size) (cap := n) (cur := Go.Sort.putCells encI 0 dk (madeCells (Value.int .i64 0).cells (n * 1))) (hok _) (Nat.le_refl _) (sw_block hs (zeroW_at w n)) (by omega) (by omega) (by rw [Go.Sort.putCells]; simp [size_madeCells]) (fun j x hx => by
    have hj : j < dk.size := by have := (List.getElem?_eq_some_iff.1 hx).1; simpa using this
    unfold Go.Sort.putCells
    rw [Array.getElem?_mapIdx, Array.getElem?_eq_getElem (by rw [size_madeCells]; omega), Option.map_some, if_pos ⟨Nat.zero_le _, by omega⟩]
    congr 2
    rw [Nat.sub_zero, getElem!_pos dk j hj]
    have h2 := (List.getElem?_eq_some_iff.1 hx).2
    simpa using h2)
  rw [hl] at this
  exact this
set_option maxHeartbeats 4000000 in
set_option maxRecDepth 100000 in
theorem colour_none (w : World) (A0 A1 : Option Addr) (c0 c1 : Nat) (count used : Int) : Calls Try.prog 108 #[.slice A0 0 c0, .slice A1 0 c1, .int .i64 count, .int .i64 used] w fun e w' => e = .returned (.bool true) ∧ w' = w := by
  go_enter Try.func108, Try.ntmps108
  go_wp2
  go_ret
  exact ⟨rfl, rfl⟩
/-- The search over the row that is made, as coloured calls it. -/
theorem colour_made (w : World) (A0 : Option Addr) (c0 : Nat) (sets : List Int) (count : Int) (hC : Kd.C (Kd.int .i64) w A0 sets.length sets) (hl : sets.length ≤ 1000) (hc0 : 0 ≤ count) (hc1 : count ≤ 1000) :
    Calls Try.prog 108 #[.slice A0 sets.length c0, .slice (some ⟨w.heap.size, 0, none⟩) 0 sets.length, .int .i64 count, .int .i64 0] (zeroW w sets.length) fun e w' =>
      e = .returned (.bool (colG sets count sets.length [] 0).isSome) ∧ Below w.heap.size w w' ∧ ∀ r, colG sets count sets.length [] 0 = some r → Kd.R (Kd.int .i64) 3 w' w.heap.size (fun _ => True) (.slice (some ⟨w.heap.size, 0, none⟩) sets.length sets.length) r := by
  rcases Nat.eq_zero_or_pos sets.length with h0 | hp
  · have hx : sets = [] := List.eq_nil_of_length_eq_zero h0
    subst hx
    refine (colour_none (zeroW w 0) A0 (some ⟨w.heap.size, 0, none⟩) c0 0 count 0).mono ?_
    rintro e w' ⟨he, rfl⟩
    have hH := zeroW_has w 0
    refine ⟨he, sw_belowI (SW.start hH.holds), fun r hr => ?_⟩
    cases hr
    exact zeroW_R (fun _ => trivial) (SW.start hH.holds) hH.size (by omega)
  · obtain ⟨b, o, rfl, hc⟩ := readsI2 hC hp
    have hb : b < w.heap.size := cell_lt2 (hc 0 _ (List.getElem?_eq_getElem hp))
    have hH := zeroW_has w sets.length
    refine (colour_calls sets count b o c0 w.heap.size (by omega) hl hc0 hc1 sets.length [] 0 _ (zeroW w sets.length) (by simp) (Int.le_refl _) (by omega) hH (fun j x hx => ?_)).mono ?_
    · have := hc j x hx
      rw [← this]
      exact (below_alloc (Below.refl w.heap.size w) _).cell hb
    · rintro e w' ⟨he, d', h1, h2, _, h4⟩
      refine ⟨he, sw_belowI h1, fun r hr => ?_⟩
      have := zeroW_R (ok := fun _ => True) (fun _ => trivial) h1 h2 hl
      rw [h4 r hr] at this
      exact this
end Go.Proofs.YtemgnbpcchlpiaaOwn
