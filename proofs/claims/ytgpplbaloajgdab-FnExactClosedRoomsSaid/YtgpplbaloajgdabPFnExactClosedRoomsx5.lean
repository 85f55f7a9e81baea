-- Written by a program of this session (wip/tools/pp.sh) out of the translation; Lean checks it.
import Derived.Test.YtgpplbaloajgdabPFnExactClosedRoomsx0
import Derived.Test.YtgpplbaloajgdabPFnExactClosedRoomsx1
import Derived.Test.YtgpplbaloajgdabPFnExactClosedRoomsx2
import Derived.Test.YtgpplbaloajgdabPFnExactClosedRoomsx4
namespace Go.Proofs.Ytgpplbaloajgdab.PFnExactClosedRooms
open Go.RowKit Go.Proofs.YtgpplbaloajgdabOwn Go.Proofs.YtgpplbaloajgdabW.PrintWords Go.Proofs.YtgpplbaloajgdabW.PrintLast Go.Proofs.YtgpplbaloajgdabW.PrintMore
attribute [local go_sem] max2_int min2_int max_two min_two max_three min_three max_four min_four   -- for this text's walks alone
set_option linter.unusedVariables false
set_option linter.unusedSimpArgs false

mutual
def spec_ClosedRooms.l0 : Nat → Int → List Int → List (List Int) → List Bool → List (List Int) → Int → Int → Option (Int × Bool)
  | 0, _, _, _, _, _, _, _ => none
  | k + 1, x0, x1, x6, x7, x32, x33, x34 => if x34 < x33 then (if 0 ≤ x34 then (if x34 < (x32.length : Int) then (if 0 < ((rd_L1 x32 x34).length : Int) then (if 1 < ((rd_L1 x32 x34).length : Int) then ((spec_doFrom.f k x0 x1 (rd (rd_L1 x32 x34) 0) (rd (rd_L1 x32 x34) 1)).bind fun bt268 => (spec_ClosedRooms.l1 k x0 x1 x6 x7 x32 x33 x34 bt268.1 (bt268.1.length : Int) 0)) else (none)) else (none)) else (none)) else (none)) else ((spec_doAllFull.f k x0 x1).bind fun t276 => (spec_ClosedRooms.l2 k x0 x1 x6 x7 t276 (t276.length : Int) 0))
def spec_ClosedRooms.l1 : Nat → Int → List Int → List (List Int) → List Bool → List (List Int) → Int → Int → List Int → Int → Int → Option (Int × Bool)
  | 0, _, _, _, _, _, _, _, _, _, _ => none
  | k + 1, x0, x1, x6, x7, x32, x33, x34, x50, x51, x52 => if x52 < x51 then (if 0 ≤ x52 then (if x52 < (x50.length : Int) then (if 0 ≤ (rd x50 x52) then (if (rd x50 x52) < (x7.length : Int) then (spec_ClosedRooms.l1 k x0 x1 x6 (x7.set ((rd x50 x52) : Int).toNat true) x32 x33 x34 x50 x51 (wrap64 (x52 + 1))) else (none)) else (none)) else (none)) else (none)) else (spec_ClosedRooms.l0 k x0 x1 x6 x7 x32 x33 (wrap64 (x34 + 1)))
def spec_ClosedRooms.l2 : Nat → Int → List Int → List (List Int) → List Bool → List Int → Int → Int → Option (Int × Bool)
  | 0, _, _, _, _, _, _, _ => none
  | k + 1, x0, x1, x6, x7, x63, x64, x65 => if x65 < x64 then (if 0 ≤ x65 then (if x65 < (x63.length : Int) then ((spec_doPartner.f k x0 x1 (rd x63 x65)).bind fun t280 => (spec_ClosedRooms.l3 k x0 x1 x6 x7 x63 x64 x65 t280 (t280.length : Int) 0)) else (none)) else (none)) else (spec_ClosedRooms.l4 k x1 x7 0 x6 (x6.length : Int) 0)
def spec_ClosedRooms.l3 : Nat → Int → List Int → List (List Int) → List Bool → List Int → Int → Int → List Int → Int → Int → Option (Int × Bool)
  | 0, _, _, _, _, _, _, _, _, _, _ => none
  | k + 1, x0, x1, x6, x7, x63, x64, x65, x72, x73, x74 => if x74 < x73 then (if 0 ≤ x74 then (if x74 < (x72.length : Int) then (if 0 ≤ (rd x72 x74) then (if (rd x72 x74) < (x7.length : Int) then (spec_ClosedRooms.l3 k x0 x1 x6 (x7.set ((rd x72 x74) : Int).toNat true) x63 x64 x65 x72 x73 (wrap64 (x74 + 1))) else (none)) else (none)) else (none)) else (none)) else (spec_ClosedRooms.l2 k x0 x1 x6 x7 x63 x64 (wrap64 (x65 + 1)))
def spec_ClosedRooms.l4 : Nat → List Int → List Bool → Int → List (List Int) → Int → Int → Option (Int × Bool)
  | 0, _, _, _, _, _, _ => none
  | k + 1, x1, x7, x18, x83, x84, x85 => if x85 < x84 then (if 0 ≤ x85 then (if x85 < (x83.length : Int) then ((spec_doOfCell.f k x1 (rd_L1 x83 x85)).bind fun t286 => (if (t286.length : Int) = 2 then (if x85 < (x7.length : Int) then (if rdOf false x7 x85 = true then (spec_ClosedRooms.l4 k x1 x7 x18 x83 x84 (wrap64 (x85 + 1))) else (spec_ClosedRooms.l4 k x1 x7 (wrap64 (x18 + 1)) x83 x84 (wrap64 (x85 + 1)))) else (none)) else (spec_ClosedRooms.l4 k x1 x7 x18 x83 x84 (wrap64 (x85 + 1))))) else (none)) else (none)) else (some (x18, true))
end
def spec_ClosedRooms.f (k : Nat) (a0 : Int) (l1 : List Int) : Option (Int × Bool) := (spec_meLabels.f k a0 l1).bind fun t255 => (if t255 = true then ((spec_meCells.f k a0).bind fun t256 => (if 0 ≤ (t256.length : Int) then (if ((t256.length : Int) : Int).toNat ≤ 281474976710656 then ((spec_doBorder.f k a0 l1).bind fun t262 => (spec_ClosedRooms.l0 k a0 l1 t256 (List.replicate ((t256.length : Int) : Int).toNat false) t262 (t262.length : Int) 0)) else (none)) else (none))) else (some (0, false)))
theorem spec_ClosedRooms.mono_l : ∀ k, (∀ y0 y1 y2 y3 y4 y5 y6, LeO (spec_ClosedRooms.l0 k y0 y1 y2 y3 y4 y5 y6) (spec_ClosedRooms.l0 (k + 1) y0 y1 y2 y3 y4 y5 y6)) ∧ (∀ y0 y1 y2 y3 y4 y5 y6 y7 y8 y9, LeO (spec_ClosedRooms.l1 k y0 y1 y2 y3 y4 y5 y6 y7 y8 y9) (spec_ClosedRooms.l1 (k + 1) y0 y1 y2 y3 y4 y5 y6 y7 y8 y9)) ∧ (∀ y0 y1 y2 y3 y4 y5 y6, LeO (spec_ClosedRooms.l2 k y0 y1 y2 y3 y4 y5 y6) (spec_ClosedRooms.l2 (k + 1) y0 y1 y2 y3 y4 y5 y6)) ∧ (∀ y0 y1 y2 y3 y4 y5 y6 y7 y8 y9, LeO (spec_ClosedRooms.l3 k y0 y1 y2 y3 y4 y5 y6 y7 y8 y9) (spec_ClosedRooms.l3 (k + 1) y0 y1 y2 y3 y4 y5 y6 y7 y8 y9)) ∧ (∀ y0 y1 y2 y3 y4 y5, LeO (spec_ClosedRooms.l4 k y0 y1 y2 y3 y4 y5) (spec_ClosedRooms.l4 (k + 1) y0 y1 y2 y3 y4 y5))
  | 0 => ⟨fun _ _ _ _ _ _ _ r h => by simp [spec_ClosedRooms.l0] at h, fun _ _ _ _ _ _ _ _ _ _ r h => by simp [spec_ClosedRooms.l1] at h, fun _ _ _ _ _ _ _ r h => by simp [spec_ClosedRooms.l2] at h, fun _ _ _ _ _ _ _ _ _ _ r h => by simp [spec_ClosedRooms.l3] at h, fun _ _ _ _ _ _ r h => by simp [spec_ClosedRooms.l4] at h⟩
  | k + 1 => by
    obtain ⟨ih0, ih1, ih2, ih3, ih4⟩ := spec_ClosedRooms.mono_l k
    refine ⟨?_, ?_, ?_, ?_, ?_⟩
    · intro y0 y1 y2 y3 y4 y5 y6
      unfold spec_ClosedRooms.l0
      repeat' first
      | (with_reducible exact ih0 _ _ _ _ _ _ _)
      | (with_reducible exact ih1 _ _ _ _ _ _ _ _ _ _)
      | (with_reducible exact ih2 _ _ _ _ _ _ _)
      | (with_reducible exact ih3 _ _ _ _ _ _ _ _ _ _)
      | (with_reducible exact ih4 _ _ _ _ _ _)
      | (with_reducible exact spec_doAllFull.mono _ _ _)
      | (with_reducible exact spec_doBorder.mono _ _ _)
      | (with_reducible exact spec_doFrom.mono _ _ _ _ _)
      | (with_reducible exact spec_doOfCell.mono _ _ _)
      | (with_reducible exact spec_doPartner.mono _ _ _ _)
      | (with_reducible exact spec_meCells.mono _ _)
      | (with_reducible exact spec_meLabels.mono _ _ _)
      | (with_reducible exact LeO.refl _)
      | (with_reducible exact LeO.none _)
      | (with_reducible refine LeO.ite ?_ ?_)
      | (with_reducible refine LeO.bind ?_ (fun _ => ?_))
      | exact ih0 _ _ _ _ _ _ _
      | exact ih1 _ _ _ _ _ _ _ _ _ _
      | exact ih2 _ _ _ _ _ _ _
      | exact ih3 _ _ _ _ _ _ _ _ _ _
      | exact ih4 _ _ _ _ _ _
      | exact spec_doAllFull.mono _ _ _
      | exact spec_doBorder.mono _ _ _
      | exact spec_doFrom.mono _ _ _ _ _
      | exact spec_doOfCell.mono _ _ _
      | exact spec_doPartner.mono _ _ _ _
      | exact spec_meCells.mono _ _
      | exact spec_meLabels.mono _ _ _
      | exact LeO.none _
      | refine LeO.ite ?_ ?_
      | refine LeO.bind ?_ (fun _ => ?_)
    · intro y0 y1 y2 y3 y4 y5 y6 y7 y8 y9
      unfold spec_ClosedRooms.l1
      repeat' first
      | (with_reducible exact ih0 _ _ _ _ _ _ _)
      | (with_reducible exact ih1 _ _ _ _ _ _ _ _ _ _)
      | (with_reducible exact ih2 _ _ _ _ _ _ _)
      | (with_reducible exact ih3 _ _ _ _ _ _ _ _ _ _)
      | (with_reducible exact ih4 _ _ _ _ _ _)
      | (with_reducible exact spec_doAllFull.mono _ _ _)
      | (with_reducible exact spec_doBorder.mono _ _ _)
      | (with_reducible exact spec_doFrom.mono _ _ _ _ _)
      | (with_reducible exact spec_doOfCell.mono _ _ _)
      | (with_reducible exact spec_doPartner.mono _ _ _ _)
      | (with_reducible exact spec_meCells.mono _ _)
      | (with_reducible exact spec_meLabels.mono _ _ _)
      | (with_reducible exact LeO.refl _)
      | (with_reducible exact LeO.none _)
      | (with_reducible refine LeO.ite ?_ ?_)
      | (with_reducible refine LeO.bind ?_ (fun _ => ?_))
      | exact ih0 _ _ _ _ _ _ _
      | exact ih1 _ _ _ _ _ _ _ _ _ _
      | exact ih2 _ _ _ _ _ _ _
      | exact ih3 _ _ _ _ _ _ _ _ _ _
      | exact ih4 _ _ _ _ _ _
      | exact spec_doAllFull.mono _ _ _
      | exact spec_doBorder.mono _ _ _
      | exact spec_doFrom.mono _ _ _ _ _
      | exact spec_doOfCell.mono _ _ _
      | exact spec_doPartner.mono _ _ _ _
      | exact spec_meCells.mono _ _
      | exact spec_meLabels.mono _ _ _
      | exact LeO.none _
      | refine LeO.ite ?_ ?_
      | refine LeO.bind ?_ (fun _ => ?_)
    · intro y0 y1 y2 y3 y4 y5 y6
      unfold spec_ClosedRooms.l2
      repeat' first
      | (with_reducible exact ih0 _ _ _ _ _ _ _)
      | (with_reducible exact ih1 _ _ _ _ _ _ _ _ _ _)
      | (with_reducible exact ih2 _ _ _ _ _ _ _)
      | (with_reducible exact ih3 _ _ _ _ _ _ _ _ _ _)
      | (with_reducible exact ih4 _ _ _ _ _ _)
      | (with_reducible exact spec_doAllFull.mono _ _ _)
      | (with_reducible exact spec_doBorder.mono _ _ _)
      | (with_reducible exact spec_doFrom.mono _ _ _ _ _)
      | (with_reducible exact spec_doOfCell.mono _ _ _)
      | (with_reducible exact spec_doPartner.mono _ _ _ _)
      | (with_reducible exact spec_meCells.mono _ _)
      | (with_reducible exact spec_meLabels.mono _ _ _)
      | (with_reducible exact LeO.refl _)
      | (with_reducible exact LeO.none _)
      | (with_reducible refine LeO.ite ?_ ?_)
      | (with_reducible refine LeO.bind ?_ (fun _ => ?_))
      | exact ih0 _ _ _ _ _ _ _
      | exact ih1 _ _ _ _ _ _ _ _ _ _
      | exact ih2 _ _ _ _ _ _ _
      | exact ih3 _ _ _ _ _ _ _ _ _ _
      | exact ih4 _ _ _ _ _ _
      | exact spec_doAllFull.mono _ _ _
      | exact spec_doBorder.mono _ _ _
      | exact spec_doFrom.mono _ _ _ _ _
      | exact spec_doOfCell.mono _ _ _
      | exact spec_doPartner.mono _ _ _ _
      | exact spec_meCells.mono _ _
      | exact spec_meLabels.mono _ _ _
      | exact LeO.none _
      | refine LeO.ite ?_ ?_
      | refine LeO.bind ?_ (fun _ => ?_)
    · intro y0 y1 y2 y3 y4 y5 y6 y7 y8 y9
      unfold spec_ClosedRooms.l3
      repeat' first
      | (with_reducible exact ih0 _ _ _ _ _ _ _)
      | (with_reducible exact ih1 _ _ _ _ _ _ _ _ _ _)
      | (with_reducible exact ih2 _ _ _ _ _ _ _)
      | (with_reducible exact ih3 _ _ _ _ _ _ _ _ _ _)
      | (with_reducible exact ih4 _ _ _ _ _ _)
      | (with_reducible exact spec_doAllFull.mono _ _ _)
      | (with_reducible exact spec_doBorder.mono _ _ _)
      | (with_reducible exact spec_doFrom.mono _ _ _ _ _)
      | (with_reducible exact spec_doOfCell.mono _ _ _)
      | (with_reducible exact spec_doPartner.mono _ _ _ _)
      | (with_reducible exact spec_meCells.mono _ _)
      | (with_reducible exact spec_meLabels.mono _ _ _)
      | (with_reducible exact LeO.refl _)
      | (with_reducible exact LeO.none _)
      | (with_reducible refine LeO.ite ?_ ?_)
      | (with_reducible refine LeO.bind ?_ (fun _ => ?_))
      | exact ih0 _ _ _ _ _ _ _
      | exact ih1 _ _ _ _ _ _ _ _ _ _
      | exact ih2 _ _ _ _ _ _ _
      | exact ih3 _ _ _ _ _ _ _ _ _ _
      | exact ih4 _ _ _ _ _ _
      | exact spec_doAllFull.mono _ _ _
      | exact spec_doBorder.mono _ _ _
      | exact spec_doFrom.mono _ _ _ _ _
      | exact spec_doOfCell.mono _ _ _
      | exact spec_doPartner.mono _ _ _ _
      | exact spec_meCells.mono _ _
      | exact spec_meLabels.mono _ _ _
      | exact LeO.none _
      | refine LeO.ite ?_ ?_
      | refine LeO.bind ?_ (fun _ => ?_)
    · intro y0 y1 y2 y3 y4 y5
      unfold spec_ClosedRooms.l4
      repeat' first
      | (with_reducible exact ih0 _ _ _ _ _ _ _)
      | (with_reducible exact ih1 _ _ _ _ _ _ _ _ _ _)
      | (with_reducible exact ih2 _ _ _ _ _ _ _)
      | (with_reducible exact ih3 _ _ _ _ _ _ _ _ _ _)
      | (with_reducible exact ih4 _ _ _ _ _ _)
      | (with_reducible exact spec_doAllFull.mono _ _ _)
      | (with_reducible exact spec_doBorder.mono _ _ _)
      | (with_reducible exact spec_doFrom.mono _ _ _ _ _)
      | (with_reducible exact spec_doOfCell.mono _ _ _)
      | (with_reducible exact spec_doPartner.mono _ _ _ _)
      | (with_reducible exact spec_meCells.mono _ _)
      | (with_reducible exact spec_meLabels.mono _ _ _)
      | (with_reducible exact LeO.refl _)
      | (with_reducible exact LeO.none _)
      | (with_reducible refine LeO.ite ?_ ?_)
      | (with_reducible refine LeO.bind ?_ (fun _ => ?_))
      | exact ih0 _ _ _ _ _ _ _
      | exact ih1 _ _ _ _ _ _ _ _ _ _
      | exact ih2 _ _ _ _ _ _ _
      | exact ih3 _ _ _ _ _ _ _ _ _ _
      | exact ih4 _ _ _ _ _ _
      | exact spec_doAllFull.mono _ _ _
      | exact spec_doBorder.mono _ _ _
      | exact spec_doFrom.mono _ _ _ _ _
      | exact spec_doOfCell.mono _ _ _
      | exact spec_doPartner.mono _ _ _ _
      | exact spec_meCells.mono _ _
      | exact spec_meLabels.mono _ _ _
      | exact LeO.none _
      | refine LeO.ite ?_ ?_
      | refine LeO.bind ?_ (fun _ => ?_)
theorem spec_ClosedRooms.mono : ∀ a0 a1 k, LeO (spec_ClosedRooms.f k a0 a1) (spec_ClosedRooms.f (k + 1) a0 a1) := by
  intro a0 a1 k
  obtain ⟨ih0, ih1, ih2, ih3, ih4⟩ := spec_ClosedRooms.mono_l k
  unfold spec_ClosedRooms.f
  repeat' first
      | (with_reducible exact ih0 _ _ _ _ _ _ _)
      | (with_reducible exact ih1 _ _ _ _ _ _ _ _ _ _)
      | (with_reducible exact ih2 _ _ _ _ _ _ _)
      | (with_reducible exact ih3 _ _ _ _ _ _ _ _ _ _)
      | (with_reducible exact ih4 _ _ _ _ _ _)
      | (with_reducible exact spec_doAllFull.mono _ _ _)
      | (with_reducible exact spec_doBorder.mono _ _ _)
      | (with_reducible exact spec_doFrom.mono _ _ _ _ _)
      | (with_reducible exact spec_doOfCell.mono _ _ _)
      | (with_reducible exact spec_doPartner.mono _ _ _ _)
      | (with_reducible exact spec_meCells.mono _ _)
      | (with_reducible exact spec_meLabels.mono _ _ _)
      | (with_reducible exact LeO.refl _)
      | (with_reducible exact LeO.none _)
      | (with_reducible refine LeO.ite ?_ ?_)
      | (with_reducible refine LeO.bind ?_ (fun _ => ?_))
      | exact ih0 _ _ _ _ _ _ _
      | exact ih1 _ _ _ _ _ _ _ _ _ _
      | exact ih2 _ _ _ _ _ _ _
      | exact ih3 _ _ _ _ _ _ _ _ _ _
      | exact ih4 _ _ _ _ _ _
      | exact spec_doAllFull.mono _ _ _
      | exact spec_doBorder.mono _ _ _
      | exact spec_doFrom.mono _ _ _ _ _
      | exact spec_doOfCell.mono _ _ _
      | exact spec_doPartner.mono _ _ _ _
      | exact spec_meCells.mono _ _
      | exact spec_meLabels.mono _ _ _
      | exact LeO.none _
      | refine LeO.ite ?_ ?_
      | refine LeO.bind ?_ (fun _ => ?_)
def spec_ClosedRooms.T8 : Bool × List (List Nat × List Nat) := (true, [([], []), ([], []), ([], []), ([2], [2]), ([3], [3]), ([], []), ([5], [5]), ([6], [6]), ([0, 1, 4, 7], [0, 1, 4, 7]), ([8], [8]), ([9], [9]), ([9], [9]), ([10, 8, 0, 1, 2, 3, 4, 5, 6, 7, 8, 9, 10], [10]), ([11, 12, 0, 1, 2, 3, 4, 5, 6, 7, 8, 9, 10, 11, 12], [11])])
def spec_ClosedRooms.B8 : List Nat := [0, 0, 0, 4, 12, 0, 32, 96, 255, 511, 1023, 1023, 2047, 8191]
theorem spec_ClosedRooms.tab8 : rtab .any (opsOf Try.f7 8) = spec_ClosedRooms.T8 := by kernel_rfl
theorem spec_ClosedRooms.bits8 : waitsOk spec_ClosedRooms.T8.2 spec_ClosedRooms.B8 = true := by kernel_rfl
set_option maxHeartbeats 8000000 in
set_option maxRecDepth 100000 in
theorem spec_ClosedRooms.calls (k : Nat) (a0 : Int) (A1 : Option Addr) (c1 : Nat) (l1 : List Int) (r1 : Int) (r2 : Bool) (w : World) (hr1 : Kd.C (Kd.int .i64) w A1 l1.length l1) (hc1 : l1.length ≤ c1) (h : spec_ClosedRooms.f k a0 l1 = some (r1, r2)) :
    Calls Try.prog 7 #[.int .i64 a0, .slice A1 l1.length c1] w fun e w' => e = .returned (.tuple #[.int .i64 r1, .bool r2]) ∧ Below w.heap.size w w' := by
  have HR1 := Aside0.mk hr1; have HC1 := Aside0.mk hc1; clear hr1 hc1; have HB := Aside0.mk (Below.refl w.heap.size w); have H : ((spec_meLabels.f k a0 l1).bind fun t255 => (if t255 = true then ((spec_meCells.f k a0).bind fun t256 => (if 0 ≤ (t256.length : Int) then (if ((t256.length : Int) : Int).toNat ≤ 281474976710656 then ((spec_doBorder.f k a0 l1).bind fun t262 => (spec_ClosedRooms.l0 k a0 l1 t256 (List.replicate ((t256.length : Int) : Int).toNat false) t262 (t262.length : Int) 0)) else (none)) else (none))) else (some (0, false)))) = some (r1, r2) := h; clear h; replace H := Option.bind_eq_some_iff.mp H; obtain ⟨t255, A30, H⟩ := H; replace H : (if t255 = true then ((spec_meCells.f k a0).bind fun t256 => (if 0 ≤ (t256.length : Int) then (if ((t256.length : Int) : Int).toNat ≤ 281474976710656 then ((spec_doBorder.f k a0 l1).bind fun t262 => (spec_ClosedRooms.l0 k a0 l1 t256 (List.replicate ((t256.length : Int) : Int).toNat false) t262 (t262.length : Int) 0)) else (none)) else (none))) else (some (0, false))) = some (r1, r2) := H; have A3 := Aside0.mk A30; clear A30
  by_cases c4 : t255 = true
  · subst c4
    have H1 : ((spec_meCells.f k a0).bind fun t256 => (if 0 ≤ (t256.length : Int) then (if ((t256.length : Int) : Int).toNat ≤ 281474976710656 then ((spec_doBorder.f k a0 l1).bind fun t262 => (spec_ClosedRooms.l0 k a0 l1 t256 (List.replicate ((t256.length : Int) : Int).toNat false) t262 (t262.length : Int) 0)) else (none)) else (none))) = some (r1, r2) := by rw [if_pos rfl] at H; exact H
    clear H; have H := H1; clear H1; replace H := Option.bind_eq_some_iff.mp H; obtain ⟨t256, A50, H⟩ := H; replace H : (if 0 ≤ (t256.length : Int) then (if ((t256.length : Int) : Int).toNat ≤ 281474976710656 then ((spec_doBorder.f k a0 l1).bind fun t262 => (spec_ClosedRooms.l0 k a0 l1 t256 (List.replicate ((t256.length : Int) : Int).toNat false) t262 (t262.length : Int) 0)) else (none)) else (none)) = some (r1, r2) := H; have A5 := Aside0.mk A50; clear A50
    by_cases c6 : 0 ≤ (t256.length : Int)
    · rw [if_pos c6] at H
      have c6b0 := eq_true c6; have c6b1 : decide (0 ≤ (t256.length : Int)) = true := decide_eq_true c6; clear c6
      by_cases c7 : ((t256.length : Int) : Int).toNat ≤ 281474976710656
      · rw [if_pos c7] at H
        have c7b0 := eq_true c7; have c7b1 : decide (((t256.length : Int) : Int).toNat ≤ 281474976710656) = true := decide_eq_true c7; clear c7; obtain ⟨y259, hy259⟩ : ∃ y_ : List Bool, y_ = (List.replicate ((t256.length : Int) : Int).toNat false) := ⟨_, rfl⟩; replace H : ((spec_doBorder.f k a0 l1).bind fun t262 => (spec_ClosedRooms.l0 k a0 l1 t256 y259 t262 (t262.length : Int) 0)) = some (r1, r2) := by first | (rw [hy259]; with_reducible exact H) | (have H2_ := (Option.bind_some _ _).symm.trans H; rw [hy259]; with_reducible exact H2_) | (have H2_ := (Option.bind_some _ _).symm.trans H; with_reducible exact H2_) | with_reducible exact H | (rw [hy259]; exact H) | exact H
        have Ny259 := Aside0.mk hy259; clear hy259; replace H := Option.bind_eq_some_iff.mp H; obtain ⟨t262, A80, H⟩ := H; replace H : (spec_ClosedRooms.l0 k a0 l1 t256 y259 t262 (t262.length : Int) 0) = some (r1, r2) := H; have A8 := Aside0.mk A80; clear A80; have H' := Aside0.mk H; clear H
        go_enter Try.func7, Try.ntmps7
        go_wp2_with (first | ((with_reducible refine gate_callee (f := 23) rfl ?_); refine goesL_ (some 23) rfl rfl Try.func23 (by kernel_rfl) rfl #[.int .i64 a0, .slice A1 l1.length c1] rfl TA ?_; (with_reducible refine (spec_meLabels.calls k a0 _ _ l1 true _ ?side1 ?side2 A3.out).mono ?_); (case side1 => repeat (first | exact HR1.out | (with_reducible refine Kd.C_drewN ?_ _) | (with_reducible refine Kd.C_drew ?_) | (with_reducible refine Kd.C_alloc ?_ _))); (case side2 => exact HC1.out); rintro e w' ⟨rfl, ⟨nd, rfl⟩⟩; refine ⟨_, rfl, ?_⟩) | ((with_reducible refine gate_callee (f := 24) rfl ?_); refine goesL_ (some 26) rfl rfl Try.func24 (by kernel_rfl) rfl #[.int .i64 a0] rfl TA ?_; (with_reducible refine (spec_meCells.calls k a0 t256 _ A5.out).mono ?_); rintro e w9 ⟨v257, rfl, ho0, hb⟩; refine ⟨_, rfl, ?_⟩; have n0_ := Aside0.mk (Kd.S_lower ho0 (below_size BB)); have n1_ := Aside0.mk (below_step BB hb); clear HB; have HO258 := n0_; have HB := n1_; clear n0_ n1_; (try clear hb); (try clear hb2); (try clear hk); (try clear hi); (try clear ho0); obtain ⟨Ao10, co10, eo10⟩ := Kd.S_slice HO258.out; subst eo10) | ((with_reducible refine gate_dst (N := 29) rfl ?_); refine Kd.R_make Kd.bool _ 4 rfl (N := 29) rfl 38 _ _ rfl (t256.length : Int) rfl rfl Try.underlying38 (.bool false) 1 info4 rfl (by decide) (by omega) false (ok := fun _ => True) (okp := fun _ => True) rfl (fun _ hk => hk) trivial (of_decide_eq_true AS) (Nat.le_trans (Nat.mul_le_mul_right _ (of_decide_eq_true AS : (t256.length : Int).toNat ≤ 281474976710656)) (by omega)) (Below.refl _ _) (Nat.le_refl _) ?_; intro v260 w11 ho12 hb hg_ hnew_; clear hg_ hnew_; (first | rw [← Ny259.out] at ho12 | (simp only [Int.reduceToNat] at ho12; rw [← Ny259.out] at ho12)); have n0_ := Aside0.mk (Kd.S_below (KS HO258) hb); have n1_ := Aside0.mk (Kd.R_lower ho12 (below_size BB)); have n2_ := Aside0.mk (below_step BB hb); clear HO258; clear HB; have HO258 := n0_; have HO261 := n1_; have HB := n2_; clear n0_ n1_ n2_; clear hb ho12) | ((with_reducible refine gate_callee (f := 25) rfl ?_); refine goesL_ (some 32) rfl rfl Try.func25 (by kernel_rfl) rfl #[.int .i64 a0, .slice A1 l1.length c1] rfl TA ?_; (with_reducible refine (spec_doBorder.calls k a0 _ _ l1 t262 _ ?side1 ?side2 A8.out).mono ?_); (case side1 => repeat (first | exact (Kd.C_below HR1.out HB.out) | (with_reducible refine Kd.C_drewN ?_ _) | (with_reducible refine Kd.C_drew ?_) | (with_reducible refine Kd.C_alloc ?_ _))); (case side2 => exact HC1.out); rintro e w13 ⟨v263, rfl, ho0, hb⟩; refine ⟨_, rfl, ?_⟩; have n0_ := Aside0.mk (Kd.S_elder' (KS HO258) (Kd.S_base ho0) hb); have n1_ := Aside0.mk (Kd.R_below (KR HO261) hb); have n2_ := Aside0.mk (Kd.S_lower (Kd.S_new' ho0 (Kd.S_lt (KS HO258))) (below_size BB)); have n3_ := Aside0.mk (below_step BB hb); clear HO258; clear HO261; clear HB; have HO258 := n0_; have HO261 := n1_; have HO264 := n2_; have HB := n3_; clear n0_ n1_ n2_ n3_; (try clear hb); (try clear hb2); (try clear hk); (try clear hi); (try clear ho0); obtain ⟨Ao14, co14, eo14⟩ := Kd.S_slice HO264.out; subst eo14))
        go_loopg [34] k (fun kq v34 w' => ∃ (x7_1 : List Bool) (x34_1 : Int), v34 = .int .i64 x34_1 ∧ Aside0 (spec_ClosedRooms.l0 kq a0 l1 t256 x7_1 t262 (t262.length : Int) x34_1 = some (r1, r2)) ∧ Aside0 (kq ≤ k) ∧ Aside0 (Kd.S (Kd.slice 3 (Kd.int .i64)) 22 w' w.heap.size (fun k_ => some k_ ≠ ((.slice Ao14 t262.length co14) : Value).ownBlock) (.slice Ao10 t256.length co10) t256) ∧ Aside0 (Kd.R Kd.bool 4 w' w.heap.size (fun _ => True) v260 x7_1) ∧ Aside0 (Kd.S (Kd.slice 3 (Kd.int .i64)) 22 w' w.heap.size (fun k_ => some k_ ≠ ((.slice Ao10 t256.length co10) : Value).ownBlock) (.slice Ao14 t262.length co14) t262) ∧ Aside0 (Below w.heap.size w w'))
        case atStart => exact ⟨(y259), (0), RF, H', ⟨Nat.le_refl _⟩, ⟨by (with_reducible repeat (first | apply Kd.S_alloc | apply Kd.S_drewN | apply Kd.S_drew)); exact Kd.S_mono HO258.out (fun _ hk => hk.2)⟩, ⟨KR HO261⟩, ⟨by (with_reducible repeat (first | apply Kd.S_alloc | apply Kd.S_drewN | apply Kd.S_drew)); exact Kd.S_mono HO264.out (fun _ hk => hk.2)⟩, ⟨BB⟩⟩
        case round =>
          clear H'
          try clear c1
          try clear c2
          try clear p2
          try clear c4
          try clear c6
          try clear c6b0
          try clear c6b1
          try clear p6
          try clear c7
          try clear c7b0
          try clear c7b1
          obtain ⟨x7_1, x34_1, rfl, HA, HK1, HO_6, HO_7, HO_32, HB⟩ := hrel; cases gk with
          | zero => exact absurd HA.out (by simp [spec_ClosedRooms.l0])
          | succ k1 =>
            have H := HA.out; clear HA
            simp only [spec_ClosedRooms.l0] at H
            by_cases c15 : x34_1 < (t262.length : Int)
            · rw [if_pos c15] at H
              have c15b0 : decide (x34_1 < (t262.length : Int)) = true := decide_eq_true c15; clear c15
              by_cases c16 : 0 ≤ x34_1
              · rw [if_pos c16] at H
                have c16b0 : decide (0 ≤ x34_1) = true := decide_eq_true c16; clear c16
                by_cases c17 : x34_1 < (t262.length : Int)
                · rw [if_pos c17] at H
                  have c17b0 : decide (x34_1 < (t262.length : Int)) = true := decide_eq_true c17; clear c17
                  by_cases c18 : 0 < ((rd_L1 t262 x34_1).length : Int)
                  · rw [if_pos c18] at H
                    have c18b0 : decide (0 < ((rd_L1 t262 x34_1).length : Int)) = true := decide_eq_true c18; have c18b1 : decide (0 < (rd_L1 t262 x34_1).length) = true := decide_eq_true (by omega); clear c18
                    by_cases c19 : 1 < ((rd_L1 t262 x34_1).length : Int)
                    · rw [if_pos c19] at H
                      have c19b0 : decide (1 < ((rd_L1 t262 x34_1).length : Int)) = true := decide_eq_true c19; have c19b1 : decide (1 < (rd_L1 t262 x34_1).length) = true := decide_eq_true (by omega); clear c19; replace H := Option.bind_eq_some_iff.mp H; obtain ⟨⟨t268, t271⟩, A200, H⟩ := H; replace H : (spec_ClosedRooms.l1 k1 a0 l1 t256 x7_1 t262 (t262.length : Int) x34_1 t268 (t268.length : Int) 0) = some (r1, r2) := H; have A20 := Aside0.mk A200; clear A200; have H' := Aside0.mk H; clear H; have p265 : 0 ≤ (x34_1 : Int) := of_decide_eq_true AS; have q265 : x34_1 < (t262.length : Int) := of_decide_eq_true AS; obtain ⟨ad265, A265_0, c265_0, e265, hx265_0, hl265_0, hi265_0⟩ := at_L1 (Kd.S_reads' HO_32.out).2.2 x34_1 p265 q265; cases e265; obtain ⟨ce265, hce265, hMe265, hcc265⟩ := Kd.S_get HO_32.out [] x34_1 p265 (by first | exact q265 | exact of_decide_eq_true AS | (have e_ := (Kd.S_reads' HO_32.out).1; omega)); obtain ⟨ve265_0, rfl, ge265_0⟩ := hMe265; have hv265_0 := hcc265 0 _ rfl; rw [Nat.add_zero, show ((Kd.slice 3 (Kd.int .i64))).sz = 1 from rfl, Nat.mul_one] at hv265_0; replace hv265_0 := Option.some.inj (hv265_0.symm.trans hx265_0); rw [hv265_0] at ge265_0
                      have HL265_0 := Aside0.mk (show Kd.R (Kd.int .i64) 3 _ _ _ _ (rd_L1 t262 x34_1) from ge265_0); clear hv265_0 ge265_0; clear hcc265 hce265; have HR265_0 := Aside0.mk hi265_0; have HC265_0 := Aside0.mk hl265_0; clear hi265_0 hl265_0; replace p265 := eq_true p265; replace q265 := eq_true q265
                      try go_wp2
                      have n0_ := Aside0.mk (Kd.S_drew HO_6.out); have n1_ := Aside0.mk (Kd.R_drew HO_7.out); have n2_ := Aside0.mk (Kd.S_drew HO_32.out); have n3_ := Aside0.mk (Kd.R_drew HL265_0.out); have n4_ := Aside0.mk (Kd.C_drew HR265_0.out); have n5_ := Aside0.mk (below_drew1 HB.out); clear HO_6; clear HO_7; clear HO_32; clear HL265_0; clear HR265_0; clear HB; have HO_6 := n0_; have HO_7 := n1_; have HO_32 := n2_; have HL265_0 := n3_; have HR265_0 := n4_; have HB := n5_; clear n0_ n1_ n2_ n3_ n4_ n5_; have p266 : 0 ≤ (0 : Int) := (by omega); have q266 : 0 < ((rd_L1 t262 x34_1).length : Int) := of_decide_eq_true AS; obtain ⟨ad266, e266, hx266_0⟩ := Kd.at_int (by repeat (first | (with_reducible exact HR265_0.out) | (with_reducible refine Kd.C_drewN ?_ _) | (with_reducible refine Kd.C_drew ?_) | (with_reducible refine Kd.C_alloc ?_ _) | exact HR265_0.out)) 0 p266 q266; cases e266; have qi266 : (0 < (rd_L1 t262 x34_1).length) = True := eq_true (by omega)
                      (try rw [show ((0 : Int)).toNat = 0 from rfl] at hx266_0)
                      (try rw [Addr.add_zero'] at hx266_0)
                      replace p266 := eq_true p266; replace q266 := eq_true q266; have p267 : 0 ≤ (1 : Int) := (by omega); have q267 : 1 < ((rd_L1 t262 x34_1).length : Int) := of_decide_eq_true AS; obtain ⟨ad267, e267, hx267_0⟩ := Kd.at_int (by repeat (first | (with_reducible exact HR265_0.out) | (with_reducible refine Kd.C_drewN ?_ _) | (with_reducible refine Kd.C_drew ?_) | (with_reducible refine Kd.C_alloc ?_ _) | exact HR265_0.out)) 1 p267 q267; obtain rfl : ad266 = ad267 := (by injection e267)
                      (try simp only [show (1 : Int).toNat = 1 from rfl, Nat.reduceMul, Nat.reduceEqDiff, Go.Addr.add, ↓reduceIte] at hx267_0)
                      have qi267 : (1 < (rd_L1 t262 x34_1).length) = True := eq_true (by omega)
                      (try rw [show ((1 : Int)).toNat = 1 from rfl] at hx267_0)
                      replace p267 := eq_true p267; replace q267 := eq_true q267
                      refine start_ (n := 14) (S := fun w' => w'.cell? ad266 = some (.int .i64 (rd (rd_L1 t262 x34_1) 0)) ∧ w'.cell? ⟨ad266.block, ad266.off + 1, none⟩ = some (.int .i64 (rd (rd_L1 t262 x34_1) 1))) (ds := []) #[false, false, false, false, false, false, false, false, false, false, false, false, false, false] (by kernel_rfl) rfl rfl ⟨hx266_0, hx267_0⟩ (fun hHeld => ?_); refine with_tabW spec_ClosedRooms.tab8 spec_ClosedRooms.bits8 (fun HT_ HW_ => ?_)
                      generalize wr.drew = w21 at HO_6 HO_7 HO_32 HL265_0 HR265_0 HB hx266_0 hx267_0 hHeld ⊢
                      refine pure_ (i := 0) (N := some 39) (v := ?_) (a' := ?_) #[true, false, false, false, false, false, false, false, false, false, false, false, false, false] rfl rfl (any_of HT_.out (by kernel_rfl)) (fun _ _ _ h => h) (Or.inl ⟨by rfl, ?_⟩) ?_ ?_
                      rotate_left
                      · intro w'
                        go_simp
                        with_reducible rfl
                      rotate_left
                      · simp only [Act.put, List.setIfInBounds_toArray, List.set_cons_zero, List.set_cons_succ, i64_w, i32_w]
                        rfl
                      refine pure_ (i := 1) (N := some 40) (v := ?_) (a' := ?_) #[true, true, false, false, false, false, false, false, false, false, false, false, false, false] rfl rfl (any_of HT_.out (by kernel_rfl)) (fun _ _ _ h => h) (Or.inl ⟨by rfl, ?_⟩) ?_ ?_
                      rotate_left
                      · intro w'
                        go_simp
                        with_reducible rfl
                      rotate_left
                      · simp only [Act.put, List.setIfInBounds_toArray, List.set_cons_zero, List.set_cons_succ, i64_w, i32_w]
                        rfl
                      refine pure_ (i := 2) (N := some 41) (v := ?_) (a' := ?_) #[true, true, true, false, false, false, false, false, false, false, false, false, false, false] rfl rfl (any_of HT_.out (by kernel_rfl)) (fun _ _ _ h => h) (Or.inl ⟨by rfl, ?_⟩) ?_ ?_
                      rotate_left
                      · intro w'
                        go_simp
                        with_reducible rfl
                      rotate_left
                      · simp only [Act.put, List.setIfInBounds_toArray, List.set_cons_zero, List.set_cons_succ, i64_w, i32_w]
                        rfl
                      refine pure_ (i := 3) (N := some 42) (v := ?_) (a' := ?_) #[true, true, true, true, false, false, false, false, false, false, false, false, false, false] rfl rfl (any_of HT_.out (by kernel_rfl)) (fun _ _ _ h => h) (Or.inl ⟨by rfl, ?_⟩) ?_ ?_
                      rotate_left
                      · intro w'
                        go_simp
                        with_reducible rfl
                      rotate_left
                      · simp only [Act.put, List.setIfInBounds_toArray, List.set_cons_zero, List.set_cons_succ, i64_w, i32_w]
                        rfl
                      refine pure_ (i := 5) (N := some 44) (v := ?_) (a' := ?_) #[true, true, true, true, false, true, false, false, false, false, false, false, false, false] rfl rfl (any_of HT_.out (by kernel_rfl)) (fun _ _ _ h => h) (Or.inl ⟨by rfl, ?_⟩) ?_ ?_
                      rotate_left
                      · intro w'
                        go_simp
                        with_reducible rfl
                      rotate_left
                      · simp only [Act.put, List.setIfInBounds_toArray, List.set_cons_zero, List.set_cons_succ, i64_w, i32_w]
                        rfl
                      refine pure_ (i := 6) (N := some 45) (v := ?_) (a' := ?_) #[true, true, true, true, false, true, true, false, false, false, false, false, false, false] rfl rfl (any_of HT_.out (by kernel_rfl)) (fun _ _ _ h => h) (Or.inl ⟨by rfl, ?_⟩) ?_ ?_
                      rotate_left
                      · intro w'
                        go_simp
                        with_reducible rfl
                      rotate_left
                      · simp only [Act.put, List.setIfInBounds_toArray, List.set_cons_zero, List.set_cons_succ, i64_w, i32_w]
                        rfl
                      refine take_ (i := 4) (N := some 43) (v := ?_) (a' := ?_) #[true, true, true, true, true, true, true, false, false, false, false, false, false, false] rfl rfl (take_ofW HT_.out HW_.out (by kernel_rfl)) (fun _ _ _ h => h) (Or.inl ⟨by rfl, ?_⟩) hHeld ?_ ?_
                      rotate_left
                      · rintro w' ⟨s0, s1⟩
                        go_simp
                        with_reducible rfl
                      rotate_left
                      · simp only [Act.put, List.setIfInBounds_toArray, List.set_cons_zero, List.set_cons_succ, i64_w, i32_w]
                        rfl
                      refine take_ (i := 7) (N := some 46) (v := ?_) (a' := ?_) #[true, true, true, true, true, true, true, true, false, false, false, false, false, false] rfl rfl (take_ofW HT_.out HW_.out (by kernel_rfl)) (fun _ _ _ h => h) (Or.inl ⟨by rfl, ?_⟩) hHeld ?_ ?_
                      rotate_left
                      · rintro w' ⟨s0, s1⟩
                        go_simp
                        with_reducible rfl
                      rotate_left
                      · simp only [Act.put, List.setIfInBounds_toArray, List.set_cons_zero, List.set_cons_succ, i64_w, i32_w]
                        rfl
                      refine one_ (i := 8) (N := some 47) #[true, true, true, true, true, true, true, true, true, false, false, false, false, false] rfl rfl (one_of HT_.out (by kernel_rfl)) (by decide) (fun K hK => ?_)
                      refine goes_ Try.func26 (by kernel_rfl) rfl #[.int .i64 a0, .slice A1 l1.length c1, .int .i64 (rd (rd_L1 t262 x34_1) 0), .int .i64 (rd (rd_L1 t262 x34_1) 1)] (by rfl) rfl rfl TA ?_
                      with_reducible refine (spec_doFrom.calls k1 a0 _ _ l1 (rd (rd_L1 t262 x34_1) 0) (rd (rd_L1 t262 x34_1) 1) t268 t271 _ ?side1 ?side2 A20.out).mono ?_
                      (case side1 => repeat (first | exact (Kd.C_below HR1.out HB.out) | (with_reducible refine Kd.C_drewN ?_ _) | (with_reducible refine Kd.C_drew ?_) | (with_reducible refine Kd.C_alloc ?_ _)))
                      (case side2 => exact HC1.out)
                      rintro e w22 ⟨v269, v272, rfl, ho0, ho1, hb⟩
                      have HS0_ := (hb.cell (World.block_lt_of_cell? _ _ (hHeld.1))).trans (hHeld.1); have HS1_ := (hb.cell (World.block_lt_of_cell? _ _ (hHeld.2))).trans (hHeld.2)
                      refine ⟨_, rfl, ?_⟩
                      have n0_ := Aside0.mk (Kd.S_elder' (KS HO_6) (Kd.R_base ho0) hb); have n1_ := Aside0.mk (Kd.R_below (KR HO_7) hb); have n2_ := Aside0.mk (Kd.S_elder' (KS HO_32) (Kd.R_base ho0) hb); have n3_ := Aside0.mk (Kd.R_elder' (KR HL265_0) (Kd.R_base ho0) hb); have n4_ := Aside0.mk (Kd.R_lower (Kd.R_new' (Kd.R_mono (ok' := fun k_ => True) ho0 (fun _ hk_ => trivial)) (Kd.R_lt (KR HL265_0))) (below_size BB)); have n5_ := Aside0.mk (Kd.V_lower (Kd.V_mono (ok' := fun k_ => some k_ ≠ (v269 : Value).ownBlock ∧ some k_ ≠ (.slice Ao10 t256.length co10 : Value).ownBlock ∧ some k_ ≠ (v260 : Value).ownBlock ∧ some k_ ≠ (.slice (some ad265) t262.length co14 : Value).ownBlock) ho1 (fun k_ hk_ => ⟨hk_.2, (Kd.fresh' (Kd.S_lt (KS HO_6)) k_ hk_.1), (Kd.fresh' (Kd.R_lt (KR HO_7)) k_ hk_.1), (Kd.fresh' (Kd.S_lt (KS HO_32)) k_ hk_.1)⟩)) (below_size BB)); have n6_ := Aside0.mk (Kd.C_below (by repeat (first | (with_reducible exact HR265_0.out) | (with_reducible refine Kd.C_drewN ?_ _) | (with_reducible refine Kd.C_drew ?_) | (with_reducible refine Kd.C_alloc ?_ _) | exact HR265_0.out)) hb); have n7_ := Aside0.mk (below_step BB hb); clear HO_6; clear HO_7; clear HO_32; clear HL265_0
                      clear HR265_0; clear HB; have HO_6 := n0_; have HO_7 := n1_; have HO_32 := n2_; have HL265_0 := n3_; have HO270 := n4_; have HO273 := n5_; have HR265_0 := n6_; have HB := n7_; clear n0_ n1_ n2_ n3_ n4_ n5_ n6_ n7_
                      (try clear hb)
                      (try clear hb2)
                      (try clear hk)
                      (try clear hi)
                      (try clear ho0)
                      (try clear ho1)
                      refine hK.out _ _ ⟨HS0_, HS1_⟩ (fun hHeld => ?_)
                      clear hK K
                      refine norm_ (a' := ?_) ?_ ?_
                      rotate_left
                      · show Act.put _ (some 47) _ = _
                        simp only [Act.put, List.setIfInBounds_toArray, List.set_cons_zero, List.set_cons_succ, i64_w, i32_w]
                        rfl
                      refine pure_ (i := 9) (N := some 38) (v := ?_) (a' := ?_) #[true, true, true, true, true, true, true, true, true, true, false, false, false, false] rfl rfl (any_of HT_.out (by kernel_rfl)) (fun _ _ _ h => h) (Or.inl ⟨by rfl, ?_⟩) ?_ ?_
                      rotate_left
                      · intro w'
                        go_simp
                        with_reducible rfl
                      rotate_left
                      · simp only [Act.put, List.setIfInBounds_toArray, List.set_cons_zero, List.set_cons_succ, i64_w, i32_w]
                        rfl
                      refine pure_ (i := 10) (N := some 48) (v := ?_) (a' := ?_) #[true, true, true, true, true, true, true, true, true, true, true, false, false, false] rfl rfl (any_of HT_.out (by kernel_rfl)) (fun _ _ _ h => h) (Or.inl ⟨by rfl, ?_⟩) ?_ ?_
                      rotate_left
                      · intro w'
                        go_simp
                        with_reducible rfl
                      rotate_left
                      · simp only [Act.put, List.setIfInBounds_toArray, List.set_cons_zero, List.set_cons_succ, i64_w, i32_w]
                        rfl
                      refine pure_ (i := 11) (N := some 49) (v := ?_) (a' := ?_) #[true, true, true, true, true, true, true, true, true, true, true, true, false, false] rfl rfl (any_of HT_.out (by kernel_rfl)) (fun _ _ _ h => h) (Or.inl ⟨by rfl, ?_⟩) ?_ ?_
                      rotate_left
                      · intro w'
                        go_simp
                        with_reducible rfl
                      rotate_left
                      · simp only [Act.put, List.setIfInBounds_toArray, List.set_cons_zero, List.set_cons_succ, i64_w, i32_w]
                        rfl
                      refine pure_ (i := 12) (N := some 10) (v := ?_) (a' := ?_) #[true, true, true, true, true, true, true, true, true, true, true, true, true, false] rfl rfl (any_of HT_.out (by kernel_rfl)) (fun _ _ _ h => h) (Or.inl ⟨by rfl, ?_⟩) ?_ ?_
                      rotate_left
                      · intro w'
                        go_simp
                        with_reducible rfl
                      rotate_left
                      · simp only [Act.put, List.setIfInBounds_toArray, List.set_cons_zero, List.set_cons_succ, i64_w, i32_w]
                        rfl
                      refine pure_ (i := 13) (N := some 11) (v := ?_) (a' := ?_) #[true, true, true, true, true, true, true, true, true, true, true, true, true, true] rfl rfl (any_of HT_.out (by kernel_rfl)) (fun _ _ _ h => h) (Or.inl ⟨by rfl, ?_⟩) ?_ ?_
                      rotate_left
                      · intro w'
                        go_simp
                        with_reducible rfl
                      rotate_left
                      · simp only [Act.put, List.setIfInBounds_toArray, List.set_cons_zero, List.set_cons_succ, i64_w, i32_w]
                        rfl
                      refine done_ (done_of HT_.out (by kernel_rfl)) ?_
                      obtain ⟨Ao23, co23, eo23⟩ := Kd.R_slice HO270.out; subst eo23
                      try go_wp2
                      go_loopg [52] k1 (fun kq v52 w' => ∃ (x7_2 : List Bool) (x52_2 : Int), v52 = .int .i64 x52_2 ∧ Aside0 (spec_ClosedRooms.l1 kq a0 l1 t256 x7_2 t262 (t262.length : Int) x34_1 t268 (t268.length : Int) x52_2 = some (r1, r2)) ∧ Aside0 (kq ≤ k1) ∧ Aside0 (Kd.S (Kd.slice 3 (Kd.int .i64)) 22 w' w.heap.size (fun k_ => some k_ ≠ ((.slice (some ad265) t262.length co14) : Value).ownBlock ∧ some k_ ≠ ((.slice Ao23 t268.length co23) : Value).ownBlock) (.slice Ao10 t256.length co10) t256) ∧ Aside0 (Kd.R Kd.bool 4 w' w.heap.size (fun _ => True) v260 x7_2) ∧ Aside0 (Kd.S (Kd.slice 3 (Kd.int .i64)) 22 w' w.heap.size (fun k_ => some k_ ≠ ((.slice Ao10 t256.length co10) : Value).ownBlock ∧ some k_ ≠ ((.slice Ao23 t268.length co23) : Value).ownBlock) (.slice (some ad265) t262.length co14) t262) ∧ Aside0 (Kd.R (Kd.int .i64) 3 w' w.heap.size (fun _ => True) (.slice Ao23 t268.length co23) t268) ∧ Aside0 (Below w.heap.size w w'))
                      case atStart => exact ⟨(x7_1), (0), RF, H', ⟨Nat.le_refl _⟩, ⟨KS HO_6⟩, ⟨KR HO_7⟩, ⟨KS HO_32⟩, ⟨by (with_reducible repeat (first | apply Kd.R_alloc | apply Kd.R_drewN | apply Kd.R_drew)); exact Kd.R_mono HO270.out (fun _ hk => trivial)⟩, ⟨BB⟩⟩
                      case round =>
                        clear H'
                        try clear c1
                        try clear c2
                        try clear p2
                        try clear q2
                        try clear hx2
                        try clear qi2
                        try clear c4
                        try clear c6
                        try clear c6b0
                        try clear c6b1
                        try clear p6
                        try clear c7
                        try clear c7b0
                        try clear c7b1
                        try clear c15
                        try clear c15b0
                        try clear c16
                        try clear c16b0
                        try clear c17
                        try clear c17b0
                        try clear c18
                        try clear c18b0
                        try clear c18b1
                        try clear c19
                        try clear c19b0
                        try clear c19b1
                        try clear c23
                        try clear hx265_0
                        try clear hx266_0
                        try clear hx267_0
                        try clear p2
                        try clear p265
                        try clear p266
                        try clear p267
                        try clear p6
                        try clear q265
                        try clear q266
                        try clear q267
                        obtain ⟨x7_2, x52_2, rfl, HA, HK2, HO_6, HO_7, HO_32, HO_50, HB⟩ := hrel; cases gk with
                        | zero => exact absurd HA.out (by simp [spec_ClosedRooms.l1])
                        | succ k2 =>
                          have H := HA.out; clear HA
                          simp only [spec_ClosedRooms.l1] at H
                          by_cases c24 : x52_2 < (t268.length : Int)
                          · rw [if_pos c24] at H
                            have c24b0 : decide (x52_2 < (t268.length : Int)) = true := decide_eq_true c24; clear c24
                            by_cases c25 : 0 ≤ x52_2
                            · rw [if_pos c25] at H
                              have c25b0 : decide (0 ≤ x52_2) = true := decide_eq_true c25; clear c25
                              by_cases c26 : x52_2 < (t268.length : Int)
                              · rw [if_pos c26] at H
                                have c26b0 : decide (x52_2 < (t268.length : Int)) = true := decide_eq_true c26; clear c26
                                by_cases c27 : 0 ≤ (rd t268 x52_2)
                                · rw [if_pos c27] at H
                                  have c27b0 : decide (0 ≤ (rd t268 x52_2)) = true := decide_eq_true c27; clear c27
                                  by_cases c28 : (rd t268 x52_2) < (x7_2.length : Int)
                                  · rw [if_pos c28] at H
                                    have c28b0 : decide ((rd t268 x52_2) < (x7_2.length : Int)) = true := decide_eq_true c28; clear c28; obtain ⟨y275, hy275⟩ : ∃ y_ : List Bool, y_ = (x7_2.set ((rd t268 x52_2) : Int).toNat true) := ⟨_, rfl⟩; replace H : (spec_ClosedRooms.l1 k2 a0 l1 t256 y275 t262 (t262.length : Int) x34_1 t268 (t268.length : Int) (wrap64 (x52_2 + 1))) = some (r1, r2) := by first | (rw [hy275]; with_reducible exact H) | (have H2_ := (Option.bind_some _ _).symm.trans H; rw [hy275]; with_reducible exact H2_) | (have H2_ := (Option.bind_some _ _).symm.trans H; with_reducible exact H2_) | with_reducible exact H | (rw [hy275]; exact H) | exact H
                                    have Ny275 := Aside0.mk hy275; clear hy275; have H' := Aside0.mk H; clear H; have p274 : 0 ≤ (x52_2 : Int) := of_decide_eq_true AS; have q274 : x52_2 < (t268.length : Int) := of_decide_eq_true AS; obtain ⟨ad274, e274, hx274_0⟩ := Kd.at_int (Kd.R_reads' HO_50.out).2.2 x52_2 p274 q274; cases e274; replace p274 := eq_true p274; replace q274 := eq_true q274; have p29 : 0 ≤ ((rd t268 x52_2) : Int) := of_decide_eq_true AS; have q29 : ((rd t268 x52_2) : Int) < ((x7_2.length : Int) : Int) := of_decide_eq_true AS; obtain ⟨go29, co29, eo29, gb29, gl29, cl29, HG29⟩ := Kd.R_form HO_7.out (by omega)
                                    (first | cases eo29 | (injection eo29 with ea_ en_ ec_; (first | subst ea_ | (injection ea_ with ea_; subst ea_)); subst ec_; clear en_))
                                    have GB29 := Aside0.mk gb29; have GG29 := Aside0.mk HG29; clear gb29 gl29 HG29; obtain ⟨hx29_0, hf29_0⟩ := Kd.R_celln false HO_7.out ((rd t268 x52_2) : Int) p29 q29; replace p29 := eq_true p29; replace q29 := eq_true q29; have HP30 := Kd.R_putg HO_7.out ((rd t268 x52_2) : Int) true
                                    go_wp2_with (first | ((with_reducible refine gate_store (t := 4) (p := 58) rfl ?_); refine store_event (t := 4) (p := 58) (v := ?vo_w31) (w1 := (wr.setCell ⟨go29, ((rd t268 x52_2) : Int).toNat, none⟩ (.bool true))) ?hg ?ho ?hn ?hr ?_; (case ho => rfl); (case hg => rfl); (case hn => rfl); (case hr => first | (go_simp; done) | (go_simp; rfl)); intro w31 hw; have hg : wr.grownBy w31 (some go29) := (by rw [hw]; exact HP30.2); have hp_ : Kd.R Kd.bool 4 w31 w.heap.size (fun _ => True) (.slice (some ⟨go29, 0, none⟩) x7_2.length co29) y275 := (by rw [hw, Ny275.out]; exact HP30.1); clear HP30; have n0_ := Aside0.mk (Kd.S_over' (v := (.slice (some ⟨go29, 0, none⟩) x7_2.length co29)) (KS HO_6) (Kd.R_typed HO_7.out) (by decide) hg); have n1_ := Aside0.mk (hp_); have n2_ := Aside0.mk (Kd.S_over' (v := (.slice (some ⟨go29, 0, none⟩) x7_2.length co29)) (KS HO_32) (Kd.R_typed HO_7.out) (by decide) hg); have n3_ := Aside0.mk (Kd.R_over' (v := (.slice (some ⟨go29, 0, none⟩) x7_2.length co29)) (KR HO_50) (Kd.R_typed HO_7.out) (by decide) hg); have n4_ := Aside0.mk ((by rw [hw]; exact below_set (HB.out) GB29.out : Below w.heap.size w w31)); clear HO_6; clear HO_7; clear HO_32; clear HO_50; clear HB; have HO_6 := n0_; have HO_7 := n1_; have HO_32 := n2_; have HO_50 := n3_; have HB := n4_; clear n0_ n1_ n2_ n3_ n4_; clear hg hw hp_))
                                    go_roundg k2
                                    case measure => have := HK1.out; have := HK2.out; omega
                                    case rel => exact ⟨(y275), (wrap64 (x52_2 + 1)), RF, H', ⟨by have := HK1.out; have := HK2.out; omega⟩, ⟨KS HO_6⟩, ⟨KR HO_7⟩, ⟨KS HO_32⟩, ⟨KR HO_50⟩, ⟨BB⟩⟩
                                  · rw [if_neg c28] at H
                                    exact absurd H (by simp)
                                · rw [if_neg c27] at H
                                  exact absurd H (by simp)
                              · rw [if_neg c26] at H
                                exact absurd H (by simp)
                            · rw [if_neg c25] at H
                              exact absurd H (by simp)
                          · rw [if_neg c24] at H
                            have c24b0 : decide (x52_2 < (t268.length : Int)) = false := decide_eq_false c24; clear c24; have H' := Aside0.mk H; clear H
                            go_wp2
                            go_roundg k2
                            case measure => have := HK1.out; have := HK2.out; omega
                            case rel => exact ⟨(x7_2), (wrap64 (x34_1 + 1)), RF, H', ⟨by have := HK1.out; have := HK2.out; omega⟩, ⟨by (with_reducible repeat (first | apply Kd.S_alloc | apply Kd.S_drewN | apply Kd.S_drew)); exact Kd.S_mono HO_6.out (fun _ hk => hk.1)⟩, ⟨KR HO_7⟩, ⟨by (with_reducible repeat (first | apply Kd.S_alloc | apply Kd.S_drewN | apply Kd.S_drew)); exact Kd.S_mono HO_32.out (fun _ hk => hk.1)⟩, ⟨BB⟩⟩
                    · rw [if_neg c19] at H
                      exact absurd H (by simp)
                  · rw [if_neg c18] at H
                    exact absurd H (by simp)
                · rw [if_neg c17] at H
                  exact absurd H (by simp)
              · rw [if_neg c16] at H
                exact absurd H (by simp)
            · rw [if_neg c15] at H
              have c15b0 : decide (x34_1 < (t262.length : Int)) = false := decide_eq_false c15; clear c15; replace H := Option.bind_eq_some_iff.mp H; obtain ⟨t276, A320, H⟩ := H; replace H : (spec_ClosedRooms.l2 k1 a0 l1 t256 x7_1 t276 (t276.length : Int) 0) = some (r1, r2) := H; have A32 := Aside0.mk A320; clear A320; have H' := Aside0.mk H; clear H
              go_wp2_with (first | ((with_reducible refine gate_callee (f := 27) rfl ?_); refine goesL_ (some 63) rfl rfl Try.func27 (by kernel_rfl) rfl #[.int .i64 a0, .slice A1 l1.length c1] rfl TA ?_; (with_reducible refine (spec_doAllFull.calls k1 a0 _ _ l1 t276 _ ?side1 ?side2 A32.out).mono ?_); (case side1 => repeat (first | exact (Kd.C_below HR1.out HB.out) | (with_reducible refine Kd.C_drewN ?_ _) | (with_reducible refine Kd.C_drew ?_) | (with_reducible refine Kd.C_alloc ?_ _))); (case side2 => exact HC1.out); rintro e w33 ⟨v277, rfl, ho0, hb⟩; refine ⟨_, rfl, ?_⟩; have n0_ := Aside0.mk (Kd.S_elder' (KS HO_6) (Kd.R_base ho0) hb); have n1_ := Aside0.mk (Kd.R_below (KR HO_7) hb); have n2_ := Aside0.mk (Kd.S_elder' (KS HO_32) (Kd.R_base ho0) hb); have n3_ := Aside0.mk (Kd.R_lower ho0 (below_size BB)); have n4_ := Aside0.mk (below_step BB hb); clear HO_6; clear HO_7; clear HO_32; clear HB; have HO_6 := n0_; have HO_7 := n1_; have HO_32 := n2_; have HO278 := n3_; have HB := n4_; clear n0_ n1_ n2_ n3_ n4_; (try clear hb); (try clear hb2); (try clear hk); (try clear hi); (try clear ho0); obtain ⟨Ao34, co34, eo34⟩ := Kd.R_slice HO278.out; subst eo34))
              go_loopg [65] k1 (fun kq v65 w' => ∃ (x7_2 : List Bool) (x65_2 : Int), v65 = .int .i64 x65_2 ∧ Aside0 (spec_ClosedRooms.l2 kq a0 l1 t256 x7_2 t276 (t276.length : Int) x65_2 = some (r1, r2)) ∧ Aside0 (kq ≤ k1) ∧ Aside0 (Kd.S (Kd.slice 3 (Kd.int .i64)) 22 w' w.heap.size (fun k_ => some k_ ≠ ((.slice Ao34 t276.length co34) : Value).ownBlock) (.slice Ao10 t256.length co10) t256) ∧ Aside0 (Kd.R Kd.bool 4 w' w.heap.size (fun _ => True) v260 x7_2) ∧ Aside0 (Kd.R (Kd.int .i64) 3 w' w.heap.size (fun _ => True) (.slice Ao34 t276.length co34) t276) ∧ Aside0 (Below w.heap.size w w'))
              case atStart => exact ⟨(x7_1), (0), RF, H', ⟨Nat.le_refl _⟩, ⟨by (with_reducible repeat (first | apply Kd.S_alloc | apply Kd.S_drewN | apply Kd.S_drew)); exact Kd.S_mono HO_6.out (fun _ hk => hk.2)⟩, ⟨KR HO_7⟩, ⟨KR HO278⟩, ⟨BB⟩⟩
              case round =>
                clear H'
                try clear c1
                try clear c2
                try clear p2
                try clear q2
                try clear hx2
                try clear qi2
                try clear hf2
                try clear c4
                try clear c6
                try clear c6b0
                try clear c6b1
                try clear p6
                try clear c7
                try clear c7b0
                try clear c7b1
                try clear c15
                try clear c15b0
                try clear c16
                try clear c16b0
                try clear c17
                try clear c17b0
                try clear c18
                try clear c18b0
                try clear c18b1
                try clear c19
                try clear c19b0
                try clear c19b1
                try clear c23
                try clear c24
                try clear c24b0
                try clear c25
                try clear c25b0
                try clear c26
                try clear c26b0
                try clear p26
                try clear q26
                try clear hx26
                try clear qi26
                try clear c27
                try clear c27b0
                try clear p27
                try clear q27
                try clear hx27
                try clear c28
                try clear c28b0
                try clear p29
                try clear q29
                try clear hx29
                try clear hf29
                try clear hx265_0
                try clear hx266_0
                try clear hx267_0
                try clear hx274_0
                try clear hx29_0
                try clear p2
                try clear p265
                try clear p266
                try clear p267
                try clear p274
                try clear p29
                try clear p6
                try clear q2
                try clear q265
                try clear q266
                try clear q267
                try clear q274
                try clear q29
                obtain ⟨x7_2, x65_2, rfl, HA, HK2, HO_6, HO_7, HO_63, HB⟩ := hrel; cases gk with
                | zero => exact absurd HA.out (by simp [spec_ClosedRooms.l2])
                | succ k2 =>
                  have H := HA.out; clear HA
                  simp only [spec_ClosedRooms.l2] at H
                  by_cases c35 : x65_2 < (t276.length : Int)
                  · rw [if_pos c35] at H
                    have c35b0 : decide (x65_2 < (t276.length : Int)) = true := decide_eq_true c35; clear c35
                    by_cases c36 : 0 ≤ x65_2
                    · rw [if_pos c36] at H
                      have c36b0 : decide (0 ≤ x65_2) = true := decide_eq_true c36; clear c36
                      by_cases c37 : x65_2 < (t276.length : Int)
                      · rw [if_pos c37] at H
                        have c37b0 : decide (x65_2 < (t276.length : Int)) = true := decide_eq_true c37; clear c37; replace H := Option.bind_eq_some_iff.mp H; obtain ⟨t280, A380, H⟩ := H; replace H : (spec_ClosedRooms.l3 k2 a0 l1 t256 x7_2 t276 (t276.length : Int) x65_2 t280 (t280.length : Int) 0) = some (r1, r2) := H; have A38 := Aside0.mk A380; clear A380; have H' := Aside0.mk H; clear H; have p279 : 0 ≤ (x65_2 : Int) := of_decide_eq_true AS; have q279 : x65_2 < (t276.length : Int) := of_decide_eq_true AS; obtain ⟨ad279, e279, hx279_0⟩ := Kd.at_int (Kd.R_reads' HO_63.out).2.2 x65_2 p279 q279; cases e279; replace p279 := eq_true p279; replace q279 := eq_true q279
                        go_wp2_with (first | ((with_reducible refine gate_callee (f := 28) rfl ?_); refine goesL_ (some 72) rfl rfl Try.func28 (by kernel_rfl) rfl #[.int .i64 a0, .slice A1 l1.length c1, .int .i64 (rd t276 x65_2)] rfl TA ?_; (with_reducible refine (spec_doPartner.calls k2 a0 _ _ l1 (rd t276 x65_2) t280 _ ?side1 ?side2 A38.out).mono ?_); (case side1 => repeat (first | exact (Kd.C_below HR1.out HB.out) | (with_reducible refine Kd.C_drewN ?_ _) | (with_reducible refine Kd.C_drew ?_) | (with_reducible refine Kd.C_alloc ?_ _))); (case side2 => exact HC1.out); rintro e w39 ⟨v281, rfl, ho0, hb⟩; refine ⟨_, rfl, ?_⟩; have n0_ := Aside0.mk (Kd.S_elder' (KS HO_6) (Kd.R_base ho0) hb); have n1_ := Aside0.mk (Kd.R_below (KR HO_7) hb); have n2_ := Aside0.mk (Kd.R_elder' (KR HO_63) (Kd.R_base ho0) hb); have n3_ := Aside0.mk (Kd.R_lower (Kd.R_new' ho0 (Kd.R_lt (KR HO_63))) (below_size BB)); have n4_ := Aside0.mk (below_step BB hb); clear HO_6; clear HO_7; clear HO_63; clear HB; have HO_6 := n0_; have HO_7 := n1_; have HO_63 := n2_; have HO282 := n3_; have HB := n4_; clear n0_ n1_ n2_ n3_ n4_; (try clear hb); (try clear hb2); (try clear hk); (try clear hi); (try clear ho0); obtain ⟨Ao40, co40, eo40⟩ := Kd.R_slice HO282.out; subst eo40))
                        go_loopg [74] k2 (fun kq v74 w' => ∃ (x7_3 : List Bool) (x74_3 : Int), v74 = .int .i64 x74_3 ∧ Aside0 (spec_ClosedRooms.l3 kq a0 l1 t256 x7_3 t276 (t276.length : Int) x65_2 t280 (t280.length : Int) x74_3 = some (r1, r2)) ∧ Aside0 (kq ≤ k2) ∧ Aside0 (Kd.S (Kd.slice 3 (Kd.int .i64)) 22 w' w.heap.size (fun k_ => some k_ ≠ ((.slice (some ad279) t276.length co34) : Value).ownBlock ∧ some k_ ≠ ((.slice Ao40 t280.length co40) : Value).ownBlock) (.slice Ao10 t256.length co10) t256) ∧ Aside0 (Kd.R Kd.bool 4 w' w.heap.size (fun _ => True) v260 x7_3) ∧ Aside0 (Kd.R (Kd.int .i64) 3 w' w.heap.size (fun k_ => some k_ ≠ ((.slice Ao40 t280.length co40) : Value).ownBlock) (.slice (some ad279) t276.length co34) t276) ∧ Aside0 (Kd.R (Kd.int .i64) 3 w' w.heap.size (fun k_ => some k_ ≠ ((.slice (some ad279) t276.length co34) : Value).ownBlock) (.slice Ao40 t280.length co40) t280) ∧ Aside0 (Below w.heap.size w w'))
                        case atStart => exact ⟨(x7_2), (0), RF, H', ⟨Nat.le_refl _⟩, ⟨KS HO_6⟩, ⟨KR HO_7⟩, ⟨by (with_reducible repeat (first | apply Kd.R_alloc | apply Kd.R_drewN | apply Kd.R_drew)); exact Kd.R_mono HO_63.out (fun _ hk => hk.2)⟩, ⟨by (with_reducible repeat (first | apply Kd.R_alloc | apply Kd.R_drewN | apply Kd.R_drew)); exact Kd.R_mono HO282.out (fun _ hk => hk.2)⟩, ⟨BB⟩⟩
                        case round =>
                          clear H'
                          try clear c1
                          try clear c2
                          try clear p2
                          try clear q2
                          try clear hx2
                          try clear qi2
                          try clear hf2
                          try clear c3
                          try clear c4
                          try clear c6
                          try clear c6b0
                          try clear c6b1
                          try clear p6
                          try clear c7
                          try clear c7b0
                          try clear c7b1
                          try clear c15
                          try clear c15b0
                          try clear c16
                          try clear c16b0
                          try clear c17
                          try clear c17b0
                          try clear c18
                          try clear c18b0
                          try clear c18b1
                          try clear c19
                          try clear c19b0
                          try clear c19b1
                          try clear c23
                          try clear c24
                          try clear c24b0
                          try clear c25
                          try clear c25b0
                          try clear c26
                          try clear c26b0
                          try clear p26
                          try clear q26
                          try clear hx26
                          try clear qi26
                          try clear c27
                          try clear c27b0
                          try clear p27
                          try clear q27
                          try clear hx27
                          try clear c28
                          try clear c28b0
                          try clear p29
                          try clear q29
                          try clear hx29
                          try clear hf29
                          try clear c35
                          try clear c35b0
                          try clear c36
                          try clear c36b0
                          try clear c37
                          try clear c37b0
                          try clear hx265_0
                          try clear hx266_0
                          try clear hx267_0
                          try clear hx274_0
                          try clear hx279_0
                          try clear hx29_0
                          try clear p2
                          try clear p26
                          try clear p265
                          try clear p266
                          try clear p267
                          try clear p27
                          try clear p274
                          try clear p279
                          try clear p29
                          try clear p6
                          try clear q2
                          try clear q26
                          try clear q265
                          try clear q266
                          try clear q267
                          try clear q27
                          try clear q274
                          try clear q279
                          try clear q29
                          obtain ⟨x7_3, x74_3, rfl, HA, HK3, HO_6, HO_7, HO_63, HO_72, HB⟩ := hrel; cases gk with
                          | zero => exact absurd HA.out (by simp [spec_ClosedRooms.l3])
                          | succ k3 =>
                            have H := HA.out; clear HA
                            simp only [spec_ClosedRooms.l3] at H
                            by_cases c41 : x74_3 < (t280.length : Int)
                            · rw [if_pos c41] at H
                              have c41b0 : decide (x74_3 < (t280.length : Int)) = true := decide_eq_true c41; clear c41
                              by_cases c42 : 0 ≤ x74_3
                              · rw [if_pos c42] at H
                                have c42b0 : decide (0 ≤ x74_3) = true := decide_eq_true c42; clear c42
                                by_cases c43 : x74_3 < (t280.length : Int)
                                · rw [if_pos c43] at H
                                  have c43b0 : decide (x74_3 < (t280.length : Int)) = true := decide_eq_true c43; clear c43
                                  by_cases c44 : 0 ≤ (rd t280 x74_3)
                                  · rw [if_pos c44] at H
                                    have c44b0 : decide (0 ≤ (rd t280 x74_3)) = true := decide_eq_true c44; clear c44
                                    by_cases c45 : (rd t280 x74_3) < (x7_3.length : Int)
                                    · rw [if_pos c45] at H
                                      have c45b0 : decide ((rd t280 x74_3) < (x7_3.length : Int)) = true := decide_eq_true c45; clear c45; obtain ⟨y284, hy284⟩ : ∃ y_ : List Bool, y_ = (x7_3.set ((rd t280 x74_3) : Int).toNat true) := ⟨_, rfl⟩; replace H : (spec_ClosedRooms.l3 k3 a0 l1 t256 y284 t276 (t276.length : Int) x65_2 t280 (t280.length : Int) (wrap64 (x74_3 + 1))) = some (r1, r2) := by first | (rw [hy284]; with_reducible exact H) | (have H2_ := (Option.bind_some _ _).symm.trans H; rw [hy284]; with_reducible exact H2_) | (have H2_ := (Option.bind_some _ _).symm.trans H; with_reducible exact H2_) | with_reducible exact H | (rw [hy284]; exact H) | exact H
                                      have Ny284 := Aside0.mk hy284; clear hy284; have H' := Aside0.mk H; clear H; have p283 : 0 ≤ (x74_3 : Int) := of_decide_eq_true AS; have q283 : x74_3 < (t280.length : Int) := of_decide_eq_true AS; obtain ⟨ad283, e283, hx283_0⟩ := Kd.at_int (Kd.R_reads' HO_72.out).2.2 x74_3 p283 q283; cases e283; replace p283 := eq_true p283; replace q283 := eq_true q283; have p46 : 0 ≤ ((rd t280 x74_3) : Int) := of_decide_eq_true AS; have q46 : ((rd t280 x74_3) : Int) < ((x7_3.length : Int) : Int) := of_decide_eq_true AS; obtain ⟨go46, co46, eo46, gb46, gl46, cl46, HG46⟩ := Kd.R_form HO_7.out (by omega)
                                      (first | cases eo46 | (injection eo46 with ea_ en_ ec_; (first | subst ea_ | (injection ea_ with ea_; subst ea_)); subst ec_; clear en_))
                                      have GB46 := Aside0.mk gb46; have GG46 := Aside0.mk HG46; clear gb46 gl46 HG46; obtain ⟨hx46_0, hf46_0⟩ := Kd.R_celln false HO_7.out ((rd t280 x74_3) : Int) p46 q46; replace p46 := eq_true p46; replace q46 := eq_true q46; have HP47 := Kd.R_putg HO_7.out ((rd t280 x74_3) : Int) true
                                      go_wp2_with (first | ((with_reducible refine gate_store (t := 4) (p := 80) rfl ?_); refine store_event (t := 4) (p := 80) (v := ?vo_w48) (w1 := (wr.setCell ⟨go46, ((rd t280 x74_3) : Int).toNat, none⟩ (.bool true))) ?hg ?ho ?hn ?hr ?_; (case ho => rfl); (case hg => rfl); (case hn => rfl); (case hr => first | (go_simp; done) | (go_simp; rfl)); intro w48 hw; have hg : wr.grownBy w48 (some go46) := (by rw [hw]; exact HP47.2); have hp_ : Kd.R Kd.bool 4 w48 w.heap.size (fun _ => True) (.slice (some ⟨go46, 0, none⟩) x7_3.length co46) y284 := (by rw [hw, Ny284.out]; exact HP47.1); clear HP47; have n0_ := Aside0.mk (Kd.S_over' (v := (.slice (some ⟨go46, 0, none⟩) x7_3.length co46)) (KS HO_6) (Kd.R_typed HO_7.out) (by decide) hg); have n1_ := Aside0.mk (hp_); have n2_ := Aside0.mk (Kd.R_over' (v := (.slice (some ⟨go46, 0, none⟩) x7_3.length co46)) (KR HO_63) (Kd.R_typed HO_7.out) (by decide) hg); have n3_ := Aside0.mk (Kd.R_over' (v := (.slice (some ⟨go46, 0, none⟩) x7_3.length co46)) (KR HO_72) (Kd.R_typed HO_7.out) (by decide) hg); have n4_ := Aside0.mk ((by rw [hw]; exact below_set (HB.out) GB46.out : Below w.heap.size w w48)); clear HO_6; clear HO_7; clear HO_63; clear HO_72; clear HB; have HO_6 := n0_; have HO_7 := n1_; have HO_63 := n2_; have HO_72 := n3_; have HB := n4_; clear n0_ n1_ n2_ n3_ n4_; clear hg hw hp_))
                                      go_roundg k3
                                      case measure => have := HK1.out; have := HK2.out; have := HK3.out; omega
                                      case rel => exact ⟨(y284), (wrap64 (x74_3 + 1)), RF, H', ⟨by have := HK1.out; have := HK2.out; have := HK3.out; omega⟩, ⟨KS HO_6⟩, ⟨KR HO_7⟩, ⟨KR HO_63⟩, ⟨KR HO_72⟩, ⟨BB⟩⟩
                                    · rw [if_neg c45] at H
                                      exact absurd H (by simp)
                                  · rw [if_neg c44] at H
                                    exact absurd H (by simp)
                                · rw [if_neg c43] at H
                                  exact absurd H (by simp)
                              · rw [if_neg c42] at H
                                exact absurd H (by simp)
                            · rw [if_neg c41] at H
                              have c41b0 : decide (x74_3 < (t280.length : Int)) = false := decide_eq_false c41; clear c41; have H' := Aside0.mk H; clear H
                              go_wp2
                              go_roundg k3
                              case measure => have := HK1.out; have := HK2.out; have := HK3.out; omega
                              case rel => exact ⟨(x7_3), (wrap64 (x65_2 + 1)), RF, H', ⟨by have := HK1.out; have := HK2.out; have := HK3.out; omega⟩, ⟨by (with_reducible repeat (first | apply Kd.S_alloc | apply Kd.S_drewN | apply Kd.S_drew)); exact Kd.S_mono HO_6.out (fun _ hk => hk.1)⟩, ⟨KR HO_7⟩, ⟨by (with_reducible repeat (first | apply Kd.R_alloc | apply Kd.R_drewN | apply Kd.R_drew)); exact Kd.R_mono HO_63.out (fun _ hk => trivial)⟩, ⟨BB⟩⟩
                      · rw [if_neg c37] at H
                        exact absurd H (by simp)
                    · rw [if_neg c36] at H
                      exact absurd H (by simp)
                  · rw [if_neg c35] at H
                    have c35b0 : decide (x65_2 < (t276.length : Int)) = false := decide_eq_false c35; clear c35; have H' := Aside0.mk H; clear H
                    go_wp2
                    go_loopg [18, 85] k2 (fun kq v18 v85 w' => ∃ (x18_3 : Int) (x85_3 : Int), v18 = .int .i64 x18_3 ∧ v85 = .int .i64 x85_3 ∧ Aside0 (spec_ClosedRooms.l4 kq l1 x7_2 x18_3 t256 (t256.length : Int) x85_3 = some (r1, r2)) ∧ Aside0 (kq ≤ k2) ∧ Aside0 (Kd.R Kd.bool 4 w' w.heap.size (fun _ => True) v260 x7_2) ∧ Aside0 (Kd.S (Kd.slice 3 (Kd.int .i64)) 22 w' w.heap.size (fun _ => True) (.slice Ao10 t256.length co10) t256) ∧ Aside0 (Below w.heap.size w w'))
                    case atStart => exact ⟨(0), (0), RF, RF, H', ⟨Nat.le_refl _⟩, ⟨KR HO_7⟩, ⟨by (with_reducible repeat (first | apply Kd.S_alloc | apply Kd.S_drewN | apply Kd.S_drew)); exact Kd.S_mono HO_6.out (fun _ hk => trivial)⟩, ⟨BB⟩⟩
                    case round =>
                      clear H'
                      try clear c1
                      try clear c2
                      try clear p2
                      try clear q2
                      try clear hx2
                      try clear qi2
                      try clear hf2
                      try clear c3
                      try clear c4
                      try clear p4
                      try clear q4
                      try clear hx4
                      try clear hf4
                      try clear c6
                      try clear c6b0
                      try clear c6b1
                      try clear p6
                      try clear c7
                      try clear c7b0
                      try clear c7b1
                      try clear c15
                      try clear c15b0
                      try clear c16
                      try clear c16b0
                      try clear c17
                      try clear c17b0
                      try clear c18
                      try clear c18b0
                      try clear c18b1
                      try clear c19
                      try clear c19b0
                      try clear c19b1
                      try clear c23
                      try clear c24
                      try clear c24b0
                      try clear c25
                      try clear c25b0
                      try clear c26
                      try clear c26b0
                      try clear p26
                      try clear q26
                      try clear hx26
                      try clear qi26
                      try clear c27
                      try clear c27b0
                      try clear p27
                      try clear q27
                      try clear hx27
                      try clear c28
                      try clear c28b0
                      try clear p28
                      try clear q28
                      try clear hx28
                      try clear p29
                      try clear q29
                      try clear hx29
                      try clear hf29
                      try clear c35
                      try clear c35b0
                      try clear c36
                      try clear c36b0
                      try clear c37
                      try clear c37b0
                      try clear c41
                      try clear c41b0
                      try clear c42
                      try clear c42b0
                      try clear c43
                      try clear c43b0
                      try clear c44
                      try clear c44b0
                      try clear c45
                      try clear c45b0
                      try clear p46
                      try clear q46
                      try clear hx46
                      try clear hf46
                      try clear hx265_0
                      try clear hx266_0
                      try clear hx267_0
                      try clear hx274_0
                      try clear hx279_0
                      try clear hx283_0
                      try clear hx29_0
                      try clear hx46_0
                      try clear p2
                      try clear p26
                      try clear p265
                      try clear p266
                      try clear p267
                      try clear p27
                      try clear p274
                      try clear p279
                      try clear p283
                      try clear p29
                      try clear p46
                      try clear p6
                      try clear q2
                      try clear q26
                      try clear q265
                      try clear q266
                      try clear q267
                      try clear q27
                      try clear q274
                      try clear q279
                      try clear q283
                      try clear q29
                      try clear q46
                      obtain ⟨x18_3, x85_3, rfl, rfl, HA, HK3, HO_7, HO_83, HB⟩ := hrel; cases gk with
                      | zero => exact absurd HA.out (by simp [spec_ClosedRooms.l4])
                      | succ k3 =>
                        have H := HA.out; clear HA
                        simp only [spec_ClosedRooms.l4] at H
                        by_cases c49 : x85_3 < (t256.length : Int)
                        · rw [if_pos c49] at H
                          have c49b0 : decide (x85_3 < (t256.length : Int)) = true := decide_eq_true c49; clear c49
                          by_cases c50 : 0 ≤ x85_3
                          · rw [if_pos c50] at H
                            have c50b0 : decide (0 ≤ x85_3) = true := decide_eq_true c50; clear c50
                            by_cases c51 : x85_3 < (t256.length : Int)
                            · rw [if_pos c51] at H
                              have c51b0 : decide (x85_3 < (t256.length : Int)) = true := decide_eq_true c51; clear c51; replace H := Option.bind_eq_some_iff.mp H; obtain ⟨t286, A520, H⟩ := H; replace H : (if (t286.length : Int) = 2 then (if x85_3 < (x7_2.length : Int) then (if rdOf false x7_2 x85_3 = true then (spec_ClosedRooms.l4 k3 l1 x7_2 x18_3 t256 (t256.length : Int) (wrap64 (x85_3 + 1))) else (spec_ClosedRooms.l4 k3 l1 x7_2 (wrap64 (x18_3 + 1)) t256 (t256.length : Int) (wrap64 (x85_3 + 1)))) else (none)) else (spec_ClosedRooms.l4 k3 l1 x7_2 x18_3 t256 (t256.length : Int) (wrap64 (x85_3 + 1)))) = some (r1, r2) := H; have A52 := Aside0.mk A520; clear A520
                              by_cases c53 : (t286.length : Int) = 2
                              · rw [if_pos c53] at H
                                have c53b0 : ((t286.length : Int) == 2) = true := beq_iff_eq.mpr c53; have c53b1 : ((t286.length : Int) != 2) = false := bne_eq_false_iff_eq.mpr c53; clear c53
                                by_cases c54 : x85_3 < (x7_2.length : Int)
                                · rw [if_pos c54] at H
                                  have c54b0 : decide (x85_3 < (x7_2.length : Int)) = true := decide_eq_true c54; clear c54; obtain ⟨bq55, hbq55⟩ : ∃ b_ : Bool, b_ = (rdOf false x7_2 x85_3) := ⟨_, rfl⟩; replace H : (if bq55 = true then (spec_ClosedRooms.l4 k3 l1 x7_2 x18_3 t256 (t256.length : Int) (wrap64 (x85_3 + 1))) else (spec_ClosedRooms.l4 k3 l1 x7_2 (wrap64 (x18_3 + 1)) t256 (t256.length : Int) (wrap64 (x85_3 + 1)))) = some (r1, r2) := by rw [← hbq55] at H; exact H
                                  have Nbq55 := Aside0.mk hbq55; clear hbq55
                                  by_cases c56 : bq55 = true
                                  · subst c56
                                    have H1 : (spec_ClosedRooms.l4 k3 l1 x7_2 x18_3 t256 (t256.length : Int) (wrap64 (x85_3 + 1))) = some (r1, r2) := by rw [if_pos rfl] at H; exact H
                                    clear H; have H := H1; clear H1; have H' := Aside0.mk H; clear H; have p285 : 0 ≤ (x85_3 : Int) := of_decide_eq_true AS; have q285 : x85_3 < (t256.length : Int) := of_decide_eq_true AS; obtain ⟨ad285, A285_0, c285_0, e285, hx285_0, hl285_0, hi285_0⟩ := at_L1 (Kd.S_reads' HO_83.out).2.2 x85_3 p285 q285; cases e285; obtain ⟨ce285, hce285, hMe285, hcc285⟩ := Kd.S_get HO_83.out [] x85_3 p285 (by first | exact q285 | exact of_decide_eq_true AS | (have e_ := (Kd.S_reads' HO_83.out).1; omega)); obtain ⟨ve285_0, rfl, ge285_0⟩ := hMe285; have hv285_0 := hcc285 0 _ rfl; rw [Nat.add_zero, show ((Kd.slice 3 (Kd.int .i64))).sz = 1 from rfl, Nat.mul_one] at hv285_0; replace hv285_0 := Option.some.inj (hv285_0.symm.trans hx285_0); rw [hv285_0] at ge285_0; have HL285_0 := Aside0.mk (show Kd.R (Kd.int .i64) 3 _ _ _ _ (rd_L1 t256 x85_3) from ge285_0); clear hv285_0 ge285_0; clear hcc285 hce285; have HR285_0 := Aside0.mk hi285_0; have HC285_0 := Aside0.mk hl285_0; clear hi285_0 hl285_0; replace p285 := eq_true p285; replace q285 := eq_true q285
                                    go_wp2_with (first | ((with_reducible refine gate_callee (f := 29) rfl ?_); refine goesL_ (some 92) rfl rfl Try.func29 (by kernel_rfl) rfl #[.slice A1 l1.length c1, .slice A285_0 (rd_L1 t256 x85_3).length c285_0] rfl TA ?_; (with_reducible refine (spec_doOfCell.calls k3 _ _ l1 _ _ (rd_L1 t256 x85_3) t286 _ ?side1 ?side2 ?side3 ?side4 A52.out).mono ?_); (case side1 => repeat (first | exact (Kd.C_below HR1.out HB.out) | (with_reducible refine Kd.C_drewN ?_ _) | (with_reducible refine Kd.C_drew ?_) | (with_reducible refine Kd.C_alloc ?_ _))); (case side2 => exact HC1.out); (case side3 => repeat (first | exact (by repeat (first | (with_reducible exact HR285_0.out) | (with_reducible refine Kd.C_drewN ?_ _) | (with_reducible refine Kd.C_drew ?_) | (with_reducible refine Kd.C_alloc ?_ _) | exact HR285_0.out)) | (with_reducible refine Kd.C_drewN ?_ _) | (with_reducible refine Kd.C_drew ?_) | (with_reducible refine Kd.C_alloc ?_ _))); (case side4 => exact HC285_0.out); rintro e w57 ⟨v287, rfl, ho0, hb⟩; refine ⟨_, rfl, ?_⟩; have n0_ := Aside0.mk (Kd.R_below (KR HO_7) hb); have n1_ := Aside0.mk (Kd.S_elder' (KS HO_83) (Kd.S_base ho0) hb); have n2_ := Aside0.mk (Kd.R_below (KR HL285_0) hb); have n3_ := Aside0.mk (Kd.S_lower (Kd.S_new' (Kd.S_new' ho0 (Kd.S_lt (KS HO_83))) (Kd.R_lt (KR HL285_0))) (below_size BB)); have n4_ := Aside0.mk (Kd.C_below (by repeat (first | (with_reducible exact HR285_0.out) | (with_reducible refine Kd.C_drewN ?_ _) | (with_reducible refine Kd.C_drew ?_) | (with_reducible refine Kd.C_alloc ?_ _) | exact HR285_0.out)) hb); have n5_ := Aside0.mk (below_step BB hb); clear HO_7; clear HO_83; clear HL285_0; clear HR285_0; clear HB; have HO_7 := n0_; have HO_83 := n1_; have HL285_0 := n2_; have HO288 := n3_; have HR285_0 := n4_; have HB := n5_; clear n0_ n1_ n2_ n3_ n4_ n5_; (try clear hb); (try clear hb2); (try clear hk); (try clear hi); (try clear ho0); obtain ⟨Ao58, co58, eo58⟩ := Kd.S_slice HO288.out; subst eo58; obtain ⟨Ao59, co59, eo59⟩ := Kd.R_slice HO_7.out; subst eo59; have p289 : 0 ≤ (x85_3 : Int) := of_decide_eq_true AS; have q289 : x85_3 < (x7_2.length : Int) := of_decide_eq_true AS; obtain ⟨ad289, e289, hx289_0⟩ := Kd.at_bool (Kd.R_reads' HO_7.out).2.2 x85_3 p289 q289; (try rw [← Nbq55.out] at hx289_0); cases e289; replace p289 := eq_true p289; replace q289 := eq_true q289))
                                    go_roundg k3
                                    case measure => have := HK1.out; have := HK2.out; have := HK3.out; omega
                                    case rel => exact ⟨(x18_3), (wrap64 (x85_3 + 1)), RF, RF, H', ⟨by have := HK1.out; have := HK2.out; have := HK3.out; omega⟩, ⟨KR HO_7⟩, ⟨by (with_reducible repeat (first | apply Kd.S_alloc | apply Kd.S_drewN | apply Kd.S_drew)); exact Kd.S_mono HO_83.out (fun _ hk => trivial)⟩, ⟨BB⟩⟩
                                  · replace c56 := Bool.eq_false_iff.mpr c56
                                    subst c56; have H1 : (spec_ClosedRooms.l4 k3 l1 x7_2 (wrap64 (x18_3 + 1)) t256 (t256.length : Int) (wrap64 (x85_3 + 1))) = some (r1, r2) := by rw [if_neg (show ¬ (false = true) by decide)] at H; exact H
                                    clear H; have H := H1; clear H1; have H' := Aside0.mk H; clear H; have p285 : 0 ≤ (x85_3 : Int) := of_decide_eq_true AS; have q285 : x85_3 < (t256.length : Int) := of_decide_eq_true AS; obtain ⟨ad285, A285_0, c285_0, e285, hx285_0, hl285_0, hi285_0⟩ := at_L1 (Kd.S_reads' HO_83.out).2.2 x85_3 p285 q285; cases e285; obtain ⟨ce285, hce285, hMe285, hcc285⟩ := Kd.S_get HO_83.out [] x85_3 p285 (by first | exact q285 | exact of_decide_eq_true AS | (have e_ := (Kd.S_reads' HO_83.out).1; omega)); obtain ⟨ve285_0, rfl, ge285_0⟩ := hMe285; have hv285_0 := hcc285 0 _ rfl; rw [Nat.add_zero, show ((Kd.slice 3 (Kd.int .i64))).sz = 1 from rfl, Nat.mul_one] at hv285_0; replace hv285_0 := Option.some.inj (hv285_0.symm.trans hx285_0); rw [hv285_0] at ge285_0; have HL285_0 := Aside0.mk (show Kd.R (Kd.int .i64) 3 _ _ _ _ (rd_L1 t256 x85_3) from ge285_0); clear hv285_0 ge285_0; clear hcc285 hce285; have HR285_0 := Aside0.mk hi285_0; have HC285_0 := Aside0.mk hl285_0; clear hi285_0 hl285_0; replace p285 := eq_true p285; replace q285 := eq_true q285
                                    go_wp2_with (first | ((with_reducible refine gate_callee (f := 29) rfl ?_); refine goesL_ (some 92) rfl rfl Try.func29 (by kernel_rfl) rfl #[.slice A1 l1.length c1, .slice A285_0 (rd_L1 t256 x85_3).length c285_0] rfl TA ?_; (with_reducible refine (spec_doOfCell.calls k3 _ _ l1 _ _ (rd_L1 t256 x85_3) t286 _ ?side1 ?side2 ?side3 ?side4 A52.out).mono ?_); (case side1 => repeat (first | exact (Kd.C_below HR1.out HB.out) | (with_reducible refine Kd.C_drewN ?_ _) | (with_reducible refine Kd.C_drew ?_) | (with_reducible refine Kd.C_alloc ?_ _))); (case side2 => exact HC1.out); (case side3 => repeat (first | exact (by repeat (first | (with_reducible exact HR285_0.out) | (with_reducible refine Kd.C_drewN ?_ _) | (with_reducible refine Kd.C_drew ?_) | (with_reducible refine Kd.C_alloc ?_ _) | exact HR285_0.out)) | (with_reducible refine Kd.C_drewN ?_ _) | (with_reducible refine Kd.C_drew ?_) | (with_reducible refine Kd.C_alloc ?_ _))); (case side4 => exact HC285_0.out); rintro e w60 ⟨v287, rfl, ho0, hb⟩; refine ⟨_, rfl, ?_⟩; have n0_ := Aside0.mk (Kd.R_below (KR HO_7) hb); have n1_ := Aside0.mk (Kd.S_elder' (KS HO_83) (Kd.S_base ho0) hb); have n2_ := Aside0.mk (Kd.R_below (KR HL285_0) hb); have n3_ := Aside0.mk (Kd.S_lower (Kd.S_new' (Kd.S_new' ho0 (Kd.S_lt (KS HO_83))) (Kd.R_lt (KR HL285_0))) (below_size BB)); have n4_ := Aside0.mk (Kd.C_below (by repeat (first | (with_reducible exact HR285_0.out) | (with_reducible refine Kd.C_drewN ?_ _) | (with_reducible refine Kd.C_drew ?_) | (with_reducible refine Kd.C_alloc ?_ _) | exact HR285_0.out)) hb); have n5_ := Aside0.mk (below_step BB hb); clear HO_7; clear HO_83; clear HL285_0; clear HR285_0; clear HB; have HO_7 := n0_; have HO_83 := n1_; have HL285_0 := n2_; have HO288 := n3_; have HR285_0 := n4_; have HB := n5_; clear n0_ n1_ n2_ n3_ n4_ n5_; (try clear hb); (try clear hb2); (try clear hk); (try clear hi); (try clear ho0); obtain ⟨Ao61, co61, eo61⟩ := Kd.S_slice HO288.out; subst eo61; obtain ⟨Ao62, co62, eo62⟩ := Kd.R_slice HO_7.out; subst eo62; have p289 : 0 ≤ (x85_3 : Int) := of_decide_eq_true AS; have q289 : x85_3 < (x7_2.length : Int) := of_decide_eq_true AS; obtain ⟨ad289, e289, hx289_0⟩ := Kd.at_bool (Kd.R_reads' HO_7.out).2.2 x85_3 p289 q289; (try rw [← Nbq55.out] at hx289_0); cases e289; replace p289 := eq_true p289; replace q289 := eq_true q289))
                                    go_roundg k3
                                    case measure => have := HK1.out; have := HK2.out; have := HK3.out; omega
                                    case rel => exact ⟨(wrap64 (x18_3 + 1)), (wrap64 (x85_3 + 1)), RF, RF, H', ⟨by have := HK1.out; have := HK2.out; have := HK3.out; omega⟩, ⟨KR HO_7⟩, ⟨by (with_reducible repeat (first | apply Kd.S_alloc | apply Kd.S_drewN | apply Kd.S_drew)); exact Kd.S_mono HO_83.out (fun _ hk => trivial)⟩, ⟨BB⟩⟩
                                · rw [if_neg c54] at H
                                  exact absurd H (by simp)
                              · rw [if_neg c53] at H
                                have c53b0 : ((t286.length : Int) == 2) = false := beq_eq_false_iff_ne.mpr c53; have c53b1 : ((t286.length : Int) != 2) = true := bne_iff_ne.mpr c53; have H' := Aside0.mk H; clear H; have p285 : 0 ≤ (x85_3 : Int) := of_decide_eq_true AS; have q285 : x85_3 < (t256.length : Int) := of_decide_eq_true AS; obtain ⟨ad285, A285_0, c285_0, e285, hx285_0, hl285_0, hi285_0⟩ := at_L1 (Kd.S_reads' HO_83.out).2.2 x85_3 p285 q285; cases e285; obtain ⟨ce285, hce285, hMe285, hcc285⟩ := Kd.S_get HO_83.out [] x85_3 p285 (by first | exact q285 | exact of_decide_eq_true AS | (have e_ := (Kd.S_reads' HO_83.out).1; omega)); obtain ⟨ve285_0, rfl, ge285_0⟩ := hMe285; have hv285_0 := hcc285 0 _ rfl; rw [Nat.add_zero, show ((Kd.slice 3 (Kd.int .i64))).sz = 1 from rfl, Nat.mul_one] at hv285_0; replace hv285_0 := Option.some.inj (hv285_0.symm.trans hx285_0); rw [hv285_0] at ge285_0; have HL285_0 := Aside0.mk (show Kd.R (Kd.int .i64) 3 _ _ _ _ (rd_L1 t256 x85_3) from ge285_0); clear hv285_0 ge285_0; clear hcc285 hce285; have HR285_0 := Aside0.mk hi285_0; have HC285_0 := Aside0.mk hl285_0; clear hi285_0 hl285_0; replace p285 := eq_true p285; replace q285 := eq_true q285
                                go_wp2_with (first | ((with_reducible refine gate_callee (f := 29) rfl ?_); refine goesL_ (some 92) rfl rfl Try.func29 (by kernel_rfl) rfl #[.slice A1 l1.length c1, .slice A285_0 (rd_L1 t256 x85_3).length c285_0] rfl TA ?_; (with_reducible refine (spec_doOfCell.calls k3 _ _ l1 _ _ (rd_L1 t256 x85_3) t286 _ ?side1 ?side2 ?side3 ?side4 A52.out).mono ?_); (case side1 => repeat (first | exact (Kd.C_below HR1.out HB.out) | (with_reducible refine Kd.C_drewN ?_ _) | (with_reducible refine Kd.C_drew ?_) | (with_reducible refine Kd.C_alloc ?_ _))); (case side2 => exact HC1.out); (case side3 => repeat (first | exact (by repeat (first | (with_reducible exact HR285_0.out) | (with_reducible refine Kd.C_drewN ?_ _) | (with_reducible refine Kd.C_drew ?_) | (with_reducible refine Kd.C_alloc ?_ _) | exact HR285_0.out)) | (with_reducible refine Kd.C_drewN ?_ _) | (with_reducible refine Kd.C_drew ?_) | (with_reducible refine Kd.C_alloc ?_ _))); (case side4 => exact HC285_0.out); rintro e w63 ⟨v287, rfl, ho0, hb⟩; refine ⟨_, rfl, ?_⟩; have n0_ := Aside0.mk (Kd.R_below (KR HO_7) hb); have n1_ := Aside0.mk (Kd.S_elder' (KS HO_83) (Kd.S_base ho0) hb); have n2_ := Aside0.mk (Kd.R_below (KR HL285_0) hb); have n3_ := Aside0.mk (Kd.S_lower (Kd.S_new' (Kd.S_new' ho0 (Kd.S_lt (KS HO_83))) (Kd.R_lt (KR HL285_0))) (below_size BB)); have n4_ := Aside0.mk (Kd.C_below (by repeat (first | (with_reducible exact HR285_0.out) | (with_reducible refine Kd.C_drewN ?_ _) | (with_reducible refine Kd.C_drew ?_) | (with_reducible refine Kd.C_alloc ?_ _) | exact HR285_0.out)) hb); have n5_ := Aside0.mk (below_step BB hb); clear HO_7; clear HO_83; clear HL285_0; clear HR285_0; clear HB; have HO_7 := n0_; have HO_83 := n1_; have HL285_0 := n2_; have HO288 := n3_; have HR285_0 := n4_; have HB := n5_; clear n0_ n1_ n2_ n3_ n4_ n5_; (try clear hb); (try clear hb2); (try clear hk); (try clear hi); (try clear ho0); obtain ⟨Ao64, co64, eo64⟩ := Kd.S_slice HO288.out; subst eo64))
                                go_roundg k3
                                case measure => have := HK1.out; have := HK2.out; have := HK3.out; omega
                                case rel => exact ⟨(x18_3), (wrap64 (x85_3 + 1)), RF, RF, H', ⟨by have := HK1.out; have := HK2.out; have := HK3.out; omega⟩, ⟨KR HO_7⟩, ⟨by (with_reducible repeat (first | apply Kd.S_alloc | apply Kd.S_drewN | apply Kd.S_drew)); exact Kd.S_mono HO_83.out (fun _ hk => trivial)⟩, ⟨BB⟩⟩
                            · rw [if_neg c51] at H
                              exact absurd H (by simp)
                          · rw [if_neg c50] at H
                            exact absurd H (by simp)
                        · rw [if_neg c49] at H
                          have c49b0 : decide (x85_3 < (t256.length : Int)) = false := decide_eq_false c49; clear c49
                          simp only [Option.some.injEq, Prod.mk.injEq] at H
                          obtain ⟨rfl, rfl⟩ := H
                          go_wp2
                          go_ret2
                          exact ⟨by first | rfl | (simp [errW_none, errW_some] <;> rfl) | (simp [*, errW_none, errW_some] <;> rfl), BB⟩
      · rw [if_neg c7] at H
        exact absurd H (by simp)
    · rw [if_neg c6] at H
      exact absurd H (by simp)
  · replace c4 := Bool.eq_false_iff.mpr c4
    subst c4; have H1 : (some (0, false)) = some (r1, r2) := by rw [if_neg (show ¬ (false = true) by decide)] at H; exact H
    clear H; have H := H1; clear H1
    simp only [Option.some.injEq, Prod.mk.injEq] at H
    obtain ⟨rfl, rfl⟩ := H
    go_enter Try.func7, Try.ntmps7
    go_wp2_with (first | ((with_reducible refine gate_callee (f := 23) rfl ?_); refine goesL_ (some 23) rfl rfl Try.func23 (by kernel_rfl) rfl #[.int .i64 a0, .slice A1 l1.length c1] rfl TA ?_; (with_reducible refine (spec_meLabels.calls k a0 _ _ l1 false _ ?side1 ?side2 A3.out).mono ?_); (case side1 => repeat (first | exact HR1.out | (with_reducible refine Kd.C_drewN ?_ _) | (with_reducible refine Kd.C_drew ?_) | (with_reducible refine Kd.C_alloc ?_ _))); (case side2 => exact HC1.out); rintro e w' ⟨rfl, ⟨nd, rfl⟩⟩; refine ⟨_, rfl, ?_⟩))
    go_ret2
    exact ⟨by first | rfl | (simp [errW_none, errW_some] <;> rfl) | (simp [*, errW_none, errW_some] <;> rfl), BB⟩

end Go.Proofs.Ytgpplbaloajgdab.PFnExactClosedRooms
