-- Written by a program of this session (wip/tools/pp.sh) out of the translation; Lean checks it.
import Derived.Test.YthkdkgbcokpbaacGreatDoorProg
import Derived.Below
import Derived.Deep.Draws
import Derived.Deep.AppendLies
import Derived.Maps.AppendAt
import Derived.OwnWalk
import Derived.Laws.BytesArg
import Derived.Laws.MakeOwn
import Derived.Laws.OwnMore
import Derived.Deep.OwnRows
import Derived.Tactics
import Derived.Lib.ConvBytes
import Derived.Laws.Slices
import Derived.WalkKit
import Derived.KernelRfl
import Derived.RowKit3
import Derived.Deep.LoopGhost
import Derived.Deep.QuietTactic
import Derived.BigQuiet
import Derived.WideLaws
import Derived.Deep.DeepCutAuto
import Derived.Deep.CutBlock
import Derived.Deep.RegionHeld3
import Derived.Laws.Rows
import Derived.Lib.AppendStr
import Derived.ArgAppend
import Derived.Laws.IdiomCopy
import Derived.OrdersHeld
import Derived.Laws.BitsLemmas
import Derived.RowKit
import Derived.Test.YthkdkgbcokpbaacGreatDoorWWords
import Derived.Test.YthkdkgbcokpbaacGreatDoorWLast
import Derived.Test.YthkdkgbcokpbaacGreatDoorWTab
import Derived.Test.YthkdkgbcokpbaacGreatDoorWFour
import Derived.Test.YthkdkgbcokpbaacGreatDoorWQPut
import Derived.Test.YthkdkgbcokpbaacGreatDoorWApart
import Derived.Test.YthkdkgbcokpbaacGreatDoorWArr
import Derived.Test.YthkdkgbcokpbaacGreatDoorWZeros
import Derived.Test.YthkdkgbcokpbaacGreatDoorWFoot
import Derived.Test.YthkdkgbcokpbaacGreatDoorWKept
import Derived.Test.YthkdkgbcokpbaacGreatDoorWShare
import Derived.Test.YthkdkgbcokpbaacGreatDoorWN
import Derived.Test.YthkdkgbcokpbaacGreatDoorWFootNe
import Derived.Test.YthkdkgbcokpbaacGreatDoorWAt
import Derived.Test.YthkdkgbcokpbaacGreatDoorWEqStruct
import Derived.Test.YthkdkgbcokpbaacGreatDoorWRepsOne
import Derived.Test.YthkdkgbcokpbaacGreatDoorWInv
import Derived.Test.YthkdkgbcokpbaacGreatDoorWInvWords
import Derived.Test.YthkdkgbcokpbaacGreatDoorWGuard
import Derived.Test.YthkdkgbcokpbaacGreatDoorWNEv
import Derived.Test.YthkdkgbcokpbaacGreatDoorWMore
import Derived.Test.YthkdkgbcokpbaacGreatDoorOwn
import Derived.Test.YthkdkgbcokpbaacGreatDoorShelf
import Derived.Test.YthkdkgbcokpbaacGreatDoorShelfR
import Derived.Test.YthkdkgbcokpbaacGreatDoorOwnI
import Derived.Test.YthkdkgbcokpbaacGreatDoorDelI
import Derived.Test.YthkdkgbcokpbaacGreatDoorDelL
import Derived.Test.YthkdkgbcokpbaacGreatDoorDelN
import Derived.Test.YthkdkgbcokpbaacGreatDoorDelF
import Derived.Test.YthkdkgbcokpbaacGreatDoorRenL
import Derived.Test.YthkdkgbcokpbaacGreatDoorRepL
import Derived.Test.YthkdkgbcokpbaacGreatDoorWeakL
namespace Go.Proofs.YthkdkgbcokpbaacGreatDoor.PFnNecklacesShared
open Go.RowKit Go.Proofs.YthkdkgbcokpbaacGreatDoorOwn Go.Proofs.YthkdkgbcokpbaacGreatDoorW.PrintWords Go.Proofs.YthkdkgbcokpbaacGreatDoorW.PrintLast Go.Proofs.YthkdkgbcokpbaacGreatDoorW.PrintMore
attribute [local go_sem] max2_int min2_int max_two min_two max_three min_three max_four min_four   -- for this text's walks alone
set_option linter.unusedVariables false
set_option maxHeartbeats 8000000
set_option maxRecDepth 100000
set_option linter.unusedSimpArgs false



def errW : Option Int → Value
 | none => .nilIface
 | some c => .iface 0 (.int .i64 c)
theorem errW_none : errW none = .nilIface := rfl
theorem errW_some (c : Int) : errW (some c) = .iface 0 (.int .i64 c) := rfl

theorem info3 : (Tryz.prog.info? 3).map (fun i => (i.zero, i.size, i.bytes)) = some (some (.int .i64 0), 1, 8) := by kernel_rfl
theorem info9 : (Tryz.prog.info? 9).map (fun i => (i.zero, i.size, i.bytes)) = some (some (.string ⟨#[]⟩), 1, 16) := by kernel_rfl
theorem info25 : (Tryz.prog.info? 25).map (fun i => (i.zero, i.size, i.bytes)) = some (some (.slice none 0 0), 1, 24) := by kernel_rfl
-- the values' own types
def rd_L3 (xs : List (List Int)) (i : Int) : (List Int) := xs.getD i.toNat ([] : List Int)
theorem at_L3 {w : World} {A : Option Addr} {n : Nat} {xs : List (List Int)} (h : Kd.C (Kd.slice 3 (Kd.int .i64)) w A n xs) (i : Int) (h0 : 0 ≤ i) (h1 : i < n) : ∃ ad A0 c0, A = some ad ∧ w.cell? (ad.add i.toNat) = some (.slice A0 (rd_L3 xs i).length c0) ∧ (rd_L3 xs i).length ≤ c0 ∧ (Kd.int .i64).C w A0 (rd_L3 xs i).length (rd_L3 xs i) := by
 obtain ⟨ad, c, e, _, hK, hc0⟩ := Kd.C_get h ([] : List Int) i h0 h1
 have hc : ∀ j u, c[j]? = some u → w.cell? (ad.add (i.toNat * 1 + j)) = some u := hc0
 obtain ⟨A0, c0, rfl, l0, g0⟩ := hK
 exact ⟨ad, A0, c0, e, by have hq := hc 0 _ rfl; rwa [Nat.mul_one, Nat.add_zero] at hq, l0, g0⟩

def rd_L4 (xs : List (List (List Int))) (i : Int) : (List (List Int)) := xs.getD i.toNat ([] : List (List Int))
theorem at_L4 {w : World} {A : Option Addr} {n : Nat} {xs : List (List (List Int))} (h : Kd.C (Kd.slice 25 (Kd.slice 3 (Kd.int .i64))) w A n xs) (i : Int) (h0 : 0 ≤ i) (h1 : i < n) : ∃ ad A0 c0, A = some ad ∧ w.cell? (ad.add i.toNat) = some (.slice A0 (rd_L4 xs i).length c0) ∧ (rd_L4 xs i).length ≤ c0 ∧ (Kd.slice 3 (Kd.int .i64)).C w A0 (rd_L4 xs i).length (rd_L4 xs i) := by
 obtain ⟨ad, c, e, _, hK, hc0⟩ := Kd.C_get h ([] : List (List Int)) i h0 h1
 have hc : ∀ j u, c[j]? = some u → w.cell? (ad.add (i.toNat * 1 + j)) = some u := hc0
 obtain ⟨A0, c0, rfl, l0, g0⟩ := hK
 exact ⟨ad, A0, c0, e, by have hq := hc 0 _ rfl; rwa [Nat.mul_one, Nat.add_zero] at hq, l0, g0⟩

end Go.Proofs.YthkdkgbcokpbaacGreatDoor.PFnNecklacesShared
