/- The shelf's layings at this seat's dump. -/
import Derived.Shelf.Spec.TrailingZeros
import Derived.Ground.Names7Prog
import Derived.Ground.NamesProg
import Derived.Test.YtamecophbbgefabDoorProg
namespace Go.Proofs
open Go.Shelf
def Tryd.tzL_ren : Go.Shelf.Ren := ⟨fun | 27 => 26 | 28 => 35 | 29 => 36 | n => n, fun | 25 => 41 | 3 => 3 | 27 => 47 | 22 => 49 | 4 => 4 | 53 => 57 | 0 => 0 | 5 => 5 | 54 => 58 | n => n, fun | 0 => 0 | 1 => 1 | n => n⟩
theorem Tryd.tzL : Go.Proofs.Lays7.n27 Tryd.prog Tryd.tzL_ren := {
  mixed := by kernel_rfl
  f27 := Tryd.func26.trans (congrArg some (by kernel_rfl))
  f28 := Tryd.func35.trans (congrArg some (by kernel_rfl))
  f29 := Tryd.func36.trans (congrArg some (by kernel_rfl))
  t0 := Tryd.underlying0
  a0 := Tryd.isAgg0
  z0 := Tryd.sizeOf0
  v0 := Tryd.zeroValue0
  i0 := by kernel_rfl
  t3 := Tryd.underlying3
  a3 := Tryd.isAgg3
  z3 := Tryd.sizeOf3
  v3 := Tryd.zeroValue3
  i3 := by kernel_rfl
  t4 := Tryd.underlying4
  a4 := Tryd.isAgg4
  z4 := Tryd.sizeOf4
  v4 := Tryd.zeroValue4
  i4 := by kernel_rfl
  t5 := Tryd.underlying5
  a5 := Tryd.isAgg5
  z5 := Tryd.sizeOf5
  v5 := Tryd.zeroValue5
  i5 := by kernel_rfl
  t22 := Tryd.underlying49
  a22 := Tryd.isAgg49
  z22 := Tryd.sizeOf49
  v22 := Tryd.zeroValue49
  i22 := by kernel_rfl
  t25 := Tryd.underlying41
  a25 := Tryd.isAgg41
  z25 := Tryd.sizeOf41
  v25 := Tryd.zeroValue41
  i25 := by kernel_rfl
  t27 := Tryd.underlying47
  a27 := Tryd.isAgg47
  z27 := Tryd.sizeOf47
  v27 := Tryd.zeroValue47
  i27 := by kernel_rfl
  t53 := Tryd.underlying57
  a53 := Tryd.isAgg57
  z53 := Tryd.sizeOf57
  v53 := Tryd.zeroValue57
  i53 := by kernel_rfl
  t54 := Tryd.underlying58
  a54 := Tryd.isAgg58
  z54 := Tryd.sizeOf58
  g0 := by kernel_rfl
  g1 := by kernel_rfl }
end Go.Proofs
