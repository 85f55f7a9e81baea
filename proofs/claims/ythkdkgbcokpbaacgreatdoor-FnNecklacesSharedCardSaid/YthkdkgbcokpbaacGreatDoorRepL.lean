/- strings.Repeat of the shelf at this seat: what its contract asks beside the laying. -/
import Derived.Test.YthkdkgbcokpbaacGreatDoorProg
import Derived.Test.YthkdkgbcokpbaacGreatDoorShelf
import Derived.Shelf.Strings.Repeat
import Derived.KernelRfl
namespace Go.Proofs.YthkdkgbcokpbaacGreatDoorOwn
open Go.RowKit Go.Shelf
theorem repExtra : Builder.Extra Tryz.prog Tryz.lays105_ren where
  sizeBuilder := by kernel_rfl
  liesBuilder := by kernel_rfl
  t5 := Tryz.lays105.t5
  a5 := Tryz.lays105.a5
  z5 := Tryz.lays105.z5
  v5 := Tryz.lays105.v5
  infoByte := by kernel_rfl
  cellsByte := by kernel_rfl
  sizeByte := by kernel_rfl
  neB5 := by decide
end Go.Proofs.YthkdkgbcokpbaacGreatDoorOwn
