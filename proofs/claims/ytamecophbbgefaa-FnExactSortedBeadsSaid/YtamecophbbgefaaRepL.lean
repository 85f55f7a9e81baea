/- strings.Repeat of the shelf at this seat: what its contract asks beside the laying. -/
import Derived.Test.YtamecophbbgefaaProg
import Derived.Test.YtamecophbbgefaaShelf
import Derived.Shelf.Strings.Repeat
import Derived.KernelRfl
namespace Go.Proofs.YtamecophbbgefaaOwn
open Go.RowKit Go.Shelf
theorem repExtra : Builder.Extra Try.prog Try.lays105_ren where
  sizeBuilder := by kernel_rfl
  liesBuilder := by kernel_rfl
  t5 := Try.lays105.t5
  a5 := Try.lays105.a5
  z5 := Try.lays105.z5
  v5 := Try.lays105.v5
  infoByte := by kernel_rfl
  cellsByte := by kernel_rfl
  sizeByte := by kernel_rfl
  neB5 := by decide
end Go.Proofs.YtamecophbbgefaaOwn
