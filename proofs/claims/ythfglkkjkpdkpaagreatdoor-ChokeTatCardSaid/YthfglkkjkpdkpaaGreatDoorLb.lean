import Derived.Test.YthfglkkjkpdkpaaGreatDoorLa
set_option linter.unusedSimpArgs false
set_option linter.unusedVariables false
namespace Go.Proofs.YthfglkkjkpdkpaaGreatDoor
open Go.RowKit

theorem cl18 : callable Tryz.prog 18 = true := by kernel_rfl
theorem cl19 : callable Tryz.prog 19 = true := by kernel_rfl
theorem cl31 : callable Tryz.prog 31 = true := by kernel_rfl
theorem cl32 : callable Tryz.prog 32 = true := by kernel_rfl
theorem sz58 : szO Tryz.prog 58 = some 1 := by kernel_rfl
noncomputable def ids3 (l : List Rv) (slots : Int) : List Int := sortI (((sorted3 l).take (min (sorted3 l).length slots.toNat)).map Rv.id)
end Go.Proofs.YthfglkkjkpdkpaaGreatDoor
