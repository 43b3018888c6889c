import Derived.Test.YthfglkkjkpdkpaaGreatDoorH0
set_option linter.unusedSimpArgs false
set_option linter.unusedVariables false
namespace Go.Proofs.YthfglkkjkpdkpaaGreatDoor
open Go.RowKit

theorem inf5 : infO Tryz.prog 5 = some (some (.int .u8 0), 1, 1) := by kernel_rfl
theorem sz5 : szO Tryz.prog 5 = some 1 := by kernel_rfl
/-- A number in eight bytes, from the back: i are laid. -/
def eR (h i : Nat) : List Nat := (List.range 8).map (fun p => if 8 - i ≤ p then h / 256 ^ (7 - p) % 256 else 0)
end Go.Proofs.YthfglkkjkpdkpaaGreatDoor
