import Derived.Test.YtdkfkdekiljcoaaRK
set_option linter.unusedSimpArgs false
set_option linter.unusedVariables false
namespace Go.Proofs.Ytdkfkdekiljcoaa
open Go.RowKit

theorem cl5 : callable Try.prog 5 = true := by kernel_rfl
theorem cl6 : callable Try.prog 6 = true := by kernel_rfl
theorem cl9 : callable Try.prog 9 = true := by kernel_rfl
end Go.Proofs.Ytdkfkdekiljcoaa
