import Derived.Test.YtdkfkdekiljcoaaQ
set_option linter.unusedSimpArgs false
set_option linter.unusedVariables false
namespace Go.Proofs.Ytdkfkdekiljcoaa
open Go.RowKit
end Go.Proofs.Ytdkfkdekiljcoaa
