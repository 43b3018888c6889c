import Derived.Test.YtdkfkdekiljcoaaR
import Derived.Test.YtdkfkdekiljcoaaS
import Derived.Test.YtdkfkdekiljcoaaT
set_option linter.unusedSimpArgs false
set_option linter.unusedVariables false
namespace Go.Proofs.Ytdkfkdekiljcoaa
open Go.RowKit

end Go.Proofs.Ytdkfkdekiljcoaa
