import Derived.Test.YtpbjekdjebjbkaaGreatGl
import Derived.Lib.AppendZeros
set_option linter.unusedSimpArgs false
set_option linter.unusedVariables false
namespace Go.Proofs.YtpbjekdjebjbkaaGreat
open Go.RowKit

/-! ## append([]T(nil), make([]T, n)...): a row with room, of which nothing is used yet -/
section
variable {P : Program} {N : Nat} {Q : Exit → Act → World → Prop} {f : Fr} {ds : List Deferred} {w w' : World} {o : Oper} {ops : Array Oper} {L : List Item} {K : Act → World → Prop}
end
end Go.Proofs.YtpbjekdjebjbkaaGreat
