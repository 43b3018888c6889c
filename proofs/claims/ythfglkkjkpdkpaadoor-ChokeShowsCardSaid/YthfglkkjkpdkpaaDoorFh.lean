import Derived.Test.YthfglkkjkpdkpaaDoorFf
import Derived.Laws.Externs
set_option linter.unusedSimpArgs false
set_option linter.unusedVariables false
namespace Go.Proofs.YthfglkkjkpdkpaaDoor
open Go.RowKit

/-! ## Functions without a body; the copy of a map -/
section
variable {P : Program} {N : Nat} {Q : Exit → Act → World → Prop} {f : Fr} {ds : List Deferred} {w w' : World} {o : Oper} {ops : Array Oper} {L : List Item} {K : Act → World → Prop}
variable {κ α : Type} {ek : κ → Value} {va : α → Value} {ok : κ → Prop} {M : κ → Option α}
end
end Go.Proofs.YthfglkkjkpdkpaaDoor
