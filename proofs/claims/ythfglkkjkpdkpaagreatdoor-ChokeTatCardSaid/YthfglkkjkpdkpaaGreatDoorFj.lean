import Derived.Test.YthfglkkjkpdkpaaGreatDoorFi
set_option linter.unusedSimpArgs false
set_option linter.unusedVariables false
namespace Go.Proofs.YthfglkkjkpdkpaaGreatDoor
open Go.RowKit Go.Deep

/-! ## Bytes of a text as a block of one's own, and stores into it -/
section
variable {P : Program} {N : Nat} {Q : Exit → Act → World → Prop} {f : Fr} {ds : List Deferred} {w w' : World} {o : Oper} {ops : Array Oper} {L : List Item} {K : Act → World → Prop}
end
end Go.Proofs.YthfglkkjkpdkpaaGreatDoor
