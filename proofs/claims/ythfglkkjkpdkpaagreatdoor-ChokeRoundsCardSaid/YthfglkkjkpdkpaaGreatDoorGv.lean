import Derived.Test.YthfglkkjkpdkpaaGreatDoorGt
set_option linter.unusedSimpArgs false
set_option linter.unusedVariables false
namespace Go.Proofs.YthfglkkjkpdkpaaGreatDoor
open Go.RowKit

/-! ## Maps that are nil; a family of maps -/
section
variable {P : Program} {N : Nat} {Q : Exit → Act → World → Prop} {f : Fr} {ds : List Deferred} {w w' : World} {o : Oper} {ops : Array Oper} {L : List Item} {K : Act → World → Prop}
variable {κ α : Type} {ek : κ → Value} {va : α → Value} {ok : κ → Prop} {M : κ → Option α}
/-- Maps of one kind, each in a block of its own. -/
def FamM (ek : κ → Value) (va : α → Value) (ok : κ → Prop) (ms : List Nat) (ct : Nat → κ → Option α) : Item := Big (ms.map fun x => Mp ek va ok x (ct x))
variable {ms : List Nat} {ct : Nat → κ → Option α}
end
end Go.Proofs.YthfglkkjkpdkpaaGreatDoor
