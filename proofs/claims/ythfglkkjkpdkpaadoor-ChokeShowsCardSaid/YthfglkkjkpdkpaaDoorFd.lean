import Derived.Test.YthfglkkjkpdkpaaDoorFc
set_option linter.unusedSimpArgs false
set_option linter.unusedVariables false
namespace Go.Proofs.YthfglkkjkpdkpaaDoor
open Go.RowKit

/-! ## A range over a function that is left by a jump -/
def RoundX {α : Type} (b : Nat) (J Jx : List α → List Item → Prop) (base I K : Item) (xs : List α) : Exit → Act → World → Prop
  | .normal, _, W => ∃ Lx, J xs Lx ∧ S W (base :: I :: K :: Lx)
  | .exit b', _, W => b' = b ∧ ∃ Lx, Jx xs Lx ∧ S W (base :: I :: K :: Lx)
  | _, _, _ => False
section
variable {P : Program} {N : Nat} {Q : Exit → Act → World → Prop} {f : Fr} {ds : List Deferred} {w : World} {n : Nat} {ops : Array Oper} {rest : List Oper} {o : Oper} {L : List Item}
end
end Go.Proofs.YthfglkkjkpdkpaaDoor
