import Derived.Test.YthfglkkjkpdkpaaGreatDoorGs
import Derived.LaidEqlPtr
set_option linter.unusedSimpArgs false
set_option linter.unusedVariables false
namespace Go.Proofs.YthfglkkjkpdkpaaGreatDoor
open Go.RowKit

/-! ## Two pointers compared; copy and store in a row -/
section
variable {P : Program} {N : Nat} {Q : Exit → Act → World → Prop} {f : Fr} {ds : List Deferred} {w w' : World} {o : Oper} {ops : Array Oper} {L : List Item} {K : Act → World → Prop}
/-- Maps by text. -/
abbrev okT : ByteArray → Prop := fun s => s.size ≤ 1048576
/-- How many keys a map has. -/
def KN {κ α : Type} (ok : κ → Prop) (M : κ → Option α) (n : Nat) : Prop := ∃ kv : List (κ × α), (kv.map Prod.fst).Nodup ∧ (∀ p : κ × α, p ∈ kv ↔ (ok p.1 ∧ M p.1 = some p.2)) ∧ n = kv.length
end
end Go.Proofs.YthfglkkjkpdkpaaGreatDoor
