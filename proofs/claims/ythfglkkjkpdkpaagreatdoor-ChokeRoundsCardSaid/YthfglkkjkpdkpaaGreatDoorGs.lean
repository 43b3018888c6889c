import Derived.Test.YthfglkkjkpdkpaaGreatDoorGr
set_option linter.unusedSimpArgs false
set_option linter.unusedVariables false
namespace Go.Proofs.YthfglkkjkpdkpaaGreatDoor
open Go.RowKit

/-! ## A family of blocks of one kind -/
def upd {α : Type} (tk : Nat → α) (x : Nat) (a : α) : Nat → α := fun y => if y = x then a else tk y
def Fam {α : Type} (e : TypeId) (enc : α → Array Value) (gs : List Nat) (tk : Nat → α) : Item :=
  ⟨fun g => g ∈ gs, fun w => gs.Nodup ∧ ∀ x ∈ gs, w.heap[x]? = some (.cells (enc (tk x)) e (0, 0)), fun h k => ⟨k.1, fun x hx => (h.block x hx).trans (k.2 x hx)⟩⟩
section
variable {P : Program} {N : Nat} {Q : Exit → Act → World → Prop} {f : Fr} {ds : List Deferred} {w w' : World} {o : Oper} {ops : Array Oper} {L : List Item} {K : Act → World → Prop}
variable {α : Type} {e : TypeId} {enc : α → Array Value} {gs : List Nat} {tk : Nat → α}
/-! a row of rows is opened, and shut -/
end
end Go.Proofs.YthfglkkjkpdkpaaGreatDoor
