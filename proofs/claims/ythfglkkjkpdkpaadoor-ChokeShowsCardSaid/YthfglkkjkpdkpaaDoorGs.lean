import Derived.Test.YthfglkkjkpdkpaaDoorGr
set_option linter.unusedSimpArgs false
set_option linter.unusedVariables false
namespace Go.Proofs.YthfglkkjkpdkpaaDoor
open Go.RowKit

/-! ## A family of blocks of one kind -/
def upd {α : Type} (tk : Nat → α) (x : Nat) (a : α) : Nat → α := fun y => if y = x then a else tk y
def Fam {α : Type} (e : TypeId) (enc : α → Array Value) (gs : List Nat) (tk : Nat → α) : Item :=
  ⟨fun g => g ∈ gs, fun w => gs.Nodup ∧ ∀ x ∈ gs, w.heap[x]? = some (.cells (enc (tk x)) e (0, 0)), fun h k => ⟨k.1, fun x hx => (h.block x hx).trans (k.2 x hx)⟩⟩
section
variable {P : Program} {N : Nat} {Q : Exit → Act → World → Prop} {f : Fr} {ds : List Deferred} {w w' : World} {o : Oper} {ops : Array Oper} {L : List Item} {K : Act → World → Prop}
variable {α : Type} {e : TypeId} {enc : α → Array Value} {gs : List Nat} {tk : Nat → α}
/-! a row of rows is opened, and shut -/
theorem perm_erase {β : Type} : ∀ {l : List β} {j : Nat} {r : β}, l[j]? = some r → l.Perm (r :: l.eraseIdx j)
  | [], j, r, h => by cases h
  | a :: l, 0, r, h => by cases h; exact .refl _
  | a :: l, j + 1, r, h => by
    rw [List.getElem?_cons_succ] at h
    exact ((perm_erase h).cons a).trans (List.Perm.swap ..)
end
end Go.Proofs.YthfglkkjkpdkpaaDoor
