import Derived.Test.YthfglkkjkpdkpaaDoorFj
import Derived.Test.YthfglkkjkpdkpaaDoorSo
set_option linter.unusedSimpArgs false
set_option linter.unusedVariables false
namespace Go.Proofs.YthfglkkjkpdkpaaDoor
open Go.RowKit

/-! ## Rows of values, and functions that compare -/
/-- The cells of a row. -/
def mV {β : Type} (ev : β → Value) (l : List β) : List Value := l.flatMap fun x => (ev x).cells.toList
/-- A function value that compares: what it returns; X is what it reads. -/
structure Cmps (P : Program) (g : Nat) (fi ca : Array Value) (X : Item) {β : Type} (ev : β → Value) (c : β → β → Int) (l : List β) : Prop where
  ok : callable P g = true
  does : ∀ x ∈ l, ∀ y ∈ l, ∀ w, S w [X] → Calls P g (fi.toList ++ [ev x, ev y] ++ ca.toList).toArray w fun e w' => e = .returned (.int .i64 (c x y)) ∧ S w' ([X] ++ [Old w (fps [X])])
end Go.Proofs.YthfglkkjkpdkpaaDoor
