import Derived.Test.YthfglkkjkpdkpaaDoorSp
set_option linter.unusedSimpArgs false
set_option linter.unusedVariables false
namespace Go.Proofs.YthfglkkjkpdkpaaDoor
open Go.RowKit

/-! ## A range over a function: what the iterator asks is asked of the world; what the assignment makes is told -/
/-- The iterator's word. At each yield the world is the base, the iterator's memory (one item) and the caller's (one item); the caller gives the first two back as they were. -/
def IterW {α : Type} (n : Nat) (P : Program) (g : Nat) (lb : Array Value) (encs : α → Array Value) (base : Item) (Φ : List α → α → Item → Prop) (Ok : List α → World → Prop) (S' Sp : List α → Prop) (I0 : Item) : Prop :=
  ∀ (l : Nat) (J Jx : List α → Item → Prop) (W : World) (C : Item), (∀ pre C W, J pre C → C.ok W → Ok pre W) →
    (∀ pre x W1 I C, J pre C → Φ pre x I → S W1 [base, I, C] → YieldAt (WF none) (n - 1) P l (encs x) W1 fun e W' =>
      (e = .returned (.bool true) ∧ ∃ C', J (pre ++ [x]) C' ∧ S W' [base, I, C']) ∨ (e = .returned (.bool false) ∧ ∃ C', Jx (pre ++ [x]) C' ∧ S W' [base, I, C'])) →
    J [] C → S W [base, I0, C] →
    CallsIn (WF none) n P g (#[.func (.yield l) #[] #[]] ++ lb) W fun e W' => (∃ v, e = .returned v) ∧ ((∃ xs C, S' xs ∧ J xs C ∧ S W' [base, C]) ∨ (∃ pre C, Sp pre ∧ Jx pre C ∧ S W' [base, C]))
/-- What is asked behind the assignment. -/
def AssignW {ι : Type} (N : Nat) (FA : ι → Fr) (LA : ι → List Item) (L : List Item) (a : Act) (w : World) : Prop := ∃ i, Rds N a (FA i) [] ∧ S w (LA i ++ L)
section
variable {P : Program} {N : Nat} {Q : Exit → Act → World → Prop} {f : Fr} {ds : List Deferred} {w : World} {n : Nat} {ops : Array Oper} {rest : List Oper} {o : Oper} {L : List Item}
end
end Go.Proofs.YthfglkkjkpdkpaaDoor
