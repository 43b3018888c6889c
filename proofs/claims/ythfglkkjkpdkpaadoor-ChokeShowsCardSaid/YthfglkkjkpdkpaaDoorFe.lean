import Derived.Test.YthfglkkjkpdkpaaDoorFd
set_option linter.unusedSimpArgs false
set_option linter.unusedVariables false
namespace Go.Proofs.YthfglkkjkpdkpaaDoor
open Go.RowKit

/-! ## A function that defers and ranges over a function -/
/-- How a frame leaves: deferred functions and marks, in whatever order. -/
def LeavesW (P : Program) (fn : Func) (tmps : Array Value) (R : Ending → World → Prop) : List Deferred → FrameMode → World → Prop
  | [], u, w => Leaves P fn tmps R [] u w
  | d :: ds, u, w => u ≠ .run ∧
      ((∃ r w', d.target = .collected r ∧ (Instr.takeDeferred r).run P w = .ok [] w' ∧ LeavesW P fn tmps R ds u w') ∨
       (∃ fv cap f args, d.target = .fn fv cap ∧ (invoke d.target d.args).run P w = .ok (.enter f args) w ∧
        CallsD P f args u w fun
          | .returned _, u', w' => LeavesW P fn tmps R ds (settle u') w'
          | .panicked chain, u', w' => LeavesW P fn tmps R ds (raised u' chain) w'
          | .outgrown, _, w' => R .outgrown w'))
section
variable {P : Program}
def bodyPostW (P : Program) (fn : Func) (R : Ending → World → Prop) : Exit → Act → World → Prop
  | .normal, a, w | .ret, a, w => LeavesW P fn a.tmps R a.defers .returning w
  | .panic chain, a, w => LeavesW P fn a.tmps R a.defers (.panicking chain) w
  | .outgrown, _, w => R .outgrown w
  | _, _, _ => False
end
section
variable {P : Program} {N : Nat} {f : Fr} {ds : List Deferred} {w : World} {L : List Item}
/-- What is left of a body: the deferred calls and marks. -/
def GLW (N : Nat) (P : Program) (fn : Func) (R : Ending → World → Prop) (f : Fr) (ds : List Deferred) (u : FrameMode) (w : World) : Prop := ∀ a, Rds N a f a.defers → LeavesW P fn a.tmps R ds u w
end
end Go.Proofs.YthfglkkjkpdkpaaDoor
