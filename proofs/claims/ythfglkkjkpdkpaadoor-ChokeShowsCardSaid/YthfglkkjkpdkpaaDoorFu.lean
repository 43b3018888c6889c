import Derived.Test.YthfglkkjkpdkpaaDoorGl
import Derived.Test.YthfglkkjkpdkpaaDoorSp
set_option linter.unusedSimpArgs false
set_option linter.unusedVariables false
namespace Go.Proofs.YthfglkkjkpdkpaaDoor
open Go.RowKit

/-! ## Function values by contract; slices that lie apart from what a function value holds -/
structure FunC {β : Type} (P : Program) (g : Nat) (fi ca : Array Value) (X : Item) (av : β → List Value) (rv : β → Value) (D : β → Prop) : Prop where
  ok : callable P g = true
  does : ∀ b, D b → ∀ w, S w [X] → Calls P g (fi.toList ++ av b ++ ca.toList).toArray w fun e w' => e = .returned (rv b) ∧ S w' ([X] ++ [Old w (fps [X])])
theorem FunC.imp {β : Type} {P : Program} {g : Nat} {fi ca : Array Value} {X : Item} {av : β → List Value} {rv : β → Value} {D D' : β → Prop} (h : FunC P g fi ca X av rv D) (hd : ∀ b, D' b → D b) : FunC P g fi ca X av rv D' := ⟨h.ok, fun b hb => h.does b (hd b hb)⟩
theorem FunC.out {β : Type} {P : Program} {g : Nat} {fi ca : Array Value} {X : Item} {av : β → List Value} {rv rv' : β → Value} {D : β → Prop} (h : FunC P g fi ca X av rv D) (hr : ∀ b, D b → rv b = rv' b) : FunC P g fi ca X av rv' D := ⟨h.ok, fun b hb w hS => (h.does b hb w hS).mono fun e w' ⟨he, hw⟩ => ⟨by rw [he, hr b hb], hw⟩⟩
/-- What is read there stays to be read, whatever is done to X. -/
def Apart (w : World) (X : Item) (p : Option Addr) (n c size : Nat) (xs : List Value) : Prop := ∀ w', S w' [X, Old w (fps [X])] → Reads w' p n c size xs
section
variable {w w0 w1 : World} {L : List Item} {k i n c size e : Nat} {p : Option Addr} {xs : List Value} {N : Nat → Prop} {X : Item}
theorem fps_one {g : Nat} : fps [X] g ↔ X.fp g := ⟨fun ⟨it, h1, h2⟩ => by rw [List.mem_singleton] at h1; subst h1; exact h2, fun h => ⟨X, List.mem_singleton.2 rfl, h⟩⟩
theorem S.exReads (h : S w L) (hk : L[k]? = some (Old w0 N)) (hr : Reads w0 p n c size xs) (hx : 0 < n → ∀ a, p = some a → ¬ N a.block) : Reads w p n c size xs := by
  obtain ⟨k1, k2, k3⟩ := hr
  refine ⟨k1, k2, fun hn => ?_⟩
  obtain ⟨a, rfl, hc⟩ := k3 hn
  refine ⟨a, rfl, fun j u hu => h.oldCell hk (hc j u hu) ?_⟩
  have := hx hn a rfl
  unfold Addr.add; split <;> exact this
theorem S.apartRw (h : S w L) (hi : L[i]? = some (Rw e size p n c xs)) (hk : L[k]? = some X) (hne : i ≠ k) : Apart w X p n c size xs := fun w' h' => h'.exReads (k := 1) rfl (h.rwReads hi) fun hn a ha hf => by
  replace hf := fps_one.1 hf
  obtain ⟨k1, k2, k3, k4⟩ := h.rw hi
  rcases k4 with ⟨h1, _, _⟩ | ⟨g, o, cur, h1, _, _, _⟩
  · rw [h1] at ha; cases ha
  · rw [h1] at ha; cases ha
    exact pair_of h.2 hi hk hne g ⟨o, h1⟩ hf
end
/-! indexes -/
def ixI {α : Type} (q : α → Bool) (l : List α) : Int := if l.any q then (l.findIdx q : Int) else -1
/-! what is taken out -/
def keepS {α : Type} (q : α → Bool) (l : List α) : List α := l.filter fun x => !q x
end Go.Proofs.YthfglkkjkpdkpaaDoor
