import Derived.Test.YthfglkkjkpdkpaaDoorFu
set_option linter.unusedSimpArgs false
set_option linter.unusedVariables false
namespace Go.Proofs.YthfglkkjkpdkpaaDoor
open Go.RowKit

/-! ## Function values out of walks -/
theorem FunC.ofBig {β : Type} {P : Program} {g : Nat} {fi ca : Array Value} {L : List Item} {av : β → List Value} {rv : β → Value} {D : β → Prop} (hg : callable P g = true) (h : ∀ b, D b → ∀ w, S w L → Calls P g (fi.toList ++ av b ++ ca.toList).toArray w fun e w' => e = .returned (rv b) ∧ S w' (L ++ [Old w (fps L)])) : FunC P g fi ca (Big L) av rv D := ⟨hg, fun b hb w HS => by
  have h2 : S w (L ++ []) := S.unbig HS
  rw [List.append_nil] at h2
  refine (h b hb w h2).mono ?_
  rintro e w' ⟨he, hs⟩
  refine ⟨he, ?_⟩
  have e2 : fps [Big L] = fps L := by
    funext k
    refine propext ⟨fun ⟨it, h1, h3⟩ => ?_, fun h => ⟨Big L, List.mem_singleton.2 rfl, h⟩⟩
    rw [List.mem_singleton] at h1; subst h1; exact h3
  rw [e2]
  exact S.big hs⟩
theorem FunC.pure {β : Type} {P : Program} {g : Nat} {fi ca : Array Value} {av : β → List Value} {rv : β → Value} {D : β → Prop} (hg : callable P g = true) (h : ∀ b, D b → ∀ w, Calls P g (fi.toList ++ av b ++ ca.toList).toArray w fun e w' => e = .returned (rv b) ∧ S w' [Old w no]) : FunC P g fi ca (Big []) av rv D :=
  FunC.ofBig hg fun b hb w _ => (h b hb w).mono fun e w' ⟨h1, h2⟩ => ⟨h1, by
    rw [show fps [] = no from funext fun k => propext ⟨fun ⟨it, h3, _⟩ => (List.not_mem_nil h3).elim, False.elim⟩]; exact h2⟩
end Go.Proofs.YthfglkkjkpdkpaaDoor
