import Derived.Test.YtibdlnjnomikjaaGs
import Derived.LaidEqlPtr
set_option linter.unusedSimpArgs false
set_option linter.unusedVariables false
namespace Go.Proofs.Ytibdlnjnomikjaa
open Go.RowKit

/-! ## Two pointers compared; copy and store in a row -/
section
variable {P : Program} {N : Nat} {Q : Exit → Act → World → Prop} {f : Fr} {ds : List Deferred} {w w' : World} {o : Oper} {ops : Array Oper} {L : List Item} {K : Act → World → Prop}
theorem b_eqPtr {t te n g h : Nat} {xo yo : Operand} {ca cb : Array Value} {ta tb : TypeId} (hp : P.underlying t = some (.pointer te)) (hz : szO P te = some n) (hn : n ≠ 0)
    (ha : w.heap[g]? = some (.cells ca ta (0, 0))) (hb : w.heap[h]? = some (.cells cb tb (0, 0))) :
    Bin P .eql t xo yo (.pointer (some ⟨g, 0, none⟩)) (.pointer (some ⟨h, 0, none⟩)) w (.bool (decide (g = h))) := by
  obtain ⟨j, hj, hjz⟩ : ∃ j, P.info? te = some j ∧ j.size = n := by
    unfold szO at hz
    cases hi : P.info? te with
    | none => rw [hi] at hz; cases hz
    | some j => rw [hi] at hz; exact ⟨j, rfl, by simpa using hz⟩
  have hr : (binOp .eql t (.pointer (some ⟨g, 0, none⟩)) (.pointer (some ⟨h, 0, none⟩))).run P w = .ok (.bool (decide (g = h))) w := by
    by_cases e : g = h
    · subst e
      rw [decide_eq_true rfl]
      exact run_eql_ptr_same w _ hp hj
    · rw [decide_eq_false e]
      exact run_eql_ptr_other w hp hj (by rw [hjz]; exact hn) (fun q => e (by cases q; rfl)) ha hb
  unfold Bin
  rw [Sem.run_bind]
  show ((Result.ok () w).andThen _ : Result Value) = _
  simp only [Result.andThen_ok]
  exact hr
/-- Maps by text. -/
abbrev okT : ByteArray → Prop := fun s => s.size ≤ 1048576
theorem strTy {t k e : TypeId} (ht : P.underlying t = some (.map k e)) (hk : P.underlying k = some .string) : MapTy P t k e Value.string okT :=
  ⟨ht, Go.Maps.string_keyed hk, fun x hx => ⟨_, Go.WideMaps.keyOf_string_mk hk (Nat.le_trans hx (by decide))⟩, fun x y _ _ h => by cases h; rfl⟩
theorem S.famNew {α : Type} {e : TypeId} {enc : α → Array Value} {gs : List Nat} {tk : Nat → α} {x : Nat} {ob : Obj} {i j : Nat} (h : S w L) (hi : L[i]? = some (Ob x ob)) (hj : L[j]? = some (Fam e enc gs tk)) (hne : i ≠ j) : x ∉ gs := fun hx => pair_of h.2 hi hj hne x rfl hx
end
end Go.Proofs.Ytibdlnjnomikjaa
