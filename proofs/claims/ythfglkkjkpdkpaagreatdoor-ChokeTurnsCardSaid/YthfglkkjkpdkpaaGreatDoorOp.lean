import Derived.Test.YthfglkkjkpdkpaaGreatDoorFr
import Derived.Deep.Slices
set_option linter.unusedSimpArgs false
set_option linter.unusedVariables false
namespace Go.Proofs.YthfglkkjkpdkpaaGreatDoor
open Go.ChangeShapes Go.WideShapes Go.ChangeAt Go.RowKit Go.Joins Go.Deep

section
variable {H : Type} {enc : TypeId × Value → H} {P : Program} {w : World} {base : Nat} {spare : Nat → Bool} {held : Bool}
/-- A slice of things of one cell each. -/
theorem open_row {t e fuel : Nat} {α : Type} {F : α → Value} {Q : α → Prop} {v : Value} {y : DataW H × List MemPlace} (ht : P.underlying t = some (.slice e)) (hc : P.cellsOf e = 1)
    (hF : ∀ n v y, DataW.trod enc P w base spare held n e [v] = some y → ∃ x : α, v = F x ∧ Q x) (h : DataW.trod enc P w base spare held fuel t [v] = some y) :
    ∃ (p : Option Addr) (c : Nat) (l : List α), v = .slice p l.length c ∧ l.length ≤ 9223372036854775807 ∧ Reads w p l.length c 1 (l.map F) ∧ ∀ x ∈ l, Q x := by
  rcases open_slice1 ht hc h with ⟨h1, _⟩ | ⟨a, len, cap, m, n, V, D, Pl, h1, _, hl, hm, hmm, _, hx⟩
  · simp only [List.cons.injEq, and_true] at h1
    subst h1
    exact ⟨none, 0, [], rfl, by simp, ⟨by simp, Nat.le_refl _, fun h => absurd h (Nat.lt_irrefl _)⟩, fun x hx => by cases hx⟩
  · simp only [List.cons.injEq, and_true] at h1
    subst h1
    have hlm : len ≤ m := by rw [hmm]; split <;> omega
    rcases Nat.eq_zero_or_pos len with hz | hp
    · subst hz
      exact ⟨some a, cap, [], rfl, by simp, ⟨by simp, Nat.zero_le _, fun h => absurd h (Nat.lt_irrefl _)⟩, fun x hx => by cases hx⟩
    · obtain ⟨x0, _, _⟩ := hF _ _ _ (hx 0 (by omega)).2
      have : Inhabited α := ⟨x0⟩
      obtain ⟨f, hf⟩ := choose_lt (α := α) (n := len) (p := fun i x => w.cell? (a.add i) = some (F x) ∧ Q x) (fun i hi => by
        obtain ⟨q1, q2⟩ := hx i (by omega)
        obtain ⟨x, hx1, hx2⟩ := hF _ _ _ q2
        exact ⟨x, by rw [q1, hx1], hx2⟩)
      have hlen : ((List.range len).map f).length = len := by simp
      refine ⟨some a, cap, (List.range len).map f, by rw [hlen], by rw [hlen]; unfold maxLen at hm; omega, ?_, fun x hx => ?_⟩
      · rw [hlen]
        refine ⟨by simp, hl, fun _ => ⟨a, rfl, fun j u hu => ?_⟩⟩
        rw [List.getElem?_map, List.getElem?_map] at hu
        have hj : j < len := by
          rcases Nat.lt_or_ge j len with h | h
          · exact h
          · rw [List.getElem?_eq_none (by simpa using h)] at hu; cases hu
        rw [List.getElem?_range hj] at hu
        simp only [Option.map_some, Option.some.injEq] at hu
        rw [← hu]; exact (hf j hj).1
      · obtain ⟨i, hi, rfl⟩ := List.mem_map.1 hx
        exact (hf i (List.mem_range.1 hi)).2
theorem one_bool {t : Nat} (ht : P.underlying t = some .bool) : ∀ n v (y : DataW H × List MemPlace), DataW.trod enc P w base spare held n t [v] = some y → ∃ x : Bool, v = .bool x ∧ True := fun n v y h => by
  obtain ⟨s, e, _⟩ := DataW.trod_bool ht h
  simp only [List.cons.injEq, and_true] at e
  exact ⟨s, e, trivial⟩
theorem trod1 {t : Nat} {v : Value} {d : DataW H} {ps : List MemPlace} (hcells : v.cells = #[v]) (h : DataW.Trod enc P w base spare held t v d ps) : ∃ fuel, DataW.trod enc P w base spare held fuel t [v] = some (d, ps) := by
  obtain ⟨fuel, hf⟩ := h
  rw [hcells] at hf
  exact ⟨fuel, hf⟩
end
end Go.Proofs.YthfglkkjkpdkpaaGreatDoor
