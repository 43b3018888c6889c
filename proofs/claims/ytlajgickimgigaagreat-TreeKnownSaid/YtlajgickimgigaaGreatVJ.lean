import Derived.Test.YtlajgickimgigaaGreatVI
import Derived.Test.YtlajgickimgigaaGreatFg
set_option linter.unusedSimpArgs false
set_option linter.unusedVariables false
namespace Go.Proofs.YtlajgickimgigaaGreat
open Go.RowKit

/-! ## What is known behind runs of one node -/
theorem pathM_get (M0 : PM) (a b : Nat) (t0 : ByteArray) (u : List ByteArray) : ∀ s x y, pathM M0 a b t0 u s (x, y) =
    if a < x ∧ x ≤ a + s ∧ y = b / 2 ^ (x - a) then some (topS b t0 u (x - a)) else if a ≤ x ∧ x < a + s ∧ y = b / 2 ^ (x - a) ^^^ 1 then some (u.getD (x - a) ⟨#[]⟩) else M0 (x, y)
  | 0, x, y => by rw [if_neg (by omega), if_neg (by omega)]; rfl
  | s + 1, x, y => by
    show upM (upM (pathM M0 a b t0 u s) (a + s, b / 2 ^ s ^^^ 1) (u.getD s ⟨#[]⟩)) (a + s + 1, b / 2 ^ (s + 1)) (topS b t0 u (s + 1)) (x, y) = _
    unfold upM
    by_cases h1 : (x, y) = (a + s + 1, b / 2 ^ (s + 1))
    · rw [if_pos h1]
      simp only [Prod.mk.injEq] at h1
      have e : x - a = s + 1 := by omega
      rw [e, if_pos ⟨by omega, by omega, h1.2⟩]
    · rw [if_neg h1]
      simp only [Prod.mk.injEq] at h1
      by_cases h2 : (x, y) = (a + s, b / 2 ^ s ^^^ 1)
      · rw [if_pos h2]
        simp only [Prod.mk.injEq] at h2
        have e : x - a = s := by omega
        rw [e, if_neg (fun h => by
          have h3 := h.2.2
          rw [h2.2] at h3
          rcases sib_cases (b / 2 ^ s) with ⟨_, c⟩ | ⟨_, c⟩ <;> omega), if_pos ⟨by omega, by omega, h2.2⟩]
      · rw [if_neg h2, pathM_get M0 a b t0 u s x y]
        simp only [Prod.mk.injEq] at h2
        by_cases c1 : a < x ∧ x ≤ a + s ∧ y = b / 2 ^ (x - a)
        · rw [if_pos c1, if_pos ⟨c1.1, by omega, c1.2.2⟩]
        · have d1 : ¬ (a < x ∧ x ≤ a + (s + 1) ∧ y = b / 2 ^ (x - a)) := fun h => by
            by_cases e : x = a + s + 1
            · exact h1 ⟨e, by rw [show x - a = s + 1 from by omega] at h; exact h.2.2⟩
            · exact c1 ⟨h.1, by omega, h.2.2⟩
          rw [if_neg c1, if_neg d1]
          by_cases c2 : a ≤ x ∧ x < a + s ∧ y = b / 2 ^ (x - a) ^^^ 1
          · have d2 : a ≤ x ∧ x < a + (s + 1) ∧ y = b / 2 ^ (x - a) ^^^ 1 := ⟨c2.1, by omega, c2.2.2⟩
            rw [if_pos c2, if_pos d2]
          · have d2 : ¬ (a ≤ x ∧ x < a + (s + 1) ∧ y = b / 2 ^ (x - a) ^^^ 1) := fun h => by
              by_cases e : x = a + s
              · exact h2 ⟨e, by rw [show x - a = s from by omega] at h; exact h.2.2⟩
              · exact c2 ⟨h.1, by omega, h.2.2⟩
            rw [if_neg c2, if_neg d2]
/-- What is known is right. -/
def Right (l : List ByteArray) (M : PM) : Prop := ∀ x y s, x ≤ tallN l.length → y < 2 ^ (tallN l.length - x) → M (x, y) = some s → s = nodeT l x y
theorem intV_at {l : List Nat} {j : Nat} (h : j < l.length) : (intV l)[j * 1]? = some (.int .i64 ((l.getD j 0 : Nat) : Int)) := by
  unfold intV; rw [Nat.mul_one, List.getElem?_map, List.getD_eq_getElem?_getD, List.getElem?_eq_getElem h]; rfl
end Go.Proofs.YtlajgickimgigaaGreat
