/- A slice of numbers: what an argument of its type holds. -/
import Derived.Test.YtlajgickimgigaaFrame
import Derived.Test.YtlajgickimgigaaVK
import Derived.Deep.Slices
import Derived.ChangeSlices
set_option linter.unusedSimpArgs false
set_option linter.unusedVariables false
namespace Go.Proofs.Ytlajgickimgigaa
open Go.ChangeShapes Go.WideShapes Go.ChangeAt Go.RowKit Go.Joins Go.Deep

section
variable {H : Type} {enc : TypeId × Value → H} {w : World} {base : Nat} {spare : Nat → Bool} {held : Bool}
set_option maxRecDepth 100000 in
/-- A slice of numbers that came in. -/
theorem open_ord {v : Value} {d : DataW H} {ps : List MemPlace} {b0 : Nat} (hv : Value.okWide Try.prog w .any b0 54 v) (h : DataW.Trod enc Try.prog w base spare held 54 v d ps) :
    ∃ (p : Option Addr) (n c : Nat) (zs : List Int), v = .slice p n c ∧ n = zs.length ∧ Reads w p n c 1 (ordV zs) := by
  obtain ⟨fuel, hf⟩ := h
  obtain ⟨p, n, c, rfl⟩ : ∃ p n c, v = .slice p n c := okWide_slice Try.underlying54 hv
  rcases Go.ChangeShapes.open_ints Try.underlying54 Try.underlying3 (by kernel_rfl) hf with ⟨h1, _⟩ | ⟨a, len, cap, zs, h1, _, hl, hm, hlen, _, hc, _⟩
  · simp only [Value.cells, List.cons.injEq, Value.slice.injEq, and_true] at h1
    obtain ⟨rfl, rfl, rfl⟩ := h1
    exact ⟨none, 0, 0, [], rfl, rfl, by simp [ordV], Nat.le_refl _, fun h => absurd h (Nat.lt_irrefl _)⟩
  · simp only [Value.cells, List.cons.injEq, Value.slice.injEq, and_true] at h1
    obtain ⟨rfl, rfl, rfl⟩ := h1
    have hlm : n ≤ zs.length := by rw [hlen]; split <;> omega
    refine ⟨some a, n, c, zs.take n, rfl, by rw [List.length_take]; omega, ?_, hl, fun hn => ⟨a, rfl, fun j u hu => ?_⟩⟩
    · unfold ordV; rw [List.length_map, List.length_take]; omega
    · have hj : j < (zs.take n).length := by
        have := (List.getElem?_eq_some_iff.1 hu).1
        unfold ordV at this
        rwa [List.length_map] at this
      have h2 := ordV_at (os := zs.take n) (j := j) hj
      rw [Nat.mul_one, hu] at h2
      rw [List.length_take] at hj
      rw [hc j (by omega), h2]
      rw [List.getD_eq_getElem?_getD, List.getD_eq_getElem?_getD, List.getElem?_take, if_pos (by omega)]
end
end Go.Proofs.Ytlajgickimgigaa
