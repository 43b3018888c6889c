/- A slice of texts: what an argument of its type holds. -/
import Derived.Test.YtlajgickimgigaaGreatFrame
import Derived.Test.YtlajgickimgigaaGreatTG
import Derived.Deep.Slices
set_option linter.unusedSimpArgs false
set_option linter.unusedVariables false
namespace Go.Proofs.YtlajgickimgigaaGreat
open Go.ChangeShapes Go.WideShapes Go.ChangeAt Go.RowKit Go.Joins Go.Deep

section
variable {H : Type} {enc : TypeId × Value → H} {w : World} {base : Nat} {spare : Nat → Bool} {held : Bool}
theorem reads_nil {w : World} {size : Nat} : Reads w none 0 0 size [] := ⟨by simp, Nat.le_refl _, fun h => absurd h (Nat.lt_irrefl _)⟩
set_option maxRecDepth 100000 in
/-- A slice of texts that came in. -/
theorem open_strs {v : Value} {d : DataW H} {ps : List MemPlace} {b0 : Nat} (hv : Value.okWide Tryz.prog w .any b0 22 v) (h : DataW.Trod enc Tryz.prog w base spare held 22 v d ps) :
    ∃ (p : Option Addr) (n c : Nat) (l : List ByteArray), v = .slice p n c ∧ n = l.length ∧ n ≤ 9223372036854775807 ∧ Reads w p n c 1 (stV l) := by
  obtain ⟨fuel, hf⟩ := h
  obtain ⟨p, n, c, rfl⟩ : ∃ p n c, v = .slice p n c := okWide_slice Tryz.underlying22 hv
  have hC : Tryz.prog.cellsOf 9 = 1 := by kernel_rfl
  rcases open_slice Tryz.underlying22 hf with ⟨h1, _⟩ | ⟨a, len, cap, m, k, D, Pl, h1, _, hl, hm, hmm, _, hx⟩
  · simp only [Value.cells, List.cons.injEq, Value.slice.injEq, and_true] at h1
    obtain ⟨rfl, rfl, rfl⟩ := h1
    exact ⟨none, 0, 0, [], rfl, rfl, by omega, reads_nil⟩
  · simp only [Value.cells, List.cons.injEq, Value.slice.injEq, and_true] at h1
    obtain ⟨rfl, rfl, rfl⟩ := h1
    have hlm : n ≤ m := by rw [hmm]; split <;> omega
    rw [hC] at hx
    have : Inhabited ByteArray := ⟨⟨#[]⟩⟩
    obtain ⟨f, hf⟩ := choose_lt (α := ByteArray) (n := n) (p := fun i x => w.cell? (a.add i) = some (.string x)) (fun i hi => by
      obtain ⟨cs', q1, q2⟩ := hx i (by omega)
      obtain ⟨_, hlen, hcell⟩ := World.cells?_some q1
      match cs', hlen with
      | [v0], _ =>
        obtain ⟨s, e, _⟩ := DataW.trod_string Tryz.underlying9 q2
        simp only [List.cons.injEq, and_true] at e
        subst e
        refine ⟨s, ?_⟩
        have := hcell 0 (by omega)
        rw [addr_add, Nat.add_zero, Nat.mul_one] at this
        rw [this]; rfl)
    refine ⟨some a, n, c, (List.range n).map f, rfl, by simp, by unfold maxLen at hm; omega, ?_, hl, fun hn => ⟨a, rfl, fun j u hu => ?_⟩⟩
    · rw [stV_len]; simp
    · unfold stV at hu
      rw [List.getElem?_map, List.getElem?_map] at hu
      have hj : j < n := by
        rcases Nat.lt_or_ge j n with h | h
        · exact h
        · rw [List.getElem?_eq_none (by simpa using h)] at hu; cases hu
      rw [List.getElem?_range hj] at hu
      simp only [Option.map_some, Option.some.injEq] at hu
      rw [← hu]; exact hf j hj
end
end Go.Proofs.YtlajgickimgigaaGreat
