import Derived.Test.YthfglkkjkpdkpaaKa
import Derived.Test.YthfglkkjkpdkpaaMj
import Derived.Test.YthfglkkjkpdkpaaOp
import Derived.Deep.Slices
/- What the arguments of the laws hold. -/
set_option linter.unusedSimpArgs false
set_option linter.unusedVariables false
namespace Go.Proofs.Ythfglkkjkpdkpaa
open Go.ChangeShapes Go.WideShapes Go.ChangeAt Go.RowKit Go.Joins Go.Deep

def rvsV (l : List Rv) : List Value := l.flatMap rvL
section
variable {H : Type} {enc : TypeId × Value → H} {w : World} {base : Nat} {spare : Nat → Bool} {held : Bool}
theorem flat_get {α : Type} {f : α → List Value} {size : Nat} : ∀ {l : List α} {j : Nat} {u : Value}, (∀ a ∈ l, (f a).length = size) → (l.flatMap f)[j]? = some u → ∃ i k a, i < l.length ∧ l[i]? = some a ∧ j = i * size + k ∧ k < size ∧ (f a)[k]? = some u
  | [], j, u, _, h => by simp at h
  | a :: l, j, u, hs, h => by
    have ha := hs a (List.mem_cons_self ..)
    rw [List.flatMap_cons, List.getElem?_append] at h
    split at h
    · rename_i hj
      exact ⟨0, j, a, by simp, rfl, by omega, by omega, h⟩
    · rename_i hj
      obtain ⟨i, k, b, h1, h2, h3, h4, h5⟩ := flat_get (fun b hb => hs b (List.mem_cons_of_mem _ hb)) h
      refine ⟨i + 1, k, b, by simp; omega, by simpa using h2, ?_, h4, h5⟩
      rw [Nat.add_mul]; omega
theorem one_intw {P : Program} {t : Nat} (ht : P.underlying t = some (.int .i64)) : ∀ n v (y : DataW H × List MemPlace), DataW.trod enc P w base spare held n t [v] = some y → ∃ x : Int, v = .int .i64 x ∧ okI x := fun n v y h => by
  obtain ⟨s, e, _, hw⟩ := DataW.trod_int ht h
  simp only [List.cons.injEq, and_true] at e
  exact ⟨s, e, wf_okI hw⟩
theorem cellw_3 {fuel : Nat} {cs : List Value} {x : DataW H × List MemPlace} (h : DataW.trod enc Try.prog w base spare held fuel 3 cs = some x) (hl : cs.length = 1) : ∃ (x0 : Int), cs = [.int .i64 x0] ∧ okI x0 := by
  obtain ⟨a, e, _, hw⟩ := DataW.trod_int Try.underlying3 h
  exact ⟨a, e, wf_okI hw⟩
theorem cellw_4 {fuel : Nat} {cs : List Value} {x : DataW H × List MemPlace} (h : DataW.trod enc Try.prog w base spare held fuel 4 cs = some x) (hl : cs.length = 1) : ∃ (x0 : Bool), cs = [.bool x0] ∧ True := by
  obtain ⟨a, e, _⟩ := DataW.trod_bool Try.underlying4 h
  exact ⟨a, e, trivial⟩
end
end Go.Proofs.Ythfglkkjkpdkpaa
