import Derived.Test.YtlikhpfdncidkaaBn
import Derived.Test.YtlikhpfdncidkaaOp
import Derived.Deep.Slices
/- What the arguments of the laws hold. -/
set_option linter.unusedSimpArgs false
set_option linter.unusedVariables false
namespace Go.Proofs.Ytlikhpfdncidkaa
open Go.ChangeShapes Go.WideShapes Go.ChangeAt Go.RowKit Go.Joins Go.Deep

section
variable {H : Type} {enc : TypeId × Value → H} {w : World} {base : Nat} {spare : Nat → Bool} {held : Bool}
theorem flat_get {α : Type} {f : α → List Value} {size : Nat} : ∀ {l : List α} {j : Nat} {u : Value}, (∀ a ∈ l, (f a).length = size) → (l.flatMap f)[j]? = some u → ∃ i k a, i < l.length ∧ l[i]? = some a ∧ j = i * size + k ∧ k < size ∧ (f a)[k]? = some u
  | [], j, u, _, h => by simp at h
  | a :: l, j, u, hs, h => by
    have ha := hs a (List.mem_cons_self ..)
    rw [List.flatMap_cons, List.getElem?_append] at h
    split at h
    · rename_i hj
      exact ⟨0, j, a, by simp, rfl, by omega, by omega, h⟩
    · rename_i hj
      obtain ⟨i, k, b, h1, h2, h3, h4, h5⟩ := flat_get (fun b hb => hs b (List.mem_cons_of_mem _ hb)) h
      refine ⟨i + 1, k, b, by simp; omega, by simpa using h2, ?_, h4, h5⟩
      rw [Nat.add_mul]; omega
theorem cellw_3 {fuel : Nat} {cs : List Value} {x : DataW H × List MemPlace} (h : DataW.trod enc Try.prog w base spare held fuel 3 cs = some x) (hl : cs.length = 1) : ∃ (x0 : Int), cs = [.int .i64 x0] ∧ okI x0 := by
  obtain ⟨a, e, _, hw⟩ := DataW.trod_int Try.underlying3 h
  exact ⟨a, e, wf_okI hw⟩
set_option maxRecDepth 100000 in
theorem cellw_37 {fuel : Nat} {cs : List Value} {x : DataW H × List MemPlace} (h : DataW.trod enc Try.prog w base spare held fuel 37 cs = some x) (hl : cs.length = 3) : ∃ (x0 : Int) (x1 : Int) (x2 : Int), cs = [.int .i64 x0, .int .i64 x1, .int .i64 x2] ∧ okI x0 ∧ okI x1 ∧ okI x2 := by
  obtain ⟨xs, k, _, hx, _, hlen, hg⟩ := DataW.trod_struct Try.underlying37 h
  match cs, hl with
  | [v0, v1, v2], _ =>
    match xs, hlen with
    | [y0, y1, y2], _ =>
      have hc0 : Try.prog.cellsOf 3 = 1 := by kernel_rfl
      have g0 : DataW.trod enc Try.prog w base spare held k 3 [v0] = some y0 := by simpa [hc0] using hg 0 _ rfl
      obtain ⟨a0, e0, w0⟩ := cellw_3 g0 rfl
      have hc1 : Try.prog.cellsOf 3 = 1 := by kernel_rfl
      have g1 : DataW.trod enc Try.prog w base spare held k 3 [v1] = some y1 := by simpa [hc1] using hg 1 _ rfl
      obtain ⟨a1, e1, w1⟩ := cellw_3 g1 rfl
      have hc2 : Try.prog.cellsOf 3 = 1 := by kernel_rfl
      have g2 : DataW.trod enc Try.prog w base spare held k 3 [v2] = some y2 := by simpa [hc2] using hg 2 _ rfl
      obtain ⟨a2, e2, w2⟩ := cellw_3 g2 rfl
      simp only [List.cons.injEq, and_true] at e0 e1 e2
      subst e0
      subst e1
      subst e2
      exact ⟨a0, a1, a2, rfl, w0, w1, w2⟩
end
end Go.Proofs.Ytlikhpfdncidkaa
