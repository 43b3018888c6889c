import Derived.Test.YtibdlnjnomikjaaUr
import Derived.Test.YtibdlnjnomikjaaOp
import Derived.Deep.Slices
/- What the acts hold. -/
set_option linter.unusedSimpArgs false
set_option linter.unusedVariables false
namespace Go.Proofs.Ytibdlnjnomikjaa
open Go.ChangeShapes Go.WideShapes Go.ChangeAt Go.RowKit Go.Joins Go.Deep

section
variable {H : Type} {enc : TypeId × Value → H} {w : World} {base : Nat} {spare : Nat → Bool} {held : Bool}
theorem flat_get {α : Type} {f : α → List Value} {size : Nat} : ∀ {l : List α} {j : Nat} {u : Value}, (∀ a ∈ l, (f a).length = size) → (l.flatMap f)[j]? = some u → ∃ i k a, i < l.length ∧ l[i]? = some a ∧ j = i * size + k ∧ k < size ∧ (f a)[k]? = some u
  | [], j, u, _, h => by simp at h
  | a :: l, j, u, hs, h => by
    have ha := hs a (List.mem_cons_self ..)
    rw [List.flatMap_cons, List.getElem?_append] at h
    split at h
    · rename_i hj
      exact ⟨0, j, a, by simp, rfl, by omega, by omega, h⟩
    · rename_i hj
      obtain ⟨i, k, b, h1, h2, h3, h4, h5⟩ := flat_get (fun b hb => hs b (List.mem_cons_of_mem _ hb)) h
      refine ⟨i + 1, k, b, by simp; omega, by simpa using h2, ?_, h4, h5⟩
      rw [Nat.add_mul]; omega
theorem cells_3 {fuel : Nat} {cs : List Value} {x : DataW H × List MemPlace} (h : DataW.trod enc Try.prog w base spare held fuel 3 cs = some x) (hl : cs.length = 1) : ∃ (x0 : Int), cs = [.int .i64 x0] := by
  obtain ⟨a, e, _⟩ := DataW.trod_int Try.underlying3 h
  exact ⟨a, e⟩
theorem cells_9 {fuel : Nat} {cs : List Value} {x : DataW H × List MemPlace} (h : DataW.trod enc Try.prog w base spare held fuel 9 cs = some x) (hl : cs.length = 1) : ∃ (x0 : ByteArray), cs = [.string x0] := by
  obtain ⟨a, e, _⟩ := DataW.trod_string Try.underlying9 h
  exact ⟨a, e⟩
set_option maxRecDepth 100000 in
theorem cells_52 {fuel : Nat} {cs : List Value} {x : DataW H × List MemPlace} (h : DataW.trod enc Try.prog w base spare held fuel 52 cs = some x) (hl : cs.length = 5) : ∃ (x0 : Int) (x1 : Int) (x2 : Int) (x3 : Int) (x4 : ByteArray), cs = [.int .i64 x0, .int .i64 x1, .int .i64 x2, .int .i64 x3, .string x4] := by
  obtain ⟨xs, k, _, hx, _, hlen, hg⟩ := DataW.trod_struct Try.underlying52 h
  match cs, hl with
  | [v0, v1, v2, v3, v4], _ =>
    match xs, hlen with
    | [y0, y1, y2, y3, y4], _ =>
      have hc0 : Try.prog.cellsOf 3 = 1 := by kernel_rfl
      have g0 : DataW.trod enc Try.prog w base spare held k 3 [v0] = some y0 := by simpa [hc0] using hg 0 _ rfl
      obtain ⟨a0, e0⟩ := cells_3 g0 rfl
      have hc1 : Try.prog.cellsOf 3 = 1 := by kernel_rfl
      have g1 : DataW.trod enc Try.prog w base spare held k 3 [v1] = some y1 := by simpa [hc1] using hg 1 _ rfl
      obtain ⟨a1, e1⟩ := cells_3 g1 rfl
      have hc2 : Try.prog.cellsOf 3 = 1 := by kernel_rfl
      have g2 : DataW.trod enc Try.prog w base spare held k 3 [v2] = some y2 := by simpa [hc2] using hg 2 _ rfl
      obtain ⟨a2, e2⟩ := cells_3 g2 rfl
      have hc3 : Try.prog.cellsOf 3 = 1 := by kernel_rfl
      have g3 : DataW.trod enc Try.prog w base spare held k 3 [v3] = some y3 := by simpa [hc3] using hg 3 _ rfl
      obtain ⟨a3, e3⟩ := cells_3 g3 rfl
      have hc4 : Try.prog.cellsOf 9 = 1 := by kernel_rfl
      have g4 : DataW.trod enc Try.prog w base spare held k 9 [v4] = some y4 := by simpa [hc4] using hg 4 _ rfl
      obtain ⟨a4, e4⟩ := cells_9 g4 rfl
      simp only [List.cons.injEq, and_true] at e0 e1 e2 e3 e4
      subst e0
      subst e1
      subst e2
      subst e3
      subst e4
      exact ⟨a0, a1, a2, a3, a4, rfl⟩
set_option maxRecDepth 100000 in
theorem open_acts {v : Value} {d : DataW H} {ps : List MemPlace} {b0 : Nat} (hv : Value.okWide Try.prog w .any b0 47 v) (h : DataW.Trod enc Try.prog w base spare held 47 v d ps) :
    ∃ (p : Option Addr) (c : Nat) (l : List (Act)), v = .slice p l.length c ∧ l.length ≤ 9223372036854775807 ∧ Reads w p l.length c 5 (actsV l) := by
  obtain ⟨fuel, hf⟩ := h
  obtain ⟨p, n, c, rfl⟩ : ∃ p n c, v = .slice p n c := okWide_slice Try.underlying47 hv
  have hC : Try.prog.cellsOf 52 = 5 := by kernel_rfl
  rcases open_slice Try.underlying47 hf with ⟨h1, _⟩ | ⟨a, len, cap, m, k, D, Pl, h1, _, hl, hm, hmm, _, hx⟩
  · simp only [Value.cells, List.cons.injEq, Value.slice.injEq, and_true] at h1
    obtain ⟨rfl, rfl, rfl⟩ := h1
    exact ⟨none, 0, [], rfl, Nat.zero_le _, ⟨rfl, Nat.le_refl _, fun h => absurd h (Nat.lt_irrefl _)⟩⟩
  · simp only [Value.cells, List.cons.injEq, Value.slice.injEq, and_true] at h1
    obtain ⟨rfl, rfl, rfl⟩ := h1
    have hlm : n ≤ m := by rw [hmm]; split <;> omega
    rw [hC] at hx
    have : Inhabited (Act) := ⟨(⟨0, 0, 0, 0, ⟨#[]⟩⟩ : Act)⟩
    obtain ⟨f, hf⟩ := choose_lt (α := Act) (n := n) (p := fun i x => ∀ (j : Nat) (u : Value), (actL x)[j]? = some u → w.cell? (a.add (i * 5 + j)) = some u) (fun i hi => by
      obtain ⟨cs', q1, q2⟩ := hx i (by omega)
      obtain ⟨_, hlen, hcell⟩ := World.cells?_some q1
      obtain ⟨x0, x1, x2, x3, x4, ee⟩ := cells_52 q2 hlen
      subst ee
      refine ⟨⟨x0, x1, x2, x3, x4⟩, fun j u hu => ?_⟩
      have hj : j < 5 := (List.getElem?_eq_some_iff.1 hu).1
      have := hcell j hj
      rw [addr_add] at this
      rw [this]; exact hu)
    have hlen : ((List.range n).map f).length = n := by simp
    refine ⟨some a, c, (List.range n).map f, by rw [hlen], by rw [hlen]; unfold maxLen at hm; omega, ?_⟩
    rw [hlen]
    refine ⟨?_, hl, fun hn => ⟨a, rfl, fun j u hu => ?_⟩⟩
    · unfold actsV; rw [flat_length (size := 5) (fun _ _ => rfl), hlen]
    · obtain ⟨i, k, x, h1, h2, rfl, h4, h5⟩ := flat_get (size := 5) (fun _ _ => rfl) hu
      rw [hlen] at h1
      rw [List.getElem?_map, List.getElem?_range h1] at h2
      simp only [Option.map_some, Option.some.injEq] at h2
      rw [← h2] at h5
      exact hf i h1 k u h5
end
end Go.Proofs.Ytibdlnjnomikjaa
