/- A slice of messages: what an argument of its type holds. -/
import Derived.Test.YtcjmdkklbbollaaMsg
import Derived.Test.YtcjmdkklbbollaaAY
import Derived.Deep.Slices
set_option linter.unusedSimpArgs false
set_option linter.unusedVariables false
namespace Go.Proofs.Ytcjmdkklbbollaa
open Go.ChangeShapes Go.WideShapes Go.ChangeAt Go.RowKit Go.Joins Go.Deep

section
variable {H : Type} {enc : TypeId × Value → H} {w : World} {base : Nat} {spare : Nat → Bool} {held : Bool}
theorem cells8 {P : Program} {t : TypeId} {f0 f1 f2 f3 f4 f5 f6 f7 : Field} {fuel : Nat} {cs : List Value} {x : DataW H × List MemPlace} (hs : P.underlying t = some (.struct #[f0, f1, f2, f3, f4, f5, f6, f7])) (hone : oneCellFields P #[f0, f1, f2, f3, f4, f5, f6, f7] = true) (h : DataW.trod enc P w base spare held fuel t cs = some x) (hl : cs.length = 8) :
    ∃ (v0 v1 v2 v3 v4 v5 v6 v7 : Value) (y0 y1 y2 y3 y4 y5 y6 y7 : DataW H × List MemPlace) (k : Nat), cs = [v0, v1, v2, v3, v4, v5, v6, v7] ∧
      DataW.trod enc P w base spare held k f0.type [v0] = some y0 ∧ DataW.trod enc P w base spare held k f1.type [v1] = some y1 ∧ DataW.trod enc P w base spare held k f2.type [v2] = some y2 ∧ DataW.trod enc P w base spare held k f3.type [v3] = some y3 ∧ DataW.trod enc P w base spare held k f4.type [v4] = some y4 ∧ DataW.trod enc P w base spare held k f5.type [v5] = some y5 ∧ DataW.trod enc P w base spare held k f6.type [v6] = some y6 ∧ DataW.trod enc P w base spare held k f7.type [v7] = some y7 := by
  match cs, hl with
  | [c0, c1, c2, c3, c4, c5, c6, c7], _ =>
    obtain ⟨xs, k, _, hx, _, hlen, hg⟩ := DataW.trod_struct hs h
    obtain ⟨o0, k0⟩ := hone_of hone 0 f0 rfl
    obtain ⟨o1, k1⟩ := hone_of hone 1 f1 rfl
    obtain ⟨o2, k2⟩ := hone_of hone 2 f2 rfl
    obtain ⟨o3, k3⟩ := hone_of hone 3 f3 rfl
    obtain ⟨o4, k4⟩ := hone_of hone 4 f4 rfl
    obtain ⟨o5, k5⟩ := hone_of hone 5 f5 rfl
    obtain ⟨o6, k6⟩ := hone_of hone 6 f6 rfl
    obtain ⟨o7, k7⟩ := hone_of hone 7 f7 rfl
    match xs, hlen with
    | [y0, y1, y2, y3, y4, y5, y6, y7], _ =>
      exact ⟨c0, c1, c2, c3, c4, c5, c6, c7, y0, y1, y2, y3, y4, y5, y6, y7, k, rfl, by simpa [o0, k0] using hg 0 f0 rfl, by simpa [o1, k1] using hg 1 f1 rfl, by simpa [o2, k2] using hg 2 f2 rfl, by simpa [o3, k3] using hg 3 f3 rfl, by simpa [o4, k4] using hg 4 f4 rfl, by simpa [o5, k5] using hg 5 f5 rfl, by simpa [o6, k6] using hg 6 f6 rfl, by simpa [o7, k7] using hg 7 f7 rfl⟩
set_option maxRecDepth 100000 in
/-- The cells of a message. -/
theorem msg_cells {fuel : Nat} {cs : List Value} {x : DataW H × List MemPlace} (h : DataW.trod enc Try.prog w base spare held fuel 33 cs = some x) (hl : cs.length = 8) : ∃ m : M, cs = cellsL m := by
  obtain ⟨v0, v1, v2, v3, v4, v5, v6, v7, y0, y1, y2, y3, y4, y5, y6, y7, k, rfl, h0, h1, h2, h3, h4, h5, h6, h7⟩ := cells8 Try.underlying33 (by kernel_rfl) h hl
  obtain ⟨a0, e0, _⟩ := DataW.trod_int Try.underlying3 h0
  obtain ⟨a1, e1, _⟩ := DataW.trod_int Try.underlying3 h1
  obtain ⟨a2, e2, _⟩ := DataW.trod_int Try.underlying3 h2
  obtain ⟨a3, e3, _⟩ := DataW.trod_int Try.underlying3 h3
  obtain ⟨a4, e4, _⟩ := DataW.trod_int Try.underlying3 h4
  obtain ⟨a5, e5, _⟩ := DataW.trod_int Try.underlying3 h5
  obtain ⟨s6, e6, _⟩ := DataW.trod_string Try.underlying9 h6
  obtain ⟨s7, e7, _⟩ := DataW.trod_string Try.underlying9 h7
  simp only [List.cons.injEq, and_true] at e0 e1 e2 e3 e4 e5 e6 e7
  subst e0 e1 e2 e3 e4 e5 e6 e7
  exact ⟨⟨a0, a1, a2, a3, a4, a5, s6, s7⟩, rfl⟩
theorem reads_nil {w : World} {size : Nat} : Reads w none 0 0 size [] := ⟨by simp, Nat.le_refl _, fun h => absurd h (Nat.lt_irrefl _)⟩
theorem flat_get {α : Type} {f : α → List Value} {size : Nat} : ∀ {l : List α} {j : Nat} {u : Value}, (∀ a ∈ l, (f a).length = size) → (l.flatMap f)[j]? = some u → ∃ i k a, i < l.length ∧ l[i]? = some a ∧ j = i * size + k ∧ k < size ∧ (f a)[k]? = some u
  | [], j, u, _, h => by simp at h
  | a :: l, j, u, hs, h => by
    have ha := hs a (List.mem_cons_self ..)
    rw [List.flatMap_cons, List.getElem?_append] at h
    split at h
    · rename_i hj
      exact ⟨0, j, a, by simp, rfl, by omega, by omega, h⟩
    · rename_i hj
      obtain ⟨i, k, b, h1, h2, h3, h4, h5⟩ := flat_get (fun b hb => hs b (List.mem_cons_of_mem _ hb)) h
      refine ⟨i + 1, k, b, by simp; omega, by simpa using h2, ?_, h4, h5⟩
      rw [Nat.add_mul]; omega
set_option maxRecDepth 100000 in
/-- A slice of messages that came in. -/
theorem open_msgs {v : Value} {d : DataW H} {ps : List MemPlace} {b0 : Nat} (hv : Value.okWide Try.prog w .any b0 46 v) (h : DataW.Trod enc Try.prog w base spare held 46 v d ps) :
    ∃ (p : Option Addr) (n c : Nat) (l : List M), v = .slice p n c ∧ n = l.length ∧ n ≤ 9223372036854775807 ∧ Reads w p n c 8 (msgsV l) := by
  obtain ⟨fuel, hf⟩ := h
  obtain ⟨p, n, c, rfl⟩ : ∃ p n c, v = .slice p n c := okWide_slice Try.underlying46 hv
  have hC : Try.prog.cellsOf 33 = 8 := by kernel_rfl
  rcases open_slice Try.underlying46 hf with ⟨h1, _⟩ | ⟨a, len, cap, m, k, D, Pl, h1, _, hl, hm, hmm, _, hx⟩
  · simp only [Value.cells, List.cons.injEq, Value.slice.injEq, and_true] at h1
    obtain ⟨rfl, rfl, rfl⟩ := h1
    exact ⟨none, 0, 0, [], rfl, rfl, by omega, reads_nil⟩
  · simp only [Value.cells, List.cons.injEq, Value.slice.injEq, and_true] at h1
    obtain ⟨rfl, rfl, rfl⟩ := h1
    have hlm : n ≤ m := by rw [hmm]; split <;> omega
    rw [hC] at hx
    have : Inhabited M := ⟨Zm⟩
    obtain ⟨f, hf⟩ := choose_lt (α := M) (n := n) (p := fun i x => ∀ j u, (cellsL x)[j]? = some u → w.cell? (a.add (i * 8 + j)) = some u) (fun i hi => by
      obtain ⟨cs', q1, q2⟩ := hx i (by omega)
      obtain ⟨_, hlen, hcell⟩ := World.cells?_some q1
      obtain ⟨x, rfl⟩ := msg_cells q2 hlen
      refine ⟨x, fun j u hu => ?_⟩
      have hj : j < 8 := (List.getElem?_eq_some_iff.1 hu).1
      have := hcell j hj
      rw [addr_add] at this
      rw [this]; exact hu)
    refine ⟨some a, n, c, (List.range n).map f, rfl, by simp, by unfold maxLen at hm; omega, ?_, hl, fun hn => ⟨a, rfl, fun j u hu => ?_⟩⟩
    · unfold msgsV; rw [flat_length (size := 8) (fun a _ => cellsL_len a)]; simp
    · obtain ⟨i, k, x, h1, h2, rfl, h4, h5⟩ := flat_get (size := 8) (fun a _ => cellsL_len a) hu
      rw [List.length_map, List.length_range] at h1
      rw [List.getElem?_map, List.getElem?_range h1] at h2
      simp only [Option.map_some, Option.some.injEq] at h2
      rw [← h2] at h5
      exact hf i h1 k u h5
end
end Go.Proofs.Ytcjmdkklbbollaa
