/- What the arguments of the laws hold. -/
import Derived.Test.YtdkfkdekiljcoaaRK
import Derived.Test.YtdkfkdekiljcoaaFrame
import Derived.Deep.Slices
set_option linter.unusedSimpArgs false
set_option linter.unusedVariables false
namespace Go.Proofs.Ytdkfkdekiljcoaa
open Go.ChangeShapes Go.WideShapes Go.ChangeAt Go.RowKit Go.Joins Go.Deep

section
variable {H : Type} {enc : TypeId × Value → H} {w : World} {base : Nat} {spare : Nat → Bool} {held : Bool}
theorem flat_get {α : Type} {f : α → List Value} {size : Nat} : ∀ {l : List α} {j : Nat} {u : Value}, (∀ a ∈ l, (f a).length = size) → (l.flatMap f)[j]? = some u → ∃ i k a, i < l.length ∧ l[i]? = some a ∧ j = i * size + k ∧ k < size ∧ (f a)[k]? = some u
  | [], j, u, _, h => by simp at h
  | a :: l, j, u, hs, h => by
    have ha := hs a (List.mem_cons_self ..)
    rw [List.flatMap_cons, List.getElem?_append] at h
    split at h
    · rename_i hj
      exact ⟨0, j, a, by simp, rfl, by omega, by omega, h⟩
    · rename_i hj
      obtain ⟨i, k, b, h1, h2, h3, h4, h5⟩ := flat_get (fun b hb => hs b (List.mem_cons_of_mem _ hb)) h
      refine ⟨i + 1, k, b, by simp; omega, by simpa using h2, ?_, h4, h5⟩
      rw [Nat.add_mul]; omega
theorem cells_3 {fuel : Nat} {cs : List Value} {x : DataW H × List MemPlace} (h : DataW.trod enc Try.prog w base spare held fuel 3 cs = some x) (hl : cs.length = 1) : ∃ (x0 : Int), cs = [.int .i64 x0] := by
  obtain ⟨a, e, _⟩ := DataW.trod_int Try.underlying3 h
  exact ⟨a, e⟩
theorem cells_4 {fuel : Nat} {cs : List Value} {x : DataW H × List MemPlace} (h : DataW.trod enc Try.prog w base spare held fuel 4 cs = some x) (hl : cs.length = 1) : ∃ (x0 : Bool), cs = [.bool x0] := by
  obtain ⟨a, e, _⟩ := DataW.trod_bool Try.underlying4 h
  exact ⟨a, e⟩
set_option maxRecDepth 100000 in
theorem cells_23 {fuel : Nat} {cs : List Value} {x : DataW H × List MemPlace} (h : DataW.trod enc Try.prog w base spare held fuel 23 cs = some x) (hl : cs.length = 5) : ∃ (x0 : Int) (x1 : Int) (x2 : Int) (x3 : Int) (x4 : Bool), cs = [.int .i64 x0, .int .i64 x1, .int .i64 x2, .int .i64 x3, .bool x4] := by
  obtain ⟨xs, k, _, hx, _, hlen, hg⟩ := DataW.trod_struct Try.underlying23 h
  match cs, hl with
  | [v0, v1, v2, v3, v4], _ =>
    match xs, hlen with
    | [y0, y1, y2, y3, y4], _ =>
      have hc0 : Try.prog.cellsOf 3 = 1 := by kernel_rfl
      have g0 : DataW.trod enc Try.prog w base spare held k 3 [v0] = some y0 := by simpa [hc0] using hg 0 _ rfl
      obtain ⟨a0, e0⟩ := cells_3 g0 rfl
      have hc1 : Try.prog.cellsOf 3 = 1 := by kernel_rfl
      have g1 : DataW.trod enc Try.prog w base spare held k 3 [v1] = some y1 := by simpa [hc1] using hg 1 _ rfl
      obtain ⟨a1, e1⟩ := cells_3 g1 rfl
      have hc2 : Try.prog.cellsOf 3 = 1 := by kernel_rfl
      have g2 : DataW.trod enc Try.prog w base spare held k 3 [v2] = some y2 := by simpa [hc2] using hg 2 _ rfl
      obtain ⟨a2, e2⟩ := cells_3 g2 rfl
      have hc3 : Try.prog.cellsOf 3 = 1 := by kernel_rfl
      have g3 : DataW.trod enc Try.prog w base spare held k 3 [v3] = some y3 := by simpa [hc3] using hg 3 _ rfl
      obtain ⟨a3, e3⟩ := cells_3 g3 rfl
      have hc4 : Try.prog.cellsOf 4 = 1 := by kernel_rfl
      have g4 : DataW.trod enc Try.prog w base spare held k 4 [v4] = some y4 := by simpa [hc4] using hg 4 _ rfl
      obtain ⟨a4, e4⟩ := cells_4 g4 rfl
      simp only [List.cons.injEq, and_true] at e0 e1 e2 e3 e4
      subst e0
      subst e1
      subst e2
      subst e3
      subst e4
      exact ⟨a0, a1, a2, a3, a4, rfl⟩
set_option maxRecDepth 100000 in
theorem open_setup {v : Value} {d : DataW H} {ps : List MemPlace} {b0 : Nat} (hv : Value.okWide Try.prog w .any b0 23 v) (h : DataW.Trod enc Try.prog w base spare held 23 v d ps) : ∃ x : Int × Int × Int × Int × Bool, v = .agg #[.int .i64 x.1, .int .i64 x.2.1, .int .i64 x.2.2.1, .int .i64 x.2.2.2.1, .bool x.2.2.2.2] := by
  obtain ⟨cs, rfl, hsz⟩ := okWide_struct Try.underlying23 hv
  obtain ⟨l⟩ := cs
  obtain ⟨fuel, hf⟩ := h
  have hC : Try.prog.cellsOf 23 = 5 := by kernel_rfl
  rw [hC] at hsz
  obtain ⟨x0, x1, x2, x3, x4, e⟩ := cells_23 (cs := l) hf hsz
  subst e
  exact ⟨⟨x0, x1, x2, x3, x4⟩, rfl⟩
theorem cells_9 {fuel : Nat} {cs : List Value} {x : DataW H × List MemPlace} (h : DataW.trod enc Try.prog w base spare held fuel 9 cs = some x) (hl : cs.length = 1) : ∃ (x0 : ByteArray), cs = [.string x0] := by
  obtain ⟨a, e, _⟩ := DataW.trod_string Try.underlying9 h
  exact ⟨a, e⟩
set_option maxRecDepth 100000 in
theorem cells_33 {fuel : Nat} {cs : List Value} {x : DataW H × List MemPlace} (h : DataW.trod enc Try.prog w base spare held fuel 33 cs = some x) (hl : cs.length = 8) : ∃ (x0 : Int) (x1 : Int) (x2 : Int) (x3 : Int) (x4 : Int) (x5 : Int) (x6 : ByteArray) (x7 : ByteArray), cs = [.int .i64 x0, .int .i64 x1, .int .i64 x2, .int .i64 x3, .int .i64 x4, .int .i64 x5, .string x6, .string x7] := by
  obtain ⟨xs, k, _, hx, _, hlen, hg⟩ := DataW.trod_struct Try.underlying33 h
  match cs, hl with
  | [v0, v1, v2, v3, v4, v5, v6, v7], _ =>
    match xs, hlen with
    | [y0, y1, y2, y3, y4, y5, y6, y7], _ =>
      have hc0 : Try.prog.cellsOf 3 = 1 := by kernel_rfl
      have g0 : DataW.trod enc Try.prog w base spare held k 3 [v0] = some y0 := by simpa [hc0] using hg 0 _ rfl
      obtain ⟨a0, e0⟩ := cells_3 g0 rfl
      have hc1 : Try.prog.cellsOf 3 = 1 := by kernel_rfl
      have g1 : DataW.trod enc Try.prog w base spare held k 3 [v1] = some y1 := by simpa [hc1] using hg 1 _ rfl
      obtain ⟨a1, e1⟩ := cells_3 g1 rfl
      have hc2 : Try.prog.cellsOf 3 = 1 := by kernel_rfl
      have g2 : DataW.trod enc Try.prog w base spare held k 3 [v2] = some y2 := by simpa [hc2] using hg 2 _ rfl
      obtain ⟨a2, e2⟩ := cells_3 g2 rfl
      have hc3 : Try.prog.cellsOf 3 = 1 := by kernel_rfl
      have g3 : DataW.trod enc Try.prog w base spare held k 3 [v3] = some y3 := by simpa [hc3] using hg 3 _ rfl
      obtain ⟨a3, e3⟩ := cells_3 g3 rfl
      have hc4 : Try.prog.cellsOf 3 = 1 := by kernel_rfl
      have g4 : DataW.trod enc Try.prog w base spare held k 3 [v4] = some y4 := by simpa [hc4] using hg 4 _ rfl
      obtain ⟨a4, e4⟩ := cells_3 g4 rfl
      have hc5 : Try.prog.cellsOf 3 = 1 := by kernel_rfl
      have g5 : DataW.trod enc Try.prog w base spare held k 3 [v5] = some y5 := by simpa [hc5] using hg 5 _ rfl
      obtain ⟨a5, e5⟩ := cells_3 g5 rfl
      have hc6 : Try.prog.cellsOf 9 = 1 := by kernel_rfl
      have g6 : DataW.trod enc Try.prog w base spare held k 9 [v6] = some y6 := by simpa [hc6] using hg 6 _ rfl
      obtain ⟨a6, e6⟩ := cells_9 g6 rfl
      have hc7 : Try.prog.cellsOf 9 = 1 := by kernel_rfl
      have g7 : DataW.trod enc Try.prog w base spare held k 9 [v7] = some y7 := by simpa [hc7] using hg 7 _ rfl
      obtain ⟨a7, e7⟩ := cells_9 g7 rfl
      simp only [List.cons.injEq, and_true] at e0 e1 e2 e3 e4 e5 e6 e7
      subst e0
      subst e1
      subst e2
      subst e3
      subst e4
      subst e5
      subst e6
      subst e7
      exact ⟨a0, a1, a2, a3, a4, a5, a6, a7, rfl⟩
set_option maxRecDepth 100000 in
theorem cells_35 {fuel : Nat} {cs : List Value} {x : DataW H × List MemPlace} (h : DataW.trod enc Try.prog w base spare held fuel 35 cs = some x) (hl : cs.length = 9) : ∃ (x0 : Bool) (x1 : Int) (x2 : Int) (x3 : Int) (x4 : Int) (x5 : Int) (x6 : Int) (x7 : ByteArray) (x8 : ByteArray), cs = [.bool x0, .int .i64 x1, .int .i64 x2, .int .i64 x3, .int .i64 x4, .int .i64 x5, .int .i64 x6, .string x7, .string x8] := by
  obtain ⟨xs, k, _, hx, _, hlen, hg⟩ := DataW.trod_struct Try.underlying35 h
  match cs, hl with
  | [v0, v1, v2, v3, v4, v5, v6, v7, v8], _ =>
    match xs, hlen with
    | [y0, y1], _ =>
      have hc0 : Try.prog.cellsOf 4 = 1 := by kernel_rfl
      have g0 : DataW.trod enc Try.prog w base spare held k 4 [v0] = some y0 := by simpa [hc0] using hg 0 _ rfl
      obtain ⟨a0, e0⟩ := cells_4 g0 rfl
      have hc1 : Try.prog.cellsOf 33 = 8 := by kernel_rfl
      have g1 : DataW.trod enc Try.prog w base spare held k 33 [v1, v2, v3, v4, v5, v6, v7, v8] = some y1 := by simpa [hc1] using hg 1 _ rfl
      obtain ⟨a1, a2, a3, a4, a5, a6, a7, a8, e1⟩ := cells_33 g1 rfl
      simp only [List.cons.injEq, and_true] at e0 e1
      obtain ⟨q1_0, q1_1, q1_2, q1_3, q1_4, q1_5, q1_6, q1_7⟩ := e1
      subst e0
      subst q1_0
      subst q1_1
      subst q1_2
      subst q1_3
      subst q1_4
      subst q1_5
      subst q1_6
      subst q1_7
      exact ⟨a0, a1, a2, a3, a4, a5, a6, a7, a8, rfl⟩
set_option maxRecDepth 100000 in
theorem open_sents {v : Value} {d : DataW H} {ps : List MemPlace} {b0 : Nat} (hv : Value.okWide Try.prog w .any b0 24 v) (h : DataW.Trod enc Try.prog w base spare held 24 v d ps) :
    ∃ (p : Option Addr) (c : Nat) (l : List (Sn)), v = .slice p l.length c ∧ l.length ≤ 9223372036854775807 ∧ Reads w p l.length c 9 (snV l) := by
  obtain ⟨fuel, hf⟩ := h
  obtain ⟨p, n, c, rfl⟩ : ∃ p n c, v = .slice p n c := okWide_slice Try.underlying24 hv
  have hC : Try.prog.cellsOf 35 = 9 := by kernel_rfl
  rcases open_slice Try.underlying24 hf with ⟨h1, _⟩ | ⟨a, len, cap, m, k, D, Pl, h1, _, hl, hm, hmm, _, hx⟩
  · simp only [Value.cells, List.cons.injEq, Value.slice.injEq, and_true] at h1
    obtain ⟨rfl, rfl, rfl⟩ := h1
    exact ⟨none, 0, [], rfl, Nat.zero_le _, ⟨rfl, Nat.le_refl _, fun h => absurd h (Nat.lt_irrefl _)⟩⟩
  · simp only [Value.cells, List.cons.injEq, Value.slice.injEq, and_true] at h1
    obtain ⟨rfl, rfl, rfl⟩ := h1
    have hlm : n ≤ m := by rw [hmm]; split <;> omega
    rw [hC] at hx
    have : Inhabited (Sn) := ⟨S0⟩
    obtain ⟨f, hf⟩ := choose_lt (α := Sn) (n := n) (p := fun i x => ∀ (j : Nat) (u : Value), (snL x)[j]? = some u → w.cell? (a.add (i * 9 + j)) = some u) (fun i hi => by
      obtain ⟨cs', q1, q2⟩ := hx i (by omega)
      obtain ⟨_, hlen, hcell⟩ := World.cells?_some q1
      obtain ⟨x0, x1, x2, x3, x4, x5, x6, x7, x8, ee⟩ := cells_35 q2 hlen
      subst ee
      refine ⟨⟨x0, ⟨x1, x2, x3, x4, x5, x6, x7, x8⟩⟩, fun j u hu => ?_⟩
      have hj : j < 9 := (List.getElem?_eq_some_iff.1 hu).1
      have := hcell j hj
      rw [addr_add] at this
      rw [this]; exact hu)
    have hlen : ((List.range n).map f).length = n := by simp
    refine ⟨some a, c, (List.range n).map f, by rw [hlen], by rw [hlen]; unfold maxLen at hm; omega, ?_⟩
    rw [hlen]
    refine ⟨?_, hl, fun hn => ⟨a, rfl, fun j u hu => ?_⟩⟩
    · unfold snV; rw [flat_length (size := 9) (fun _ _ => rfl), hlen]
    · obtain ⟨i, k, x, h1, h2, rfl, h4, h5⟩ := flat_get (size := 9) (fun _ _ => rfl) hu
      rw [hlen] at h1
      rw [List.getElem?_map, List.getElem?_range h1] at h2
      simp only [Option.map_some, Option.some.injEq] at h2
      rw [← h2] at h5
      exact hf i h1 k u h5
end
end Go.Proofs.Ytdkfkdekiljcoaa
