import Derived.Test.YthfglkkjkpdkpaaGreatDoorKa
import Derived.Test.YthfglkkjkpdkpaaGreatDoorMj
import Derived.Test.YthfglkkjkpdkpaaGreatDoorOp
import Derived.Deep.Slices
/- What the arguments of the laws hold. -/
set_option linter.unusedSimpArgs false
set_option linter.unusedVariables false
namespace Go.Proofs.YthfglkkjkpdkpaaGreatDoor
open Go.ChangeShapes Go.WideShapes Go.ChangeAt Go.RowKit Go.Joins Go.Deep

def rvsV (l : List Rv) : List Value := l.flatMap rvL
section
variable {H : Type} {enc : TypeId × Value → H} {w : World} {base : Nat} {spare : Nat → Bool} {held : Bool}
theorem flat_get {α : Type} {f : α → List Value} {size : Nat} : ∀ {l : List α} {j : Nat} {u : Value}, (∀ a ∈ l, (f a).length = size) → (l.flatMap f)[j]? = some u → ∃ i k a, i < l.length ∧ l[i]? = some a ∧ j = i * size + k ∧ k < size ∧ (f a)[k]? = some u
  | [], j, u, _, h => by simp at h
  | a :: l, j, u, hs, h => by
    have ha := hs a (List.mem_cons_self ..)
    rw [List.flatMap_cons, List.getElem?_append] at h
    split at h
    · rename_i hj
      exact ⟨0, j, a, by simp, rfl, by omega, by omega, h⟩
    · rename_i hj
      obtain ⟨i, k, b, h1, h2, h3, h4, h5⟩ := flat_get (fun b hb => hs b (List.mem_cons_of_mem _ hb)) h
      refine ⟨i + 1, k, b, by simp; omega, by simpa using h2, ?_, h4, h5⟩
      rw [Nat.add_mul]; omega
theorem cellw_3 {fuel : Nat} {cs : List Value} {x : DataW H × List MemPlace} (h : DataW.trod enc Tryz.prog w base spare held fuel 3 cs = some x) (hl : cs.length = 1) : ∃ (x0 : Int), cs = [.int .i64 x0] ∧ okI x0 := by
  obtain ⟨a, e, _, hw⟩ := DataW.trod_int Tryz.underlying3 h
  exact ⟨a, e, wf_okI hw⟩
theorem cellw_4 {fuel : Nat} {cs : List Value} {x : DataW H × List MemPlace} (h : DataW.trod enc Tryz.prog w base spare held fuel 4 cs = some x) (hl : cs.length = 1) : ∃ (x0 : Bool), cs = [.bool x0] ∧ True := by
  obtain ⟨a, e, _⟩ := DataW.trod_bool Tryz.underlying4 h
  exact ⟨a, e, trivial⟩
set_option maxRecDepth 100000 in
theorem cellw_30 {fuel : Nat} {cs : List Value} {x : DataW H × List MemPlace} (h : DataW.trod enc Tryz.prog w base spare held fuel 30 cs = some x) (hl : cs.length = 10) : ∃ (x0 : Int) (x1 : Bool) (x2 : Bool) (x3 : Int) (x4 : Int) (x5 : Int) (x6 : Int) (x7 : Bool) (x8 : Bool) (x9 : Bool), cs = [.int .i64 x0, .bool x1, .bool x2, .int .i64 x3, .int .i64 x4, .int .i64 x5, .int .i64 x6, .bool x7, .bool x8, .bool x9] ∧ okI x0 ∧ True ∧ True ∧ okI x3 ∧ okI x4 ∧ okI x5 ∧ okI x6 ∧ True ∧ True ∧ True := by
  obtain ⟨xs, k, _, hx, _, hlen, hg⟩ := DataW.trod_struct Tryz.underlying30 h
  match cs, hl with
  | [v0, v1, v2, v3, v4, v5, v6, v7, v8, v9], _ =>
    match xs, hlen with
    | [y0, y1, y2, y3, y4, y5, y6, y7, y8, y9], _ =>
      have hc0 : Tryz.prog.cellsOf 3 = 1 := by kernel_rfl
      have g0 : DataW.trod enc Tryz.prog w base spare held k 3 [v0] = some y0 := by simpa [hc0] using hg 0 _ rfl
      obtain ⟨a0, e0, w0⟩ := cellw_3 g0 rfl
      have hc1 : Tryz.prog.cellsOf 4 = 1 := by kernel_rfl
      have g1 : DataW.trod enc Tryz.prog w base spare held k 4 [v1] = some y1 := by simpa [hc1] using hg 1 _ rfl
      obtain ⟨a1, e1, w1⟩ := cellw_4 g1 rfl
      have hc2 : Tryz.prog.cellsOf 4 = 1 := by kernel_rfl
      have g2 : DataW.trod enc Tryz.prog w base spare held k 4 [v2] = some y2 := by simpa [hc2] using hg 2 _ rfl
      obtain ⟨a2, e2, w2⟩ := cellw_4 g2 rfl
      have hc3 : Tryz.prog.cellsOf 3 = 1 := by kernel_rfl
      have g3 : DataW.trod enc Tryz.prog w base spare held k 3 [v3] = some y3 := by simpa [hc3] using hg 3 _ rfl
      obtain ⟨a3, e3, w3⟩ := cellw_3 g3 rfl
      have hc4 : Tryz.prog.cellsOf 3 = 1 := by kernel_rfl
      have g4 : DataW.trod enc Tryz.prog w base spare held k 3 [v4] = some y4 := by simpa [hc4] using hg 4 _ rfl
      obtain ⟨a4, e4, w4⟩ := cellw_3 g4 rfl
      have hc5 : Tryz.prog.cellsOf 3 = 1 := by kernel_rfl
      have g5 : DataW.trod enc Tryz.prog w base spare held k 3 [v5] = some y5 := by simpa [hc5] using hg 5 _ rfl
      obtain ⟨a5, e5, w5⟩ := cellw_3 g5 rfl
      have hc6 : Tryz.prog.cellsOf 3 = 1 := by kernel_rfl
      have g6 : DataW.trod enc Tryz.prog w base spare held k 3 [v6] = some y6 := by simpa [hc6] using hg 6 _ rfl
      obtain ⟨a6, e6, w6⟩ := cellw_3 g6 rfl
      have hc7 : Tryz.prog.cellsOf 4 = 1 := by kernel_rfl
      have g7 : DataW.trod enc Tryz.prog w base spare held k 4 [v7] = some y7 := by simpa [hc7] using hg 7 _ rfl
      obtain ⟨a7, e7, w7⟩ := cellw_4 g7 rfl
      have hc8 : Tryz.prog.cellsOf 4 = 1 := by kernel_rfl
      have g8 : DataW.trod enc Tryz.prog w base spare held k 4 [v8] = some y8 := by simpa [hc8] using hg 8 _ rfl
      obtain ⟨a8, e8, w8⟩ := cellw_4 g8 rfl
      have hc9 : Tryz.prog.cellsOf 4 = 1 := by kernel_rfl
      have g9 : DataW.trod enc Tryz.prog w base spare held k 4 [v9] = some y9 := by simpa [hc9] using hg 9 _ rfl
      obtain ⟨a9, e9, w9⟩ := cellw_4 g9 rfl
      simp only [List.cons.injEq, and_true] at e0 e1 e2 e3 e4 e5 e6 e7 e8 e9
      subst e0
      subst e1
      subst e2
      subst e3
      subst e4
      subst e5
      subst e6
      subst e7
      subst e8
      subst e9
      exact ⟨a0, a1, a2, a3, a4, a5, a6, a7, a8, a9, rfl, w0, w1, w2, w3, w4, w5, w6, w7, w8, w9⟩
set_option maxRecDepth 100000 in
theorem open_rivals {v : Value} {d : DataW H} {ps : List MemPlace} {b0 : Nat} (hv : Value.okWide Tryz.prog w .any b0 22 v) (h : DataW.Trod enc Tryz.prog w base spare held 22 v d ps) :
    ∃ (p : Option Addr) (c : Nat) (l : List (Rv)), v = .slice p l.length c ∧ l.length ≤ 9223372036854775807 ∧ Reads w p l.length c 10 (rvsV l) ∧ ∀ x ∈ l, okI x.id := by
  obtain ⟨fuel, hf⟩ := h
  obtain ⟨p, n, c, rfl⟩ : ∃ p n c, v = .slice p n c := okWide_slice Tryz.underlying22 hv
  have hC : Tryz.prog.cellsOf 30 = 10 := by kernel_rfl
  rcases open_slice Tryz.underlying22 hf with ⟨h1, _⟩ | ⟨a, len, cap, m, k, D, Pl, h1, _, hl, hm, hmm, _, hx⟩
  · simp only [Value.cells, List.cons.injEq, Value.slice.injEq, and_true] at h1
    obtain ⟨rfl, rfl, rfl⟩ := h1
    exact ⟨none, 0, [], rfl, Nat.zero_le _, ⟨rfl, Nat.le_refl _, fun h => absurd h (Nat.lt_irrefl _)⟩, fun x hx => by cases hx⟩
  · simp only [Value.cells, List.cons.injEq, Value.slice.injEq, and_true] at h1
    obtain ⟨rfl, rfl, rfl⟩ := h1
    have hlm : n ≤ m := by rw [hmm]; split <;> omega
    rw [hC] at hx
    have : Inhabited (Rv) := ⟨Rv.zero⟩
    obtain ⟨f, hf⟩ := choose_lt (α := Rv) (n := n) (p := fun i x => (∀ (j : Nat) (u : Value), (rvL x)[j]? = some u → w.cell? (a.add (i * 10 + j)) = some u) ∧ okI x.id) (fun i hi => by
      obtain ⟨cs', q1, q2⟩ := hx i (by omega)
      obtain ⟨_, hlen, hcell⟩ := World.cells?_some q1
      obtain ⟨x0, x1, x2, x3, x4, x5, x6, x7, x8, x9, ee, w0, w1, w2, w3, w4, w5, w6, w7, w8, w9⟩ := cellw_30 q2 hlen
      subst ee
      refine ⟨⟨x0, x1, x2, x3, x4, x5, x6, x7, x8, x9⟩, fun j u hu => ?_, w0⟩
      have hj : j < 10 := (List.getElem?_eq_some_iff.1 hu).1
      have := hcell j hj
      rw [addr_add] at this
      rw [this]; exact hu)
    have hlen : ((List.range n).map f).length = n := by simp
    refine ⟨some a, c, (List.range n).map f, by rw [hlen], by rw [hlen]; unfold maxLen at hm; omega, ?_, fun x hx => ?_⟩
    · rw [hlen]
      refine ⟨?_, hl, fun hn => ⟨a, rfl, fun j u hu => ?_⟩⟩
      · unfold rvsV; rw [flat_length (size := 10) (fun _ _ => rfl), hlen]
      · obtain ⟨i, k, x, h1, h2, rfl, h4, h5⟩ := flat_get (size := 10) (fun _ _ => rfl) hu
        rw [hlen] at h1
        rw [List.getElem?_map, List.getElem?_range h1] at h2
        simp only [Option.map_some, Option.some.injEq] at h2
        rw [← h2] at h5
        exact (hf i h1).1 k u h5
    · obtain ⟨i, hi, rfl⟩ := List.mem_map.1 hx
      exact (hf i (List.mem_range.1 hi)).2
end
end Go.Proofs.YthfglkkjkpdkpaaGreatDoor
