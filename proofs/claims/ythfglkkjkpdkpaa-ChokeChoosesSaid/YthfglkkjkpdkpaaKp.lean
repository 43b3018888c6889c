import Derived.Test.YthfglkkjkpdkpaaKg
import Derived.Test.YthfglkkjkpdkpaaKk
import Derived.Test.YthfglkkjkpdkpaaOp
import Derived.Deep.Slices
/- What the arguments of the laws hold. -/
set_option linter.unusedSimpArgs false
set_option linter.unusedVariables false
namespace Go.Proofs.Ythfglkkjkpdkpaa
open Go.ChangeShapes Go.WideShapes Go.ChangeAt Go.RowKit Go.Joins Go.Deep

def rtsV (l : List Rt) : List Value := l.flatMap rtL
section
variable {H : Type} {enc : TypeId × Value → H} {w : World} {base : Nat} {spare : Nat → Bool} {held : Bool}
set_option maxRecDepth 100000 in
theorem cellw_57 {fuel : Nat} {cs : List Value} {x : DataW H × List MemPlace} (h : DataW.trod enc Try.prog w base spare held fuel 57 cs = some x) (hl : cs.length = 6) : ∃ (x0 : Int) (x1 : Bool) (x2 : Int) (x3 : Int) (x4 : Bool) (x5 : Int), cs = [.int .i64 x0, .bool x1, .int .i64 x2, .int .i64 x3, .bool x4, .int .i64 x5] ∧ okI x0 ∧ True ∧ okI x2 ∧ okI x3 ∧ True ∧ okI x5 := by
  obtain ⟨xs, k, _, hx, _, hlen, hg⟩ := DataW.trod_struct Try.underlying57 h
  match cs, hl with
  | [v0, v1, v2, v3, v4, v5], _ =>
    match xs, hlen with
    | [y0, y1, y2, y3, y4, y5], _ =>
      have hc0 : Try.prog.cellsOf 3 = 1 := by kernel_rfl
      have g0 : DataW.trod enc Try.prog w base spare held k 3 [v0] = some y0 := by simpa [hc0] using hg 0 _ rfl
      obtain ⟨a0, e0, w0⟩ := cellw_3 g0 rfl
      have hc1 : Try.prog.cellsOf 4 = 1 := by kernel_rfl
      have g1 : DataW.trod enc Try.prog w base spare held k 4 [v1] = some y1 := by simpa [hc1] using hg 1 _ rfl
      obtain ⟨a1, e1, w1⟩ := cellw_4 g1 rfl
      have hc2 : Try.prog.cellsOf 3 = 1 := by kernel_rfl
      have g2 : DataW.trod enc Try.prog w base spare held k 3 [v2] = some y2 := by simpa [hc2] using hg 2 _ rfl
      obtain ⟨a2, e2, w2⟩ := cellw_3 g2 rfl
      have hc3 : Try.prog.cellsOf 3 = 1 := by kernel_rfl
      have g3 : DataW.trod enc Try.prog w base spare held k 3 [v3] = some y3 := by simpa [hc3] using hg 3 _ rfl
      obtain ⟨a3, e3, w3⟩ := cellw_3 g3 rfl
      have hc4 : Try.prog.cellsOf 4 = 1 := by kernel_rfl
      have g4 : DataW.trod enc Try.prog w base spare held k 4 [v4] = some y4 := by simpa [hc4] using hg 4 _ rfl
      obtain ⟨a4, e4, w4⟩ := cellw_4 g4 rfl
      have hc5 : Try.prog.cellsOf 3 = 1 := by kernel_rfl
      have g5 : DataW.trod enc Try.prog w base spare held k 3 [v5] = some y5 := by simpa [hc5] using hg 5 _ rfl
      obtain ⟨a5, e5, w5⟩ := cellw_3 g5 rfl
      simp only [List.cons.injEq, and_true] at e0 e1 e2 e3 e4 e5
      subst e0
      subst e1
      subst e2
      subst e3
      subst e4
      subst e5
      exact ⟨a0, a1, a2, a3, a4, a5, rfl, w0, w1, w2, w3, w4, w5⟩
set_option maxRecDepth 100000 in
theorem open_rateds {v : Value} {d : DataW H} {ps : List MemPlace} {b0 : Nat} (hv : Value.okWide Try.prog w .any b0 33 v) (h : DataW.Trod enc Try.prog w base spare held 33 v d ps) :
    ∃ (p : Option Addr) (c : Nat) (l : List (Rt)), v = .slice p l.length c ∧ l.length ≤ 9223372036854775807 ∧ Reads w p l.length c 6 (rtsV l) ∧ ∀ x ∈ l, okR x := by
  obtain ⟨fuel, hf⟩ := h
  obtain ⟨p, n, c, rfl⟩ : ∃ p n c, v = .slice p n c := okWide_slice Try.underlying33 hv
  have hC : Try.prog.cellsOf 57 = 6 := by kernel_rfl
  rcases open_slice Try.underlying33 hf with ⟨h1, _⟩ | ⟨a, len, cap, m, k, D, Pl, h1, _, hl, hm, hmm, _, hx⟩
  · simp only [Value.cells, List.cons.injEq, Value.slice.injEq, and_true] at h1
    obtain ⟨rfl, rfl, rfl⟩ := h1
    exact ⟨none, 0, [], rfl, Nat.zero_le _, ⟨rfl, Nat.le_refl _, fun h => absurd h (Nat.lt_irrefl _)⟩, fun x hx => by cases hx⟩
  · simp only [Value.cells, List.cons.injEq, Value.slice.injEq, and_true] at h1
    obtain ⟨rfl, rfl, rfl⟩ := h1
    have hlm : n ≤ m := by rw [hmm]; split <;> omega
    rw [hC] at hx
    have : Inhabited (Rt) := ⟨(⟨0, false, 0, 0, false, 0⟩ : Rt)⟩
    obtain ⟨f, hf⟩ := choose_lt (α := Rt) (n := n) (p := fun i x => (∀ (j : Nat) (u : Value), (rtL x)[j]? = some u → w.cell? (a.add (i * 6 + j)) = some u) ∧ okR x) (fun i hi => by
      obtain ⟨cs', q1, q2⟩ := hx i (by omega)
      obtain ⟨_, hlen, hcell⟩ := World.cells?_some q1
      obtain ⟨x0, x1, x2, x3, x4, x5, ee, w0, w1, w2, w3, w4, w5⟩ := cellw_57 q2 hlen
      subst ee
      refine ⟨⟨x0, x1, x2, x3, x4, x5⟩, fun j u hu => ?_, ⟨w0, w2, w3, w5⟩⟩
      have hj : j < 6 := (List.getElem?_eq_some_iff.1 hu).1
      have := hcell j hj
      rw [addr_add] at this
      rw [this]; exact hu)
    have hlen : ((List.range n).map f).length = n := by simp
    refine ⟨some a, c, (List.range n).map f, by rw [hlen], by rw [hlen]; unfold maxLen at hm; omega, ?_, fun x hx => ?_⟩
    · rw [hlen]
      refine ⟨?_, hl, fun hn => ⟨a, rfl, fun j u hu => ?_⟩⟩
      · unfold rtsV; rw [flat_length (size := 6) (fun _ _ => rfl), hlen]
      · obtain ⟨i, k, x, h1, h2, rfl, h4, h5⟩ := flat_get (size := 6) (fun _ _ => rfl) hu
        rw [hlen] at h1
        rw [List.getElem?_map, List.getElem?_range h1] at h2
        simp only [Option.map_some, Option.some.injEq] at h2
        rw [← h2] at h5
        exact (hf i h1).1 k u h5
    · obtain ⟨i, hi, rfl⟩ := List.mem_map.1 hx
      exact (hf i (List.mem_range.1 hi)).2
end
end Go.Proofs.Ythfglkkjkpdkpaa
