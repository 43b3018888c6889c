import Derived.Test.YtlikhpfdncidkaaCl
import Derived.Test.YtlikhpfdncidkaaBc
import Derived.Deep.Slices
/- What the deeds hold. -/
set_option linter.unusedSimpArgs false
set_option linter.unusedVariables false
namespace Go.Proofs.Ytlikhpfdncidkaa
open Go.ChangeShapes Go.WideShapes Go.ChangeAt Go.RowKit Go.Joins Go.Deep

def ddV (l : List Dd) : List Value := l.flatMap ddL
section
variable {H : Type} {enc : TypeId × Value → H} {w : World} {base : Nat} {spare : Nat → Bool} {held : Bool}
theorem cellw_9 {fuel : Nat} {cs : List Value} {x : DataW H × List MemPlace} (h : DataW.trod enc Try.prog w base spare held fuel 9 cs = some x) (hl : cs.length = 1) : ∃ (x0 : ByteArray), cs = [.string x0] ∧ True := by
  obtain ⟨a, e, _⟩ := DataW.trod_string Try.underlying9 h
  exact ⟨a, e, trivial⟩
theorem cellw_4 {fuel : Nat} {cs : List Value} {x : DataW H × List MemPlace} (h : DataW.trod enc Try.prog w base spare held fuel 4 cs = some x) (hl : cs.length = 1) : ∃ (x0 : Bool), cs = [.bool x0] ∧ True := by
  obtain ⟨a, e, _⟩ := DataW.trod_bool Try.underlying4 h
  exact ⟨a, e, trivial⟩
set_option maxRecDepth 100000 in
theorem cellw_52 {fuel : Nat} {cs : List Value} {x : DataW H × List MemPlace} (h : DataW.trod enc Try.prog w base spare held fuel 52 cs = some x) (hl : cs.length = 7) : ∃ (x0 : Int) (x1 : Int) (x2 : Int) (x3 : Int) (x4 : Int) (x5 : ByteArray) (x6 : Bool), cs = [.int .i64 x0, .int .i64 x1, .int .i64 x2, .int .i64 x3, .int .i64 x4, .string x5, .bool x6] ∧ okI x0 ∧ okI x1 ∧ okI x2 ∧ okI x3 ∧ okI x4 ∧ True ∧ True := by
  obtain ⟨xs, k, _, hx, _, hlen, hg⟩ := DataW.trod_struct Try.underlying52 h
  match cs, hl with
  | [v0, v1, v2, v3, v4, v5, v6], _ =>
    match xs, hlen with
    | [y0, y1, y2, y3, y4], _ =>
      have hc0 : Try.prog.cellsOf 3 = 1 := by kernel_rfl
      have g0 : DataW.trod enc Try.prog w base spare held k 3 [v0] = some y0 := by simpa [hc0] using hg 0 _ rfl
      obtain ⟨a0, e0, w0⟩ := cellw_3 g0 rfl
      have hc1 : Try.prog.cellsOf 3 = 1 := by kernel_rfl
      have g1 : DataW.trod enc Try.prog w base spare held k 3 [v1] = some y1 := by simpa [hc1] using hg 1 _ rfl
      obtain ⟨a1, e1, w1⟩ := cellw_3 g1 rfl
      have hc2 : Try.prog.cellsOf 37 = 3 := by kernel_rfl
      have g2 : DataW.trod enc Try.prog w base spare held k 37 [v2, v3, v4] = some y2 := by simpa [hc2] using hg 2 _ rfl
      obtain ⟨a2, a3, a4, e2, w2, w3, w4⟩ := cellw_37 g2 rfl
      have hc3 : Try.prog.cellsOf 9 = 1 := by kernel_rfl
      have g3 : DataW.trod enc Try.prog w base spare held k 9 [v5] = some y3 := by simpa [hc3] using hg 3 _ rfl
      obtain ⟨a5, e3, w5⟩ := cellw_9 g3 rfl
      have hc4 : Try.prog.cellsOf 4 = 1 := by kernel_rfl
      have g4 : DataW.trod enc Try.prog w base spare held k 4 [v6] = some y4 := by simpa [hc4] using hg 4 _ rfl
      obtain ⟨a6, e4, w6⟩ := cellw_4 g4 rfl
      simp only [List.cons.injEq, and_true] at e0 e1 e2 e3 e4
      obtain ⟨q2_0, q2_1, q2_2⟩ := e2
      subst e0
      subst e1
      subst q2_0
      subst q2_1
      subst q2_2
      subst e3
      subst e4
      exact ⟨a0, a1, a2, a3, a4, a5, a6, rfl, w0, w1, w2, w3, w4, w5, w6⟩
set_option maxRecDepth 100000 in
theorem open_deeds {v : Value} {d : DataW H} {ps : List MemPlace} {b0 : Nat} (hv : Value.okWide Try.prog w .any b0 47 v) (h : DataW.Trod enc Try.prog w base spare held 47 v d ps) :
    ∃ (p : Option Addr) (c : Nat) (l : List (Dd)), v = .slice p l.length c ∧ l.length ≤ 9223372036854775807 ∧ Reads w p l.length c 7 (ddV l) ∧ ∀ x ∈ l, okI x.pr ∧ okI x.pc := by
  obtain ⟨fuel, hf⟩ := h
  obtain ⟨p, n, c, rfl⟩ : ∃ p n c, v = .slice p n c := okWide_slice Try.underlying47 hv
  have hC : Try.prog.cellsOf 52 = 7 := by kernel_rfl
  rcases open_slice Try.underlying47 hf with ⟨h1, _⟩ | ⟨a, len, cap, m, k, D, Pl, h1, _, hl, hm, hmm, _, hx⟩
  · simp only [Value.cells, List.cons.injEq, Value.slice.injEq, and_true] at h1
    obtain ⟨rfl, rfl, rfl⟩ := h1
    exact ⟨none, 0, [], rfl, Nat.zero_le _, ⟨rfl, Nat.le_refl _, fun h => absurd h (Nat.lt_irrefl _)⟩, fun x hx => by cases hx⟩
  · simp only [Value.cells, List.cons.injEq, Value.slice.injEq, and_true] at h1
    obtain ⟨rfl, rfl, rfl⟩ := h1
    have hlm : n ≤ m := by rw [hmm]; split <;> omega
    rw [hC] at hx
    have : Inhabited (Dd) := ⟨(⟨0, 0, 0, 0, 0, ⟨#[]⟩, false⟩ : Dd)⟩
    obtain ⟨f, hf⟩ := choose_lt (α := Dd) (n := n) (p := fun i x => (∀ (j : Nat) (u : Value), (ddL x)[j]? = some u → w.cell? (a.add (i * 7 + j)) = some u) ∧ okI x.pr ∧ okI x.pc) (fun i hi => by
      obtain ⟨cs', q1, q2⟩ := hx i (by omega)
      obtain ⟨_, hlen, hcell⟩ := World.cells?_some q1
      obtain ⟨x0, x1, x2, x3, x4, x5, x6, ee, w0, w1, w2, w3, w4, w5, w6⟩ := cellw_52 q2 hlen
      subst ee
      refine ⟨⟨x0, x1, x2, x3, x4, x5, x6⟩, fun j u hu => ?_, w1, w2⟩
      have hj : j < 7 := (List.getElem?_eq_some_iff.1 hu).1
      have := hcell j hj
      rw [addr_add] at this
      rw [this]; exact hu)
    have hlen : ((List.range n).map f).length = n := by simp
    refine ⟨some a, c, (List.range n).map f, by rw [hlen], by rw [hlen]; unfold maxLen at hm; omega, ?_, fun x hx => ?_⟩
    · rw [hlen]
      refine ⟨?_, hl, fun hn => ⟨a, rfl, fun j u hu => ?_⟩⟩
      · unfold ddV; rw [flat_length (size := 7) (fun _ _ => rfl), hlen]
      · obtain ⟨i, k, x, h1, h2, rfl, h4, h5⟩ := flat_get (size := 7) (fun _ _ => rfl) hu
        rw [hlen] at h1
        rw [List.getElem?_map, List.getElem?_range h1] at h2
        simp only [Option.map_some, Option.some.injEq] at h2
        rw [← h2] at h5
        exact (hf i h1).1 k u h5
    · obtain ⟨i, hi, rfl⟩ := List.mem_map.1 hx
      exact (hf i (List.mem_range.1 hi)).2
end
end Go.Proofs.Ytlikhpfdncidkaa
