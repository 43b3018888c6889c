/- What the rounds hold. -/
import Derived.Test.YtlikhpfdncidkaaBg
import Derived.Test.YtlikhpfdncidkaaBc
import Derived.Deep.Slices
set_option linter.unusedSimpArgs false
set_option linter.unusedVariables false
namespace Go.Proofs.Ytlikhpfdncidkaa
open Go.ChangeShapes Go.WideShapes Go.ChangeAt Go.RowKit Go.Joins Go.Deep

section
variable {H : Type} {enc : TypeId × Value → H} {w : World} {base : Nat} {spare : Nat → Bool} {held : Bool}
theorem one_intw {P : Program} {t : Nat} (ht : P.underlying t = some (.int .i64)) : ∀ n v (y : DataW H × List MemPlace), DataW.trod enc P w base spare held n t [v] = some y → ∃ x : Int, v = .int .i64 x ∧ okI x := fun n v y h => by
  obtain ⟨s, e, _, hw⟩ := DataW.trod_int ht h
  simp only [List.cons.injEq, and_true] at e
  exact ⟨s, e, wf_okI hw⟩
theorem cellw_24 {fuel : Nat} {cs : List Value} {x : DataW H × List MemPlace} (h : DataW.trod enc Try.prog w base spare held fuel 24 cs = some x) (hl : cs.length = 1) : ∃ (x0 : Ro Int), cs = [roV x0] ∧ (x0.l.length ≤ 9223372036854775807 ∧ Reads w x0.p x0.l.length x0.c 1 (x0.l.map (Value.int .i64)) ∧ ∀ y ∈ x0.l, okI y) := by
  match cs, hl with
  | [v], _ =>
    obtain ⟨r, e, hr⟩ := one_row Try.underlying24 (by kernel_rfl) (one_intw Try.underlying3) _ _ _ h
    exact ⟨r, by rw [e], hr⟩
theorem cellw_25 {fuel : Nat} {cs : List Value} {x : DataW H × List MemPlace} (h : DataW.trod enc Try.prog w base spare held fuel 25 cs = some x) (hl : cs.length = 1) : ∃ (x0 : Ro Bool), cs = [roV x0] ∧ (x0.l.length ≤ 9223372036854775807 ∧ Reads w x0.p x0.l.length x0.c 1 (x0.l.map Value.bool) ∧ ∀ y ∈ x0.l, True) := by
  match cs, hl with
  | [v], _ =>
    obtain ⟨r, e, hr⟩ := one_row Try.underlying25 (by kernel_rfl) (one_bool Try.underlying4) _ _ _ h
    exact ⟨r, by rw [e], hr⟩
set_option maxRecDepth 100000 in
theorem cellw_27 {fuel : Nat} {cs : List Value} {x : DataW H × List MemPlace} (h : DataW.trod enc Try.prog w base spare held fuel 27 cs = some x) (hl : cs.length = 2) : ∃ (x0 : Ro Int) (x1 : Ro Bool), cs = [roV x0, roV x1] ∧ (x0.l.length ≤ 9223372036854775807 ∧ Reads w x0.p x0.l.length x0.c 1 (x0.l.map (Value.int .i64)) ∧ ∀ y ∈ x0.l, okI y) ∧ (x1.l.length ≤ 9223372036854775807 ∧ Reads w x1.p x1.l.length x1.c 1 (x1.l.map Value.bool) ∧ ∀ y ∈ x1.l, True) := by
  obtain ⟨xs, k, _, hx, _, hlen, hg⟩ := DataW.trod_struct Try.underlying27 h
  match cs, hl with
  | [v0, v1], _ =>
    match xs, hlen with
    | [y0, y1], _ =>
      have hc0 : Try.prog.cellsOf 24 = 1 := by kernel_rfl
      have g0 : DataW.trod enc Try.prog w base spare held k 24 [v0] = some y0 := by simpa [hc0] using hg 0 _ rfl
      obtain ⟨a0, e0, w0⟩ := cellw_24 g0 rfl
      have hc1 : Try.prog.cellsOf 25 = 1 := by kernel_rfl
      have g1 : DataW.trod enc Try.prog w base spare held k 25 [v1] = some y1 := by simpa [hc1] using hg 1 _ rfl
      obtain ⟨a1, e1, w1⟩ := cellw_25 g1 rfl
      simp only [List.cons.injEq, and_true] at e0 e1
      subst e0
      subst e1
      exact ⟨a0, a1, rfl, w0, w1⟩
set_option maxRecDepth 100000 in
theorem open_rounds {v : Value} {d : DataW H} {ps : List MemPlace} {b0 : Nat} (hv : Value.okWide Try.prog w .any b0 22 v) (h : DataW.Trod enc Try.prog w base spare held 22 v d ps) :
    ∃ (p : Option Addr) (c : Nat) (l : List (RR)), v = .slice p l.length c ∧ l.length ≤ 9223372036854775807 ∧ Reads w p l.length c 2 (rrV l) ∧ ∀ x ∈ l, RrOk w x := by
  obtain ⟨fuel, hf⟩ := h
  obtain ⟨p, n, c, rfl⟩ : ∃ p n c, v = .slice p n c := okWide_slice Try.underlying22 hv
  have hC : Try.prog.cellsOf 27 = 2 := by kernel_rfl
  rcases open_slice Try.underlying22 hf with ⟨h1, _⟩ | ⟨a, len, cap, m, k, D, Pl, h1, _, hl, hm, hmm, _, hx⟩
  · simp only [Value.cells, List.cons.injEq, Value.slice.injEq, and_true] at h1
    obtain ⟨rfl, rfl, rfl⟩ := h1
    exact ⟨none, 0, [], rfl, Nat.zero_le _, ⟨rfl, Nat.le_refl _, fun h => absurd h (Nat.lt_irrefl _)⟩, fun x hx => by cases hx⟩
  · simp only [Value.cells, List.cons.injEq, Value.slice.injEq, and_true] at h1
    obtain ⟨rfl, rfl, rfl⟩ := h1
    have hlm : n ≤ m := by rw [hmm]; split <;> omega
    rw [hC] at hx
    have : Inhabited (RR) := ⟨(⟨⟨none, 0, []⟩, ⟨none, 0, []⟩⟩ : RR)⟩
    obtain ⟨f, hf⟩ := choose_lt (α := RR) (n := n) (p := fun i x => (∀ (j : Nat) (u : Value), (rrL x)[j]? = some u → w.cell? (a.add (i * 2 + j)) = some u) ∧ RrOk w x) (fun i hi => by
      obtain ⟨cs', q1, q2⟩ := hx i (by omega)
      obtain ⟨_, hlen, hcell⟩ := World.cells?_some q1
      obtain ⟨x0, x1, ee, w0, w1⟩ := cellw_27 q2 hlen
      subst ee
      refine ⟨⟨x0, x1⟩, fun j u hu => ?_, ⟨w0.1, w1.1, w0.2.2, w0.2.1, w1.2.1⟩⟩
      have hj : j < 2 := (List.getElem?_eq_some_iff.1 hu).1
      have := hcell j hj
      rw [addr_add] at this
      rw [this]; exact hu)
    have hlen : ((List.range n).map f).length = n := by simp
    refine ⟨some a, c, (List.range n).map f, by rw [hlen], by rw [hlen]; unfold maxLen at hm; omega, ?_, fun x hx => ?_⟩
    · rw [hlen]
      refine ⟨?_, hl, fun hn => ⟨a, rfl, fun j u hu => ?_⟩⟩
      · unfold rrV; rw [flat_length (size := 2) (fun _ _ => rfl), hlen]
      · obtain ⟨i, k, x, h1, h2, rfl, h4, h5⟩ := flat_get (size := 2) (fun _ _ => rfl) hu
        rw [hlen] at h1
        rw [List.getElem?_map, List.getElem?_range h1] at h2
        simp only [Option.map_some, Option.some.injEq] at h2
        rw [← h2] at h5
        exact (hf i h1).1 k u h5
    · obtain ⟨i, hi, rfl⟩ := List.mem_map.1 hx
      exact (hf i (List.mem_range.1 hi)).2
end
end Go.Proofs.Ytlikhpfdncidkaa
