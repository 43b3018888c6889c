/- A message, by value: what an argument of its type holds. -/
import Derived.Test.YtcjmdkklbbollaaFrame
set_option linter.unusedSimpArgs false
set_option linter.unusedVariables false
namespace Go.Proofs.Ytcjmdkklbbollaa
open Go.ChangeShapes Go.WideShapes Go.ChangeAt Go.RowKit

set_option maxRecDepth 100000 in
/-- A struct of six ints and two strings, by value. -/
theorem open_msg {H : Type} {enc : TypeId × Value → H} {W : World} {base : Nat} {v : Value} {d : DataW H} {p : List MemPlace} (hv : Value.okWide Try.prog W .any base 33 v) (h : DataW.Trod enc Try.prog W 0 (fun _ => true) true 33 v d p) :
    ∃ x : M, v = .agg x.cells := by
  obtain ⟨v0, v1, v2, v3, v4, v5, v6, v7, y0, y1, y2, y3, y4, y5, y6, y7, n, rfl, h0, h1, h2, h3, h4, h5, h6, h7⟩ := open_agg8 Try.underlying33 (by kernel_rfl) (by kernel_rfl) hv h
  obtain ⟨k0, e0, _⟩ := DataW.trod_int (by exact Try.underlying25) h0
  obtain ⟨k1, e1, _⟩ := DataW.trod_int Try.underlying3 h1
  obtain ⟨k2, e2, _⟩ := DataW.trod_int Try.underlying3 h2
  obtain ⟨k3, e3, _⟩ := DataW.trod_int Try.underlying3 h3
  obtain ⟨k4, e4, _⟩ := DataW.trod_int Try.underlying3 h4
  obtain ⟨k5, e5, _⟩ := DataW.trod_int Try.underlying3 h5
  obtain ⟨s6, e6, _⟩ := DataW.trod_string Try.underlying9 h6
  obtain ⟨s7, e7, _⟩ := DataW.trod_string Try.underlying9 h7
  simp only [List.cons.injEq, and_true] at e0 e1 e2 e3 e4 e5 e6 e7
  subst e0 e1 e2 e3 e4 e5 e6 e7
  exact ⟨⟨k0, k1, k2, k3, k4, k5, s6, s7⟩, rfl⟩
end Go.Proofs.Ytcjmdkklbbollaa
