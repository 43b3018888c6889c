import Derived.Test.YtdkfkdekiljcoaaSL
set_option linter.unusedSimpArgs false
set_option linter.unusedVariables false
namespace Go.Proofs.Ytdkfkdekiljcoaa
open Go.RowKit

theorem laid_out : laidOutB Try.prog = true := by kernel_rfl
theorem ch_wide : (match Try.prog.underlying 49 with | some (.array _ _) | some (.struct _) => true | _ => false) = true := by rw [Try.underlying49]
set_option maxRecDepth 100000 in
theorem ch_law : Go.WideMaps.KeyLaw Try.prog 49 := deep_law_laid laid_out (m := 3) (by omega) (of_decide_eq_true (by kernel_rfl)) (by kernel_rfl) ch_wide
theorem cells_ch : Try.prog.cellsOf 49 = 3 := by kernel_rfl
theorem cells_int : Try.prog.cellsOf 3 = 1 := by kernel_rfl
theorem size_ch : ∃ s, Try.prog.types.size = s + 1 := ⟨_, (by kernel_rfl : Try.prog.types.size = (Try.prog.types.size - 1) + 1)⟩
theorem int_lit {x : Int} (h : inI x) : (Lit.int .i64 x).wf = true := by
  have h1 : IntKind.i64.max = 9223372036854775807 := by decide
  have h2 : IntKind.i64.min = -9223372036854775808 := by decide
  unfold inI at h
  simp [Lit.wf, h1, h2]; omega
theorem chK_inj {x y : Ch} (h : chK x = chK y) : x = y := by
  obtain ⟨a, b, c⟩ := x
  obtain ⟨d, e, f⟩ := y
  unfold chK at h
  simp at h
  obtain ⟨h1, h2, h3⟩ := h
  subst h1; subst h2; subst h3; rfl
theorem ch_key {x : Ch} (h : chOk x) : ∃ l, keyOf Try.prog 49 (chK x) = some l := by
  obtain ⟨g1, g2, g3⟩ := h
  have h1 : ∀ d (n : Int), inI n → Try.prog.keyLits (d + 1) 3 [.int .i64 n] = some [.int .i64 n] := fun d n hn => by
    simp [Program.keyLits, Try.underlying3, int_lit hn]
  obtain ⟨s, hs⟩ := size_ch
  have hk : Try.prog.keyType 49 = true := by kernel_rfl
  unfold keyOf
  rw [Try.underlying49]
  simp only [hk, Bool.true_and]
  have hf : (chK x).formed Try.prog 49 = true := by simp [chK, Value.formed, Try.underlying49, cells_ch]
  rw [if_pos hf, hs]
  simp [Program.keyLits, Try.underlying49, cells_ch, cells_int, chK, Value.cells, h1 _ _ g1, h1 _ _ g2, h1 _ _ g3, int_lit g1, int_lit g2, int_lit g3]
theorem goneT : MapTy Try.prog 52 49 4 chK chOk := ⟨Try.underlying52, .of_law ch_law, fun x hx => ch_key hx, fun x y _ _ h => chK_inj h⟩
end Go.Proofs.Ytdkfkdekiljcoaa
