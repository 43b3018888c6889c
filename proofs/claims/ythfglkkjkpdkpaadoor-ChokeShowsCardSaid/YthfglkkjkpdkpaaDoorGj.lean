import Derived.Test.YthfglkkjkpdkpaaDoorGi
import Derived.Test.YthfglkkjkpdkpaaDoorRows
import Derived.LaidMore
import Derived.Lib.LaidTab
import Derived.MakeChecks
set_option linter.unusedSimpArgs false
set_option linter.unusedVariables false
namespace Go.Proofs.YthfglkkjkpdkpaaDoor
open Go.RowKit Go.Sort

/-! ## What is laid gives the table of powers -/
abbrev laid3 : List (String × DataW Unit) := [("math/bits.deBruijn32tab", Rows.laid_math_bits_deBruijn32tab), ("math/bits.deBruijn64tab", Rows.laid_math_bits_deBruijn64tab), ("internal/strconv.uint64pow10", Rows.laid_internal_strconv_uint64pow10)]
theorem pow_data : (Rows.laid_internal_strconv_uint64pow10 : DataW Unit) = Lib.tabData .u64 Lib.pow10Tab := by
  unfold Rows.laid_internal_strconv_uint64pow10 Lib.tabData Lib.pow10Tab
  rfl
theorem pow_at (g : Nat) (hg : Tryd.prog.globalNamed "internal/strconv.uint64pow10" = some g) (hty : (Tryd.prog.globals[g]?).map (·.type) = some 100) {W : World} (h : laidMet Tryd.prog [("internal/strconv.uint64pow10", Rows.laid_internal_strconv_uint64pow10)] W) : PowTab W := by
  rw [pow_data] at h
  exact Lib.tabIs_of_head (n := 20) (e := 78) hg hty Tryd.underlying100 Tryd.underlying78 (by kernel_rfl) (by kernel_rfl) h
theorem pow_of {W : World} (h : laidMetH Tryd.prog laid3 W) : PowTab W := by
  rw [MakeChecks.laidMetH_plain _ _ _ (by kernel_rfl)] at h
  obtain ⟨ps, ⟨g0, t0, cs0, f0, p0, q0, _, _, _, _, ⟨g1, t1, cs1, f1, p1, q1, _, _, _, _, h2, e1⟩, e0⟩, hnd, hc⟩ := h
  have hl : laidMet Tryd.prog [("internal/strconv.uint64pow10", Rows.laid_internal_strconv_uint64pow10)] W := by
    refine ⟨q1, h2, ?_, fun b off hb => hc b off (by rw [e0, e1]; exact List.mem_append_right _ (List.mem_append_right _ hb))⟩
    rw [e0, e1] at hnd
    exact (List.nodup_append.1 (List.nodup_append.1 hnd).2.1).2.1
  exact pow_at 1 (by kernel_rfl) (by kernel_rfl) hl
end Go.Proofs.YthfglkkjkpdkpaaDoor
