import Derived.Test.YtcjmdkklbbollaaW
set_option linter.unusedSimpArgs false
set_option linter.unusedVariables false
namespace Go.Proofs.Ytcjmdkklbbollaa
open Go.RowKit

/-- The number in four bytes. -/
def rd4 (s : ByteArray) : Nat := ((bt s 0 * 256 + bt s 1) * 256 + bt s 2) * 256 + bt s 3
set_option maxRecDepth 20000 in
set_option maxHeartbeats 1000000 in
theorem read4_r (s : ByteArray) (hs : 4 ≤ s.size) (w : World) : Calls Try.prog 57 #[.string s] w fun e w' => e = .returned (.int .i64 (rd4 s)) ∧ w = w' := by
  have b0 := bt_get s 0 (by omega)
  have b1 := bt_get s 1 (by omega)
  have b2 := bt_get s 2 (by omega)
  have b3 := bt_get s 3 (by omega)
  have x0 := bt_lt s 0
  have x1 := bt_lt s 1
  have x2 := bt_lt s 2
  have x3 := bt_lt s 3
  have g0 : (0 : Int) < s.size := by omega
  have g1 : (1 : Int) < s.size := by omega
  have g2 : (2 : Int) < s.size := by omega
  have g3 : (3 : Int) < s.size := by omega
  have n0 : 0 < s.size := by omega
  have n1 : 1 < s.size := by omega
  have n2 : 2 < s.size := by omega
  have n3 : 3 < s.size := by omega
  unfold rd4
  generalize bt s 0 = y0 at *
  generalize bt s 1 = y1 at *
  generalize bt s 2 = y2 at *
  generalize bt s 3 = y3 at *
  go_enter Try.func57, Try.ntmps57
  go_wp2_with fail
  refine wp_loop_rounds 5 ?_
  iterate 5 (rw [rounds_succ]; go_wp2_with fail)
  go_ret
  exact ⟨by simp, rfl⟩
end Go.Proofs.Ytcjmdkklbbollaa
