import Derived.Test.YtdkfkdekiljcoaaU
import Derived.Test.YtdkfkdekiljcoaaFk
set_option linter.unusedSimpArgs false
set_option linter.unusedVariables false
namespace Go.Proofs.Ytdkfkdekiljcoaa
open Go.RowKit
def lightB (m : M) : Bool := decide ((m.root.size : Int) < 100) && decide ((m.data.size : Int) < 5000)
set_option maxRecDepth 20000 in
set_option maxHeartbeats 4000000 in
theorem light_p0 (k i1 i2 i3 i4 i5 : Int) (root data : ByteArray)  (w : World) : Calls Try.prog 18 #[.agg #[.int .i64 k, .int .i64 i1, .int .i64 i2, .int .i64 i3, .int .i64 i4, .int .i64 i5, .string root, .string data]] w fun e w' => e = .returned (.bool (lightB ⟨k, i1, i2, i3, i4, i5, root, data⟩)) ∧ S w' [Old w no] := by
 have H0 := S.old w
 refine enter 13 Try.func18 rfl rfl rfl ?_
 refine g_weak [(0, .agg #[.int .i64 k, .int .i64 i1, .int .i64 i2, .int .i64 i3, .int .i64 i4, .int .i64 i5, .string root, .string data])] ⟨rfl, trivial⟩ ?_
 refine w_s ?_
 refine l_of (s_box H0 (wt0 rfl) rfl rfl rfl rfl ?_)
 intro g1 wq2 (H3 : S wq2 [Ob g1 (.cells #[.int .i64 k, .int .i64 i1, .int .i64 i2, .int .i64 i3, .int .i64 i4, .int .i64 i5, .string root, .string data] 33 (0, 0)), Old w no])
 refine w_a ?_
 refine w_e ?_
 refine w_s ?_
 refine w_f 6 ?_
 refine w_1 H3 0 ?_
 refine w_v (v := .int .i64 ((root.size : Int))) (x_lens rfl rfl Try.underlying9) ?_
 refine w_b ?_
 refine w_m ?_
 by_cases hb4 : ((root.size : Int) : Int) < 100
 ·
  refine w_g (decide_eq_true hb4) (xf 7) ?_
  refine w_g (decide_eq_true hb4) (xl H3 0) ?_
  refine w_g (v := .int .i64 ((data.size : Int))) (decide_eq_true hb4) (x_lens rfl rfl Try.underlying9) ?_
  refine w_g (decide_eq_true hb4) (x_bin rfl rfl rfl b_lss) ?_
  refine w_v (v := .bool (decide (((data.size : Int) : Int) < 5000))) (x_pick_t rfl rfl (decide_eq_true hb4) rfl) ?_
  refine w_a ?_
  refine w_e ?_
  refine g_weak [(2, .bool (decide (((data.size : Int) : Int) < 5000)))] ⟨rfl, trivial⟩ ?_
  refine g_ret ?_
  refine fin_ret [.tmp 2] [.bool (decide (((data.size : Int) : Int) < 5000))] rfl ⟨rfl, trivial⟩ ?_
  exact ⟨by simp only [tupled, lightB]; simp [hb4], H3.mask [false, true]⟩
 ·
  refine w_n (decide_eq_false hb4) ?_
  refine w_n (decide_eq_false hb4) ?_
  refine w_n (decide_eq_false hb4) ?_
  refine w_n (decide_eq_false hb4) ?_
  refine w_v (v := .bool false) (x_pick_f rfl rfl (decide_eq_false hb4) rfl) ?_
  refine w_a ?_
  refine w_e ?_
  refine g_weak [(2, .bool false)] ⟨rfl, trivial⟩ ?_
  refine g_ret ?_
  refine fin_ret [.tmp 2] [.bool false] rfl ⟨rfl, trivial⟩ ?_
  exact ⟨by simp only [tupled, lightB]; simp [hb4], H3.mask [false, true]⟩
theorem light_p (m : M) (w : World) : Calls Try.prog 18 #[.agg m.cells] w fun e w' => e = .returned (.bool (lightB m)) ∧ S w' [Old w no] := by
  obtain ⟨k, i1, i2, i3, i4, i5, root, data⟩ := m
  exact light_p0 k i1 i2 i3 i4 i5 root data w
end Go.Proofs.Ytdkfkdekiljcoaa
