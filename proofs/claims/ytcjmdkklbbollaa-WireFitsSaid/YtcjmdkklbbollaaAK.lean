import Derived.Test.YtcjmdkklbbollaaAJ
set_option linter.unusedSimpArgs false
set_option linter.unusedVariables false
namespace Go.Proofs.Ytcjmdkklbbollaa
open Go.RowKit

theorem b_msgN {xo yo : Operand} {w : World} (a b : M) : Bin Try.prog .neq 33 xo yo (.agg a.cells) (.agg b.cells) w (.bool (!decide (a = b))) := by
  unfold Bin
  simp only [Sem.run_bind, run_eqGuard_agg w .neq 33 xo yo a.cells b.cells eqg33, Result.andThen_ok]
  exact msg_neq a b w
theorem b_msgE {xo yo : Operand} {w : World} (a b : M) : Bin Try.prog .eql 33 xo yo (.agg a.cells) (.agg b.cells) w (.bool (decide (a = b))) := by
  unfold Bin
  simp only [Sem.run_bind, run_eqGuard_agg w .eql 33 xo yo a.cells b.cells eqg33, Result.andThen_ok]
  exact msg_eql a b w
def lightB (m : M) : Bool := decide ((m.root.size : Int) < 100) && decide ((m.data.size : Int) < 5000)
set_option maxRecDepth 20000 in
set_option maxHeartbeats 4000000 in
theorem light_p0 (k i1 i2 i3 i4 i5 : Int) (root data : ByteArray)  (w : World) : Calls Try.prog 17 #[.agg #[.int .i64 k, .int .i64 i1, .int .i64 i2, .int .i64 i3, .int .i64 i4, .int .i64 i5, .string root, .string data]] w fun e w' => e = .returned (.bool (lightB ⟨k, i1, i2, i3, i4, i5, root, data⟩)) ∧ S w' [Old w no] := by
  have H0 := S.old w
  refine enter 13 Try.func17 rfl rfl rfl ?_
  refine g_weak [(0, .agg #[.int .i64 k, .int .i64 i1, .int .i64 i2, .int .i64 i3, .int .i64 i4, .int .i64 i5, .string root, .string data])] ⟨rfl, trivial⟩ ?_
  refine g_seq ?_
  refine g_region ?_
  refine l_of (s_box H0 (wt0 rfl) rfl rfl rfl rfl ?_)
  intro g1 wq2 (H3 : S wq2 [Ob g1 (.cells #[.int .i64 k, .int .i64 i1, .int .i64 i2, .int .i64 i3, .int .i64 i4, .int .i64 i5, .string root, .string data] 33 (0, 0)), Old w no])
  refine l_of (s_val (v := .bool false) (wt0 rfl) rfl rfl (x_assign rfl rfl) ?_)
  refine g_nil ?_
  refine g_then ?_
  refine g_seq ?_
  refine g_region ?_
  refine l_of (s_val (v := .pointer (some ⟨g1, 6, none⟩)) (wt0 rfl) rfl rfl (x_fieldAddr rfl rfl fo33_6 rfl) ?_)
  refine l_of (s_val (v := .string root) (wt0 rfl) rfl rfl (x_load1 H3 0 rfl rfl Try.underlying9 rfl rfl rfl) ?_)
  refine l_of (s_val (v := .int .i64 ((root.size : Int))) (wt0 rfl) rfl rfl (x_lens rfl rfl Try.underlying9) ?_)
  refine l_of (s_val (v := .bool (decide (((root.size : Int) : Int) < 100))) (wt0 rfl) rfl rfl (x_bin rfl rfl rfl b_lss) ?_)
  refine l_of (s_val (v := .bool (decide (((root.size : Int) : Int) < 100))) (wt0 rfl) rfl rfl (x_move rfl rfl) ?_)
  by_cases hb4 : ((root.size : Int) : Int) < 100
  · skip
    refine l_of (s_val (v := .pointer (some ⟨g1, 7, none⟩)) (wt1 rfl rfl rfl rfl (decide_eq_true hb4)) rfl rfl (x_fieldAddr rfl rfl fo33_7 rfl) ?_)
    refine l_of (s_val (v := .string data) (wt1 rfl rfl rfl rfl (decide_eq_true hb4)) rfl rfl (x_load1 H3 0 rfl rfl Try.underlying9 rfl rfl rfl) ?_)
    refine l_of (s_val (v := .int .i64 ((data.size : Int))) (wt1 rfl rfl rfl rfl (decide_eq_true hb4)) rfl rfl (x_lens rfl rfl Try.underlying9) ?_)
    refine l_of (s_val (v := .bool (decide (((data.size : Int) : Int) < 5000))) (wt1 rfl rfl rfl rfl (decide_eq_true hb4)) rfl rfl (x_bin rfl rfl rfl b_lss) ?_)
    refine l_of (s_val (v := .bool (decide (((data.size : Int) : Int) < 5000))) (wt0 rfl) rfl rfl (x_pick_t rfl rfl (decide_eq_true hb4) rfl) ?_)
    refine l_of (s_val (v := .bool (decide (((data.size : Int) : Int) < 5000))) (wt0 rfl) rfl rfl (x_assign rfl rfl) ?_)
    refine g_nil ?_
    refine g_then ?_
    refine g_weak [(2, .bool (decide (((data.size : Int) : Int) < 5000)))] ⟨rfl, trivial⟩ ?_
    refine g_ret ?_
    refine fin_ret [.tmp 2] [.bool (decide (((data.size : Int) : Int) < 5000))] rfl ⟨rfl, trivial⟩ ?_
    exact ⟨by simp only [tupled, lightB]; simp [hb4], H3.mask [false, true]⟩
  · skip
    refine l_of (s_not (wn1 rfl rfl rfl rfl (decide_eq_false hb4)) rfl rfl ?_)
    refine l_of (s_not (wn1 rfl rfl rfl rfl (decide_eq_false hb4)) rfl rfl ?_)
    refine l_of (s_not (wn1 rfl rfl rfl rfl (decide_eq_false hb4)) rfl rfl ?_)
    refine l_of (s_not (wn1 rfl rfl rfl rfl (decide_eq_false hb4)) rfl rfl ?_)
    refine l_of (s_val (v := .bool false) (wt0 rfl) rfl rfl (x_pick_f rfl rfl (decide_eq_false hb4) rfl) ?_)
    refine l_of (s_val (v := .bool false) (wt0 rfl) rfl rfl (x_assign rfl rfl) ?_)
    refine g_nil ?_
    refine g_then ?_
    refine g_weak [(2, .bool false)] ⟨rfl, trivial⟩ ?_
    refine g_ret ?_
    refine fin_ret [.tmp 2] [.bool false] rfl ⟨rfl, trivial⟩ ?_
    exact ⟨by simp only [tupled, lightB]; simp [hb4], H3.mask [false, true]⟩
theorem light_p (m : M) (w : World) : Calls Try.prog 17 #[.agg m.cells] w fun e w' => e = .returned (.bool (lightB m)) ∧ S w' [Old w no] := by
  obtain ⟨k, i1, i2, i3, i4, i5, root, data⟩ := m
  exact light_p0 k i1 i2 i3 i4 i5 root data w
end Go.Proofs.Ytcjmdkklbbollaa
