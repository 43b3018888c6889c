import Derived.Test.YtdkfkdekiljcoaaSN
set_option linter.unusedSimpArgs false
set_option linter.unusedVariables false
namespace Go.Proofs.Ytdkfkdekiljcoaa
open Go.RowKit

theorem fo75_1 : foO Try.prog 75 1 = some 1 := by kernel_rfl
/-- The block that a message is about. -/
def blk (m : M) : Ch := ⟨m.i1, m.i2, if m.kind = 9 then (m.data.size : Int) else m.i3⟩
set_option maxRecDepth 20000 in
set_option maxHeartbeats 4000000 in
theorem block_o (sg : Nat) (o : Bool) (m : M) (w : World) : Calls Try.prog 51 #[.agg #[.pointer (some ⟨sg, 0, none⟩), .int .i64 (m.kind), .int .i64 (m.i1), .int .i64 (m.i2), .int .i64 (m.i3), .int .i64 (m.i4), .int .i64 (m.i5), .string (m.root), .string (m.data), .pointer (some ⟨sg, offO o, none⟩), .pointer (some ⟨sg, offP o, none⟩)]] w fun e w' => e = .returned (.agg (blk m).cells) ∧ S w' [Old w no] := by
 have H0 := S.old w
 refine enter 23 Try.func51 rfl rfl rfl ?_
 refine g_weak [(0, .agg #[.pointer (some ⟨sg, 0, none⟩), .int .i64 (m.kind), .int .i64 (m.i1), .int .i64 (m.i2), .int .i64 (m.i3), .int .i64 (m.i4), .int .i64 (m.i5), .string (m.root), .string (m.data), .pointer (some ⟨sg, offO o, none⟩), .pointer (some ⟨sg, offP o, none⟩)])] ⟨rfl, trivial⟩ ?_
 refine w_s ?_
 refine l_of (s_box H0 (wt0 rfl) rfl rfl rfl rfl ?_)
 intro g1 wq2 H3
 refine l_of (s_alloc H3 (wt0 rfl) rfl rfl rfl ze49 ?_)
 intro g4 wq5 H6
 refine w_e ?_
 refine w_s ?_
 refine w_r2 ?_
 refine w_1 H6 1 ?_
 refine w_a ?_
 refine w_e ?_
 refine g_seq ?_
 refine w_s ?_
 refine w_r2 ?_
 refine w_1 H6 1 ?_
 refine w_b ?_
 refine w_e ?_
 by_cases hb7 : (m.kind : Int) = 9
 ·
  refine g_cond_t rfl (decide_eq_true hb7) ?_
  refine g_region ?_
  refine w_r2 ?_
  refine w_1 H6 1 ?_
  refine w_v (v := .int .i64 ((m.data.size : Int))) (x_lens rfl rfl Try.underlying9) ?_
  refine w_a ?_
  refine w_e ?_
  refine g_weak [(1, .pointer (some ⟨g1, 0, none⟩)), (2, .pointer (some ⟨g4, 0, none⟩)), (3, .int .i64 ((m.data.size : Int)))] ⟨rfl, rfl, rfl, trivial⟩ ?_
  refine w_s ?_
  refine w_r2 ?_
  refine w_1 H6 1 ?_
  refine w_r2 ?_
  refine w_1 H6 1 ?_
  refine w_m ?_
  refine w_v (v := .agg #[.int .i64 (m.i1), .int .i64 (m.i2), .int .i64 ((m.data.size : Int))]) (x_build (vs := [.int .i64 (m.i1), .int .i64 (m.i2), .int .i64 ((m.data.size : Int))]) rfl rfl (cells := #[.int .i64 (m.i1), .int .i64 (m.i2), .int .i64 ((m.data.size : Int))]) (by kernel_rfl)) ?_
  refine l_of (w_st #[.int .i64 (m.i1), .int .i64 (m.i2), .int .i64 ((m.data.size : Int))] H6 0 ?_)
  intro wq8 H9
  refine w_e ?_
  refine g_ret ?_
  refine fin_ret [.cell 2 49] [.agg #[.int .i64 (m.i1), .int .i64 (m.i2), .int .i64 ((m.data.size : Int))]] rfl ⟨⟨_, rfl, run_loadA (H9.ob (k := 0) rfl) Try.underlying49 rfl sz49 rfl rfl⟩, trivial⟩ ?_
  have hb : blk m = ⟨m.i1, m.i2, (m.data.size : Int)⟩ := by unfold blk; rw [if_pos hb7]
  exact ⟨by rw [hb]; rfl, H9.mask [false, false, true]⟩
 ·
  refine g_cond_f rfl (decide_eq_false hb7) ?_
  refine g_skip ?_
  refine g_then ?_
  refine w_s ?_
  refine w_r2 ?_
  refine w_1 H6 1 ?_
  refine w_r2 ?_
  refine w_1 H6 1 ?_
  refine w_m ?_
  refine w_v (v := .agg #[.int .i64 (m.i1), .int .i64 (m.i2), .int .i64 (m.i3)]) (x_build (vs := [.int .i64 (m.i1), .int .i64 (m.i2), .int .i64 (m.i3)]) rfl rfl (cells := #[.int .i64 (m.i1), .int .i64 (m.i2), .int .i64 (m.i3)]) (by kernel_rfl)) ?_
  refine l_of (w_st #[.int .i64 (m.i1), .int .i64 (m.i2), .int .i64 (m.i3)] H6 0 ?_)
  intro wq10 H11
  refine w_e ?_
  refine g_weak [(2, .pointer (some ⟨g4, 0, none⟩))] ⟨rfl, trivial⟩ ?_
  refine g_ret ?_
  refine fin_ret [.cell 2 49] [.agg #[.int .i64 (m.i1), .int .i64 (m.i2), .int .i64 (m.i3)]] rfl ⟨⟨_, rfl, run_loadA (H11.ob (k := 0) rfl) Try.underlying49 rfl sz49 rfl rfl⟩, trivial⟩ ?_
  have hb : blk m = ⟨m.i1, m.i2, m.i3⟩ := by unfold blk; rw [if_neg hb7]
  exact ⟨by rw [hb]; rfl, H11.mask [false, false, true]⟩
end Go.Proofs.Ytdkfkdekiljcoaa
