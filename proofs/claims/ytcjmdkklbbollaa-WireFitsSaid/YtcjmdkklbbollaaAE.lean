import Derived.Test.YtcjmdkklbbollaaAD
import Derived.Test.YtcjmdkklbbollaaEd
set_option linter.unusedSimpArgs false
set_option linter.unusedVariables false
namespace Go.Proofs.Ytcjmdkklbbollaa
open Go.RowKit

theorem fo90_0 : foO Try.prog 90 0 = some 0 := by kernel_rfl
theorem fo90_1 : foO Try.prog 90 1 = some 1 := by kernel_rfl
theorem ifc20 : Try.prog.underlying 20 = some (.interface (Try.prog.methodsAt 20)) := by kernel_rfl
theorem sz25 : szO Try.prog 25 = some 1 := by kernel_rfl
theorem sz90 : szO Try.prog 90 = some 2 := by kernel_rfl
theorem ze90 : zeO Try.prog 90 = some (.agg #[.int .i64 0, .int .i64 0]) := by kernel_rfl
set_option maxRecDepth 20000 in
set_option maxHeartbeats 4000000 in
set_option maxRecDepth 20000 in
set_option maxHeartbeats 4000000 in
theorem caught_p (gb ge : Nat) (x y b0 e0 : Int) (older : List PanicEntry) (w : World) (hb : w.heap[gb]? = some (.cells #[.int .i64 b0] 3 (0, 0))) (he : w.heap[ge]? = some (.cells #[.int .i64 e0] 25 (0, 0))) (hne : gb ≠ ge) :
    CallsD Try.prog 51 #[.pointer (some ⟨gb, 0, none⟩), .pointer (some ⟨ge, 0, none⟩)] (.panicking ({ v := .iface 90 (.agg #[.int .i64 x, .int .i64 y]), recovered := false } :: older)) w
      (fun e u' w' => (e = .returned (.tuple #[]) ∧ S w' [Ob gb (.cells #[.int .i64 x] 3 (0, 0)), Ob ge (.cells #[.int .i64 y] 25 (0, 0)), Old w (fun i => i = gb ∨ i = ge)]) ∧ u' = .panicking ({ v := .iface 90 (.agg #[.int .i64 x, .int .i64 y]), recovered := true } :: older)) := by
  have H0 := S.begin2 hb he hne
  refine callsD_rec 26 Try.func51 rfl rfl rfl rfl rfl rfl rfl rfl rfl ?_
  refine g_weak [(0, .pointer (some ⟨gb, 0, none⟩)), (1, .pointer (some ⟨ge, 0, none⟩)), (4, .iface 90 (.agg #[.int .i64 x, .int .i64 y])), (7, .iface 90 (.agg #[.int .i64 x, .int .i64 y]))] ⟨rfl, rfl, rfl, rfl, trivial⟩ ?_
  refine g_seq ?_
  refine g_region ?_
  refine l_of (s_val (v := .iface 90 (.agg #[.int .i64 x, .int .i64 y])) (wt0 rfl) rfl rfl (x_move rfl rfl) ?_)
  refine l_of (s_val (v := .bool true) (wt0 rfl) rfl rfl (x_bin rfl rfl rfl (b_neqHeld ifc20)) ?_)
  refine g_nil ?_
  refine g_then ?_
  refine g_cond_t rfl rfl ?_
  refine g_seq ?_
  refine g_region ?_
  refine l_of (s_val (v := .iface 90 (.agg #[.int .i64 x, .int .i64 y])) (wt0 rfl) rfl rfl (x_move rfl rfl) ?_)
  refine l_of (s_val (v := .tuple #[.agg #[.int .i64 x, .int .i64 y], .bool true]) (wt0 rfl) rfl rfl (x_assertOk rfl rfl Try.underlying90 rfl) ?_)
  refine l_of (s_val (v := .tuple #[.agg #[.int .i64 x, .int .i64 y], .bool true]) (wt0 rfl) rfl rfl (x_move rfl rfl) ?_)
  refine l_of (s_val (v := .agg #[.int .i64 x, .int .i64 y]) (wt0 rfl) rfl rfl (x_extract rfl rfl rfl) ?_)
  refine l_of (s_val (v := .bool true) (wt0 rfl) rfl rfl (x_extract rfl rfl rfl) ?_)
  refine l_of (s_alloc H0 (wt0 rfl) rfl rfl rfl ze90 ?_)
  intro g1 w2 (H3 : S w2 [Ob g1 (.cells #[.int .i64 0, .int .i64 0] 90 (0, 0)), Ob gb (.cells #[.int .i64 b0] 3 (0, 0)), Ob ge (.cells #[.int .i64 e0] 25 (0, 0)), Old w (fun i => i = gb ∨ i = ge)])
  refine l_of (s_store H3 0 (wt0 rfl) rfl rfl rfl rfl rfl sz90 rfl rfl (cs' := #[.int .i64 x, .int .i64 y]) rfl ?_)
  intro w4 (H5 : S w4 [Ob g1 (.cells #[.int .i64 x, .int .i64 y] 90 (0, 0)), Ob gb (.cells #[.int .i64 b0] 3 (0, 0)), Ob ge (.cells #[.int .i64 e0] 25 (0, 0)), Old w (fun i => i = gb ∨ i = ge)])
  refine l_of (s_val (v := .bool true) (wt0 rfl) rfl rfl (x_assign rfl rfl) ?_)
  refine g_nil ?_
  refine g_then ?_
  refine g_seq ?_
  refine g_seq ?_
  refine g_region ?_
  refine l_of (s_val (v := .bool true) (wt0 rfl) rfl rfl (x_move rfl rfl) ?_)
  refine l_of (s_val (v := .bool false) (wt0 rfl) rfl rfl (x_not (b := true) rfl rfl) ?_)
  refine g_nil ?_
  refine g_then ?_
  refine g_cond_f rfl rfl ?_
  refine g_skip ?_
  refine g_then ?_
  refine g_weak [(0, .pointer (some ⟨gb, 0, none⟩)), (1, .pointer (some ⟨ge, 0, none⟩)), (5, .pointer (some ⟨g1, 0, none⟩))] ⟨rfl, rfl, rfl, trivial⟩ ?_
  refine g_any [] (fun wx => S wx [Ob g1 (.cells #[.int .i64 x, .int .i64 y] 90 (0, 0))]) [] (by kernel_rfl) H5 (fun w6 H7 => ?_)
  refine a_take (v := .pointer (some ⟨gb, 0, none⟩)) 0 rfl (wt0 rfl) rfl rfl rfl (by kernel_rfl) (by kernel_rfl) (by kernel_rfl) (by kernel_rfl) (H7.mask [true, false, false, false]) (fun wx H => x_move rfl rfl) ?_
  refine a_take (v := .pointer (some ⟨ge, 0, none⟩)) 1 rfl (wt0 rfl) rfl rfl rfl (by kernel_rfl) (by kernel_rfl) (by kernel_rfl) (by kernel_rfl) (H7.mask [true, false, false, false]) (fun wx H => x_move rfl rfl) ?_
  refine a_take (v := .pointer (some ⟨g1, 0, none⟩)) 2 rfl (wt0 rfl) rfl rfl rfl (by kernel_rfl) (by kernel_rfl) (by kernel_rfl) (by kernel_rfl) (H7.mask [true, false, false, false]) (fun wx H => x_fieldAddr rfl rfl fo90_0 rfl) ?_
  refine a_take (v := .int .i64 x) 3 rfl (wt0 rfl) rfl rfl rfl (by kernel_rfl) (by kernel_rfl) (by kernel_rfl) (by kernel_rfl) (H7.mask [true, false, false, false]) (fun wx H => x_load1 H 0 rfl rfl Try.underlying3 rfl rfl rfl) ?_
  refine a_take (v := .pointer (some ⟨g1, 1, none⟩)) 4 rfl (wt0 rfl) rfl rfl rfl (by kernel_rfl) (by kernel_rfl) (by kernel_rfl) (by kernel_rfl) (H7.mask [true, false, false, false]) (fun wx H => x_fieldAddr rfl rfl fo90_1 rfl) ?_
  refine a_take (v := .int .i64 y) 5 rfl (wt0 rfl) rfl rfl rfl (by kernel_rfl) (by kernel_rfl) (by kernel_rfl) (by kernel_rfl) (H7.mask [true, false, false, false]) (fun wx H => x_load1 H 0 rfl rfl Try.underlying25 rfl rfl rfl) ?_
  refine a_take (v := .pointer (some ⟨gb, 0, none⟩)) 6 rfl (wt0 rfl) rfl rfl rfl (by kernel_rfl) (by kernel_rfl) (by kernel_rfl) (by kernel_rfl) (H7.mask [true, false, false, false]) (fun wx H => x_nilCheck rfl rfl) ?_
  refine a_one (i := 7) (by kernel_rfl) rfl ?_
  refine s_store H7 1 (wt0 rfl) rfl rfl rfl rfl rfl sz3 rfl rfl (cs' := #[.int .i64 x]) rfl ?_
  intro w8 (H9 : S w8 [Ob g1 (.cells #[.int .i64 x, .int .i64 y] 90 (0, 0)), Ob gb (.cells #[.int .i64 x] 3 (0, 0)), Ob ge (.cells #[.int .i64 e0] 25 (0, 0)), Old w (fun i => i = gb ∨ i = ge)])
  refine a_k (H9.mask [true, false, false, false]) ?_
  refine a_take (v := .pointer (some ⟨ge, 0, none⟩)) 8 rfl (wt0 rfl) rfl rfl rfl (by kernel_rfl) (by kernel_rfl) (by kernel_rfl) (by kernel_rfl) (H9.mask [true, false, false, false]) (fun wx H => x_nilCheck rfl rfl) ?_
  refine a_one (i := 9) (by kernel_rfl) rfl ?_
  refine s_store H9 2 (wt0 rfl) rfl rfl rfl rfl rfl sz25 rfl rfl (cs' := #[.int .i64 y]) rfl ?_
  intro w10 (H11 : S w10 [Ob g1 (.cells #[.int .i64 x, .int .i64 y] 90 (0, 0)), Ob gb (.cells #[.int .i64 x] 3 (0, 0)), Ob ge (.cells #[.int .i64 y] 25 (0, 0)), Old w (fun i => i = gb ∨ i = ge)])
  refine a_k (H11.mask [true, false, false, false]) ?_
  refine a_done (by kernel_rfl) ?_
  refine fin_end [] [] rfl trivial ?_
  exact ⟨⟨rfl, H11.mask [false, true, true, true]⟩, rfl⟩
set_option maxRecDepth 20000 in
set_option maxHeartbeats 4000000 in
set_option maxRecDepth 20000 in
theorem caught_n (gb ge : Nat) (w : World) : CallsD Try.prog 51 #[.pointer (some ⟨gb, 0, none⟩), .pointer (some ⟨ge, 0, none⟩)] .returning w
      (fun e u' w' => (e = .returned (.tuple #[]) ∧ S w' [Old w no]) ∧ u' = .returning) := by
  have H0 := S.old w
  refine callsD_rec 26 Try.func51 rfl rfl rfl rfl rfl rfl rfl rfl rfl ?_
  refine g_weak [(0, .pointer (some ⟨gb, 0, none⟩)), (1, .pointer (some ⟨ge, 0, none⟩)), (4, .nilIface), (7, .nilIface)] ⟨rfl, rfl, rfl, rfl, trivial⟩ ?_
  refine g_seq ?_
  refine g_region ?_
  refine l_of (s_val (v := .nilIface) (wt0 rfl) rfl rfl (x_move rfl rfl) ?_)
  refine l_of (s_val (v := .bool false) (wt0 rfl) rfl rfl (x_bin rfl rfl rfl (b_neqNil ifc20)) ?_)
  refine g_nil ?_
  refine g_then ?_
  refine g_cond_f rfl rfl ?_
  refine g_skip ?_
  refine fin_end [] [] rfl trivial ?_
  exact ⟨⟨rfl, H0.mask [true]⟩, rfl⟩
end Go.Proofs.Ytcjmdkklbbollaa
