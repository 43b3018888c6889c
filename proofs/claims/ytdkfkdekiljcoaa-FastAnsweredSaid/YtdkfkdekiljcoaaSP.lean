import Derived.Test.YtdkfkdekiljcoaaSO
set_option linter.unusedSimpArgs false
set_option linter.unusedVariables false
namespace Go.Proofs.Ytdkfkdekiljcoaa
open Go.RowKit

set_option maxRecDepth 20000 in
set_option maxHeartbeats 4000000 in
set_option maxRecDepth 20000 in
set_option maxHeartbeats 4000000 in
theorem step1_p (ge : Nat) (y e0 : Int) (older : List PanicEntry) (w : World) (he : w.heap[ge]? = some (.cells #[.int .i64 e0] 28 (0, 0))) :
    CallsD Try.prog 30 #[.pointer (some ⟨ge, 0, none⟩)] (.panicking ({ v := .iface 72 (.int .i64 y), recovered := false } :: older)) w
      (fun e u' w' => (e = .returned (.tuple #[]) ∧ S w' [Ob ge (.cells #[.int .i64 y] 28 (0, 0)), Old w (fun i => i = ge)]) ∧ u' = .panicking ({ v := .iface 72 (.int .i64 y), recovered := true } :: older)) := by
  have H0 := S.begin1 he
  refine callsD_rec 16 Try.func30 rfl rfl rfl rfl rfl rfl rfl rfl rfl ?_
  refine g_weak [(0, .pointer (some ⟨ge, 0, none⟩)), (1, .iface 72 (.int .i64 y)), (4, .iface 72 (.int .i64 y))] ⟨rfl, rfl, rfl, trivial⟩ ?_
  refine g_seq ?_
  refine g_region ?_
  refine l_of (s_val (v := .iface 72 (.int .i64 y)) (wt0 rfl) rfl rfl (x_move rfl rfl) ?_)
  refine l_of (s_val (v := .bool true) (wt0 rfl) rfl rfl (x_bin rfl rfl rfl (b_neqHeld ifc20)) ?_)
  refine g_nil ?_
  refine g_then ?_
  refine g_cond_t rfl rfl ?_
  refine g_seq ?_
  refine g_region ?_
  refine l_of (s_val (v := .iface 72 (.int .i64 y)) (wt0 rfl) rfl rfl (x_move rfl rfl) ?_)
  refine l_of (s_val (v := .tuple #[.int .i64 y, .bool true]) (wt0 rfl) rfl rfl (x_assertOk rfl rfl Try.underlying72 rfl) ?_)
  refine l_of (s_val (v := .tuple #[.int .i64 y, .bool true]) (wt0 rfl) rfl rfl (x_move rfl rfl) ?_)
  refine l_of (s_val (v := .int .i64 y) (wt0 rfl) rfl rfl (x_extract rfl rfl rfl) ?_)
  refine l_of (s_val (v := .bool true) (wt0 rfl) rfl rfl (x_extract rfl rfl rfl) ?_)
  refine l_of (s_val (v := .int .i64 y) (wt0 rfl) rfl rfl (x_assign rfl rfl) ?_)
  refine l_of (s_val (v := .bool true) (wt0 rfl) rfl rfl (x_assign rfl rfl) ?_)
  refine g_nil ?_
  refine g_then ?_
  refine g_seq ?_
  refine g_seq ?_
  refine g_region ?_
  refine l_of (s_val (v := .bool true) (wt0 rfl) rfl rfl (x_move rfl rfl) ?_)
  refine l_of (s_val (v := .bool false) (wt0 rfl) rfl rfl (x_not (b := true) rfl rfl) ?_)
  refine g_nil ?_
  refine g_then ?_
  refine g_cond_f rfl rfl ?_
  refine g_skip ?_
  refine g_then ?_
  refine g_weak [(0, .pointer (some ⟨ge, 0, none⟩)), (2, .int .i64 y)] ⟨rfl, rfl, trivial⟩ ?_
  refine g_region ?_
  refine l_of (s_val (v := .int .i64 y) (wt0 rfl) rfl rfl (x_move rfl rfl) ?_)
  refine l_of (s_store H0 0 (wt0 rfl) rfl rfl rfl rfl rfl sz28 rfl rfl (cs' := #[.int .i64 y]) rfl ?_)
  intro wq1 H2
  refine g_nil ?_
  refine fin_end [] [] rfl trivial ?_
  exact ⟨⟨rfl, H2.mask [true, true]⟩, rfl⟩
set_option maxRecDepth 20000 in
set_option maxHeartbeats 4000000 in
set_option maxRecDepth 20000 in
theorem step1_n (ge : Nat) (w : World) : CallsD Try.prog 30 #[.pointer (some ⟨ge, 0, none⟩)] .returning w
      (fun e u' w' => (e = .returned (.tuple #[]) ∧ S w' [Old w no]) ∧ u' = .returning) := by
  have H0 := S.old w
  refine callsD_rec 16 Try.func30 rfl rfl rfl rfl rfl rfl rfl rfl rfl ?_
  refine g_weak [(0, .pointer (some ⟨ge, 0, none⟩)), (1, .nilIface), (4, .nilIface)] ⟨rfl, rfl, rfl, trivial⟩ ?_
  refine g_seq ?_
  refine g_region ?_
  refine l_of (s_val (v := .nilIface) (wt0 rfl) rfl rfl (x_move rfl rfl) ?_)
  refine l_of (s_val (v := .bool false) (wt0 rfl) rfl rfl (x_bin rfl rfl rfl (b_neqNil ifc20)) ?_)
  refine g_nil ?_
  refine g_then ?_
  refine g_cond_f rfl rfl ?_
  refine g_skip ?_
  refine fin_end [] [] rfl trivial ?_
  exact ⟨⟨rfl, H0.mask [true]⟩, rfl⟩
end Go.Proofs.Ytdkfkdekiljcoaa
