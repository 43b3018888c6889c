import Derived.Test.YtcjmdkklbbollaaBQ
set_option linter.unusedSimpArgs false
set_option linter.unusedVariables false
namespace Go.Proofs.Ytcjmdkklbbollaa
open Go.RowKit

set_option maxRecDepth 20000 in
set_option maxHeartbeats 4000000 in
set_option maxRecDepth 20000 in
set_option maxHeartbeats 4000000 in
theorem feed_bp (gr : Nat) (r : Rdr) {B : Nat} (hr : r.Ok B) (s : ByteArray) (h65 : (65536 : Int) < (s.size : Int)) (p1 p2 : Option Addr) (c1 c2 : Nat) (w : World) (HB : S w (rdL gr r p1 c1 p2 c2)) :
    Calls Try.prog 33 #[.pointer (some ⟨gr, 0, none⟩), .string s] w fun e w' => e = .returned (.int .i64 (feedR r s).2) ∧ ∃ p1' c1' p2' c2', S w' (rdL gr (feedR r s).1 p1' c1' p2' c2' ++ [Old w (fps (rdL gr r p1 c1 p2 c2))]) := by
  have H0 : S w [Ob gr (.cells #[.slice p1 r.ms.length c1, .slice p2 r.ms.length c2, .int .i64 (r.bytes), .bool r.greet, .bool r.hello.e, .bool r.hello.f, .bool r.hello.n, .string (r.hello.name), .string (r.hello.peer), .bool r.told, .string (r.left), .int .i64 (r.done), .int .i64 (r.wrong)] 108 (0, 0)), Rw 33 8 p1 r.ms.length c1 (msgsV r.ms), Rw 3 1 p2 r.ms.length c2 (zsV r.zs), Old w (fps (rdL gr r p1 c1 p2 c2))] := HB.beginI
  refine enter 49 Try.func33 rfl rfl rfl ?_
  refine g_weak [(0, .pointer (some ⟨gr, 0, none⟩)), (1, .string s)] ⟨rfl, rfl, trivial⟩ ?_
  refine g_seq ?_
  refine g_region ?_
  refine l_of (s_val (v := .int .i64 0) (wt0 rfl) rfl rfl (x_assign rfl rfl) ?_)
  refine g_nil ?_
  refine g_then ?_
  refine g_seq ?_
  refine g_block ?_
  refine g_seq ?_
  refine g_region ?_
  refine l_of (s_val (v := .pointer (some ⟨gr, 0, none⟩)) (wt0 rfl) rfl rfl (x_move rfl rfl) ?_)
  refine l_of (s_val (v := .bool false) (wt0 rfl) rfl rfl (x_bin rfl rfl rfl (b_eqN (r := false) Try.underlying48 rfl)) ?_)
  refine l_of (s_val (v := .bool false) (wt0 rfl) rfl rfl (x_assign rfl rfl) ?_)
  refine g_nil ?_
  refine g_then ?_
  refine g_cond_f rfl rfl ?_
  refine g_seq ?_
  refine g_region ?_
  refine l_of (s_val (v := .string s) (wt0 rfl) rfl rfl (x_move rfl rfl) ?_)
  refine l_of (s_val (v := .int .i64 ((s.size : Int))) (wt0 rfl) rfl rfl (x_lens rfl rfl Try.underlying9) ?_)
  refine l_of (s_val (v := .bool (decide ((65536 : Int) < (s.size : Int)))) (wt0 rfl) rfl rfl (x_bin rfl rfl rfl b_gtr) ?_)
  refine l_of (s_val (v := .bool (decide ((65536 : Int) < (s.size : Int)))) (wt0 rfl) rfl rfl (x_assign rfl rfl) ?_)
  refine g_nil ?_
  refine g_then ?_
  refine g_cond_t rfl (decide_eq_true h65) ?_
  refine g_seq ?_
  refine g_region ?_
  refine l_of (s_val (v := .int .i64 3) (wt0 rfl) rfl rfl (x_assign rfl rfl) ?_)
  refine g_nil ?_
  refine g_then ?_
  refine g_ret ?_
  refine g_in_ret ?_
  refine g_then_ret ?_
  refine fin_ret [.tmp 4] [.int .i64 3] rfl ⟨rfl, trivial⟩ ?_
  have hq : feedR r s = (r, 3) := by unfold feedR; rw [if_pos h65]
  rw [hq]
  exact ⟨rfl, p1, c1, p2, c2, H0.mask [true, true, true, true]⟩
set_option maxRecDepth 20000 in
set_option maxHeartbeats 4000000 in
set_option maxRecDepth 20000 in
set_option maxHeartbeats 4000000 in
theorem feed_br (gw : Nat) (g : Bool) (fed : ByteArray) (t : Nat) (s : ByteArray) (h65 : (65536 : Int) < (s.size : Int)) (w : World) (HB : S w [Ob gw (.cells #[.bool g, .string fed, .int .i64 (t : Int)] 113 (0, 0))]) : Calls Try.prog 37 #[.pointer (some ⟨gw, 0, none⟩), .string s] w fun e w' => e = .returned (.int .i64 (feedS g fed t s).2) ∧ S w' ([Ob gw (.cells (rfC g (feedS g fed t s).1 t) 113 (0, 0))] ++ [Old w (fps [Ob gw (.cells #[.bool g, .string fed, .int .i64 (t : Int)] 113 (0, 0))])]) := by
  have H0 : S w [Ob gw (.cells #[.bool g, .string fed, .int .i64 ((t : Int))] 113 (0, 0)), Old w (fps [Ob gw (.cells #[.bool g, .string fed, .int .i64 (t : Int)] 113 (0, 0))])] := HB.beginI
  refine enter 54 Try.func37 rfl rfl rfl ?_
  refine g_weak [(0, .pointer (some ⟨gw, 0, none⟩)), (1, .string s)] ⟨rfl, rfl, trivial⟩ ?_
  refine g_seq ?_
  refine g_region ?_
  refine l_of (s_val (v := .int .i64 0) (wt0 rfl) rfl rfl (x_assign rfl rfl) ?_)
  refine g_nil ?_
  refine g_then ?_
  refine g_seq ?_
  refine g_seq ?_
  refine g_region ?_
  refine l_of (s_val (v := .string s) (wt0 rfl) rfl rfl (x_move rfl rfl) ?_)
  refine l_of (s_val (v := .int .i64 ((s.size : Int))) (wt0 rfl) rfl rfl (x_lens rfl rfl Try.underlying9) ?_)
  refine l_of (s_val (v := .bool (decide ((65536 : Int) < (s.size : Int)))) (wt0 rfl) rfl rfl (x_bin rfl rfl rfl b_gtr) ?_)
  refine g_nil ?_
  refine g_then ?_
  refine g_cond_t rfl (decide_eq_true h65) ?_
  refine g_seq ?_
  refine g_region ?_
  refine l_of (s_val (v := .int .i64 3) (wt0 rfl) rfl rfl (x_assign rfl rfl) ?_)
  refine g_nil ?_
  refine g_then ?_
  refine g_ret ?_
  refine g_then_ret ?_
  refine fin_ret [.tmp 4] [.int .i64 3] rfl ⟨rfl, trivial⟩ ?_
  have hfs : feedS g fed t s = (fed, 3) := by unfold feedS; rw [if_pos h65]
  rw [hfs]
  exact ⟨rfl, H0.mask [true, true]⟩
theorem feed_pp (gr : Nat) (r : Rdr) {B : Nat} (hr : r.Ok B) (s : ByteArray) (hB : B + 65536 ≤ 1099511627776) (p1 p2 : Option Addr) (c1 c2 : Nat) (w : World) (HB : S w (rdL gr r p1 c1 p2 c2)) :
    Calls Try.prog 33 #[.pointer (some ⟨gr, 0, none⟩), .string s] w fun e w' => e = .returned (.int .i64 (feedR r s).2) ∧ ∃ p1' c1' p2' c2', S w' (rdL gr (feedR r s).1 p1' c1' p2' c2' ++ [Old w (fps (rdL gr r p1 c1 p2 c2))]) := by
  by_cases h : (65536 : Int) < (s.size : Int)
  · exact feed_bp gr r hr s h p1 p2 c1 c2 w HB
  · exact feed_p gr r hr s (by omega) p1 p2 c1 c2 w HB
theorem feed_rr (gw : Nat) (g : Bool) (fed : ByteArray) (t : Nat) (s : ByteArray) (hf : fed.size + 65536 ≤ 1099511627776) (ht : t ≤ (wholeR g fed).list.length) (w : World) (HB : S w [Ob gw (.cells #[.bool g, .string fed, .int .i64 (t : Int)] 113 (0, 0))]) : Calls Try.prog 37 #[.pointer (some ⟨gw, 0, none⟩), .string s] w fun e w' => e = .returned (.int .i64 (feedS g fed t s).2) ∧ S w' ([Ob gw (.cells (rfC g (feedS g fed t s).1 t) 113 (0, 0))] ++ [Old w (fps [Ob gw (.cells #[.bool g, .string fed, .int .i64 (t : Int)] 113 (0, 0))])]) := by
  by_cases h : (65536 : Int) < (s.size : Int)
  · exact feed_br gw g fed t s h w HB
  · exact feed_r gw g fed t (by omega) ht s (by omega) w HB
end Go.Proofs.Ytcjmdkklbbollaa
