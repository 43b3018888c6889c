import Derived.Test.YtcjmdkklbbollaaAE
set_option linter.unusedSimpArgs false
set_option linter.unusedVariables false
namespace Go.Proofs.Ytcjmdkklbbollaa
open Go.RowKit

set_option maxRecDepth 20000 in
set_option maxHeartbeats 4000000 in
theorem lack_p (g1 : Nat) (s : ByteArray) (n : Int) (w : World) (hs : w.cell? ⟨g1, 0, none⟩ = some (.string s)) (h : (s.size : Int) < n) : Calls Try.prog 52 #[.int .i64 n, .pointer (some ⟨g1, 0, none⟩)] w fun e w' => e = .panicked [{ v := .iface 90 (.agg #[.int .i64 s.size, .int .i64 8]), recovered := false }] ∧ S w' [Old w no] := by
  have H0 := S.old w
  refine enter 11 Try.func52 rfl rfl rfl ?_
  refine g_weak [(0, .int .i64 n), (1, .pointer (some ⟨g1, 0, none⟩))] ⟨rfl, rfl, trivial⟩ ?_
  refine g_seq ?_
  refine g_region ?_
  refine l_of (s_val (v := .string s) (wt0 rfl) rfl rfl (x_loadC rfl rfl Try.underlying9 rfl (H0.oldCell (k := 0) rfl hs id)) ?_)
  refine l_of (s_val (v := .int .i64 ((s.size : Int))) (wt0 rfl) rfl rfl (x_lens rfl rfl Try.underlying9) ?_)
  refine l_of (s_val (v := .int .i64 n) (wt0 rfl) rfl rfl (x_move rfl rfl) ?_)
  refine l_of (s_val (v := .bool (decide (((s.size : Int) : Int) < n))) (wt0 rfl) rfl rfl (x_bin rfl rfl rfl b_lss) ?_)
  refine g_nil ?_
  refine g_then ?_
  refine g_cond_t rfl (decide_eq_true h) ?_
  refine g_region ?_
  refine l_of (s_val (v := .string s) (wt0 rfl) rfl rfl (x_loadC rfl rfl Try.underlying9 rfl (H0.oldCell (k := 0) rfl hs id)) ?_)
  refine l_of (s_val (v := .int .i64 ((s.size : Int))) (wt0 rfl) rfl rfl (x_lens rfl rfl Try.underlying9) ?_)
  refine l_of (s_val (v := .agg #[.int .i64 ((s.size : Int)), .int .i64 8]) (wt0 rfl) rfl rfl (x_build (vs := [.int .i64 ((s.size : Int)), .int .i64 8]) rfl rfl (cells := #[.int .i64 ((s.size : Int)), .int .i64 8]) (by kernel_rfl)) ?_)
  refine l_of (s_val (v := .iface 90 (.agg #[.int .i64 ((s.size : Int)), .int .i64 8])) (wt0 rfl) rfl rfl (x_makeInterface rfl rfl Try.underlying90 rfl) ?_)
  refine l_of (s_panic (wt0 rfl) (xp_panic rfl rfl) ?_)
  refine fin_panic ?_
  exact ⟨rfl, H0.mask [true]⟩
set_option maxRecDepth 20000 in
set_option maxHeartbeats 4000000 in
theorem lack_r (g1 : Nat) (s : ByteArray) (n : Int) (w : World) (hs : w.cell? ⟨g1, 0, none⟩ = some (.string s)) (h : ¬ (s.size : Int) < n) : Calls Try.prog 52 #[.int .i64 n, .pointer (some ⟨g1, 0, none⟩)] w fun e w' => e = .returned (.tuple #[]) ∧ S w' [Old w no] := by
  have H0 := S.old w
  refine enter 11 Try.func52 rfl rfl rfl ?_
  refine g_weak [(0, .int .i64 n), (1, .pointer (some ⟨g1, 0, none⟩))] ⟨rfl, rfl, trivial⟩ ?_
  refine g_seq ?_
  refine g_region ?_
  refine l_of (s_val (v := .string s) (wt0 rfl) rfl rfl (x_loadC rfl rfl Try.underlying9 rfl (H0.oldCell (k := 0) rfl hs id)) ?_)
  refine l_of (s_val (v := .int .i64 ((s.size : Int))) (wt0 rfl) rfl rfl (x_lens rfl rfl Try.underlying9) ?_)
  refine l_of (s_val (v := .int .i64 n) (wt0 rfl) rfl rfl (x_move rfl rfl) ?_)
  refine l_of (s_val (v := .bool (decide (((s.size : Int) : Int) < n))) (wt0 rfl) rfl rfl (x_bin rfl rfl rfl b_lss) ?_)
  refine g_nil ?_
  refine g_then ?_
  refine g_cond_f rfl (decide_eq_false h) ?_
  refine g_skip ?_
  refine fin_end [] [] rfl trivial ?_
  exact ⟨rfl, H0.mask [true]⟩
set_option maxRecDepth 20000 in
set_option maxHeartbeats 4000000 in
theorem wrong_p (b : Bool) (n : Int) (w : World) (hb : b = true) : Calls Try.prog 53 #[.bool b, .int .i64 n] w fun e w' => e = .panicked [{ v := .iface 90 (.agg #[.int .i64 n, .int .i64 12]), recovered := false }] ∧ S w' [Old w no] := by
  have H0 := S.old w
  refine enter 8 Try.func53 rfl rfl rfl ?_
  refine g_weak [(0, .bool b), (1, .int .i64 n)] ⟨rfl, rfl, trivial⟩ ?_
  refine g_seq ?_
  refine g_region ?_
  refine l_of (s_val (v := .bool b) (wt0 rfl) rfl rfl (x_move rfl rfl) ?_)
  refine g_nil ?_
  refine g_then ?_
  refine g_cond_t rfl hb ?_
  refine g_region ?_
  refine l_of (s_val (v := .int .i64 n) (wt0 rfl) rfl rfl (x_move rfl rfl) ?_)
  refine l_of (s_val (v := .agg #[.int .i64 n, .int .i64 12]) (wt0 rfl) rfl rfl (x_build (vs := [.int .i64 n, .int .i64 12]) rfl rfl (cells := #[.int .i64 n, .int .i64 12]) (by kernel_rfl)) ?_)
  refine l_of (s_val (v := .iface 90 (.agg #[.int .i64 n, .int .i64 12])) (wt0 rfl) rfl rfl (x_makeInterface rfl rfl Try.underlying90 rfl) ?_)
  refine l_of (s_panic (wt0 rfl) (xp_panic rfl rfl) ?_)
  refine fin_panic ?_
  exact ⟨rfl, H0.mask [true]⟩
set_option maxRecDepth 20000 in
set_option maxHeartbeats 4000000 in
theorem wrong_r (b : Bool) (n : Int) (w : World) (hb : b = false) : Calls Try.prog 53 #[.bool b, .int .i64 n] w fun e w' => e = .returned (.tuple #[]) ∧ S w' [Old w no] := by
  have H0 := S.old w
  refine enter 8 Try.func53 rfl rfl rfl ?_
  refine g_weak [(0, .bool b), (1, .int .i64 n)] ⟨rfl, rfl, trivial⟩ ?_
  refine g_seq ?_
  refine g_region ?_
  refine l_of (s_val (v := .bool b) (wt0 rfl) rfl rfl (x_move rfl rfl) ?_)
  refine g_nil ?_
  refine g_then ?_
  refine g_cond_f rfl hb ?_
  refine g_skip ?_
  refine fin_end [] [] rfl trivial ?_
  exact ⟨rfl, H0.mask [true]⟩
theorem callsD_of {P : Program} {g : FuncId} {fn : Func} {c : Code} {args : Array Value} {u : FrameMode} {R : Ending → World → Prop} {w : World} (N : Nat) (hf : P.funcs[g]? = some fn) (hb : fn.body = some c) (hN : fn.ntmps = N) (hA : Nat.ble args.size N = true)
    (h : G N (c.wp P (bodyPost P fn R)) (argsFr 0 args.toList) [] w) : CallsD P g args u w (fun e u' w' => u' = u ∧ R e w') := callsD_plain N hf hb hN hA h
set_option maxRecDepth 20000 in
set_option maxHeartbeats 4000000 in
set_option maxRecDepth 20000 in
set_option maxHeartbeats 4000000 in
theorem clear_z (ge gm gu : Nat) (w : World) (he : w.cell? ⟨ge, 0, none⟩ = some (.int .i64 0)) :
    CallsD Try.prog 50 #[.pointer (some ⟨ge, 0, none⟩), .pointer (some ⟨gm, 0, none⟩), .pointer (some ⟨gu, 0, none⟩)] .returning w (fun e u' w' => u' = .returning ∧ (e = .returned (.tuple #[]) ∧ S w' [Old w no])) := by
  have H0 := S.old w
  refine callsD_plain 6 Try.func50 rfl rfl rfl ?_
  refine g_weak [(0, .pointer (some ⟨ge, 0, none⟩)), (1, .pointer (some ⟨gm, 0, none⟩)), (2, .pointer (some ⟨gu, 0, none⟩))] ⟨rfl, rfl, rfl, trivial⟩ ?_
  refine g_seq ?_
  refine g_region ?_
  refine l_of (s_val (v := .int .i64 0) (wt0 rfl) rfl rfl (x_loadC rfl rfl Try.underlying25 rfl (H0.oldCell (k := 0) rfl he id)) ?_)
  refine l_of (s_val (v := .bool (!decide ((0 : Int) = 0))) (wt0 rfl) rfl rfl (x_bin rfl rfl rfl b_neq) ?_)
  refine g_nil ?_
  refine g_then ?_
  refine g_cond_f rfl (nf rfl) ?_
  refine g_skip ?_
  refine fin_end [] [] rfl trivial ?_
  exact ⟨rfl, H0.mask [true]⟩
set_option maxRecDepth 20000 in
set_option maxHeartbeats 4000000 in
set_option maxRecDepth 20000 in
set_option maxHeartbeats 4000000 in
theorem clear_n (ge gm gu : Nat) (x u0 : Int) (mc : Array Value) (w : World) (hx : ¬ x = 0) (hmc : mc.size = 8) (he : w.heap[ge]? = some (.cells #[.int .i64 x] 25 (0, 0))) (hm : w.heap[gm]? = some (.cells mc 33 (0, 0))) (hu : w.heap[gu]? = some (.cells #[.int .i64 u0] 3 (0, 0))) (h1 : ge ≠ gm) (h2 : ge ≠ gu) (h3 : gm ≠ gu) :
    CallsD Try.prog 50 #[.pointer (some ⟨ge, 0, none⟩), .pointer (some ⟨gm, 0, none⟩), .pointer (some ⟨gu, 0, none⟩)] .returning w (fun e u' w' => u' = .returning ∧ (e = .returned (.tuple #[]) ∧
      S w' [Ob ge (.cells #[.int .i64 x] 25 (0, 0)), Ob gm (.cells #[.int .i64 0, .int .i64 0, .int .i64 0, .int .i64 0, .int .i64 0, .int .i64 0, .string ⟨#[]⟩, .string ⟨#[]⟩] 33 (0, 0)), Ob gu (.cells #[.int .i64 0] 3 (0, 0)), Old w (fun i => i ∈ [ge, gm, gu])])) := by
  obtain ⟨l⟩ := mc
  have hmc : l.length = 8 := hmc
  match l, hmc with
  | [c0, c1, c2, c3, c4, c5, c6, c7], _ =>
  have H0 := S.beginL [(ge, .cells #[.int .i64 x] 25 (0, 0)), (gm, .cells #[c0, c1, c2, c3, c4, c5, c6, c7] 33 (0, 0)), (gu, .cells #[.int .i64 u0] 3 (0, 0))] (by intro p hp; simp only [List.mem_cons, List.not_mem_nil, or_false] at hp; rcases hp with rfl | rfl | rfl; exact he; exact hm; exact hu) (by simp [h1, h2, h3]) (fun i => i ∈ [ge, gm, gu]) (fun i => Iff.rfl)
  refine callsD_plain 6 Try.func50 rfl rfl rfl ?_
  refine g_weak [(0, .pointer (some ⟨ge, 0, none⟩)), (1, .pointer (some ⟨gm, 0, none⟩)), (2, .pointer (some ⟨gu, 0, none⟩))] ⟨rfl, rfl, rfl, trivial⟩ ?_
  refine g_seq ?_
  refine g_region ?_
  refine l_of (s_val (v := .int .i64 x) (wt0 rfl) rfl rfl (x_load1 H0 0 rfl rfl Try.underlying25 rfl rfl rfl) ?_)
  refine l_of (s_val (v := .bool (!decide ((x : Int) = 0))) (wt0 rfl) rfl rfl (x_bin rfl rfl rfl b_neq) ?_)
  refine g_nil ?_
  refine g_then ?_
  refine g_cond_t rfl (nt hx) ?_
  refine g_region ?_
  refine l_of (s_val (v := .agg #[.int .i64 0, .int .i64 0, .int .i64 0, .int .i64 0, .int .i64 0, .int .i64 0, .string (⟨#[]⟩), .string (⟨#[]⟩)]) (wt0 rfl) rfl rfl (x_build (vs := []) rfl rfl (cells := #[.int .i64 0, .int .i64 0, .int .i64 0, .int .i64 0, .int .i64 0, .int .i64 0, .string (⟨#[]⟩), .string (⟨#[]⟩)]) (by kernel_rfl)) ?_)
  refine l_of (s_store H0 1 (wt0 rfl) rfl rfl rfl rfl rfl sz33 rfl rfl (cs' := #[.int .i64 0, .int .i64 0, .int .i64 0, .int .i64 0, .int .i64 0, .int .i64 0, .string (⟨#[]⟩), .string (⟨#[]⟩)]) rfl ?_)
  intro w1 (H2 : S w1 [Ob ge (.cells #[.int .i64 x] 25 (0, 0)), Ob gm (.cells #[.int .i64 0, .int .i64 0, .int .i64 0, .int .i64 0, .int .i64 0, .int .i64 0, .string (⟨#[]⟩), .string (⟨#[]⟩)] 33 (0, 0)), Ob gu (.cells #[.int .i64 u0] 3 (0, 0)), Old w (fun i => i ∈ [ge, gm, gu])])
  refine l_of (s_store H2 2 (wt0 rfl) rfl rfl rfl rfl rfl sz3 rfl rfl (cs' := #[.int .i64 0]) rfl ?_)
  intro w3 (H4 : S w3 [Ob ge (.cells #[.int .i64 x] 25 (0, 0)), Ob gm (.cells #[.int .i64 0, .int .i64 0, .int .i64 0, .int .i64 0, .int .i64 0, .int .i64 0, .string (⟨#[]⟩), .string (⟨#[]⟩)] 33 (0, 0)), Ob gu (.cells #[.int .i64 0] 3 (0, 0)), Old w (fun i => i ∈ [ge, gm, gu])])
  refine g_nil ?_
  refine fin_end [] [] rfl trivial ?_
  exact ⟨rfl, H4⟩
end Go.Proofs.Ytcjmdkklbbollaa
