import Derived.Test.YtlajgickimgigaaTM
set_option linter.unusedSimpArgs false
set_option linter.unusedVariables false
namespace Go.Proofs.Ytlajgickimgigaa
open Go.RowKit

theorem cl108 : callable Try.prog 108 = true := by kernel_rfl
theorem cl85 : callable Try.prog 85 = true := by kernel_rfl
theorem cl86 : callable Try.prog 86 = true := by kernel_rfl
theorem ifc20 : Try.prog.underlying 20 = some (.interface (Try.prog.methodsAt 20)) := by kernel_rfl
theorem sz25 : szO Try.prog 25 = some 1 := by kernel_rfl
set_option maxRecDepth 20000 in
set_option maxHeartbeats 4000000 in
set_option maxRecDepth 20000 in
set_option maxHeartbeats 4000000 in
theorem caught_p (ge : Nat) (y e0 : Int) (older : List PanicEntry) (w : World) (he : w.heap[ge]? = some (.cells #[.int .i64 e0] 25 (0, 0))) :
    CallsD Try.prog 45 #[.pointer (some ⟨ge, 0, none⟩)] (.panicking ({ v := .iface 113 (.int .i64 y), recovered := false } :: older)) w
      (fun e u' w' => (e = .returned (.tuple #[]) ∧ S w' [Ob ge (.cells #[.int .i64 y] 25 (0, 0)), Old w (fun i => i = ge)]) ∧ u' = .panicking ({ v := .iface 113 (.int .i64 y), recovered := true } :: older)) := by
  have H0 := S.begin1 he
  refine callsD_rec 19 Try.func45 rfl rfl rfl rfl rfl rfl rfl rfl rfl ?_
  refine g_weak [(0, .pointer (some ⟨ge, 0, none⟩)), (2, .iface 113 (.int .i64 y)), (5, .iface 113 (.int .i64 y))] ⟨rfl, rfl, rfl, trivial⟩ ?_
  refine g_seq ?_
  refine g_region ?_
  refine l_of (s_val (v := .iface 113 (.int .i64 y)) (wt0 rfl) rfl rfl (x_move rfl rfl) ?_)
  refine l_of (s_val (v := .bool true) (wt0 rfl) rfl rfl (x_bin rfl rfl rfl (b_neqHeld ifc20)) ?_)
  refine g_nil ?_
  refine g_then ?_
  refine g_cond_t rfl rfl ?_
  refine g_seq ?_
  refine g_region ?_
  refine l_of (s_val (v := .iface 113 (.int .i64 y)) (wt0 rfl) rfl rfl (x_move rfl rfl) ?_)
  refine l_of (s_val (v := .tuple #[.int .i64 y, .bool true]) (wt0 rfl) rfl rfl (x_assertOk rfl rfl Try.underlying113 rfl) ?_)
  refine l_of (s_val (v := .tuple #[.int .i64 y, .bool true]) (wt0 rfl) rfl rfl (x_move rfl rfl) ?_)
  refine l_of (s_val (v := .int .i64 y) (wt0 rfl) rfl rfl (x_extract rfl rfl rfl) ?_)
  refine l_of (s_val (v := .bool true) (wt0 rfl) rfl rfl (x_extract rfl rfl rfl) ?_)
  refine l_of (s_val (v := .int .i64 y) (wt0 rfl) rfl rfl (x_assign rfl rfl) ?_)
  refine l_of (s_val (v := .bool true) (wt0 rfl) rfl rfl (x_assign rfl rfl) ?_)
  refine g_nil ?_
  refine g_then ?_
  refine g_seq ?_
  refine g_seq ?_
  refine g_region ?_
  refine l_of (s_val (v := .bool true) (wt0 rfl) rfl rfl (x_move rfl rfl) ?_)
  refine l_of (s_val (v := .bool false) (wt0 rfl) rfl rfl (x_not (b := true) rfl rfl) ?_)
  refine g_nil ?_
  refine g_then ?_
  refine g_cond_f rfl rfl ?_
  refine g_skip ?_
  refine g_then ?_
  refine g_weak [(0, .pointer (some ⟨ge, 0, none⟩)), (3, .int .i64 y)] ⟨rfl, rfl, trivial⟩ ?_
  refine g_region ?_
  refine l_of (s_val (v := .pointer (some ⟨ge, 0, none⟩)) (wt0 rfl) rfl rfl (x_move rfl rfl) ?_)
  refine l_of (s_val (v := .int .i64 y) (wt0 rfl) rfl rfl (x_move rfl rfl) ?_)
  refine l_of (s_val (v := .pointer (some ⟨ge, 0, none⟩)) (wt0 rfl) rfl rfl (x_nilCheck rfl rfl) ?_)
  refine l_of (s_store H0 0 (wt0 rfl) rfl rfl rfl rfl rfl sz25 rfl rfl (cs' := #[.int .i64 y]) rfl ?_)
  intro wq1 H2
  refine g_nil ?_
  refine fin_end [] [] rfl trivial ?_
  exact ⟨⟨rfl, H2.mask [true, true]⟩, rfl⟩
set_option maxRecDepth 20000 in
set_option maxHeartbeats 4000000 in
set_option maxRecDepth 20000 in
theorem caught_n (ge : Nat) (w : World) : CallsD Try.prog 45 #[.pointer (some ⟨ge, 0, none⟩)] .returning w
      (fun e u' w' => (e = .returned (.tuple #[]) ∧ S w' [Old w no]) ∧ u' = .returning) := by
  have H0 := S.old w
  refine callsD_rec 19 Try.func45 rfl rfl rfl rfl rfl rfl rfl rfl rfl ?_
  refine g_weak [(0, .pointer (some ⟨ge, 0, none⟩)), (2, .nilIface), (5, .nilIface)] ⟨rfl, rfl, rfl, trivial⟩ ?_
  refine g_seq ?_
  refine g_region ?_
  refine l_of (s_val (v := .nilIface) (wt0 rfl) rfl rfl (x_move rfl rfl) ?_)
  refine l_of (s_val (v := .bool false) (wt0 rfl) rfl rfl (x_bin rfl rfl rfl (b_neqNil ifc20)) ?_)
  refine g_nil ?_
  refine g_then ?_
  refine g_cond_f rfl rfl ?_
  refine g_skip ?_
  refine fin_end [] [] rfl trivial ?_
  exact ⟨⟨rfl, H0.mask [true]⟩, rfl⟩
set_option maxRecDepth 20000 in
set_option maxHeartbeats 4000000 in
theorem fail_p (b : Bool) (n : Int) (hb : b = true) (w : World) : Calls Try.prog 46 #[.bool b, .int .i64 n] w fun e w' => e = .panicked [{ v := .iface 113 (.int .i64 n), recovered := false }] ∧ S w' [Old w no] := by
  have H0 := S.old w
  refine enter 7 Try.func46 rfl rfl rfl ?_
  refine g_weak [(0, .bool b), (1, .int .i64 n)] ⟨rfl, rfl, trivial⟩ ?_
  refine g_seq ?_
  refine g_region ?_
  refine l_of (s_val (v := .bool b) (wt0 rfl) rfl rfl (x_move rfl rfl) ?_)
  refine g_nil ?_
  refine g_then ?_
  refine g_cond_t rfl hb ?_
  refine g_region ?_
  refine l_of (s_val (v := .int .i64 n) (wt0 rfl) rfl rfl (x_move rfl rfl) ?_)
  refine l_of (s_val (v := .iface 113 (.int .i64 n)) (wt0 rfl) rfl rfl (x_makeInterface rfl rfl Try.underlying113 rfl) ?_)
  refine l_of (s_panic (wt0 rfl) (xp_panic rfl rfl) ?_)
  refine fin_panic ?_
  exact ⟨rfl, H0.mask [true]⟩
set_option maxRecDepth 20000 in
set_option maxHeartbeats 4000000 in
theorem fail_r (b : Bool) (n : Int) (hb : b = false) (w : World) : Calls Try.prog 46 #[.bool b, .int .i64 n] w fun e w' => e = .returned (.tuple #[]) ∧ S w' [Old w no] := by
  have H0 := S.old w
  refine enter 7 Try.func46 rfl rfl rfl ?_
  refine g_weak [(0, .bool b), (1, .int .i64 n)] ⟨rfl, rfl, trivial⟩ ?_
  refine g_seq ?_
  refine g_region ?_
  refine l_of (s_val (v := .bool b) (wt0 rfl) rfl rfl (x_move rfl rfl) ?_)
  refine g_nil ?_
  refine g_then ?_
  refine g_cond_f rfl hb ?_
  refine g_skip ?_
  refine fin_end [] [] rfl trivial ?_
  exact ⟨rfl, H0.mask [true]⟩
set_option maxRecDepth 20000 in
set_option maxHeartbeats 4000000 in
theorem notdig_s (s : ByteArray)  (w : World) : Calls Try.prog 86 #[.string s] w fun e w' => e = .returned (.bool (!decide ((s.size : Int) = 32))) ∧ S w' [Old w no] := by
  have H0 := S.old w
  refine enter 6 Try.func86 rfl rfl rfl ?_
  refine g_weak [(0, .string s)] ⟨rfl, trivial⟩ ?_
  refine g_seq ?_
  refine g_region ?_
  refine l_of (s_val (v := .bool false) (wt0 rfl) rfl rfl (x_assign rfl rfl) ?_)
  refine g_nil ?_
  refine g_then ?_
  refine g_seq ?_
  refine g_region ?_
  refine l_of (s_val (v := .string s) (wt0 rfl) rfl rfl (x_move rfl rfl) ?_)
  refine l_of (s_val (v := .int .i64 ((s.size : Int))) (wt0 rfl) rfl rfl (x_lens rfl rfl Try.underlying9) ?_)
  refine l_of (s_val (v := .bool (!decide (((s.size : Int) : Int) = 32))) (wt0 rfl) rfl rfl (x_bin rfl rfl rfl b_neq) ?_)
  refine l_of (s_val (v := .bool (!decide (((s.size : Int) : Int) = 32))) (wt0 rfl) rfl rfl (x_assign rfl rfl) ?_)
  refine g_nil ?_
  refine g_then ?_
  refine g_ret ?_
  refine fin_ret [.tmp 2] [.bool (!decide (((s.size : Int) : Int) = 32))] rfl ⟨rfl, trivial⟩ ?_
  exact ⟨rfl, H0.mask [true]⟩
set_option maxRecDepth 20000 in
set_option maxHeartbeats 4000000 in
set_option maxRecDepth 20000 in
set_option maxHeartbeats 4000000 in
theorem index_s (l : List ByteArray) (p : Option Addr) (n c : Nat) (hn : n = l.length) (hm : n ≤ 1099511627776) (w : World) (hr : Reads w p n c 1 (stV l)) : Calls Try.prog 108 #[.slice p n c, .func (.func 86) #[] #[]] w fun e w' => ∃ r : Int, e = .returned (.int .i64 r) ∧ (decide (0 ≤ r)) = !digsB l ∧ S w' [Old w no] := by
  have H0 := S.old w
  refine enter 19 Try.func108 rfl rfl rfl ?_
  refine g_weak [(0, .slice p n c), (1, .func (.func 86) #[] #[])] ⟨rfl, rfl, trivial⟩ ?_
  refine g_seq ?_
  refine g_region ?_
  refine l_of (s_val (v := .int .i64 0) (wt0 rfl) rfl rfl (x_assign rfl rfl) ?_)
  refine g_nil ?_
  refine g_then ?_
  refine g_seq ?_
  refine g_seq ?_
  refine g_region ?_
  refine l_of (s_val (v := .slice p n c) (wt0 rfl) rfl rfl (x_move rfl rfl) ?_)
  refine l_of (s_val (v := .int .i64 ((n : Int))) (wt0 rfl) rfl rfl (x_lenl rfl rfl Try.underlying22) ?_)
  refine l_of (s_val (v := .int .i64 0) (wt0 rfl) rfl rfl (x_move rfl rfl) ?_)
  refine g_nil ?_
  refine g_then ?_
  refine g_block ?_
  refine g_loop (ι := Nat) (fun i => [(0, .slice p n c), (1, .func (.func 86) #[] #[]), (7, .int .i64 ((n : Int))), (8, .int .i64 ((i : Int)))]) (fun i wx => (i ≤ n) ∧ (∀ j, j < i → (l.getD j ⟨#[]⟩).size = 32) ∧ S wx [Old w no]) (fun i => n - i) (0) ⟨rfl, rfl, rfl, rfl, trivial⟩ ⟨Nat.zero_le _, (fun j h => by omega), H0⟩ ?_
  rintro i wq1 ⟨hi, hno, H2⟩
  replace H2 : S wq1 [Old w no] := H2
  refine g_weak [(0, .slice p n c), (1, .func (.func 86) #[] #[]), (7, .int .i64 ((n : Int))), (8, .int .i64 ((i : Int)))] ⟨rfl, rfl, rfl, rfl, trivial⟩ ?_
  refine g_seq ?_
  refine g_region ?_
  refine l_of (s_val (v := .bool (decide (((i : Int) : Int) < (n : Int)))) (wt0 rfl) rfl rfl (x_bin rfl rfl rfl b_lss) ?_)
  refine g_nil ?_
  refine g_then ?_
  refine g_seq ?_
  by_cases hb3 : ((i : Int) : Int) < (n : Int)
  · skip
    refine g_cond_t rfl (decide_eq_true hb3) ?_
    refine g_skip ?_
    refine g_then ?_
    refine g_seq ?_
    refine g_block ?_
    refine g_seq ?_
    refine g_region ?_
    refine l_of (s_val (v := .int .i64 ((i : Int))) (wt0 rfl) rfl rfl (x_move rfl rfl) ?_)
    refine l_of (s_val (v := .int .i64 ((i : Int))) (wt0 rfl) rfl rfl (x_assign rfl rfl) ?_)
    refine g_nil ?_
    refine g_then ?_
    refine g_seq ?_
    refine g_region ?_
    refine l_of (s_val (v := .func (.func 86) #[] #[]) (wt0 rfl) rfl rfl (x_move rfl rfl) ?_)
    refine l_of (s_val (v := .slice p n c) (wt0 rfl) rfl rfl (x_move rfl rfl) ?_)
    refine l_of (s_val (v := .int .i64 ((i : Int))) (wt0 rfl) rfl rfl (x_move rfl rfl) ?_)
    refine l_of (s_val (v := .pointer ((p).map fun q => q.add (i * 1))) (wt0 rfl) rfl rfl (x_idxR i (H2.oldReads (k := 0) rfl hr) rfl rfl rfl Try.underlying22 sz9 (by omega)) ?_)
    refine l_of (s_val (v := .string ((l.getD (i) ⟨#[]⟩))) (wt0 rfl) rfl rfl (x_loadR1 i (H2.oldReads (k := 0) rfl hr) (by omega) rfl rfl Try.underlying9 rfl (stV_at (by omega))) ?_)
    refine l_of (s_call (wt0 rfl) (x_call rfl rfl rfl cl86) (notdig_s _ _) ?_)
    rintro _ wq4 ⟨rfl, H5⟩
    replace H5 : S wq4 [Old w no] := H2.absorb (new := []) H5
    refine b_ret rfl rfl ?_
    refine g_nil ?_
    refine g_then ?_
    by_cases hb6 : ((l.getD (i) ⟨#[]⟩).size : Int) = 32
    · skip
      refine g_cond_f rfl (nf hb6) ?_
      refine g_skip ?_
      refine g_in ?_
      refine g_then ?_
      refine g_region ?_
      refine l_of (s_val (v := .int .i64 ((i : Int) + 1)) (wt0 rfl) rfl rfl (x_bin rfl rfl rfl (b_add (w64 (by omega)))) ?_)
      refine l_of (s_val (v := .int .i64 ((i : Int) + 1)) (wt0 rfl) rfl rfl (x_move rfl rfl) ?_)
      refine g_nil ?_
      refine g_then ?_
      refine g_round (i := (i)) (i + 1) ?_ ?_ ?_
      · exact ⟨rfl, rfl, rfl, rfl, trivial⟩
      · exact ⟨by omega, (fun j h => by rcases Nat.lt_succ_iff_lt_or_eq.1 h with h | rfl; exact hno j h; have := hb6; omega), H5⟩
      · (try dsimp only); omega
    · skip
      refine g_cond_t rfl (nt hb6) ?_
      refine g_seq ?_
      refine g_region ?_
      refine l_of (s_val (v := .int .i64 ((i : Int))) (wt0 rfl) rfl rfl (x_move rfl rfl) ?_)
      refine l_of (s_val (v := .int .i64 ((i : Int))) (wt0 rfl) rfl rfl (x_assign rfl rfl) ?_)
      refine g_nil ?_
      refine g_then ?_
      refine g_weak [(4, .int .i64 ((i : Int)))] ⟨rfl, trivial⟩ ?_
      refine g_ret ?_
      refine g_in_ret ?_
      refine g_then_ret ?_
      refine g_then_ret ?_
      refine g_in_ret ?_
      refine g_then_ret ?_
      refine fin_ret [.tmp 4] [.int .i64 ((i : Int))] rfl ⟨rfl, trivial⟩ ?_
      exact ⟨_, rfl, by rw [digs_no (i := i) (by omega) (fun h => hb6 (by omega))]; exact decide_eq_true (by omega), H5.mask [true]⟩
  · skip
    refine g_cond_f rfl (decide_eq_false hb3) ?_
    refine g_exit ?_
    refine g_then_exit ?_
    refine g_then_exit ?_
    refine g_in_hit ?_
    refine g_then ?_
    refine g_seq ?_
    refine g_region ?_
    refine l_of (s_val (v := .int .i64 (-1)) (wt0 rfl) rfl rfl (x_assign rfl rfl) ?_)
    refine g_nil ?_
    refine g_then ?_
    refine g_ret ?_
    refine fin_ret [.tmp 4] [.int .i64 (-1)] rfl ⟨rfl, trivial⟩ ?_
    exact ⟨_, rfl, by rw [digs_yes (fun j h => hno j (by omega))]; rfl, H2.mask [true]⟩
set_option maxRecDepth 20000 in
set_option maxHeartbeats 4000000 in
set_option maxRecDepth 20000 in
set_option maxHeartbeats 4000000 in
theorem contains_s (l : List ByteArray) (p : Option Addr) (n c : Nat) (hn : n = l.length) (hm : n ≤ 1099511627776) (w : World) (hr : Reads w p n c 1 (stV l)) : Calls Try.prog 85 #[.slice p n c, .func (.func 86) #[] #[]] w fun e w' => e = .returned (.bool (!digsB l)) ∧ S w' [Old w no] := by
  have H0 := S.old w
  refine enter 9 Try.func85 rfl rfl rfl ?_
  refine g_weak [(0, .slice p n c), (1, .func (.func 86) #[] #[])] ⟨rfl, rfl, trivial⟩ ?_
  refine g_seq ?_
  refine g_region ?_
  refine l_of (s_val (v := .bool false) (wt0 rfl) rfl rfl (x_assign rfl rfl) ?_)
  refine g_nil ?_
  refine g_then ?_
  refine g_seq ?_
  refine g_region ?_
  refine l_of (s_val (v := .slice p n c) (wt0 rfl) rfl rfl (x_move rfl rfl) ?_)
  refine l_of (s_val (v := .func (.func 86) #[] #[]) (wt0 rfl) rfl rfl (x_move rfl rfl) ?_)
  refine l_of (s_call (wt0 rfl) (x_call' rfl rfl cl108) (index_s l p n c hn hm _ (H0.oldReads (k := 0) rfl hr)) ?_)
  rintro _ wq3 ⟨r1, rfl, hr2, H4⟩
  replace H4 : S wq3 [Old w no] := H0.absorb (new := []) H4
  refine b_ret rfl rfl ?_
  refine l_of (s_val (v := .bool (decide ((0 : Int) ≤ r1))) (wt0 rfl) rfl rfl (x_bin rfl rfl rfl b_geq) ?_)
  refine l_of (s_val (v := .bool (decide ((0 : Int) ≤ r1))) (wt0 rfl) rfl rfl (x_assign rfl rfl) ?_)
  refine g_nil ?_
  refine g_then ?_
  refine g_ret ?_
  refine fin_ret [.tmp 4] [.bool (decide ((0 : Int) ≤ r1))] rfl ⟨rfl, trivial⟩ ?_
  exact ⟨by rw [← hr2]; rfl, H4.mask [true]⟩
set_option maxRecDepth 20000 in
set_option maxHeartbeats 4000000 in
set_option maxRecDepth 20000 in
set_option maxHeartbeats 4000000 in
theorem digests_s (l : List ByteArray) (p : Option Addr) (n c : Nat) (hn : n = l.length) (hm : n ≤ 1099511627776) (w : World) (hr : Reads w p n c 1 (stV l)) : Calls Try.prog 47 #[.slice p n c] w fun e w' => e = .returned (.bool (digsB l)) ∧ S w' [Old w no] := by
  have H0 := S.old w
  refine enter 6 Try.func47 rfl rfl rfl ?_
  refine g_weak [(0, .slice p n c)] ⟨rfl, trivial⟩ ?_
  refine g_seq ?_
  refine g_region ?_
  refine l_of (s_val (v := .bool false) (wt0 rfl) rfl rfl (x_assign rfl rfl) ?_)
  refine g_nil ?_
  refine g_then ?_
  refine g_seq ?_
  refine g_region ?_
  refine l_of (s_val (v := .slice p n c) (wt0 rfl) rfl rfl (x_move rfl rfl) ?_)
  refine l_of (s_call (wt0 rfl) (x_call' rfl rfl cl85) (contains_s l p n c hn hm _ (H0.oldReads (k := 0) rfl hr)) ?_)
  rintro _ wq1 ⟨rfl, H2⟩
  replace H2 : S wq1 [Old w no] := H0.absorb (new := []) H2
  refine b_ret rfl rfl ?_
  refine l_of (s_val (v := .bool (!(!((digsB l))))) (wt0 rfl) rfl rfl (x_not (b := !((digsB l))) rfl rfl) ?_)
  refine l_of (s_val (v := .bool (!(!((digsB l))))) (wt0 rfl) rfl rfl (x_assign rfl rfl) ?_)
  refine g_nil ?_
  refine g_then ?_
  refine g_ret ?_
  refine fin_ret [.tmp 2] [.bool (!(!((digsB l))))] rfl ⟨rfl, trivial⟩ ?_
  exact ⟨by rw [Bool.not_not]; rfl, H2.mask [true]⟩
end Go.Proofs.Ytlajgickimgigaa
