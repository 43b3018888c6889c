import Derived.Test.YtlajgickimgigaaGreatTM
set_option linter.unusedSimpArgs false
set_option linter.unusedVariables false
namespace Go.Proofs.YtlajgickimgigaaGreat
open Go.RowKit

theorem cl92 : callable Tryz.prog 92 = true := by kernel_rfl
theorem cl76 : callable Tryz.prog 76 = true := by kernel_rfl
theorem cl77 : callable Tryz.prog 77 = true := by kernel_rfl
theorem ifc20 : Tryz.prog.underlying 20 = some (.interface (Tryz.prog.methodsAt 20)) := by kernel_rfl
theorem sz26 : szO Tryz.prog 26 = some 1 := by kernel_rfl
set_option maxRecDepth 20000 in
set_option maxHeartbeats 4000000 in
set_option maxRecDepth 20000 in
set_option maxHeartbeats 4000000 in
theorem caught_p (ge : Nat) (y e0 : Int) (older : List PanicEntry) (w : World) (he : w.heap[ge]? = some (.cells #[.int .i64 e0] 26 (0, 0))) :
    CallsD Tryz.prog 30 #[.pointer (some ⟨ge, 0, none⟩)] (.panicking ({ v := .iface 105 (.int .i64 y), recovered := false } :: older)) w
      (fun e u' w' => (e = .returned (.tuple #[]) ∧ S w' [Ob ge (.cells #[.int .i64 y] 26 (0, 0)), Old w (fun i => i = ge)]) ∧ u' = .panicking ({ v := .iface 105 (.int .i64 y), recovered := true } :: older)) := by
  have H0 := S.begin1 he
  refine callsD_rec 19 Tryz.func30 rfl rfl rfl rfl rfl rfl rfl rfl rfl ?_
  refine g_weak [(0, .pointer (some ⟨ge, 0, none⟩)), (2, .iface 105 (.int .i64 y)), (5, .iface 105 (.int .i64 y))] ⟨rfl, rfl, rfl, trivial⟩ ?_
  refine g_seq ?_
  refine g_region ?_
  refine l_of (s_val (v := .iface 105 (.int .i64 y)) (wt0 rfl) rfl rfl (x_move rfl rfl) ?_)
  refine l_of (s_val (v := .bool true) (wt0 rfl) rfl rfl (x_bin rfl rfl rfl (b_neqHeld ifc20)) ?_)
  refine g_nil ?_
  refine g_then ?_
  refine g_cond_t rfl rfl ?_
  refine g_seq ?_
  refine g_region ?_
  refine l_of (s_val (v := .iface 105 (.int .i64 y)) (wt0 rfl) rfl rfl (x_move rfl rfl) ?_)
  refine l_of (s_val (v := .tuple #[.int .i64 y, .bool true]) (wt0 rfl) rfl rfl (x_assertOk rfl rfl Tryz.underlying105 rfl) ?_)
  refine l_of (s_val (v := .tuple #[.int .i64 y, .bool true]) (wt0 rfl) rfl rfl (x_move rfl rfl) ?_)
  refine l_of (s_val (v := .int .i64 y) (wt0 rfl) rfl rfl (x_extract rfl rfl rfl) ?_)
  refine l_of (s_val (v := .bool true) (wt0 rfl) rfl rfl (x_extract rfl rfl rfl) ?_)
  refine l_of (s_val (v := .int .i64 y) (wt0 rfl) rfl rfl (x_assign rfl rfl) ?_)
  refine l_of (s_val (v := .bool true) (wt0 rfl) rfl rfl (x_assign rfl rfl) ?_)
  refine g_nil ?_
  refine g_then ?_
  refine g_seq ?_
  refine g_seq ?_
  refine g_region ?_
  refine l_of (s_val (v := .bool true) (wt0 rfl) rfl rfl (x_move rfl rfl) ?_)
  refine l_of (s_val (v := .bool false) (wt0 rfl) rfl rfl (x_not (b := true) rfl rfl) ?_)
  refine g_nil ?_
  refine g_then ?_
  refine g_cond_f rfl rfl ?_
  refine g_skip ?_
  refine g_then ?_
  refine g_weak [(0, .pointer (some ⟨ge, 0, none⟩)), (3, .int .i64 y)] ⟨rfl, rfl, trivial⟩ ?_
  refine g_region ?_
  refine l_of (s_val (v := .pointer (some ⟨ge, 0, none⟩)) (wt0 rfl) rfl rfl (x_move rfl rfl) ?_)
  refine l_of (s_val (v := .int .i64 y) (wt0 rfl) rfl rfl (x_move rfl rfl) ?_)
  refine l_of (s_val (v := .pointer (some ⟨ge, 0, none⟩)) (wt0 rfl) rfl rfl (x_nilCheck rfl rfl) ?_)
  refine l_of (s_store H0 0 (wt0 rfl) rfl rfl rfl rfl rfl sz26 rfl rfl (cs' := #[.int .i64 y]) rfl ?_)
  intro wq1 H2
  refine g_nil ?_
  refine fin_end [] [] rfl trivial ?_
  exact ⟨⟨rfl, H2.mask [true, true]⟩, rfl⟩
set_option maxRecDepth 20000 in
set_option maxHeartbeats 4000000 in
set_option maxRecDepth 20000 in
theorem caught_n (ge : Nat) (w : World) : CallsD Tryz.prog 30 #[.pointer (some ⟨ge, 0, none⟩)] .returning w
      (fun e u' w' => (e = .returned (.tuple #[]) ∧ S w' [Old w no]) ∧ u' = .returning) := by
  have H0 := S.old w
  refine callsD_rec 19 Tryz.func30 rfl rfl rfl rfl rfl rfl rfl rfl rfl ?_
  refine g_weak [(0, .pointer (some ⟨ge, 0, none⟩)), (2, .nilIface), (5, .nilIface)] ⟨rfl, rfl, rfl, trivial⟩ ?_
  refine g_seq ?_
  refine g_region ?_
  refine l_of (s_val (v := .nilIface) (wt0 rfl) rfl rfl (x_move rfl rfl) ?_)
  refine l_of (s_val (v := .bool false) (wt0 rfl) rfl rfl (x_bin rfl rfl rfl (b_neqNil ifc20)) ?_)
  refine g_nil ?_
  refine g_then ?_
  refine g_cond_f rfl rfl ?_
  refine g_skip ?_
  refine fin_end [] [] rfl trivial ?_
  exact ⟨⟨rfl, H0.mask [true]⟩, rfl⟩
set_option maxRecDepth 20000 in
set_option maxHeartbeats 4000000 in
theorem fail_p (b : Bool) (n : Int) (hb : b = true) (w : World) : Calls Tryz.prog 36 #[.bool b, .int .i64 n] w fun e w' => e = .panicked [{ v := .iface 105 (.int .i64 n), recovered := false }] ∧ S w' [Old w no] := by
  have H0 := S.old w
  refine enter 7 Tryz.func36 rfl rfl rfl ?_
  refine g_weak [(0, .bool b), (1, .int .i64 n)] ⟨rfl, rfl, trivial⟩ ?_
  refine g_seq ?_
  refine g_region ?_
  refine l_of (s_val (v := .bool b) (wt0 rfl) rfl rfl (x_move rfl rfl) ?_)
  refine g_nil ?_
  refine g_then ?_
  refine g_cond_t rfl hb ?_
  refine g_region ?_
  refine l_of (s_val (v := .int .i64 n) (wt0 rfl) rfl rfl (x_move rfl rfl) ?_)
  refine l_of (s_val (v := .iface 105 (.int .i64 n)) (wt0 rfl) rfl rfl (x_makeInterface rfl rfl Tryz.underlying105 rfl) ?_)
  refine l_of (s_panic (wt0 rfl) (xp_panic rfl rfl) ?_)
  refine fin_panic ?_
  exact ⟨rfl, H0.mask [true]⟩
set_option maxRecDepth 20000 in
set_option maxHeartbeats 4000000 in
theorem fail_r (b : Bool) (n : Int) (hb : b = false) (w : World) : Calls Tryz.prog 36 #[.bool b, .int .i64 n] w fun e w' => e = .returned (.tuple #[]) ∧ S w' [Old w no] := by
  have H0 := S.old w
  refine enter 7 Tryz.func36 rfl rfl rfl ?_
  refine g_weak [(0, .bool b), (1, .int .i64 n)] ⟨rfl, rfl, trivial⟩ ?_
  refine g_seq ?_
  refine g_region ?_
  refine l_of (s_val (v := .bool b) (wt0 rfl) rfl rfl (x_move rfl rfl) ?_)
  refine g_nil ?_
  refine g_then ?_
  refine g_cond_f rfl hb ?_
  refine g_skip ?_
  refine fin_end [] [] rfl trivial ?_
  exact ⟨rfl, H0.mask [true]⟩
set_option maxRecDepth 20000 in
set_option maxHeartbeats 4000000 in
theorem notdig_s (s : ByteArray)  (w : World) : Calls Tryz.prog 77 #[.string s] w fun e w' => e = .returned (.bool (!decide ((s.size : Int) = 32))) ∧ S w' [Old w no] := by
  have H0 := S.old w
  refine enter 6 Tryz.func77 rfl rfl rfl ?_
  refine g_weak [(0, .string s)] ⟨rfl, trivial⟩ ?_
  refine g_seq ?_
  refine g_region ?_
  refine l_of (s_val (v := .bool false) (wt0 rfl) rfl rfl (x_assign rfl rfl) ?_)
  refine g_nil ?_
  refine g_then ?_
  refine g_seq ?_
  refine g_region ?_
  refine l_of (s_val (v := .string s) (wt0 rfl) rfl rfl (x_move rfl rfl) ?_)
  refine l_of (s_val (v := .int .i64 ((s.size : Int))) (wt0 rfl) rfl rfl (x_lens rfl rfl Tryz.underlying9) ?_)
  refine l_of (s_val (v := .bool (!decide (((s.size : Int) : Int) = 32))) (wt0 rfl) rfl rfl (x_bin rfl rfl rfl b_neq) ?_)
  refine l_of (s_val (v := .bool (!decide (((s.size : Int) : Int) = 32))) (wt0 rfl) rfl rfl (x_assign rfl rfl) ?_)
  refine g_nil ?_
  refine g_then ?_
  refine g_ret ?_
  refine fin_ret [.tmp 2] [.bool (!decide (((s.size : Int) : Int) = 32))] rfl ⟨rfl, trivial⟩ ?_
  exact ⟨rfl, H0.mask [true]⟩
set_option maxRecDepth 20000 in
set_option maxHeartbeats 4000000 in
set_option maxRecDepth 20000 in
set_option maxHeartbeats 4000000 in
theorem index_s (l : List ByteArray) (p : Option Addr) (n c : Nat) (hn : n = l.length) (hm : n ≤ 1099511627776) (w : World) (hr : Reads w p n c 1 (stV l)) : Calls Tryz.prog 92 #[.slice p n c, .func (.func 77) #[] #[]] w fun e w' => ∃ r : Int, e = .returned (.int .i64 r) ∧ (decide (0 ≤ r)) = !digsB l ∧ S w' [Old w no] := by
  have H0 := S.old w
  refine enter 19 Tryz.func92 rfl rfl rfl ?_
  refine g_weak [(0, .slice p n c), (1, .func (.func 77) #[] #[])] ⟨rfl, rfl, trivial⟩ ?_
  refine g_seq ?_
  refine g_region ?_
  refine l_of (s_val (v := .int .i64 0) (wt0 rfl) rfl rfl (x_assign rfl rfl) ?_)
  refine g_nil ?_
  refine g_then ?_
  refine g_seq ?_
  refine g_seq ?_
  refine g_region ?_
  refine l_of (s_val (v := .slice p n c) (wt0 rfl) rfl rfl (x_move rfl rfl) ?_)
  refine l_of (s_val (v := .int .i64 ((n : Int))) (wt0 rfl) rfl rfl (x_lenl rfl rfl Tryz.underlying22) ?_)
  refine l_of (s_val (v := .int .i64 0) (wt0 rfl) rfl rfl (x_move rfl rfl) ?_)
  refine g_nil ?_
  refine g_then ?_
  refine g_block ?_
  refine g_loop (ι := Nat) (fun i => [(0, .slice p n c), (1, .func (.func 77) #[] #[]), (7, .int .i64 ((n : Int))), (8, .int .i64 ((i : Int)))]) (fun i wx => (i ≤ n) ∧ (∀ j, j < i → (l.getD j ⟨#[]⟩).size = 32) ∧ S wx [Old w no]) (fun i => n - i) (0) ⟨rfl, rfl, rfl, rfl, trivial⟩ ⟨Nat.zero_le _, (fun j h => by omega), H0⟩ ?_
  rintro i wq1 ⟨hi, hno, H2⟩
  replace H2 : S wq1 [Old w no] := H2
  refine g_weak [(0, .slice p n c), (1, .func (.func 77) #[] #[]), (7, .int .i64 ((n : Int))), (8, .int .i64 ((i : Int)))] ⟨rfl, rfl, rfl, rfl, trivial⟩ ?_
  refine g_seq ?_
  refine g_region ?_
  refine l_of (s_val (v := .bool (decide (((i : Int) : Int) < (n : Int)))) (wt0 rfl) rfl rfl (x_bin rfl rfl rfl b_lss) ?_)
  refine g_nil ?_
  refine g_then ?_
  refine g_seq ?_
  by_cases hb3 : ((i : Int) : Int) < (n : Int)
  · skip
    refine g_cond_t rfl (decide_eq_true hb3) ?_
    refine g_skip ?_
    refine g_then ?_
    refine g_seq ?_
    refine g_block ?_
    refine g_seq ?_
    refine g_region ?_
    refine l_of (s_val (v := .int .i64 ((i : Int))) (wt0 rfl) rfl rfl (x_move rfl rfl) ?_)
    refine l_of (s_val (v := .int .i64 ((i : Int))) (wt0 rfl) rfl rfl (x_assign rfl rfl) ?_)
    refine g_nil ?_
    refine g_then ?_
    refine g_seq ?_
    refine g_region ?_
    refine l_of (s_val (v := .func (.func 77) #[] #[]) (wt0 rfl) rfl rfl (x_move rfl rfl) ?_)
    refine l_of (s_val (v := .slice p n c) (wt0 rfl) rfl rfl (x_move rfl rfl) ?_)
    refine l_of (s_val (v := .int .i64 ((i : Int))) (wt0 rfl) rfl rfl (x_move rfl rfl) ?_)
    refine l_of (s_val (v := .pointer ((p).map fun q => q.add (i * 1))) (wt0 rfl) rfl rfl (x_idxR i (H2.oldReads (k := 0) rfl hr) rfl rfl rfl Tryz.underlying22 sz9 (by omega)) ?_)
    refine l_of (s_val (v := .string ((l.getD (i) ⟨#[]⟩))) (wt0 rfl) rfl rfl (x_loadR1 i (H2.oldReads (k := 0) rfl hr) (by omega) rfl rfl Tryz.underlying9 rfl (stV_at (by omega))) ?_)
    refine l_of (s_call (wt0 rfl) (x_call rfl rfl rfl cl77) (notdig_s _ _) ?_)
    rintro _ wq4 ⟨rfl, H5⟩
    replace H5 : S wq4 [Old w no] := H2.absorb (new := []) H5
    refine b_ret rfl rfl ?_
    refine g_nil ?_
    refine g_then ?_
    by_cases hb6 : ((l.getD (i) ⟨#[]⟩).size : Int) = 32
    · skip
      refine g_cond_f rfl (nf hb6) ?_
      refine g_skip ?_
      refine g_in ?_
      refine g_then ?_
      refine g_region ?_
      refine l_of (s_val (v := .int .i64 ((i : Int) + 1)) (wt0 rfl) rfl rfl (x_bin rfl rfl rfl (b_add (w64 (by omega)))) ?_)
      refine l_of (s_val (v := .int .i64 ((i : Int) + 1)) (wt0 rfl) rfl rfl (x_move rfl rfl) ?_)
      refine g_nil ?_
      refine g_then ?_
      refine g_round (i := (i)) (i + 1) ?_ ?_ ?_
      · exact ⟨rfl, rfl, rfl, rfl, trivial⟩
      · exact ⟨by omega, (fun j h => by rcases Nat.lt_succ_iff_lt_or_eq.1 h with h | rfl; exact hno j h; have := hb6; omega), H5⟩
      · (try dsimp only); omega
    · skip
      refine g_cond_t rfl (nt hb6) ?_
      refine g_seq ?_
      refine g_region ?_
      refine l_of (s_val (v := .int .i64 ((i : Int))) (wt0 rfl) rfl rfl (x_move rfl rfl) ?_)
      refine l_of (s_val (v := .int .i64 ((i : Int))) (wt0 rfl) rfl rfl (x_assign rfl rfl) ?_)
      refine g_nil ?_
      refine g_then ?_
      refine g_weak [(4, .int .i64 ((i : Int)))] ⟨rfl, trivial⟩ ?_
      refine g_ret ?_
      refine g_in_ret ?_
      refine g_then_ret ?_
      refine g_then_ret ?_
      refine g_in_ret ?_
      refine g_then_ret ?_
      refine fin_ret [.tmp 4] [.int .i64 ((i : Int))] rfl ⟨rfl, trivial⟩ ?_
      exact ⟨_, rfl, by rw [digs_no (i := i) (by omega) (fun h => hb6 (by omega))]; exact decide_eq_true (by omega), H5.mask [true]⟩
  · skip
    refine g_cond_f rfl (decide_eq_false hb3) ?_
    refine g_exit ?_
    refine g_then_exit ?_
    refine g_then_exit ?_
    refine g_in_hit ?_
    refine g_then ?_
    refine g_seq ?_
    refine g_region ?_
    refine l_of (s_val (v := .int .i64 (-1)) (wt0 rfl) rfl rfl (x_assign rfl rfl) ?_)
    refine g_nil ?_
    refine g_then ?_
    refine g_ret ?_
    refine fin_ret [.tmp 4] [.int .i64 (-1)] rfl ⟨rfl, trivial⟩ ?_
    exact ⟨_, rfl, by rw [digs_yes (fun j h => hno j (by omega))]; rfl, H2.mask [true]⟩
set_option maxRecDepth 20000 in
set_option maxHeartbeats 4000000 in
set_option maxRecDepth 20000 in
set_option maxHeartbeats 4000000 in
theorem contains_s (l : List ByteArray) (p : Option Addr) (n c : Nat) (hn : n = l.length) (hm : n ≤ 1099511627776) (w : World) (hr : Reads w p n c 1 (stV l)) : Calls Tryz.prog 76 #[.slice p n c, .func (.func 77) #[] #[]] w fun e w' => e = .returned (.bool (!digsB l)) ∧ S w' [Old w no] := by
  have H0 := S.old w
  refine enter 9 Tryz.func76 rfl rfl rfl ?_
  refine g_weak [(0, .slice p n c), (1, .func (.func 77) #[] #[])] ⟨rfl, rfl, trivial⟩ ?_
  refine g_seq ?_
  refine g_region ?_
  refine l_of (s_val (v := .bool false) (wt0 rfl) rfl rfl (x_assign rfl rfl) ?_)
  refine g_nil ?_
  refine g_then ?_
  refine g_seq ?_
  refine g_region ?_
  refine l_of (s_val (v := .slice p n c) (wt0 rfl) rfl rfl (x_move rfl rfl) ?_)
  refine l_of (s_val (v := .func (.func 77) #[] #[]) (wt0 rfl) rfl rfl (x_move rfl rfl) ?_)
  refine l_of (s_call (wt0 rfl) (x_call' rfl rfl cl92) (index_s l p n c hn hm _ (H0.oldReads (k := 0) rfl hr)) ?_)
  rintro _ wq3 ⟨r1, rfl, hr2, H4⟩
  replace H4 : S wq3 [Old w no] := H0.absorb (new := []) H4
  refine b_ret rfl rfl ?_
  refine l_of (s_val (v := .bool (decide ((0 : Int) ≤ r1))) (wt0 rfl) rfl rfl (x_bin rfl rfl rfl b_geq) ?_)
  refine l_of (s_val (v := .bool (decide ((0 : Int) ≤ r1))) (wt0 rfl) rfl rfl (x_assign rfl rfl) ?_)
  refine g_nil ?_
  refine g_then ?_
  refine g_ret ?_
  refine fin_ret [.tmp 4] [.bool (decide ((0 : Int) ≤ r1))] rfl ⟨rfl, trivial⟩ ?_
  exact ⟨by rw [← hr2]; rfl, H4.mask [true]⟩
set_option maxRecDepth 20000 in
set_option maxHeartbeats 4000000 in
set_option maxRecDepth 20000 in
set_option maxHeartbeats 4000000 in
theorem digests_s (l : List ByteArray) (p : Option Addr) (n c : Nat) (hn : n = l.length) (hm : n ≤ 1099511627776) (w : World) (hr : Reads w p n c 1 (stV l)) : Calls Tryz.prog 46 #[.slice p n c] w fun e w' => e = .returned (.bool (digsB l)) ∧ S w' [Old w no] := by
  have H0 := S.old w
  refine enter 6 Tryz.func46 rfl rfl rfl ?_
  refine g_weak [(0, .slice p n c)] ⟨rfl, trivial⟩ ?_
  refine g_seq ?_
  refine g_region ?_
  refine l_of (s_val (v := .bool false) (wt0 rfl) rfl rfl (x_assign rfl rfl) ?_)
  refine g_nil ?_
  refine g_then ?_
  refine g_seq ?_
  refine g_region ?_
  refine l_of (s_val (v := .slice p n c) (wt0 rfl) rfl rfl (x_move rfl rfl) ?_)
  refine l_of (s_call (wt0 rfl) (x_call' rfl rfl cl76) (contains_s l p n c hn hm _ (H0.oldReads (k := 0) rfl hr)) ?_)
  rintro _ wq1 ⟨rfl, H2⟩
  replace H2 : S wq1 [Old w no] := H0.absorb (new := []) H2
  refine b_ret rfl rfl ?_
  refine l_of (s_val (v := .bool (!(!((digsB l))))) (wt0 rfl) rfl rfl (x_not (b := !((digsB l))) rfl rfl) ?_)
  refine l_of (s_val (v := .bool (!(!((digsB l))))) (wt0 rfl) rfl rfl (x_assign rfl rfl) ?_)
  refine g_nil ?_
  refine g_then ?_
  refine g_ret ?_
  refine fin_ret [.tmp 2] [.bool (!(!((digsB l))))] rfl ⟨rfl, trivial⟩ ?_
  exact ⟨by rw [Bool.not_not]; rfl, H2.mask [true]⟩
end Go.Proofs.YtlajgickimgigaaGreat
namespace Go.Proofs.YtlajgickimgigaaGreat
open Go.RowKit

theorem cl36 : callable Tryz.prog 36 = true := by kernel_rfl
theorem fo65_0 : foO Tryz.prog 65 0 = some 0 := by kernel_rfl
theorem fo65_1 : foO Tryz.prog 65 1 = some 1 := by kernel_rfl
theorem sz65 : szO Tryz.prog 65 = some 2 := by kernel_rfl
theorem ze65 : zeO Tryz.prog 65 = some (.agg #[.int .i64 0, .int .i64 0]) := by kernel_rfl
theorem b_shl1 {P : Program} {t xo yo} {w : World} {h : Nat} {yk : IntKind} (hh : h ≤ 60) : Bin P .shl t xo yo (.int .i64 1) (.int yk (h : Int)) w (.int .i64 ((2 ^ h : Nat) : Int)) := by
  refine b_shl ?_
  have h2 : 2 ^ h ≤ 2 ^ 60 := Nat.pow_le_pow_right (by omega) hh
  rw [show min h IntKind.i64.bits = h from Nat.min_eq_left (by show h ≤ 64; omega), Int.one_mul, show (2 : Int) ^ h = ((2 ^ h : Nat) : Int) from by push_cast; rfl]
  exact wrap_nat (by omega)
theorem count_eq {n v : Nat} (h1 : 1 ≤ n) : (n + 2 ^ v - 1) / 2 ^ v = countN n v := by
  have hp := Nat.two_pow_pos v
  unfold countN
  rw [show n + 2 ^ v - 1 = (n - 1) + 2 ^ v from by omega, Nat.add_div_right _ hp]
set_option maxRecDepth 20000 in
set_option maxHeartbeats 4000000 in
theorem formed_r (n : Nat) (h1 : 1 ≤ n) (hn : n ≤ 4096) (w : World) : Calls Tryz.prog 37 #[.int .i64 ((n : Int))] w fun e w' => e = .returned (.agg #[.int .i64 (n : Int), .int .i64 ((tallN n : Nat) : Int)]) ∧ S w' [Old w no] := by
  have H0 := S.old w
  refine enter 20 Tryz.func37 rfl rfl rfl ?_
  refine g_weak [(0, .int .i64 ((n : Int)))] ⟨rfl, trivial⟩ ?_
  refine g_seq ?_
  refine g_region ?_
  refine l_of (s_alloc H0 (wt0 rfl) rfl rfl rfl ze65 ?_)
  intro g1 wq2 H3
  refine g_nil ?_
  refine g_then ?_
  refine g_seq ?_
  refine g_region ?_
  refine l_of (s_val (v := .int .i64 ((n : Int))) (wt0 rfl) rfl rfl (x_move rfl rfl) ?_)
  refine l_of (s_val (v := .bool (decide (((n : Int) : Int) < 1))) (wt0 rfl) rfl rfl (x_bin rfl rfl rfl b_lss) ?_)
  refine l_of (s_val (v := .bool (decide (((n : Int) : Int) < 1))) (wt0 rfl) rfl rfl (x_move rfl rfl) ?_)
  refine l_of (s_val (v := .int .i64 ((n : Int))) (wt1 rfl rfl rfl rfl (decide_eq_false (by omega))) rfl rfl (x_move rfl rfl) ?_)
  refine l_of (s_val (v := .bool (decide ((4096 : Int) < (n : Int)))) (wt1 rfl rfl rfl rfl (decide_eq_false (by omega))) rfl rfl (x_bin rfl rfl rfl b_gtr) ?_)
  refine l_of (s_val (v := .bool (decide ((4096 : Int) < (n : Int)))) (wt0 rfl) rfl rfl (x_pick_f rfl rfl (decide_eq_false (by omega)) rfl) ?_)
  refine l_of (s_call (wt0 rfl) (x_call' rfl rfl cl36) (fail_r _ _ (decide_eq_false (by omega)) _) ?_)
  rintro _ wq4 ⟨rfl, H5⟩
  replace H5 : S wq4 [Ob g1 (.cells #[.int .i64 0, .int .i64 0] 65 (0, 0)), Old w no] := H3.absorb (new := []) H5
  refine b_ret rfl rfl ?_
  refine g_nil ?_
  refine g_then ?_
  refine g_seq ?_
  refine g_region ?_
  refine l_of (s_val (v := .int .i64 0) (wt0 rfl) rfl rfl (x_assign rfl rfl) ?_)
  refine g_nil ?_
  refine g_then ?_
  refine g_seq ?_
  refine g_block ?_
  refine g_loop (ι := Nat) (fun h => [(0, .int .i64 ((n : Int))), (2, .pointer (some ⟨g1, 0, none⟩)), (3, .int .i64 ((h : Int)))]) (fun h wx => (h ≤ tallN n) ∧ (∀ j, j < h → 2 ^ j < n) ∧ S wx [Ob g1 (.cells #[.int .i64 0, .int .i64 0] 65 (0, 0)), Old w no]) (fun h => tallN n - h) (0) ⟨rfl, rfl, rfl, trivial⟩ ⟨Nat.zero_le _, (fun j h => by omega), H5⟩ ?_
  rintro h wq6 ⟨hh, hlt, H7⟩
  replace H7 : S wq6 [Ob g1 (.cells #[.int .i64 0, .int .i64 0] 65 (0, 0)), Old w no] := H7
  refine g_weak [(0, .int .i64 ((n : Int))), (2, .pointer (some ⟨g1, 0, none⟩)), (3, .int .i64 ((h : Int)))] ⟨rfl, rfl, rfl, trivial⟩ ?_
  obtain ⟨ht1, ht2, ht3⟩ := tall_spec (n := n) (by omega)
  refine g_seq ?_
  refine g_seq ?_
  refine g_region ?_
  refine l_of (s_val (v := .int .i64 ((h : Int))) (wt0 rfl) rfl rfl (x_move rfl rfl) ?_)
  refine l_of (s_val (v := .int .i64 (((2 ^ h : Nat) : Int))) (wt0 rfl) rfl rfl (x_bin rfl rfl rfl (b_shl1 (h := h) (by omega))) ?_)
  refine l_of (s_val (v := .int .i64 ((n : Int))) (wt0 rfl) rfl rfl (x_move rfl rfl) ?_)
  refine l_of (s_val (v := .bool (decide ((((2 ^ h : Nat) : Int) : Int) < (n : Int)))) (wt0 rfl) rfl rfl (x_bin rfl rfl rfl b_lss) ?_)
  refine g_nil ?_
  refine g_then ?_
  by_cases hb8 : (((2 ^ h : Nat) : Int) : Int) < (n : Int)
  · skip
    refine g_cond_t rfl (decide_eq_true hb8) ?_
    refine g_skip ?_
    refine g_then ?_
    refine g_block ?_
    refine g_region ?_
    refine l_of (s_val (v := .int .i64 ((h : Int))) (wt0 rfl) rfl rfl (x_move rfl rfl) ?_)
    refine l_of (s_val (v := .int .i64 ((h : Int) + 1)) (wt0 rfl) rfl rfl (x_bin rfl rfl rfl (b_add (w64 (by omega)))) ?_)
    refine l_of (s_val (v := .int .i64 ((h : Int) + 1)) (wt0 rfl) rfl rfl (x_assign rfl rfl) ?_)
    refine g_nil ?_
    refine g_in ?_
    refine g_then ?_
    have htn := tall_next (by omega) hh (by have := hb8; omega)
    refine g_round (i := (h)) (h + 1) ?_ ?_ ?_
    · exact ⟨rfl, rfl, rfl, trivial⟩
    · exact ⟨by omega, (fun j h => by rcases Nat.lt_succ_iff_lt_or_eq.1 h with h | rfl; exact hlt j h; have := hb8; omega), H7⟩
    · (try dsimp only); omega
  · skip
    refine g_cond_f rfl (decide_eq_false hb8) ?_
    refine g_exit ?_
    refine g_then_exit ?_
    refine g_then_exit ?_
    refine g_in_hit ?_
    refine g_then ?_
    refine g_seq ?_
    refine g_region ?_
    refine l_of (s_val (v := .int .i64 ((n : Int))) (wt0 rfl) rfl rfl (x_move rfl rfl) ?_)
    refine l_of (s_val (v := .int .i64 ((h : Int))) (wt0 rfl) rfl rfl (x_move rfl rfl) ?_)
    refine l_of (s_val (v := .agg #[.int .i64 ((n : Int)), .int .i64 ((h : Int))]) (wt0 rfl) rfl rfl (x_build (vs := [.int .i64 ((n : Int)), .int .i64 ((h : Int))]) rfl rfl (cells := #[.int .i64 ((n : Int)), .int .i64 ((h : Int))]) (by kernel_rfl)) ?_)
    refine l_of (s_store H7 0 (wt0 rfl) rfl rfl rfl rfl rfl sz65 rfl rfl (cs' := #[.int .i64 ((n : Int)), .int .i64 ((h : Int))]) rfl ?_)
    intro wq9 H10
    refine g_nil ?_
    refine g_then ?_
    refine g_ret ?_
    refine fin_ret [.cell 2 65] [.agg #[.int .i64 ((n : Int)), .int .i64 ((h : Int))]] rfl ⟨⟨_, rfl, run_loadA (H10.ob (k := 0) rfl) Tryz.underlying65 rfl sz65 rfl rfl⟩, trivial⟩ ?_
    have hst := tall_stop (by omega) hh (by have := hb8; omega)
    subst hst
    exact ⟨rfl, H10.mask [false, true]⟩
set_option maxRecDepth 20000 in
set_option maxHeartbeats 4000000 in
theorem formed_p1 (n : Int) (h : n < 1) (w : World) : Calls Tryz.prog 37 #[.int .i64 n] w fun e w' => e = .panicked [{ v := .iface 105 (.int .i64 7), recovered := false }] ∧ S w' [Old w no] := by
  have H0 := S.old w
  refine enter 20 Tryz.func37 rfl rfl rfl ?_
  refine g_weak [(0, .int .i64 n)] ⟨rfl, trivial⟩ ?_
  refine g_seq ?_
  refine g_region ?_
  refine l_of (s_alloc H0 (wt0 rfl) rfl rfl rfl ze65 ?_)
  intro g1 wq2 H3
  refine g_nil ?_
  refine g_then ?_
  refine g_seq ?_
  refine g_region ?_
  refine l_of (s_val (v := .int .i64 n) (wt0 rfl) rfl rfl (x_move rfl rfl) ?_)
  refine l_of (s_val (v := .bool (decide ((n : Int) < 1))) (wt0 rfl) rfl rfl (x_bin rfl rfl rfl b_lss) ?_)
  refine l_of (s_val (v := .bool (decide ((n : Int) < 1))) (wt0 rfl) rfl rfl (x_move rfl rfl) ?_)
  refine l_of (s_not (wn1 rfl rfl rfl rfl (decide_eq_true h)) rfl rfl ?_)
  refine l_of (s_not (wn1 rfl rfl rfl rfl (decide_eq_true h)) rfl rfl ?_)
  refine l_of (s_val (v := .bool true) (wt0 rfl) rfl rfl (x_pick_t rfl rfl (decide_eq_true h) rfl) ?_)
  refine l_of (s_call (wt0 rfl) (x_call' rfl rfl cl36) (fail_p _ _ rfl _) ?_)
  rintro _ wq4 ⟨rfl, H5⟩
  replace H5 : S wq4 [Ob g1 (.cells #[.int .i64 0, .int .i64 0] 65 (0, 0)), Old w no] := H3.absorb (new := []) H5
  refine b_panic ?_
  refine g_then_panic ?_
  refine fin_panic ?_
  exact ⟨rfl, H5.mask [false, true]⟩
set_option maxRecDepth 20000 in
set_option maxHeartbeats 4000000 in
theorem formed_p2 (n : Int) (h : 4096 < n) (w : World) : Calls Tryz.prog 37 #[.int .i64 n] w fun e w' => e = .panicked [{ v := .iface 105 (.int .i64 7), recovered := false }] ∧ S w' [Old w no] := by
  have H0 := S.old w
  refine enter 20 Tryz.func37 rfl rfl rfl ?_
  refine g_weak [(0, .int .i64 n)] ⟨rfl, trivial⟩ ?_
  refine g_seq ?_
  refine g_region ?_
  refine l_of (s_alloc H0 (wt0 rfl) rfl rfl rfl ze65 ?_)
  intro g1 wq2 H3
  refine g_nil ?_
  refine g_then ?_
  refine g_seq ?_
  refine g_region ?_
  refine l_of (s_val (v := .int .i64 n) (wt0 rfl) rfl rfl (x_move rfl rfl) ?_)
  refine l_of (s_val (v := .bool (decide ((n : Int) < 1))) (wt0 rfl) rfl rfl (x_bin rfl rfl rfl b_lss) ?_)
  refine l_of (s_val (v := .bool (decide ((n : Int) < 1))) (wt0 rfl) rfl rfl (x_move rfl rfl) ?_)
  refine l_of (s_val (v := .int .i64 n) (wt1 rfl rfl rfl rfl (decide_eq_false (by omega))) rfl rfl (x_move rfl rfl) ?_)
  refine l_of (s_val (v := .bool (decide ((4096 : Int) < n))) (wt1 rfl rfl rfl rfl (decide_eq_false (by omega))) rfl rfl (x_bin rfl rfl rfl b_gtr) ?_)
  refine l_of (s_val (v := .bool (decide ((4096 : Int) < n))) (wt0 rfl) rfl rfl (x_pick_f rfl rfl (decide_eq_false (by omega)) rfl) ?_)
  refine l_of (s_call (wt0 rfl) (x_call' rfl rfl cl36) (fail_p _ _ (decide_eq_true h) _) ?_)
  rintro _ wq4 ⟨rfl, H5⟩
  replace H5 : S wq4 [Ob g1 (.cells #[.int .i64 0, .int .i64 0] 65 (0, 0)), Old w no] := H3.absorb (new := []) H5
  refine b_panic ?_
  refine g_then_panic ?_
  refine fin_panic ?_
  exact ⟨rfl, H5.mask [false, true]⟩
set_option maxRecDepth 20000 in
set_option maxHeartbeats 4000000 in
theorem level_p1 (n h v : Int) (hv : v < 0) (w : World) : Calls Tryz.prog 61 #[.agg #[.int .i64 n, .int .i64 h], .int .i64 v] w fun e w' => e = .panicked [{ v := .iface 105 (.int .i64 7), recovered := false }] ∧ S w' [Old w no] := by
  have H0 := S.old w
  refine enter 13 Tryz.func61 rfl rfl rfl ?_
  refine g_weak [(0, .agg #[.int .i64 n, .int .i64 h]), (1, .int .i64 v)] ⟨rfl, rfl, trivial⟩ ?_
  refine g_seq ?_
  refine g_region ?_
  refine l_of (s_box H0 (wt0 rfl) rfl rfl rfl rfl ?_)
  intro g1 wq2 H3
  refine g_nil ?_
  refine g_then ?_
  refine g_region ?_
  refine l_of (s_val (v := .int .i64 v) (wt0 rfl) rfl rfl (x_move rfl rfl) ?_)
  refine l_of (s_val (v := .bool (decide ((v : Int) < 0))) (wt0 rfl) rfl rfl (x_bin rfl rfl rfl b_lss) ?_)
  refine l_of (s_val (v := .bool (decide ((v : Int) < 0))) (wt0 rfl) rfl rfl (x_move rfl rfl) ?_)
  refine l_of (s_not (wn1 rfl rfl rfl rfl (decide_eq_true hv)) rfl rfl ?_)
  refine l_of (s_not (wn1 rfl rfl rfl rfl (decide_eq_true hv)) rfl rfl ?_)
  refine l_of (s_not (wn1 rfl rfl rfl rfl (decide_eq_true hv)) rfl rfl ?_)
  refine l_of (s_not (wn1 rfl rfl rfl rfl (decide_eq_true hv)) rfl rfl ?_)
  refine l_of (s_val (v := .bool true) (wt0 rfl) rfl rfl (x_pick_t rfl rfl (decide_eq_true hv) rfl) ?_)
  refine l_of (s_call (wt0 rfl) (x_call' rfl rfl cl36) (fail_p _ _ rfl _) ?_)
  rintro _ wq4 ⟨rfl, H5⟩
  replace H5 : S wq4 [Ob g1 (.cells #[.int .i64 n, .int .i64 h] 65 (0, 0)), Old w no] := H3.absorb (new := []) H5
  refine b_panic ?_
  refine fin_panic ?_
  exact ⟨rfl, H5.mask [false, true]⟩
set_option maxRecDepth 20000 in
set_option maxHeartbeats 4000000 in
theorem level_p2 (n h v : Int) (h0 : ¬ v < 0) (hv : h < v) (w : World) : Calls Tryz.prog 61 #[.agg #[.int .i64 n, .int .i64 h], .int .i64 v] w fun e w' => e = .panicked [{ v := .iface 105 (.int .i64 7), recovered := false }] ∧ S w' [Old w no] := by
  have H0 := S.old w
  refine enter 13 Tryz.func61 rfl rfl rfl ?_
  refine g_weak [(0, .agg #[.int .i64 n, .int .i64 h]), (1, .int .i64 v)] ⟨rfl, rfl, trivial⟩ ?_
  refine g_seq ?_
  refine g_region ?_
  refine l_of (s_box H0 (wt0 rfl) rfl rfl rfl rfl ?_)
  intro g1 wq2 H3
  refine g_nil ?_
  refine g_then ?_
  refine g_region ?_
  refine l_of (s_val (v := .int .i64 v) (wt0 rfl) rfl rfl (x_move rfl rfl) ?_)
  refine l_of (s_val (v := .bool (decide ((v : Int) < 0))) (wt0 rfl) rfl rfl (x_bin rfl rfl rfl b_lss) ?_)
  refine l_of (s_val (v := .bool (decide ((v : Int) < 0))) (wt0 rfl) rfl rfl (x_move rfl rfl) ?_)
  refine l_of (s_val (v := .int .i64 v) (wt1 rfl rfl rfl rfl (decide_eq_false h0)) rfl rfl (x_move rfl rfl) ?_)
  refine l_of (s_val (v := .pointer (some ⟨g1, 1, none⟩)) (wt1 rfl rfl rfl rfl (decide_eq_false h0)) rfl rfl (x_fieldAddr rfl rfl fo65_1 rfl) ?_)
  refine l_of (s_val (v := .int .i64 h) (wt1 rfl rfl rfl rfl (decide_eq_false h0)) rfl rfl (x_load1 H3 0 rfl rfl Tryz.underlying3 rfl rfl rfl) ?_)
  refine l_of (s_val (v := .bool (decide ((h : Int) < v))) (wt1 rfl rfl rfl rfl (decide_eq_false h0)) rfl rfl (x_bin rfl rfl rfl b_gtr) ?_)
  refine l_of (s_val (v := .bool (decide ((h : Int) < v))) (wt0 rfl) rfl rfl (x_pick_f rfl rfl (decide_eq_false h0) rfl) ?_)
  refine l_of (s_call (wt0 rfl) (x_call' rfl rfl cl36) (fail_p _ _ (decide_eq_true hv) _) ?_)
  rintro _ wq4 ⟨rfl, H5⟩
  replace H5 : S wq4 [Ob g1 (.cells #[.int .i64 n, .int .i64 h] 65 (0, 0)), Old w no] := H3.absorb (new := []) H5
  refine b_panic ?_
  refine fin_panic ?_
  exact ⟨rfl, H5.mask [false, true]⟩
set_option maxRecDepth 20000 in
set_option maxHeartbeats 4000000 in
theorem level_r (n h v : Int) (h0 : ¬ v < 0) (hv : ¬ h < v) (w : World) : Calls Tryz.prog 61 #[.agg #[.int .i64 n, .int .i64 h], .int .i64 v] w fun e w' => e = .returned (.tuple #[]) ∧ S w' [Old w no] := by
  have H0 := S.old w
  refine enter 13 Tryz.func61 rfl rfl rfl ?_
  refine g_weak [(0, .agg #[.int .i64 n, .int .i64 h]), (1, .int .i64 v)] ⟨rfl, rfl, trivial⟩ ?_
  refine g_seq ?_
  refine g_region ?_
  refine l_of (s_box H0 (wt0 rfl) rfl rfl rfl rfl ?_)
  intro g1 wq2 H3
  refine g_nil ?_
  refine g_then ?_
  refine g_region ?_
  refine l_of (s_val (v := .int .i64 v) (wt0 rfl) rfl rfl (x_move rfl rfl) ?_)
  refine l_of (s_val (v := .bool (decide ((v : Int) < 0))) (wt0 rfl) rfl rfl (x_bin rfl rfl rfl b_lss) ?_)
  refine l_of (s_val (v := .bool (decide ((v : Int) < 0))) (wt0 rfl) rfl rfl (x_move rfl rfl) ?_)
  refine l_of (s_val (v := .int .i64 v) (wt1 rfl rfl rfl rfl (decide_eq_false h0)) rfl rfl (x_move rfl rfl) ?_)
  refine l_of (s_val (v := .pointer (some ⟨g1, 1, none⟩)) (wt1 rfl rfl rfl rfl (decide_eq_false h0)) rfl rfl (x_fieldAddr rfl rfl fo65_1 rfl) ?_)
  refine l_of (s_val (v := .int .i64 h) (wt1 rfl rfl rfl rfl (decide_eq_false h0)) rfl rfl (x_load1 H3 0 rfl rfl Tryz.underlying3 rfl rfl rfl) ?_)
  refine l_of (s_val (v := .bool (decide ((h : Int) < v))) (wt1 rfl rfl rfl rfl (decide_eq_false h0)) rfl rfl (x_bin rfl rfl rfl b_gtr) ?_)
  refine l_of (s_val (v := .bool (decide ((h : Int) < v))) (wt0 rfl) rfl rfl (x_pick_f rfl rfl (decide_eq_false h0) rfl) ?_)
  refine l_of (s_call (wt0 rfl) (x_call' rfl rfl cl36) (fail_r _ _ (decide_eq_false (by omega)) _) ?_)
  rintro _ wq4 ⟨rfl, H5⟩
  replace H5 : S wq4 [Ob g1 (.cells #[.int .i64 n, .int .i64 h] 65 (0, 0)), Old w no] := H3.absorb (new := []) H5
  refine b_ret rfl rfl ?_
  refine g_nil ?_
  refine fin_end [] [] rfl trivial ?_
  exact ⟨rfl, H5.mask [false, true]⟩
set_option maxRecDepth 20000 in
set_option maxHeartbeats 4000000 in
theorem counts_r (n v : Nat) (h : Int) (h1 : 1 ≤ n) (hn : n ≤ 1099511627776) (hv : v ≤ 60) (w : World) : Calls Tryz.prog 62 #[.agg #[.int .i64 ((n : Int)), .int .i64 h], .int .i64 ((v : Int))] w fun e w' => e = .returned (.int .i64 ((countN n v : Nat) : Int)) ∧ S w' [Old w no] := by
  have H0 := S.old w
  have h2 : 0 < 2 ^ v := Nat.two_pow_pos v
  have h3 : 2 ^ v ≤ 2 ^ 60 := Nat.pow_le_pow_right (by omega) hv
  have h4 : 2 ^ v ≤ 1152921504606846976 := h3
  refine enter 13 Tryz.func62 rfl rfl rfl ?_
  refine g_weak [(0, .agg #[.int .i64 ((n : Int)), .int .i64 h]), (1, .int .i64 ((v : Int)))] ⟨rfl, rfl, trivial⟩ ?_
  refine g_seq ?_
  refine g_region ?_
  refine l_of (s_box H0 (wt0 rfl) rfl rfl rfl rfl ?_)
  intro g1 wq2 H3
  refine l_of (s_val (v := .int .i64 0) (wt0 rfl) rfl rfl (x_assign rfl rfl) ?_)
  refine g_nil ?_
  refine g_then ?_
  refine g_seq ?_
  refine g_quiet (by kernel_rfl) (by kernel_rfl) H3 ?_
  refine q_val (v := .pointer (some ⟨g1, 0, none⟩)) (wt0 rfl) rfl rfl (fun wx H => x_fieldAddr rfl rfl fo65_0 rfl) ?_
  refine q_val (v := .int .i64 ((n : Int))) (wt0 rfl) rfl rfl (fun wx H => x_load1 H 0 rfl rfl Tryz.underlying3 rfl rfl rfl) ?_
  refine q_val (v := .int .i64 ((v : Int))) (wt0 rfl) rfl rfl (fun wx H => x_move rfl rfl) ?_
  refine q_val (v := .int .i64 (((2 ^ v : Nat) : Int))) (wt0 rfl) rfl rfl (fun wx H => x_bin rfl rfl rfl (b_shl1 (h := v) (by omega))) ?_
  refine q_val (v := .int .i64 (((n + 2 ^ v : Nat) : Int))) (wt0 rfl) rfl rfl (fun wx H => x_bin rfl rfl rfl (b_addN (a := n) (b := 2 ^ v) (by omega))) ?_
  refine q_val (v := .int .i64 (((n + 2 ^ v - 1 : Nat) : Int))) (wt0 rfl) rfl rfl (fun wx H => x_bin rfl rfl rfl (b_subN (a := n + 2 ^ v) (b := 1) (by omega))) ?_
  refine q_val (v := .int .i64 ((v : Int))) (wt0 rfl) rfl rfl (fun wx H => x_move rfl rfl) ?_
  refine q_val (v := .int .i64 (((countN n v : Nat) : Int))) (wt0 rfl) rfl rfl (fun wx H => x_bin rfl rfl rfl (count_eq h1 ▸ b_shrN (a := n + 2 ^ v - 1) (n := v) (by show v ≤ 64; omega))) ?_
  refine q_val (v := .int .i64 (((countN n v : Nat) : Int))) (wt0 rfl) rfl rfl (fun wx H => x_assign rfl rfl) ?_
  refine q_nil (fun wq4 H5 => ?_)
  refine g_then ?_
  refine g_ret ?_
  refine fin_ret [.tmp 4] [.int .i64 (((countN n v : Nat) : Int))] rfl ⟨rfl, trivial⟩ ?_
  exact ⟨rfl, H5.mask [false, true]⟩
end Go.Proofs.YtlajgickimgigaaGreat
namespace Go.Proofs.YtlajgickimgigaaGreat
open Go.RowKit

/-! ## The levels that count are the beginnings of the padded rows -/
theorem upS_append : ∀ (m : Nat) (a b : List ByteArray), a.length = 2 * m → upS (a ++ b) = upS a ++ upS b
  | 0, a, b, h => by
    have : a = [] := List.eq_nil_of_length_eq_zero (by omega)
    subst this; simp [upS]
  | m + 1, x :: y :: a, b, h => by
    have h2 : a.length = 2 * m := by simp only [List.length_cons] at h; omega
    rw [List.cons_append, List.cons_append, upS, upS, upS_append m a b h2, List.cons_append]
  | m + 1, [x], b, h => by simp at h; omega
  | m + 1, [], b, h => by simp at h
theorem upS_replicate (z : ByteArray) : ∀ m : Nat, upS (List.replicate (2 * m) z) = List.replicate m (pairS z z)
  | 0 => by simp [upS]
  | m + 1 => by rw [show 2 * (m + 1) = 2 * m + 1 + 1 from by omega, List.replicate_succ, List.replicate_succ, upS, upS_replicate z m, List.replicate_succ]
/-- A row: its beginning, and zeros behind. -/
def rowP (k t : Nat) (l : List ByteArray) : List ByteArray := l ++ List.replicate (2 ^ t - l.length) (zeroS k)
theorem padL_len (k : Nat) (l : List ByteArray) : (padL k l).length = 2 * ((l.length + 1) / 2) := by
  unfold padL
  split
  · rw [List.length_append, List.length_singleton]; omega
  · omega
theorem nextS_len' (k : Nat) (l : List ByteArray) : (nextS k l).length = (l.length + 1) / 2 := by rw [nextS_len, padL_len]; omega
theorem rowP_pad {k t : Nat} {l : List ByteArray} (hl : l.length ≤ 2 ^ (t + 1)) : rowP k (t + 1) l = rowP k (t + 1) (padL k l) := by
  unfold rowP padL
  split
  · rename_i h
    rw [Nat.pow_succ] at hl ⊢
    rw [List.length_append, List.length_singleton, List.append_assoc, show 2 ^ t * 2 - l.length = (2 ^ t * 2 - (l.length + 1)) + 1 from by omega, List.replicate_succ]
    rfl
  · rfl
theorem upS_row {k t : Nat} {l : List ByteArray} (hl : l.length ≤ 2 ^ (t + 1)) : upS (rowP k (t + 1) l) = rowP (k + 1) t (nextS k l) := by
  rw [rowP_pad hl]
  have hp := padL_len k l
  have hn := nextS_len' k l
  unfold rowP
  rw [upS_append _ _ _ hp, show 2 ^ (t + 1) - (padL k l).length = 2 * (2 ^ t - (nextS k l).length) from by rw [hp, hn, Nat.pow_succ]; omega, upS_replicate]
  rfl
theorem nextS_fit {k t : Nat} {l : List ByteArray} (hl : l.length ≤ 2 ^ (t + 1)) : (nextS k l).length ≤ 2 ^ t := by rw [nextS_len']; rw [Nat.pow_succ] at hl; omega
theorem lvlS_shift (k : Nat) (l : List ByteArray) : ∀ j, lvlS k l (j + 1) = lvlS (k + 1) (nextS k l) j
  | 0 => rfl
  | j + 1 => by
    show nextS (k + (j + 1)) (lvlS k l (j + 1)) = nextS (k + 1 + j) (lvlS (k + 1) (nextS k l) j)
    rw [lvlS_shift k l j, show k + (j + 1) = k + 1 + j from by omega]
theorem upN_row : ∀ (j t k : Nat) (l : List ByteArray), l.length ≤ 2 ^ (t + j) → upN j (rowP k (t + j) l) = rowP (k + j) t (lvlS k l j)
  | 0, t, k, l, h => rfl
  | j + 1, t, k, l, h => by
    rw [upN, show t + (j + 1) = (t + j) + 1 from by omega, upS_row (by rw [show t + (j + 1) = (t + j) + 1 from by omega] at h; exact h), upN_row j t (k + 1) (nextS k l) (nextS_fit h), lvlS_shift, show k + 1 + j = k + (j + 1) from by omega]
theorem countN_next {n v : Nat} : countN n (v + 1) = (countN n v + 1) / 2 := by
  unfold countN
  rw [Nat.pow_succ, ← Nat.div_div_eq_div_mul]; omega
theorem lvlS_count {n v : Nat} {l : List ByteArray} (h : l.length = countN n v) : ∀ j, (lvlS v l j).length = countN n (v + j)
  | 0 => h
  | j + 1 => by
    show (nextS (v + j) (lvlS v l j)).length = _
    rw [nextS_len', lvlS_count h j, show v + (j + 1) = (v + j) + 1 from by omega, countN_next]
theorem countN_pos (n v : Nat) : 1 ≤ countN n v := Nat.le_add_left _ _
theorem countN_top {n : Nat} (h1 : 1 ≤ n) (hn : n ≤ 1099511627776) : countN n (tallN n) = 1 := by
  obtain ⟨t1, _, _⟩ := tall_spec hn
  unfold countN
  rw [Nat.div_eq_of_lt (by omega)]
/-- FromLayer: the padded rows and the levels that count make one root. -/
theorem from_plain {n v : Nat} {l : List ByteArray} (h1 : 1 ≤ n) (hn : n ≤ 1099511627776) (hv : v ≤ tallN n) (hl : l.length = countN n v) :
    (upN (tallN n - v) (rowT n v l)).getD 0 ⟨#[]⟩ = (lvlS v l (tallN n - v)).getD 0 ⟨#[]⟩ := by
  have hc := count_le h1 hn hv
  have := upN_row (tallN n - v) 0 v l (by rw [Nat.zero_add]; omega)
  rw [Nat.zero_add] at this
  have e : rowT n v l = rowP v (tallN n - v) l := rfl
  have hlen := lvlS_count hl (tallN n - v)
  have hpos := countN_pos n (v + (tallN n - v))
  rw [e, this]
  unfold rowP
  rw [List.getD_eq_getElem?_getD, List.getD_eq_getElem?_getD, List.getElem?_append_left (by omega)]
end Go.Proofs.YtlajgickimgigaaGreat
namespace Go.Proofs.YtlajgickimgigaaGreat
open Go.RowKit

theorem cl30 : callable Tryz.prog 30 = true := by kernel_rfl
theorem cl46 : callable Tryz.prog 46 = true := by kernel_rfl
theorem cl37 : callable Tryz.prog 37 = true := by kernel_rfl
theorem cl61 : callable Tryz.prog 61 = true := by kernel_rfl
theorem cl62 : callable Tryz.prog 62 = true := by kernel_rfl
theorem cl32 : callable Tryz.prog 32 = true := by kernel_rfl
theorem ze26 : zeO Tryz.prog 26 = some (.int .i64 0) := by kernel_rfl
theorem formed_i (n : Int) (h1 : 1 ≤ n) (hn : n ≤ 4096) (w : World) : Calls Tryz.prog 37 #[.int .i64 n] w fun e w' => e = .returned (.agg #[.int .i64 n, .int .i64 ((tallN n.toNat : Nat) : Int)]) ∧ S w' [Old w no] := by
  have e : n = (n.toNat : Int) := by omega
  have := formed_r n.toNat (by omega) (by omega) w
  rw [← e] at this; exact this
theorem counts_i (n v h : Int) (h1 : 1 ≤ n) (hn : n ≤ 1099511627776) (h0 : 0 ≤ v) (hv : v ≤ 60) (w : World) : Calls Tryz.prog 62 #[.agg #[.int .i64 n, .int .i64 h], .int .i64 v] w fun e w' => e = .returned (.int .i64 ((countN n.toNat v.toNat : Nat) : Int)) ∧ S w' [Old w no] := by
  have e : n = (n.toNat : Int) := by omega
  have e2 : v = (v.toNat : Int) := by omega
  have := counts_r n.toNat v.toNat h (by omega) (by omega) (by omega) w
  rw [← e, ← e2] at this; exact this
theorem layer_i (k h : Int) (l : List ByteArray) (p : Option Addr) (n c : Nat) (h0 : 0 ≤ k) (hkh : k ≤ h) (hn : n = l.length) (hm : n ≤ 1099511627) (hk : h ≤ 900) (hsz : ∀ s ∈ l, s.size ≤ 65536) (h1 : 0 < (lvlS k.toNat l (h.toNat - k.toNat)).length) (w : World) (hr : Reads w p n c 1 (stV l)) :
    Calls Tryz.prog 32 #[.int .i64 k, .int .i64 h, .slice p n c] w fun e w' => ∃ p' c', e = .returned (.slice p' (lvlS k.toNat l (h.toNat - k.toNat)).length c') ∧ S w' ([Rw 9 1 p' (lvlS k.toNat l (h.toNat - k.toNat)).length c' (stV (lvlS k.toNat l (h.toNat - k.toNat)))] ++ [Old w no]) := by
  have e : k = (k.toNat : Int) := by omega
  have e2 : ((k.toNat + (h.toNat - k.toNat) : Nat) : Int) = h := by omega
  have := layer_s k.toNat (h.toNat - k.toNat) l p n c hn hm (by omega) hsz h1 w hr
  rw [e2, ← e] at this; exact this
theorem digs_size {l : List ByteArray} (h : digsB l = true) : ∀ s ∈ l, s.size ≤ 65536 := fun s hs => by rw [digs_mem h hs]; omega
end Go.Proofs.YtlajgickimgigaaGreat
