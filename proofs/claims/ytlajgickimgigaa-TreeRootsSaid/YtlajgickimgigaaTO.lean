import Derived.Test.YtlajgickimgigaaTN
set_option linter.unusedSimpArgs false
set_option linter.unusedVariables false
namespace Go.Proofs.Ytlajgickimgigaa
open Go.RowKit

theorem cl46 : callable Try.prog 46 = true := by kernel_rfl
theorem fo66_0 : foO Try.prog 66 0 = some 0 := by kernel_rfl
theorem fo66_1 : foO Try.prog 66 1 = some 1 := by kernel_rfl
theorem sz66 : szO Try.prog 66 = some 2 := by kernel_rfl
theorem ze66 : zeO Try.prog 66 = some (.agg #[.int .i64 0, .int .i64 0]) := by kernel_rfl
theorem b_shl1 {P : Program} {t xo yo} {w : World} {h : Nat} {yk : IntKind} (hh : h ≤ 60) : Bin P .shl t xo yo (.int .i64 1) (.int yk (h : Int)) w (.int .i64 ((2 ^ h : Nat) : Int)) := by
  refine b_shl ?_
  have h2 : 2 ^ h ≤ 2 ^ 60 := Nat.pow_le_pow_right (by omega) hh
  rw [show min h IntKind.i64.bits = h from Nat.min_eq_left (by show h ≤ 64; omega), Int.one_mul, show (2 : Int) ^ h = ((2 ^ h : Nat) : Int) from by push_cast; rfl]
  exact wrap_nat (by omega)
theorem count_eq {n v : Nat} (h1 : 1 ≤ n) : (n + 2 ^ v - 1) / 2 ^ v = countN n v := by
  have hp := Nat.two_pow_pos v
  unfold countN
  rw [show n + 2 ^ v - 1 = (n - 1) + 2 ^ v from by omega, Nat.add_div_right _ hp]
set_option maxRecDepth 20000 in
set_option maxHeartbeats 4000000 in
theorem formed_r (n : Nat) (h1 : 1 ≤ n) (hn : n ≤ 4096) (w : World) : Calls Try.prog 48 #[.int .i64 ((n : Int))] w fun e w' => e = .returned (.agg #[.int .i64 (n : Int), .int .i64 ((tallN n : Nat) : Int)]) ∧ S w' [Old w no] := by
  have H0 := S.old w
  refine enter 20 Try.func48 rfl rfl rfl ?_
  refine g_weak [(0, .int .i64 ((n : Int)))] ⟨rfl, trivial⟩ ?_
  refine g_seq ?_
  refine g_region ?_
  refine l_of (s_alloc H0 (wt0 rfl) rfl rfl rfl ze66 ?_)
  intro g1 wq2 H3
  refine g_nil ?_
  refine g_then ?_
  refine g_seq ?_
  refine g_region ?_
  refine l_of (s_val (v := .int .i64 ((n : Int))) (wt0 rfl) rfl rfl (x_move rfl rfl) ?_)
  refine l_of (s_val (v := .bool (decide (((n : Int) : Int) < 1))) (wt0 rfl) rfl rfl (x_bin rfl rfl rfl b_lss) ?_)
  refine l_of (s_val (v := .bool (decide (((n : Int) : Int) < 1))) (wt0 rfl) rfl rfl (x_move rfl rfl) ?_)
  refine l_of (s_val (v := .int .i64 ((n : Int))) (wt1 rfl rfl rfl rfl (decide_eq_false (by omega))) rfl rfl (x_move rfl rfl) ?_)
  refine l_of (s_val (v := .bool (decide ((4096 : Int) < (n : Int)))) (wt1 rfl rfl rfl rfl (decide_eq_false (by omega))) rfl rfl (x_bin rfl rfl rfl b_gtr) ?_)
  refine l_of (s_val (v := .bool (decide ((4096 : Int) < (n : Int)))) (wt0 rfl) rfl rfl (x_pick_f rfl rfl (decide_eq_false (by omega)) rfl) ?_)
  refine l_of (s_call (wt0 rfl) (x_call' rfl rfl cl46) (fail_r _ _ (decide_eq_false (by omega)) _) ?_)
  rintro _ wq4 ⟨rfl, H5⟩
  replace H5 : S wq4 [Ob g1 (.cells #[.int .i64 0, .int .i64 0] 66 (0, 0)), Old w no] := H3.absorb (new := []) H5
  refine b_ret rfl rfl ?_
  refine g_nil ?_
  refine g_then ?_
  refine g_seq ?_
  refine g_region ?_
  refine l_of (s_val (v := .int .i64 0) (wt0 rfl) rfl rfl (x_assign rfl rfl) ?_)
  refine g_nil ?_
  refine g_then ?_
  refine g_seq ?_
  refine g_block ?_
  refine g_loop (ι := Nat) (fun h => [(0, .int .i64 ((n : Int))), (2, .pointer (some ⟨g1, 0, none⟩)), (3, .int .i64 ((h : Int)))]) (fun h wx => (h ≤ tallN n) ∧ (∀ j, j < h → 2 ^ j < n) ∧ S wx [Ob g1 (.cells #[.int .i64 0, .int .i64 0] 66 (0, 0)), Old w no]) (fun h => tallN n - h) (0) ⟨rfl, rfl, rfl, trivial⟩ ⟨Nat.zero_le _, (fun j h => by omega), H5⟩ ?_
  rintro h wq6 ⟨hh, hlt, H7⟩
  replace H7 : S wq6 [Ob g1 (.cells #[.int .i64 0, .int .i64 0] 66 (0, 0)), Old w no] := H7
  refine g_weak [(0, .int .i64 ((n : Int))), (2, .pointer (some ⟨g1, 0, none⟩)), (3, .int .i64 ((h : Int)))] ⟨rfl, rfl, rfl, trivial⟩ ?_
  obtain ⟨ht1, ht2, ht3⟩ := tall_spec (n := n) (by omega)
  refine g_seq ?_
  refine g_seq ?_
  refine g_region ?_
  refine l_of (s_val (v := .int .i64 ((h : Int))) (wt0 rfl) rfl rfl (x_move rfl rfl) ?_)
  refine l_of (s_val (v := .int .i64 (((2 ^ h : Nat) : Int))) (wt0 rfl) rfl rfl (x_bin rfl rfl rfl (b_shl1 (h := h) (by omega))) ?_)
  refine l_of (s_val (v := .int .i64 ((n : Int))) (wt0 rfl) rfl rfl (x_move rfl rfl) ?_)
  refine l_of (s_val (v := .bool (decide ((((2 ^ h : Nat) : Int) : Int) < (n : Int)))) (wt0 rfl) rfl rfl (x_bin rfl rfl rfl b_lss) ?_)
  refine g_nil ?_
  refine g_then ?_
  by_cases hb8 : (((2 ^ h : Nat) : Int) : Int) < (n : Int)
  · skip
    refine g_cond_t rfl (decide_eq_true hb8) ?_
    refine g_skip ?_
    refine g_then ?_
    refine g_block ?_
    refine g_region ?_
    refine l_of (s_val (v := .int .i64 ((h : Int))) (wt0 rfl) rfl rfl (x_move rfl rfl) ?_)
    refine l_of (s_val (v := .int .i64 ((h : Int) + 1)) (wt0 rfl) rfl rfl (x_bin rfl rfl rfl (b_add (w64 (by omega)))) ?_)
    refine l_of (s_val (v := .int .i64 ((h : Int) + 1)) (wt0 rfl) rfl rfl (x_assign rfl rfl) ?_)
    refine g_nil ?_
    refine g_in ?_
    refine g_then ?_
    have htn := tall_next (by omega) hh (by have := hb8; omega)
    refine g_round (i := (h)) (h + 1) ?_ ?_ ?_
    · exact ⟨rfl, rfl, rfl, trivial⟩
    · exact ⟨by omega, (fun j h => by rcases Nat.lt_succ_iff_lt_or_eq.1 h with h | rfl; exact hlt j h; have := hb8; omega), H7⟩
    · (try dsimp only); omega
  · skip
    refine g_cond_f rfl (decide_eq_false hb8) ?_
    refine g_exit ?_
    refine g_then_exit ?_
    refine g_then_exit ?_
    refine g_in_hit ?_
    refine g_then ?_
    refine g_seq ?_
    refine g_region ?_
    refine l_of (s_val (v := .int .i64 ((n : Int))) (wt0 rfl) rfl rfl (x_move rfl rfl) ?_)
    refine l_of (s_val (v := .int .i64 ((h : Int))) (wt0 rfl) rfl rfl (x_move rfl rfl) ?_)
    refine l_of (s_val (v := .agg #[.int .i64 ((n : Int)), .int .i64 ((h : Int))]) (wt0 rfl) rfl rfl (x_build (vs := [.int .i64 ((n : Int)), .int .i64 ((h : Int))]) rfl rfl (cells := #[.int .i64 ((n : Int)), .int .i64 ((h : Int))]) (by kernel_rfl)) ?_)
    refine l_of (s_store H7 0 (wt0 rfl) rfl rfl rfl rfl rfl sz66 rfl rfl (cs' := #[.int .i64 ((n : Int)), .int .i64 ((h : Int))]) rfl ?_)
    intro wq9 H10
    refine g_nil ?_
    refine g_then ?_
    refine g_ret ?_
    refine fin_ret [.cell 2 66] [.agg #[.int .i64 ((n : Int)), .int .i64 ((h : Int))]] rfl ⟨⟨_, rfl, run_loadA (H10.ob (k := 0) rfl) Try.underlying66 rfl sz66 rfl rfl⟩, trivial⟩ ?_
    have hst := tall_stop (by omega) hh (by have := hb8; omega)
    subst hst
    exact ⟨rfl, H10.mask [false, true]⟩
set_option maxRecDepth 20000 in
set_option maxHeartbeats 4000000 in
theorem formed_p1 (n : Int) (h : n < 1) (w : World) : Calls Try.prog 48 #[.int .i64 n] w fun e w' => e = .panicked [{ v := .iface 113 (.int .i64 7), recovered := false }] ∧ S w' [Old w no] := by
  have H0 := S.old w
  refine enter 20 Try.func48 rfl rfl rfl ?_
  refine g_weak [(0, .int .i64 n)] ⟨rfl, trivial⟩ ?_
  refine g_seq ?_
  refine g_region ?_
  refine l_of (s_alloc H0 (wt0 rfl) rfl rfl rfl ze66 ?_)
  intro g1 wq2 H3
  refine g_nil ?_
  refine g_then ?_
  refine g_seq ?_
  refine g_region ?_
  refine l_of (s_val (v := .int .i64 n) (wt0 rfl) rfl rfl (x_move rfl rfl) ?_)
  refine l_of (s_val (v := .bool (decide ((n : Int) < 1))) (wt0 rfl) rfl rfl (x_bin rfl rfl rfl b_lss) ?_)
  refine l_of (s_val (v := .bool (decide ((n : Int) < 1))) (wt0 rfl) rfl rfl (x_move rfl rfl) ?_)
  refine l_of (s_not (wn1 rfl rfl rfl rfl (decide_eq_true h)) rfl rfl ?_)
  refine l_of (s_not (wn1 rfl rfl rfl rfl (decide_eq_true h)) rfl rfl ?_)
  refine l_of (s_val (v := .bool true) (wt0 rfl) rfl rfl (x_pick_t rfl rfl (decide_eq_true h) rfl) ?_)
  refine l_of (s_call (wt0 rfl) (x_call' rfl rfl cl46) (fail_p _ _ rfl _) ?_)
  rintro _ wq4 ⟨rfl, H5⟩
  replace H5 : S wq4 [Ob g1 (.cells #[.int .i64 0, .int .i64 0] 66 (0, 0)), Old w no] := H3.absorb (new := []) H5
  refine b_panic ?_
  refine g_then_panic ?_
  refine fin_panic ?_
  exact ⟨rfl, H5.mask [false, true]⟩
set_option maxRecDepth 20000 in
set_option maxHeartbeats 4000000 in
theorem formed_p2 (n : Int) (h : 4096 < n) (w : World) : Calls Try.prog 48 #[.int .i64 n] w fun e w' => e = .panicked [{ v := .iface 113 (.int .i64 7), recovered := false }] ∧ S w' [Old w no] := by
  have H0 := S.old w
  refine enter 20 Try.func48 rfl rfl rfl ?_
  refine g_weak [(0, .int .i64 n)] ⟨rfl, trivial⟩ ?_
  refine g_seq ?_
  refine g_region ?_
  refine l_of (s_alloc H0 (wt0 rfl) rfl rfl rfl ze66 ?_)
  intro g1 wq2 H3
  refine g_nil ?_
  refine g_then ?_
  refine g_seq ?_
  refine g_region ?_
  refine l_of (s_val (v := .int .i64 n) (wt0 rfl) rfl rfl (x_move rfl rfl) ?_)
  refine l_of (s_val (v := .bool (decide ((n : Int) < 1))) (wt0 rfl) rfl rfl (x_bin rfl rfl rfl b_lss) ?_)
  refine l_of (s_val (v := .bool (decide ((n : Int) < 1))) (wt0 rfl) rfl rfl (x_move rfl rfl) ?_)
  refine l_of (s_val (v := .int .i64 n) (wt1 rfl rfl rfl rfl (decide_eq_false (by omega))) rfl rfl (x_move rfl rfl) ?_)
  refine l_of (s_val (v := .bool (decide ((4096 : Int) < n))) (wt1 rfl rfl rfl rfl (decide_eq_false (by omega))) rfl rfl (x_bin rfl rfl rfl b_gtr) ?_)
  refine l_of (s_val (v := .bool (decide ((4096 : Int) < n))) (wt0 rfl) rfl rfl (x_pick_f rfl rfl (decide_eq_false (by omega)) rfl) ?_)
  refine l_of (s_call (wt0 rfl) (x_call' rfl rfl cl46) (fail_p _ _ (decide_eq_true h) _) ?_)
  rintro _ wq4 ⟨rfl, H5⟩
  replace H5 : S wq4 [Ob g1 (.cells #[.int .i64 0, .int .i64 0] 66 (0, 0)), Old w no] := H3.absorb (new := []) H5
  refine b_panic ?_
  refine g_then_panic ?_
  refine fin_panic ?_
  exact ⟨rfl, H5.mask [false, true]⟩
set_option maxRecDepth 20000 in
set_option maxHeartbeats 4000000 in
theorem level_p1 (n h v : Int) (hv : v < 0) (w : World) : Calls Try.prog 49 #[.agg #[.int .i64 n, .int .i64 h], .int .i64 v] w fun e w' => e = .panicked [{ v := .iface 113 (.int .i64 7), recovered := false }] ∧ S w' [Old w no] := by
  have H0 := S.old w
  refine enter 13 Try.func49 rfl rfl rfl ?_
  refine g_weak [(0, .agg #[.int .i64 n, .int .i64 h]), (1, .int .i64 v)] ⟨rfl, rfl, trivial⟩ ?_
  refine g_seq ?_
  refine g_region ?_
  refine l_of (s_box H0 (wt0 rfl) rfl rfl rfl rfl ?_)
  intro g1 wq2 H3
  refine g_nil ?_
  refine g_then ?_
  refine g_region ?_
  refine l_of (s_val (v := .int .i64 v) (wt0 rfl) rfl rfl (x_move rfl rfl) ?_)
  refine l_of (s_val (v := .bool (decide ((v : Int) < 0))) (wt0 rfl) rfl rfl (x_bin rfl rfl rfl b_lss) ?_)
  refine l_of (s_val (v := .bool (decide ((v : Int) < 0))) (wt0 rfl) rfl rfl (x_move rfl rfl) ?_)
  refine l_of (s_not (wn1 rfl rfl rfl rfl (decide_eq_true hv)) rfl rfl ?_)
  refine l_of (s_not (wn1 rfl rfl rfl rfl (decide_eq_true hv)) rfl rfl ?_)
  refine l_of (s_not (wn1 rfl rfl rfl rfl (decide_eq_true hv)) rfl rfl ?_)
  refine l_of (s_not (wn1 rfl rfl rfl rfl (decide_eq_true hv)) rfl rfl ?_)
  refine l_of (s_val (v := .bool true) (wt0 rfl) rfl rfl (x_pick_t rfl rfl (decide_eq_true hv) rfl) ?_)
  refine l_of (s_call (wt0 rfl) (x_call' rfl rfl cl46) (fail_p _ _ rfl _) ?_)
  rintro _ wq4 ⟨rfl, H5⟩
  replace H5 : S wq4 [Ob g1 (.cells #[.int .i64 n, .int .i64 h] 66 (0, 0)), Old w no] := H3.absorb (new := []) H5
  refine b_panic ?_
  refine fin_panic ?_
  exact ⟨rfl, H5.mask [false, true]⟩
set_option maxRecDepth 20000 in
set_option maxHeartbeats 4000000 in
theorem level_p2 (n h v : Int) (h0 : ¬ v < 0) (hv : h < v) (w : World) : Calls Try.prog 49 #[.agg #[.int .i64 n, .int .i64 h], .int .i64 v] w fun e w' => e = .panicked [{ v := .iface 113 (.int .i64 7), recovered := false }] ∧ S w' [Old w no] := by
  have H0 := S.old w
  refine enter 13 Try.func49 rfl rfl rfl ?_
  refine g_weak [(0, .agg #[.int .i64 n, .int .i64 h]), (1, .int .i64 v)] ⟨rfl, rfl, trivial⟩ ?_
  refine g_seq ?_
  refine g_region ?_
  refine l_of (s_box H0 (wt0 rfl) rfl rfl rfl rfl ?_)
  intro g1 wq2 H3
  refine g_nil ?_
  refine g_then ?_
  refine g_region ?_
  refine l_of (s_val (v := .int .i64 v) (wt0 rfl) rfl rfl (x_move rfl rfl) ?_)
  refine l_of (s_val (v := .bool (decide ((v : Int) < 0))) (wt0 rfl) rfl rfl (x_bin rfl rfl rfl b_lss) ?_)
  refine l_of (s_val (v := .bool (decide ((v : Int) < 0))) (wt0 rfl) rfl rfl (x_move rfl rfl) ?_)
  refine l_of (s_val (v := .int .i64 v) (wt1 rfl rfl rfl rfl (decide_eq_false h0)) rfl rfl (x_move rfl rfl) ?_)
  refine l_of (s_val (v := .pointer (some ⟨g1, 1, none⟩)) (wt1 rfl rfl rfl rfl (decide_eq_false h0)) rfl rfl (x_fieldAddr rfl rfl fo66_1 rfl) ?_)
  refine l_of (s_val (v := .int .i64 h) (wt1 rfl rfl rfl rfl (decide_eq_false h0)) rfl rfl (x_load1 H3 0 rfl rfl Try.underlying3 rfl rfl rfl) ?_)
  refine l_of (s_val (v := .bool (decide ((h : Int) < v))) (wt1 rfl rfl rfl rfl (decide_eq_false h0)) rfl rfl (x_bin rfl rfl rfl b_gtr) ?_)
  refine l_of (s_val (v := .bool (decide ((h : Int) < v))) (wt0 rfl) rfl rfl (x_pick_f rfl rfl (decide_eq_false h0) rfl) ?_)
  refine l_of (s_call (wt0 rfl) (x_call' rfl rfl cl46) (fail_p _ _ (decide_eq_true hv) _) ?_)
  rintro _ wq4 ⟨rfl, H5⟩
  replace H5 : S wq4 [Ob g1 (.cells #[.int .i64 n, .int .i64 h] 66 (0, 0)), Old w no] := H3.absorb (new := []) H5
  refine b_panic ?_
  refine fin_panic ?_
  exact ⟨rfl, H5.mask [false, true]⟩
set_option maxRecDepth 20000 in
set_option maxHeartbeats 4000000 in
theorem level_r (n h v : Int) (h0 : ¬ v < 0) (hv : ¬ h < v) (w : World) : Calls Try.prog 49 #[.agg #[.int .i64 n, .int .i64 h], .int .i64 v] w fun e w' => e = .returned (.tuple #[]) ∧ S w' [Old w no] := by
  have H0 := S.old w
  refine enter 13 Try.func49 rfl rfl rfl ?_
  refine g_weak [(0, .agg #[.int .i64 n, .int .i64 h]), (1, .int .i64 v)] ⟨rfl, rfl, trivial⟩ ?_
  refine g_seq ?_
  refine g_region ?_
  refine l_of (s_box H0 (wt0 rfl) rfl rfl rfl rfl ?_)
  intro g1 wq2 H3
  refine g_nil ?_
  refine g_then ?_
  refine g_region ?_
  refine l_of (s_val (v := .int .i64 v) (wt0 rfl) rfl rfl (x_move rfl rfl) ?_)
  refine l_of (s_val (v := .bool (decide ((v : Int) < 0))) (wt0 rfl) rfl rfl (x_bin rfl rfl rfl b_lss) ?_)
  refine l_of (s_val (v := .bool (decide ((v : Int) < 0))) (wt0 rfl) rfl rfl (x_move rfl rfl) ?_)
  refine l_of (s_val (v := .int .i64 v) (wt1 rfl rfl rfl rfl (decide_eq_false h0)) rfl rfl (x_move rfl rfl) ?_)
  refine l_of (s_val (v := .pointer (some ⟨g1, 1, none⟩)) (wt1 rfl rfl rfl rfl (decide_eq_false h0)) rfl rfl (x_fieldAddr rfl rfl fo66_1 rfl) ?_)
  refine l_of (s_val (v := .int .i64 h) (wt1 rfl rfl rfl rfl (decide_eq_false h0)) rfl rfl (x_load1 H3 0 rfl rfl Try.underlying3 rfl rfl rfl) ?_)
  refine l_of (s_val (v := .bool (decide ((h : Int) < v))) (wt1 rfl rfl rfl rfl (decide_eq_false h0)) rfl rfl (x_bin rfl rfl rfl b_gtr) ?_)
  refine l_of (s_val (v := .bool (decide ((h : Int) < v))) (wt0 rfl) rfl rfl (x_pick_f rfl rfl (decide_eq_false h0) rfl) ?_)
  refine l_of (s_call (wt0 rfl) (x_call' rfl rfl cl46) (fail_r _ _ (decide_eq_false (by omega)) _) ?_)
  rintro _ wq4 ⟨rfl, H5⟩
  replace H5 : S wq4 [Ob g1 (.cells #[.int .i64 n, .int .i64 h] 66 (0, 0)), Old w no] := H3.absorb (new := []) H5
  refine b_ret rfl rfl ?_
  refine g_nil ?_
  refine fin_end [] [] rfl trivial ?_
  exact ⟨rfl, H5.mask [false, true]⟩
set_option maxRecDepth 20000 in
set_option maxHeartbeats 4000000 in
theorem counts_r (n v : Nat) (h : Int) (h1 : 1 ≤ n) (hn : n ≤ 1099511627776) (hv : v ≤ 60) (w : World) : Calls Try.prog 50 #[.agg #[.int .i64 ((n : Int)), .int .i64 h], .int .i64 ((v : Int))] w fun e w' => e = .returned (.int .i64 ((countN n v : Nat) : Int)) ∧ S w' [Old w no] := by
  have H0 := S.old w
  have h2 : 0 < 2 ^ v := Nat.two_pow_pos v
  have h3 : 2 ^ v ≤ 2 ^ 60 := Nat.pow_le_pow_right (by omega) hv
  have h4 : 2 ^ v ≤ 1152921504606846976 := h3
  refine enter 13 Try.func50 rfl rfl rfl ?_
  refine g_weak [(0, .agg #[.int .i64 ((n : Int)), .int .i64 h]), (1, .int .i64 ((v : Int)))] ⟨rfl, rfl, trivial⟩ ?_
  refine g_seq ?_
  refine g_region ?_
  refine l_of (s_box H0 (wt0 rfl) rfl rfl rfl rfl ?_)
  intro g1 wq2 H3
  refine l_of (s_val (v := .int .i64 0) (wt0 rfl) rfl rfl (x_assign rfl rfl) ?_)
  refine g_nil ?_
  refine g_then ?_
  refine g_seq ?_
  refine g_quiet (by kernel_rfl) (by kernel_rfl) H3 ?_
  refine q_val (v := .pointer (some ⟨g1, 0, none⟩)) (wt0 rfl) rfl rfl (fun wx H => x_fieldAddr rfl rfl fo66_0 rfl) ?_
  refine q_val (v := .int .i64 ((n : Int))) (wt0 rfl) rfl rfl (fun wx H => x_load1 H 0 rfl rfl Try.underlying3 rfl rfl rfl) ?_
  refine q_val (v := .int .i64 ((v : Int))) (wt0 rfl) rfl rfl (fun wx H => x_move rfl rfl) ?_
  refine q_val (v := .int .i64 (((2 ^ v : Nat) : Int))) (wt0 rfl) rfl rfl (fun wx H => x_bin rfl rfl rfl (b_shl1 (h := v) (by omega))) ?_
  refine q_val (v := .int .i64 (((n + 2 ^ v : Nat) : Int))) (wt0 rfl) rfl rfl (fun wx H => x_bin rfl rfl rfl (b_addN (a := n) (b := 2 ^ v) (by omega))) ?_
  refine q_val (v := .int .i64 (((n + 2 ^ v - 1 : Nat) : Int))) (wt0 rfl) rfl rfl (fun wx H => x_bin rfl rfl rfl (b_subN (a := n + 2 ^ v) (b := 1) (by omega))) ?_
  refine q_val (v := .int .i64 ((v : Int))) (wt0 rfl) rfl rfl (fun wx H => x_move rfl rfl) ?_
  refine q_val (v := .int .i64 (((countN n v : Nat) : Int))) (wt0 rfl) rfl rfl (fun wx H => x_bin rfl rfl rfl (count_eq h1 ▸ b_shrN (a := n + 2 ^ v - 1) (n := v) (by show v ≤ 64; omega))) ?_
  refine q_val (v := .int .i64 (((countN n v : Nat) : Int))) (wt0 rfl) rfl rfl (fun wx H => x_assign rfl rfl) ?_
  refine q_nil (fun wq4 H5 => ?_)
  refine g_then ?_
  refine g_ret ?_
  refine fin_ret [.tmp 4] [.int .i64 (((countN n v : Nat) : Int))] rfl ⟨rfl, trivial⟩ ?_
  exact ⟨rfl, H5.mask [false, true]⟩
end Go.Proofs.Ytlajgickimgigaa
