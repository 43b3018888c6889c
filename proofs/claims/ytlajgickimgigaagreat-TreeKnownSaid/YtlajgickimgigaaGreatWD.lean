import Derived.Test.YtlajgickimgigaaGreatWC
set_option linter.unusedSimpArgs false
set_option linter.unusedVariables false
namespace Go.Proofs.YtlajgickimgigaaGreat
open Go.RowKit

theorem cl58 : callable Tryz.prog 58 = true := by kernel_rfl
theorem cl60 : callable Tryz.prog 60 = true := by kernel_rfl
set_option maxRecDepth 20000 in
set_option maxHeartbeats 4000000 in
set_option maxRecDepth 20000 in
set_option maxHeartbeats 4000000 in
theorem give1_ok (ge g1 g2 : Nat) (y : Int) (V1 V2 : Value) (u : FrameMode) (hy : y = 0) (w : World) (HS : S w [Ob ge (.cells #[.int .i64 y] 26 (0, 0)), Ob g1 (.cells #[V1] 22 (0, 0)), Ob g2 (.cells #[V2] 22 (0, 0))]) : CallsD Tryz.prog 58 #[.pointer (some ⟨ge, 0, none⟩), .pointer (some ⟨g1, 0, none⟩), .pointer (some ⟨g2, 0, none⟩)] u w fun e u' w' => u' = u ∧ (e = .returned (.tuple #[]) ∧ S w' ([Ob ge (.cells #[.int .i64 y] 26 (0, 0)), Ob g1 (.cells #[V1] 22 (0, 0)), Ob g2 (.cells #[V2] 22 (0, 0))] ++ [Old w (fps [Ob ge (.cells #[.int .i64 y] 26 (0, 0)), Ob g1 (.cells #[V1] 22 (0, 0)), Ob g2 (.cells #[V2] 22 (0, 0))])])) := by
  have H00 := HS.beginI
  have H0 : S w ([Ob ge (.cells #[.int .i64 y] 26 (0, 0)), Ob g1 (.cells #[V1] 22 (0, 0)), Ob g2 (.cells #[V2] 22 (0, 0)), Old w (fps [Ob ge (.cells #[.int .i64 y] 26 (0, 0)), Ob g1 (.cells #[V1] 22 (0, 0)), Ob g2 (.cells #[V2] 22 (0, 0))])]) := H00
  refine callsD_plain 5 Tryz.func58 rfl rfl rfl ?_
  refine g_weak [(0, .pointer (some ⟨ge, 0, none⟩)), (1, .pointer (some ⟨g1, 0, none⟩)), (2, .pointer (some ⟨g2, 0, none⟩))] ⟨rfl, rfl, rfl, trivial⟩ ?_
  refine g_seq ?_
  refine g_region ?_
  refine l_of (s_val (v := .int .i64 y) (wt0 rfl) rfl rfl (x_load1 H0 0 rfl rfl Tryz.underlying26 rfl rfl rfl) ?_)
  refine l_of (s_val (v := .bool (!decide ((y : Int) = 0))) (wt0 rfl) rfl rfl (x_bin rfl rfl rfl b_neq) ?_)
  refine g_nil ?_
  refine g_then ?_
  by_cases hb1 : (y : Int) = 0
  · skip
    refine g_cond_f rfl (nf hb1) ?_
    refine g_skip ?_
    refine fin_end [] [] rfl trivial ?_
    exact ⟨rfl, H0.takes [0, 1, 2, 3] (by decide)⟩
  · skip
    refine g_cond_t rfl (nt hb1) ?_
    refine g_region ?_
    refine l_of (s_store H0 1 (wt0 rfl) rfl rfl rfl rfl rfl sz22 rfl rfl (cs' := #[.slice none 0 0]) rfl ?_)
    intro wq2 H3
    refine l_of (s_store H3 2 (wt0 rfl) rfl rfl rfl rfl rfl sz22 rfl rfl (cs' := #[.slice none 0 0]) rfl ?_)
    intro wq4 H5
    refine g_nil ?_
    refine fin_end [] [] rfl trivial ?_
    omega
set_option maxRecDepth 20000 in
set_option maxHeartbeats 4000000 in
set_option maxRecDepth 20000 in
set_option maxHeartbeats 4000000 in
theorem give1_er (ge g1 g2 : Nat) (y : Int) (V1 V2 : Value) (u : FrameMode) (hy : ¬ y = 0) (w : World) (HS : S w [Ob ge (.cells #[.int .i64 y] 26 (0, 0)), Ob g1 (.cells #[V1] 22 (0, 0)), Ob g2 (.cells #[V2] 22 (0, 0))]) : CallsD Tryz.prog 58 #[.pointer (some ⟨ge, 0, none⟩), .pointer (some ⟨g1, 0, none⟩), .pointer (some ⟨g2, 0, none⟩)] u w fun e u' w' => u' = u ∧ (e = .returned (.tuple #[]) ∧ S w' ([Ob ge (.cells #[.int .i64 y] 26 (0, 0)), Ob g1 (.cells #[.slice none 0 0] 22 (0, 0)), Ob g2 (.cells #[.slice none 0 0] 22 (0, 0))] ++ [Old w (fps [Ob ge (.cells #[.int .i64 y] 26 (0, 0)), Ob g1 (.cells #[V1] 22 (0, 0)), Ob g2 (.cells #[V2] 22 (0, 0))])])) := by
  have H00 := HS.beginI
  have H0 : S w ([Ob ge (.cells #[.int .i64 y] 26 (0, 0)), Ob g1 (.cells #[V1] 22 (0, 0)), Ob g2 (.cells #[V2] 22 (0, 0)), Old w (fps [Ob ge (.cells #[.int .i64 y] 26 (0, 0)), Ob g1 (.cells #[V1] 22 (0, 0)), Ob g2 (.cells #[V2] 22 (0, 0))])]) := H00
  refine callsD_plain 5 Tryz.func58 rfl rfl rfl ?_
  refine g_weak [(0, .pointer (some ⟨ge, 0, none⟩)), (1, .pointer (some ⟨g1, 0, none⟩)), (2, .pointer (some ⟨g2, 0, none⟩))] ⟨rfl, rfl, rfl, trivial⟩ ?_
  refine g_seq ?_
  refine g_region ?_
  refine l_of (s_val (v := .int .i64 y) (wt0 rfl) rfl rfl (x_load1 H0 0 rfl rfl Tryz.underlying26 rfl rfl rfl) ?_)
  refine l_of (s_val (v := .bool (!decide ((y : Int) = 0))) (wt0 rfl) rfl rfl (x_bin rfl rfl rfl b_neq) ?_)
  refine g_nil ?_
  refine g_then ?_
  by_cases hb1 : (y : Int) = 0
  · skip
    refine g_cond_f rfl (nf hb1) ?_
    refine g_skip ?_
    refine fin_end [] [] rfl trivial ?_
    omega
  · skip
    refine g_cond_t rfl (nt hb1) ?_
    refine g_region ?_
    refine l_of (s_store H0 1 (wt0 rfl) rfl rfl rfl rfl rfl sz22 rfl rfl (cs' := #[.slice none 0 0]) rfl ?_)
    intro wq2 H3
    refine l_of (s_store H3 2 (wt0 rfl) rfl rfl rfl rfl rfl sz22 rfl rfl (cs' := #[.slice none 0 0]) rfl ?_)
    intro wq4 H5
    refine g_nil ?_
    refine fin_end [] [] rfl trivial ?_
    exact ⟨rfl, H5.takes [0, 1, 2, 3] (by decide)⟩
set_option maxRecDepth 20000 in
set_option maxHeartbeats 4000000 in
set_option maxRecDepth 20000 in
set_option maxHeartbeats 4000000 in
theorem take_s (tb tg mg n h : Nat) (root : ByteArray) (M : PM) (v i : Nat) (h1 : 1 ≤ n) (hn : n ≤ 1099511627776) (hv : v ≤ 60) (hi : i ≤ 1099511627776) (w : World) (HS : S w [Ob tb (.cells #[.pointer (some ⟨tg, 0, none⟩)] 29 (0, 0)), Ob tg (.cells #[.int .i64 ((n : Int)), .int .i64 ((h : Int)), .string root, .map (some mg)] 75 (0, 0)), Mp placeV Value.string placeOk mg (M)]) : Calls Tryz.prog 60 #[.int .i64 ((v : Int)), .int .i64 ((i : Int)), .pointer (some ⟨tb, 0, none⟩)] w fun e w' => ((getT n M v i).isSome = true ∧ e = .returned (.string ((getT n M v i).getD ⟨#[]⟩)) ∨ (getT n M v i).isSome = false ∧ e = .panicked [{ v := .iface 105 (.int .i64 8), recovered := false }]) ∧ S w' ([Ob tb (.cells #[.pointer (some ⟨tg, 0, none⟩)] 29 (0, 0)), Ob tg (.cells #[.int .i64 ((n : Int)), .int .i64 ((h : Int)), .string root, .map (some mg)] 75 (0, 0)), Mp placeV Value.string placeOk mg (M)] ++ [Old w (fps [Ob tb (.cells #[.pointer (some ⟨tg, 0, none⟩)] 29 (0, 0)), Ob tg (.cells #[.int .i64 ((n : Int)), .int .i64 ((h : Int)), .string root, .map (some mg)] 75 (0, 0)), Mp placeV Value.string placeOk mg (M)])]) := by
  have H00 := HS.beginI
  have H0 : S w ([Ob tb (.cells #[.pointer (some ⟨tg, 0, none⟩)] 29 (0, 0)), Ob tg (.cells #[.int .i64 ((n : Int)), .int .i64 ((h : Int)), .string root, .map (some mg)] 75 (0, 0)), Mp placeV Value.string placeOk mg (M), Old w (fps [Ob tb (.cells #[.pointer (some ⟨tg, 0, none⟩)] 29 (0, 0)), Ob tg (.cells #[.int .i64 ((n : Int)), .int .i64 ((h : Int)), .string root, .map (some mg)] 75 (0, 0)), Mp placeV Value.string placeOk mg (M)])]) := H00
  refine enter 19 Tryz.func60 rfl rfl rfl ?_
  refine g_weak [(0, .int .i64 ((v : Int))), (1, .int .i64 ((i : Int))), (2, .pointer (some ⟨tb, 0, none⟩))] ⟨rfl, rfl, rfl, trivial⟩ ?_
  refine g_seq ?_
  refine g_region ?_
  refine l_of (s_val (v := .string (⟨#[]⟩)) (wt0 rfl) rfl rfl (x_assign rfl rfl) ?_)
  refine g_nil ?_
  refine g_then ?_
  refine g_seq ?_
  refine g_region ?_
  refine l_of (s_val (v := .pointer (some ⟨tg, 0, none⟩)) (wt0 rfl) rfl rfl (x_load1 H0 0 rfl rfl Tryz.underlying29 rfl rfl rfl) ?_)
  refine l_of (s_val (v := .int .i64 ((v : Int))) (wt0 rfl) rfl rfl (x_move rfl rfl) ?_)
  refine l_of (s_val (v := .int .i64 ((i : Int))) (wt0 rfl) rfl rfl (x_move rfl rfl) ?_)
  refine l_of (s_call (wt0 rfl) (x_call' rfl rfl cl56) (get_s tg mg n h root M v i h1 hn hv hi _ (H0.takes [1, 2] (by decide))) ?_)
  rintro _ wq1 ⟨rfl, H2⟩
  replace H2 : S wq1 [Ob tg (.cells #[.int .i64 ((n : Int)), .int .i64 ((h : Int)), .string root, .map (some mg)] 75 (0, 0)), Mp placeV Value.string placeOk mg (M), Ob tb (.cells #[.pointer (some ⟨tg, 0, none⟩)] 29 (0, 0)), Old w (fps [Ob tb (.cells #[.pointer (some ⟨tg, 0, none⟩)] 29 (0, 0)), Ob tg (.cells #[.int .i64 ((n : Int)), .int .i64 ((h : Int)), .string root, .map (some mg)] 75 (0, 0)), Mp placeV Value.string placeOk mg (M)])] := H0.absorbI (new := [Ob tg (.cells #[.int .i64 ((n : Int)), .int .i64 ((h : Int)), .string root, .map (some mg)] 75 (0, 0)), Mp placeV Value.string placeOk mg (M)]) [1, 2] H2
  refine b_ret rfl rfl ?_
  refine l_of (s_val (v := .tuple #[.string (((getT n M v i).getD ⟨#[]⟩)), .bool ((getT n M v i).isSome)]) (wt0 rfl) rfl rfl (x_move rfl rfl) ?_)
  refine l_of (s_val (v := .string (((getT n M v i).getD ⟨#[]⟩))) (wt0 rfl) rfl rfl (x_extract rfl rfl rfl) ?_)
  refine l_of (s_val (v := .bool ((getT n M v i).isSome)) (wt0 rfl) rfl rfl (x_extract rfl rfl rfl) ?_)
  refine l_of (s_val (v := .string (((getT n M v i).getD ⟨#[]⟩))) (wt0 rfl) rfl rfl (x_assign rfl rfl) ?_)
  refine l_of (s_val (v := .bool ((getT n M v i).isSome)) (wt0 rfl) rfl rfl (x_assign rfl rfl) ?_)
  refine g_nil ?_
  refine g_then ?_
  refine g_seq ?_
  refine g_region ?_
  refine l_of (s_val (v := .bool ((getT n M v i).isSome)) (wt0 rfl) rfl rfl (x_move rfl rfl) ?_)
  refine l_of (s_val (v := .bool (!((getT n M v i).isSome))) (wt0 rfl) rfl rfl (x_not (b := (getT n M v i).isSome) rfl rfl) ?_)
  rcases Bool.eq_false_or_eq_true ((getT n M v i).isSome) with hb3 | hb3
  · skip
    refine l_of (s_call (wt0 rfl) (x_call' rfl rfl cl36) (fail_r _ _ (neg_of hb3) _) ?_)
    rintro _ wq4 ⟨rfl, H5⟩
    replace H5 : S wq4 [Ob tg (.cells #[.int .i64 ((n : Int)), .int .i64 ((h : Int)), .string root, .map (some mg)] 75 (0, 0)), Mp placeV Value.string placeOk mg (M), Ob tb (.cells #[.pointer (some ⟨tg, 0, none⟩)] 29 (0, 0)), Old w (fps [Ob tb (.cells #[.pointer (some ⟨tg, 0, none⟩)] 29 (0, 0)), Ob tg (.cells #[.int .i64 ((n : Int)), .int .i64 ((h : Int)), .string root, .map (some mg)] 75 (0, 0)), Mp placeV Value.string placeOk mg (M)])] := H2.absorb (new := []) H5
    refine b_ret rfl rfl ?_
    refine g_nil ?_
    refine g_then ?_
    refine g_weak [(6, .string (((getT n M v i).getD ⟨#[]⟩)))] ⟨rfl, trivial⟩ ?_
    refine g_seq ?_
    refine g_region ?_
    refine l_of (s_val (v := .string (((getT n M v i).getD ⟨#[]⟩))) (wt0 rfl) rfl rfl (x_move rfl rfl) ?_)
    refine l_of (s_val (v := .string (((getT n M v i).getD ⟨#[]⟩))) (wt0 rfl) rfl rfl (x_assign rfl rfl) ?_)
    refine g_nil ?_
    refine g_then ?_
    refine g_ret ?_
    refine fin_ret [.tmp 5] [.string (((getT n M v i).getD ⟨#[]⟩))] rfl ⟨rfl, trivial⟩ ?_
    exact ⟨.inl ⟨hb3, rfl⟩, H5.takes [2, 0, 1, 3] (by decide)⟩
  · skip
    refine l_of (s_call (wt0 rfl) (x_call' rfl rfl cl36) (fail_p _ _ (neg_of hb3) _) ?_)
    rintro _ wq6 ⟨rfl, H7⟩
    replace H7 : S wq6 [Ob tg (.cells #[.int .i64 ((n : Int)), .int .i64 ((h : Int)), .string root, .map (some mg)] 75 (0, 0)), Mp placeV Value.string placeOk mg (M), Ob tb (.cells #[.pointer (some ⟨tg, 0, none⟩)] 29 (0, 0)), Old w (fps [Ob tb (.cells #[.pointer (some ⟨tg, 0, none⟩)] 29 (0, 0)), Ob tg (.cells #[.int .i64 ((n : Int)), .int .i64 ((h : Int)), .string root, .map (some mg)] 75 (0, 0)), Mp placeV Value.string placeOk mg (M)])] := H2.absorb (new := []) H7
    refine b_panic ?_
    refine g_then_panic ?_
    refine fin_panic ?_
    exact ⟨.inr ⟨hb3, rfl⟩, H7.takes [2, 0, 1, 3] (by decide)⟩
set_option maxRecDepth 20000 in
set_option maxHeartbeats 4000000 in
set_option maxRecDepth 20000 in
set_option maxHeartbeats 4000000 in
theorem give_s (tg mg n h : Nat) (root : ByteArray) (M : PM) (v i c u : Int) (h1 : 1 ≤ n) (hn : n ≤ 4096) (hh : h ≤ 12) (hcc : c < 9223372036854775808) (w : World) (HS : S w [Ob tg (.cells #[.int .i64 ((n : Int)), .int .i64 ((h : Int)), .string root, .map (some mg)] 75 (0, 0)), Mp placeV Value.string placeOk mg (M)]) : Calls Tryz.prog 19 #[.pointer (some ⟨tg, 0, none⟩), .int .i64 v, .int .i64 i, .int .i64 c, .int .i64 u] w fun e w' => ∃ p1 c1 p2 c2, e = .returned (.tuple #[.slice p1 (giveS h (getT n M) v i c u).1.length c1, .slice p2 (giveS h (getT n M) v i c u).2.1.length c2, .int .i64 (giveS h (getT n M) v i c u).2.2]) ∧ S w' ([Rw 9 1 p1 (giveS h (getT n M) v i c u).1.length c1 (stV (giveS h (getT n M) v i c u).1), Rw 9 1 p2 (giveS h (getT n M) v i c u).2.1.length c2 (stV (giveS h (getT n M) v i c u).2.1), Ob tg (.cells #[.int .i64 ((n : Int)), .int .i64 ((h : Int)), .string root, .map (some mg)] 75 (0, 0)), Mp placeV Value.string placeOk mg (M)] ++ [Old w (fps [Ob tg (.cells #[.int .i64 ((n : Int)), .int .i64 ((h : Int)), .string root, .map (some mg)] 75 (0, 0)), Mp placeV Value.string placeOk mg (M)])]) := by
  have H00 := HS.beginI
  have H0 : S w ([Ob tg (.cells #[.int .i64 ((n : Int)), .int .i64 ((h : Int)), .string root, .map (some mg)] 75 (0, 0)), Mp placeV Value.string placeOk mg (M), Old w (fps [Ob tg (.cells #[.int .i64 ((n : Int)), .int .i64 ((h : Int)), .string root, .map (some mg)] 75 (0, 0)), Mp placeV Value.string placeOk mg (M)])]) := H00
  refine enter_d 85 Tryz.func19 rfl rfl rfl ?_
  refine g_weak [(0, .pointer (some ⟨tg, 0, none⟩)), (1, .int .i64 v), (2, .int .i64 i), (3, .int .i64 c), (4, .int .i64 u)] ⟨rfl, rfl, rfl, rfl, rfl, trivial⟩ ?_
  refine g_seq ?_
  refine g_region ?_
  refine l_of (s_box H0 (wt0 rfl) rfl rfl rfl rfl ?_)
  intro g1 wq2 H3
  refine l_of (s_alloc H3 (wt0 rfl) rfl rfl rfl ze22 ?_)
  intro g4 wq5 H6
  refine l_of (s_alloc H6 (wt0 rfl) rfl rfl rfl ze22 ?_)
  intro g7 wq8 H9
  refine l_of (s_alloc H9 (wt0 rfl) rfl rfl rfl ze26 ?_)
  intro g10 wq11 H12
  refine g_nil ?_
  refine g_then ?_
  refine g_seq ?_
  refine g_region ?_
  refine l_of (s_val (v := .func (.func 58) #[] #[.pointer (some ⟨g10, 0, none⟩), .pointer (some ⟨g4, 0, none⟩), .pointer (some ⟨g7, 0, none⟩)]) (wt0 rfl) rfl rfl (x_makeFunc rfl rfl rfl) ?_)
  refine l_of (s_defer (wt0 rfl) rfl (xd_defer rfl rfl rfl) ?_)
  refine g_nil ?_
  refine g_then ?_
  refine g_seq ?_
  refine g_region ?_
  refine l_of (s_defer (wt0 rfl) rfl (xd_defer rfl rfl rfl) ?_)
  refine g_nil ?_
  refine g_then ?_
  refine g_seq ?_
  refine g_region ?_
  refine l_of (s_val (v := .pointer (some ⟨tg, 0, none⟩)) (wt0 rfl) rfl rfl (x_load1 H12 3 rfl rfl Tryz.underlying29 rfl rfl rfl) ?_)
  refine l_of (s_val (v := .bool false) (wt0 rfl) rfl rfl (x_bin rfl rfl rfl (b_eqN (r := false) Tryz.underlying29 rfl)) ?_)
  refine l_of (s_call (wt0 rfl) (x_call' rfl rfl cl36) (fail_r _ _ rfl _) ?_)
  rintro _ wq13 ⟨rfl, H14⟩
  replace H14 : S wq13 [Ob g10 (.cells #[.int .i64 0] 26 (0, 0)), Ob g7 (.cells #[.slice none 0 0] 22 (0, 0)), Ob g4 (.cells #[.slice none 0 0] 22 (0, 0)), Ob g1 (.cells #[.pointer (some ⟨tg, 0, none⟩)] 29 (0, 0)), Ob tg (.cells #[.int .i64 ((n : Int)), .int .i64 ((h : Int)), .string root, .map (some mg)] 75 (0, 0)), Mp placeV Value.string placeOk mg (M), Old w (fps [Ob tg (.cells #[.int .i64 ((n : Int)), .int .i64 ((h : Int)), .string root, .map (some mg)] 75 (0, 0)), Mp placeV Value.string placeOk mg (M)])] := H12.absorb (new := []) H14
  refine b_ret rfl rfl ?_
  refine g_nil ?_
  refine g_then ?_
  refine g_seq ?_
  refine g_region ?_
  refine l_of (s_val (v := .pointer (some ⟨tg, 0, none⟩)) (wt0 rfl) rfl rfl (x_load1 H14 3 rfl rfl Tryz.underlying29 rfl rfl rfl) ?_)
  refine l_of (s_val (v := .pointer (some ⟨tg, 0, none⟩)) (wt0 rfl) rfl rfl (x_nilCheck rfl rfl) ?_)
  refine l_of (s_val (v := .pointer (some ⟨tg, 0, none⟩)) (wt0 rfl) rfl rfl (x_fieldAddr rfl rfl fo75_0 rfl) ?_)
  refine l_of (s_val (v := .agg #[.int .i64 ((n : Int)), .int .i64 ((h : Int))]) (wt0 rfl) rfl rfl (x_loadA H14 4 rfl rfl Tryz.underlying65 rfl sz65 rfl rfl rfl) ?_)
  refine l_of (s_val (v := .int .i64 v) (wt0 rfl) rfl rfl (x_move rfl rfl) ?_)
  refine l_of (s_val (v := .int .i64 i) (wt0 rfl) rfl rfl (x_move rfl rfl) ?_)
  refine l_of (s_val (v := .int .i64 c) (wt0 rfl) rfl rfl (x_move rfl rfl) ?_)
  refine l_of (s_call (wt0 rfl) (x_call' rfl rfl cl59) (run_s n h v i c (by omega) hcc _) ?_)
  rintro _ wq15 ⟨rfl, H16⟩
  replace H16 : S wq15 [Ob g10 (.cells #[.int .i64 0] 26 (0, 0)), Ob g7 (.cells #[.slice none 0 0] 22 (0, 0)), Ob g4 (.cells #[.slice none 0 0] 22 (0, 0)), Ob g1 (.cells #[.pointer (some ⟨tg, 0, none⟩)] 29 (0, 0)), Ob tg (.cells #[.int .i64 ((n : Int)), .int .i64 ((h : Int)), .string root, .map (some mg)] 75 (0, 0)), Mp placeV Value.string placeOk mg (M), Old w (fps [Ob tg (.cells #[.int .i64 ((n : Int)), .int .i64 ((h : Int)), .string root, .map (some mg)] 75 (0, 0)), Mp placeV Value.string placeOk mg (M)])] := H14.absorb (new := []) H16
  by_cases hrb : rightB h v i c = true
  · skip
    rw [show runV h v i c = .returned (.int .i64 (((tallN c.toNat : Nat) : Int))) from if_pos hrb]
    obtain ⟨a1, a2, a3⟩ := right_nats hh hrb
    obtain ⟨V0, rfl⟩ := nat_of a1
    obtain ⟨I0, rfl⟩ := nat_of a2
    obtain ⟨C0, rfl⟩ := nat_of a3
    obtain ⟨r1, r2, r3, r4, r5, r6, r7, r8, r9, r10⟩ := room hh hrb
    have r11 : I0 / C0 ≤ I0 := Nat.div_le_self _ _
    rw [Int.toNat_natCast]
    refine b_ret rfl rfl ?_
    refine l_of (s_val (v := .int .i64 (((tallN C0 : Nat) : Int))) (wt0 rfl) rfl rfl (x_assign rfl rfl) ?_)
    refine g_nil ?_
    refine g_then ?_
    refine g_weak [(1, .int .i64 ((V0 : Int))), (2, .int .i64 ((I0 : Int))), (3, .int .i64 ((C0 : Int))), (4, .int .i64 u), (5, .pointer (some ⟨g1, 0, none⟩)), (10, .pointer (some ⟨g4, 0, none⟩)), (11, .pointer (some ⟨g7, 0, none⟩)), (12, .pointer (some ⟨g10, 0, none⟩)), (13, .int .i64 (((tallN C0 : Nat) : Int)))] ⟨rfl, rfl, rfl, rfl, rfl, rfl, rfl, rfl, rfl, trivial⟩ ?_
    refine g_seq ?_
    refine g_region ?_
    refine l_of (s_val (v := .int .i64 u) (wt0 rfl) rfl rfl (x_move rfl rfl) ?_)
    refine l_of (s_val (v := .bool (decide ((u : Int) < 0))) (wt0 rfl) rfl rfl (x_bin rfl rfl rfl b_lss) ?_)
    refine l_of (s_val (v := .bool (decide ((u : Int) < 0))) (wt0 rfl) rfl rfl (x_move rfl rfl) ?_)
    by_cases hb17 : (u : Int) < 0
    · skip
      refine l_of (s_not (wn1 rfl rfl rfl rfl (decide_eq_true hb17)) rfl rfl ?_)
      refine l_of (s_not (wn1 rfl rfl rfl rfl (decide_eq_true hb17)) rfl rfl ?_)
      refine l_of (s_not (wn1 rfl rfl rfl rfl (decide_eq_true hb17)) rfl rfl ?_)
      refine l_of (s_not (wn1 rfl rfl rfl rfl (decide_eq_true hb17)) rfl rfl ?_)
      refine l_of (s_not (wn1 rfl rfl rfl rfl (decide_eq_true hb17)) rfl rfl ?_)
      refine l_of (s_not (wn1 rfl rfl rfl rfl (decide_eq_true hb17)) rfl rfl ?_)
      refine l_of (s_not (wn1 rfl rfl rfl rfl (decide_eq_true hb17)) rfl rfl ?_)
      refine l_of (s_not (wn1 rfl rfl rfl rfl (decide_eq_true hb17)) rfl rfl ?_)
      refine l_of (s_not (wn1 rfl rfl rfl rfl (decide_eq_true hb17)) rfl rfl ?_)
      refine l_of (s_not (wn1 rfl rfl rfl rfl (decide_eq_true hb17)) rfl rfl ?_)
      refine l_of (s_not (wn1 rfl rfl rfl rfl (decide_eq_true hb17)) rfl rfl ?_)
      refine l_of (s_val (v := .bool true) (wt0 rfl) rfl rfl (x_pick_t rfl rfl (decide_eq_true hb17) rfl) ?_)
      refine l_of (s_call (wt0 rfl) (x_call' rfl rfl cl36) (fail_p _ _ rfl _) ?_)
      rintro _ wq18 ⟨rfl, H19⟩
      replace H19 : S wq18 [Ob g10 (.cells #[.int .i64 0] 26 (0, 0)), Ob g7 (.cells #[.slice none 0 0] 22 (0, 0)), Ob g4 (.cells #[.slice none 0 0] 22 (0, 0)), Ob g1 (.cells #[.pointer (some ⟨tg, 0, none⟩)] 29 (0, 0)), Ob tg (.cells #[.int .i64 ((n : Int)), .int .i64 ((h : Int)), .string root, .map (some mg)] 75 (0, 0)), Mp placeV Value.string placeOk mg (M), Old w (fps [Ob tg (.cells #[.int .i64 ((n : Int)), .int .i64 ((h : Int)), .string root, .map (some mg)] 75 (0, 0)), Mp placeV Value.string placeOk mg (M)])] := H16.absorb (new := []) H19
      refine b_panic ?_
      refine g_then_panic ?_
      refine fin_dpanic ?_
      refine gl_step (by simp) cl30 (caught_p g10 (7) (0) [] _ (H19.ob (k := 0) rfl)) ?_
      rintro _ _ wq20 ⟨⟨rfl, H21⟩, rfl⟩
      replace H21 : S wq20 [Ob g10 (.cells #[.int .i64 7] 26 (0, 0)), Ob g7 (.cells #[.slice none 0 0] 22 (0, 0)), Ob g4 (.cells #[.slice none 0 0] 22 (0, 0)), Ob g1 (.cells #[.pointer (some ⟨tg, 0, none⟩)] 29 (0, 0)), Ob tg (.cells #[.int .i64 ((n : Int)), .int .i64 ((h : Int)), .string root, .map (some mg)] 75 (0, 0)), Mp placeV Value.string placeOk mg (M), Old w (fps [Ob tg (.cells #[.int .i64 ((n : Int)), .int .i64 ((h : Int)), .string root, .map (some mg)] 75 (0, 0)), Mp placeV Value.string placeOk mg (M)])] := H19.absorbK (new := [Ob g10 (.cells #[.int .i64 7] 26 (0, 0))]) [0] (by intro g hg; subst hg; exact ⟨0, rfl, _, rfl, rfl⟩) H21
      refine (?_ : GL _ _ _ _ _ _ FrameMode.returning _)
      refine gl_step (by simp) cl58 (give1_er g10 g4 g7 (7) (.slice none 0 0) (.slice none 0 0) _ (by decide) _ (H21.takes [0, 2, 1] (by decide))) ?_
      rintro _ _ wq22 ⟨rfl, rfl, H23⟩
      replace H23 : S wq22 [Ob g10 (.cells #[.int .i64 7] 26 (0, 0)), Ob g4 (.cells #[.slice none 0 0] 22 (0, 0)), Ob g7 (.cells #[.slice none 0 0] 22 (0, 0)), Ob g1 (.cells #[.pointer (some ⟨tg, 0, none⟩)] 29 (0, 0)), Ob tg (.cells #[.int .i64 ((n : Int)), .int .i64 ((h : Int)), .string root, .map (some mg)] 75 (0, 0)), Mp placeV Value.string placeOk mg (M), Old w (fps [Ob tg (.cells #[.int .i64 ((n : Int)), .int .i64 ((h : Int)), .string root, .map (some mg)] 75 (0, 0)), Mp placeV Value.string placeOk mg (M)])] := H21.absorbI (new := [Ob g10 (.cells #[.int .i64 7] 26 (0, 0)), Ob g4 (.cells #[.slice none 0 0] 22 (0, 0)), Ob g7 (.cells #[.slice none 0 0] 22 (0, 0))]) [0, 2, 1] H23
      refine (?_ : GL _ _ _ _ _ _ FrameMode.returning _)
      refine gl_ret [.cell 10 22, .cell 11 22, .cell 12 26] [.slice none 0 0, .slice none 0 0, .int .i64 7] rfl ⟨⟨_, rfl, run_load1 Tryz.underlying22 rfl (H23.cell (k := 1) rfl rfl)⟩, ⟨_, rfl, run_load1 Tryz.underlying22 rfl (H23.cell (k := 2) rfl rfl)⟩, ⟨_, rfl, run_load1 Tryz.underlying26 rfl (H23.cell (k := 0) rfl rfl)⟩, trivial⟩ ?_
      rw [give_no (fun hq => by have h3 := hq.2.2; have h2 := hq.2.1; rw [Int.toNat_natCast] at h3; omega)]
      exact ⟨none, 0, none, 0, rfl, ((H23.takes [4, 5, 6] (by decide)).nilRw 9 1).nilRw 9 1⟩
    · skip
      refine l_of (s_val (v := .int .i64 u) (wt1 rfl rfl rfl rfl (decide_eq_false hb17)) rfl rfl (x_move rfl rfl) ?_)
      refine l_of (s_val (v := .pointer (some ⟨tg, 0, none⟩)) (wt1 rfl rfl rfl rfl (decide_eq_false hb17)) rfl rfl (x_load1 H16 3 rfl rfl Tryz.underlying29 rfl rfl rfl) ?_)
      refine l_of (s_val (v := .pointer (some ⟨tg, 0, none⟩)) (wt1 rfl rfl rfl rfl (decide_eq_false hb17)) rfl rfl (x_nilCheck rfl rfl) ?_)
      refine l_of (s_val (v := .pointer (some ⟨tg, 0, none⟩)) (wt1 rfl rfl rfl rfl (decide_eq_false hb17)) rfl rfl (x_fieldAddr rfl rfl fo75_0 rfl) ?_)
      refine l_of (s_val (v := .pointer (some ⟨tg, 1, none⟩)) (wt1 rfl rfl rfl rfl (decide_eq_false hb17)) rfl rfl (x_fieldAddr rfl rfl fo65_1 rfl) ?_)
      refine l_of (s_val (v := .int .i64 ((h : Int))) (wt1 rfl rfl rfl rfl (decide_eq_false hb17)) rfl rfl (x_load1 H16 4 rfl rfl Tryz.underlying3 rfl rfl rfl) ?_)
      refine l_of (s_val (v := .int .i64 ((V0 : Int))) (wt1 rfl rfl rfl rfl (decide_eq_false hb17)) rfl rfl (x_move rfl rfl) ?_)
      refine l_of (s_val (v := .int .i64 ((h : Int) - (V0 : Int))) (wt1 rfl rfl rfl rfl (decide_eq_false hb17)) rfl rfl (x_bin rfl rfl rfl (b_sub (w64 (by omega)))) ?_)
      refine l_of (s_val (v := .int .i64 (((tallN C0 : Nat) : Int))) (wt1 rfl rfl rfl rfl (decide_eq_false hb17)) rfl rfl (x_move rfl rfl) ?_)
      refine l_of (s_val (v := .int .i64 (((h : Int) - (V0 : Int)) - ((tallN C0 : Nat) : Int))) (wt1 rfl rfl rfl rfl (decide_eq_false hb17)) rfl rfl (x_bin rfl rfl rfl (b_sub (w64 (by omega)))) ?_)
      refine l_of (s_val (v := .bool (decide ((((h : Int) - (V0 : Int)) - ((tallN C0 : Nat) : Int) : Int) < u))) (wt1 rfl rfl rfl rfl (decide_eq_false hb17)) rfl rfl (x_bin rfl rfl rfl b_gtr) ?_)
      refine l_of (s_val (v := .bool (decide ((((h : Int) - (V0 : Int)) - ((tallN C0 : Nat) : Int) : Int) < u))) (wt0 rfl) rfl rfl (x_pick_f rfl rfl (decide_eq_false hb17) rfl) ?_)
      by_cases hb24 : (((h : Int) - (V0 : Int)) - ((tallN C0 : Nat) : Int) : Int) < u
      · skip
        refine l_of (s_call (wt0 rfl) (x_call' rfl rfl cl36) (fail_p _ _ (decide_eq_true hb24) _) ?_)
        rintro _ wq25 ⟨rfl, H26⟩
        replace H26 : S wq25 [Ob g10 (.cells #[.int .i64 0] 26 (0, 0)), Ob g7 (.cells #[.slice none 0 0] 22 (0, 0)), Ob g4 (.cells #[.slice none 0 0] 22 (0, 0)), Ob g1 (.cells #[.pointer (some ⟨tg, 0, none⟩)] 29 (0, 0)), Ob tg (.cells #[.int .i64 ((n : Int)), .int .i64 ((h : Int)), .string root, .map (some mg)] 75 (0, 0)), Mp placeV Value.string placeOk mg (M), Old w (fps [Ob tg (.cells #[.int .i64 ((n : Int)), .int .i64 ((h : Int)), .string root, .map (some mg)] 75 (0, 0)), Mp placeV Value.string placeOk mg (M)])] := H16.absorb (new := []) H26
        refine b_panic ?_
        refine g_then_panic ?_
        refine fin_dpanic ?_
        refine gl_step (by simp) cl30 (caught_p g10 (7) (0) [] _ (H26.ob (k := 0) rfl)) ?_
        rintro _ _ wq27 ⟨⟨rfl, H28⟩, rfl⟩
        replace H28 : S wq27 [Ob g10 (.cells #[.int .i64 7] 26 (0, 0)), Ob g7 (.cells #[.slice none 0 0] 22 (0, 0)), Ob g4 (.cells #[.slice none 0 0] 22 (0, 0)), Ob g1 (.cells #[.pointer (some ⟨tg, 0, none⟩)] 29 (0, 0)), Ob tg (.cells #[.int .i64 ((n : Int)), .int .i64 ((h : Int)), .string root, .map (some mg)] 75 (0, 0)), Mp placeV Value.string placeOk mg (M), Old w (fps [Ob tg (.cells #[.int .i64 ((n : Int)), .int .i64 ((h : Int)), .string root, .map (some mg)] 75 (0, 0)), Mp placeV Value.string placeOk mg (M)])] := H26.absorbK (new := [Ob g10 (.cells #[.int .i64 7] 26 (0, 0))]) [0] (by intro g hg; subst hg; exact ⟨0, rfl, _, rfl, rfl⟩) H28
        refine (?_ : GL _ _ _ _ _ _ FrameMode.returning _)
        refine gl_step (by simp) cl58 (give1_er g10 g4 g7 (7) (.slice none 0 0) (.slice none 0 0) _ (by decide) _ (H28.takes [0, 2, 1] (by decide))) ?_
        rintro _ _ wq29 ⟨rfl, rfl, H30⟩
        replace H30 : S wq29 [Ob g10 (.cells #[.int .i64 7] 26 (0, 0)), Ob g4 (.cells #[.slice none 0 0] 22 (0, 0)), Ob g7 (.cells #[.slice none 0 0] 22 (0, 0)), Ob g1 (.cells #[.pointer (some ⟨tg, 0, none⟩)] 29 (0, 0)), Ob tg (.cells #[.int .i64 ((n : Int)), .int .i64 ((h : Int)), .string root, .map (some mg)] 75 (0, 0)), Mp placeV Value.string placeOk mg (M), Old w (fps [Ob tg (.cells #[.int .i64 ((n : Int)), .int .i64 ((h : Int)), .string root, .map (some mg)] 75 (0, 0)), Mp placeV Value.string placeOk mg (M)])] := H28.absorbI (new := [Ob g10 (.cells #[.int .i64 7] 26 (0, 0)), Ob g4 (.cells #[.slice none 0 0] 22 (0, 0)), Ob g7 (.cells #[.slice none 0 0] 22 (0, 0))]) [0, 2, 1] H30
        refine (?_ : GL _ _ _ _ _ _ FrameMode.returning _)
        refine gl_ret [.cell 10 22, .cell 11 22, .cell 12 26] [.slice none 0 0, .slice none 0 0, .int .i64 7] rfl ⟨⟨_, rfl, run_load1 Tryz.underlying22 rfl (H30.cell (k := 1) rfl rfl)⟩, ⟨_, rfl, run_load1 Tryz.underlying22 rfl (H30.cell (k := 2) rfl rfl)⟩, ⟨_, rfl, run_load1 Tryz.underlying26 rfl (H30.cell (k := 0) rfl rfl)⟩, trivial⟩ ?_
        rw [give_no (fun hq => by have h3 := hq.2.2; have h2 := hq.2.1; rw [Int.toNat_natCast] at h3; omega)]
        exact ⟨none, 0, none, 0, rfl, ((H30.takes [4, 5, 6] (by decide)).nilRw 9 1).nilRw 9 1⟩
      · skip
        obtain ⟨U0, rfl⟩ := nat_of (show 0 ≤ u by omega)
        have hu0 : (V0 + tallN C0) + U0 ≤ h := by omega
        have hgo : GiveOk h (V0 : Int) (I0 : Int) (C0 : Int) (U0 : Int) := giveOk_n hrb hu0
        refine l_of (s_call (wt0 rfl) (x_call' rfl rfl cl36) (fail_r _ _ (decide_eq_false hb24) _) ?_)
        rintro _ wq31 ⟨rfl, H32⟩
        replace H32 : S wq31 [Ob g10 (.cells #[.int .i64 0] 26 (0, 0)), Ob g7 (.cells #[.slice none 0 0] 22 (0, 0)), Ob g4 (.cells #[.slice none 0 0] 22 (0, 0)), Ob g1 (.cells #[.pointer (some ⟨tg, 0, none⟩)] 29 (0, 0)), Ob tg (.cells #[.int .i64 ((n : Int)), .int .i64 ((h : Int)), .string root, .map (some mg)] 75 (0, 0)), Mp placeV Value.string placeOk mg (M), Old w (fps [Ob tg (.cells #[.int .i64 ((n : Int)), .int .i64 ((h : Int)), .string root, .map (some mg)] 75 (0, 0)), Mp placeV Value.string placeOk mg (M)])] := H16.absorb (new := []) H32
        refine b_ret rfl rfl ?_
        refine g_nil ?_
        refine g_then ?_
        refine g_weak [(1, .int .i64 ((V0 : Int))), (2, .int .i64 ((I0 : Int))), (3, .int .i64 ((C0 : Int))), (4, .int .i64 ((U0 : Int))), (5, .pointer (some ⟨g1, 0, none⟩)), (10, .pointer (some ⟨g4, 0, none⟩)), (11, .pointer (some ⟨g7, 0, none⟩)), (12, .pointer (some ⟨g10, 0, none⟩)), (13, .int .i64 (((tallN C0 : Nat) : Int)))] ⟨rfl, rfl, rfl, rfl, rfl, rfl, rfl, rfl, rfl, trivial⟩ ?_
        refine g_seq ?_
        refine g_region ?_
        refine l_of (s_val (v := .func (.func 60) #[] #[.pointer (some ⟨g1, 0, none⟩)]) (wt0 rfl) rfl rfl (x_makeFunc rfl rfl rfl) ?_)
        refine l_of (s_val (v := .func (.func 60) #[] #[.pointer (some ⟨g1, 0, none⟩)]) (wt0 rfl) rfl rfl (x_assign rfl rfl) ?_)
        refine g_nil ?_
        refine g_then ?_
        refine g_seq ?_
        refine g_seq ?_
        refine g_region ?_
        refine l_of (s_val (v := .int .i64 ((C0 : Int))) (wt0 rfl) rfl rfl (x_move rfl rfl) ?_)
        refine l_of (s_val (v := .int .i64 0) (wt0 rfl) rfl rfl (x_move rfl rfl) ?_)
        refine g_nil ?_
        refine g_then ?_
        refine g_block ?_
        refine g_loop (ι := Nat × Option Addr × Nat) (fun (k, q, d) => [(1, .int .i64 ((V0 : Int))), (2, .int .i64 ((I0 : Int))), (3, .int .i64 ((C0 : Int))), (4, .int .i64 ((U0 : Int))), (10, .pointer (some ⟨g4, 0, none⟩)), (11, .pointer (some ⟨g7, 0, none⟩)), (12, .pointer (some ⟨g10, 0, none⟩)), (13, .int .i64 (((tallN C0 : Nat) : Int))), (14, .func (.func 60) #[] #[.pointer (some ⟨g1, 0, none⟩)]), (47, .int .i64 ((C0 : Int))), (48, .int .i64 ((k : Int)))]) (fun (k, q, d) wx => (k ≤ C0) ∧ (∀ j, j < k → ((getT n M) V0 (I0 + j)).isSome = true) ∧ S wx [Rw 9 1 q k d (stV (gotN (getT n M) V0 I0 k)), Ob g4 (.cells #[.slice q k d] 22 (0, 0)), Ob g7 (.cells #[.slice none 0 0] 22 (0, 0)), Ob g10 (.cells #[.int .i64 0] 26 (0, 0)), Ob g1 (.cells #[.pointer (some ⟨tg, 0, none⟩)] 29 (0, 0)), Ob tg (.cells #[.int .i64 ((n : Int)), .int .i64 ((h : Int)), .string root, .map (some mg)] 75 (0, 0)), Mp placeV Value.string placeOk mg (M), Old w (fps [Ob tg (.cells #[.int .i64 ((n : Int)), .int .i64 ((h : Int)), .string root, .map (some mg)] 75 (0, 0)), Mp placeV Value.string placeOk mg (M)])]) (fun (k, q, d) => C0 - k) (0, none, 0) ⟨rfl, rfl, rfl, rfl, rfl, rfl, rfl, rfl, rfl, rfl, rfl, trivial⟩ ⟨Nat.zero_le _, (fun j hj => absurd hj (Nat.not_lt_zero j)), ((H32.takes [2, 1, 0, 3, 4, 5, 6] (by decide)).nilRw 9 1)⟩ ?_
        rintro ⟨k, q, d⟩ wq33 ⟨hk, hG1, H34⟩
        replace H34 : S wq33 [Rw 9 1 q k d (stV (gotN (getT n M) V0 I0 k)), Ob g4 (.cells #[.slice q k d] 22 (0, 0)), Ob g7 (.cells #[.slice none 0 0] 22 (0, 0)), Ob g10 (.cells #[.int .i64 0] 26 (0, 0)), Ob g1 (.cells #[.pointer (some ⟨tg, 0, none⟩)] 29 (0, 0)), Ob tg (.cells #[.int .i64 ((n : Int)), .int .i64 ((h : Int)), .string root, .map (some mg)] 75 (0, 0)), Mp placeV Value.string placeOk mg (M), Old w (fps [Ob tg (.cells #[.int .i64 ((n : Int)), .int .i64 ((h : Int)), .string root, .map (some mg)] 75 (0, 0)), Mp placeV Value.string placeOk mg (M)])] := H34
        refine g_weak [(1, .int .i64 ((V0 : Int))), (2, .int .i64 ((I0 : Int))), (3, .int .i64 ((C0 : Int))), (4, .int .i64 ((U0 : Int))), (10, .pointer (some ⟨g4, 0, none⟩)), (11, .pointer (some ⟨g7, 0, none⟩)), (12, .pointer (some ⟨g10, 0, none⟩)), (13, .int .i64 (((tallN C0 : Nat) : Int))), (14, .func (.func 60) #[] #[.pointer (some ⟨g1, 0, none⟩)]), (47, .int .i64 ((C0 : Int))), (48, .int .i64 ((k : Int)))] ⟨rfl, rfl, rfl, rfl, rfl, rfl, rfl, rfl, rfl, rfl, rfl, trivial⟩ ?_
        refine g_seq ?_
        refine g_region ?_
        refine l_of (s_val (v := .bool (decide (((k : Int) : Int) < (C0 : Int)))) (wt0 rfl) rfl rfl (x_bin rfl rfl rfl b_lss) ?_)
        refine g_nil ?_
        refine g_then ?_
        refine g_seq ?_
        by_cases hb35 : ((k : Int) : Int) < (C0 : Int)
        · skip
          refine g_cond_t rfl (decide_eq_true hb35) ?_
          refine g_skip ?_
          refine g_then ?_
          refine g_seq ?_
          refine g_block ?_
          refine g_seq ?_
          refine g_region ?_
          refine l_of (s_val (v := .int .i64 ((k : Int))) (wt0 rfl) rfl rfl (x_move rfl rfl) ?_)
          refine l_of (s_val (v := .int .i64 ((k : Int))) (wt0 rfl) rfl rfl (x_assign rfl rfl) ?_)
          refine g_nil ?_
          refine g_then ?_
          refine g_any [(1, .int .i64 ((V0 : Int))), (2, .int .i64 ((I0 : Int))), (3, .int .i64 ((C0 : Int))), (4, .int .i64 ((U0 : Int))), (10, .pointer (some ⟨g4, 0, none⟩)), (11, .pointer (some ⟨g7, 0, none⟩)), (12, .pointer (some ⟨g10, 0, none⟩)), (13, .int .i64 (((tallN C0 : Nat) : Int))), (14, .func (.func 60) #[] #[.pointer (some ⟨g1, 0, none⟩)]), (15, .int .i64 ((k : Int))), (47, .int .i64 ((C0 : Int))), (48, .int .i64 ((k : Int))), (49, .bool (decide (((k : Int) : Int) < (C0 : Int)))), (50, .int .i64 ((k : Int)))] (fun wx => S wx [Ob g4 (.cells #[.slice q k d] 22 (0, 0))]) [9] (by kernel_rfl) H34 (fun wq36 H37 => ?_)
          refine a_take (v := .slice q k d) 0 rfl (wt0 rfl) rfl rfl rfl (by kernel_rfl) (by kernel_rfl) (by kernel_rfl) (by kernel_rfl) (H37.mask [false, true, false, false, false, false, false, false]) (fun wx H => x_load1 H 0 rfl rfl Tryz.underlying22 rfl rfl rfl) ?_
          refine a_take (v := .func (.func 60) #[] #[.pointer (some ⟨g1, 0, none⟩)]) 1 rfl (wt0 rfl) rfl rfl rfl (by kernel_rfl) (by kernel_rfl) (by kernel_rfl) (by kernel_rfl) (H37.mask [false, true, false, false, false, false, false, false]) (fun wx H => x_move rfl rfl) ?_
          refine a_take (v := .int .i64 ((V0 : Int))) 2 rfl (wt0 rfl) rfl rfl rfl (by kernel_rfl) (by kernel_rfl) (by kernel_rfl) (by kernel_rfl) (H37.mask [false, true, false, false, false, false, false, false]) (fun wx H => x_move rfl rfl) ?_
          refine a_take (v := .int .i64 ((I0 : Int))) 3 rfl (wt0 rfl) rfl rfl rfl (by kernel_rfl) (by kernel_rfl) (by kernel_rfl) (by kernel_rfl) (H37.mask [false, true, false, false, false, false, false, false]) (fun wx H => x_move rfl rfl) ?_
          refine a_take (v := .int .i64 ((k : Int))) 4 rfl (wt0 rfl) rfl rfl rfl (by kernel_rfl) (by kernel_rfl) (by kernel_rfl) (by kernel_rfl) (H37.mask [false, true, false, false, false, false, false, false]) (fun wx H => x_move rfl rfl) ?_
          refine a_take (v := .int .i64 (((I0 + k : Nat) : Int))) 5 rfl (wt0 rfl) rfl rfl rfl (by kernel_rfl) (by kernel_rfl) (by kernel_rfl) (by kernel_rfl) (H37.mask [false, true, false, false, false, false, false, false]) (fun wx H => x_bin rfl rfl rfl (b_addN (a := I0) (b := k) (by omega))) ?_
          refine a_one (i := 6) (by kernel_rfl) rfl ?_
          refine s_call (wt0 rfl) (x_call rfl rfl rfl cl60) (take_s g1 tg mg n h root M V0 (I0 + k) h1 (by omega) (by omega) (by omega) _ (H37.takes [4, 5, 6] (by decide))) ?_
          rintro ee42 wq39 ⟨hor41, H40⟩
          replace H40 : S wq39 [Ob g1 (.cells #[.pointer (some ⟨tg, 0, none⟩)] 29 (0, 0)), Ob tg (.cells #[.int .i64 ((n : Int)), .int .i64 ((h : Int)), .string root, .map (some mg)] 75 (0, 0)), Mp placeV Value.string placeOk mg (M), Rw 9 1 q k d (stV (gotN (getT n M) V0 I0 k)), Ob g4 (.cells #[.slice q k d] 22 (0, 0)), Ob g7 (.cells #[.slice none 0 0] 22 (0, 0)), Ob g10 (.cells #[.int .i64 0] 26 (0, 0)), Old w (fps [Ob tg (.cells #[.int .i64 ((n : Int)), .int .i64 ((h : Int)), .string root, .map (some mg)] 75 (0, 0)), Mp placeV Value.string placeOk mg (M)])] := H37.absorbI (new := [Ob g1 (.cells #[.pointer (some ⟨tg, 0, none⟩)] 29 (0, 0)), Ob tg (.cells #[.int .i64 ((n : Int)), .int .i64 ((h : Int)), .string root, .map (some mg)] 75 (0, 0)), Mp placeV Value.string placeOk mg (M)]) [4, 5, 6] H40
          rcases hor41 with ⟨htk38, rfl⟩ | ⟨htk38, rfl⟩
          · skip
            refine b_ret rfl rfl ?_
            refine a_k (H40.mask [false, false, false, false, true, false, false, false]) ?_
            refine a_one (i := 7) (by kernel_rfl) rfl ?_
            refine s_buildSlice H40 (wt0 rfl) rfl rfl rfl (vs := [.string (((getT n M V0 (I0 + k)).getD ⟨#[]⟩))]) rfl Tryz.underlying22 sz9 ze9 rfl rfl (cells := #[.string (((getT n M V0 (I0 + k)).getD ⟨#[]⟩))]) (by kernel_rfl) ?_
            intro g43 wq44 H45
            refine a_k (H45.mask [false, false, false, false, false, true, false, false, false]) ?_
            refine a_one (i := 8) (by kernel_rfl) rfl ?_
            refine s_appendR (n := k) (m := 1) (sc := d) (xs := (stV (gotN (getT n M) V0 I0 k))) (news := [.string (((getT n M V0 (I0 + k)).getD ⟨#[]⟩))]) (p := q) (ad := ⟨g43, 0, none⟩) H45 4 (wt0 rfl) rfl rfl rfl rfl rfl rfl Tryz.underlying22 inf9 rfl (by decide) (by decide) rfl (by decide) (news_ob H45 (j0 := 0) rfl) rfl (by omega) ?_
            intro p46 c47 wq48 (H49 : S wq48 [Ob g43 (.cells #[.string (((getT n M V0 (I0 + k)).getD ⟨#[]⟩))] 9 (0, 0)), Ob g1 (.cells #[.pointer (some ⟨tg, 0, none⟩)] 29 (0, 0)), Ob tg (.cells #[.int .i64 ((n : Int)), .int .i64 ((h : Int)), .string root, .map (some mg)] 75 (0, 0)), Mp placeV Value.string placeOk mg (M), Rw 9 1 p46 (k + 1) c47 ((stV (gotN (getT n M) V0 I0 k)) ++ [.string (((getT n M V0 (I0 + k)).getD ⟨#[]⟩))]), Ob g4 (.cells #[.slice q k d] 22 (0, 0)), Ob g7 (.cells #[.slice none 0 0] 22 (0, 0)), Ob g10 (.cells #[.int .i64 0] 26 (0, 0)), Old w (fps [Ob tg (.cells #[.int .i64 ((n : Int)), .int .i64 ((h : Int)), .string root, .map (some mg)] 75 (0, 0)), Mp placeV Value.string placeOk mg (M)])])
            refine a_k (H49.mask [false, false, false, false, false, true, false, false, false]) ?_
            refine a_one (i := 9) (by kernel_rfl) rfl ?_
            refine s_store H49 5 (wt0 rfl) rfl rfl rfl rfl rfl sz22 rfl rfl (cs' := #[.slice p46 (k + 1) c47]) rfl ?_
            intro wq50 H51
            refine a_kt rfl ?_
            refine a_done (by kernel_rfl) ?_
            refine g_in ?_
            refine g_then ?_
            refine g_weak [(1, .int .i64 ((V0 : Int))), (2, .int .i64 ((I0 : Int))), (3, .int .i64 ((C0 : Int))), (4, .int .i64 ((U0 : Int))), (10, .pointer (some ⟨g4, 0, none⟩)), (11, .pointer (some ⟨g7, 0, none⟩)), (12, .pointer (some ⟨g10, 0, none⟩)), (13, .int .i64 (((tallN C0 : Nat) : Int))), (14, .func (.func 60) #[] #[.pointer (some ⟨g1, 0, none⟩)]), (47, .int .i64 ((C0 : Int))), (48, .int .i64 ((k : Int)))] ⟨rfl, rfl, rfl, rfl, rfl, rfl, rfl, rfl, rfl, rfl, rfl, trivial⟩ ?_
            refine g_region ?_
            refine l_of (s_val (v := .int .i64 ((k : Int) + 1)) (wt0 rfl) rfl rfl (x_bin rfl rfl rfl (b_add (w64 (by omega)))) ?_)
            refine l_of (s_val (v := .int .i64 ((k : Int) + 1)) (wt0 rfl) rfl rfl (x_move rfl rfl) ?_)
            refine g_nil ?_
            refine g_then ?_
            refine g_round (i := (k, q, d)) (k + 1, p46, c47) ?_ ?_ ?_
            · exact ⟨rfl, rfl, rfl, rfl, rfl, rfl, rfl, rfl, rfl, rfl, rfl, trivial⟩
            · exact ⟨by omega, (has_next hG1 htk38), (by rw [gotN_next, stV_snoc]; exact (H51.takes [4, 5, 6, 7, 1, 2, 3, 8] (by decide)))⟩
            · (try dsimp only); omega
          · skip
            refine b_panic ?_
            refine pan_in ⟨rfl, rfl, rfl, rfl, rfl, rfl, rfl, rfl, rfl, rfl, rfl, rfl, rfl, rfl, trivial⟩ ?_
            refine g_in_panic ?_
            refine g_then_panic ?_
            refine g_then_panic ?_
            refine g_in_panic ?_
            refine g_then_panic ?_
            refine fin_dpanic ?_
            refine gl_step (by simp) cl30 (caught_p g10 (8) (0) [] _ (H40.ob (k := 6) rfl)) ?_
            rintro _ _ wq52 ⟨⟨rfl, H53⟩, rfl⟩
            replace H53 : S wq52 [Ob g10 (.cells #[.int .i64 8] 26 (0, 0)), Ob g1 (.cells #[.pointer (some ⟨tg, 0, none⟩)] 29 (0, 0)), Ob tg (.cells #[.int .i64 ((n : Int)), .int .i64 ((h : Int)), .string root, .map (some mg)] 75 (0, 0)), Mp placeV Value.string placeOk mg (M), Rw 9 1 q k d (stV (gotN (getT n M) V0 I0 k)), Ob g4 (.cells #[.slice q k d] 22 (0, 0)), Ob g7 (.cells #[.slice none 0 0] 22 (0, 0)), Old w (fps [Ob tg (.cells #[.int .i64 ((n : Int)), .int .i64 ((h : Int)), .string root, .map (some mg)] 75 (0, 0)), Mp placeV Value.string placeOk mg (M)])] := H40.absorbK (new := [Ob g10 (.cells #[.int .i64 8] 26 (0, 0))]) [6] (by intro g hg; subst hg; exact ⟨6, rfl, _, rfl, rfl⟩) H53
            refine (?_ : GL _ _ _ _ _ _ FrameMode.returning _)
            refine gl_step (by simp) cl58 (give1_er g10 g4 g7 (8) (.slice q k d) (.slice none 0 0) _ (by decide) _ (H53.takes [0, 5, 6] (by decide))) ?_
            rintro _ _ wq54 ⟨rfl, rfl, H55⟩
            replace H55 : S wq54 [Ob g10 (.cells #[.int .i64 8] 26 (0, 0)), Ob g4 (.cells #[.slice none 0 0] 22 (0, 0)), Ob g7 (.cells #[.slice none 0 0] 22 (0, 0)), Ob g1 (.cells #[.pointer (some ⟨tg, 0, none⟩)] 29 (0, 0)), Ob tg (.cells #[.int .i64 ((n : Int)), .int .i64 ((h : Int)), .string root, .map (some mg)] 75 (0, 0)), Mp placeV Value.string placeOk mg (M), Rw 9 1 q k d (stV (gotN (getT n M) V0 I0 k)), Old w (fps [Ob tg (.cells #[.int .i64 ((n : Int)), .int .i64 ((h : Int)), .string root, .map (some mg)] 75 (0, 0)), Mp placeV Value.string placeOk mg (M)])] := H53.absorbI (new := [Ob g10 (.cells #[.int .i64 8] 26 (0, 0)), Ob g4 (.cells #[.slice none 0 0] 22 (0, 0)), Ob g7 (.cells #[.slice none 0 0] 22 (0, 0))]) [0, 5, 6] H55
            refine (?_ : GL _ _ _ _ _ _ FrameMode.returning _)
            refine gl_ret [.cell 10 22, .cell 11 22, .cell 12 26] [.slice none 0 0, .slice none 0 0, .int .i64 8] rfl ⟨⟨_, rfl, run_load1 Tryz.underlying22 rfl (H55.cell (k := 1) rfl rfl)⟩, ⟨_, rfl, run_load1 Tryz.underlying22 rfl (H55.cell (k := 2) rfl rfl)⟩, ⟨_, rfl, run_load1 Tryz.underlying26 rfl (H55.cell (k := 0) rfl rfl)⟩, trivial⟩ ?_
            rw [give_miss hgo (fun hq => no_has htk38 (hq.1 k (by rw [Int.toNat_natCast]; omega)))]
            exact ⟨none, 0, none, 0, rfl, ((H55.takes [4, 5, 7] (by decide)).nilRw 9 1).nilRw 9 1⟩
        · skip
          have hkk : C0 = k := by omega
          subst hkk
          refine g_cond_f rfl (decide_eq_false hb35) ?_
          refine g_exit ?_
          refine g_then_exit ?_
          refine g_then_exit ?_
          refine g_in_hit ?_
          refine g_then ?_
          refine g_seq ?_
          refine g_region ?_
          refine l_of (s_val (v := .int .i64 ((I0 : Int))) (wt0 rfl) rfl rfl (x_move rfl rfl) ?_)
          refine l_of (s_val (v := .int .i64 ((C0 : Int))) (wt0 rfl) rfl rfl (x_move rfl rfl) ?_)
          refine l_of (s_val (v := .int .i64 ((((I0 / C0) : Nat) : Int))) (wt0 rfl) rfl rfl (x_bin rfl rfl rfl (b_quoN (a := I0) (b := C0) (by omega))) ?_)
          refine l_of (s_val (v := .int .i64 ((((I0 / C0) : Nat) : Int))) (wt0 rfl) rfl rfl (x_assign rfl rfl) ?_)
          refine g_nil ?_
          refine g_then ?_
          refine g_seq ?_
          refine g_seq ?_
          refine g_region ?_
          refine l_of (s_val (v := .int .i64 ((U0 : Int))) (wt0 rfl) rfl rfl (x_move rfl rfl) ?_)
          refine l_of (s_val (v := .int .i64 0) (wt0 rfl) rfl rfl (x_move rfl rfl) ?_)
          refine g_nil ?_
          refine g_then ?_
          refine g_block ?_
          refine g_loop (ι := Nat × Nat × Option Addr × Nat) (fun (k2, bs, q2, d2) => [(1, .int .i64 ((V0 : Int))), (10, .pointer (some ⟨g4, 0, none⟩)), (11, .pointer (some ⟨g7, 0, none⟩)), (12, .pointer (some ⟨g10, 0, none⟩)), (13, .int .i64 (((tallN C0 : Nat) : Int))), (14, .func (.func 60) #[] #[.pointer (some ⟨g1, 0, none⟩)]), (16, .int .i64 ((bs : Int))), (64, .int .i64 ((U0 : Int))), (65, .int .i64 ((k2 : Int)))]) (fun (k2, bs, q2, d2) wx => (k2 ≤ U0) ∧ (bs = (I0 / C0) / 2 ^ k2) ∧ (∀ j, j < k2 → ((getT n M) ((V0 + tallN C0) + j) ((I0 / C0) / 2 ^ j ^^^ 1)).isSome = true) ∧ S wx [Rw 9 1 q2 k2 d2 (stV (uncN (getT n M) (V0 + tallN C0) (I0 / C0) k2)), Ob g7 (.cells #[.slice q2 k2 d2] 22 (0, 0)), Rw 9 1 q C0 d (stV (gotN (getT n M) V0 I0 C0)), Ob g4 (.cells #[.slice q C0 d] 22 (0, 0)), Ob g10 (.cells #[.int .i64 0] 26 (0, 0)), Ob g1 (.cells #[.pointer (some ⟨tg, 0, none⟩)] 29 (0, 0)), Ob tg (.cells #[.int .i64 ((n : Int)), .int .i64 ((h : Int)), .string root, .map (some mg)] 75 (0, 0)), Mp placeV Value.string placeOk mg (M), Old w (fps [Ob tg (.cells #[.int .i64 ((n : Int)), .int .i64 ((h : Int)), .string root, .map (some mg)] 75 (0, 0)), Mp placeV Value.string placeOk mg (M)])]) (fun (k2, bs, q2, d2) => U0 - k2) (0, (I0 / C0), none, 0) ⟨rfl, rfl, rfl, rfl, rfl, rfl, rfl, rfl, rfl, trivial⟩ ⟨Nat.zero_le _, (by rw [Nat.pow_zero, Nat.div_one]), (fun j hj => absurd hj (Nat.not_lt_zero j)), ((H34.takes [2, 0, 1, 3, 4, 5, 6, 7] (by decide)).nilRw 9 1)⟩ ?_
          rintro ⟨k2, bs, q2, d2⟩ wq56 ⟨hk2, hbs, hG2, H57⟩
          replace H57 : S wq56 [Rw 9 1 q2 k2 d2 (stV (uncN (getT n M) (V0 + tallN C0) (I0 / C0) k2)), Ob g7 (.cells #[.slice q2 k2 d2] 22 (0, 0)), Rw 9 1 q C0 d (stV (gotN (getT n M) V0 I0 C0)), Ob g4 (.cells #[.slice q C0 d] 22 (0, 0)), Ob g10 (.cells #[.int .i64 0] 26 (0, 0)), Ob g1 (.cells #[.pointer (some ⟨tg, 0, none⟩)] 29 (0, 0)), Ob tg (.cells #[.int .i64 ((n : Int)), .int .i64 ((h : Int)), .string root, .map (some mg)] 75 (0, 0)), Mp placeV Value.string placeOk mg (M), Old w (fps [Ob tg (.cells #[.int .i64 ((n : Int)), .int .i64 ((h : Int)), .string root, .map (some mg)] 75 (0, 0)), Mp placeV Value.string placeOk mg (M)])] := H57
          refine g_weak [(1, .int .i64 ((V0 : Int))), (10, .pointer (some ⟨g4, 0, none⟩)), (11, .pointer (some ⟨g7, 0, none⟩)), (12, .pointer (some ⟨g10, 0, none⟩)), (13, .int .i64 (((tallN C0 : Nat) : Int))), (14, .func (.func 60) #[] #[.pointer (some ⟨g1, 0, none⟩)]), (16, .int .i64 ((bs : Int))), (64, .int .i64 ((U0 : Int))), (65, .int .i64 ((k2 : Int)))] ⟨rfl, rfl, rfl, rfl, rfl, rfl, rfl, rfl, rfl, trivial⟩ ?_
          have hxb := xor_le bs
          have hbi : bs ≤ I0 / C0 := by rw [hbs]; exact Nat.div_le_self _ _
          refine g_seq ?_
          refine g_region ?_
          refine l_of (s_val (v := .bool (decide (((k2 : Int) : Int) < (U0 : Int)))) (wt0 rfl) rfl rfl (x_bin rfl rfl rfl b_lss) ?_)
          refine g_nil ?_
          refine g_then ?_
          refine g_seq ?_
          by_cases hb58 : ((k2 : Int) : Int) < (U0 : Int)
          · skip
            refine g_cond_t rfl (decide_eq_true hb58) ?_
            refine g_skip ?_
            refine g_then ?_
            refine g_seq ?_
            refine g_block ?_
            refine g_seq ?_
            refine g_region ?_
            refine l_of (s_val (v := .int .i64 ((k2 : Int))) (wt0 rfl) rfl rfl (x_move rfl rfl) ?_)
            refine l_of (s_val (v := .int .i64 ((k2 : Int))) (wt0 rfl) rfl rfl (x_assign rfl rfl) ?_)
            refine g_nil ?_
            refine g_then ?_
            refine g_seq ?_
            refine g_any [(1, .int .i64 ((V0 : Int))), (10, .pointer (some ⟨g4, 0, none⟩)), (11, .pointer (some ⟨g7, 0, none⟩)), (12, .pointer (some ⟨g10, 0, none⟩)), (13, .int .i64 (((tallN C0 : Nat) : Int))), (14, .func (.func 60) #[] #[.pointer (some ⟨g1, 0, none⟩)]), (16, .int .i64 ((bs : Int))), (17, .int .i64 ((k2 : Int))), (64, .int .i64 ((U0 : Int))), (65, .int .i64 ((k2 : Int))), (66, .bool (decide (((k2 : Int) : Int) < (U0 : Int)))), (67, .int .i64 ((k2 : Int)))] (fun wx => S wx [Ob g7 (.cells #[.slice q2 k2 d2] 22 (0, 0))]) [12] (by kernel_rfl) H57 (fun wq59 H60 => ?_)
            refine a_take (v := .slice q2 k2 d2) 0 rfl (wt0 rfl) rfl rfl rfl (by kernel_rfl) (by kernel_rfl) (by kernel_rfl) (by kernel_rfl) (H60.mask [false, true, false, false, false, false, false, false, false]) (fun wx H => x_load1 H 0 rfl rfl Tryz.underlying22 rfl rfl rfl) ?_
            refine a_take (v := .func (.func 60) #[] #[.pointer (some ⟨g1, 0, none⟩)]) 1 rfl (wt0 rfl) rfl rfl rfl (by kernel_rfl) (by kernel_rfl) (by kernel_rfl) (by kernel_rfl) (H60.mask [false, true, false, false, false, false, false, false, false]) (fun wx H => x_move rfl rfl) ?_
            refine a_take (v := .int .i64 ((V0 : Int))) 2 rfl (wt0 rfl) rfl rfl rfl (by kernel_rfl) (by kernel_rfl) (by kernel_rfl) (by kernel_rfl) (H60.mask [false, true, false, false, false, false, false, false, false]) (fun wx H => x_move rfl rfl) ?_
            refine a_take (v := .int .i64 (((tallN C0 : Nat) : Int))) 3 rfl (wt0 rfl) rfl rfl rfl (by kernel_rfl) (by kernel_rfl) (by kernel_rfl) (by kernel_rfl) (H60.mask [false, true, false, false, false, false, false, false, false]) (fun wx H => x_move rfl rfl) ?_
            refine a_take (v := .int .i64 ((((V0 + tallN C0) : Nat) : Int))) 4 rfl (wt0 rfl) rfl rfl rfl (by kernel_rfl) (by kernel_rfl) (by kernel_rfl) (by kernel_rfl) (H60.mask [false, true, false, false, false, false, false, false, false]) (fun wx H => x_bin rfl rfl rfl (b_addN (a := V0) (b := tallN C0) (by omega))) ?_
            refine a_take (v := .int .i64 ((k2 : Int))) 5 rfl (wt0 rfl) rfl rfl rfl (by kernel_rfl) (by kernel_rfl) (by kernel_rfl) (by kernel_rfl) (H60.mask [false, true, false, false, false, false, false, false, false]) (fun wx H => x_move rfl rfl) ?_
            refine a_take (v := .int .i64 ((((V0 + tallN C0) + k2 : Nat) : Int))) 6 rfl (wt0 rfl) rfl rfl rfl (by kernel_rfl) (by kernel_rfl) (by kernel_rfl) (by kernel_rfl) (H60.mask [false, true, false, false, false, false, false, false, false]) (fun wx H => x_bin rfl rfl rfl (b_addN (a := (V0 + tallN C0)) (b := k2) (by omega))) ?_
            refine a_take (v := .int .i64 ((bs : Int))) 7 rfl (wt0 rfl) rfl rfl rfl (by kernel_rfl) (by kernel_rfl) (by kernel_rfl) (by kernel_rfl) (H60.mask [false, true, false, false, false, false, false, false, false]) (fun wx H => x_move rfl rfl) ?_
            refine a_take (v := .int .i64 (((bs ^^^ 1 : Nat) : Int))) 8 rfl (wt0 rfl) rfl rfl rfl (by kernel_rfl) (by kernel_rfl) (by kernel_rfl) (by kernel_rfl) (H60.mask [false, true, false, false, false, false, false, false, false]) (fun wx H => x_bin rfl rfl rfl (b_xorN (a := bs) (b := 1) (by omega))) ?_
            refine a_one (i := 9) (by kernel_rfl) rfl ?_
            refine s_call (wt0 rfl) (x_call rfl rfl rfl cl60) (take_s g1 tg mg n h root M ((V0 + tallN C0) + k2) (bs ^^^ 1) h1 (by omega) (by omega) (by omega) _ (H60.takes [5, 6, 7] (by decide))) ?_
            rintro ee65 wq62 ⟨hor64, H63⟩
            replace H63 : S wq62 [Ob g1 (.cells #[.pointer (some ⟨tg, 0, none⟩)] 29 (0, 0)), Ob tg (.cells #[.int .i64 ((n : Int)), .int .i64 ((h : Int)), .string root, .map (some mg)] 75 (0, 0)), Mp placeV Value.string placeOk mg (M), Rw 9 1 q2 k2 d2 (stV (uncN (getT n M) (V0 + tallN C0) (I0 / C0) k2)), Ob g7 (.cells #[.slice q2 k2 d2] 22 (0, 0)), Rw 9 1 q C0 d (stV (gotN (getT n M) V0 I0 C0)), Ob g4 (.cells #[.slice q C0 d] 22 (0, 0)), Ob g10 (.cells #[.int .i64 0] 26 (0, 0)), Old w (fps [Ob tg (.cells #[.int .i64 ((n : Int)), .int .i64 ((h : Int)), .string root, .map (some mg)] 75 (0, 0)), Mp placeV Value.string placeOk mg (M)])] := H60.absorbI (new := [Ob g1 (.cells #[.pointer (some ⟨tg, 0, none⟩)] 29 (0, 0)), Ob tg (.cells #[.int .i64 ((n : Int)), .int .i64 ((h : Int)), .string root, .map (some mg)] 75 (0, 0)), Mp placeV Value.string placeOk mg (M)]) [5, 6, 7] H63
            rcases hor64 with ⟨htk61, rfl⟩ | ⟨htk61, rfl⟩
            · skip
              refine b_ret rfl rfl ?_
              refine a_k (H63.mask [false, false, false, false, true, false, false, false, false]) ?_
              refine a_one (i := 10) (by kernel_rfl) rfl ?_
              refine s_buildSlice H63 (wt0 rfl) rfl rfl rfl (vs := [.string (((getT n M ((V0 + tallN C0) + k2) (bs ^^^ 1)).getD ⟨#[]⟩))]) rfl Tryz.underlying22 sz9 ze9 rfl rfl (cells := #[.string (((getT n M ((V0 + tallN C0) + k2) (bs ^^^ 1)).getD ⟨#[]⟩))]) (by kernel_rfl) ?_
              intro g66 wq67 H68
              refine a_k (H68.mask [false, false, false, false, false, true, false, false, false, false]) ?_
              refine a_one (i := 11) (by kernel_rfl) rfl ?_
              refine s_appendR (n := k2) (m := 1) (sc := d2) (xs := (stV (uncN (getT n M) (V0 + tallN C0) (I0 / C0) k2))) (news := [.string (((getT n M ((V0 + tallN C0) + k2) (bs ^^^ 1)).getD ⟨#[]⟩))]) (p := q2) (ad := ⟨g66, 0, none⟩) H68 4 (wt0 rfl) rfl rfl rfl rfl rfl rfl Tryz.underlying22 inf9 rfl (by decide) (by decide) rfl (by decide) (news_ob H68 (j0 := 0) rfl) rfl (by omega) ?_
              intro p69 c70 wq71 (H72 : S wq71 [Ob g66 (.cells #[.string (((getT n M ((V0 + tallN C0) + k2) (bs ^^^ 1)).getD ⟨#[]⟩))] 9 (0, 0)), Ob g1 (.cells #[.pointer (some ⟨tg, 0, none⟩)] 29 (0, 0)), Ob tg (.cells #[.int .i64 ((n : Int)), .int .i64 ((h : Int)), .string root, .map (some mg)] 75 (0, 0)), Mp placeV Value.string placeOk mg (M), Rw 9 1 p69 (k2 + 1) c70 ((stV (uncN (getT n M) (V0 + tallN C0) (I0 / C0) k2)) ++ [.string (((getT n M ((V0 + tallN C0) + k2) (bs ^^^ 1)).getD ⟨#[]⟩))]), Ob g7 (.cells #[.slice q2 k2 d2] 22 (0, 0)), Rw 9 1 q C0 d (stV (gotN (getT n M) V0 I0 C0)), Ob g4 (.cells #[.slice q C0 d] 22 (0, 0)), Ob g10 (.cells #[.int .i64 0] 26 (0, 0)), Old w (fps [Ob tg (.cells #[.int .i64 ((n : Int)), .int .i64 ((h : Int)), .string root, .map (some mg)] 75 (0, 0)), Mp placeV Value.string placeOk mg (M)])])
              refine a_k (H72.mask [false, false, false, false, false, true, false, false, false, false]) ?_
              refine a_one (i := 12) (by kernel_rfl) rfl ?_
              refine s_store H72 5 (wt0 rfl) rfl rfl rfl rfl rfl sz22 rfl rfl (cs' := #[.slice p69 (k2 + 1) c70]) rfl ?_
              intro wq73 H74
              refine a_kt rfl ?_
              refine a_done (by kernel_rfl) ?_
              refine g_then ?_
              refine g_weak [(1, .int .i64 ((V0 : Int))), (10, .pointer (some ⟨g4, 0, none⟩)), (11, .pointer (some ⟨g7, 0, none⟩)), (12, .pointer (some ⟨g10, 0, none⟩)), (13, .int .i64 (((tallN C0 : Nat) : Int))), (14, .func (.func 60) #[] #[.pointer (some ⟨g1, 0, none⟩)]), (16, .int .i64 ((bs : Int))), (64, .int .i64 ((U0 : Int))), (65, .int .i64 ((k2 : Int)))] ⟨rfl, rfl, rfl, rfl, rfl, rfl, rfl, rfl, rfl, trivial⟩ ?_
              refine g_region ?_
              refine l_of (s_val (v := .int .i64 ((bs : Int))) (wt0 rfl) rfl rfl (x_move rfl rfl) ?_)
              refine l_of (s_val (v := .int .i64 (((bs / 2 : Nat) : Int))) (wt0 rfl) rfl rfl (x_bin rfl rfl rfl (b_quoN (a := bs) (b := 2) (by omega))) ?_)
              refine l_of (s_val (v := .int .i64 (((bs / 2 : Nat) : Int))) (wt0 rfl) rfl rfl (x_assign rfl rfl) ?_)
              refine g_nil ?_
              refine g_in ?_
              refine g_then ?_
              refine g_region ?_
              refine l_of (s_val (v := .int .i64 ((k2 : Int) + 1)) (wt0 rfl) rfl rfl (x_bin rfl rfl rfl (b_add (w64 (by omega)))) ?_)
              refine l_of (s_val (v := .int .i64 ((k2 : Int) + 1)) (wt0 rfl) rfl rfl (x_move rfl rfl) ?_)
              refine g_nil ?_
              refine g_then ?_
              refine g_round (i := (k2, bs, q2, d2)) (k2 + 1, bs / 2, p69, c70) ?_ ?_ ?_
              · exact ⟨rfl, rfl, rfl, rfl, rfl, rfl, rfl, rfl, rfl, trivial⟩
              · exact ⟨by omega, (by rw [hbs, Nat.div_div_eq_div_mul, Nat.pow_succ]), (has_next hG2 (by rw [← hbs]; exact htk61)), (by rw [uncN_next, stV_snoc, ← hbs]; exact (H74.takes [4, 5, 6, 7, 8, 1, 2, 3, 9] (by decide)))⟩
              · (try dsimp only); omega
            · skip
              refine b_panic ?_
              refine pan_in ⟨rfl, rfl, rfl, rfl, rfl, rfl, rfl, rfl, rfl, rfl, rfl, rfl, trivial⟩ ?_
              refine g_then_panic ?_
              refine g_in_panic ?_
              refine g_then_panic ?_
              refine g_then_panic ?_
              refine g_in_panic ?_
              refine g_then_panic ?_
              refine fin_dpanic ?_
              refine gl_step (by simp) cl30 (caught_p g10 (8) (0) [] _ (H63.ob (k := 7) rfl)) ?_
              rintro _ _ wq75 ⟨⟨rfl, H76⟩, rfl⟩
              replace H76 : S wq75 [Ob g10 (.cells #[.int .i64 8] 26 (0, 0)), Ob g1 (.cells #[.pointer (some ⟨tg, 0, none⟩)] 29 (0, 0)), Ob tg (.cells #[.int .i64 ((n : Int)), .int .i64 ((h : Int)), .string root, .map (some mg)] 75 (0, 0)), Mp placeV Value.string placeOk mg (M), Rw 9 1 q2 k2 d2 (stV (uncN (getT n M) (V0 + tallN C0) (I0 / C0) k2)), Ob g7 (.cells #[.slice q2 k2 d2] 22 (0, 0)), Rw 9 1 q C0 d (stV (gotN (getT n M) V0 I0 C0)), Ob g4 (.cells #[.slice q C0 d] 22 (0, 0)), Old w (fps [Ob tg (.cells #[.int .i64 ((n : Int)), .int .i64 ((h : Int)), .string root, .map (some mg)] 75 (0, 0)), Mp placeV Value.string placeOk mg (M)])] := H63.absorbK (new := [Ob g10 (.cells #[.int .i64 8] 26 (0, 0))]) [7] (by intro g hg; subst hg; exact ⟨7, rfl, _, rfl, rfl⟩) H76
              refine (?_ : GL _ _ _ _ _ _ FrameMode.returning _)
              refine gl_step (by simp) cl58 (give1_er g10 g4 g7 (8) (.slice q C0 d) (.slice q2 k2 d2) _ (by decide) _ (H76.takes [0, 7, 5] (by decide))) ?_
              rintro _ _ wq77 ⟨rfl, rfl, H78⟩
              replace H78 : S wq77 [Ob g10 (.cells #[.int .i64 8] 26 (0, 0)), Ob g4 (.cells #[.slice none 0 0] 22 (0, 0)), Ob g7 (.cells #[.slice none 0 0] 22 (0, 0)), Ob g1 (.cells #[.pointer (some ⟨tg, 0, none⟩)] 29 (0, 0)), Ob tg (.cells #[.int .i64 ((n : Int)), .int .i64 ((h : Int)), .string root, .map (some mg)] 75 (0, 0)), Mp placeV Value.string placeOk mg (M), Rw 9 1 q2 k2 d2 (stV (uncN (getT n M) (V0 + tallN C0) (I0 / C0) k2)), Rw 9 1 q C0 d (stV (gotN (getT n M) V0 I0 C0)), Old w (fps [Ob tg (.cells #[.int .i64 ((n : Int)), .int .i64 ((h : Int)), .string root, .map (some mg)] 75 (0, 0)), Mp placeV Value.string placeOk mg (M)])] := H76.absorbI (new := [Ob g10 (.cells #[.int .i64 8] 26 (0, 0)), Ob g4 (.cells #[.slice none 0 0] 22 (0, 0)), Ob g7 (.cells #[.slice none 0 0] 22 (0, 0))]) [0, 7, 5] H78
              refine (?_ : GL _ _ _ _ _ _ FrameMode.returning _)
              refine gl_ret [.cell 10 22, .cell 11 22, .cell 12 26] [.slice none 0 0, .slice none 0 0, .int .i64 8] rfl ⟨⟨_, rfl, run_load1 Tryz.underlying22 rfl (H78.cell (k := 1) rfl rfl)⟩, ⟨_, rfl, run_load1 Tryz.underlying22 rfl (H78.cell (k := 2) rfl rfl)⟩, ⟨_, rfl, run_load1 Tryz.underlying26 rfl (H78.cell (k := 0) rfl rfl)⟩, trivial⟩ ?_
              rw [give_miss hgo (fun hq => no_has htk61 (by rw [hbs]; exact hq.2 k2 (by rw [Int.toNat_natCast]; omega)))]
              exact ⟨none, 0, none, 0, rfl, ((H78.takes [4, 5, 8] (by decide)).nilRw 9 1).nilRw 9 1⟩
          · skip
            have hkk2 : U0 = k2 := by omega
            subst hkk2
            refine g_cond_f rfl (decide_eq_false hb58) ?_
            refine g_exit ?_
            refine g_then_exit ?_
            refine g_then_exit ?_
            refine g_in_hit ?_
            refine g_then ?_
            refine g_seq ?_
            refine g_any [(1, .int .i64 ((V0 : Int))), (10, .pointer (some ⟨g4, 0, none⟩)), (11, .pointer (some ⟨g7, 0, none⟩)), (12, .pointer (some ⟨g10, 0, none⟩)), (13, .int .i64 (((tallN C0 : Nat) : Int))), (14, .func (.func 60) #[] #[.pointer (some ⟨g1, 0, none⟩)]), (16, .int .i64 ((bs : Int))), (64, .int .i64 ((U0 : Int))), (65, .int .i64 ((U0 : Int))), (66, .bool (decide (((U0 : Int) : Int) < (U0 : Int))))] (fun _ => True) [] (by kernel_rfl) H57 (fun wq79 H80 => ?_)
            refine a_two (i := 0) (j := 1) (by kernel_rfl) rfl rfl ?_ ?_
            · skip
              refine s_val (v := .slice q C0 d) (wt0 rfl) rfl rfl (x_load1 H80 3 rfl rfl Tryz.underlying22 rfl rfl rfl) ?_
              refine a_k trivial ?_
              refine a_two (i := 1) (j := 2) (by kernel_rfl) rfl rfl ?_ ?_
              · skip
                refine s_val (v := .slice q2 U0 d2) (wt0 rfl) rfl rfl (x_load1 H80 1 rfl rfl Tryz.underlying22 rfl rfl rfl) ?_
                refine a_k trivial ?_
                refine a_one (i := 2) (by kernel_rfl) rfl ?_
                refine s_store H80 3 (wt0 rfl) rfl rfl rfl rfl rfl sz22 rfl rfl (cs' := #[.slice q C0 d]) rfl ?_
                intro wq81 H82
                refine a_k trivial ?_
                refine a_one (i := 3) (by kernel_rfl) rfl ?_
                refine s_store H82 1 (wt0 rfl) rfl rfl rfl rfl rfl sz22 rfl rfl (cs' := #[.slice q2 U0 d2]) rfl ?_
                intro wq83 H84
                refine a_k trivial ?_
                refine a_one (i := 4) (by kernel_rfl) rfl ?_
                refine s_store H84 4 (wt0 rfl) rfl rfl rfl rfl rfl sz26 rfl rfl (cs' := #[.int .i64 0]) rfl ?_
                intro wq85 H86
                refine a_k trivial ?_
                refine a_done (by kernel_rfl) ?_
                refine g_then ?_
                refine g_ret ?_
                refine fin_dret ?_
                refine gl_step (by simp) cl30 (caught_n g10 _) ?_
                rintro _ _ wq87 ⟨⟨rfl, H88⟩, rfl⟩
                replace H88 : S wq87 [Rw 9 1 q2 U0 d2 (stV (uncN (getT n M) (V0 + tallN C0) (I0 / C0) U0)), Ob g7 (.cells #[.slice q2 U0 d2] 22 (0, 0)), Rw 9 1 q C0 d (stV (gotN (getT n M) V0 I0 C0)), Ob g4 (.cells #[.slice q C0 d] 22 (0, 0)), Ob g10 (.cells #[.int .i64 0] 26 (0, 0)), Ob g1 (.cells #[.pointer (some ⟨tg, 0, none⟩)] 29 (0, 0)), Ob tg (.cells #[.int .i64 ((n : Int)), .int .i64 ((h : Int)), .string root, .map (some mg)] 75 (0, 0)), Mp placeV Value.string placeOk mg (M), Old w (fps [Ob tg (.cells #[.int .i64 ((n : Int)), .int .i64 ((h : Int)), .string root, .map (some mg)] 75 (0, 0)), Mp placeV Value.string placeOk mg (M)])] := H86.absorb (new := []) H88
                refine (?_ : GL _ _ _ _ _ _ FrameMode.returning _)
                refine gl_step (by simp) cl58 (give1_ok g10 g4 g7 (0) (.slice q C0 d) (.slice q2 U0 d2) _ (by decide) _ (H88.takes [4, 3, 1] (by decide))) ?_
                rintro _ _ wq89 ⟨rfl, rfl, H90⟩
                replace H90 : S wq89 [Ob g10 (.cells #[.int .i64 0] 26 (0, 0)), Ob g4 (.cells #[.slice q C0 d] 22 (0, 0)), Ob g7 (.cells #[.slice q2 U0 d2] 22 (0, 0)), Rw 9 1 q2 U0 d2 (stV (uncN (getT n M) (V0 + tallN C0) (I0 / C0) U0)), Rw 9 1 q C0 d (stV (gotN (getT n M) V0 I0 C0)), Ob g1 (.cells #[.pointer (some ⟨tg, 0, none⟩)] 29 (0, 0)), Ob tg (.cells #[.int .i64 ((n : Int)), .int .i64 ((h : Int)), .string root, .map (some mg)] 75 (0, 0)), Mp placeV Value.string placeOk mg (M), Old w (fps [Ob tg (.cells #[.int .i64 ((n : Int)), .int .i64 ((h : Int)), .string root, .map (some mg)] 75 (0, 0)), Mp placeV Value.string placeOk mg (M)])] := H88.absorbI (new := [Ob g10 (.cells #[.int .i64 0] 26 (0, 0)), Ob g4 (.cells #[.slice q C0 d] 22 (0, 0)), Ob g7 (.cells #[.slice q2 U0 d2] 22 (0, 0))]) [4, 3, 1] H90
                refine (?_ : GL _ _ _ _ _ _ FrameMode.returning _)
                refine gl_ret [.cell 10 22, .cell 11 22, .cell 12 26] [.slice q C0 d, .slice q2 U0 d2, .int .i64 0] rfl ⟨⟨_, rfl, run_load1 Tryz.underlying22 rfl (H90.cell (k := 1) rfl rfl)⟩, ⟨_, rfl, run_load1 Tryz.underlying22 rfl (H90.cell (k := 2) rfl rfl)⟩, ⟨_, rfl, run_load1 Tryz.underlying26 rfl (H90.cell (k := 0) rfl rfl)⟩, trivial⟩ ?_
                have hhas : Has (getT n M) (V0 : Int) (I0 : Int) (C0 : Int) (U0 : Int) := ⟨fun j hj => hG1 j hj, fun j hj => hG2 j hj⟩
                rw [give_ok hgo hhas]
                simp only [Int.toNat_natCast, gotN_len, uncN_len]
                exact ⟨_, _, _, _, rfl, H90.takes [4, 3, 6, 7, 8] (by decide)⟩
              · skip
                refine s_store H80 3 (wt0 rfl) rfl rfl rfl rfl rfl sz22 rfl rfl (cs' := #[.slice q C0 d]) rfl ?_
                intro wq91 H92
                refine a_k trivial ?_
                refine a_one (i := 1) (by kernel_rfl) rfl ?_
                refine s_val (v := .slice q2 U0 d2) (wt0 rfl) rfl rfl (x_load1 H92 1 rfl rfl Tryz.underlying22 rfl rfl rfl) ?_
                refine a_k trivial ?_
                refine a_one (i := 3) (by kernel_rfl) rfl ?_
                refine s_store H92 1 (wt0 rfl) rfl rfl rfl rfl rfl sz22 rfl rfl (cs' := #[.slice q2 U0 d2]) rfl ?_
                intro wq93 H94
                refine a_k trivial ?_
                refine a_one (i := 4) (by kernel_rfl) rfl ?_
                refine s_store H94 4 (wt0 rfl) rfl rfl rfl rfl rfl sz26 rfl rfl (cs' := #[.int .i64 0]) rfl ?_
                intro wq95 H96
                refine a_k trivial ?_
                refine a_done (by kernel_rfl) ?_
                refine g_then ?_
                refine g_ret ?_
                refine fin_dret ?_
                refine gl_step (by simp) cl30 (caught_n g10 _) ?_
                rintro _ _ wq97 ⟨⟨rfl, H98⟩, rfl⟩
                replace H98 : S wq97 [Rw 9 1 q2 U0 d2 (stV (uncN (getT n M) (V0 + tallN C0) (I0 / C0) U0)), Ob g7 (.cells #[.slice q2 U0 d2] 22 (0, 0)), Rw 9 1 q C0 d (stV (gotN (getT n M) V0 I0 C0)), Ob g4 (.cells #[.slice q C0 d] 22 (0, 0)), Ob g10 (.cells #[.int .i64 0] 26 (0, 0)), Ob g1 (.cells #[.pointer (some ⟨tg, 0, none⟩)] 29 (0, 0)), Ob tg (.cells #[.int .i64 ((n : Int)), .int .i64 ((h : Int)), .string root, .map (some mg)] 75 (0, 0)), Mp placeV Value.string placeOk mg (M), Old w (fps [Ob tg (.cells #[.int .i64 ((n : Int)), .int .i64 ((h : Int)), .string root, .map (some mg)] 75 (0, 0)), Mp placeV Value.string placeOk mg (M)])] := H96.absorb (new := []) H98
                refine (?_ : GL _ _ _ _ _ _ FrameMode.returning _)
                refine gl_step (by simp) cl58 (give1_ok g10 g4 g7 (0) (.slice q C0 d) (.slice q2 U0 d2) _ (by decide) _ (H98.takes [4, 3, 1] (by decide))) ?_
                rintro _ _ wq99 ⟨rfl, rfl, H100⟩
                replace H100 : S wq99 [Ob g10 (.cells #[.int .i64 0] 26 (0, 0)), Ob g4 (.cells #[.slice q C0 d] 22 (0, 0)), Ob g7 (.cells #[.slice q2 U0 d2] 22 (0, 0)), Rw 9 1 q2 U0 d2 (stV (uncN (getT n M) (V0 + tallN C0) (I0 / C0) U0)), Rw 9 1 q C0 d (stV (gotN (getT n M) V0 I0 C0)), Ob g1 (.cells #[.pointer (some ⟨tg, 0, none⟩)] 29 (0, 0)), Ob tg (.cells #[.int .i64 ((n : Int)), .int .i64 ((h : Int)), .string root, .map (some mg)] 75 (0, 0)), Mp placeV Value.string placeOk mg (M), Old w (fps [Ob tg (.cells #[.int .i64 ((n : Int)), .int .i64 ((h : Int)), .string root, .map (some mg)] 75 (0, 0)), Mp placeV Value.string placeOk mg (M)])] := H98.absorbI (new := [Ob g10 (.cells #[.int .i64 0] 26 (0, 0)), Ob g4 (.cells #[.slice q C0 d] 22 (0, 0)), Ob g7 (.cells #[.slice q2 U0 d2] 22 (0, 0))]) [4, 3, 1] H100
                refine (?_ : GL _ _ _ _ _ _ FrameMode.returning _)
                refine gl_ret [.cell 10 22, .cell 11 22, .cell 12 26] [.slice q C0 d, .slice q2 U0 d2, .int .i64 0] rfl ⟨⟨_, rfl, run_load1 Tryz.underlying22 rfl (H100.cell (k := 1) rfl rfl)⟩, ⟨_, rfl, run_load1 Tryz.underlying22 rfl (H100.cell (k := 2) rfl rfl)⟩, ⟨_, rfl, run_load1 Tryz.underlying26 rfl (H100.cell (k := 0) rfl rfl)⟩, trivial⟩ ?_
                have hhas : Has (getT n M) (V0 : Int) (I0 : Int) (C0 : Int) (U0 : Int) := ⟨fun j hj => hG1 j hj, fun j hj => hG2 j hj⟩
                rw [give_ok hgo hhas]
                simp only [Int.toNat_natCast, gotN_len, uncN_len]
                exact ⟨_, _, _, _, rfl, H100.takes [4, 3, 6, 7, 8] (by decide)⟩
            · skip
              refine s_val (v := .slice q2 U0 d2) (wt0 rfl) rfl rfl (x_load1 H80 1 rfl rfl Tryz.underlying22 rfl rfl rfl) ?_
              refine a_k trivial ?_
              refine a_one (i := 0) (by kernel_rfl) rfl ?_
              refine s_val (v := .slice q C0 d) (wt0 rfl) rfl rfl (x_load1 H80 3 rfl rfl Tryz.underlying22 rfl rfl rfl) ?_
              refine a_k trivial ?_
              refine a_one (i := 2) (by kernel_rfl) rfl ?_
              refine s_store H80 3 (wt0 rfl) rfl rfl rfl rfl rfl sz22 rfl rfl (cs' := #[.slice q C0 d]) rfl ?_
              intro wq101 H102
              refine a_k trivial ?_
              refine a_one (i := 3) (by kernel_rfl) rfl ?_
              refine s_store H102 1 (wt0 rfl) rfl rfl rfl rfl rfl sz22 rfl rfl (cs' := #[.slice q2 U0 d2]) rfl ?_
              intro wq103 H104
              refine a_k trivial ?_
              refine a_one (i := 4) (by kernel_rfl) rfl ?_
              refine s_store H104 4 (wt0 rfl) rfl rfl rfl rfl rfl sz26 rfl rfl (cs' := #[.int .i64 0]) rfl ?_
              intro wq105 H106
              refine a_k trivial ?_
              refine a_done (by kernel_rfl) ?_
              refine g_then ?_
              refine g_ret ?_
              refine fin_dret ?_
              refine gl_step (by simp) cl30 (caught_n g10 _) ?_
              rintro _ _ wq107 ⟨⟨rfl, H108⟩, rfl⟩
              replace H108 : S wq107 [Rw 9 1 q2 U0 d2 (stV (uncN (getT n M) (V0 + tallN C0) (I0 / C0) U0)), Ob g7 (.cells #[.slice q2 U0 d2] 22 (0, 0)), Rw 9 1 q C0 d (stV (gotN (getT n M) V0 I0 C0)), Ob g4 (.cells #[.slice q C0 d] 22 (0, 0)), Ob g10 (.cells #[.int .i64 0] 26 (0, 0)), Ob g1 (.cells #[.pointer (some ⟨tg, 0, none⟩)] 29 (0, 0)), Ob tg (.cells #[.int .i64 ((n : Int)), .int .i64 ((h : Int)), .string root, .map (some mg)] 75 (0, 0)), Mp placeV Value.string placeOk mg (M), Old w (fps [Ob tg (.cells #[.int .i64 ((n : Int)), .int .i64 ((h : Int)), .string root, .map (some mg)] 75 (0, 0)), Mp placeV Value.string placeOk mg (M)])] := H106.absorb (new := []) H108
              refine (?_ : GL _ _ _ _ _ _ FrameMode.returning _)
              refine gl_step (by simp) cl58 (give1_ok g10 g4 g7 (0) (.slice q C0 d) (.slice q2 U0 d2) _ (by decide) _ (H108.takes [4, 3, 1] (by decide))) ?_
              rintro _ _ wq109 ⟨rfl, rfl, H110⟩
              replace H110 : S wq109 [Ob g10 (.cells #[.int .i64 0] 26 (0, 0)), Ob g4 (.cells #[.slice q C0 d] 22 (0, 0)), Ob g7 (.cells #[.slice q2 U0 d2] 22 (0, 0)), Rw 9 1 q2 U0 d2 (stV (uncN (getT n M) (V0 + tallN C0) (I0 / C0) U0)), Rw 9 1 q C0 d (stV (gotN (getT n M) V0 I0 C0)), Ob g1 (.cells #[.pointer (some ⟨tg, 0, none⟩)] 29 (0, 0)), Ob tg (.cells #[.int .i64 ((n : Int)), .int .i64 ((h : Int)), .string root, .map (some mg)] 75 (0, 0)), Mp placeV Value.string placeOk mg (M), Old w (fps [Ob tg (.cells #[.int .i64 ((n : Int)), .int .i64 ((h : Int)), .string root, .map (some mg)] 75 (0, 0)), Mp placeV Value.string placeOk mg (M)])] := H108.absorbI (new := [Ob g10 (.cells #[.int .i64 0] 26 (0, 0)), Ob g4 (.cells #[.slice q C0 d] 22 (0, 0)), Ob g7 (.cells #[.slice q2 U0 d2] 22 (0, 0))]) [4, 3, 1] H110
              refine (?_ : GL _ _ _ _ _ _ FrameMode.returning _)
              refine gl_ret [.cell 10 22, .cell 11 22, .cell 12 26] [.slice q C0 d, .slice q2 U0 d2, .int .i64 0] rfl ⟨⟨_, rfl, run_load1 Tryz.underlying22 rfl (H110.cell (k := 1) rfl rfl)⟩, ⟨_, rfl, run_load1 Tryz.underlying22 rfl (H110.cell (k := 2) rfl rfl)⟩, ⟨_, rfl, run_load1 Tryz.underlying26 rfl (H110.cell (k := 0) rfl rfl)⟩, trivial⟩ ?_
              have hhas : Has (getT n M) (V0 : Int) (I0 : Int) (C0 : Int) (U0 : Int) := ⟨fun j hj => hG1 j hj, fun j hj => hG2 j hj⟩
              rw [give_ok hgo hhas]
              simp only [Int.toNat_natCast, gotN_len, uncN_len]
              exact ⟨_, _, _, _, rfl, H110.takes [4, 3, 6, 7, 8] (by decide)⟩
  · skip
    rw [show runV h v i c = .panicked [{ v := .iface 105 (.int .i64 7), recovered := false }] from if_neg hrb]
    refine b_panic ?_
    refine g_then_panic ?_
    refine fin_dpanic ?_
    refine gl_step (by simp) cl30 (caught_p g10 (7) (0) [] _ (H16.ob (k := 0) rfl)) ?_
    rintro _ _ wq111 ⟨⟨rfl, H112⟩, rfl⟩
    replace H112 : S wq111 [Ob g10 (.cells #[.int .i64 7] 26 (0, 0)), Ob g7 (.cells #[.slice none 0 0] 22 (0, 0)), Ob g4 (.cells #[.slice none 0 0] 22 (0, 0)), Ob g1 (.cells #[.pointer (some ⟨tg, 0, none⟩)] 29 (0, 0)), Ob tg (.cells #[.int .i64 ((n : Int)), .int .i64 ((h : Int)), .string root, .map (some mg)] 75 (0, 0)), Mp placeV Value.string placeOk mg (M), Old w (fps [Ob tg (.cells #[.int .i64 ((n : Int)), .int .i64 ((h : Int)), .string root, .map (some mg)] 75 (0, 0)), Mp placeV Value.string placeOk mg (M)])] := H16.absorbK (new := [Ob g10 (.cells #[.int .i64 7] 26 (0, 0))]) [0] (by intro g hg; subst hg; exact ⟨0, rfl, _, rfl, rfl⟩) H112
    refine (?_ : GL _ _ _ _ _ _ FrameMode.returning _)
    refine gl_step (by simp) cl58 (give1_er g10 g4 g7 (7) (.slice none 0 0) (.slice none 0 0) _ (by decide) _ (H112.takes [0, 2, 1] (by decide))) ?_
    rintro _ _ wq113 ⟨rfl, rfl, H114⟩
    replace H114 : S wq113 [Ob g10 (.cells #[.int .i64 7] 26 (0, 0)), Ob g4 (.cells #[.slice none 0 0] 22 (0, 0)), Ob g7 (.cells #[.slice none 0 0] 22 (0, 0)), Ob g1 (.cells #[.pointer (some ⟨tg, 0, none⟩)] 29 (0, 0)), Ob tg (.cells #[.int .i64 ((n : Int)), .int .i64 ((h : Int)), .string root, .map (some mg)] 75 (0, 0)), Mp placeV Value.string placeOk mg (M), Old w (fps [Ob tg (.cells #[.int .i64 ((n : Int)), .int .i64 ((h : Int)), .string root, .map (some mg)] 75 (0, 0)), Mp placeV Value.string placeOk mg (M)])] := H112.absorbI (new := [Ob g10 (.cells #[.int .i64 7] 26 (0, 0)), Ob g4 (.cells #[.slice none 0 0] 22 (0, 0)), Ob g7 (.cells #[.slice none 0 0] 22 (0, 0))]) [0, 2, 1] H114
    refine (?_ : GL _ _ _ _ _ _ FrameMode.returning _)
    refine gl_ret [.cell 10 22, .cell 11 22, .cell 12 26] [.slice none 0 0, .slice none 0 0, .int .i64 7] rfl ⟨⟨_, rfl, run_load1 Tryz.underlying22 rfl (H114.cell (k := 1) rfl rfl)⟩, ⟨_, rfl, run_load1 Tryz.underlying22 rfl (H114.cell (k := 2) rfl rfl)⟩, ⟨_, rfl, run_load1 Tryz.underlying26 rfl (H114.cell (k := 0) rfl rfl)⟩, trivial⟩ ?_
    rw [give_no (fun hq => hrb hq.1)]
    exact ⟨none, 0, none, 0, rfl, ((H114.takes [4, 5, 6] (by decide)).nilRw 9 1).nilRw 9 1⟩
end Go.Proofs.YtlajgickimgigaaGreat
