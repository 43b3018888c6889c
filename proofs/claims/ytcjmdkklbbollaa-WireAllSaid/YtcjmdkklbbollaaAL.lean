import Derived.Test.YtcjmdkklbbollaaAK
set_option linter.unusedSimpArgs false
set_option linter.unusedVariables false
namespace Go.Proofs.Ytcjmdkklbbollaa
open Go.RowKit

theorem cl10 : callable Try.prog 10 = true := by kernel_rfl
theorem cl17 : callable Try.prog 17 = true := by kernel_rfl
theorem cl18 : callable Try.prog 18 = true := by kernel_rfl
theorem cl19 : callable Try.prog 19 = true := by kernel_rfl
theorem cl20 : callable Try.prog 20 = true := by kernel_rfl
theorem cl21 : callable Try.prog 21 = true := by kernel_rfl
theorem cl22 : callable Try.prog 22 = true := by kernel_rfl
theorem light_most {m : M} (h : lightB m = true) : m.root.size < 100 ∧ m.data.size < 5000 := by
  unfold lightB at h
  rw [Bool.and_eq_true, decide_eq_true_eq, decide_eq_true_eq] at h
  omega
set_option maxRecDepth 20000 in
set_option maxHeartbeats 4000000 in
theorem codes_walk (m : M) (s : ByteArray)  (w : World) : Calls Try.prog 4 #[.agg m.cells, .string s] w fun e w' => e = .returned (.bool true) ∧ Sub w w' := by
  have H0 := S.old w
  refine enter 129 Try.func4 rfl rfl rfl ?_
  refine g_weak [(0, .agg m.cells), (1, .string s)] ⟨rfl, rfl, trivial⟩ ?_
  refine g_seq ?_
  refine g_region ?_
  refine l_of (s_box H0 (wt0 rfl) rfl rfl rfl rfl ?_)
  intro g1 wq2 (H3 : S wq2 [Ob g1 (.cells m.cells 33 (0, 0)), Old w no])
  refine l_of (s_val (v := .bool false) (wt0 rfl) rfl rfl (x_assign rfl rfl) ?_)
  refine g_nil ?_
  refine g_then ?_
  refine g_seq ?_
  refine g_seq ?_
  refine g_region ?_
  refine l_of (s_val (v := .agg m.cells) (wt0 rfl) rfl rfl (x_loadA H3 0 rfl rfl Try.underlying33 rfl sz33 rfl rfl rfl) ?_)
  refine l_of (s_call (wt0 rfl) (x_call' rfl rfl cl17) (light_p _ _) ?_)
  rintro _ wq4 ⟨rfl, H5⟩
  replace H5 : S wq4 [Ob g1 (.cells m.cells 33 (0, 0)), Old w no] := H3.absorb (new := []) H5
  refine b_ret rfl rfl ?_
  refine l_of (s_val (v := .bool (!(lightB m))) (wt0 rfl) rfl rfl (x_not (b := lightB m) rfl rfl) ?_)
  refine l_of (s_val (v := .bool (!(lightB m))) (wt0 rfl) rfl rfl (x_move rfl rfl) ?_)
  rcases Bool.eq_false_or_eq_true (lightB m) with hb6 | hb6
  · skip
    have hli := light_most hb6
    refine l_of (s_val (v := .string s) (wt1 rfl rfl rfl rfl (neg_of hb6)) rfl rfl (x_move rfl rfl) ?_)
    refine l_of (s_val (v := .int .i64 ((s.size : Int))) (wt1 rfl rfl rfl rfl (neg_of hb6)) rfl rfl (x_lens rfl rfl Try.underlying9) ?_)
    refine l_of (s_val (v := .bool (decide ((5000 : Int) < (s.size : Int)))) (wt1 rfl rfl rfl rfl (neg_of hb6)) rfl rfl (x_bin rfl rfl rfl b_gtr) ?_)
    refine l_of (s_val (v := .bool (decide ((5000 : Int) < (s.size : Int)))) (wt1 rfl rfl rfl rfl (neg_of hb6)) rfl rfl (x_move rfl rfl) ?_)
    by_cases hb7 : (5000 : Int) < (s.size : Int)
    · skip
      refine l_of (s_val (v := .string s) (wt1 rfl rfl rfl rfl (decide_eq_true hb7)) rfl rfl (x_move rfl rfl) ?_)
      refine l_of (s_val (v := .int .i64 ((s.size : Int))) (wt1 rfl rfl rfl rfl (decide_eq_true hb7)) rfl rfl (x_lens rfl rfl Try.underlying9) ?_)
      refine l_of (s_val (v := .bool (decide (((s.size : Int) : Int) ≤ 65536))) (wt1 rfl rfl rfl rfl (decide_eq_true hb7)) rfl rfl (x_bin rfl rfl rfl b_leq) ?_)
      refine l_of (s_val (v := .bool (decide (((s.size : Int) : Int) ≤ 65536))) (wt1 rfl rfl rfl rfl (neg_of hb6)) rfl rfl (x_pick_t rfl rfl (decide_eq_true hb7) rfl) ?_)
      refine l_of (s_val (v := .bool (decide (((s.size : Int) : Int) ≤ 65536))) (wt0 rfl) rfl rfl (x_pick_f rfl rfl (neg_of hb6) rfl) ?_)
      refine g_nil ?_
      refine g_then ?_
      refine g_weak [(1, .string s), (2, .pointer (some ⟨g1, 0, none⟩)), (33, .bool (decide (((s.size : Int) : Int) ≤ 65536)))] ⟨rfl, rfl, rfl, trivial⟩ ?_
      by_cases hb8 : ((s.size : Int) : Int) ≤ 65536
      · skip
        refine g_cond_t rfl (decide_eq_true hb8) ?_
        refine g_seq ?_
        refine g_region ?_
        refine l_of (s_call (wt0 rfl) (x_call' rfl rfl cl10) (awake_p _) ?_)
        rintro _ wq9 ⟨rfl, H10⟩
        replace H10 : S wq9 [Ob g1 (.cells m.cells 33 (0, 0)), Old w no] := H5.absorb (new := []) (S.of_below H10)
        refine b_ret rfl rfl ?_
        refine l_of (s_val (v := .bool true) (wt0 rfl) rfl rfl (x_assign rfl rfl) ?_)
        refine g_nil ?_
        refine g_then ?_
        refine g_ret ?_
        refine g_then_ret ?_
        refine fin_ret [.tmp 4] [.bool true] rfl ⟨rfl, trivial⟩ ?_
        exact ⟨rfl, (H10.mask [false, true]).below (new := [])⟩
      · skip
        refine g_cond_f rfl (decide_eq_false hb8) ?_
        refine g_skip ?_
        refine g_then ?_
        refine g_seq ?_
        refine g_region ?_
        refine l_of (s_val (v := .agg m.cells) (wt0 rfl) rfl rfl (x_loadA H5 0 rfl rfl Try.underlying33 rfl sz33 rfl rfl rfl) ?_)
        refine l_of (s_call (wt0 rfl) (x_call' rfl rfl cl18) (encode_p' _ _) ?_)
        rintro _ wq11 ⟨rfl, H12⟩
        replace H12 : S wq11 [Ob g1 (.cells m.cells 33 (0, 0)), Old w no] := H5.absorb (new := []) H12
        refine b_ret rfl rfl ?_
        refine l_of (s_val (v := .tuple #[.string ((encT m).1), .int .i64 ((encT m).2)]) (wt0 rfl) rfl rfl (x_move rfl rfl) ?_)
        refine l_of (s_val (v := .string ((encT m).1)) (wt0 rfl) rfl rfl (x_extract rfl rfl rfl) ?_)
        refine l_of (s_val (v := .int .i64 ((encT m).2)) (wt0 rfl) rfl rfl (x_extract rfl rfl rfl) ?_)
        refine l_of (s_val (v := .string ((encT m).1)) (wt0 rfl) rfl rfl (x_assign rfl rfl) ?_)
        refine l_of (s_val (v := .int .i64 ((encT m).2)) (wt0 rfl) rfl rfl (x_assign rfl rfl) ?_)
        refine g_nil ?_
        refine g_then ?_
        refine g_seq ?_
        refine g_region ?_
        refine l_of (s_val (v := .agg m.cells) (wt0 rfl) rfl rfl (x_loadA H12 0 rfl rfl Try.underlying33 rfl sz33 rfl rfl rfl) ?_)
        refine l_of (s_call (wt0 rfl) (x_call' rfl rfl cl19) (encode_r' _ (by omega) _) ?_)
        rintro _ wq13 ⟨rfl, H14⟩
        replace H14 : S wq13 [Ob g1 (.cells m.cells 33 (0, 0)), Old w no] := H12.absorb (new := []) H14
        refine b_ret rfl rfl ?_
        refine l_of (s_val (v := .tuple #[.string ((encT m).1), .int .i64 ((encT m).2)]) (wt0 rfl) rfl rfl (x_move rfl rfl) ?_)
        refine l_of (s_val (v := .string ((encT m).1)) (wt0 rfl) rfl rfl (x_extract rfl rfl rfl) ?_)
        refine l_of (s_val (v := .int .i64 ((encT m).2)) (wt0 rfl) rfl rfl (x_extract rfl rfl rfl) ?_)
        refine l_of (s_val (v := .string ((encT m).1)) (wt0 rfl) rfl rfl (x_assign rfl rfl) ?_)
        refine l_of (s_val (v := .int .i64 ((encT m).2)) (wt0 rfl) rfl rfl (x_assign rfl rfl) ?_)
        refine g_nil ?_
        refine g_then ?_
        refine g_seq ?_
        refine g_region ?_
        refine l_of (s_val (v := .string s) (wt0 rfl) rfl rfl (x_move rfl rfl) ?_)
        refine l_of (s_call (wt0 rfl) (x_call' rfl rfl cl20) (decode_p _ _) ?_)
        rintro _ wq15 ⟨rfl, H16⟩
        replace H16 : S wq15 [Ob g1 (.cells m.cells 33 (0, 0)), Old w no] := H14.absorb (new := []) H16
        refine b_ret rfl rfl ?_
        refine l_of (s_val (v := .tuple #[.agg (decS s).1.cells, .int .i64 ((decS s).2.1), .int .i64 ((decS s).2.2.1), .int .i64 ((decS s).2.2.2)]) (wt0 rfl) rfl rfl (x_move rfl rfl) ?_)
        refine l_of (s_val (v := .agg (decS s).1.cells) (wt0 rfl) rfl rfl (x_extract rfl rfl rfl) ?_)
        refine l_of (s_val (v := .int .i64 ((decS s).2.1)) (wt0 rfl) rfl rfl (x_extract rfl rfl rfl) ?_)
        refine l_of (s_val (v := .int .i64 ((decS s).2.2.1)) (wt0 rfl) rfl rfl (x_extract rfl rfl rfl) ?_)
        refine l_of (s_val (v := .int .i64 ((decS s).2.2.2)) (wt0 rfl) rfl rfl (x_extract rfl rfl rfl) ?_)
        refine l_of (s_alloc H16 (wt0 rfl) rfl rfl rfl ze33 ?_)
        intro g17 wq18 (H19 : S wq18 [Ob g17 (.cells #[.int .i64 0, .int .i64 0, .int .i64 0, .int .i64 0, .int .i64 0, .int .i64 0, .string (⟨#[]⟩), .string (⟨#[]⟩)] 33 (0, 0)), Ob g1 (.cells m.cells 33 (0, 0)), Old w no])
        refine l_of (s_store H19 0 (wt0 rfl) rfl rfl rfl rfl rfl sz33 rfl rfl (cs' := (decS s).1.cells) rfl ?_)
        intro wq20 (H21 : S wq20 [Ob g17 (.cells (decS s).1.cells 33 (0, 0)), Ob g1 (.cells m.cells 33 (0, 0)), Old w no])
        refine l_of (s_val (v := .int .i64 ((decS s).2.1)) (wt0 rfl) rfl rfl (x_assign rfl rfl) ?_)
        refine l_of (s_val (v := .int .i64 ((decS s).2.2.1)) (wt0 rfl) rfl rfl (x_assign rfl rfl) ?_)
        refine l_of (s_val (v := .int .i64 ((decS s).2.2.2)) (wt0 rfl) rfl rfl (x_assign rfl rfl) ?_)
        refine g_nil ?_
        refine g_then ?_
        refine g_weak [(1, .string s), (2, .pointer (some ⟨g1, 0, none⟩)), (5, .string ((encT m).1)), (6, .int .i64 ((encT m).2)), (7, .string ((encT m).1)), (8, .int .i64 ((encT m).2)), (9, .pointer (some ⟨g17, 0, none⟩)), (10, .int .i64 ((decS s).2.1)), (11, .int .i64 ((decS s).2.2.1)), (12, .int .i64 ((decS s).2.2.2))] ⟨rfl, rfl, rfl, rfl, rfl, rfl, rfl, rfl, rfl, rfl, trivial⟩ ?_
        refine g_seq ?_
        refine g_region ?_
        refine l_of (s_val (v := .string s) (wt0 rfl) rfl rfl (x_move rfl rfl) ?_)
        refine l_of (s_call (wt0 rfl) (x_call' rfl rfl cl21) (decode_r _ _) ?_)
        rintro _ wq22 ⟨rfl, H23⟩
        replace H23 : S wq22 [Ob g17 (.cells (decS s).1.cells 33 (0, 0)), Ob g1 (.cells m.cells 33 (0, 0)), Old w no] := H21.absorb (new := []) H23
        refine b_ret rfl rfl ?_
        refine l_of (s_val (v := .tuple #[.agg (decS s).1.cells, .int .i64 ((decS s).2.1), .int .i64 ((decS s).2.2.1), .int .i64 ((decS s).2.2.2)]) (wt0 rfl) rfl rfl (x_move rfl rfl) ?_)
        refine l_of (s_val (v := .agg (decS s).1.cells) (wt0 rfl) rfl rfl (x_extract rfl rfl rfl) ?_)
        refine l_of (s_val (v := .int .i64 ((decS s).2.1)) (wt0 rfl) rfl rfl (x_extract rfl rfl rfl) ?_)
        refine l_of (s_val (v := .int .i64 ((decS s).2.2.1)) (wt0 rfl) rfl rfl (x_extract rfl rfl rfl) ?_)
        refine l_of (s_val (v := .int .i64 ((decS s).2.2.2)) (wt0 rfl) rfl rfl (x_extract rfl rfl rfl) ?_)
        refine l_of (s_alloc H23 (wt0 rfl) rfl rfl rfl ze33 ?_)
        intro g24 wq25 (H26 : S wq25 [Ob g24 (.cells #[.int .i64 0, .int .i64 0, .int .i64 0, .int .i64 0, .int .i64 0, .int .i64 0, .string (⟨#[]⟩), .string (⟨#[]⟩)] 33 (0, 0)), Ob g17 (.cells (decS s).1.cells 33 (0, 0)), Ob g1 (.cells m.cells 33 (0, 0)), Old w no])
        refine l_of (s_store H26 0 (wt0 rfl) rfl rfl rfl rfl rfl sz33 rfl rfl (cs' := (decS s).1.cells) rfl ?_)
        intro wq27 (H28 : S wq27 [Ob g24 (.cells (decS s).1.cells 33 (0, 0)), Ob g17 (.cells (decS s).1.cells 33 (0, 0)), Ob g1 (.cells m.cells 33 (0, 0)), Old w no])
        refine l_of (s_val (v := .int .i64 ((decS s).2.1)) (wt0 rfl) rfl rfl (x_assign rfl rfl) ?_)
        refine l_of (s_val (v := .int .i64 ((decS s).2.2.1)) (wt0 rfl) rfl rfl (x_assign rfl rfl) ?_)
        refine l_of (s_val (v := .int .i64 ((decS s).2.2.2)) (wt0 rfl) rfl rfl (x_assign rfl rfl) ?_)
        refine g_nil ?_
        refine g_then ?_
        refine g_seq ?_
        refine g_seq ?_
        refine g_quiet (by kernel_rfl) (by kernel_rfl) H28 ?_
        refine q_val (v := .string ((encT m).1)) (wt0 rfl) rfl rfl (fun wx H => x_move rfl rfl) ?_
        refine q_val (v := .string ((encT m).1)) (wt0 rfl) rfl rfl (fun wx H => x_move rfl rfl) ?_
        refine q_val (v := .bool (!decide ((encT m).1 = (encT m).1))) (wt0 rfl) rfl rfl (fun wx H => x_bin rfl rfl rfl b_nes) ?_
        refine q_val (v := .bool (!decide ((encT m).1 = (encT m).1))) (wt0 rfl) rfl rfl (fun wx H => x_move rfl rfl) ?_
        refine q_val (v := .int .i64 ((encT m).2)) (wt1 rfl rfl rfl rfl (nf rfl)) rfl rfl (fun wx H => x_move rfl rfl) ?_
        refine q_val (v := .int .i64 ((encT m).2)) (wt1 rfl rfl rfl rfl (nf rfl)) rfl rfl (fun wx H => x_move rfl rfl) ?_
        refine q_val (v := .bool (!decide (((encT m).2 : Int) = (encT m).2))) (wt1 rfl rfl rfl rfl (nf rfl)) rfl rfl (fun wx H => x_bin rfl rfl rfl b_neq) ?_
        refine q_val (v := .bool (!decide (((encT m).2 : Int) = (encT m).2))) (wt0 rfl) rfl rfl (fun wx H => x_pick_f rfl rfl (nf rfl) rfl) ?_
        refine q_val (v := .bool (!decide (((encT m).2 : Int) = (encT m).2))) (wt0 rfl) rfl rfl (fun wx H => x_move rfl rfl) ?_
        refine q_val (v := .agg (decS s).1.cells) (wt1 rfl rfl rfl rfl (nf rfl)) rfl rfl (fun wx H => x_loadA H 1 rfl rfl Try.underlying33 rfl sz33 rfl rfl rfl) ?_
        refine q_val (v := .agg (decS s).1.cells) (wt1 rfl rfl rfl rfl (nf rfl)) rfl rfl (fun wx H => x_loadA H 0 rfl rfl Try.underlying33 rfl sz33 rfl rfl rfl) ?_
        refine q_val (v := .bool (!decide ((decS s).1 = (decS s).1))) (wt1 rfl rfl rfl rfl (nf rfl)) rfl rfl (fun wx H => x_bin rfl rfl rfl (b_msgN (decS s).1 (decS s).1)) ?_
        refine q_val (v := .bool (!decide ((decS s).1 = (decS s).1))) (wt0 rfl) rfl rfl (fun wx H => x_pick_f rfl rfl (nf rfl) rfl) ?_
        refine q_val (v := .bool (!decide ((decS s).1 = (decS s).1))) (wt0 rfl) rfl rfl (fun wx H => x_move rfl rfl) ?_
        refine q_val (v := .int .i64 ((decS s).2.1)) (wt1 rfl rfl rfl rfl (nf rfl)) rfl rfl (fun wx H => x_move rfl rfl) ?_
        refine q_val (v := .int .i64 ((decS s).2.1)) (wt1 rfl rfl rfl rfl (nf rfl)) rfl rfl (fun wx H => x_move rfl rfl) ?_
        refine q_val (v := .bool (!decide (((decS s).2.1 : Int) = (decS s).2.1))) (wt1 rfl rfl rfl rfl (nf rfl)) rfl rfl (fun wx H => x_bin rfl rfl rfl b_neq) ?_
        refine q_val (v := .bool (!decide (((decS s).2.1 : Int) = (decS s).2.1))) (wt0 rfl) rfl rfl (fun wx H => x_pick_f rfl rfl (nf rfl) rfl) ?_
        refine q_val (v := .bool (!decide (((decS s).2.1 : Int) = (decS s).2.1))) (wt0 rfl) rfl rfl (fun wx H => x_move rfl rfl) ?_
        refine q_val (v := .int .i64 ((decS s).2.2.1)) (wt1 rfl rfl rfl rfl (nf rfl)) rfl rfl (fun wx H => x_move rfl rfl) ?_
        refine q_val (v := .int .i64 ((decS s).2.2.1)) (wt1 rfl rfl rfl rfl (nf rfl)) rfl rfl (fun wx H => x_move rfl rfl) ?_
        refine q_val (v := .bool (!decide (((decS s).2.2.1 : Int) = (decS s).2.2.1))) (wt1 rfl rfl rfl rfl (nf rfl)) rfl rfl (fun wx H => x_bin rfl rfl rfl b_neq) ?_
        refine q_val (v := .bool (!decide (((decS s).2.2.1 : Int) = (decS s).2.2.1))) (wt0 rfl) rfl rfl (fun wx H => x_pick_f rfl rfl (nf rfl) rfl) ?_
        refine q_val (v := .bool (!decide (((decS s).2.2.1 : Int) = (decS s).2.2.1))) (wt0 rfl) rfl rfl (fun wx H => x_move rfl rfl) ?_
        refine q_val (v := .int .i64 ((decS s).2.2.2)) (wt1 rfl rfl rfl rfl (nf rfl)) rfl rfl (fun wx H => x_move rfl rfl) ?_
        refine q_val (v := .int .i64 ((decS s).2.2.2)) (wt1 rfl rfl rfl rfl (nf rfl)) rfl rfl (fun wx H => x_move rfl rfl) ?_
        refine q_val (v := .bool (!decide (((decS s).2.2.2 : Int) = (decS s).2.2.2))) (wt1 rfl rfl rfl rfl (nf rfl)) rfl rfl (fun wx H => x_bin rfl rfl rfl b_neq) ?_
        refine q_val (v := .bool (!decide (((decS s).2.2.2 : Int) = (decS s).2.2.2))) (wt0 rfl) rfl rfl (fun wx H => x_pick_f rfl rfl (nf rfl) rfl) ?_
        refine q_val (v := .bool (!decide (((decS s).2.2.2 : Int) = (decS s).2.2.2))) (wt0 rfl) rfl rfl (fun wx H => x_move rfl rfl) ?_
        refine q_val (v := .agg m.cells) (wt1 rfl rfl rfl rfl (nf rfl)) rfl rfl (fun wx H => x_loadA H 2 rfl rfl Try.underlying33 rfl sz33 rfl rfl rfl) ?_
        refine q_call (wt1 rfl rfl rfl rfl (nf rfl)) rfl rfl (fun wx H => x_call' rfl rfl cl22) (fun wx H => (valid_p _ _).mono (by rintro _ _ ⟨rfl, h⟩; exact ⟨rfl, H.absorb (new := []) (S.of_below h)⟩)) ?_
        refine q_val (v := .agg m.cells) (wt1 rfl rfl rfl rfl (nf rfl)) rfl rfl (fun wx H => x_loadA H 2 rfl rfl Try.underlying33 rfl sz33 rfl rfl rfl) ?_
        refine q_call (wt1 rfl rfl rfl rfl (nf rfl)) rfl rfl (fun wx H => x_call' rfl rfl cl23) (fun wx H => (valid_r _ _).mono (by rintro _ _ ⟨rfl, h⟩; exact ⟨rfl, H.absorb (new := []) (S.of_below h)⟩)) ?_
        refine q_val (v := .bool (!((validP m) == (validP m)))) (wt1 rfl rfl rfl rfl (nf rfl)) rfl rfl (fun wx H => x_bin rfl rfl rfl (b_neN Try.underlying4 rfl)) ?_
        refine q_val (v := .bool (!((validP m) == (validP m)))) (wt0 rfl) rfl rfl (fun wx H => x_pick_f rfl rfl (nf rfl) rfl) ?_
        refine q_nil (fun wq29 H30 => ?_)
        refine g_then ?_
        refine g_weak [(1, .string s), (2, .pointer (some ⟨g1, 0, none⟩)), (5, .string ((encT m).1)), (6, .int .i64 ((encT m).2)), (93, .bool (!((validP m) == (validP m))))] ⟨rfl, rfl, rfl, rfl, rfl, trivial⟩ ?_
        refine g_cond_f rfl (neg_of (beq_self_eq_true (validP m))) ?_
        refine g_skip ?_
        refine g_then ?_
        refine g_seq ?_
        refine g_seq ?_
        refine g_region ?_
        refine l_of (s_val (v := .int .i64 ((encT m).2)) (wt0 rfl) rfl rfl (x_move rfl rfl) ?_)
        refine l_of (s_val (v := .bool (decide (((encT m).2 : Int) = 0))) (wt0 rfl) rfl rfl (x_bin rfl rfl rfl b_eql) ?_)
        refine l_of (s_val (v := .bool (decide (((encT m).2 : Int) = 0))) (wt0 rfl) rfl rfl (x_move rfl rfl) ?_)
        by_cases hb31 : ((encT m).2 : Int) = 0
        · skip
          refine l_of (s_val (v := .string s) (wt1 rfl rfl rfl rfl (decide_eq_true hb31)) rfl rfl (x_move rfl rfl) ?_)
          refine l_of (s_val (v := .int .i64 ((s.size : Int))) (wt1 rfl rfl rfl rfl (decide_eq_true hb31)) rfl rfl (x_lens rfl rfl Try.underlying9) ?_)
          refine l_of (s_val (v := .bool (decide (((s.size : Int) : Int) ≤ 5000))) (wt1 rfl rfl rfl rfl (decide_eq_true hb31)) rfl rfl (x_bin rfl rfl rfl b_leq) ?_)
          refine l_of (s_val (v := .bool (decide (((s.size : Int) : Int) ≤ 5000))) (wt0 rfl) rfl rfl (x_pick_t rfl rfl (decide_eq_true hb31) rfl) ?_)
          refine g_nil ?_
          refine g_then ?_
          by_cases hb32 : ((s.size : Int) : Int) ≤ 5000
          · skip
            refine g_cond_t rfl (decide_eq_true hb32) ?_
            refine g_seq ?_
            refine g_region ?_
            refine l_of (s_val (v := .string ((encT m).1)) (wt0 rfl) rfl rfl (x_move rfl rfl) ?_)
            refine l_of (s_val (v := .string s) (wt0 rfl) rfl rfl (x_move rfl rfl) ?_)
            have hbk := back m s (by omega) (by omega)
            have hsz33 : (((encT m).1) ++ s).size = ((encT m).1).size + s.size := ByteArray.size_append
            refine l_of (s_val (v := .string (((encT m).1) ++ s)) (wt0 rfl) rfl rfl (x_bin rfl rfl rfl (b_cat (by omega))) ?_)
            refine l_of (s_call (wt0 rfl) (x_call' rfl rfl cl20) (decode_p _ _) ?_)
            rintro _ wq34 ⟨rfl, H35⟩
            replace H35 : S wq34 [Ob g24 (.cells (decS s).1.cells 33 (0, 0)), Ob g17 (.cells (decS s).1.cells 33 (0, 0)), Ob g1 (.cells m.cells 33 (0, 0)), Old w no] := H30.absorb (new := []) H35
            rw [hbk.1]
            refine b_ret rfl rfl ?_
            refine l_of (s_val (v := .tuple #[.agg m.cells, .int .i64 (((encT m).1.size : Int)), .int .i64 (-1), .int .i64 0]) (wt0 rfl) rfl rfl (x_move rfl rfl) ?_)
            refine l_of (s_val (v := .agg m.cells) (wt0 rfl) rfl rfl (x_extract rfl rfl rfl) ?_)
            refine l_of (s_val (v := .int .i64 (((encT m).1.size : Int))) (wt0 rfl) rfl rfl (x_extract rfl rfl rfl) ?_)
            refine l_of (s_val (v := .int .i64 (-1)) (wt0 rfl) rfl rfl (x_extract rfl rfl rfl) ?_)
            refine l_of (s_val (v := .int .i64 0) (wt0 rfl) rfl rfl (x_extract rfl rfl rfl) ?_)
            refine l_of (s_alloc H35 (wt0 rfl) rfl rfl rfl ze33 ?_)
            intro g36 wq37 (H38 : S wq37 [Ob g36 (.cells #[.int .i64 0, .int .i64 0, .int .i64 0, .int .i64 0, .int .i64 0, .int .i64 0, .string (⟨#[]⟩), .string (⟨#[]⟩)] 33 (0, 0)), Ob g24 (.cells (decS s).1.cells 33 (0, 0)), Ob g17 (.cells (decS s).1.cells 33 (0, 0)), Ob g1 (.cells m.cells 33 (0, 0)), Old w no])
            refine l_of (s_store H38 0 (wt0 rfl) rfl rfl rfl rfl rfl sz33 rfl rfl (cs' := m.cells) rfl ?_)
            intro wq39 (H40 : S wq39 [Ob g36 (.cells m.cells 33 (0, 0)), Ob g24 (.cells (decS s).1.cells 33 (0, 0)), Ob g17 (.cells (decS s).1.cells 33 (0, 0)), Ob g1 (.cells m.cells 33 (0, 0)), Old w no])
            refine l_of (s_val (v := .int .i64 (((encT m).1.size : Int))) (wt0 rfl) rfl rfl (x_assign rfl rfl) ?_)
            refine l_of (s_val (v := .int .i64 (-1)) (wt0 rfl) rfl rfl (x_assign rfl rfl) ?_)
            refine l_of (s_val (v := .int .i64 0) (wt0 rfl) rfl rfl (x_assign rfl rfl) ?_)
            refine g_nil ?_
            refine g_then ?_
            refine g_weak [(2, .pointer (some ⟨g1, 0, none⟩)), (5, .string ((encT m).1)), (17, .pointer (some ⟨g36, 0, none⟩)), (18, .int .i64 (((encT m).1.size : Int))), (20, .int .i64 0)] ⟨rfl, rfl, rfl, rfl, rfl, trivial⟩ ?_
            refine g_seq ?_
            refine g_region ?_
            refine l_of (s_val (v := .agg m.cells) (wt0 rfl) rfl rfl (x_loadA H40 0 rfl rfl Try.underlying33 rfl sz33 rfl rfl rfl) ?_)
            refine l_of (s_val (v := .agg m.cells) (wt0 rfl) rfl rfl (x_loadA H40 3 rfl rfl Try.underlying33 rfl sz33 rfl rfl rfl) ?_)
            refine l_of (s_val (v := .bool (!decide (m = m))) (wt0 rfl) rfl rfl (x_bin rfl rfl rfl (b_msgN m m)) ?_)
            refine l_of (s_val (v := .bool (!decide (m = m))) (wt0 rfl) rfl rfl (x_move rfl rfl) ?_)
            refine l_of (s_val (v := .int .i64 (((encT m).1.size : Int))) (wt1 rfl rfl rfl rfl (nf rfl)) rfl rfl (x_move rfl rfl) ?_)
            refine l_of (s_val (v := .string ((encT m).1)) (wt1 rfl rfl rfl rfl (nf rfl)) rfl rfl (x_move rfl rfl) ?_)
            refine l_of (s_val (v := .int .i64 ((((encT m).1).size : Int))) (wt1 rfl rfl rfl rfl (nf rfl)) rfl rfl (x_lens rfl rfl Try.underlying9) ?_)
            refine l_of (s_val (v := .bool (!decide ((((encT m).1.size : Int) : Int) = (((encT m).1).size : Int)))) (wt1 rfl rfl rfl rfl (nf rfl)) rfl rfl (x_bin rfl rfl rfl b_neq) ?_)
            refine l_of (s_val (v := .bool (!decide ((((encT m).1.size : Int) : Int) = (((encT m).1).size : Int)))) (wt0 rfl) rfl rfl (x_pick_f rfl rfl (nf rfl) rfl) ?_)
            refine l_of (s_val (v := .bool (!decide ((((encT m).1.size : Int) : Int) = (((encT m).1).size : Int)))) (wt0 rfl) rfl rfl (x_move rfl rfl) ?_)
            refine l_of (s_val (v := .int .i64 0) (wt1 rfl rfl rfl rfl (nf rfl)) rfl rfl (x_move rfl rfl) ?_)
            refine l_of (s_val (v := .bool (!decide ((0 : Int) = 0))) (wt1 rfl rfl rfl rfl (nf rfl)) rfl rfl (x_bin rfl rfl rfl b_neq) ?_)
            refine l_of (s_val (v := .bool (!decide ((0 : Int) = 0))) (wt0 rfl) rfl rfl (x_pick_f rfl rfl (nf rfl) rfl) ?_)
            refine l_of (s_val (v := .bool (!decide ((0 : Int) = 0))) (wt0 rfl) rfl rfl (x_move rfl rfl) ?_)
            refine l_of (s_val (v := .string ((encT m).1)) (wt1 rfl rfl rfl rfl (nf rfl)) rfl rfl (x_move rfl rfl) ?_)
            refine l_of (s_val (v := .int .i64 ((((encT m).1).size : Int))) (wt1 rfl rfl rfl rfl (nf rfl)) rfl rfl (x_lens rfl rfl Try.underlying9) ?_)
            refine l_of (s_val (v := .bool (decide ((4204 : Int) < (((encT m).1).size : Int)))) (wt1 rfl rfl rfl rfl (nf rfl)) rfl rfl (x_bin rfl rfl rfl b_gtr) ?_)
            refine l_of (s_val (v := .bool (decide ((4204 : Int) < (((encT m).1).size : Int)))) (wt0 rfl) rfl rfl (x_pick_f rfl rfl (nf rfl) rfl) ?_)
            refine g_nil ?_
            refine g_then ?_
            refine g_weak [(127, .bool (decide ((4204 : Int) < (((encT m).1).size : Int))))] ⟨rfl, trivial⟩ ?_
            refine g_cond_f rfl (decide_eq_false (by omega)) ?_
            refine g_skip ?_
            refine g_then ?_
            refine g_seq ?_
            refine g_region ?_
            refine l_of (s_call (wt0 rfl) (x_call' rfl rfl cl10) (awake_p _) ?_)
            rintro _ wq41 ⟨rfl, H42⟩
            replace H42 : S wq41 [Ob g36 (.cells m.cells 33 (0, 0)), Ob g24 (.cells (decS s).1.cells 33 (0, 0)), Ob g17 (.cells (decS s).1.cells 33 (0, 0)), Ob g1 (.cells m.cells 33 (0, 0)), Old w no] := H40.absorb (new := []) (S.of_below H42)
            refine b_ret rfl rfl ?_
            refine l_of (s_val (v := .bool true) (wt0 rfl) rfl rfl (x_assign rfl rfl) ?_)
            refine g_nil ?_
            refine g_then ?_
            refine g_ret ?_
            refine fin_ret [.tmp 4] [.bool true] rfl ⟨rfl, trivial⟩ ?_
            exact ⟨rfl, (H42.mask [false, false, false, false, true]).below (new := [])⟩
          · skip
            refine g_cond_f rfl (decide_eq_false hb32) ?_
            refine g_skip ?_
            refine g_then ?_
            refine g_weak [] trivial ?_
            refine g_seq ?_
            refine g_region ?_
            refine l_of (s_call (wt0 rfl) (x_call' rfl rfl cl10) (awake_p _) ?_)
            rintro _ wq43 ⟨rfl, H44⟩
            replace H44 : S wq43 [Ob g24 (.cells (decS s).1.cells 33 (0, 0)), Ob g17 (.cells (decS s).1.cells 33 (0, 0)), Ob g1 (.cells m.cells 33 (0, 0)), Old w no] := H30.absorb (new := []) (S.of_below H44)
            refine b_ret rfl rfl ?_
            refine l_of (s_val (v := .bool true) (wt0 rfl) rfl rfl (x_assign rfl rfl) ?_)
            refine g_nil ?_
            refine g_then ?_
            refine g_ret ?_
            refine fin_ret [.tmp 4] [.bool true] rfl ⟨rfl, trivial⟩ ?_
            exact ⟨rfl, (H44.mask [false, false, false, true]).below (new := [])⟩
        · skip
          refine l_of (s_not (wn1 rfl rfl rfl rfl (decide_eq_false hb31)) rfl rfl ?_)
          refine l_of (s_not (wn1 rfl rfl rfl rfl (decide_eq_false hb31)) rfl rfl ?_)
          refine l_of (s_not (wn1 rfl rfl rfl rfl (decide_eq_false hb31)) rfl rfl ?_)
          refine l_of (s_val (v := .bool false) (wt0 rfl) rfl rfl (x_pick_f rfl rfl (decide_eq_false hb31) rfl) ?_)
          refine g_nil ?_
          refine g_then ?_
          refine g_cond_f rfl rfl ?_
          refine g_skip ?_
          refine g_then ?_
          refine g_weak [] trivial ?_
          refine g_seq ?_
          refine g_region ?_
          refine l_of (s_call (wt0 rfl) (x_call' rfl rfl cl10) (awake_p _) ?_)
          rintro _ wq45 ⟨rfl, H46⟩
          replace H46 : S wq45 [Ob g24 (.cells (decS s).1.cells 33 (0, 0)), Ob g17 (.cells (decS s).1.cells 33 (0, 0)), Ob g1 (.cells m.cells 33 (0, 0)), Old w no] := H30.absorb (new := []) (S.of_below H46)
          refine b_ret rfl rfl ?_
          refine l_of (s_val (v := .bool true) (wt0 rfl) rfl rfl (x_assign rfl rfl) ?_)
          refine g_nil ?_
          refine g_then ?_
          refine g_ret ?_
          refine fin_ret [.tmp 4] [.bool true] rfl ⟨rfl, trivial⟩ ?_
          exact ⟨rfl, (H46.mask [false, false, false, true]).below (new := [])⟩
    · skip
      refine l_of (s_not (wn1 rfl rfl rfl rfl (decide_eq_false hb7)) rfl rfl ?_)
      refine l_of (s_not (wn1 rfl rfl rfl rfl (decide_eq_false hb7)) rfl rfl ?_)
      refine l_of (s_not (wn1 rfl rfl rfl rfl (decide_eq_false hb7)) rfl rfl ?_)
      refine l_of (s_val (v := .bool false) (wt1 rfl rfl rfl rfl (neg_of hb6)) rfl rfl (x_pick_f rfl rfl (decide_eq_false hb7) rfl) ?_)
      refine l_of (s_val (v := .bool false) (wt0 rfl) rfl rfl (x_pick_f rfl rfl (neg_of hb6) rfl) ?_)
      refine g_nil ?_
      refine g_then ?_
      refine g_weak [(1, .string s), (2, .pointer (some ⟨g1, 0, none⟩)), (33, .bool false)] ⟨rfl, rfl, rfl, trivial⟩ ?_
      refine g_cond_f rfl rfl ?_
      refine g_skip ?_
      refine g_then ?_
      refine g_seq ?_
      refine g_region ?_
      refine l_of (s_val (v := .agg m.cells) (wt0 rfl) rfl rfl (x_loadA H5 0 rfl rfl Try.underlying33 rfl sz33 rfl rfl rfl) ?_)
      refine l_of (s_call (wt0 rfl) (x_call' rfl rfl cl18) (encode_p' _ _) ?_)
      rintro _ wq47 ⟨rfl, H48⟩
      replace H48 : S wq47 [Ob g1 (.cells m.cells 33 (0, 0)), Old w no] := H5.absorb (new := []) H48
      refine b_ret rfl rfl ?_
      refine l_of (s_val (v := .tuple #[.string ((encT m).1), .int .i64 ((encT m).2)]) (wt0 rfl) rfl rfl (x_move rfl rfl) ?_)
      refine l_of (s_val (v := .string ((encT m).1)) (wt0 rfl) rfl rfl (x_extract rfl rfl rfl) ?_)
      refine l_of (s_val (v := .int .i64 ((encT m).2)) (wt0 rfl) rfl rfl (x_extract rfl rfl rfl) ?_)
      refine l_of (s_val (v := .string ((encT m).1)) (wt0 rfl) rfl rfl (x_assign rfl rfl) ?_)
      refine l_of (s_val (v := .int .i64 ((encT m).2)) (wt0 rfl) rfl rfl (x_assign rfl rfl) ?_)
      refine g_nil ?_
      refine g_then ?_
      refine g_seq ?_
      refine g_region ?_
      refine l_of (s_val (v := .agg m.cells) (wt0 rfl) rfl rfl (x_loadA H48 0 rfl rfl Try.underlying33 rfl sz33 rfl rfl rfl) ?_)
      refine l_of (s_call (wt0 rfl) (x_call' rfl rfl cl19) (encode_r' _ (by omega) _) ?_)
      rintro _ wq49 ⟨rfl, H50⟩
      replace H50 : S wq49 [Ob g1 (.cells m.cells 33 (0, 0)), Old w no] := H48.absorb (new := []) H50
      refine b_ret rfl rfl ?_
      refine l_of (s_val (v := .tuple #[.string ((encT m).1), .int .i64 ((encT m).2)]) (wt0 rfl) rfl rfl (x_move rfl rfl) ?_)
      refine l_of (s_val (v := .string ((encT m).1)) (wt0 rfl) rfl rfl (x_extract rfl rfl rfl) ?_)
      refine l_of (s_val (v := .int .i64 ((encT m).2)) (wt0 rfl) rfl rfl (x_extract rfl rfl rfl) ?_)
      refine l_of (s_val (v := .string ((encT m).1)) (wt0 rfl) rfl rfl (x_assign rfl rfl) ?_)
      refine l_of (s_val (v := .int .i64 ((encT m).2)) (wt0 rfl) rfl rfl (x_assign rfl rfl) ?_)
      refine g_nil ?_
      refine g_then ?_
      refine g_seq ?_
      refine g_region ?_
      refine l_of (s_val (v := .string s) (wt0 rfl) rfl rfl (x_move rfl rfl) ?_)
      refine l_of (s_call (wt0 rfl) (x_call' rfl rfl cl20) (decode_p _ _) ?_)
      rintro _ wq51 ⟨rfl, H52⟩
      replace H52 : S wq51 [Ob g1 (.cells m.cells 33 (0, 0)), Old w no] := H50.absorb (new := []) H52
      refine b_ret rfl rfl ?_
      refine l_of (s_val (v := .tuple #[.agg (decS s).1.cells, .int .i64 ((decS s).2.1), .int .i64 ((decS s).2.2.1), .int .i64 ((decS s).2.2.2)]) (wt0 rfl) rfl rfl (x_move rfl rfl) ?_)
      refine l_of (s_val (v := .agg (decS s).1.cells) (wt0 rfl) rfl rfl (x_extract rfl rfl rfl) ?_)
      refine l_of (s_val (v := .int .i64 ((decS s).2.1)) (wt0 rfl) rfl rfl (x_extract rfl rfl rfl) ?_)
      refine l_of (s_val (v := .int .i64 ((decS s).2.2.1)) (wt0 rfl) rfl rfl (x_extract rfl rfl rfl) ?_)
      refine l_of (s_val (v := .int .i64 ((decS s).2.2.2)) (wt0 rfl) rfl rfl (x_extract rfl rfl rfl) ?_)
      refine l_of (s_alloc H52 (wt0 rfl) rfl rfl rfl ze33 ?_)
      intro g53 wq54 (H55 : S wq54 [Ob g53 (.cells #[.int .i64 0, .int .i64 0, .int .i64 0, .int .i64 0, .int .i64 0, .int .i64 0, .string (⟨#[]⟩), .string (⟨#[]⟩)] 33 (0, 0)), Ob g1 (.cells m.cells 33 (0, 0)), Old w no])
      refine l_of (s_store H55 0 (wt0 rfl) rfl rfl rfl rfl rfl sz33 rfl rfl (cs' := (decS s).1.cells) rfl ?_)
      intro wq56 (H57 : S wq56 [Ob g53 (.cells (decS s).1.cells 33 (0, 0)), Ob g1 (.cells m.cells 33 (0, 0)), Old w no])
      refine l_of (s_val (v := .int .i64 ((decS s).2.1)) (wt0 rfl) rfl rfl (x_assign rfl rfl) ?_)
      refine l_of (s_val (v := .int .i64 ((decS s).2.2.1)) (wt0 rfl) rfl rfl (x_assign rfl rfl) ?_)
      refine l_of (s_val (v := .int .i64 ((decS s).2.2.2)) (wt0 rfl) rfl rfl (x_assign rfl rfl) ?_)
      refine g_nil ?_
      refine g_then ?_
      refine g_weak [(1, .string s), (2, .pointer (some ⟨g1, 0, none⟩)), (5, .string ((encT m).1)), (6, .int .i64 ((encT m).2)), (7, .string ((encT m).1)), (8, .int .i64 ((encT m).2)), (9, .pointer (some ⟨g53, 0, none⟩)), (10, .int .i64 ((decS s).2.1)), (11, .int .i64 ((decS s).2.2.1)), (12, .int .i64 ((decS s).2.2.2))] ⟨rfl, rfl, rfl, rfl, rfl, rfl, rfl, rfl, rfl, rfl, trivial⟩ ?_
      refine g_seq ?_
      refine g_region ?_
      refine l_of (s_val (v := .string s) (wt0 rfl) rfl rfl (x_move rfl rfl) ?_)
      refine l_of (s_call (wt0 rfl) (x_call' rfl rfl cl21) (decode_r _ _) ?_)
      rintro _ wq58 ⟨rfl, H59⟩
      replace H59 : S wq58 [Ob g53 (.cells (decS s).1.cells 33 (0, 0)), Ob g1 (.cells m.cells 33 (0, 0)), Old w no] := H57.absorb (new := []) H59
      refine b_ret rfl rfl ?_
      refine l_of (s_val (v := .tuple #[.agg (decS s).1.cells, .int .i64 ((decS s).2.1), .int .i64 ((decS s).2.2.1), .int .i64 ((decS s).2.2.2)]) (wt0 rfl) rfl rfl (x_move rfl rfl) ?_)
      refine l_of (s_val (v := .agg (decS s).1.cells) (wt0 rfl) rfl rfl (x_extract rfl rfl rfl) ?_)
      refine l_of (s_val (v := .int .i64 ((decS s).2.1)) (wt0 rfl) rfl rfl (x_extract rfl rfl rfl) ?_)
      refine l_of (s_val (v := .int .i64 ((decS s).2.2.1)) (wt0 rfl) rfl rfl (x_extract rfl rfl rfl) ?_)
      refine l_of (s_val (v := .int .i64 ((decS s).2.2.2)) (wt0 rfl) rfl rfl (x_extract rfl rfl rfl) ?_)
      refine l_of (s_alloc H59 (wt0 rfl) rfl rfl rfl ze33 ?_)
      intro g60 wq61 (H62 : S wq61 [Ob g60 (.cells #[.int .i64 0, .int .i64 0, .int .i64 0, .int .i64 0, .int .i64 0, .int .i64 0, .string (⟨#[]⟩), .string (⟨#[]⟩)] 33 (0, 0)), Ob g53 (.cells (decS s).1.cells 33 (0, 0)), Ob g1 (.cells m.cells 33 (0, 0)), Old w no])
      refine l_of (s_store H62 0 (wt0 rfl) rfl rfl rfl rfl rfl sz33 rfl rfl (cs' := (decS s).1.cells) rfl ?_)
      intro wq63 (H64 : S wq63 [Ob g60 (.cells (decS s).1.cells 33 (0, 0)), Ob g53 (.cells (decS s).1.cells 33 (0, 0)), Ob g1 (.cells m.cells 33 (0, 0)), Old w no])
      refine l_of (s_val (v := .int .i64 ((decS s).2.1)) (wt0 rfl) rfl rfl (x_assign rfl rfl) ?_)
      refine l_of (s_val (v := .int .i64 ((decS s).2.2.1)) (wt0 rfl) rfl rfl (x_assign rfl rfl) ?_)
      refine l_of (s_val (v := .int .i64 ((decS s).2.2.2)) (wt0 rfl) rfl rfl (x_assign rfl rfl) ?_)
      refine g_nil ?_
      refine g_then ?_
      refine g_seq ?_
      refine g_seq ?_
      refine g_quiet (by kernel_rfl) (by kernel_rfl) H64 ?_
      refine q_val (v := .string ((encT m).1)) (wt0 rfl) rfl rfl (fun wx H => x_move rfl rfl) ?_
      refine q_val (v := .string ((encT m).1)) (wt0 rfl) rfl rfl (fun wx H => x_move rfl rfl) ?_
      refine q_val (v := .bool (!decide ((encT m).1 = (encT m).1))) (wt0 rfl) rfl rfl (fun wx H => x_bin rfl rfl rfl b_nes) ?_
      refine q_val (v := .bool (!decide ((encT m).1 = (encT m).1))) (wt0 rfl) rfl rfl (fun wx H => x_move rfl rfl) ?_
      refine q_val (v := .int .i64 ((encT m).2)) (wt1 rfl rfl rfl rfl (nf rfl)) rfl rfl (fun wx H => x_move rfl rfl) ?_
      refine q_val (v := .int .i64 ((encT m).2)) (wt1 rfl rfl rfl rfl (nf rfl)) rfl rfl (fun wx H => x_move rfl rfl) ?_
      refine q_val (v := .bool (!decide (((encT m).2 : Int) = (encT m).2))) (wt1 rfl rfl rfl rfl (nf rfl)) rfl rfl (fun wx H => x_bin rfl rfl rfl b_neq) ?_
      refine q_val (v := .bool (!decide (((encT m).2 : Int) = (encT m).2))) (wt0 rfl) rfl rfl (fun wx H => x_pick_f rfl rfl (nf rfl) rfl) ?_
      refine q_val (v := .bool (!decide (((encT m).2 : Int) = (encT m).2))) (wt0 rfl) rfl rfl (fun wx H => x_move rfl rfl) ?_
      refine q_val (v := .agg (decS s).1.cells) (wt1 rfl rfl rfl rfl (nf rfl)) rfl rfl (fun wx H => x_loadA H 1 rfl rfl Try.underlying33 rfl sz33 rfl rfl rfl) ?_
      refine q_val (v := .agg (decS s).1.cells) (wt1 rfl rfl rfl rfl (nf rfl)) rfl rfl (fun wx H => x_loadA H 0 rfl rfl Try.underlying33 rfl sz33 rfl rfl rfl) ?_
      refine q_val (v := .bool (!decide ((decS s).1 = (decS s).1))) (wt1 rfl rfl rfl rfl (nf rfl)) rfl rfl (fun wx H => x_bin rfl rfl rfl (b_msgN (decS s).1 (decS s).1)) ?_
      refine q_val (v := .bool (!decide ((decS s).1 = (decS s).1))) (wt0 rfl) rfl rfl (fun wx H => x_pick_f rfl rfl (nf rfl) rfl) ?_
      refine q_val (v := .bool (!decide ((decS s).1 = (decS s).1))) (wt0 rfl) rfl rfl (fun wx H => x_move rfl rfl) ?_
      refine q_val (v := .int .i64 ((decS s).2.1)) (wt1 rfl rfl rfl rfl (nf rfl)) rfl rfl (fun wx H => x_move rfl rfl) ?_
      refine q_val (v := .int .i64 ((decS s).2.1)) (wt1 rfl rfl rfl rfl (nf rfl)) rfl rfl (fun wx H => x_move rfl rfl) ?_
      refine q_val (v := .bool (!decide (((decS s).2.1 : Int) = (decS s).2.1))) (wt1 rfl rfl rfl rfl (nf rfl)) rfl rfl (fun wx H => x_bin rfl rfl rfl b_neq) ?_
      refine q_val (v := .bool (!decide (((decS s).2.1 : Int) = (decS s).2.1))) (wt0 rfl) rfl rfl (fun wx H => x_pick_f rfl rfl (nf rfl) rfl) ?_
      refine q_val (v := .bool (!decide (((decS s).2.1 : Int) = (decS s).2.1))) (wt0 rfl) rfl rfl (fun wx H => x_move rfl rfl) ?_
      refine q_val (v := .int .i64 ((decS s).2.2.1)) (wt1 rfl rfl rfl rfl (nf rfl)) rfl rfl (fun wx H => x_move rfl rfl) ?_
      refine q_val (v := .int .i64 ((decS s).2.2.1)) (wt1 rfl rfl rfl rfl (nf rfl)) rfl rfl (fun wx H => x_move rfl rfl) ?_
      refine q_val (v := .bool (!decide (((decS s).2.2.1 : Int) = (decS s).2.2.1))) (wt1 rfl rfl rfl rfl (nf rfl)) rfl rfl (fun wx H => x_bin rfl rfl rfl b_neq) ?_
      refine q_val (v := .bool (!decide (((decS s).2.2.1 : Int) = (decS s).2.2.1))) (wt0 rfl) rfl rfl (fun wx H => x_pick_f rfl rfl (nf rfl) rfl) ?_
      refine q_val (v := .bool (!decide (((decS s).2.2.1 : Int) = (decS s).2.2.1))) (wt0 rfl) rfl rfl (fun wx H => x_move rfl rfl) ?_
      refine q_val (v := .int .i64 ((decS s).2.2.2)) (wt1 rfl rfl rfl rfl (nf rfl)) rfl rfl (fun wx H => x_move rfl rfl) ?_
      refine q_val (v := .int .i64 ((decS s).2.2.2)) (wt1 rfl rfl rfl rfl (nf rfl)) rfl rfl (fun wx H => x_move rfl rfl) ?_
      refine q_val (v := .bool (!decide (((decS s).2.2.2 : Int) = (decS s).2.2.2))) (wt1 rfl rfl rfl rfl (nf rfl)) rfl rfl (fun wx H => x_bin rfl rfl rfl b_neq) ?_
      refine q_val (v := .bool (!decide (((decS s).2.2.2 : Int) = (decS s).2.2.2))) (wt0 rfl) rfl rfl (fun wx H => x_pick_f rfl rfl (nf rfl) rfl) ?_
      refine q_val (v := .bool (!decide (((decS s).2.2.2 : Int) = (decS s).2.2.2))) (wt0 rfl) rfl rfl (fun wx H => x_move rfl rfl) ?_
      refine q_val (v := .agg m.cells) (wt1 rfl rfl rfl rfl (nf rfl)) rfl rfl (fun wx H => x_loadA H 2 rfl rfl Try.underlying33 rfl sz33 rfl rfl rfl) ?_
      refine q_call (wt1 rfl rfl rfl rfl (nf rfl)) rfl rfl (fun wx H => x_call' rfl rfl cl22) (fun wx H => (valid_p _ _).mono (by rintro _ _ ⟨rfl, h⟩; exact ⟨rfl, H.absorb (new := []) (S.of_below h)⟩)) ?_
      refine q_val (v := .agg m.cells) (wt1 rfl rfl rfl rfl (nf rfl)) rfl rfl (fun wx H => x_loadA H 2 rfl rfl Try.underlying33 rfl sz33 rfl rfl rfl) ?_
      refine q_call (wt1 rfl rfl rfl rfl (nf rfl)) rfl rfl (fun wx H => x_call' rfl rfl cl23) (fun wx H => (valid_r _ _).mono (by rintro _ _ ⟨rfl, h⟩; exact ⟨rfl, H.absorb (new := []) (S.of_below h)⟩)) ?_
      refine q_val (v := .bool (!((validP m) == (validP m)))) (wt1 rfl rfl rfl rfl (nf rfl)) rfl rfl (fun wx H => x_bin rfl rfl rfl (b_neN Try.underlying4 rfl)) ?_
      refine q_val (v := .bool (!((validP m) == (validP m)))) (wt0 rfl) rfl rfl (fun wx H => x_pick_f rfl rfl (nf rfl) rfl) ?_
      refine q_nil (fun wq65 H66 => ?_)
      refine g_then ?_
      refine g_weak [(1, .string s), (2, .pointer (some ⟨g1, 0, none⟩)), (5, .string ((encT m).1)), (6, .int .i64 ((encT m).2)), (93, .bool (!((validP m) == (validP m))))] ⟨rfl, rfl, rfl, rfl, rfl, trivial⟩ ?_
      refine g_cond_f rfl (neg_of (beq_self_eq_true (validP m))) ?_
      refine g_skip ?_
      refine g_then ?_
      refine g_seq ?_
      refine g_seq ?_
      refine g_region ?_
      refine l_of (s_val (v := .int .i64 ((encT m).2)) (wt0 rfl) rfl rfl (x_move rfl rfl) ?_)
      refine l_of (s_val (v := .bool (decide (((encT m).2 : Int) = 0))) (wt0 rfl) rfl rfl (x_bin rfl rfl rfl b_eql) ?_)
      refine l_of (s_val (v := .bool (decide (((encT m).2 : Int) = 0))) (wt0 rfl) rfl rfl (x_move rfl rfl) ?_)
      by_cases hb67 : ((encT m).2 : Int) = 0
      · skip
        refine l_of (s_val (v := .string s) (wt1 rfl rfl rfl rfl (decide_eq_true hb67)) rfl rfl (x_move rfl rfl) ?_)
        refine l_of (s_val (v := .int .i64 ((s.size : Int))) (wt1 rfl rfl rfl rfl (decide_eq_true hb67)) rfl rfl (x_lens rfl rfl Try.underlying9) ?_)
        refine l_of (s_val (v := .bool (decide (((s.size : Int) : Int) ≤ 5000))) (wt1 rfl rfl rfl rfl (decide_eq_true hb67)) rfl rfl (x_bin rfl rfl rfl b_leq) ?_)
        refine l_of (s_val (v := .bool (decide (((s.size : Int) : Int) ≤ 5000))) (wt0 rfl) rfl rfl (x_pick_t rfl rfl (decide_eq_true hb67) rfl) ?_)
        refine g_nil ?_
        refine g_then ?_
        by_cases hb68 : ((s.size : Int) : Int) ≤ 5000
        · skip
          refine g_cond_t rfl (decide_eq_true hb68) ?_
          refine g_seq ?_
          refine g_region ?_
          refine l_of (s_val (v := .string ((encT m).1)) (wt0 rfl) rfl rfl (x_move rfl rfl) ?_)
          refine l_of (s_val (v := .string s) (wt0 rfl) rfl rfl (x_move rfl rfl) ?_)
          have hbk := back m s (by omega) (by omega)
          have hsz69 : (((encT m).1) ++ s).size = ((encT m).1).size + s.size := ByteArray.size_append
          refine l_of (s_val (v := .string (((encT m).1) ++ s)) (wt0 rfl) rfl rfl (x_bin rfl rfl rfl (b_cat (by omega))) ?_)
          refine l_of (s_call (wt0 rfl) (x_call' rfl rfl cl20) (decode_p _ _) ?_)
          rintro _ wq70 ⟨rfl, H71⟩
          replace H71 : S wq70 [Ob g60 (.cells (decS s).1.cells 33 (0, 0)), Ob g53 (.cells (decS s).1.cells 33 (0, 0)), Ob g1 (.cells m.cells 33 (0, 0)), Old w no] := H66.absorb (new := []) H71
          rw [hbk.1]
          refine b_ret rfl rfl ?_
          refine l_of (s_val (v := .tuple #[.agg m.cells, .int .i64 (((encT m).1.size : Int)), .int .i64 (-1), .int .i64 0]) (wt0 rfl) rfl rfl (x_move rfl rfl) ?_)
          refine l_of (s_val (v := .agg m.cells) (wt0 rfl) rfl rfl (x_extract rfl rfl rfl) ?_)
          refine l_of (s_val (v := .int .i64 (((encT m).1.size : Int))) (wt0 rfl) rfl rfl (x_extract rfl rfl rfl) ?_)
          refine l_of (s_val (v := .int .i64 (-1)) (wt0 rfl) rfl rfl (x_extract rfl rfl rfl) ?_)
          refine l_of (s_val (v := .int .i64 0) (wt0 rfl) rfl rfl (x_extract rfl rfl rfl) ?_)
          refine l_of (s_alloc H71 (wt0 rfl) rfl rfl rfl ze33 ?_)
          intro g72 wq73 (H74 : S wq73 [Ob g72 (.cells #[.int .i64 0, .int .i64 0, .int .i64 0, .int .i64 0, .int .i64 0, .int .i64 0, .string (⟨#[]⟩), .string (⟨#[]⟩)] 33 (0, 0)), Ob g60 (.cells (decS s).1.cells 33 (0, 0)), Ob g53 (.cells (decS s).1.cells 33 (0, 0)), Ob g1 (.cells m.cells 33 (0, 0)), Old w no])
          refine l_of (s_store H74 0 (wt0 rfl) rfl rfl rfl rfl rfl sz33 rfl rfl (cs' := m.cells) rfl ?_)
          intro wq75 (H76 : S wq75 [Ob g72 (.cells m.cells 33 (0, 0)), Ob g60 (.cells (decS s).1.cells 33 (0, 0)), Ob g53 (.cells (decS s).1.cells 33 (0, 0)), Ob g1 (.cells m.cells 33 (0, 0)), Old w no])
          refine l_of (s_val (v := .int .i64 (((encT m).1.size : Int))) (wt0 rfl) rfl rfl (x_assign rfl rfl) ?_)
          refine l_of (s_val (v := .int .i64 (-1)) (wt0 rfl) rfl rfl (x_assign rfl rfl) ?_)
          refine l_of (s_val (v := .int .i64 0) (wt0 rfl) rfl rfl (x_assign rfl rfl) ?_)
          refine g_nil ?_
          refine g_then ?_
          refine g_weak [(2, .pointer (some ⟨g1, 0, none⟩)), (5, .string ((encT m).1)), (17, .pointer (some ⟨g72, 0, none⟩)), (18, .int .i64 (((encT m).1.size : Int))), (20, .int .i64 0)] ⟨rfl, rfl, rfl, rfl, rfl, trivial⟩ ?_
          refine g_seq ?_
          refine g_region ?_
          refine l_of (s_val (v := .agg m.cells) (wt0 rfl) rfl rfl (x_loadA H76 0 rfl rfl Try.underlying33 rfl sz33 rfl rfl rfl) ?_)
          refine l_of (s_val (v := .agg m.cells) (wt0 rfl) rfl rfl (x_loadA H76 3 rfl rfl Try.underlying33 rfl sz33 rfl rfl rfl) ?_)
          refine l_of (s_val (v := .bool (!decide (m = m))) (wt0 rfl) rfl rfl (x_bin rfl rfl rfl (b_msgN m m)) ?_)
          refine l_of (s_val (v := .bool (!decide (m = m))) (wt0 rfl) rfl rfl (x_move rfl rfl) ?_)
          refine l_of (s_val (v := .int .i64 (((encT m).1.size : Int))) (wt1 rfl rfl rfl rfl (nf rfl)) rfl rfl (x_move rfl rfl) ?_)
          refine l_of (s_val (v := .string ((encT m).1)) (wt1 rfl rfl rfl rfl (nf rfl)) rfl rfl (x_move rfl rfl) ?_)
          refine l_of (s_val (v := .int .i64 ((((encT m).1).size : Int))) (wt1 rfl rfl rfl rfl (nf rfl)) rfl rfl (x_lens rfl rfl Try.underlying9) ?_)
          refine l_of (s_val (v := .bool (!decide ((((encT m).1.size : Int) : Int) = (((encT m).1).size : Int)))) (wt1 rfl rfl rfl rfl (nf rfl)) rfl rfl (x_bin rfl rfl rfl b_neq) ?_)
          refine l_of (s_val (v := .bool (!decide ((((encT m).1.size : Int) : Int) = (((encT m).1).size : Int)))) (wt0 rfl) rfl rfl (x_pick_f rfl rfl (nf rfl) rfl) ?_)
          refine l_of (s_val (v := .bool (!decide ((((encT m).1.size : Int) : Int) = (((encT m).1).size : Int)))) (wt0 rfl) rfl rfl (x_move rfl rfl) ?_)
          refine l_of (s_val (v := .int .i64 0) (wt1 rfl rfl rfl rfl (nf rfl)) rfl rfl (x_move rfl rfl) ?_)
          refine l_of (s_val (v := .bool (!decide ((0 : Int) = 0))) (wt1 rfl rfl rfl rfl (nf rfl)) rfl rfl (x_bin rfl rfl rfl b_neq) ?_)
          refine l_of (s_val (v := .bool (!decide ((0 : Int) = 0))) (wt0 rfl) rfl rfl (x_pick_f rfl rfl (nf rfl) rfl) ?_)
          refine l_of (s_val (v := .bool (!decide ((0 : Int) = 0))) (wt0 rfl) rfl rfl (x_move rfl rfl) ?_)
          refine l_of (s_val (v := .string ((encT m).1)) (wt1 rfl rfl rfl rfl (nf rfl)) rfl rfl (x_move rfl rfl) ?_)
          refine l_of (s_val (v := .int .i64 ((((encT m).1).size : Int))) (wt1 rfl rfl rfl rfl (nf rfl)) rfl rfl (x_lens rfl rfl Try.underlying9) ?_)
          refine l_of (s_val (v := .bool (decide ((4204 : Int) < (((encT m).1).size : Int)))) (wt1 rfl rfl rfl rfl (nf rfl)) rfl rfl (x_bin rfl rfl rfl b_gtr) ?_)
          refine l_of (s_val (v := .bool (decide ((4204 : Int) < (((encT m).1).size : Int)))) (wt0 rfl) rfl rfl (x_pick_f rfl rfl (nf rfl) rfl) ?_)
          refine g_nil ?_
          refine g_then ?_
          refine g_weak [(127, .bool (decide ((4204 : Int) < (((encT m).1).size : Int))))] ⟨rfl, trivial⟩ ?_
          refine g_cond_f rfl (decide_eq_false (by omega)) ?_
          refine g_skip ?_
          refine g_then ?_
          refine g_seq ?_
          refine g_region ?_
          refine l_of (s_call (wt0 rfl) (x_call' rfl rfl cl10) (awake_p _) ?_)
          rintro _ wq77 ⟨rfl, H78⟩
          replace H78 : S wq77 [Ob g72 (.cells m.cells 33 (0, 0)), Ob g60 (.cells (decS s).1.cells 33 (0, 0)), Ob g53 (.cells (decS s).1.cells 33 (0, 0)), Ob g1 (.cells m.cells 33 (0, 0)), Old w no] := H76.absorb (new := []) (S.of_below H78)
          refine b_ret rfl rfl ?_
          refine l_of (s_val (v := .bool true) (wt0 rfl) rfl rfl (x_assign rfl rfl) ?_)
          refine g_nil ?_
          refine g_then ?_
          refine g_ret ?_
          refine fin_ret [.tmp 4] [.bool true] rfl ⟨rfl, trivial⟩ ?_
          exact ⟨rfl, (H78.mask [false, false, false, false, true]).below (new := [])⟩
        · skip
          refine g_cond_f rfl (decide_eq_false hb68) ?_
          refine g_skip ?_
          refine g_then ?_
          refine g_weak [] trivial ?_
          refine g_seq ?_
          refine g_region ?_
          refine l_of (s_call (wt0 rfl) (x_call' rfl rfl cl10) (awake_p _) ?_)
          rintro _ wq79 ⟨rfl, H80⟩
          replace H80 : S wq79 [Ob g60 (.cells (decS s).1.cells 33 (0, 0)), Ob g53 (.cells (decS s).1.cells 33 (0, 0)), Ob g1 (.cells m.cells 33 (0, 0)), Old w no] := H66.absorb (new := []) (S.of_below H80)
          refine b_ret rfl rfl ?_
          refine l_of (s_val (v := .bool true) (wt0 rfl) rfl rfl (x_assign rfl rfl) ?_)
          refine g_nil ?_
          refine g_then ?_
          refine g_ret ?_
          refine fin_ret [.tmp 4] [.bool true] rfl ⟨rfl, trivial⟩ ?_
          exact ⟨rfl, (H80.mask [false, false, false, true]).below (new := [])⟩
      · skip
        refine l_of (s_not (wn1 rfl rfl rfl rfl (decide_eq_false hb67)) rfl rfl ?_)
        refine l_of (s_not (wn1 rfl rfl rfl rfl (decide_eq_false hb67)) rfl rfl ?_)
        refine l_of (s_not (wn1 rfl rfl rfl rfl (decide_eq_false hb67)) rfl rfl ?_)
        refine l_of (s_val (v := .bool false) (wt0 rfl) rfl rfl (x_pick_f rfl rfl (decide_eq_false hb67) rfl) ?_)
        refine g_nil ?_
        refine g_then ?_
        refine g_cond_f rfl rfl ?_
        refine g_skip ?_
        refine g_then ?_
        refine g_weak [] trivial ?_
        refine g_seq ?_
        refine g_region ?_
        refine l_of (s_call (wt0 rfl) (x_call' rfl rfl cl10) (awake_p _) ?_)
        rintro _ wq81 ⟨rfl, H82⟩
        replace H82 : S wq81 [Ob g60 (.cells (decS s).1.cells 33 (0, 0)), Ob g53 (.cells (decS s).1.cells 33 (0, 0)), Ob g1 (.cells m.cells 33 (0, 0)), Old w no] := H66.absorb (new := []) (S.of_below H82)
        refine b_ret rfl rfl ?_
        refine l_of (s_val (v := .bool true) (wt0 rfl) rfl rfl (x_assign rfl rfl) ?_)
        refine g_nil ?_
        refine g_then ?_
        refine g_ret ?_
        refine fin_ret [.tmp 4] [.bool true] rfl ⟨rfl, trivial⟩ ?_
        exact ⟨rfl, (H82.mask [false, false, false, true]).below (new := [])⟩
  · skip
    refine l_of (s_not (wn1 rfl rfl rfl rfl (neg_of hb6)) rfl rfl ?_)
    refine l_of (s_not (wn1 rfl rfl rfl rfl (neg_of hb6)) rfl rfl ?_)
    refine l_of (s_not (wn1 rfl rfl rfl rfl (neg_of hb6)) rfl rfl ?_)
    refine l_of (s_not (wn1 rfl rfl rfl rfl (neg_of hb6)) rfl rfl ?_)
    refine l_of (s_not (wn2 rfl rfl rfl rfl) rfl rfl ?_)
    refine l_of (s_not (wn2 rfl rfl rfl rfl) rfl rfl ?_)
    refine l_of (s_not (wn2 rfl rfl rfl rfl) rfl rfl ?_)
    refine l_of (s_not (wn1 rfl rfl rfl rfl (neg_of hb6)) rfl rfl ?_)
    refine l_of (s_val (v := .bool true) (wt0 rfl) rfl rfl (x_pick_t rfl rfl (neg_of hb6) rfl) ?_)
    refine g_nil ?_
    refine g_then ?_
    refine g_weak [(1, .string s), (2, .pointer (some ⟨g1, 0, none⟩)), (33, .bool true)] ⟨rfl, rfl, rfl, trivial⟩ ?_
    refine g_cond_t rfl rfl ?_
    refine g_seq ?_
    refine g_region ?_
    refine l_of (s_call (wt0 rfl) (x_call' rfl rfl cl10) (awake_p _) ?_)
    rintro _ wq83 ⟨rfl, H84⟩
    replace H84 : S wq83 [Ob g1 (.cells m.cells 33 (0, 0)), Old w no] := H5.absorb (new := []) (S.of_below H84)
    refine b_ret rfl rfl ?_
    refine l_of (s_val (v := .bool true) (wt0 rfl) rfl rfl (x_assign rfl rfl) ?_)
    refine g_nil ?_
    refine g_then ?_
    refine g_ret ?_
    refine g_then_ret ?_
    refine fin_ret [.tmp 4] [.bool true] rfl ⟨rfl, trivial⟩ ?_
    exact ⟨rfl, (H84.mask [false, true]).below (new := [])⟩
end Go.Proofs.Ytcjmdkklbbollaa
