import Derived.Test.YtcjmdkklbbollaaAM
set_option linter.unusedSimpArgs false
set_option linter.unusedVariables false
namespace Go.Proofs.Ytcjmdkklbbollaa
open Go.RowKit

set_option maxRecDepth 20000 in
set_option maxHeartbeats 4000000 in
theorem first_walk (s : ByteArray)  (w : World) : Calls Try.prog 5 #[.string s] w fun e w' => e = .returned (.bool true) ∧ Sub w w' := by
  have H0 := S.old w
  refine enter 73 Try.func5 rfl rfl rfl ?_
  refine g_weak [(0, .string s)] ⟨rfl, trivial⟩ ?_
  refine g_seq ?_
  refine g_region ?_
  refine l_of (s_val (v := .bool false) (wt0 rfl) rfl rfl (x_assign rfl rfl) ?_)
  refine g_nil ?_
  refine g_then ?_
  refine g_seq ?_
  refine g_seq ?_
  refine g_region ?_
  refine l_of (s_val (v := .string s) (wt0 rfl) rfl rfl (x_move rfl rfl) ?_)
  refine l_of (s_val (v := .int .i64 ((s.size : Int))) (wt0 rfl) rfl rfl (x_lens rfl rfl Try.underlying9) ?_)
  refine l_of (s_val (v := .bool (decide ((600 : Int) < (s.size : Int)))) (wt0 rfl) rfl rfl (x_bin rfl rfl rfl b_gtr) ?_)
  refine g_nil ?_
  refine g_then ?_
  by_cases hb1 : (600 : Int) < (s.size : Int)
  · skip
    refine g_cond_t rfl (decide_eq_true hb1) ?_
    refine g_seq ?_
    refine g_region ?_
    refine l_of (s_call (wt0 rfl) (x_call' rfl rfl cl10) (awake_p _) ?_)
    rintro _ wq2 ⟨rfl, H3⟩
    replace H3 : S wq2 [Old w no] := H0.absorb (new := []) (S.of_below H3)
    refine b_ret rfl rfl ?_
    refine l_of (s_val (v := .bool true) (wt0 rfl) rfl rfl (x_assign rfl rfl) ?_)
    refine g_nil ?_
    refine g_then ?_
    refine g_ret ?_
    refine g_then_ret ?_
    refine fin_ret [.tmp 2] [.bool true] rfl ⟨rfl, trivial⟩ ?_
    exact ⟨rfl, (H3.mask [true]).below (new := [])⟩
  · skip
    obtain ⟨hse, ⟨hs0, hs1⟩, hsp⟩ := stop_law s (by omega)
    refine g_cond_f rfl (decide_eq_false hb1) ?_
    refine g_skip ?_
    refine g_then ?_
    refine g_seq ?_
    refine g_region ?_
    refine l_of (s_val (v := .string s) (wt0 rfl) rfl rfl (x_move rfl rfl) ?_)
    refine l_of (s_call (wt0 rfl) (x_call' rfl rfl cl20) (decode_p _ _) ?_)
    rintro _ wq4 ⟨rfl, H5⟩
    replace H5 : S wq4 [Old w no] := H0.absorb (new := []) H5
    refine b_ret rfl rfl ?_
    refine l_of (s_val (v := .tuple #[.agg (decS s).1.cells, .int .i64 ((decS s).2.1), .int .i64 ((decS s).2.2.1), .int .i64 ((decS s).2.2.2)]) (wt0 rfl) rfl rfl (x_move rfl rfl) ?_)
    refine l_of (s_val (v := .agg (decS s).1.cells) (wt0 rfl) rfl rfl (x_extract rfl rfl rfl) ?_)
    refine l_of (s_val (v := .int .i64 ((decS s).2.1)) (wt0 rfl) rfl rfl (x_extract rfl rfl rfl) ?_)
    refine l_of (s_val (v := .int .i64 ((decS s).2.2.1)) (wt0 rfl) rfl rfl (x_extract rfl rfl rfl) ?_)
    refine l_of (s_val (v := .int .i64 ((decS s).2.2.2)) (wt0 rfl) rfl rfl (x_extract rfl rfl rfl) ?_)
    refine l_of (s_alloc H5 (wt0 rfl) rfl rfl rfl ze33 ?_)
    intro g6 wq7 (H8 : S wq7 [Ob g6 (.cells #[.int .i64 0, .int .i64 0, .int .i64 0, .int .i64 0, .int .i64 0, .int .i64 0, .string (⟨#[]⟩), .string (⟨#[]⟩)] 33 (0, 0)), Old w no])
    refine l_of (s_store H8 0 (wt0 rfl) rfl rfl rfl rfl rfl sz33 rfl rfl (cs' := (decS s).1.cells) rfl ?_)
    intro wq9 (H10 : S wq9 [Ob g6 (.cells (decS s).1.cells 33 (0, 0)), Old w no])
    refine l_of (s_val (v := .int .i64 ((decS s).2.1)) (wt0 rfl) rfl rfl (x_assign rfl rfl) ?_)
    refine l_of (s_val (v := .int .i64 ((decS s).2.2.1)) (wt0 rfl) rfl rfl (x_assign rfl rfl) ?_)
    refine l_of (s_val (v := .int .i64 ((decS s).2.2.2)) (wt0 rfl) rfl rfl (x_assign rfl rfl) ?_)
    refine g_nil ?_
    refine g_then ?_
    refine g_weak [(0, .string s), (4, .int .i64 ((decS s).2.1)), (5, .int .i64 ((decS s).2.2.1)), (6, .int .i64 ((decS s).2.2.2))] ⟨rfl, rfl, rfl, rfl, trivial⟩ ?_
    refine g_seq ?_
    refine g_region ?_
    refine l_of (s_val (v := .int .i64 ((decS s).2.1)) (wt0 rfl) rfl rfl (x_move rfl rfl) ?_)
    refine l_of (s_val (v := .int .i64 ((decS s).2.1)) (wt0 rfl) rfl rfl (x_assign rfl rfl) ?_)
    refine g_nil ?_
    refine g_then ?_
    refine g_seq ?_
    refine g_seq ?_
    refine g_region ?_
    refine l_of (s_val (v := .int .i64 ((decS s).2.2.2)) (wt0 rfl) rfl rfl (x_move rfl rfl) ?_)
    refine l_of (s_val (v := .bool (decide (((decS s).2.2.2 : Int) = 12))) (wt0 rfl) rfl rfl (x_bin rfl rfl rfl b_eql) ?_)
    refine g_nil ?_
    refine g_then ?_
    by_cases hb11 : ((decS s).2.2.2 : Int) = 12
    · skip
      have hst : stopS s = (decS s).2.2.1 := by unfold stopS; rw [if_pos hb11]
      refine g_cond_t rfl (decide_eq_true hb11) ?_
      refine g_region ?_
      refine l_of (s_val (v := .int .i64 ((decS s).2.2.1)) (wt0 rfl) rfl rfl (x_move rfl rfl) ?_)
      refine l_of (s_val (v := .int .i64 ((decS s).2.2.1)) (wt0 rfl) rfl rfl (x_assign rfl rfl) ?_)
      refine g_nil ?_
      refine g_then ?_
      refine g_seq ?_
      refine g_seq ?_
      refine g_region ?_
      refine l_of (s_val (v := .int .i64 ((decS s).2.2.1)) (wt0 rfl) rfl rfl (x_move rfl rfl) ?_)
      refine l_of (s_val (v := .bool (decide (((decS s).2.2.1 : Int) < 0))) (wt0 rfl) rfl rfl (x_bin rfl rfl rfl b_lss) ?_)
      refine l_of (s_val (v := .bool (decide (((decS s).2.2.1 : Int) < 0))) (wt0 rfl) rfl rfl (x_move rfl rfl) ?_)
      refine l_of (s_val (v := .int .i64 ((decS s).2.2.1)) (wt1 rfl rfl rfl rfl (decide_eq_false (by omega))) rfl rfl (x_move rfl rfl) ?_)
      refine l_of (s_val (v := .string s) (wt1 rfl rfl rfl rfl (decide_eq_false (by omega))) rfl rfl (x_move rfl rfl) ?_)
      refine l_of (s_val (v := .int .i64 ((s.size : Int))) (wt1 rfl rfl rfl rfl (decide_eq_false (by omega))) rfl rfl (x_lens rfl rfl Try.underlying9) ?_)
      refine l_of (s_val (v := .bool (decide (((s.size : Int) : Int) < (decS s).2.2.1))) (wt1 rfl rfl rfl rfl (decide_eq_false (by omega))) rfl rfl (x_bin rfl rfl rfl b_gtr) ?_)
      refine l_of (s_val (v := .bool (decide (((s.size : Int) : Int) < (decS s).2.2.1))) (wt0 rfl) rfl rfl (x_pick_f rfl rfl (decide_eq_false (by omega)) rfl) ?_)
      refine g_nil ?_
      refine g_then ?_
      refine g_weak [(0, .string s), (6, .int .i64 ((decS s).2.2.2)), (7, .int .i64 ((decS s).2.2.1)), (35, .bool (decide (((s.size : Int) : Int) < (decS s).2.2.1)))] ⟨rfl, rfl, rfl, rfl, trivial⟩ ?_
      refine g_cond_f rfl (decide_eq_false (by omega)) ?_
      refine g_skip ?_
      refine g_then ?_
      refine g_seq ?_
      refine g_seq ?_
      refine g_region ?_
      refine l_of (s_val (v := .int .i64 ((decS s).2.2.2)) (wt0 rfl) rfl rfl (x_move rfl rfl) ?_)
      refine l_of (s_val (v := .bool (!decide (((decS s).2.2.2 : Int) = 0))) (wt0 rfl) rfl rfl (x_bin rfl rfl rfl b_neq) ?_)
      refine l_of (s_val (v := .bool (!decide (((decS s).2.2.2 : Int) = 0))) (wt0 rfl) rfl rfl (x_move rfl rfl) ?_)
      by_cases hb12 : ((decS s).2.2.2 : Int) = 0
      · skip
        refine l_of (s_not (wn1 rfl rfl rfl rfl (nf hb12)) rfl rfl ?_)
        refine l_of (s_not (wn1 rfl rfl rfl rfl (nf hb12)) rfl rfl ?_)
        refine l_of (s_val (v := .bool false) (wt0 rfl) rfl rfl (x_pick_f rfl rfl (nf hb12) rfl) ?_)
        refine g_nil ?_
        refine g_then ?_
        refine g_cond_f rfl rfl ?_
        refine g_skip ?_
        refine g_then ?_
        refine g_seq ?_
        refine g_seq ?_
        refine g_region ?_
        refine l_of (s_val (v := .int .i64 ((decS s).2.2.1)) (wt0 rfl) rfl rfl (x_move rfl rfl) ?_)
        refine l_of (s_val (v := .int .i64 0) (wt0 rfl) rfl rfl (x_move rfl rfl) ?_)
        refine g_nil ?_
        refine g_then ?_
        refine g_block ?_
        refine g_loop (ι := Nat) (fun i => [(0, .string s), (47, .int .i64 ((decS s).2.2.1)), (48, .int .i64 ((i : Int)))]) (fun i wx => ((i : Int) ≤ stopS s) ∧ S wx [Ob g6 (.cells (decS s).1.cells 33 (0, 0)), Old w no]) (fun i => (stopS s).toNat - i) (0) ⟨rfl, rfl, rfl, trivial⟩ ⟨by show (0 : Int) ≤ _; omega, H10⟩ ?_
        rintro i wq13 ⟨hi, H14⟩
        replace H14 : S wq13 [Ob g6 (.cells (decS s).1.cells 33 (0, 0)), Old w no] := H14
        refine g_weak [(0, .string s), (47, .int .i64 ((decS s).2.2.1)), (48, .int .i64 ((i : Int)))] ⟨rfl, rfl, rfl, trivial⟩ ?_
        refine g_seq ?_
        refine g_region ?_
        refine l_of (s_val (v := .bool (decide (((i : Int) : Int) < (decS s).2.2.1))) (wt0 rfl) rfl rfl (x_bin rfl rfl rfl b_lss) ?_)
        refine g_nil ?_
        refine g_then ?_
        refine g_seq ?_
        by_cases hb15 : ((i : Int) : Int) < (decS s).2.2.1
        · skip
          refine g_cond_t rfl (decide_eq_true hb15) ?_
          refine g_skip ?_
          refine g_then ?_
          refine g_seq ?_
          refine g_block ?_
          refine g_seq ?_
          refine g_region ?_
          refine l_of (s_val (v := .int .i64 ((i : Int))) (wt0 rfl) rfl rfl (x_move rfl rfl) ?_)
          refine l_of (s_val (v := .int .i64 ((i : Int))) (wt0 rfl) rfl rfl (x_assign rfl rfl) ?_)
          refine g_nil ?_
          refine g_then ?_
          refine g_seq ?_
          refine g_region ?_
          refine l_of (s_val (v := .string s) (wt0 rfl) rfl rfl (x_move rfl rfl) ?_)
          refine l_of (s_val (v := .int .i64 ((i : Int))) (wt0 rfl) rfl rfl (x_move rfl rfl) ?_)
          have hsz16 : (s.extract 0 i).size = i - 0 := by rw [ByteArray.size_extract]; omega
          refine l_of (s_val (v := .string (s.extract 0 i)) (wt0 rfl) rfl rfl (x_slices 0 i rfl rfl Try.underlying9 (.inl ⟨rfl, rfl⟩) (.inr ⟨_, _, _, rfl, rfl, by omega⟩) (by omega)) ?_)
          refine l_of (s_call (wt0 rfl) (x_call' rfl rfl cl20) (decode_p _ _) ?_)
          rintro _ wq17 ⟨rfl, H18⟩
          replace H18 : S wq17 [Ob g6 (.cells (decS s).1.cells 33 (0, 0)), Old w no] := H14.absorb (new := []) H18
          rw [hsp i (by omega)]
          refine b_ret rfl rfl ?_
          refine l_of (s_val (v := .tuple #[.agg Zm.cells, .int .i64 0, .int .i64 ((i : Int)), .int .i64 8]) (wt0 rfl) rfl rfl (x_move rfl rfl) ?_)
          refine l_of (s_val (v := .agg Zm.cells) (wt0 rfl) rfl rfl (x_extract rfl rfl rfl) ?_)
          refine l_of (s_val (v := .int .i64 0) (wt0 rfl) rfl rfl (x_extract rfl rfl rfl) ?_)
          refine l_of (s_val (v := .int .i64 ((i : Int))) (wt0 rfl) rfl rfl (x_extract rfl rfl rfl) ?_)
          refine l_of (s_val (v := .int .i64 8) (wt0 rfl) rfl rfl (x_extract rfl rfl rfl) ?_)
          refine l_of (s_alloc H18 (wt0 rfl) rfl rfl rfl ze33 ?_)
          intro g19 wq20 (H21 : S wq20 [Ob g19 (.cells #[.int .i64 0, .int .i64 0, .int .i64 0, .int .i64 0, .int .i64 0, .int .i64 0, .string (⟨#[]⟩), .string (⟨#[]⟩)] 33 (0, 0)), Ob g6 (.cells (decS s).1.cells 33 (0, 0)), Old w no])
          refine l_of (s_store H21 0 (wt0 rfl) rfl rfl rfl rfl rfl sz33 rfl rfl (cs' := Zm.cells) rfl ?_)
          intro wq22 (H23 : S wq22 [Ob g19 (.cells Zm.cells 33 (0, 0)), Ob g6 (.cells (decS s).1.cells 33 (0, 0)), Old w no])
          refine l_of (s_val (v := .int .i64 0) (wt0 rfl) rfl rfl (x_assign rfl rfl) ?_)
          refine l_of (s_val (v := .int .i64 ((i : Int))) (wt0 rfl) rfl rfl (x_assign rfl rfl) ?_)
          refine l_of (s_val (v := .int .i64 8) (wt0 rfl) rfl rfl (x_assign rfl rfl) ?_)
          refine g_nil ?_
          refine g_then ?_
          refine g_weak [(0, .string s), (8, .int .i64 ((i : Int))), (10, .int .i64 0), (11, .int .i64 ((i : Int))), (12, .int .i64 8), (47, .int .i64 ((decS s).2.2.1)), (48, .int .i64 ((i : Int)))] ⟨rfl, rfl, rfl, rfl, rfl, rfl, rfl, trivial⟩ ?_
          refine g_seq ?_
          refine g_region ?_
          refine l_of (s_val (v := .int .i64 0) (wt0 rfl) rfl rfl (x_move rfl rfl) ?_)
          refine l_of (s_val (v := .bool (!decide ((0 : Int) = 0))) (wt0 rfl) rfl rfl (x_bin rfl rfl rfl b_neq) ?_)
          refine l_of (s_val (v := .bool (!decide ((0 : Int) = 0))) (wt0 rfl) rfl rfl (x_move rfl rfl) ?_)
          refine l_of (s_val (v := .int .i64 ((i : Int))) (wt1 rfl rfl rfl rfl (nf rfl)) rfl rfl (x_move rfl rfl) ?_)
          refine l_of (s_val (v := .int .i64 ((i : Int))) (wt1 rfl rfl rfl rfl (nf rfl)) rfl rfl (x_move rfl rfl) ?_)
          refine l_of (s_val (v := .bool (!decide (((i : Int) : Int) = (i : Int)))) (wt1 rfl rfl rfl rfl (nf rfl)) rfl rfl (x_bin rfl rfl rfl b_neq) ?_)
          refine l_of (s_val (v := .bool (!decide (((i : Int) : Int) = (i : Int)))) (wt0 rfl) rfl rfl (x_pick_f rfl rfl (nf rfl) rfl) ?_)
          refine l_of (s_val (v := .bool (!decide (((i : Int) : Int) = (i : Int)))) (wt0 rfl) rfl rfl (x_move rfl rfl) ?_)
          refine l_of (s_val (v := .int .i64 8) (wt1 rfl rfl rfl rfl (nf rfl)) rfl rfl (x_move rfl rfl) ?_)
          refine l_of (s_val (v := .bool (!decide ((8 : Int) = 8))) (wt1 rfl rfl rfl rfl (nf rfl)) rfl rfl (x_bin rfl rfl rfl b_neq) ?_)
          refine l_of (s_val (v := .bool (!decide ((8 : Int) = 8))) (wt0 rfl) rfl rfl (x_pick_f rfl rfl (nf rfl) rfl) ?_)
          refine g_nil ?_
          refine g_then ?_
          refine g_weak [(0, .string s), (47, .int .i64 ((decS s).2.2.1)), (48, .int .i64 ((i : Int))), (70, .bool (!decide ((8 : Int) = 8)))] ⟨rfl, rfl, rfl, rfl, trivial⟩ ?_
          refine g_cond_f rfl (nf rfl) ?_
          refine g_skip ?_
          refine g_in ?_
          refine g_then ?_
          refine g_region ?_
          refine l_of (s_val (v := .int .i64 ((i : Int) + 1)) (wt0 rfl) rfl rfl (x_bin rfl rfl rfl (b_add (w64 (by omega)))) ?_)
          refine l_of (s_val (v := .int .i64 ((i : Int) + 1)) (wt0 rfl) rfl rfl (x_move rfl rfl) ?_)
          refine g_nil ?_
          refine g_then ?_
          refine g_round (i := (i)) (i + 1) ?_ ?_ ?_
          · exact ⟨rfl, rfl, rfl, trivial⟩
          · exact ⟨by omega, (H23.mask [false, true, true])⟩
          · (try dsimp only); omega
        · skip
          refine g_cond_f rfl (decide_eq_false hb15) ?_
          refine g_exit ?_
          refine g_then_exit ?_
          refine g_then_exit ?_
          refine g_in_hit ?_
          refine g_then ?_
          refine g_seq ?_
          refine g_region ?_
          refine l_of (s_call (wt0 rfl) (x_call' rfl rfl cl10) (awake_p _) ?_)
          rintro _ wq24 ⟨rfl, H25⟩
          replace H25 : S wq24 [Ob g6 (.cells (decS s).1.cells 33 (0, 0)), Old w no] := H14.absorb (new := []) (S.of_below H25)
          refine b_ret rfl rfl ?_
          refine l_of (s_val (v := .bool true) (wt0 rfl) rfl rfl (x_assign rfl rfl) ?_)
          refine g_nil ?_
          refine g_then ?_
          refine g_ret ?_
          refine fin_ret [.tmp 2] [.bool true] rfl ⟨rfl, trivial⟩ ?_
          exact ⟨rfl, (H25.mask [false, true]).below (new := [])⟩
      · skip
        refine l_of (s_val (v := .int .i64 ((decS s).2.2.2)) (wt1 rfl rfl rfl rfl (nt hb12)) rfl rfl (x_move rfl rfl) ?_)
        refine l_of (s_val (v := .bool (!decide (((decS s).2.2.2 : Int) = 12))) (wt1 rfl rfl rfl rfl (nt hb12)) rfl rfl (x_bin rfl rfl rfl b_neq) ?_)
        refine l_of (s_val (v := .bool (!decide (((decS s).2.2.2 : Int) = 12))) (wt0 rfl) rfl rfl (x_pick_t rfl rfl (nt hb12) rfl) ?_)
        refine g_nil ?_
        refine g_then ?_
        refine g_cond_f rfl (nf hb11) ?_
        refine g_skip ?_
        refine g_then ?_
        refine g_seq ?_
        refine g_seq ?_
        refine g_region ?_
        refine l_of (s_val (v := .int .i64 ((decS s).2.2.1)) (wt0 rfl) rfl rfl (x_move rfl rfl) ?_)
        refine l_of (s_val (v := .int .i64 0) (wt0 rfl) rfl rfl (x_move rfl rfl) ?_)
        refine g_nil ?_
        refine g_then ?_
        refine g_block ?_
        refine g_loop (ι := Nat) (fun i => [(0, .string s), (47, .int .i64 ((decS s).2.2.1)), (48, .int .i64 ((i : Int)))]) (fun i wx => ((i : Int) ≤ stopS s) ∧ S wx [Ob g6 (.cells (decS s).1.cells 33 (0, 0)), Old w no]) (fun i => (stopS s).toNat - i) (0) ⟨rfl, rfl, rfl, trivial⟩ ⟨by show (0 : Int) ≤ _; omega, H10⟩ ?_
        rintro i wq26 ⟨hi, H27⟩
        replace H27 : S wq26 [Ob g6 (.cells (decS s).1.cells 33 (0, 0)), Old w no] := H27
        refine g_weak [(0, .string s), (47, .int .i64 ((decS s).2.2.1)), (48, .int .i64 ((i : Int)))] ⟨rfl, rfl, rfl, trivial⟩ ?_
        refine g_seq ?_
        refine g_region ?_
        refine l_of (s_val (v := .bool (decide (((i : Int) : Int) < (decS s).2.2.1))) (wt0 rfl) rfl rfl (x_bin rfl rfl rfl b_lss) ?_)
        refine g_nil ?_
        refine g_then ?_
        refine g_seq ?_
        by_cases hb28 : ((i : Int) : Int) < (decS s).2.2.1
        · skip
          refine g_cond_t rfl (decide_eq_true hb28) ?_
          refine g_skip ?_
          refine g_then ?_
          refine g_seq ?_
          refine g_block ?_
          refine g_seq ?_
          refine g_region ?_
          refine l_of (s_val (v := .int .i64 ((i : Int))) (wt0 rfl) rfl rfl (x_move rfl rfl) ?_)
          refine l_of (s_val (v := .int .i64 ((i : Int))) (wt0 rfl) rfl rfl (x_assign rfl rfl) ?_)
          refine g_nil ?_
          refine g_then ?_
          refine g_seq ?_
          refine g_region ?_
          refine l_of (s_val (v := .string s) (wt0 rfl) rfl rfl (x_move rfl rfl) ?_)
          refine l_of (s_val (v := .int .i64 ((i : Int))) (wt0 rfl) rfl rfl (x_move rfl rfl) ?_)
          have hsz29 : (s.extract 0 i).size = i - 0 := by rw [ByteArray.size_extract]; omega
          refine l_of (s_val (v := .string (s.extract 0 i)) (wt0 rfl) rfl rfl (x_slices 0 i rfl rfl Try.underlying9 (.inl ⟨rfl, rfl⟩) (.inr ⟨_, _, _, rfl, rfl, by omega⟩) (by omega)) ?_)
          refine l_of (s_call (wt0 rfl) (x_call' rfl rfl cl20) (decode_p _ _) ?_)
          rintro _ wq30 ⟨rfl, H31⟩
          replace H31 : S wq30 [Ob g6 (.cells (decS s).1.cells 33 (0, 0)), Old w no] := H27.absorb (new := []) H31
          rw [hsp i (by omega)]
          refine b_ret rfl rfl ?_
          refine l_of (s_val (v := .tuple #[.agg Zm.cells, .int .i64 0, .int .i64 ((i : Int)), .int .i64 8]) (wt0 rfl) rfl rfl (x_move rfl rfl) ?_)
          refine l_of (s_val (v := .agg Zm.cells) (wt0 rfl) rfl rfl (x_extract rfl rfl rfl) ?_)
          refine l_of (s_val (v := .int .i64 0) (wt0 rfl) rfl rfl (x_extract rfl rfl rfl) ?_)
          refine l_of (s_val (v := .int .i64 ((i : Int))) (wt0 rfl) rfl rfl (x_extract rfl rfl rfl) ?_)
          refine l_of (s_val (v := .int .i64 8) (wt0 rfl) rfl rfl (x_extract rfl rfl rfl) ?_)
          refine l_of (s_alloc H31 (wt0 rfl) rfl rfl rfl ze33 ?_)
          intro g32 wq33 (H34 : S wq33 [Ob g32 (.cells #[.int .i64 0, .int .i64 0, .int .i64 0, .int .i64 0, .int .i64 0, .int .i64 0, .string (⟨#[]⟩), .string (⟨#[]⟩)] 33 (0, 0)), Ob g6 (.cells (decS s).1.cells 33 (0, 0)), Old w no])
          refine l_of (s_store H34 0 (wt0 rfl) rfl rfl rfl rfl rfl sz33 rfl rfl (cs' := Zm.cells) rfl ?_)
          intro wq35 (H36 : S wq35 [Ob g32 (.cells Zm.cells 33 (0, 0)), Ob g6 (.cells (decS s).1.cells 33 (0, 0)), Old w no])
          refine l_of (s_val (v := .int .i64 0) (wt0 rfl) rfl rfl (x_assign rfl rfl) ?_)
          refine l_of (s_val (v := .int .i64 ((i : Int))) (wt0 rfl) rfl rfl (x_assign rfl rfl) ?_)
          refine l_of (s_val (v := .int .i64 8) (wt0 rfl) rfl rfl (x_assign rfl rfl) ?_)
          refine g_nil ?_
          refine g_then ?_
          refine g_weak [(0, .string s), (8, .int .i64 ((i : Int))), (10, .int .i64 0), (11, .int .i64 ((i : Int))), (12, .int .i64 8), (47, .int .i64 ((decS s).2.2.1)), (48, .int .i64 ((i : Int)))] ⟨rfl, rfl, rfl, rfl, rfl, rfl, rfl, trivial⟩ ?_
          refine g_seq ?_
          refine g_region ?_
          refine l_of (s_val (v := .int .i64 0) (wt0 rfl) rfl rfl (x_move rfl rfl) ?_)
          refine l_of (s_val (v := .bool (!decide ((0 : Int) = 0))) (wt0 rfl) rfl rfl (x_bin rfl rfl rfl b_neq) ?_)
          refine l_of (s_val (v := .bool (!decide ((0 : Int) = 0))) (wt0 rfl) rfl rfl (x_move rfl rfl) ?_)
          refine l_of (s_val (v := .int .i64 ((i : Int))) (wt1 rfl rfl rfl rfl (nf rfl)) rfl rfl (x_move rfl rfl) ?_)
          refine l_of (s_val (v := .int .i64 ((i : Int))) (wt1 rfl rfl rfl rfl (nf rfl)) rfl rfl (x_move rfl rfl) ?_)
          refine l_of (s_val (v := .bool (!decide (((i : Int) : Int) = (i : Int)))) (wt1 rfl rfl rfl rfl (nf rfl)) rfl rfl (x_bin rfl rfl rfl b_neq) ?_)
          refine l_of (s_val (v := .bool (!decide (((i : Int) : Int) = (i : Int)))) (wt0 rfl) rfl rfl (x_pick_f rfl rfl (nf rfl) rfl) ?_)
          refine l_of (s_val (v := .bool (!decide (((i : Int) : Int) = (i : Int)))) (wt0 rfl) rfl rfl (x_move rfl rfl) ?_)
          refine l_of (s_val (v := .int .i64 8) (wt1 rfl rfl rfl rfl (nf rfl)) rfl rfl (x_move rfl rfl) ?_)
          refine l_of (s_val (v := .bool (!decide ((8 : Int) = 8))) (wt1 rfl rfl rfl rfl (nf rfl)) rfl rfl (x_bin rfl rfl rfl b_neq) ?_)
          refine l_of (s_val (v := .bool (!decide ((8 : Int) = 8))) (wt0 rfl) rfl rfl (x_pick_f rfl rfl (nf rfl) rfl) ?_)
          refine g_nil ?_
          refine g_then ?_
          refine g_weak [(0, .string s), (47, .int .i64 ((decS s).2.2.1)), (48, .int .i64 ((i : Int))), (70, .bool (!decide ((8 : Int) = 8)))] ⟨rfl, rfl, rfl, rfl, trivial⟩ ?_
          refine g_cond_f rfl (nf rfl) ?_
          refine g_skip ?_
          refine g_in ?_
          refine g_then ?_
          refine g_region ?_
          refine l_of (s_val (v := .int .i64 ((i : Int) + 1)) (wt0 rfl) rfl rfl (x_bin rfl rfl rfl (b_add (w64 (by omega)))) ?_)
          refine l_of (s_val (v := .int .i64 ((i : Int) + 1)) (wt0 rfl) rfl rfl (x_move rfl rfl) ?_)
          refine g_nil ?_
          refine g_then ?_
          refine g_round (i := (i)) (i + 1) ?_ ?_ ?_
          · exact ⟨rfl, rfl, rfl, trivial⟩
          · exact ⟨by omega, (H36.mask [false, true, true])⟩
          · (try dsimp only); omega
        · skip
          refine g_cond_f rfl (decide_eq_false hb28) ?_
          refine g_exit ?_
          refine g_then_exit ?_
          refine g_then_exit ?_
          refine g_in_hit ?_
          refine g_then ?_
          refine g_seq ?_
          refine g_region ?_
          refine l_of (s_call (wt0 rfl) (x_call' rfl rfl cl10) (awake_p _) ?_)
          rintro _ wq37 ⟨rfl, H38⟩
          replace H38 : S wq37 [Ob g6 (.cells (decS s).1.cells 33 (0, 0)), Old w no] := H27.absorb (new := []) (S.of_below H38)
          refine b_ret rfl rfl ?_
          refine l_of (s_val (v := .bool true) (wt0 rfl) rfl rfl (x_assign rfl rfl) ?_)
          refine g_nil ?_
          refine g_then ?_
          refine g_ret ?_
          refine fin_ret [.tmp 2] [.bool true] rfl ⟨rfl, trivial⟩ ?_
          exact ⟨rfl, (H38.mask [false, true]).below (new := [])⟩
    · skip
      have hst : stopS s = (decS s).2.1 := by unfold stopS; rw [if_neg hb11]
      refine g_cond_f rfl (decide_eq_false hb11) ?_
      refine g_skip ?_
      refine g_then ?_
      refine g_seq ?_
      refine g_seq ?_
      refine g_region ?_
      refine l_of (s_val (v := .int .i64 ((decS s).2.1)) (wt0 rfl) rfl rfl (x_move rfl rfl) ?_)
      refine l_of (s_val (v := .bool (decide (((decS s).2.1 : Int) < 0))) (wt0 rfl) rfl rfl (x_bin rfl rfl rfl b_lss) ?_)
      refine l_of (s_val (v := .bool (decide (((decS s).2.1 : Int) < 0))) (wt0 rfl) rfl rfl (x_move rfl rfl) ?_)
      refine l_of (s_val (v := .int .i64 ((decS s).2.1)) (wt1 rfl rfl rfl rfl (decide_eq_false (by omega))) rfl rfl (x_move rfl rfl) ?_)
      refine l_of (s_val (v := .string s) (wt1 rfl rfl rfl rfl (decide_eq_false (by omega))) rfl rfl (x_move rfl rfl) ?_)
      refine l_of (s_val (v := .int .i64 ((s.size : Int))) (wt1 rfl rfl rfl rfl (decide_eq_false (by omega))) rfl rfl (x_lens rfl rfl Try.underlying9) ?_)
      refine l_of (s_val (v := .bool (decide (((s.size : Int) : Int) < (decS s).2.1))) (wt1 rfl rfl rfl rfl (decide_eq_false (by omega))) rfl rfl (x_bin rfl rfl rfl b_gtr) ?_)
      refine l_of (s_val (v := .bool (decide (((s.size : Int) : Int) < (decS s).2.1))) (wt0 rfl) rfl rfl (x_pick_f rfl rfl (decide_eq_false (by omega)) rfl) ?_)
      refine g_nil ?_
      refine g_then ?_
      refine g_weak [(0, .string s), (6, .int .i64 ((decS s).2.2.2)), (7, .int .i64 ((decS s).2.1)), (35, .bool (decide (((s.size : Int) : Int) < (decS s).2.1)))] ⟨rfl, rfl, rfl, rfl, trivial⟩ ?_
      refine g_cond_f rfl (decide_eq_false (by omega)) ?_
      refine g_skip ?_
      refine g_then ?_
      refine g_seq ?_
      refine g_seq ?_
      refine g_region ?_
      refine l_of (s_val (v := .int .i64 ((decS s).2.2.2)) (wt0 rfl) rfl rfl (x_move rfl rfl) ?_)
      refine l_of (s_val (v := .bool (!decide (((decS s).2.2.2 : Int) = 0))) (wt0 rfl) rfl rfl (x_bin rfl rfl rfl b_neq) ?_)
      refine l_of (s_val (v := .bool (!decide (((decS s).2.2.2 : Int) = 0))) (wt0 rfl) rfl rfl (x_move rfl rfl) ?_)
      by_cases hb39 : ((decS s).2.2.2 : Int) = 0
      · skip
        refine l_of (s_not (wn1 rfl rfl rfl rfl (nf hb39)) rfl rfl ?_)
        refine l_of (s_not (wn1 rfl rfl rfl rfl (nf hb39)) rfl rfl ?_)
        refine l_of (s_val (v := .bool false) (wt0 rfl) rfl rfl (x_pick_f rfl rfl (nf hb39) rfl) ?_)
        refine g_nil ?_
        refine g_then ?_
        refine g_cond_f rfl rfl ?_
        refine g_skip ?_
        refine g_then ?_
        refine g_seq ?_
        refine g_seq ?_
        refine g_region ?_
        refine l_of (s_val (v := .int .i64 ((decS s).2.1)) (wt0 rfl) rfl rfl (x_move rfl rfl) ?_)
        refine l_of (s_val (v := .int .i64 0) (wt0 rfl) rfl rfl (x_move rfl rfl) ?_)
        refine g_nil ?_
        refine g_then ?_
        refine g_block ?_
        refine g_loop (ι := Nat) (fun i => [(0, .string s), (47, .int .i64 ((decS s).2.1)), (48, .int .i64 ((i : Int)))]) (fun i wx => ((i : Int) ≤ stopS s) ∧ S wx [Ob g6 (.cells (decS s).1.cells 33 (0, 0)), Old w no]) (fun i => (stopS s).toNat - i) (0) ⟨rfl, rfl, rfl, trivial⟩ ⟨by show (0 : Int) ≤ _; omega, H10⟩ ?_
        rintro i wq40 ⟨hi, H41⟩
        replace H41 : S wq40 [Ob g6 (.cells (decS s).1.cells 33 (0, 0)), Old w no] := H41
        refine g_weak [(0, .string s), (47, .int .i64 ((decS s).2.1)), (48, .int .i64 ((i : Int)))] ⟨rfl, rfl, rfl, trivial⟩ ?_
        refine g_seq ?_
        refine g_region ?_
        refine l_of (s_val (v := .bool (decide (((i : Int) : Int) < (decS s).2.1))) (wt0 rfl) rfl rfl (x_bin rfl rfl rfl b_lss) ?_)
        refine g_nil ?_
        refine g_then ?_
        refine g_seq ?_
        by_cases hb42 : ((i : Int) : Int) < (decS s).2.1
        · skip
          refine g_cond_t rfl (decide_eq_true hb42) ?_
          refine g_skip ?_
          refine g_then ?_
          refine g_seq ?_
          refine g_block ?_
          refine g_seq ?_
          refine g_region ?_
          refine l_of (s_val (v := .int .i64 ((i : Int))) (wt0 rfl) rfl rfl (x_move rfl rfl) ?_)
          refine l_of (s_val (v := .int .i64 ((i : Int))) (wt0 rfl) rfl rfl (x_assign rfl rfl) ?_)
          refine g_nil ?_
          refine g_then ?_
          refine g_seq ?_
          refine g_region ?_
          refine l_of (s_val (v := .string s) (wt0 rfl) rfl rfl (x_move rfl rfl) ?_)
          refine l_of (s_val (v := .int .i64 ((i : Int))) (wt0 rfl) rfl rfl (x_move rfl rfl) ?_)
          have hsz43 : (s.extract 0 i).size = i - 0 := by rw [ByteArray.size_extract]; omega
          refine l_of (s_val (v := .string (s.extract 0 i)) (wt0 rfl) rfl rfl (x_slices 0 i rfl rfl Try.underlying9 (.inl ⟨rfl, rfl⟩) (.inr ⟨_, _, _, rfl, rfl, by omega⟩) (by omega)) ?_)
          refine l_of (s_call (wt0 rfl) (x_call' rfl rfl cl20) (decode_p _ _) ?_)
          rintro _ wq44 ⟨rfl, H45⟩
          replace H45 : S wq44 [Ob g6 (.cells (decS s).1.cells 33 (0, 0)), Old w no] := H41.absorb (new := []) H45
          rw [hsp i (by omega)]
          refine b_ret rfl rfl ?_
          refine l_of (s_val (v := .tuple #[.agg Zm.cells, .int .i64 0, .int .i64 ((i : Int)), .int .i64 8]) (wt0 rfl) rfl rfl (x_move rfl rfl) ?_)
          refine l_of (s_val (v := .agg Zm.cells) (wt0 rfl) rfl rfl (x_extract rfl rfl rfl) ?_)
          refine l_of (s_val (v := .int .i64 0) (wt0 rfl) rfl rfl (x_extract rfl rfl rfl) ?_)
          refine l_of (s_val (v := .int .i64 ((i : Int))) (wt0 rfl) rfl rfl (x_extract rfl rfl rfl) ?_)
          refine l_of (s_val (v := .int .i64 8) (wt0 rfl) rfl rfl (x_extract rfl rfl rfl) ?_)
          refine l_of (s_alloc H45 (wt0 rfl) rfl rfl rfl ze33 ?_)
          intro g46 wq47 (H48 : S wq47 [Ob g46 (.cells #[.int .i64 0, .int .i64 0, .int .i64 0, .int .i64 0, .int .i64 0, .int .i64 0, .string (⟨#[]⟩), .string (⟨#[]⟩)] 33 (0, 0)), Ob g6 (.cells (decS s).1.cells 33 (0, 0)), Old w no])
          refine l_of (s_store H48 0 (wt0 rfl) rfl rfl rfl rfl rfl sz33 rfl rfl (cs' := Zm.cells) rfl ?_)
          intro wq49 (H50 : S wq49 [Ob g46 (.cells Zm.cells 33 (0, 0)), Ob g6 (.cells (decS s).1.cells 33 (0, 0)), Old w no])
          refine l_of (s_val (v := .int .i64 0) (wt0 rfl) rfl rfl (x_assign rfl rfl) ?_)
          refine l_of (s_val (v := .int .i64 ((i : Int))) (wt0 rfl) rfl rfl (x_assign rfl rfl) ?_)
          refine l_of (s_val (v := .int .i64 8) (wt0 rfl) rfl rfl (x_assign rfl rfl) ?_)
          refine g_nil ?_
          refine g_then ?_
          refine g_weak [(0, .string s), (8, .int .i64 ((i : Int))), (10, .int .i64 0), (11, .int .i64 ((i : Int))), (12, .int .i64 8), (47, .int .i64 ((decS s).2.1)), (48, .int .i64 ((i : Int)))] ⟨rfl, rfl, rfl, rfl, rfl, rfl, rfl, trivial⟩ ?_
          refine g_seq ?_
          refine g_region ?_
          refine l_of (s_val (v := .int .i64 0) (wt0 rfl) rfl rfl (x_move rfl rfl) ?_)
          refine l_of (s_val (v := .bool (!decide ((0 : Int) = 0))) (wt0 rfl) rfl rfl (x_bin rfl rfl rfl b_neq) ?_)
          refine l_of (s_val (v := .bool (!decide ((0 : Int) = 0))) (wt0 rfl) rfl rfl (x_move rfl rfl) ?_)
          refine l_of (s_val (v := .int .i64 ((i : Int))) (wt1 rfl rfl rfl rfl (nf rfl)) rfl rfl (x_move rfl rfl) ?_)
          refine l_of (s_val (v := .int .i64 ((i : Int))) (wt1 rfl rfl rfl rfl (nf rfl)) rfl rfl (x_move rfl rfl) ?_)
          refine l_of (s_val (v := .bool (!decide (((i : Int) : Int) = (i : Int)))) (wt1 rfl rfl rfl rfl (nf rfl)) rfl rfl (x_bin rfl rfl rfl b_neq) ?_)
          refine l_of (s_val (v := .bool (!decide (((i : Int) : Int) = (i : Int)))) (wt0 rfl) rfl rfl (x_pick_f rfl rfl (nf rfl) rfl) ?_)
          refine l_of (s_val (v := .bool (!decide (((i : Int) : Int) = (i : Int)))) (wt0 rfl) rfl rfl (x_move rfl rfl) ?_)
          refine l_of (s_val (v := .int .i64 8) (wt1 rfl rfl rfl rfl (nf rfl)) rfl rfl (x_move rfl rfl) ?_)
          refine l_of (s_val (v := .bool (!decide ((8 : Int) = 8))) (wt1 rfl rfl rfl rfl (nf rfl)) rfl rfl (x_bin rfl rfl rfl b_neq) ?_)
          refine l_of (s_val (v := .bool (!decide ((8 : Int) = 8))) (wt0 rfl) rfl rfl (x_pick_f rfl rfl (nf rfl) rfl) ?_)
          refine g_nil ?_
          refine g_then ?_
          refine g_weak [(0, .string s), (47, .int .i64 ((decS s).2.1)), (48, .int .i64 ((i : Int))), (70, .bool (!decide ((8 : Int) = 8)))] ⟨rfl, rfl, rfl, rfl, trivial⟩ ?_
          refine g_cond_f rfl (nf rfl) ?_
          refine g_skip ?_
          refine g_in ?_
          refine g_then ?_
          refine g_region ?_
          refine l_of (s_val (v := .int .i64 ((i : Int) + 1)) (wt0 rfl) rfl rfl (x_bin rfl rfl rfl (b_add (w64 (by omega)))) ?_)
          refine l_of (s_val (v := .int .i64 ((i : Int) + 1)) (wt0 rfl) rfl rfl (x_move rfl rfl) ?_)
          refine g_nil ?_
          refine g_then ?_
          refine g_round (i := (i)) (i + 1) ?_ ?_ ?_
          · exact ⟨rfl, rfl, rfl, trivial⟩
          · exact ⟨by omega, (H50.mask [false, true, true])⟩
          · (try dsimp only); omega
        · skip
          refine g_cond_f rfl (decide_eq_false hb42) ?_
          refine g_exit ?_
          refine g_then_exit ?_
          refine g_then_exit ?_
          refine g_in_hit ?_
          refine g_then ?_
          refine g_seq ?_
          refine g_region ?_
          refine l_of (s_call (wt0 rfl) (x_call' rfl rfl cl10) (awake_p _) ?_)
          rintro _ wq51 ⟨rfl, H52⟩
          replace H52 : S wq51 [Ob g6 (.cells (decS s).1.cells 33 (0, 0)), Old w no] := H41.absorb (new := []) (S.of_below H52)
          refine b_ret rfl rfl ?_
          refine l_of (s_val (v := .bool true) (wt0 rfl) rfl rfl (x_assign rfl rfl) ?_)
          refine g_nil ?_
          refine g_then ?_
          refine g_ret ?_
          refine fin_ret [.tmp 2] [.bool true] rfl ⟨rfl, trivial⟩ ?_
          exact ⟨rfl, (H52.mask [false, true]).below (new := [])⟩
      · skip
        refine l_of (s_val (v := .int .i64 ((decS s).2.2.2)) (wt1 rfl rfl rfl rfl (nt hb39)) rfl rfl (x_move rfl rfl) ?_)
        refine l_of (s_val (v := .bool (!decide (((decS s).2.2.2 : Int) = 12))) (wt1 rfl rfl rfl rfl (nt hb39)) rfl rfl (x_bin rfl rfl rfl b_neq) ?_)
        refine l_of (s_val (v := .bool (!decide (((decS s).2.2.2 : Int) = 12))) (wt0 rfl) rfl rfl (x_pick_t rfl rfl (nt hb39) rfl) ?_)
        refine g_nil ?_
        refine g_then ?_
        refine g_cond_t rfl (nt hb11) ?_
        refine g_seq ?_
        refine g_region ?_
        refine l_of (s_val (v := .int .i64 ((decS s).2.2.2)) (wt0 rfl) rfl rfl (x_move rfl rfl) ?_)
        refine l_of (s_val (v := .bool (decide (((decS s).2.2.2 : Int) = 8))) (wt0 rfl) rfl rfl (x_bin rfl rfl rfl b_eql) ?_)
        refine l_of (s_val (v := .bool (decide (((decS s).2.2.2 : Int) = 8))) (wt0 rfl) rfl rfl (x_move rfl rfl) ?_)
        refine l_of (s_call (wt1 rfl rfl rfl rfl (decide_eq_true (by omega))) (x_call' rfl rfl cl10) (awake_p _) ?_)
        rintro _ wq53 ⟨rfl, H54⟩
        replace H54 : S wq53 [Ob g6 (.cells (decS s).1.cells 33 (0, 0)), Old w no] := H10.absorb (new := []) (S.of_below H54)
        refine b_ret rfl rfl ?_
        refine l_of (s_val (v := .bool true) (wt0 rfl) rfl rfl (x_pick_t rfl rfl (decide_eq_true (by omega)) rfl) ?_)
        refine l_of (s_val (v := .bool true) (wt0 rfl) rfl rfl (x_assign rfl rfl) ?_)
        refine g_nil ?_
        refine g_then ?_
        refine g_weak [(2, .bool true)] ⟨rfl, trivial⟩ ?_
        refine g_ret ?_
        refine g_then_ret ?_
        refine fin_ret [.tmp 2] [.bool true] rfl ⟨rfl, trivial⟩ ?_
        exact ⟨rfl, (H54.mask [false, true]).below (new := [])⟩
end Go.Proofs.Ytcjmdkklbbollaa
