import Derived.Test.YtcjmdkklbbollaaAG
set_option linter.unusedSimpArgs false
set_option linter.unusedVariables false
namespace Go.Proofs.Ytcjmdkklbbollaa
open Go.RowKit

theorem cl46 : callable Try.prog 46 = true := by kernel_rfl
theorem cl50 : callable Try.prog 50 = true := by kernel_rfl
theorem cl51 : callable Try.prog 51 = true := by kernel_rfl
theorem cl52 : callable Try.prog 52 = true := by kernel_rfl
theorem cl53 : callable Try.prog 53 = true := by kernel_rfl
theorem cl54 : callable Try.prog 54 = true := by kernel_rfl
theorem cl55 : callable Try.prog 55 = true := by kernel_rfl
theorem cl56 : callable Try.prog 56 = true := by kernel_rfl
theorem fo73_1 : foO Try.prog 73 1 = some 1 := by kernel_rfl
theorem fo79_0 : foO Try.prog 79 0 = some 0 := by kernel_rfl
theorem fo79_1 : foO Try.prog 79 1 = some 1 := by kernel_rfl
theorem fo79_2 : foO Try.prog 79 2 = some 2 := by kernel_rfl
theorem sz73 : szO Try.prog 73 = some 2 := by kernel_rfl
theorem sz79 : szO Try.prog 79 = some 6 := by kernel_rfl
theorem sz93 : szO Try.prog 93 = some 4 := by kernel_rfl
theorem ze25 : zeO Try.prog 25 = some (.int .i64 0) := by kernel_rfl
theorem ze3 : zeO Try.prog 3 = some (.int .i64 0) := by kernel_rfl
theorem ze73 : zeO Try.prog 73 = some (.agg #[.int .i64 0, .slice none 0 0]) := by kernel_rfl
theorem ze79 : zeO Try.prog 79 = some (.agg #[.int .i64 0, .nilFunc, .nilFunc, .int .i64 0, .int .i64 0, .int .i64 0]) := by kernel_rfl
theorem ze93 : zeO Try.prog 93 = some (.agg #[.int .u8 0, .int .u8 0, .int .u8 0, .int .u8 0]) := by kernel_rfl
set_option maxRecDepth 20000 in
set_option maxHeartbeats 4000000 in
theorem decode_w (s : ByteArray)  (w : World) : Calls Try.prog 20 #[.string s] w fun e w' => e = .returned (.tuple #[.agg (decW s).1.cells, .int .i64 (decW s).2.1, .int .i64 (decW s).2.2.1, .int .i64 (decW s).2.2.2]) ∧ S w' [Old w no] := by
  have H0 := S.old w
  refine enter_d 144 Try.func20 rfl rfl rfl ?_
  refine g_weak [(0, .string s)] ⟨rfl, trivial⟩ ?_
  refine g_seq ?_
  refine g_region ?_
  refine l_of (s_box H0 (wt0 rfl) rfl rfl rfl rfl ?_)
  intro g1 w2 (H3 : S w2 [Ob g1 (.cells #[.string s] 9 (0, 0)), Old w no])
  refine l_of (s_alloc H3 (wt0 rfl) rfl rfl rfl ze33 ?_)
  intro g4 w5 (H6 : S w5 [Ob g4 (.cells #[.int .i64 0, .int .i64 0, .int .i64 0, .int .i64 0, .int .i64 0, .int .i64 0, .string (⟨#[]⟩), .string (⟨#[]⟩)] 33 (0, 0)), Ob g1 (.cells #[.string s] 9 (0, 0)), Old w no])
  refine l_of (s_alloc H6 (wt0 rfl) rfl rfl rfl ze3 ?_)
  intro g7 w8 (H9 : S w8 [Ob g7 (.cells #[.int .i64 0] 3 (0, 0)), Ob g4 (.cells #[.int .i64 0, .int .i64 0, .int .i64 0, .int .i64 0, .int .i64 0, .int .i64 0, .string (⟨#[]⟩), .string (⟨#[]⟩)] 33 (0, 0)), Ob g1 (.cells #[.string s] 9 (0, 0)), Old w no])
  refine l_of (s_alloc H9 (wt0 rfl) rfl rfl rfl ze3 ?_)
  intro g10 w11 (H12 : S w11 [Ob g10 (.cells #[.int .i64 0] 3 (0, 0)), Ob g7 (.cells #[.int .i64 0] 3 (0, 0)), Ob g4 (.cells #[.int .i64 0, .int .i64 0, .int .i64 0, .int .i64 0, .int .i64 0, .int .i64 0, .string (⟨#[]⟩), .string (⟨#[]⟩)] 33 (0, 0)), Ob g1 (.cells #[.string s] 9 (0, 0)), Old w no])
  refine l_of (s_alloc H12 (wt0 rfl) rfl rfl rfl ze25 ?_)
  intro g13 w14 (H15 : S w14 [Ob g13 (.cells #[.int .i64 0] 25 (0, 0)), Ob g10 (.cells #[.int .i64 0] 3 (0, 0)), Ob g7 (.cells #[.int .i64 0] 3 (0, 0)), Ob g4 (.cells #[.int .i64 0, .int .i64 0, .int .i64 0, .int .i64 0, .int .i64 0, .int .i64 0, .string (⟨#[]⟩), .string (⟨#[]⟩)] 33 (0, 0)), Ob g1 (.cells #[.string s] 9 (0, 0)), Old w no])
  refine g_nil ?_
  refine g_then ?_
  refine g_seq ?_
  refine g_seq ?_
  refine g_region ?_
  refine l_of (s_val (v := .string s) (wt0 rfl) rfl rfl (x_load1 H15 4 rfl rfl Try.underlying9 rfl rfl rfl) ?_)
  refine l_of (s_val (v := .int .i64 ((s.size : Int))) (wt0 rfl) rfl rfl (x_lens rfl rfl Try.underlying9) ?_)
  refine l_of (s_val (v := .bool (decide ((65536 : Int) < (s.size : Int)))) (wt0 rfl) rfl rfl (x_bin rfl rfl rfl b_gtr) ?_)
  refine g_nil ?_
  refine g_then ?_
  by_cases hb16 : (65536 : Int) < (s.size : Int)
  · skip
    refine g_cond_t rfl (decide_eq_true hb16) ?_
    refine g_seq ?_
    refine g_region ?_
    refine l_of (s_val (v := .agg #[.int .i64 0, .int .i64 0, .int .i64 0, .int .i64 0, .int .i64 0, .int .i64 0, .string (⟨#[]⟩), .string (⟨#[]⟩)]) (wt0 rfl) rfl rfl (x_build (vs := []) rfl rfl (cells := #[.int .i64 0, .int .i64 0, .int .i64 0, .int .i64 0, .int .i64 0, .int .i64 0, .string (⟨#[]⟩), .string (⟨#[]⟩)]) (by kernel_rfl)) ?_)
    refine l_of (s_store H15 3 (wt0 rfl) rfl rfl rfl rfl rfl sz33 rfl rfl (cs' := #[.int .i64 0, .int .i64 0, .int .i64 0, .int .i64 0, .int .i64 0, .int .i64 0, .string (⟨#[]⟩), .string (⟨#[]⟩)]) rfl ?_)
    intro w17 (H18 : S w17 [Ob g13 (.cells #[.int .i64 0] 25 (0, 0)), Ob g10 (.cells #[.int .i64 0] 3 (0, 0)), Ob g7 (.cells #[.int .i64 0] 3 (0, 0)), Ob g4 (.cells #[.int .i64 0, .int .i64 0, .int .i64 0, .int .i64 0, .int .i64 0, .int .i64 0, .string (⟨#[]⟩), .string (⟨#[]⟩)] 33 (0, 0)), Ob g1 (.cells #[.string s] 9 (0, 0)), Old w no])
    refine l_of (s_store H18 2 (wt0 rfl) rfl rfl rfl rfl rfl sz3 rfl rfl (cs' := #[.int .i64 0]) rfl ?_)
    intro w19 (H20 : S w19 [Ob g13 (.cells #[.int .i64 0] 25 (0, 0)), Ob g10 (.cells #[.int .i64 0] 3 (0, 0)), Ob g7 (.cells #[.int .i64 0] 3 (0, 0)), Ob g4 (.cells #[.int .i64 0, .int .i64 0, .int .i64 0, .int .i64 0, .int .i64 0, .int .i64 0, .string (⟨#[]⟩), .string (⟨#[]⟩)] 33 (0, 0)), Ob g1 (.cells #[.string s] 9 (0, 0)), Old w no])
    refine l_of (s_store H20 1 (wt0 rfl) rfl rfl rfl rfl rfl sz3 rfl rfl (cs' := #[.int .i64 0]) rfl ?_)
    intro w21 (H22 : S w21 [Ob g13 (.cells #[.int .i64 0] 25 (0, 0)), Ob g10 (.cells #[.int .i64 0] 3 (0, 0)), Ob g7 (.cells #[.int .i64 0] 3 (0, 0)), Ob g4 (.cells #[.int .i64 0, .int .i64 0, .int .i64 0, .int .i64 0, .int .i64 0, .int .i64 0, .string (⟨#[]⟩), .string (⟨#[]⟩)] 33 (0, 0)), Ob g1 (.cells #[.string s] 9 (0, 0)), Old w no])
    refine l_of (s_store H22 0 (wt0 rfl) rfl rfl rfl rfl rfl sz25 rfl rfl (cs' := #[.int .i64 3]) rfl ?_)
    intro w23 (H24 : S w23 [Ob g13 (.cells #[.int .i64 3] 25 (0, 0)), Ob g10 (.cells #[.int .i64 0] 3 (0, 0)), Ob g7 (.cells #[.int .i64 0] 3 (0, 0)), Ob g4 (.cells #[.int .i64 0, .int .i64 0, .int .i64 0, .int .i64 0, .int .i64 0, .int .i64 0, .string (⟨#[]⟩), .string (⟨#[]⟩)] 33 (0, 0)), Ob g1 (.cells #[.string s] 9 (0, 0)), Old w no])
    refine g_nil ?_
    refine g_then ?_
    refine g_ret ?_
    refine g_then_ret ?_
    refine fin_dret ?_
    refine gl_ret [.cell 2 33, .cell 3 3, .cell 4 3, .cell 5 25] [.agg #[.int .i64 0, .int .i64 0, .int .i64 0, .int .i64 0, .int .i64 0, .int .i64 0, .string (⟨#[]⟩), .string (⟨#[]⟩)], .int .i64 0, .int .i64 0, .int .i64 3] rfl ⟨⟨_, rfl, run_loadA (H24.ob (k := 3) rfl) Try.underlying33 rfl sz33 rfl rfl⟩, ⟨_, rfl, run_load1 Try.underlying3 rfl (H24.cell (k := 2) rfl rfl)⟩, ⟨_, rfl, run_load1 Try.underlying3 rfl (H24.cell (k := 1) rfl rfl)⟩, ⟨_, rfl, run_load1 Try.underlying25 rfl (H24.cell (k := 0) rfl rfl)⟩, trivial⟩ ?_
    exact ⟨by simp only [decW, outG, Zm, tupled, M.cells, M.only, if_pos hb16, if_true, Bool.false_eq_true, if_false], H24.mask [false, false, false, false, false, true]⟩
  · skip
    refine g_cond_f rfl (decide_eq_false hb16) ?_
    refine g_skip ?_
    refine g_then ?_
    refine g_seq ?_
    refine g_region ?_
    refine l_of (s_val (v := .func (.func 50) #[] #[.pointer (some ⟨g13, 0, none⟩), .pointer (some ⟨g4, 0, none⟩), .pointer (some ⟨g7, 0, none⟩)]) (wt0 rfl) rfl rfl (x_makeFunc rfl rfl rfl) ?_)
    refine l_of (s_defer (wt0 rfl) rfl (xd_defer rfl rfl rfl) ?_)
    refine g_nil ?_
    refine g_then ?_
    refine g_seq ?_
    refine g_region ?_
    refine l_of (s_defer (wt0 rfl) rfl (xd_defer rfl rfl rfl) ?_)
    refine g_nil ?_
    refine g_then ?_
    refine g_seq ?_
    refine g_region ?_
    refine l_of (s_val (v := .func (.func 52) #[] #[.pointer (some ⟨g1, 0, none⟩)]) (wt0 rfl) rfl rfl (x_makeFunc rfl rfl rfl) ?_)
    refine l_of (s_val (v := .func (.func 52) #[] #[.pointer (some ⟨g1, 0, none⟩)]) (wt0 rfl) rfl rfl (x_assign rfl rfl) ?_)
    refine g_nil ?_
    refine g_then ?_
    refine g_seq ?_
    refine g_region ?_
    refine l_of (s_val (v := .func (.func 53) #[] #[]) (wt0 rfl) rfl rfl (x_assign rfl rfl) ?_)
    refine g_nil ?_
    refine g_then ?_
    refine g_seq ?_
    refine g_region ?_
    refine l_of (s_val (v := .agg #[.int .u8 0, .int .u8 0, .int .u8 16, .int .u8 255]) (wt0 rfl) rfl rfl (x_build (vs := [.int .u8 0, .int .u8 0, .int .u8 16, .int .u8 255]) rfl rfl (cells := #[.int .u8 0, .int .u8 0, .int .u8 16, .int .u8 255]) (by kernel_rfl)) ?_)
    refine l_of (s_alloc H15 (wt0 rfl) rfl rfl rfl ze93 ?_)
    intro g25 w26 (H27 : S w26 [Ob g25 (.cells #[.int .u8 0, .int .u8 0, .int .u8 0, .int .u8 0] 93 (0, 0)), Ob g13 (.cells #[.int .i64 0] 25 (0, 0)), Ob g10 (.cells #[.int .i64 0] 3 (0, 0)), Ob g7 (.cells #[.int .i64 0] 3 (0, 0)), Ob g4 (.cells #[.int .i64 0, .int .i64 0, .int .i64 0, .int .i64 0, .int .i64 0, .int .i64 0, .string (⟨#[]⟩), .string (⟨#[]⟩)] 33 (0, 0)), Ob g1 (.cells #[.string s] 9 (0, 0)), Old w no])
    refine l_of (s_store H27 0 (wt0 rfl) rfl rfl rfl rfl rfl sz93 rfl rfl (cs' := #[.int .u8 0, .int .u8 0, .int .u8 16, .int .u8 255]) rfl ?_)
    intro w28 (H29 : S w28 [Ob g25 (.cells #[.int .u8 0, .int .u8 0, .int .u8 16, .int .u8 255] 93 (0, 0)), Ob g13 (.cells #[.int .i64 0] 25 (0, 0)), Ob g10 (.cells #[.int .i64 0] 3 (0, 0)), Ob g7 (.cells #[.int .i64 0] 3 (0, 0)), Ob g4 (.cells #[.int .i64 0, .int .i64 0, .int .i64 0, .int .i64 0, .int .i64 0, .int .i64 0, .string (⟨#[]⟩), .string (⟨#[]⟩)] 33 (0, 0)), Ob g1 (.cells #[.string s] 9 (0, 0)), Old w no])
    refine g_nil ?_
    refine g_then ?_
    refine g_seq ?_
    refine g_seq ?_
    refine g_region ?_
    refine l_of (s_val (v := .string s) (wt0 rfl) rfl rfl (x_load1 H29 5 rfl rfl Try.underlying9 rfl rfl rfl) ?_)
    refine l_of (s_val (v := .int .i64 ((s.size : Int))) (wt0 rfl) rfl rfl (x_lens rfl rfl Try.underlying9) ?_)
    refine l_of (s_val (v := .int .i64 (min (s.size : Int) 3)) (wt0 rfl) rfl rfl (x_min rfl rfl rfl) ?_)
    refine l_of (s_val (v := .int .i64 0) (wt0 rfl) rfl rfl (x_move rfl rfl) ?_)
    refine g_nil ?_
    refine g_then ?_
    refine g_block ?_
    refine g_loop (ι := Nat) (fun k => [(1, .pointer (some ⟨g1, 0, none⟩)), (2, .pointer (some ⟨g4, 0, none⟩)), (3, .pointer (some ⟨g7, 0, none⟩)), (4, .pointer (some ⟨g10, 0, none⟩)), (5, .pointer (some ⟨g13, 0, none⟩)), (6, .func (.func 52) #[] #[.pointer (some ⟨g1, 0, none⟩)]), (7, .func (.func 53) #[] #[]), (8, .pointer (some ⟨g25, 0, none⟩)), (28, .int .i64 (min (s.size : Int) 3)), (29, .int .i64 ((k : Int)))]) (fun k wx => (k ≤ 3 ∧ k ≤ s.size) ∧ (∀ j, j < k → bt' s j ≤ mostB j) ∧ S wx [Ob g25 (.cells #[.int .u8 0, .int .u8 0, .int .u8 16, .int .u8 255] 93 (0, 0)), Ob g13 (.cells #[.int .i64 0] 25 (0, 0)), Ob g10 (.cells #[.int .i64 0] 3 (0, 0)), Ob g7 (.cells #[.int .i64 0] 3 (0, 0)), Ob g4 (.cells #[.int .i64 0, .int .i64 0, .int .i64 0, .int .i64 0, .int .i64 0, .int .i64 0, .string (⟨#[]⟩), .string (⟨#[]⟩)] 33 (0, 0)), Ob g1 (.cells #[.string s] 9 (0, 0)), Old w no]) (fun k => 3 - k) (0) ⟨rfl, rfl, rfl, rfl, rfl, rfl, rfl, rfl, rfl, rfl, trivial⟩ ⟨by omega, fun j hj => by omega, H29⟩ ?_
    rintro k w30 ⟨hk0, hg0, H31⟩
    replace H31 : S w30 [Ob g25 (.cells #[.int .u8 0, .int .u8 0, .int .u8 16, .int .u8 255] 93 (0, 0)), Ob g13 (.cells #[.int .i64 0] 25 (0, 0)), Ob g10 (.cells #[.int .i64 0] 3 (0, 0)), Ob g7 (.cells #[.int .i64 0] 3 (0, 0)), Ob g4 (.cells #[.int .i64 0, .int .i64 0, .int .i64 0, .int .i64 0, .int .i64 0, .int .i64 0, .string (⟨#[]⟩), .string (⟨#[]⟩)] 33 (0, 0)), Ob g1 (.cells #[.string s] 9 (0, 0)), Old w no] := H31
    refine g_weak [(1, .pointer (some ⟨g1, 0, none⟩)), (2, .pointer (some ⟨g4, 0, none⟩)), (3, .pointer (some ⟨g7, 0, none⟩)), (4, .pointer (some ⟨g10, 0, none⟩)), (5, .pointer (some ⟨g13, 0, none⟩)), (6, .func (.func 52) #[] #[.pointer (some ⟨g1, 0, none⟩)]), (7, .func (.func 53) #[] #[]), (8, .pointer (some ⟨g25, 0, none⟩)), (28, .int .i64 (min (s.size : Int) 3)), (29, .int .i64 ((k : Int)))] ⟨rfl, rfl, rfl, rfl, rfl, rfl, rfl, rfl, rfl, rfl, trivial⟩ ?_
    refine g_seq ?_
    refine g_region ?_
    refine l_of (s_val (v := .bool (decide (((k : Int) : Int) < min (s.size : Int) 3))) (wt0 rfl) rfl rfl (x_bin rfl rfl rfl b_lss) ?_)
    refine g_nil ?_
    refine g_then ?_
    refine g_seq ?_
    by_cases hb32 : ((k : Int) : Int) < min (s.size : Int) 3
    · skip
      refine g_cond_t rfl (decide_eq_true hb32) ?_
      refine g_skip ?_
      refine g_then ?_
      refine g_seq ?_
      refine g_block ?_
      refine g_seq ?_
      refine g_region ?_
      refine l_of (s_val (v := .int .i64 ((k : Int))) (wt0 rfl) rfl rfl (x_move rfl rfl) ?_)
      refine l_of (s_val (v := .int .i64 ((k : Int))) (wt0 rfl) rfl rfl (x_assign rfl rfl) ?_)
      refine g_nil ?_
      refine g_then ?_
      refine g_any [(1, .pointer (some ⟨g1, 0, none⟩)), (2, .pointer (some ⟨g4, 0, none⟩)), (3, .pointer (some ⟨g7, 0, none⟩)), (4, .pointer (some ⟨g10, 0, none⟩)), (5, .pointer (some ⟨g13, 0, none⟩)), (6, .func (.func 52) #[] #[.pointer (some ⟨g1, 0, none⟩)]), (7, .func (.func 53) #[] #[]), (8, .pointer (some ⟨g25, 0, none⟩)), (9, .int .i64 ((k : Int))), (28, .int .i64 (min (s.size : Int) 3)), (29, .int .i64 ((k : Int))), (30, .bool (decide (((k : Int) : Int) < min (s.size : Int) 3))), (31, .int .i64 ((k : Int)))] (fun wx => S wx [Ob g25 (.cells #[.int .u8 0, .int .u8 0, .int .u8 16, .int .u8 255] 93 (0, 0)), Ob g1 (.cells #[.string s] 9 (0, 0))]) [] (by kernel_rfl) H31 (fun w33 H34 => ?_)
      refine a_take (v := .func (.func 53) #[] #[]) 0 rfl (wt0 rfl) rfl rfl rfl (by kernel_rfl) (by kernel_rfl) (by kernel_rfl) (by kernel_rfl) (H34.mask [true, false, false, false, false, true, false]) (fun wx H => x_move rfl rfl) ?_
      refine a_take (v := .string s) 1 rfl (wt0 rfl) rfl rfl rfl (by kernel_rfl) (by kernel_rfl) (by kernel_rfl) (by kernel_rfl) (H34.mask [true, false, false, false, false, true, false]) (fun wx H => x_load1 H 1 rfl rfl Try.underlying9 rfl rfl rfl) ?_
      refine a_take (v := .int .i64 ((k : Int))) 2 rfl (wt0 rfl) rfl rfl rfl (by kernel_rfl) (by kernel_rfl) (by kernel_rfl) (by kernel_rfl) (H34.mask [true, false, false, false, false, true, false]) (fun wx H => x_move rfl rfl) ?_
      have hbt35 := bt'_lt s k
      refine a_take (v := .int .u8 ((bt' s k : Int))) 3 rfl (wt0 rfl) rfl rfl rfl (by kernel_rfl) (by kernel_rfl) (by kernel_rfl) (by kernel_rfl) (H34.mask [true, false, false, false, false, true, false]) (fun wx H => x_index k rfl rfl rfl Try.underlying9 (by omega)) ?_
      refine a_take (v := .int .i64 ((k : Int))) 4 rfl (wt0 rfl) rfl rfl rfl (by kernel_rfl) (by kernel_rfl) (by kernel_rfl) (by kernel_rfl) (H34.mask [true, false, false, false, false, true, false]) (fun wx H => x_move rfl rfl) ?_
      refine a_take (v := .pointer (some ⟨g25, 0 + k * 1, none⟩)) 5 rfl (wt0 rfl) rfl rfl rfl (by kernel_rfl) (by kernel_rfl) (by kernel_rfl) (by kernel_rfl) (H34.mask [true, false, false, false, false, true, false]) (fun wx H => x_indexAddrA k rfl rfl rfl Try.underlying93 sz5 (by omega) (off' := 0 + k * 1) rfl) ?_
      have hk3 : k < 3 := by omega
      refine a_take (v := .int .u8 ((mostB k : Int))) 6 rfl (wt0 rfl) rfl rfl rfl (by kernel_rfl) (by kernel_rfl) (by kernel_rfl) (by kernel_rfl) (H34.mask [true, false, false, false, false, true, false]) (fun wx H => x_load rfl rfl (run_load1 Try.underlying5 rfl (H.cell (k := 0) rfl (most_cell k hk3)))) ?_
      refine a_take (v := .bool (decide (((mostB k : Int) : Int) < (bt' s k : Int)))) 7 rfl (wt0 rfl) rfl rfl rfl (by kernel_rfl) (by kernel_rfl) (by kernel_rfl) (by kernel_rfl) (H34.mask [true, false, false, false, false, true, false]) (fun wx H => x_bin rfl rfl rfl b_gtr) ?_
      refine a_one (i := 8) (by kernel_rfl) rfl ?_
      by_cases hb36 : ((mostB k : Int) : Int) < (bt' s k : Int)
      · skip
        have hg3 := good3_f (s := s) (k := k) (by omega) (by omega)
        refine s_call (wt0 rfl) (x_call rfl rfl rfl cl53) (wrong_p _ _ _ (decide_eq_true hb36)) ?_
        rintro _ w37 ⟨rfl, H38⟩
        replace H38 : S w37 [Ob g25 (.cells #[.int .u8 0, .int .u8 0, .int .u8 16, .int .u8 255] 93 (0, 0)), Ob g13 (.cells #[.int .i64 0] 25 (0, 0)), Ob g10 (.cells #[.int .i64 0] 3 (0, 0)), Ob g7 (.cells #[.int .i64 0] 3 (0, 0)), Ob g4 (.cells #[.int .i64 0, .int .i64 0, .int .i64 0, .int .i64 0, .int .i64 0, .int .i64 0, .string (⟨#[]⟩), .string (⟨#[]⟩)] 33 (0, 0)), Ob g1 (.cells #[.string s] 9 (0, 0)), Old w no] := H34.absorb (new := []) H38
        refine b_panic ?_
        refine pan_in ⟨rfl, rfl, rfl, rfl, rfl, rfl, rfl, rfl, rfl, rfl, rfl, rfl, rfl, trivial⟩ ?_
        refine g_in_panic ?_
        refine g_then_panic ?_
        refine g_then_panic ?_
        refine g_in_panic ?_
        refine g_then_panic ?_
        refine fin_dpanic ?_
        refine gl_step (by simp) cl51 (caught_p g10 g13 (0) (12) (0) (0) [] _ (H38.ob (k := 2) rfl) (H38.ob (k := 1) rfl) (H38.ne (i := 2) (j := 1) rfl rfl (by decide))) ?_
        rintro _ _ w39 ⟨⟨rfl, H40⟩, rfl⟩
        replace H40 : S w39 [Ob g10 (.cells #[.int .i64 0] 3 (0, 0)), Ob g13 (.cells #[.int .i64 12] 25 (0, 0)), Ob g25 (.cells #[.int .u8 0, .int .u8 0, .int .u8 16, .int .u8 255] 93 (0, 0)), Ob g7 (.cells #[.int .i64 0] 3 (0, 0)), Ob g4 (.cells #[.int .i64 0, .int .i64 0, .int .i64 0, .int .i64 0, .int .i64 0, .int .i64 0, .string (⟨#[]⟩), .string (⟨#[]⟩)] 33 (0, 0)), Ob g1 (.cells #[.string s] 9 (0, 0)), Old w no] := H38.absorbK (new := [Ob g10 (.cells #[.int .i64 0] 3 (0, 0)), Ob g13 (.cells #[.int .i64 12] 25 (0, 0))]) [2, 1] (by intro g hg; rcases hg with rfl | rfl; exact ⟨2, rfl, _, rfl, rfl⟩; exact ⟨1, rfl, _, rfl, rfl⟩) H40
        refine (?_ : GL _ _ _ _ _ _ FrameMode.returning _)
        refine gl_step (by simp) cl50 (clear_n g13 g4 g7 12 (0) _ _ (by decide) rfl (H40.ob (k := 1) rfl) (H40.ob (k := 4) rfl) (H40.ob (k := 3) rfl) (H40.ne (i := 1) (j := 4) rfl rfl (by decide)) (H40.ne (i := 1) (j := 3) rfl rfl (by decide)) (H40.ne (i := 4) (j := 3) rfl rfl (by decide))) ?_
        rintro _ _ w41 ⟨rfl, rfl, H42⟩
        replace H42 : S w41 [Ob g13 (.cells #[.int .i64 12] 25 (0, 0)), Ob g4 (.cells #[.int .i64 0, .int .i64 0, .int .i64 0, .int .i64 0, .int .i64 0, .int .i64 0, .string (⟨#[]⟩), .string (⟨#[]⟩)] 33 (0, 0)), Ob g7 (.cells #[.int .i64 0] 3 (0, 0)), Ob g10 (.cells #[.int .i64 0] 3 (0, 0)), Ob g25 (.cells #[.int .u8 0, .int .u8 0, .int .u8 16, .int .u8 255] 93 (0, 0)), Ob g1 (.cells #[.string s] 9 (0, 0)), Old w no] := H40.absorbK (new := [Ob g13 (.cells #[.int .i64 12] 25 (0, 0)), Ob g4 (.cells #[.int .i64 0, .int .i64 0, .int .i64 0, .int .i64 0, .int .i64 0, .int .i64 0, .string (⟨#[]⟩), .string (⟨#[]⟩)] 33 (0, 0)), Ob g7 (.cells #[.int .i64 0] 3 (0, 0))]) [1, 4, 3] (by intro g hg; simp only [List.mem_cons, List.not_mem_nil, or_false] at hg; rcases hg with rfl | rfl | rfl; exact ⟨1, rfl, _, rfl, rfl⟩; exact ⟨4, rfl, _, rfl, rfl⟩; exact ⟨3, rfl, _, rfl, rfl⟩) H42
        refine (?_ : GL _ _ _ _ _ _ FrameMode.returning _)
        refine gl_ret [.cell 2 33, .cell 3 3, .cell 4 3, .cell 5 25] [.agg #[.int .i64 0, .int .i64 0, .int .i64 0, .int .i64 0, .int .i64 0, .int .i64 0, .string (⟨#[]⟩), .string (⟨#[]⟩)], .int .i64 0, .int .i64 0, .int .i64 12] rfl ⟨⟨_, rfl, run_loadA (H42.ob (k := 1) rfl) Try.underlying33 rfl sz33 rfl rfl⟩, ⟨_, rfl, run_load1 Try.underlying3 rfl (H42.cell (k := 2) rfl rfl)⟩, ⟨_, rfl, run_load1 Try.underlying3 rfl (H42.cell (k := 3) rfl rfl)⟩, ⟨_, rfl, run_load1 Try.underlying25 rfl (H42.cell (k := 0) rfl rfl)⟩, trivial⟩ ?_
        exact ⟨by simp only [decW, outG, Zm, tupled, M.cells, M.only, hg3, if_neg hb16, if_pos hb32, if_pos hb36, if_true, Bool.false_eq_true, if_false], H42.mask [false, false, false, false, false, false, true]⟩
      · skip
        refine s_call (wt0 rfl) (x_call rfl rfl rfl cl53) (wrong_r _ _ _ (decide_eq_false hb36)) ?_
        rintro _ w43 ⟨rfl, H44⟩
        replace H44 : S w43 [Ob g25 (.cells #[.int .u8 0, .int .u8 0, .int .u8 16, .int .u8 255] 93 (0, 0)), Ob g13 (.cells #[.int .i64 0] 25 (0, 0)), Ob g10 (.cells #[.int .i64 0] 3 (0, 0)), Ob g7 (.cells #[.int .i64 0] 3 (0, 0)), Ob g4 (.cells #[.int .i64 0, .int .i64 0, .int .i64 0, .int .i64 0, .int .i64 0, .int .i64 0, .string (⟨#[]⟩), .string (⟨#[]⟩)] 33 (0, 0)), Ob g1 (.cells #[.string s] 9 (0, 0)), Old w no] := H34.absorb (new := []) H44
        refine b_ret rfl rfl ?_
        refine a_k (H44.mask [true, false, false, false, false, true, false]) ?_
        refine a_done (by kernel_rfl) ?_
        refine g_in ?_
        refine g_then ?_
        refine g_weak [(1, .pointer (some ⟨g1, 0, none⟩)), (2, .pointer (some ⟨g4, 0, none⟩)), (3, .pointer (some ⟨g7, 0, none⟩)), (4, .pointer (some ⟨g10, 0, none⟩)), (5, .pointer (some ⟨g13, 0, none⟩)), (6, .func (.func 52) #[] #[.pointer (some ⟨g1, 0, none⟩)]), (7, .func (.func 53) #[] #[]), (8, .pointer (some ⟨g25, 0, none⟩)), (28, .int .i64 (min (s.size : Int) 3)), (29, .int .i64 ((k : Int)))] ⟨rfl, rfl, rfl, rfl, rfl, rfl, rfl, rfl, rfl, rfl, trivial⟩ ?_
        refine g_region ?_
        refine l_of (s_val (v := .int .i64 ((k : Int) + 1)) (wt0 rfl) rfl rfl (x_bin rfl rfl rfl (b_add (w64 (by omega)))) ?_)
        refine l_of (s_val (v := .int .i64 ((k : Int) + 1)) (wt0 rfl) rfl rfl (x_move rfl rfl) ?_)
        refine g_nil ?_
        refine g_then ?_
        refine g_round (i := (k)) (k + 1) ?_ ?_ ?_
        · exact ⟨rfl, rfl, rfl, rfl, rfl, rfl, rfl, rfl, rfl, rfl, trivial⟩
        · exact ⟨by omega, fun j hj => by rcases (by omega : j < k ∨ j = k) with h | rfl; exact hg0 j h; omega, H44⟩
        · (try dsimp only); omega
    · skip
      have hg4 := good3_t (s := s) (k := k) (by omega) hg0
      refine g_cond_f rfl (decide_eq_false hb32) ?_
      refine g_exit ?_
      refine g_then_exit ?_
      refine g_then_exit ?_
      refine g_in_hit ?_
      refine g_then ?_
      refine g_seq ?_
      refine g_region ?_
      refine l_of (s_val (v := .func (.func 52) #[] #[.pointer (some ⟨g1, 0, none⟩)]) (wt0 rfl) rfl rfl (x_move rfl rfl) ?_)
      by_cases hb45 : ((s.size : Int) : Int) < 4
      · skip
        refine l_of (s_call (wt0 rfl) (x_call rfl rfl rfl cl52) (lack_p g1 s _ _ (H31.cell (k := 5) rfl rfl) (of_decide_eq_true (decide_eq_true hb45))) ?_)
        rintro _ w46 ⟨rfl, H47⟩
        replace H47 : S w46 [Ob g25 (.cells #[.int .u8 0, .int .u8 0, .int .u8 16, .int .u8 255] 93 (0, 0)), Ob g13 (.cells #[.int .i64 0] 25 (0, 0)), Ob g10 (.cells #[.int .i64 0] 3 (0, 0)), Ob g7 (.cells #[.int .i64 0] 3 (0, 0)), Ob g4 (.cells #[.int .i64 0, .int .i64 0, .int .i64 0, .int .i64 0, .int .i64 0, .int .i64 0, .string (⟨#[]⟩), .string (⟨#[]⟩)] 33 (0, 0)), Ob g1 (.cells #[.string s] 9 (0, 0)), Old w no] := H31.absorb (new := []) H47
        refine b_panic ?_
        refine g_then_panic ?_
        refine fin_dpanic ?_
        refine gl_step (by simp) cl51 (caught_p g10 g13 ((s.size : Int)) (8) (0) (0) [] _ (H47.ob (k := 2) rfl) (H47.ob (k := 1) rfl) (H47.ne (i := 2) (j := 1) rfl rfl (by decide))) ?_
        rintro _ _ w48 ⟨⟨rfl, H49⟩, rfl⟩
        replace H49 : S w48 [Ob g10 (.cells #[.int .i64 ((s.size : Int))] 3 (0, 0)), Ob g13 (.cells #[.int .i64 8] 25 (0, 0)), Ob g25 (.cells #[.int .u8 0, .int .u8 0, .int .u8 16, .int .u8 255] 93 (0, 0)), Ob g7 (.cells #[.int .i64 0] 3 (0, 0)), Ob g4 (.cells #[.int .i64 0, .int .i64 0, .int .i64 0, .int .i64 0, .int .i64 0, .int .i64 0, .string (⟨#[]⟩), .string (⟨#[]⟩)] 33 (0, 0)), Ob g1 (.cells #[.string s] 9 (0, 0)), Old w no] := H47.absorbK (new := [Ob g10 (.cells #[.int .i64 ((s.size : Int))] 3 (0, 0)), Ob g13 (.cells #[.int .i64 8] 25 (0, 0))]) [2, 1] (by intro g hg; rcases hg with rfl | rfl; exact ⟨2, rfl, _, rfl, rfl⟩; exact ⟨1, rfl, _, rfl, rfl⟩) H49
        refine (?_ : GL _ _ _ _ _ _ FrameMode.returning _)
        refine gl_step (by simp) cl50 (clear_n g13 g4 g7 8 (0) _ _ (by decide) rfl (H49.ob (k := 1) rfl) (H49.ob (k := 4) rfl) (H49.ob (k := 3) rfl) (H49.ne (i := 1) (j := 4) rfl rfl (by decide)) (H49.ne (i := 1) (j := 3) rfl rfl (by decide)) (H49.ne (i := 4) (j := 3) rfl rfl (by decide))) ?_
        rintro _ _ w50 ⟨rfl, rfl, H51⟩
        replace H51 : S w50 [Ob g13 (.cells #[.int .i64 8] 25 (0, 0)), Ob g4 (.cells #[.int .i64 0, .int .i64 0, .int .i64 0, .int .i64 0, .int .i64 0, .int .i64 0, .string (⟨#[]⟩), .string (⟨#[]⟩)] 33 (0, 0)), Ob g7 (.cells #[.int .i64 0] 3 (0, 0)), Ob g10 (.cells #[.int .i64 ((s.size : Int))] 3 (0, 0)), Ob g25 (.cells #[.int .u8 0, .int .u8 0, .int .u8 16, .int .u8 255] 93 (0, 0)), Ob g1 (.cells #[.string s] 9 (0, 0)), Old w no] := H49.absorbK (new := [Ob g13 (.cells #[.int .i64 8] 25 (0, 0)), Ob g4 (.cells #[.int .i64 0, .int .i64 0, .int .i64 0, .int .i64 0, .int .i64 0, .int .i64 0, .string (⟨#[]⟩), .string (⟨#[]⟩)] 33 (0, 0)), Ob g7 (.cells #[.int .i64 0] 3 (0, 0))]) [1, 4, 3] (by intro g hg; simp only [List.mem_cons, List.not_mem_nil, or_false] at hg; rcases hg with rfl | rfl | rfl; exact ⟨1, rfl, _, rfl, rfl⟩; exact ⟨4, rfl, _, rfl, rfl⟩; exact ⟨3, rfl, _, rfl, rfl⟩) H51
        refine (?_ : GL _ _ _ _ _ _ FrameMode.returning _)
        refine gl_ret [.cell 2 33, .cell 3 3, .cell 4 3, .cell 5 25] [.agg #[.int .i64 0, .int .i64 0, .int .i64 0, .int .i64 0, .int .i64 0, .int .i64 0, .string (⟨#[]⟩), .string (⟨#[]⟩)], .int .i64 0, .int .i64 ((s.size : Int)), .int .i64 8] rfl ⟨⟨_, rfl, run_loadA (H51.ob (k := 1) rfl) Try.underlying33 rfl sz33 rfl rfl⟩, ⟨_, rfl, run_load1 Try.underlying3 rfl (H51.cell (k := 2) rfl rfl)⟩, ⟨_, rfl, run_load1 Try.underlying3 rfl (H51.cell (k := 3) rfl rfl)⟩, ⟨_, rfl, run_load1 Try.underlying25 rfl (H51.cell (k := 0) rfl rfl)⟩, trivial⟩ ?_
        exact ⟨by simp only [decW, outG, Zm, tupled, M.cells, M.only, hg4, if_neg hb16, if_neg hb32, if_pos hb45, if_true, Bool.false_eq_true, if_false], H51.mask [false, false, false, false, false, false, true]⟩
      · skip
        refine l_of (s_call (wt0 rfl) (x_call rfl rfl rfl cl52) (lack_r g1 s _ _ (H31.cell (k := 5) rfl rfl) (of_decide_eq_false (decide_eq_false hb45))) ?_)
        rintro _ w52 ⟨rfl, H53⟩
        replace H53 : S w52 [Ob g25 (.cells #[.int .u8 0, .int .u8 0, .int .u8 16, .int .u8 255] 93 (0, 0)), Ob g13 (.cells #[.int .i64 0] 25 (0, 0)), Ob g10 (.cells #[.int .i64 0] 3 (0, 0)), Ob g7 (.cells #[.int .i64 0] 3 (0, 0)), Ob g4 (.cells #[.int .i64 0, .int .i64 0, .int .i64 0, .int .i64 0, .int .i64 0, .int .i64 0, .string (⟨#[]⟩), .string (⟨#[]⟩)] 33 (0, 0)), Ob g1 (.cells #[.string s] 9 (0, 0)), Old w no] := H31.absorb (new := []) H53
        refine b_ret rfl rfl ?_
        refine g_nil ?_
        refine g_then ?_
        refine g_seq ?_
        refine g_quiet (by kernel_rfl) (by kernel_rfl) H53 ?_
        refine q_val (v := .string s) (wt0 rfl) rfl rfl (fun wx H => x_load1 H 5 rfl rfl Try.underlying9 rfl rfl rfl) ?_
        have hbt54 := bt'_lt s 2
        refine q_val (v := .int .u8 ((bt' s 2 : Int))) (wt0 rfl) rfl rfl (fun wx H => x_index 2 rfl rfl rfl Try.underlying9 (by omega)) ?_
        refine q_val (v := .int .i64 ((bt' s 2 : Int))) (wt0 rfl) rfl rfl (fun wx H => x_conv rfl rfl Try.underlying5 Try.underlying3 (w64 (by omega))) ?_
        refine q_val (v := .int .i64 (((bt' s 2 * 256 : Nat) : Int))) (wt0 rfl) rfl rfl (fun wx H => x_bin rfl rfl rfl (b_shl (shl8 (bt' s 2) (by omega)))) ?_
        refine q_val (v := .string s) (wt0 rfl) rfl rfl (fun wx H => x_load1 H 5 rfl rfl Try.underlying9 rfl rfl rfl) ?_
        have hbt55 := bt'_lt s 3
        refine q_val (v := .int .u8 ((bt' s 3 : Int))) (wt0 rfl) rfl rfl (fun wx H => x_index 3 rfl rfl rfl Try.underlying9 (by omega)) ?_
        refine q_val (v := .int .i64 ((bt' s 3 : Int))) (wt0 rfl) rfl rfl (fun wx H => x_conv rfl rfl Try.underlying5 Try.underlying3 (w64 (by omega))) ?_
        have hlen := lenW_lt s
        refine q_val (v := .int .i64 ((lenW s : Int))) (wt0 rfl) rfl rfl (fun wx H => x_bin rfl rfl rfl (b_orByte (a := bt' s 2) (b := bt' s 3) (by omega) (by omega))) ?_
        refine q_val (v := .int .i64 ((lenW s : Int))) (wt0 rfl) rfl rfl (fun wx H => x_assign rfl rfl) ?_
        refine q_nil (fun w56 H57 => ?_)
        refine g_then ?_
        refine g_weak [(1, .pointer (some ⟨g1, 0, none⟩)), (2, .pointer (some ⟨g4, 0, none⟩)), (3, .pointer (some ⟨g7, 0, none⟩)), (4, .pointer (some ⟨g10, 0, none⟩)), (5, .pointer (some ⟨g13, 0, none⟩)), (6, .func (.func 52) #[] #[.pointer (some ⟨g1, 0, none⟩)]), (7, .func (.func 53) #[] #[]), (10, .int .i64 ((lenW s : Int)))] ⟨rfl, rfl, rfl, rfl, rfl, rfl, rfl, rfl, trivial⟩ ?_
        refine g_seq ?_
        refine g_region ?_
        refine l_of (s_val (v := .func (.func 53) #[] #[]) (wt0 rfl) rfl rfl (x_move rfl rfl) ?_)
        refine l_of (s_val (v := .int .i64 ((lenW s : Int))) (wt0 rfl) rfl rfl (x_move rfl rfl) ?_)
        refine l_of (s_val (v := .bool (decide ((4200 : Int) < (lenW s : Int)))) (wt0 rfl) rfl rfl (x_bin rfl rfl rfl b_gtr) ?_)
        by_cases hb58 : (4200 : Int) < (lenW s : Int)
        · skip
          refine l_of (s_call (wt0 rfl) (x_call rfl rfl rfl cl53) (wrong_p _ _ _ (decide_eq_true hb58)) ?_)
          rintro _ w59 ⟨rfl, H60⟩
          replace H60 : S w59 [Ob g25 (.cells #[.int .u8 0, .int .u8 0, .int .u8 16, .int .u8 255] 93 (0, 0)), Ob g13 (.cells #[.int .i64 0] 25 (0, 0)), Ob g10 (.cells #[.int .i64 0] 3 (0, 0)), Ob g7 (.cells #[.int .i64 0] 3 (0, 0)), Ob g4 (.cells #[.int .i64 0, .int .i64 0, .int .i64 0, .int .i64 0, .int .i64 0, .int .i64 0, .string (⟨#[]⟩), .string (⟨#[]⟩)] 33 (0, 0)), Ob g1 (.cells #[.string s] 9 (0, 0)), Old w no] := H57.absorb (new := []) H60
          refine b_panic ?_
          refine g_then_panic ?_
          refine fin_dpanic ?_
          refine gl_step (by simp) cl51 (caught_p g10 g13 (0) (12) (0) (0) [] _ (H60.ob (k := 2) rfl) (H60.ob (k := 1) rfl) (H60.ne (i := 2) (j := 1) rfl rfl (by decide))) ?_
          rintro _ _ w61 ⟨⟨rfl, H62⟩, rfl⟩
          replace H62 : S w61 [Ob g10 (.cells #[.int .i64 0] 3 (0, 0)), Ob g13 (.cells #[.int .i64 12] 25 (0, 0)), Ob g25 (.cells #[.int .u8 0, .int .u8 0, .int .u8 16, .int .u8 255] 93 (0, 0)), Ob g7 (.cells #[.int .i64 0] 3 (0, 0)), Ob g4 (.cells #[.int .i64 0, .int .i64 0, .int .i64 0, .int .i64 0, .int .i64 0, .int .i64 0, .string (⟨#[]⟩), .string (⟨#[]⟩)] 33 (0, 0)), Ob g1 (.cells #[.string s] 9 (0, 0)), Old w no] := H60.absorbK (new := [Ob g10 (.cells #[.int .i64 0] 3 (0, 0)), Ob g13 (.cells #[.int .i64 12] 25 (0, 0))]) [2, 1] (by intro g hg; rcases hg with rfl | rfl; exact ⟨2, rfl, _, rfl, rfl⟩; exact ⟨1, rfl, _, rfl, rfl⟩) H62
          refine (?_ : GL _ _ _ _ _ _ FrameMode.returning _)
          refine gl_step (by simp) cl50 (clear_n g13 g4 g7 12 (0) _ _ (by decide) rfl (H62.ob (k := 1) rfl) (H62.ob (k := 4) rfl) (H62.ob (k := 3) rfl) (H62.ne (i := 1) (j := 4) rfl rfl (by decide)) (H62.ne (i := 1) (j := 3) rfl rfl (by decide)) (H62.ne (i := 4) (j := 3) rfl rfl (by decide))) ?_
          rintro _ _ w63 ⟨rfl, rfl, H64⟩
          replace H64 : S w63 [Ob g13 (.cells #[.int .i64 12] 25 (0, 0)), Ob g4 (.cells #[.int .i64 0, .int .i64 0, .int .i64 0, .int .i64 0, .int .i64 0, .int .i64 0, .string (⟨#[]⟩), .string (⟨#[]⟩)] 33 (0, 0)), Ob g7 (.cells #[.int .i64 0] 3 (0, 0)), Ob g10 (.cells #[.int .i64 0] 3 (0, 0)), Ob g25 (.cells #[.int .u8 0, .int .u8 0, .int .u8 16, .int .u8 255] 93 (0, 0)), Ob g1 (.cells #[.string s] 9 (0, 0)), Old w no] := H62.absorbK (new := [Ob g13 (.cells #[.int .i64 12] 25 (0, 0)), Ob g4 (.cells #[.int .i64 0, .int .i64 0, .int .i64 0, .int .i64 0, .int .i64 0, .int .i64 0, .string (⟨#[]⟩), .string (⟨#[]⟩)] 33 (0, 0)), Ob g7 (.cells #[.int .i64 0] 3 (0, 0))]) [1, 4, 3] (by intro g hg; simp only [List.mem_cons, List.not_mem_nil, or_false] at hg; rcases hg with rfl | rfl | rfl; exact ⟨1, rfl, _, rfl, rfl⟩; exact ⟨4, rfl, _, rfl, rfl⟩; exact ⟨3, rfl, _, rfl, rfl⟩) H64
          refine (?_ : GL _ _ _ _ _ _ FrameMode.returning _)
          refine gl_ret [.cell 2 33, .cell 3 3, .cell 4 3, .cell 5 25] [.agg #[.int .i64 0, .int .i64 0, .int .i64 0, .int .i64 0, .int .i64 0, .int .i64 0, .string (⟨#[]⟩), .string (⟨#[]⟩)], .int .i64 0, .int .i64 0, .int .i64 12] rfl ⟨⟨_, rfl, run_loadA (H64.ob (k := 1) rfl) Try.underlying33 rfl sz33 rfl rfl⟩, ⟨_, rfl, run_load1 Try.underlying3 rfl (H64.cell (k := 2) rfl rfl)⟩, ⟨_, rfl, run_load1 Try.underlying3 rfl (H64.cell (k := 3) rfl rfl)⟩, ⟨_, rfl, run_load1 Try.underlying25 rfl (H64.cell (k := 0) rfl rfl)⟩, trivial⟩ ?_
          exact ⟨by simp only [decW, outG, Zm, tupled, M.cells, M.only, hg4, if_neg hb16, if_neg hb32, if_neg hb45, if_pos hb58, if_true, Bool.false_eq_true, if_false], H64.mask [false, false, false, false, false, false, true]⟩
        · skip
          refine l_of (s_call (wt0 rfl) (x_call rfl rfl rfl cl53) (wrong_r _ _ _ (decide_eq_false hb58)) ?_)
          rintro _ w65 ⟨rfl, H66⟩
          replace H66 : S w65 [Ob g25 (.cells #[.int .u8 0, .int .u8 0, .int .u8 16, .int .u8 255] 93 (0, 0)), Ob g13 (.cells #[.int .i64 0] 25 (0, 0)), Ob g10 (.cells #[.int .i64 0] 3 (0, 0)), Ob g7 (.cells #[.int .i64 0] 3 (0, 0)), Ob g4 (.cells #[.int .i64 0, .int .i64 0, .int .i64 0, .int .i64 0, .int .i64 0, .int .i64 0, .string (⟨#[]⟩), .string (⟨#[]⟩)] 33 (0, 0)), Ob g1 (.cells #[.string s] 9 (0, 0)), Old w no] := H57.absorb (new := []) H66
          refine b_ret rfl rfl ?_
          refine g_nil ?_
          refine g_then ?_
          refine g_seq ?_
          refine g_seq ?_
          refine g_region ?_
          refine l_of (s_val (v := .int .i64 ((lenW s : Int))) (wt0 rfl) rfl rfl (x_move rfl rfl) ?_)
          refine l_of (s_val (v := .bool (decide (((lenW s : Int) : Int) = 0))) (wt0 rfl) rfl rfl (x_bin rfl rfl rfl b_eql) ?_)
          refine g_nil ?_
          refine g_then ?_
          by_cases hb67 : ((lenW s : Int) : Int) = 0
          · skip
            refine g_cond_t rfl (decide_eq_true hb67) ?_
            refine g_seq ?_
            refine g_region ?_
            refine l_of (s_val (v := .agg #[.int .i64 1, .int .i64 0, .int .i64 0, .int .i64 0, .int .i64 0, .int .i64 0, .string (⟨#[]⟩), .string (⟨#[]⟩)]) (wt0 rfl) rfl rfl (x_build (vs := [.int .i64 1]) rfl rfl (cells := #[.int .i64 1, .int .i64 0, .int .i64 0, .int .i64 0, .int .i64 0, .int .i64 0, .string (⟨#[]⟩), .string (⟨#[]⟩)]) (by kernel_rfl)) ?_)
            refine l_of (s_store H66 4 (wt0 rfl) rfl rfl rfl rfl rfl sz33 rfl rfl (cs' := #[.int .i64 1, .int .i64 0, .int .i64 0, .int .i64 0, .int .i64 0, .int .i64 0, .string (⟨#[]⟩), .string (⟨#[]⟩)]) rfl ?_)
            intro w68 (H69 : S w68 [Ob g25 (.cells #[.int .u8 0, .int .u8 0, .int .u8 16, .int .u8 255] 93 (0, 0)), Ob g13 (.cells #[.int .i64 0] 25 (0, 0)), Ob g10 (.cells #[.int .i64 0] 3 (0, 0)), Ob g7 (.cells #[.int .i64 0] 3 (0, 0)), Ob g4 (.cells #[.int .i64 1, .int .i64 0, .int .i64 0, .int .i64 0, .int .i64 0, .int .i64 0, .string (⟨#[]⟩), .string (⟨#[]⟩)] 33 (0, 0)), Ob g1 (.cells #[.string s] 9 (0, 0)), Old w no])
            refine l_of (s_store H69 3 (wt0 rfl) rfl rfl rfl rfl rfl sz3 rfl rfl (cs' := #[.int .i64 4]) rfl ?_)
            intro w70 (H71 : S w70 [Ob g25 (.cells #[.int .u8 0, .int .u8 0, .int .u8 16, .int .u8 255] 93 (0, 0)), Ob g13 (.cells #[.int .i64 0] 25 (0, 0)), Ob g10 (.cells #[.int .i64 0] 3 (0, 0)), Ob g7 (.cells #[.int .i64 4] 3 (0, 0)), Ob g4 (.cells #[.int .i64 1, .int .i64 0, .int .i64 0, .int .i64 0, .int .i64 0, .int .i64 0, .string (⟨#[]⟩), .string (⟨#[]⟩)] 33 (0, 0)), Ob g1 (.cells #[.string s] 9 (0, 0)), Old w no])
            refine l_of (s_store H71 2 (wt0 rfl) rfl rfl rfl rfl rfl sz3 rfl rfl (cs' := #[.int .i64 (-1)]) rfl ?_)
            intro w72 (H73 : S w72 [Ob g25 (.cells #[.int .u8 0, .int .u8 0, .int .u8 16, .int .u8 255] 93 (0, 0)), Ob g13 (.cells #[.int .i64 0] 25 (0, 0)), Ob g10 (.cells #[.int .i64 (-1)] 3 (0, 0)), Ob g7 (.cells #[.int .i64 4] 3 (0, 0)), Ob g4 (.cells #[.int .i64 1, .int .i64 0, .int .i64 0, .int .i64 0, .int .i64 0, .int .i64 0, .string (⟨#[]⟩), .string (⟨#[]⟩)] 33 (0, 0)), Ob g1 (.cells #[.string s] 9 (0, 0)), Old w no])
            refine l_of (s_store H73 1 (wt0 rfl) rfl rfl rfl rfl rfl sz25 rfl rfl (cs' := #[.int .i64 0]) rfl ?_)
            intro w74 (H75 : S w74 [Ob g25 (.cells #[.int .u8 0, .int .u8 0, .int .u8 16, .int .u8 255] 93 (0, 0)), Ob g13 (.cells #[.int .i64 0] 25 (0, 0)), Ob g10 (.cells #[.int .i64 (-1)] 3 (0, 0)), Ob g7 (.cells #[.int .i64 4] 3 (0, 0)), Ob g4 (.cells #[.int .i64 1, .int .i64 0, .int .i64 0, .int .i64 0, .int .i64 0, .int .i64 0, .string (⟨#[]⟩), .string (⟨#[]⟩)] 33 (0, 0)), Ob g1 (.cells #[.string s] 9 (0, 0)), Old w no])
            refine g_nil ?_
            refine g_then ?_
            refine g_ret ?_
            refine g_then_ret ?_
            refine fin_dret ?_
            refine gl_step (by simp) cl51 (caught_n g10 g13 _) ?_
            rintro _ _ w76 ⟨⟨rfl, H77⟩, rfl⟩
            replace H77 : S w76 [Ob g25 (.cells #[.int .u8 0, .int .u8 0, .int .u8 16, .int .u8 255] 93 (0, 0)), Ob g13 (.cells #[.int .i64 0] 25 (0, 0)), Ob g10 (.cells #[.int .i64 (-1)] 3 (0, 0)), Ob g7 (.cells #[.int .i64 4] 3 (0, 0)), Ob g4 (.cells #[.int .i64 1, .int .i64 0, .int .i64 0, .int .i64 0, .int .i64 0, .int .i64 0, .string (⟨#[]⟩), .string (⟨#[]⟩)] 33 (0, 0)), Ob g1 (.cells #[.string s] 9 (0, 0)), Old w no] := H75.absorb (new := []) H77
            refine (?_ : GL _ _ _ _ _ _ FrameMode.returning _)
            refine gl_step (by simp) cl50 (clear_z g13 g4 g7 _ (H77.cell (k := 1) rfl rfl)) ?_
            rintro _ _ w78 ⟨rfl, rfl, H79⟩
            replace H79 : S w78 [Ob g25 (.cells #[.int .u8 0, .int .u8 0, .int .u8 16, .int .u8 255] 93 (0, 0)), Ob g13 (.cells #[.int .i64 0] 25 (0, 0)), Ob g10 (.cells #[.int .i64 (-1)] 3 (0, 0)), Ob g7 (.cells #[.int .i64 4] 3 (0, 0)), Ob g4 (.cells #[.int .i64 1, .int .i64 0, .int .i64 0, .int .i64 0, .int .i64 0, .int .i64 0, .string (⟨#[]⟩), .string (⟨#[]⟩)] 33 (0, 0)), Ob g1 (.cells #[.string s] 9 (0, 0)), Old w no] := H77.absorb (new := []) H79
            refine (?_ : GL _ _ _ _ _ _ FrameMode.returning _)
            refine gl_ret [.cell 2 33, .cell 3 3, .cell 4 3, .cell 5 25] [.agg #[.int .i64 1, .int .i64 0, .int .i64 0, .int .i64 0, .int .i64 0, .int .i64 0, .string (⟨#[]⟩), .string (⟨#[]⟩)], .int .i64 4, .int .i64 (-1), .int .i64 0] rfl ⟨⟨_, rfl, run_loadA (H79.ob (k := 4) rfl) Try.underlying33 rfl sz33 rfl rfl⟩, ⟨_, rfl, run_load1 Try.underlying3 rfl (H79.cell (k := 3) rfl rfl)⟩, ⟨_, rfl, run_load1 Try.underlying3 rfl (H79.cell (k := 2) rfl rfl)⟩, ⟨_, rfl, run_load1 Try.underlying25 rfl (H79.cell (k := 1) rfl rfl)⟩, trivial⟩ ?_
            exact ⟨by simp only [decW, outG, Zm, tupled, M.cells, M.only, hg4, if_neg hb16, if_neg hb32, if_neg hb45, if_neg hb58, if_pos hb67, if_true, Bool.false_eq_true, if_false], H79.mask [false, false, false, false, false, false, true]⟩
          · skip
            refine g_cond_f rfl (decide_eq_false hb67) ?_
            refine g_skip ?_
            refine g_then ?_
            refine g_seq ?_
            refine g_region ?_
            refine l_of (s_val (v := .func (.func 52) #[] #[.pointer (some ⟨g1, 0, none⟩)]) (wt0 rfl) rfl rfl (x_move rfl rfl) ?_)
            by_cases hb80 : ((s.size : Int) : Int) < 5
            · skip
              refine l_of (s_call (wt0 rfl) (x_call rfl rfl rfl cl52) (lack_p g1 s _ _ (H66.cell (k := 5) rfl rfl) (of_decide_eq_true (decide_eq_true hb80))) ?_)
              rintro _ w81 ⟨rfl, H82⟩
              replace H82 : S w81 [Ob g25 (.cells #[.int .u8 0, .int .u8 0, .int .u8 16, .int .u8 255] 93 (0, 0)), Ob g13 (.cells #[.int .i64 0] 25 (0, 0)), Ob g10 (.cells #[.int .i64 0] 3 (0, 0)), Ob g7 (.cells #[.int .i64 0] 3 (0, 0)), Ob g4 (.cells #[.int .i64 0, .int .i64 0, .int .i64 0, .int .i64 0, .int .i64 0, .int .i64 0, .string (⟨#[]⟩), .string (⟨#[]⟩)] 33 (0, 0)), Ob g1 (.cells #[.string s] 9 (0, 0)), Old w no] := H66.absorb (new := []) H82
              refine b_panic ?_
              refine g_then_panic ?_
              refine fin_dpanic ?_
              refine gl_step (by simp) cl51 (caught_p g10 g13 ((s.size : Int)) (8) (0) (0) [] _ (H82.ob (k := 2) rfl) (H82.ob (k := 1) rfl) (H82.ne (i := 2) (j := 1) rfl rfl (by decide))) ?_
              rintro _ _ w83 ⟨⟨rfl, H84⟩, rfl⟩
              replace H84 : S w83 [Ob g10 (.cells #[.int .i64 ((s.size : Int))] 3 (0, 0)), Ob g13 (.cells #[.int .i64 8] 25 (0, 0)), Ob g25 (.cells #[.int .u8 0, .int .u8 0, .int .u8 16, .int .u8 255] 93 (0, 0)), Ob g7 (.cells #[.int .i64 0] 3 (0, 0)), Ob g4 (.cells #[.int .i64 0, .int .i64 0, .int .i64 0, .int .i64 0, .int .i64 0, .int .i64 0, .string (⟨#[]⟩), .string (⟨#[]⟩)] 33 (0, 0)), Ob g1 (.cells #[.string s] 9 (0, 0)), Old w no] := H82.absorbK (new := [Ob g10 (.cells #[.int .i64 ((s.size : Int))] 3 (0, 0)), Ob g13 (.cells #[.int .i64 8] 25 (0, 0))]) [2, 1] (by intro g hg; rcases hg with rfl | rfl; exact ⟨2, rfl, _, rfl, rfl⟩; exact ⟨1, rfl, _, rfl, rfl⟩) H84
              refine (?_ : GL _ _ _ _ _ _ FrameMode.returning _)
              refine gl_step (by simp) cl50 (clear_n g13 g4 g7 8 (0) _ _ (by decide) rfl (H84.ob (k := 1) rfl) (H84.ob (k := 4) rfl) (H84.ob (k := 3) rfl) (H84.ne (i := 1) (j := 4) rfl rfl (by decide)) (H84.ne (i := 1) (j := 3) rfl rfl (by decide)) (H84.ne (i := 4) (j := 3) rfl rfl (by decide))) ?_
              rintro _ _ w85 ⟨rfl, rfl, H86⟩
              replace H86 : S w85 [Ob g13 (.cells #[.int .i64 8] 25 (0, 0)), Ob g4 (.cells #[.int .i64 0, .int .i64 0, .int .i64 0, .int .i64 0, .int .i64 0, .int .i64 0, .string (⟨#[]⟩), .string (⟨#[]⟩)] 33 (0, 0)), Ob g7 (.cells #[.int .i64 0] 3 (0, 0)), Ob g10 (.cells #[.int .i64 ((s.size : Int))] 3 (0, 0)), Ob g25 (.cells #[.int .u8 0, .int .u8 0, .int .u8 16, .int .u8 255] 93 (0, 0)), Ob g1 (.cells #[.string s] 9 (0, 0)), Old w no] := H84.absorbK (new := [Ob g13 (.cells #[.int .i64 8] 25 (0, 0)), Ob g4 (.cells #[.int .i64 0, .int .i64 0, .int .i64 0, .int .i64 0, .int .i64 0, .int .i64 0, .string (⟨#[]⟩), .string (⟨#[]⟩)] 33 (0, 0)), Ob g7 (.cells #[.int .i64 0] 3 (0, 0))]) [1, 4, 3] (by intro g hg; simp only [List.mem_cons, List.not_mem_nil, or_false] at hg; rcases hg with rfl | rfl | rfl; exact ⟨1, rfl, _, rfl, rfl⟩; exact ⟨4, rfl, _, rfl, rfl⟩; exact ⟨3, rfl, _, rfl, rfl⟩) H86
              refine (?_ : GL _ _ _ _ _ _ FrameMode.returning _)
              refine gl_ret [.cell 2 33, .cell 3 3, .cell 4 3, .cell 5 25] [.agg #[.int .i64 0, .int .i64 0, .int .i64 0, .int .i64 0, .int .i64 0, .int .i64 0, .string (⟨#[]⟩), .string (⟨#[]⟩)], .int .i64 0, .int .i64 ((s.size : Int)), .int .i64 8] rfl ⟨⟨_, rfl, run_loadA (H86.ob (k := 1) rfl) Try.underlying33 rfl sz33 rfl rfl⟩, ⟨_, rfl, run_load1 Try.underlying3 rfl (H86.cell (k := 2) rfl rfl)⟩, ⟨_, rfl, run_load1 Try.underlying3 rfl (H86.cell (k := 3) rfl rfl)⟩, ⟨_, rfl, run_load1 Try.underlying25 rfl (H86.cell (k := 0) rfl rfl)⟩, trivial⟩ ?_
              exact ⟨by simp only [decW, outG, Zm, tupled, M.cells, M.only, hg4, if_neg hb16, if_neg hb32, if_neg hb45, if_neg hb58, if_neg hb67, if_pos hb80, if_true, Bool.false_eq_true, if_false], H86.mask [false, false, false, false, false, false, true]⟩
            · skip
              refine l_of (s_call (wt0 rfl) (x_call rfl rfl rfl cl52) (lack_r g1 s _ _ (H66.cell (k := 5) rfl rfl) (of_decide_eq_false (decide_eq_false hb80))) ?_)
              rintro _ w87 ⟨rfl, H88⟩
              replace H88 : S w87 [Ob g25 (.cells #[.int .u8 0, .int .u8 0, .int .u8 16, .int .u8 255] 93 (0, 0)), Ob g13 (.cells #[.int .i64 0] 25 (0, 0)), Ob g10 (.cells #[.int .i64 0] 3 (0, 0)), Ob g7 (.cells #[.int .i64 0] 3 (0, 0)), Ob g4 (.cells #[.int .i64 0, .int .i64 0, .int .i64 0, .int .i64 0, .int .i64 0, .int .i64 0, .string (⟨#[]⟩), .string (⟨#[]⟩)] 33 (0, 0)), Ob g1 (.cells #[.string s] 9 (0, 0)), Old w no] := H66.absorb (new := []) H88
              refine b_ret rfl rfl ?_
              refine g_nil ?_
              refine g_then ?_
              refine g_seq ?_
              refine g_region ?_
              refine l_of (s_val (v := .string s) (wt0 rfl) rfl rfl (x_load1 H88 5 rfl rfl Try.underlying9 rfl rfl rfl) ?_)
              have hbt89 := bt'_lt s 4
              refine l_of (s_val (v := .int .u8 ((bt' s 4 : Int))) (wt0 rfl) rfl rfl (x_index 4 rfl rfl rfl Try.underlying9 (by omega)) ?_)
              refine l_of (s_val (v := .int .i64 ((bt' s 4 : Int))) (wt0 rfl) rfl rfl (x_conv rfl rfl Try.underlying5 Try.underlying3 (w64 (by omega))) ?_)
              refine l_of (s_call (wt0 rfl) (x_call' rfl rfl cl54) (kind_p _ _) ?_)
              rintro _ w90 ⟨rfl, H91⟩
              replace H91 : S w90 [Ob g25 (.cells #[.int .u8 0, .int .u8 0, .int .u8 16, .int .u8 255] 93 (0, 0)), Ob g13 (.cells #[.int .i64 0] 25 (0, 0)), Ob g10 (.cells #[.int .i64 0] 3 (0, 0)), Ob g7 (.cells #[.int .i64 0] 3 (0, 0)), Ob g4 (.cells #[.int .i64 0, .int .i64 0, .int .i64 0, .int .i64 0, .int .i64 0, .int .i64 0, .string (⟨#[]⟩), .string (⟨#[]⟩)] 33 (0, 0)), Ob g1 (.cells #[.string s] 9 (0, 0)), Old w no] := H88.absorb (new := []) (S.of_below H91)
              refine b_ret rfl rfl ?_
              refine l_of (s_val (v := .int .i64 ((kindP (bt' s 4 : Int) : Int))) (wt0 rfl) rfl rfl (x_assign rfl rfl) ?_)
              refine g_nil ?_
              refine g_then ?_
              refine g_weak [(1, .pointer (some ⟨g1, 0, none⟩)), (2, .pointer (some ⟨g4, 0, none⟩)), (3, .pointer (some ⟨g7, 0, none⟩)), (4, .pointer (some ⟨g10, 0, none⟩)), (5, .pointer (some ⟨g13, 0, none⟩)), (6, .func (.func 52) #[] #[.pointer (some ⟨g1, 0, none⟩)]), (7, .func (.func 53) #[] #[]), (10, .int .i64 ((lenW s : Int))), (11, .int .i64 ((kindP (bt' s 4 : Int) : Int)))] ⟨rfl, rfl, rfl, rfl, rfl, rfl, rfl, rfl, rfl, trivial⟩ ?_
              refine g_seq ?_
              refine g_region ?_
              refine l_of (s_val (v := .func (.func 53) #[] #[]) (wt0 rfl) rfl rfl (x_move rfl rfl) ?_)
              refine l_of (s_val (v := .int .i64 ((kindP (bt' s 4 : Int) : Int))) (wt0 rfl) rfl rfl (x_move rfl rfl) ?_)
              refine l_of (s_val (v := .bool (decide (((kindP (bt' s 4 : Int) : Int) : Int) = 0))) (wt0 rfl) rfl rfl (x_bin rfl rfl rfl b_eql) ?_)
              by_cases hb92 : ((kindP (bt' s 4 : Int) : Int) : Int) = 0
              · skip
                refine l_of (s_call (wt0 rfl) (x_call rfl rfl rfl cl53) (wrong_p _ _ _ (decide_eq_true hb92)) ?_)
                rintro _ w93 ⟨rfl, H94⟩
                replace H94 : S w93 [Ob g25 (.cells #[.int .u8 0, .int .u8 0, .int .u8 16, .int .u8 255] 93 (0, 0)), Ob g13 (.cells #[.int .i64 0] 25 (0, 0)), Ob g10 (.cells #[.int .i64 0] 3 (0, 0)), Ob g7 (.cells #[.int .i64 0] 3 (0, 0)), Ob g4 (.cells #[.int .i64 0, .int .i64 0, .int .i64 0, .int .i64 0, .int .i64 0, .int .i64 0, .string (⟨#[]⟩), .string (⟨#[]⟩)] 33 (0, 0)), Ob g1 (.cells #[.string s] 9 (0, 0)), Old w no] := H91.absorb (new := []) H94
                refine b_panic ?_
                refine g_then_panic ?_
                refine fin_dpanic ?_
                refine gl_step (by simp) cl51 (caught_p g10 g13 (4) (12) (0) (0) [] _ (H94.ob (k := 2) rfl) (H94.ob (k := 1) rfl) (H94.ne (i := 2) (j := 1) rfl rfl (by decide))) ?_
                rintro _ _ w95 ⟨⟨rfl, H96⟩, rfl⟩
                replace H96 : S w95 [Ob g10 (.cells #[.int .i64 4] 3 (0, 0)), Ob g13 (.cells #[.int .i64 12] 25 (0, 0)), Ob g25 (.cells #[.int .u8 0, .int .u8 0, .int .u8 16, .int .u8 255] 93 (0, 0)), Ob g7 (.cells #[.int .i64 0] 3 (0, 0)), Ob g4 (.cells #[.int .i64 0, .int .i64 0, .int .i64 0, .int .i64 0, .int .i64 0, .int .i64 0, .string (⟨#[]⟩), .string (⟨#[]⟩)] 33 (0, 0)), Ob g1 (.cells #[.string s] 9 (0, 0)), Old w no] := H94.absorbK (new := [Ob g10 (.cells #[.int .i64 4] 3 (0, 0)), Ob g13 (.cells #[.int .i64 12] 25 (0, 0))]) [2, 1] (by intro g hg; rcases hg with rfl | rfl; exact ⟨2, rfl, _, rfl, rfl⟩; exact ⟨1, rfl, _, rfl, rfl⟩) H96
                refine (?_ : GL _ _ _ _ _ _ FrameMode.returning _)
                refine gl_step (by simp) cl50 (clear_n g13 g4 g7 12 (0) _ _ (by decide) rfl (H96.ob (k := 1) rfl) (H96.ob (k := 4) rfl) (H96.ob (k := 3) rfl) (H96.ne (i := 1) (j := 4) rfl rfl (by decide)) (H96.ne (i := 1) (j := 3) rfl rfl (by decide)) (H96.ne (i := 4) (j := 3) rfl rfl (by decide))) ?_
                rintro _ _ w97 ⟨rfl, rfl, H98⟩
                replace H98 : S w97 [Ob g13 (.cells #[.int .i64 12] 25 (0, 0)), Ob g4 (.cells #[.int .i64 0, .int .i64 0, .int .i64 0, .int .i64 0, .int .i64 0, .int .i64 0, .string (⟨#[]⟩), .string (⟨#[]⟩)] 33 (0, 0)), Ob g7 (.cells #[.int .i64 0] 3 (0, 0)), Ob g10 (.cells #[.int .i64 4] 3 (0, 0)), Ob g25 (.cells #[.int .u8 0, .int .u8 0, .int .u8 16, .int .u8 255] 93 (0, 0)), Ob g1 (.cells #[.string s] 9 (0, 0)), Old w no] := H96.absorbK (new := [Ob g13 (.cells #[.int .i64 12] 25 (0, 0)), Ob g4 (.cells #[.int .i64 0, .int .i64 0, .int .i64 0, .int .i64 0, .int .i64 0, .int .i64 0, .string (⟨#[]⟩), .string (⟨#[]⟩)] 33 (0, 0)), Ob g7 (.cells #[.int .i64 0] 3 (0, 0))]) [1, 4, 3] (by intro g hg; simp only [List.mem_cons, List.not_mem_nil, or_false] at hg; rcases hg with rfl | rfl | rfl; exact ⟨1, rfl, _, rfl, rfl⟩; exact ⟨4, rfl, _, rfl, rfl⟩; exact ⟨3, rfl, _, rfl, rfl⟩) H98
                refine (?_ : GL _ _ _ _ _ _ FrameMode.returning _)
                refine gl_ret [.cell 2 33, .cell 3 3, .cell 4 3, .cell 5 25] [.agg #[.int .i64 0, .int .i64 0, .int .i64 0, .int .i64 0, .int .i64 0, .int .i64 0, .string (⟨#[]⟩), .string (⟨#[]⟩)], .int .i64 0, .int .i64 4, .int .i64 12] rfl ⟨⟨_, rfl, run_loadA (H98.ob (k := 1) rfl) Try.underlying33 rfl sz33 rfl rfl⟩, ⟨_, rfl, run_load1 Try.underlying3 rfl (H98.cell (k := 2) rfl rfl)⟩, ⟨_, rfl, run_load1 Try.underlying3 rfl (H98.cell (k := 3) rfl rfl)⟩, ⟨_, rfl, run_load1 Try.underlying25 rfl (H98.cell (k := 0) rfl rfl)⟩, trivial⟩ ?_
                exact ⟨by simp only [decW, outG, Zm, tupled, M.cells, M.only, hg4, if_neg hb16, if_neg hb32, if_neg hb45, if_neg hb58, if_neg hb67, if_neg hb80, if_pos hb92, if_true, Bool.false_eq_true, if_false], H98.mask [false, false, false, false, false, false, true]⟩
              · skip
                have hk := kindP_rng _ hb92
                refine l_of (s_call (wt0 rfl) (x_call rfl rfl rfl cl53) (wrong_r _ _ _ (decide_eq_false hb92)) ?_)
                rintro _ w99 ⟨rfl, H100⟩
                replace H100 : S w99 [Ob g25 (.cells #[.int .u8 0, .int .u8 0, .int .u8 16, .int .u8 255] 93 (0, 0)), Ob g13 (.cells #[.int .i64 0] 25 (0, 0)), Ob g10 (.cells #[.int .i64 0] 3 (0, 0)), Ob g7 (.cells #[.int .i64 0] 3 (0, 0)), Ob g4 (.cells #[.int .i64 0, .int .i64 0, .int .i64 0, .int .i64 0, .int .i64 0, .int .i64 0, .string (⟨#[]⟩), .string (⟨#[]⟩)] 33 (0, 0)), Ob g1 (.cells #[.string s] 9 (0, 0)), Old w no] := H91.absorb (new := []) H100
                refine b_ret rfl rfl ?_
                refine g_nil ?_
                refine g_then ?_
                refine g_seq ?_
                refine g_region ?_
                refine l_of (s_call (wt0 rfl) (x_call' rfl rfl cl46) (shapes_p _) ?_)
                rintro _ w101 ⟨shv, rfl, hsh, hsb⟩
                obtain ⟨sl, hidx, hrd⟩ := shapes_at hsh (kindP (bt' s 4 : Int)) hk.2
                obtain ⟨sA, sm, sc, rfl, hslen, hsmc, _⟩ := id hrd
                have H102 : S w101 [RO sA sm sc 6 (cellsOf (fields (kindP (bt' s 4 : Int)))), Ob g25 (.cells #[.int .u8 0, .int .u8 0, .int .u8 16, .int .u8 255] 93 (0, 0)), Ob g13 (.cells #[.int .i64 0] 25 (0, 0)), Ob g10 (.cells #[.int .i64 0] 3 (0, 0)), Ob g7 (.cells #[.int .i64 0] 3 (0, 0)), Ob g4 (.cells #[.int .i64 0, .int .i64 0, .int .i64 0, .int .i64 0, .int .i64 0, .int .i64 0, .string (⟨#[]⟩), .string (⟨#[]⟩)] 33 (0, 0)), Ob g1 (.cells #[.string s] 9 (0, 0)), Old w no] := rd_ro H100 hsb hrd
                clear hsh hrd hsb
                have hfl : (fields (kindP (bt' s 4 : Int))).length = sm := by rw [len_cellsOf] at hslen; omega
                have hfl6 := fields_len (kindP (bt' s 4 : Int))
                refine b_ret rfl rfl ?_
                refine l_of (s_val (v := .int .i64 ((kindP (bt' s 4 : Int) : Int))) (wt0 rfl) rfl rfl (x_move rfl rfl) ?_)
                refine l_of (s_val (v := .agg #[.int .i64 (numb (kindP (bt' s 4 : Int))), .slice sA sm sc]) (wt0 rfl) rfl rfl (x_indexRun rfl rfl rfl hidx) ?_)
                refine l_of (s_alloc H102 (wt0 rfl) rfl rfl rfl ze73 ?_)
                intro g103 w104 (H105 : S w104 [Ob g103 (.cells #[.int .i64 0, .slice none 0 0] 73 (0, 0)), RO sA sm sc 6 (cellsOf (fields (kindP (bt' s 4 : Int)))), Ob g25 (.cells #[.int .u8 0, .int .u8 0, .int .u8 16, .int .u8 255] 93 (0, 0)), Ob g13 (.cells #[.int .i64 0] 25 (0, 0)), Ob g10 (.cells #[.int .i64 0] 3 (0, 0)), Ob g7 (.cells #[.int .i64 0] 3 (0, 0)), Ob g4 (.cells #[.int .i64 0, .int .i64 0, .int .i64 0, .int .i64 0, .int .i64 0, .int .i64 0, .string (⟨#[]⟩), .string (⟨#[]⟩)] 33 (0, 0)), Ob g1 (.cells #[.string s] 9 (0, 0)), Old w no])
                refine l_of (s_store H105 0 (wt0 rfl) rfl rfl rfl rfl rfl sz73 rfl rfl (cs' := #[.int .i64 (numb (kindP (bt' s 4 : Int))), .slice sA sm sc]) rfl ?_)
                intro w106 (H107 : S w106 [Ob g103 (.cells #[.int .i64 (numb (kindP (bt' s 4 : Int))), .slice sA sm sc] 73 (0, 0)), RO sA sm sc 6 (cellsOf (fields (kindP (bt' s 4 : Int)))), Ob g25 (.cells #[.int .u8 0, .int .u8 0, .int .u8 16, .int .u8 255] 93 (0, 0)), Ob g13 (.cells #[.int .i64 0] 25 (0, 0)), Ob g10 (.cells #[.int .i64 0] 3 (0, 0)), Ob g7 (.cells #[.int .i64 0] 3 (0, 0)), Ob g4 (.cells #[.int .i64 0, .int .i64 0, .int .i64 0, .int .i64 0, .int .i64 0, .int .i64 0, .string (⟨#[]⟩), .string (⟨#[]⟩)] 33 (0, 0)), Ob g1 (.cells #[.string s] 9 (0, 0)), Old w no])
                refine g_nil ?_
                refine g_then ?_
                refine g_seq ?_
                refine g_region ?_
                refine l_of (s_val (v := .func (.func 53) #[] #[]) (wt0 rfl) rfl rfl (x_move rfl rfl) ?_)
                refine l_of (s_val (v := .agg #[.int .i64 (numb (kindP (bt' s 4 : Int))), .slice sA sm sc]) (wt0 rfl) rfl rfl (x_loadA H107 0 rfl rfl Try.underlying73 rfl sz73 rfl rfl rfl) ?_)
                refine l_of (s_val (v := .int .i64 ((lenW s : Int))) (wt0 rfl) rfl rfl (x_move rfl rfl) ?_)
                refine l_of (s_call (wt0 rfl) (x_call' rfl rfl cl55) (may_p _ _ _ (fields (kindP (bt' s 4 : Int))) (fields_wf _) hfl6 (by omega) (by omega) _ 0 (ro_rd (i := 1) H107 rfl)) ?_)
                rintro _ w108 ⟨rfl, H109⟩
                replace H109 : S w108 [Ob g103 (.cells #[.int .i64 (numb (kindP (bt' s 4 : Int))), .slice sA sm sc] 73 (0, 0)), RO sA sm sc 6 (cellsOf (fields (kindP (bt' s 4 : Int)))), Ob g25 (.cells #[.int .u8 0, .int .u8 0, .int .u8 16, .int .u8 255] 93 (0, 0)), Ob g13 (.cells #[.int .i64 0] 25 (0, 0)), Ob g10 (.cells #[.int .i64 0] 3 (0, 0)), Ob g7 (.cells #[.int .i64 0] 3 (0, 0)), Ob g4 (.cells #[.int .i64 0, .int .i64 0, .int .i64 0, .int .i64 0, .int .i64 0, .int .i64 0, .string (⟨#[]⟩), .string (⟨#[]⟩)] 33 (0, 0)), Ob g1 (.cells #[.string s] 9 (0, 0)), Old w no] := H107.absorb (new := []) (S.of_below H109)
                refine b_ret rfl rfl ?_
                refine l_of (s_val (v := .bool (!(mayP (fields (kindP (bt' s 4 : Int))) ((lenW s : Int) - 1)))) (wt0 rfl) rfl rfl (x_not (b := mayP (fields (kindP (bt' s 4 : Int))) ((lenW s : Int) - 1)) rfl rfl) ?_)
                rcases Bool.eq_false_or_eq_true (mayP (fields (kindP (bt' s 4 : Int))) ((lenW s : Int) - 1)) with hb110 | hb110
                · skip
                  have hmayk : mayP ((fields (kindP (bt' s 4 : Int))).drop 0) (((lenW s) : Nat) + 4 - (5 : Nat) : Int) = true := by rw [List.drop_zero, show ((((lenW s) : Nat) : Int) + 4 - ((5 : Nat) : Int)) = (((lenW s) : Nat) : Int) - 1 from by omega]; exact hb110
                  refine l_of (s_call (wt0 rfl) (x_call rfl rfl rfl cl53) (wrong_r _ _ _ (neg_of hb110)) ?_)
                  rintro _ w111 ⟨rfl, H112⟩
                  replace H112 : S w111 [Ob g103 (.cells #[.int .i64 (numb (kindP (bt' s 4 : Int))), .slice sA sm sc] 73 (0, 0)), RO sA sm sc 6 (cellsOf (fields (kindP (bt' s 4 : Int)))), Ob g25 (.cells #[.int .u8 0, .int .u8 0, .int .u8 16, .int .u8 255] 93 (0, 0)), Ob g13 (.cells #[.int .i64 0] 25 (0, 0)), Ob g10 (.cells #[.int .i64 0] 3 (0, 0)), Ob g7 (.cells #[.int .i64 0] 3 (0, 0)), Ob g4 (.cells #[.int .i64 0, .int .i64 0, .int .i64 0, .int .i64 0, .int .i64 0, .int .i64 0, .string (⟨#[]⟩), .string (⟨#[]⟩)] 33 (0, 0)), Ob g1 (.cells #[.string s] 9 (0, 0)), Old w no] := H109.absorb (new := []) H112
                  refine b_ret rfl rfl ?_
                  refine g_nil ?_
                  refine g_then ?_
                  refine g_weak [(1, .pointer (some ⟨g1, 0, none⟩)), (2, .pointer (some ⟨g4, 0, none⟩)), (3, .pointer (some ⟨g7, 0, none⟩)), (4, .pointer (some ⟨g10, 0, none⟩)), (5, .pointer (some ⟨g13, 0, none⟩)), (6, .func (.func 52) #[] #[.pointer (some ⟨g1, 0, none⟩)]), (7, .func (.func 53) #[] #[]), (10, .int .i64 ((lenW s : Int))), (11, .int .i64 ((kindP (bt' s 4 : Int) : Int))), (12, .pointer (some ⟨g103, 0, none⟩))] ⟨rfl, rfl, rfl, rfl, rfl, rfl, rfl, rfl, rfl, rfl, trivial⟩ ?_
                  refine g_seq ?_
                  refine g_region ?_
                  refine l_of (s_val (v := .int .i64 ((kindP (bt' s 4 : Int) : Int))) (wt0 rfl) rfl rfl (x_move rfl rfl) ?_)
                  refine l_of (s_val (v := .pointer (some ⟨g4, 0, none⟩)) (wt0 rfl) rfl rfl (x_fieldAddr rfl rfl fo33_0 rfl) ?_)
                  refine l_of (s_store H112 6 (wt0 rfl) rfl rfl rfl rfl rfl sz3 rfl rfl (cs' := #[.int .i64 ((kindP (bt' s 4 : Int) : Int)), .int .i64 0, .int .i64 0, .int .i64 0, .int .i64 0, .int .i64 0, .string (⟨#[]⟩), .string (⟨#[]⟩)]) rfl ?_)
                  intro w113 (H114 : S w113 [Ob g103 (.cells #[.int .i64 (numb (kindP (bt' s 4 : Int))), .slice sA sm sc] 73 (0, 0)), RO sA sm sc 6 (cellsOf (fields (kindP (bt' s 4 : Int)))), Ob g25 (.cells #[.int .u8 0, .int .u8 0, .int .u8 16, .int .u8 255] 93 (0, 0)), Ob g13 (.cells #[.int .i64 0] 25 (0, 0)), Ob g10 (.cells #[.int .i64 0] 3 (0, 0)), Ob g7 (.cells #[.int .i64 0] 3 (0, 0)), Ob g4 (.cells #[.int .i64 ((kindP (bt' s 4 : Int) : Int)), .int .i64 0, .int .i64 0, .int .i64 0, .int .i64 0, .int .i64 0, .string (⟨#[]⟩), .string (⟨#[]⟩)] 33 (0, 0)), Ob g1 (.cells #[.string s] 9 (0, 0)), Old w no])
                  refine g_nil ?_
                  refine g_then ?_
                  refine g_seq ?_
                  refine g_region ?_
                  refine l_of (s_val (v := .int .i64 5) (wt0 rfl) rfl rfl (x_assign rfl rfl) ?_)
                  refine g_nil ?_
                  refine g_then ?_
                  refine g_seq ?_
                  refine g_seq ?_
                  refine g_region ?_
                  refine l_of (s_val (v := .pointer (some ⟨g103, 1, none⟩)) (wt0 rfl) rfl rfl (x_fieldAddr rfl rfl fo73_1 rfl) ?_)
                  refine l_of (s_val (v := .slice sA sm sc) (wt0 rfl) rfl rfl (x_load1 H114 0 rfl rfl Try.underlying71 rfl rfl rfl) ?_)
                  refine l_of (s_val (v := .int .i64 ((sm : Int))) (wt0 rfl) rfl rfl (x_lenl rfl rfl Try.underlying71) ?_)
                  refine l_of (s_val (v := .int .i64 0) (wt0 rfl) rfl rfl (x_move rfl rfl) ?_)
                  refine g_nil ?_
                  refine g_then ?_
                  refine g_block ?_
                  refine g_loop (ι := Nat × Nat × M) (fun (j, a, m) => [(1, .pointer (some ⟨g1, 0, none⟩)), (2, .pointer (some ⟨g4, 0, none⟩)), (3, .pointer (some ⟨g7, 0, none⟩)), (4, .pointer (some ⟨g10, 0, none⟩)), (5, .pointer (some ⟨g13, 0, none⟩)), (6, .func (.func 52) #[] #[.pointer (some ⟨g1, 0, none⟩)]), (7, .func (.func 53) #[] #[]), (10, .int .i64 ((lenW s : Int))), (13, .int .i64 ((a : Int))), (81, .slice sA sm sc), (82, .int .i64 ((sm : Int))), (83, .int .i64 ((j : Int)))]) (fun (j, a, m) wx => (j ≤ sm) ∧ (5 ≤ a) ∧ (mayP ((fields (kindP (bt' s 4 : Int))).drop j) (((lenW s) : Nat) + 4 - (a : Nat) : Int) = true) ∧ (a ≤ 4 + (lenW s)) ∧ (decG s (lenW s) ((fields (kindP (bt' s 4 : Int))).drop j) a m = decG s (lenW s) (fields (kindP (bt' s 4 : Int))) 5 (M.only (kindP (bt' s 4 : Int)))) ∧ S wx [Ob g103 (.cells #[.int .i64 (numb (kindP (bt' s 4 : Int))), .slice sA sm sc] 73 (0, 0)), RO sA sm sc 6 (cellsOf (fields (kindP (bt' s 4 : Int)))), Ob g25 (.cells #[.int .u8 0, .int .u8 0, .int .u8 16, .int .u8 255] 93 (0, 0)), Ob g13 (.cells #[.int .i64 0] 25 (0, 0)), Ob g10 (.cells #[.int .i64 0] 3 (0, 0)), Ob g7 (.cells #[.int .i64 0] 3 (0, 0)), Ob g4 (.cells (M.cells m) 33 (0, 0)), Ob g1 (.cells #[.string s] 9 (0, 0)), Old w no]) (fun (j, a, m) => sm - j) (0, 5, (M.only (kindP (bt' s 4 : Int)))) ⟨rfl, rfl, rfl, rfl, rfl, rfl, rfl, rfl, rfl, rfl, rfl, rfl, trivial⟩ ⟨Nat.zero_le _, Nat.le_refl _, hmayk, by omega, rfl, H114⟩ ?_
                  rintro ⟨j, a, m⟩ w115 ⟨hj, ha, hmay, hale, hdg, H116⟩
                  replace H116 : S w115 [Ob g103 (.cells #[.int .i64 (numb (kindP (bt' s 4 : Int))), .slice sA sm sc] 73 (0, 0)), RO sA sm sc 6 (cellsOf (fields (kindP (bt' s 4 : Int)))), Ob g25 (.cells #[.int .u8 0, .int .u8 0, .int .u8 16, .int .u8 255] 93 (0, 0)), Ob g13 (.cells #[.int .i64 0] 25 (0, 0)), Ob g10 (.cells #[.int .i64 0] 3 (0, 0)), Ob g7 (.cells #[.int .i64 0] 3 (0, 0)), Ob g4 (.cells (M.cells m) 33 (0, 0)), Ob g1 (.cells #[.string s] 9 (0, 0)), Old w no] := H116
                  refine g_weak [(1, .pointer (some ⟨g1, 0, none⟩)), (2, .pointer (some ⟨g4, 0, none⟩)), (3, .pointer (some ⟨g7, 0, none⟩)), (4, .pointer (some ⟨g10, 0, none⟩)), (5, .pointer (some ⟨g13, 0, none⟩)), (6, .func (.func 52) #[] #[.pointer (some ⟨g1, 0, none⟩)]), (7, .func (.func 53) #[] #[]), (10, .int .i64 ((lenW s : Int))), (13, .int .i64 ((a : Int))), (81, .slice sA sm sc), (82, .int .i64 ((sm : Int))), (83, .int .i64 ((j : Int)))] ⟨rfl, rfl, rfl, rfl, rfl, rfl, rfl, rfl, rfl, rfl, rfl, rfl, trivial⟩ ?_
                  refine g_seq ?_
                  refine g_region ?_
                  refine l_of (s_val (v := .bool (decide (((j : Int) : Int) < (sm : Int)))) (wt0 rfl) rfl rfl (x_bin rfl rfl rfl b_lss) ?_)
                  refine g_nil ?_
                  refine g_then ?_
                  refine g_seq ?_
                  by_cases hb117 : ((j : Int) : Int) < (sm : Int)
                  · skip
                    refine g_cond_t rfl (decide_eq_true hb117) ?_
                    refine g_skip ?_
                    refine g_then ?_
                    refine g_seq ?_
                    refine g_block ?_
                    refine g_seq ?_
                    refine g_region ?_
                    obtain ⟨fld, hfld⟩ : ∃ fld, (fields (kindP (bt' s 4 : Int)))[j]? = some fld := ⟨_, List.getElem?_eq_getElem (by omega)⟩
                    have hwf := fields_wf _ fld (List.mem_of_getElem? hfld)
                    obtain ⟨hsize, hmay2, hle⟩ := field_step (n := (lenW s)) hfld ha hmay
                    have hds := decG_more (s := s) (n := (lenW s)) (a := a) (m := m) hfld
                    have hcl := acc_call hwf.acc
                    obtain ⟨gs, os, hsA, hsc⟩ := (H116.ro (k := 1) rfl).2.2 (by omega)
                    refine l_of (s_val (v := .pointer (some ⟨gs, os + j * 6, none⟩)) (wt0 rfl) rfl rfl (x_indexAddr j rfl (show evo _ _ = some (.slice (some ⟨gs, os, none⟩) sm sc) by rw [← hsA]; rfl) rfl Try.underlying71 sz79 (by omega) (off' := os + j * 6) rfl) ?_)
                    by_cases hoff : fld.off ≤ 5
                    · skip
                      have hsix : fld.cells = [.int .i64 (fld.size), .func (.func fld.k) #[] #[], .nilFunc, .int .i64 (fld.lo), .int .i64 (fld.hi), .int .i64 (fld.st)] := by simp only [F.cells, if_pos hoff]
                      have hsn := size_num (List.mem_of_getElem? hfld) hoff
                      have hsz2 : fld.size = (fsz fld (lenW s) a : Int) := by rw [if_neg (by omega)] at hsize; exact hsize
                      have hsc6 : ∀ i u, (fld.cells)[i]? = some u → w115.cell? ((⟨gs, os + j * 6, none⟩ : Addr).add i) = some u := fun i u hu => by rw [add_lit', Nat.add_assoc]; exact hsc _ _ (by rw [cellsOf_at _ _ _ _ hfld (by have := (List.getElem?_eq_some_iff.1 hu).1; rw [len_cells] at this; exact this)]; exact hu)
                      rw [hsix] at hsc6
                      refine l_of (s_val (v := .agg #[.int .i64 (fld.size), .func (.func fld.k) #[] #[], .nilFunc, .int .i64 (fld.lo), .int .i64 (fld.hi), .int .i64 (fld.st)]) (wt0 rfl) rfl rfl (x_loadF (vs := [.int .i64 (fld.size), .func (.func fld.k) #[] #[], .nilFunc, .int .i64 (fld.lo), .int .i64 (fld.hi), .int .i64 (fld.st)]) rfl rfl Try.underlying79 rfl sz79 rfl hsc6) ?_)
                      refine l_of (s_alloc H116 (wt0 rfl) rfl rfl rfl ze79 ?_)
                      intro g118 w119 (H120 : S w119 [Ob g118 (.cells #[.int .i64 0, .nilFunc, .nilFunc, .int .i64 0, .int .i64 0, .int .i64 0] 79 (0, 0)), Ob g103 (.cells #[.int .i64 (numb (kindP (bt' s 4 : Int))), .slice sA sm sc] 73 (0, 0)), RO sA sm sc 6 (cellsOf (fields (kindP (bt' s 4 : Int)))), Ob g25 (.cells #[.int .u8 0, .int .u8 0, .int .u8 16, .int .u8 255] 93 (0, 0)), Ob g13 (.cells #[.int .i64 0] 25 (0, 0)), Ob g10 (.cells #[.int .i64 0] 3 (0, 0)), Ob g7 (.cells #[.int .i64 0] 3 (0, 0)), Ob g4 (.cells (M.cells m) 33 (0, 0)), Ob g1 (.cells #[.string s] 9 (0, 0)), Old w no])
                      refine l_of (s_store H120 0 (wt0 rfl) rfl rfl rfl rfl rfl sz79 rfl rfl (cs' := #[.int .i64 (fld.size), .func (.func fld.k) #[] #[], .nilFunc, .int .i64 (fld.lo), .int .i64 (fld.hi), .int .i64 (fld.st)]) rfl ?_)
                      intro w121 (H122 : S w121 [Ob g118 (.cells #[.int .i64 (fld.size), .func (.func fld.k) #[] #[], .nilFunc, .int .i64 (fld.lo), .int .i64 (fld.hi), .int .i64 (fld.st)] 79 (0, 0)), Ob g103 (.cells #[.int .i64 (numb (kindP (bt' s 4 : Int))), .slice sA sm sc] 73 (0, 0)), RO sA sm sc 6 (cellsOf (fields (kindP (bt' s 4 : Int)))), Ob g25 (.cells #[.int .u8 0, .int .u8 0, .int .u8 16, .int .u8 255] 93 (0, 0)), Ob g13 (.cells #[.int .i64 0] 25 (0, 0)), Ob g10 (.cells #[.int .i64 0] 3 (0, 0)), Ob g7 (.cells #[.int .i64 0] 3 (0, 0)), Ob g4 (.cells (M.cells m) 33 (0, 0)), Ob g1 (.cells #[.string s] 9 (0, 0)), Old w no])
                      refine g_nil ?_
                      refine g_then ?_
                      refine g_seq ?_
                      refine g_region ?_
                      refine l_of (s_val (v := .pointer (some ⟨g118, 0, none⟩)) (wt0 rfl) rfl rfl (x_fieldAddr rfl rfl fo79_0 rfl) ?_)
                      refine l_of (s_val (v := .int .i64 (fld.size)) (wt0 rfl) rfl rfl (x_load1 H122 0 rfl rfl Try.underlying3 rfl rfl rfl) ?_)
                      refine l_of (s_val (v := .int .i64 ((fsz fld (lenW s) a : Int))) (wt0 rfl) rfl rfl (by rw [← hsz2]; exact x_assign rfl rfl) ?_)
                      refine g_nil ?_
                      refine g_then ?_
                      refine g_seq ?_
                      refine g_seq ?_
                      refine g_region ?_
                      refine l_of (s_val (v := .int .i64 ((fsz fld (lenW s) a : Int))) (wt0 rfl) rfl rfl (x_move rfl rfl) ?_)
                      refine l_of (s_val (v := .bool (decide (((fsz fld (lenW s) a : Int) : Int) = 0))) (wt0 rfl) rfl rfl (x_bin rfl rfl rfl b_eql) ?_)
                      refine g_nil ?_
                      refine g_then ?_
                      refine g_cond_f rfl (decide_eq_false (by omega)) ?_
                      refine g_skip ?_
                      refine g_then ?_
                      refine g_seq ?_
                      refine g_region ?_
                      refine l_of (s_val (v := .func (.func 52) #[] #[.pointer (some ⟨g1, 0, none⟩)]) (wt0 rfl) rfl rfl (x_move rfl rfl) ?_)
                      refine l_of (s_val (v := .int .i64 ((a : Int))) (wt0 rfl) rfl rfl (x_move rfl rfl) ?_)
                      refine l_of (s_val (v := .int .i64 ((fsz fld (lenW s) a : Int))) (wt0 rfl) rfl rfl (x_move rfl rfl) ?_)
                      refine l_of (s_val (v := .int .i64 ((a : Int) + (fsz fld (lenW s) a : Int))) (wt0 rfl) rfl rfl (x_bin rfl rfl rfl (b_add (w64 (by omega)))) ?_)
                      by_cases hb123 : ((s.size : Int) : Int) < (a : Int) + (fsz fld (lenW s) a : Int)
                      · skip
                        refine l_of (s_call (wt0 rfl) (x_call rfl rfl rfl cl52) (lack_p g1 s _ _ (H122.cell (k := 8) rfl rfl) (of_decide_eq_true (decide_eq_true hb123))) ?_)
                        rintro _ w124 ⟨rfl, H125⟩
                        replace H125 : S w124 [Ob g118 (.cells #[.int .i64 (fld.size), .func (.func fld.k) #[] #[], .nilFunc, .int .i64 (fld.lo), .int .i64 (fld.hi), .int .i64 (fld.st)] 79 (0, 0)), Ob g103 (.cells #[.int .i64 (numb (kindP (bt' s 4 : Int))), .slice sA sm sc] 73 (0, 0)), RO sA sm sc 6 (cellsOf (fields (kindP (bt' s 4 : Int)))), Ob g25 (.cells #[.int .u8 0, .int .u8 0, .int .u8 16, .int .u8 255] 93 (0, 0)), Ob g13 (.cells #[.int .i64 0] 25 (0, 0)), Ob g10 (.cells #[.int .i64 0] 3 (0, 0)), Ob g7 (.cells #[.int .i64 0] 3 (0, 0)), Ob g4 (.cells (M.cells m) 33 (0, 0)), Ob g1 (.cells #[.string s] 9 (0, 0)), Old w no] := H122.absorb (new := []) H125
                        refine b_panic ?_
                        refine g_then_panic ?_
                        refine g_in_panic ?_
                        refine g_then_panic ?_
                        refine g_then_panic ?_
                        refine g_in_panic ?_
                        refine g_then_panic ?_
                        refine fin_dpanic ?_
                        refine gl_step (by simp) cl51 (caught_p g10 g13 ((s.size : Int)) (8) (0) (0) [] _ (H125.ob (k := 5) rfl) (H125.ob (k := 4) rfl) (H125.ne (i := 5) (j := 4) rfl rfl (by decide))) ?_
                        rintro _ _ w126 ⟨⟨rfl, H127⟩, rfl⟩
                        replace H127 : S w126 [Ob g10 (.cells #[.int .i64 ((s.size : Int))] 3 (0, 0)), Ob g13 (.cells #[.int .i64 8] 25 (0, 0)), Ob g118 (.cells #[.int .i64 (fld.size), .func (.func fld.k) #[] #[], .nilFunc, .int .i64 (fld.lo), .int .i64 (fld.hi), .int .i64 (fld.st)] 79 (0, 0)), Ob g103 (.cells #[.int .i64 (numb (kindP (bt' s 4 : Int))), .slice sA sm sc] 73 (0, 0)), RO sA sm sc 6 (cellsOf (fields (kindP (bt' s 4 : Int)))), Ob g25 (.cells #[.int .u8 0, .int .u8 0, .int .u8 16, .int .u8 255] 93 (0, 0)), Ob g7 (.cells #[.int .i64 0] 3 (0, 0)), Ob g4 (.cells (M.cells m) 33 (0, 0)), Ob g1 (.cells #[.string s] 9 (0, 0)), Old w no] := H125.absorbK (new := [Ob g10 (.cells #[.int .i64 ((s.size : Int))] 3 (0, 0)), Ob g13 (.cells #[.int .i64 8] 25 (0, 0))]) [5, 4] (by intro g hg; rcases hg with rfl | rfl; exact ⟨5, rfl, _, rfl, rfl⟩; exact ⟨4, rfl, _, rfl, rfl⟩) H127
                        refine (?_ : GL _ _ _ _ _ _ FrameMode.returning _)
                        refine gl_step (by simp) cl50 (clear_n g13 g4 g7 8 (0) _ _ (by decide) rfl (H127.ob (k := 1) rfl) (H127.ob (k := 7) rfl) (H127.ob (k := 6) rfl) (H127.ne (i := 1) (j := 7) rfl rfl (by decide)) (H127.ne (i := 1) (j := 6) rfl rfl (by decide)) (H127.ne (i := 7) (j := 6) rfl rfl (by decide))) ?_
                        rintro _ _ w128 ⟨rfl, rfl, H129⟩
                        replace H129 : S w128 [Ob g13 (.cells #[.int .i64 8] 25 (0, 0)), Ob g4 (.cells #[.int .i64 0, .int .i64 0, .int .i64 0, .int .i64 0, .int .i64 0, .int .i64 0, .string (⟨#[]⟩), .string (⟨#[]⟩)] 33 (0, 0)), Ob g7 (.cells #[.int .i64 0] 3 (0, 0)), Ob g10 (.cells #[.int .i64 ((s.size : Int))] 3 (0, 0)), Ob g118 (.cells #[.int .i64 (fld.size), .func (.func fld.k) #[] #[], .nilFunc, .int .i64 (fld.lo), .int .i64 (fld.hi), .int .i64 (fld.st)] 79 (0, 0)), Ob g103 (.cells #[.int .i64 (numb (kindP (bt' s 4 : Int))), .slice sA sm sc] 73 (0, 0)), RO sA sm sc 6 (cellsOf (fields (kindP (bt' s 4 : Int)))), Ob g25 (.cells #[.int .u8 0, .int .u8 0, .int .u8 16, .int .u8 255] 93 (0, 0)), Ob g1 (.cells #[.string s] 9 (0, 0)), Old w no] := H127.absorbK (new := [Ob g13 (.cells #[.int .i64 8] 25 (0, 0)), Ob g4 (.cells #[.int .i64 0, .int .i64 0, .int .i64 0, .int .i64 0, .int .i64 0, .int .i64 0, .string (⟨#[]⟩), .string (⟨#[]⟩)] 33 (0, 0)), Ob g7 (.cells #[.int .i64 0] 3 (0, 0))]) [1, 7, 6] (by intro g hg; simp only [List.mem_cons, List.not_mem_nil, or_false] at hg; rcases hg with rfl | rfl | rfl; exact ⟨1, rfl, _, rfl, rfl⟩; exact ⟨7, rfl, _, rfl, rfl⟩; exact ⟨6, rfl, _, rfl, rfl⟩) H129
                        refine (?_ : GL _ _ _ _ _ _ FrameMode.returning _)
                        refine gl_ret [.cell 2 33, .cell 3 3, .cell 4 3, .cell 5 25] [.agg #[.int .i64 0, .int .i64 0, .int .i64 0, .int .i64 0, .int .i64 0, .int .i64 0, .string (⟨#[]⟩), .string (⟨#[]⟩)], .int .i64 0, .int .i64 ((s.size : Int)), .int .i64 8] rfl ⟨⟨_, rfl, run_loadA (H129.ob (k := 1) rfl) Try.underlying33 rfl sz33 rfl rfl⟩, ⟨_, rfl, run_load1 Try.underlying3 rfl (H129.cell (k := 2) rfl rfl)⟩, ⟨_, rfl, run_load1 Try.underlying3 rfl (H129.cell (k := 3) rfl rfl)⟩, ⟨_, rfl, run_load1 Try.underlying25 rfl (H129.cell (k := 0) rfl rfl)⟩, trivial⟩ ?_
                        have hdd : decG s (lenW s) (fields (kindP (bt' s 4 : Int))) 5 (M.only (kindP (bt' s 4 : Int))) = .inl (s.size, 8) := by rw [← hdg, hds, if_pos (by omega)]
                        exact ⟨by simp only [decW, outG, Zm, tupled, M.cells, hg4, hdd, if_neg hb16, if_neg hb32, if_neg hb45, if_neg hb58, if_neg hb67, if_neg hb80, if_neg hb92, hb110, if_pos hb117, if_pos hb123, if_true, Bool.false_eq_true, if_false], H129.mask [false, false, false, false, false, false, false, false, false, true]⟩
                      · skip
                        refine l_of (s_call (wt0 rfl) (x_call rfl rfl rfl cl52) (lack_r g1 s _ _ (H122.cell (k := 8) rfl rfl) (of_decide_eq_false (decide_eq_false hb123))) ?_)
                        rintro _ w130 ⟨rfl, H131⟩
                        replace H131 : S w130 [Ob g118 (.cells #[.int .i64 (fld.size), .func (.func fld.k) #[] #[], .nilFunc, .int .i64 (fld.lo), .int .i64 (fld.hi), .int .i64 (fld.st)] 79 (0, 0)), Ob g103 (.cells #[.int .i64 (numb (kindP (bt' s 4 : Int))), .slice sA sm sc] 73 (0, 0)), RO sA sm sc 6 (cellsOf (fields (kindP (bt' s 4 : Int)))), Ob g25 (.cells #[.int .u8 0, .int .u8 0, .int .u8 16, .int .u8 255] 93 (0, 0)), Ob g13 (.cells #[.int .i64 0] 25 (0, 0)), Ob g10 (.cells #[.int .i64 0] 3 (0, 0)), Ob g7 (.cells #[.int .i64 0] 3 (0, 0)), Ob g4 (.cells (M.cells m) 33 (0, 0)), Ob g1 (.cells #[.string s] 9 (0, 0)), Old w no] := H122.absorb (new := []) H131
                        refine b_ret rfl rfl ?_
                        refine g_nil ?_
                        refine g_then ?_
                        refine g_weak [(1, .pointer (some ⟨g1, 0, none⟩)), (2, .pointer (some ⟨g4, 0, none⟩)), (3, .pointer (some ⟨g7, 0, none⟩)), (4, .pointer (some ⟨g10, 0, none⟩)), (5, .pointer (some ⟨g13, 0, none⟩)), (6, .func (.func 52) #[] #[.pointer (some ⟨g1, 0, none⟩)]), (7, .func (.func 53) #[] #[]), (10, .int .i64 ((lenW s : Int))), (13, .int .i64 ((a : Int))), (15, .pointer (some ⟨g118, 0, none⟩)), (16, .int .i64 ((fsz fld (lenW s) a : Int))), (81, .slice sA sm sc), (82, .int .i64 ((sm : Int))), (83, .int .i64 ((j : Int)))] ⟨rfl, rfl, rfl, rfl, rfl, rfl, rfl, rfl, rfl, rfl, rfl, rfl, rfl, rfl, trivial⟩ ?_
                        refine g_seq ?_
                        refine g_seq ?_
                        refine g_region ?_
                        refine l_of (s_val (v := .pointer (some ⟨g118, 1, none⟩)) (wt0 rfl) rfl rfl (x_fieldAddr rfl rfl fo79_1 rfl) ?_)
                        refine l_of (s_val (v := .func (.func fld.k) #[] #[]) (wt0 rfl) rfl rfl (x_load1 H131 0 rfl rfl Try.underlying76 rfl rfl rfl) ?_)
                        refine l_of (s_val (v := .bool false) (wt0 rfl) rfl rfl (x_bin rfl rfl rfl (b_eqN (r := false) Try.underlying76 rfl)) ?_)
                        refine g_nil ?_
                        refine g_then ?_
                        refine g_cond_f rfl rfl ?_
                        refine g_seq ?_
                        refine g_region ?_
                        refine l_of (s_val (v := .int .i64 0) (wt0 rfl) rfl rfl (x_assign rfl rfl) ?_)
                        refine g_nil ?_
                        refine g_then ?_
                        refine g_seq ?_
                        refine g_seq ?_
                        refine g_region ?_
                        refine l_of (s_val (v := .int .i64 ((fsz fld (lenW s) a : Int))) (wt0 rfl) rfl rfl (x_move rfl rfl) ?_)
                        refine l_of (s_val (v := .int .i64 0) (wt0 rfl) rfl rfl (x_move rfl rfl) ?_)
                        refine g_nil ?_
                        refine g_then ?_
                        refine g_block ?_
                        refine g_loop (ι := Nat) (fun i => [(1, .pointer (some ⟨g1, 0, none⟩)), (2, .pointer (some ⟨g4, 0, none⟩)), (3, .pointer (some ⟨g7, 0, none⟩)), (4, .pointer (some ⟨g10, 0, none⟩)), (5, .pointer (some ⟨g13, 0, none⟩)), (6, .func (.func 52) #[] #[.pointer (some ⟨g1, 0, none⟩)]), (7, .func (.func 53) #[] #[]), (10, .int .i64 ((lenW s : Int))), (13, .int .i64 ((a : Int))), (15, .pointer (some ⟨g118, 0, none⟩)), (16, .int .i64 ((fsz fld (lenW s) a : Int))), (17, .int .i64 ((beTo s a i : Int))), (81, .slice sA sm sc), (82, .int .i64 ((sm : Int))), (83, .int .i64 ((j : Int))), (113, .int .i64 ((fsz fld (lenW s) a : Int))), (114, .int .i64 ((i : Int)))]) (fun i wx => (i ≤ fsz fld (lenW s) a) ∧ S wx [Ob g118 (.cells #[.int .i64 (fld.size), .func (.func fld.k) #[] #[], .nilFunc, .int .i64 (fld.lo), .int .i64 (fld.hi), .int .i64 (fld.st)] 79 (0, 0)), Ob g103 (.cells #[.int .i64 (numb (kindP (bt' s 4 : Int))), .slice sA sm sc] 73 (0, 0)), RO sA sm sc 6 (cellsOf (fields (kindP (bt' s 4 : Int)))), Ob g25 (.cells #[.int .u8 0, .int .u8 0, .int .u8 16, .int .u8 255] 93 (0, 0)), Ob g13 (.cells #[.int .i64 0] 25 (0, 0)), Ob g10 (.cells #[.int .i64 0] 3 (0, 0)), Ob g7 (.cells #[.int .i64 0] 3 (0, 0)), Ob g4 (.cells (M.cells m) 33 (0, 0)), Ob g1 (.cells #[.string s] 9 (0, 0)), Old w no]) (fun i => fsz fld (lenW s) a - i) (0) ⟨rfl, rfl, rfl, rfl, rfl, rfl, rfl, rfl, rfl, rfl, rfl, rfl, rfl, rfl, rfl, rfl, rfl, trivial⟩ ⟨by omega, H131⟩ ?_
                        rintro i w132 ⟨hi, H133⟩
                        replace H133 : S w132 [Ob g118 (.cells #[.int .i64 (fld.size), .func (.func fld.k) #[] #[], .nilFunc, .int .i64 (fld.lo), .int .i64 (fld.hi), .int .i64 (fld.st)] 79 (0, 0)), Ob g103 (.cells #[.int .i64 (numb (kindP (bt' s 4 : Int))), .slice sA sm sc] 73 (0, 0)), RO sA sm sc 6 (cellsOf (fields (kindP (bt' s 4 : Int)))), Ob g25 (.cells #[.int .u8 0, .int .u8 0, .int .u8 16, .int .u8 255] 93 (0, 0)), Ob g13 (.cells #[.int .i64 0] 25 (0, 0)), Ob g10 (.cells #[.int .i64 0] 3 (0, 0)), Ob g7 (.cells #[.int .i64 0] 3 (0, 0)), Ob g4 (.cells (M.cells m) 33 (0, 0)), Ob g1 (.cells #[.string s] 9 (0, 0)), Old w no] := H133
                        refine g_weak [(1, .pointer (some ⟨g1, 0, none⟩)), (2, .pointer (some ⟨g4, 0, none⟩)), (3, .pointer (some ⟨g7, 0, none⟩)), (4, .pointer (some ⟨g10, 0, none⟩)), (5, .pointer (some ⟨g13, 0, none⟩)), (6, .func (.func 52) #[] #[.pointer (some ⟨g1, 0, none⟩)]), (7, .func (.func 53) #[] #[]), (10, .int .i64 ((lenW s : Int))), (13, .int .i64 ((a : Int))), (15, .pointer (some ⟨g118, 0, none⟩)), (16, .int .i64 ((fsz fld (lenW s) a : Int))), (17, .int .i64 ((beTo s a i : Int))), (81, .slice sA sm sc), (82, .int .i64 ((sm : Int))), (83, .int .i64 ((j : Int))), (113, .int .i64 ((fsz fld (lenW s) a : Int))), (114, .int .i64 ((i : Int)))] ⟨rfl, rfl, rfl, rfl, rfl, rfl, rfl, rfl, rfl, rfl, rfl, rfl, rfl, rfl, rfl, rfl, rfl, trivial⟩ ?_
                        have hbl := beTo_lt4 s a i (by rcases hsn with h | h | h <;> simp only [fsz, h] at hi <;> first | omega | (simp at hi; omega))
                        refine g_seq ?_
                        refine g_region ?_
                        refine l_of (s_val (v := .bool (decide (((i : Int) : Int) < (fsz fld (lenW s) a : Int)))) (wt0 rfl) rfl rfl (x_bin rfl rfl rfl b_lss) ?_)
                        refine g_nil ?_
                        refine g_then ?_
                        refine g_seq ?_
                        by_cases hb134 : ((i : Int) : Int) < (fsz fld (lenW s) a : Int)
                        · skip
                          refine g_cond_t rfl (decide_eq_true hb134) ?_
                          refine g_skip ?_
                          refine g_then ?_
                          refine g_seq ?_
                          refine g_block ?_
                          refine g_seq ?_
                          refine g_region ?_
                          refine l_of (s_val (v := .int .i64 ((i : Int))) (wt0 rfl) rfl rfl (x_move rfl rfl) ?_)
                          refine l_of (s_val (v := .int .i64 ((i : Int))) (wt0 rfl) rfl rfl (x_assign rfl rfl) ?_)
                          refine g_nil ?_
                          refine g_then ?_
                          refine g_region ?_
                          refine l_of (s_val (v := .int .i64 ((beTo s a i : Int))) (wt0 rfl) rfl rfl (x_move rfl rfl) ?_)
                          refine l_of (s_val (v := .int .i64 (((beTo s a i * 256 : Nat) : Int))) (wt0 rfl) rfl rfl (x_bin rfl rfl rfl (b_shl (shl8 (beTo s a i) (by omega)))) ?_)
                          refine l_of (s_val (v := .string s) (wt0 rfl) rfl rfl (x_load1 H133 8 rfl rfl Try.underlying9 rfl rfl rfl) ?_)
                          refine l_of (s_val (v := .int .i64 ((a : Int))) (wt0 rfl) rfl rfl (x_move rfl rfl) ?_)
                          refine l_of (s_val (v := .int .i64 ((i : Int))) (wt0 rfl) rfl rfl (x_move rfl rfl) ?_)
                          refine l_of (s_val (v := .int .i64 ((a : Int) + (i : Int))) (wt0 rfl) rfl rfl (x_bin rfl rfl rfl (b_add (w64 (by omega)))) ?_)
                          have hbt135 := bt'_lt s (a + i)
                          refine l_of (s_val (v := .int .u8 ((bt' s (a + i) : Int))) (wt0 rfl) rfl rfl (x_index (a + i) rfl rfl rfl Try.underlying9 (by omega)) ?_)
                          refine l_of (s_val (v := .int .i64 ((bt' s (a + i) : Int))) (wt0 rfl) rfl rfl (x_conv rfl rfl Try.underlying5 Try.underlying3 (w64 (by omega))) ?_)
                          refine l_of (s_val (v := .int .i64 (((beTo s a i * 256 + bt' s (a + i) : Nat) : Int))) (wt0 rfl) rfl rfl (x_bin rfl rfl rfl (b_orByte (a := beTo s a i) (b := bt' s (a + i)) (by omega) (by omega))) ?_)
                          refine l_of (s_val (v := .int .i64 (((beTo s a i * 256 + bt' s (a + i) : Nat) : Int))) (wt0 rfl) rfl rfl (x_assign rfl rfl) ?_)
                          refine g_nil ?_
                          refine g_in ?_
                          refine g_then ?_
                          refine g_weak [(1, .pointer (some ⟨g1, 0, none⟩)), (2, .pointer (some ⟨g4, 0, none⟩)), (3, .pointer (some ⟨g7, 0, none⟩)), (4, .pointer (some ⟨g10, 0, none⟩)), (5, .pointer (some ⟨g13, 0, none⟩)), (6, .func (.func 52) #[] #[.pointer (some ⟨g1, 0, none⟩)]), (7, .func (.func 53) #[] #[]), (10, .int .i64 ((lenW s : Int))), (13, .int .i64 ((a : Int))), (15, .pointer (some ⟨g118, 0, none⟩)), (16, .int .i64 ((fsz fld (lenW s) a : Int))), (17, .int .i64 (((beTo s a i * 256 + bt' s (a + i) : Nat) : Int))), (81, .slice sA sm sc), (82, .int .i64 ((sm : Int))), (83, .int .i64 ((j : Int))), (113, .int .i64 ((fsz fld (lenW s) a : Int))), (114, .int .i64 ((i : Int)))] ⟨rfl, rfl, rfl, rfl, rfl, rfl, rfl, rfl, rfl, rfl, rfl, rfl, rfl, rfl, rfl, rfl, rfl, trivial⟩ ?_
                          refine g_region ?_
                          refine l_of (s_val (v := .int .i64 ((i : Int) + 1)) (wt0 rfl) rfl rfl (x_bin rfl rfl rfl (b_add (w64 (by omega)))) ?_)
                          refine l_of (s_val (v := .int .i64 ((i : Int) + 1)) (wt0 rfl) rfl rfl (x_move rfl rfl) ?_)
                          refine g_nil ?_
                          refine g_then ?_
                          refine g_round (i := (i)) (i + 1) ?_ ?_ ?_
                          · exact ⟨rfl, rfl, rfl, rfl, rfl, rfl, rfl, rfl, rfl, rfl, rfl, rfl, rfl, rfl, rfl, rfl, rfl, trivial⟩
                          · exact ⟨by omega, H133⟩
                          · (try dsimp only); omega
                        · skip
                          have hie : i = fsz fld (lenW s) a := by omega
                          subst hie
                          refine g_cond_f rfl (decide_eq_false hb134) ?_
                          refine g_exit ?_
                          refine g_then_exit ?_
                          refine g_then_exit ?_
                          refine g_in_hit ?_
                          refine g_then ?_
                          refine g_seq ?_
                          refine g_region ?_
                          refine l_of (s_val (v := .pointer (some ⟨g118, 1, none⟩)) (wt0 rfl) rfl rfl (x_fieldAddr rfl rfl fo79_1 rfl) ?_)
                          refine l_of (s_val (v := .func (.func fld.k) #[] #[]) (wt0 rfl) rfl rfl (x_load1 H133 0 rfl rfl Try.underlying76 rfl rfl rfl) ?_)
                          refine l_of (s_call (wt0 rfl) (x_call rfl rfl rfl hcl) (acc_p fld.k fld.off hwf.acc g4 _) ?_)
                          rintro _ _ ⟨rfl, rfl⟩
                          refine b_ret rfl rfl ?_
                          refine l_of (s_val (v := .int .i64 ((beTo s a (fsz fld (lenW s) a) : Int))) (wt0 rfl) rfl rfl (x_move rfl rfl) ?_)
                          refine l_of (s_val (v := .pointer (some ⟨g4, fld.off, none⟩)) (wt0 rfl) rfl rfl (x_nilCheck rfl rfl) ?_)
                          have hc140 : (M.cells m).setIfInBounds fld.off (.int .i64 ((beTo s a (fsz fld (lenW s) a) : Int))) = M.cells (M.setNum m fld.off (beTo s a (fsz fld (lenW s) a))) := set_num m hwf hoff _
                          refine l_of (s_store1 H133 7 (wt0 rfl) rfl rfl rfl rfl rfl sz3 rfl rfl (by rw [cells_size]; have := off_num hwf hoff; omega) ?_)
                          rw [hc140]
                          intro w138 (H139 : S w138 [Ob g118 (.cells #[.int .i64 (fld.size), .func (.func fld.k) #[] #[], .nilFunc, .int .i64 (fld.lo), .int .i64 (fld.hi), .int .i64 (fld.st)] 79 (0, 0)), Ob g103 (.cells #[.int .i64 (numb (kindP (bt' s 4 : Int))), .slice sA sm sc] 73 (0, 0)), RO sA sm sc 6 (cellsOf (fields (kindP (bt' s 4 : Int)))), Ob g25 (.cells #[.int .u8 0, .int .u8 0, .int .u8 16, .int .u8 255] 93 (0, 0)), Ob g13 (.cells #[.int .i64 0] 25 (0, 0)), Ob g10 (.cells #[.int .i64 0] 3 (0, 0)), Ob g7 (.cells #[.int .i64 0] 3 (0, 0)), Ob g4 (.cells (M.cells (M.setNum m fld.off (beTo s a (fsz fld (lenW s) a)))) 33 (0, 0)), Ob g1 (.cells #[.string s] 9 (0, 0)), Old w no])
                          refine g_nil ?_
                          refine g_then ?_
                          refine g_region ?_
                          refine l_of (s_val (v := .func (.func 53) #[] #[]) (wt0 rfl) rfl rfl (x_move rfl rfl) ?_)
                          refine l_of (s_val (v := .agg #[.int .i64 (fld.size), .func (.func fld.k) #[] #[], .nilFunc, .int .i64 (fld.lo), .int .i64 (fld.hi), .int .i64 (fld.st)]) (wt0 rfl) rfl rfl (x_loadA H139 0 rfl rfl Try.underlying79 rfl sz79 rfl rfl rfl) ?_)
                          refine l_of (s_call (wt0 rfl) (x_call' rfl rfl cl56) (right_num fld.k fld.off hwf.acc _ _ _ _ (beTo s a (fsz fld (lenW s) a)) _ _ (H139.cell (k := 7) rfl (by rw [cells_num _ hwf hoff, num_setNum hwf hoff])) (H139.lt (k := 7) (it := Ob g4 _) rfl rfl)) ?_)
                          rintro _ w141 ⟨rfl, H142⟩
                          replace H142 : S w141 [Ob g118 (.cells #[.int .i64 (fld.size), .func (.func fld.k) #[] #[], .nilFunc, .int .i64 (fld.lo), .int .i64 (fld.hi), .int .i64 (fld.st)] 79 (0, 0)), Ob g103 (.cells #[.int .i64 (numb (kindP (bt' s 4 : Int))), .slice sA sm sc] 73 (0, 0)), RO sA sm sc 6 (cellsOf (fields (kindP (bt' s 4 : Int)))), Ob g25 (.cells #[.int .u8 0, .int .u8 0, .int .u8 16, .int .u8 255] 93 (0, 0)), Ob g13 (.cells #[.int .i64 0] 25 (0, 0)), Ob g10 (.cells #[.int .i64 0] 3 (0, 0)), Ob g7 (.cells #[.int .i64 0] 3 (0, 0)), Ob g4 (.cells (M.cells (M.setNum m fld.off (beTo s a (fsz fld (lenW s) a)))) 33 (0, 0)), Ob g1 (.cells #[.string s] 9 (0, 0)), Old w no] := H139.absorb (new := []) (S.of_below H142)
                          refine b_ret rfl rfl ?_
                          refine l_of (s_val (v := .bool (!(okNum fld.lo fld.hi (beTo s a (fsz fld (lenW s) a) : Int)))) (wt0 rfl) rfl rfl (x_not (b := okNum fld.lo fld.hi (beTo s a (fsz fld (lenW s) a) : Int)) rfl rfl) ?_)
                          refine l_of (s_val (v := .int .i64 ((a : Int))) (wt0 rfl) rfl rfl (x_move rfl rfl) ?_)
                          rcases Bool.eq_false_or_eq_true (okNum fld.lo fld.hi (beTo s a (fsz fld (lenW s) a) : Int)) with hb143 | hb143
                          · skip
                            refine l_of (s_call (wt0 rfl) (x_call rfl rfl rfl cl53) (wrong_r _ _ _ (neg_of hb143)) ?_)
                            rintro _ w144 ⟨rfl, H145⟩
                            replace H145 : S w144 [Ob g118 (.cells #[.int .i64 (fld.size), .func (.func fld.k) #[] #[], .nilFunc, .int .i64 (fld.lo), .int .i64 (fld.hi), .int .i64 (fld.st)] 79 (0, 0)), Ob g103 (.cells #[.int .i64 (numb (kindP (bt' s 4 : Int))), .slice sA sm sc] 73 (0, 0)), RO sA sm sc 6 (cellsOf (fields (kindP (bt' s 4 : Int)))), Ob g25 (.cells #[.int .u8 0, .int .u8 0, .int .u8 16, .int .u8 255] 93 (0, 0)), Ob g13 (.cells #[.int .i64 0] 25 (0, 0)), Ob g10 (.cells #[.int .i64 0] 3 (0, 0)), Ob g7 (.cells #[.int .i64 0] 3 (0, 0)), Ob g4 (.cells (M.cells (M.setNum m fld.off (beTo s a (fsz fld (lenW s) a)))) 33 (0, 0)), Ob g1 (.cells #[.string s] 9 (0, 0)), Old w no] := H142.absorb (new := []) H145
                            refine b_ret rfl rfl ?_
                            refine g_nil ?_
                            refine g_then ?_
                            refine g_weak [(1, .pointer (some ⟨g1, 0, none⟩)), (2, .pointer (some ⟨g4, 0, none⟩)), (3, .pointer (some ⟨g7, 0, none⟩)), (4, .pointer (some ⟨g10, 0, none⟩)), (5, .pointer (some ⟨g13, 0, none⟩)), (6, .func (.func 52) #[] #[.pointer (some ⟨g1, 0, none⟩)]), (7, .func (.func 53) #[] #[]), (10, .int .i64 ((lenW s : Int))), (13, .int .i64 ((a : Int))), (16, .int .i64 ((fsz fld (lenW s) a : Int))), (81, .slice sA sm sc), (82, .int .i64 ((sm : Int))), (83, .int .i64 ((j : Int)))] ⟨rfl, rfl, rfl, rfl, rfl, rfl, rfl, rfl, rfl, rfl, rfl, rfl, rfl, trivial⟩ ?_
                            refine g_region ?_
                            refine l_of (s_val (v := .int .i64 ((a : Int))) (wt0 rfl) rfl rfl (x_move rfl rfl) ?_)
                            refine l_of (s_val (v := .int .i64 ((fsz fld (lenW s) a : Int))) (wt0 rfl) rfl rfl (x_move rfl rfl) ?_)
                            refine l_of (s_val (v := .int .i64 ((a : Int) + (fsz fld (lenW s) a : Int))) (wt0 rfl) rfl rfl (x_bin rfl rfl rfl (b_add (w64 (by omega)))) ?_)
                            refine l_of (s_val (v := .int .i64 ((a : Int) + (fsz fld (lenW s) a : Int))) (wt0 rfl) rfl rfl (x_assign rfl rfl) ?_)
                            refine g_nil ?_
                            refine g_in ?_
                            refine g_then ?_
                            refine g_region ?_
                            refine l_of (s_val (v := .int .i64 ((j : Int) + 1)) (wt0 rfl) rfl rfl (x_bin rfl rfl rfl (b_add (w64 (by omega)))) ?_)
                            refine l_of (s_val (v := .int .i64 ((j : Int) + 1)) (wt0 rfl) rfl rfl (x_move rfl rfl) ?_)
                            refine g_nil ?_
                            refine g_then ?_
                            refine g_round (i := (j, a, m)) (j + 1, (a + fsz fld (lenW s) a), (M.setNum m fld.off (beTo s a (fsz fld (lenW s) a)))) ?_ ?_ ?_
                            · exact ⟨rfl, rfl, rfl, rfl, rfl, rfl, rfl, rfl, rfl, rfl, rfl, rfl, trivial⟩
                            · exact ⟨by omega, by omega, hmay2, by omega, by rw [← hdg, hds]; rw [if_neg (by omega), if_pos hoff, if_pos hb143], (H145.mask [false, true, true, true, true, true, true, true, true, true])⟩
                            · (try dsimp only); omega
                          · skip
                            refine l_of (s_call (wt0 rfl) (x_call rfl rfl rfl cl53) (wrong_p _ _ _ (neg_of hb143)) ?_)
                            rintro _ w146 ⟨rfl, H147⟩
                            replace H147 : S w146 [Ob g118 (.cells #[.int .i64 (fld.size), .func (.func fld.k) #[] #[], .nilFunc, .int .i64 (fld.lo), .int .i64 (fld.hi), .int .i64 (fld.st)] 79 (0, 0)), Ob g103 (.cells #[.int .i64 (numb (kindP (bt' s 4 : Int))), .slice sA sm sc] 73 (0, 0)), RO sA sm sc 6 (cellsOf (fields (kindP (bt' s 4 : Int)))), Ob g25 (.cells #[.int .u8 0, .int .u8 0, .int .u8 16, .int .u8 255] 93 (0, 0)), Ob g13 (.cells #[.int .i64 0] 25 (0, 0)), Ob g10 (.cells #[.int .i64 0] 3 (0, 0)), Ob g7 (.cells #[.int .i64 0] 3 (0, 0)), Ob g4 (.cells (M.cells (M.setNum m fld.off (beTo s a (fsz fld (lenW s) a)))) 33 (0, 0)), Ob g1 (.cells #[.string s] 9 (0, 0)), Old w no] := H142.absorb (new := []) H147
                            refine b_panic ?_
                            refine g_then_panic ?_
                            refine g_in_panic ?_
                            refine g_then_panic ?_
                            refine g_then_panic ?_
                            refine g_in_panic ?_
                            refine g_then_panic ?_
                            refine fin_dpanic ?_
                            refine gl_step (by simp) cl51 (caught_p g10 g13 ((a : Int)) (12) (0) (0) [] _ (H147.ob (k := 5) rfl) (H147.ob (k := 4) rfl) (H147.ne (i := 5) (j := 4) rfl rfl (by decide))) ?_
                            rintro _ _ w148 ⟨⟨rfl, H149⟩, rfl⟩
                            replace H149 : S w148 [Ob g10 (.cells #[.int .i64 ((a : Int))] 3 (0, 0)), Ob g13 (.cells #[.int .i64 12] 25 (0, 0)), Ob g118 (.cells #[.int .i64 (fld.size), .func (.func fld.k) #[] #[], .nilFunc, .int .i64 (fld.lo), .int .i64 (fld.hi), .int .i64 (fld.st)] 79 (0, 0)), Ob g103 (.cells #[.int .i64 (numb (kindP (bt' s 4 : Int))), .slice sA sm sc] 73 (0, 0)), RO sA sm sc 6 (cellsOf (fields (kindP (bt' s 4 : Int)))), Ob g25 (.cells #[.int .u8 0, .int .u8 0, .int .u8 16, .int .u8 255] 93 (0, 0)), Ob g7 (.cells #[.int .i64 0] 3 (0, 0)), Ob g4 (.cells (M.cells (M.setNum m fld.off (beTo s a (fsz fld (lenW s) a)))) 33 (0, 0)), Ob g1 (.cells #[.string s] 9 (0, 0)), Old w no] := H147.absorbK (new := [Ob g10 (.cells #[.int .i64 ((a : Int))] 3 (0, 0)), Ob g13 (.cells #[.int .i64 12] 25 (0, 0))]) [5, 4] (by intro g hg; rcases hg with rfl | rfl; exact ⟨5, rfl, _, rfl, rfl⟩; exact ⟨4, rfl, _, rfl, rfl⟩) H149
                            refine (?_ : GL _ _ _ _ _ _ FrameMode.returning _)
                            refine gl_step (by simp) cl50 (clear_n g13 g4 g7 12 (0) _ _ (by decide) rfl (H149.ob (k := 1) rfl) (H149.ob (k := 7) rfl) (H149.ob (k := 6) rfl) (H149.ne (i := 1) (j := 7) rfl rfl (by decide)) (H149.ne (i := 1) (j := 6) rfl rfl (by decide)) (H149.ne (i := 7) (j := 6) rfl rfl (by decide))) ?_
                            rintro _ _ w150 ⟨rfl, rfl, H151⟩
                            replace H151 : S w150 [Ob g13 (.cells #[.int .i64 12] 25 (0, 0)), Ob g4 (.cells #[.int .i64 0, .int .i64 0, .int .i64 0, .int .i64 0, .int .i64 0, .int .i64 0, .string (⟨#[]⟩), .string (⟨#[]⟩)] 33 (0, 0)), Ob g7 (.cells #[.int .i64 0] 3 (0, 0)), Ob g10 (.cells #[.int .i64 ((a : Int))] 3 (0, 0)), Ob g118 (.cells #[.int .i64 (fld.size), .func (.func fld.k) #[] #[], .nilFunc, .int .i64 (fld.lo), .int .i64 (fld.hi), .int .i64 (fld.st)] 79 (0, 0)), Ob g103 (.cells #[.int .i64 (numb (kindP (bt' s 4 : Int))), .slice sA sm sc] 73 (0, 0)), RO sA sm sc 6 (cellsOf (fields (kindP (bt' s 4 : Int)))), Ob g25 (.cells #[.int .u8 0, .int .u8 0, .int .u8 16, .int .u8 255] 93 (0, 0)), Ob g1 (.cells #[.string s] 9 (0, 0)), Old w no] := H149.absorbK (new := [Ob g13 (.cells #[.int .i64 12] 25 (0, 0)), Ob g4 (.cells #[.int .i64 0, .int .i64 0, .int .i64 0, .int .i64 0, .int .i64 0, .int .i64 0, .string (⟨#[]⟩), .string (⟨#[]⟩)] 33 (0, 0)), Ob g7 (.cells #[.int .i64 0] 3 (0, 0))]) [1, 7, 6] (by intro g hg; simp only [List.mem_cons, List.not_mem_nil, or_false] at hg; rcases hg with rfl | rfl | rfl; exact ⟨1, rfl, _, rfl, rfl⟩; exact ⟨7, rfl, _, rfl, rfl⟩; exact ⟨6, rfl, _, rfl, rfl⟩) H151
                            refine (?_ : GL _ _ _ _ _ _ FrameMode.returning _)
                            refine gl_ret [.cell 2 33, .cell 3 3, .cell 4 3, .cell 5 25] [.agg #[.int .i64 0, .int .i64 0, .int .i64 0, .int .i64 0, .int .i64 0, .int .i64 0, .string (⟨#[]⟩), .string (⟨#[]⟩)], .int .i64 0, .int .i64 ((a : Int)), .int .i64 12] rfl ⟨⟨_, rfl, run_loadA (H151.ob (k := 1) rfl) Try.underlying33 rfl sz33 rfl rfl⟩, ⟨_, rfl, run_load1 Try.underlying3 rfl (H151.cell (k := 2) rfl rfl)⟩, ⟨_, rfl, run_load1 Try.underlying3 rfl (H151.cell (k := 3) rfl rfl)⟩, ⟨_, rfl, run_load1 Try.underlying25 rfl (H151.cell (k := 0) rfl rfl)⟩, trivial⟩ ?_
                            have hdd : decG s (lenW s) (fields (kindP (bt' s 4 : Int))) 5 (M.only (kindP (bt' s 4 : Int))) = .inl (a, 12) := by rw [← hdg, hds, if_neg (by omega), if_pos hoff, if_neg (by rw [hb143]; simp)]
                            exact ⟨by simp only [decW, outG, Zm, tupled, M.cells, hg4, hdd, if_neg hb16, if_neg hb32, if_neg hb45, if_neg hb58, if_neg hb67, if_neg hb80, if_neg hb92, hb110, if_pos hb117, if_neg hb123, if_neg hb134, hb143, if_true, Bool.false_eq_true, if_false], H151.mask [false, false, false, false, false, false, false, false, false, true]⟩
                    · skip
                      have hsix : fld.cells = [.int .i64 (fld.size), .nilFunc, .func (.func fld.k) #[] #[], .int .i64 (fld.lo), .int .i64 (fld.hi), .int .i64 (fld.st)] := by simp only [F.cells, if_neg hoff]
                      have hsc6 : ∀ i u, (fld.cells)[i]? = some u → w115.cell? ((⟨gs, os + j * 6, none⟩ : Addr).add i) = some u := fun i u hu => by rw [add_lit', Nat.add_assoc]; exact hsc _ _ (by rw [cellsOf_at _ _ _ _ hfld (by have := (List.getElem?_eq_some_iff.1 hu).1; rw [len_cells] at this; exact this)]; exact hu)
                      rw [hsix] at hsc6
                      refine l_of (s_val (v := .agg #[.int .i64 (fld.size), .nilFunc, .func (.func fld.k) #[] #[], .int .i64 (fld.lo), .int .i64 (fld.hi), .int .i64 (fld.st)]) (wt0 rfl) rfl rfl (x_loadF (vs := [.int .i64 (fld.size), .nilFunc, .func (.func fld.k) #[] #[], .int .i64 (fld.lo), .int .i64 (fld.hi), .int .i64 (fld.st)]) rfl rfl Try.underlying79 rfl sz79 rfl hsc6) ?_)
                      refine l_of (s_alloc H116 (wt0 rfl) rfl rfl rfl ze79 ?_)
                      intro g152 w153 (H154 : S w153 [Ob g152 (.cells #[.int .i64 0, .nilFunc, .nilFunc, .int .i64 0, .int .i64 0, .int .i64 0] 79 (0, 0)), Ob g103 (.cells #[.int .i64 (numb (kindP (bt' s 4 : Int))), .slice sA sm sc] 73 (0, 0)), RO sA sm sc 6 (cellsOf (fields (kindP (bt' s 4 : Int)))), Ob g25 (.cells #[.int .u8 0, .int .u8 0, .int .u8 16, .int .u8 255] 93 (0, 0)), Ob g13 (.cells #[.int .i64 0] 25 (0, 0)), Ob g10 (.cells #[.int .i64 0] 3 (0, 0)), Ob g7 (.cells #[.int .i64 0] 3 (0, 0)), Ob g4 (.cells (M.cells m) 33 (0, 0)), Ob g1 (.cells #[.string s] 9 (0, 0)), Old w no])
                      refine l_of (s_store H154 0 (wt0 rfl) rfl rfl rfl rfl rfl sz79 rfl rfl (cs' := #[.int .i64 (fld.size), .nilFunc, .func (.func fld.k) #[] #[], .int .i64 (fld.lo), .int .i64 (fld.hi), .int .i64 (fld.st)]) rfl ?_)
                      intro w155 (H156 : S w155 [Ob g152 (.cells #[.int .i64 (fld.size), .nilFunc, .func (.func fld.k) #[] #[], .int .i64 (fld.lo), .int .i64 (fld.hi), .int .i64 (fld.st)] 79 (0, 0)), Ob g103 (.cells #[.int .i64 (numb (kindP (bt' s 4 : Int))), .slice sA sm sc] 73 (0, 0)), RO sA sm sc 6 (cellsOf (fields (kindP (bt' s 4 : Int)))), Ob g25 (.cells #[.int .u8 0, .int .u8 0, .int .u8 16, .int .u8 255] 93 (0, 0)), Ob g13 (.cells #[.int .i64 0] 25 (0, 0)), Ob g10 (.cells #[.int .i64 0] 3 (0, 0)), Ob g7 (.cells #[.int .i64 0] 3 (0, 0)), Ob g4 (.cells (M.cells m) 33 (0, 0)), Ob g1 (.cells #[.string s] 9 (0, 0)), Old w no])
                      refine g_nil ?_
                      refine g_then ?_
                      refine g_seq ?_
                      refine g_region ?_
                      refine l_of (s_val (v := .pointer (some ⟨g152, 0, none⟩)) (wt0 rfl) rfl rfl (x_fieldAddr rfl rfl fo79_0 rfl) ?_)
                      refine l_of (s_val (v := .int .i64 (fld.size)) (wt0 rfl) rfl rfl (x_load1 H156 0 rfl rfl Try.underlying3 rfl rfl rfl) ?_)
                      refine l_of (s_val (v := .int .i64 (fld.size)) (wt0 rfl) rfl rfl (x_assign rfl rfl) ?_)
                      refine g_nil ?_
                      refine g_then ?_
                      refine g_seq ?_
                      refine g_seq ?_
                      refine g_region ?_
                      refine l_of (s_val (v := .int .i64 (fld.size)) (wt0 rfl) rfl rfl (x_move rfl rfl) ?_)
                      refine l_of (s_val (v := .bool (decide ((fld.size : Int) = 0))) (wt0 rfl) rfl rfl (x_bin rfl rfl rfl b_eql) ?_)
                      refine g_nil ?_
                      refine g_then ?_
                      by_cases hb157 : (fld.size : Int) = 0
                      · skip
                        have hsz2 : (4 : Int) + (lenW s) - a = (fsz fld (lenW s) a : Int) := by rw [if_pos hb157] at hsize; omega
                        refine g_cond_t rfl (decide_eq_true hb157) ?_
                        refine g_region ?_
                        refine l_of (s_val (v := .int .i64 ((lenW s : Int))) (wt0 rfl) rfl rfl (x_move rfl rfl) ?_)
                        refine l_of (s_val (v := .int .i64 (4 + (lenW s : Int))) (wt0 rfl) rfl rfl (x_bin rfl rfl rfl (b_add (w64 (by omega)))) ?_)
                        refine l_of (s_val (v := .int .i64 ((a : Int))) (wt0 rfl) rfl rfl (x_move rfl rfl) ?_)
                        refine l_of (s_val (v := .int .i64 ((4 + (lenW s : Int)) - (a : Int))) (wt0 rfl) rfl rfl (x_bin rfl rfl rfl (b_sub (w64 (by omega)))) ?_)
                        refine l_of (s_val (v := .int .i64 ((fsz fld (lenW s) a : Int))) (wt0 rfl) rfl rfl (by rw [← hsz2]; exact x_assign rfl rfl) ?_)
                        refine g_nil ?_
                        refine g_then ?_
                        refine g_seq ?_
                        refine g_region ?_
                        refine l_of (s_val (v := .func (.func 52) #[] #[.pointer (some ⟨g1, 0, none⟩)]) (wt0 rfl) rfl rfl (x_move rfl rfl) ?_)
                        refine l_of (s_val (v := .int .i64 ((a : Int))) (wt0 rfl) rfl rfl (x_move rfl rfl) ?_)
                        refine l_of (s_val (v := .int .i64 ((fsz fld (lenW s) a : Int))) (wt0 rfl) rfl rfl (x_move rfl rfl) ?_)
                        refine l_of (s_val (v := .int .i64 ((a : Int) + (fsz fld (lenW s) a : Int))) (wt0 rfl) rfl rfl (x_bin rfl rfl rfl (b_add (w64 (by omega)))) ?_)
                        by_cases hb158 : ((s.size : Int) : Int) < (a : Int) + (fsz fld (lenW s) a : Int)
                        · skip
                          refine l_of (s_call (wt0 rfl) (x_call rfl rfl rfl cl52) (lack_p g1 s _ _ (H156.cell (k := 8) rfl rfl) (of_decide_eq_true (decide_eq_true hb158))) ?_)
                          rintro _ w159 ⟨rfl, H160⟩
                          replace H160 : S w159 [Ob g152 (.cells #[.int .i64 (fld.size), .nilFunc, .func (.func fld.k) #[] #[], .int .i64 (fld.lo), .int .i64 (fld.hi), .int .i64 (fld.st)] 79 (0, 0)), Ob g103 (.cells #[.int .i64 (numb (kindP (bt' s 4 : Int))), .slice sA sm sc] 73 (0, 0)), RO sA sm sc 6 (cellsOf (fields (kindP (bt' s 4 : Int)))), Ob g25 (.cells #[.int .u8 0, .int .u8 0, .int .u8 16, .int .u8 255] 93 (0, 0)), Ob g13 (.cells #[.int .i64 0] 25 (0, 0)), Ob g10 (.cells #[.int .i64 0] 3 (0, 0)), Ob g7 (.cells #[.int .i64 0] 3 (0, 0)), Ob g4 (.cells (M.cells m) 33 (0, 0)), Ob g1 (.cells #[.string s] 9 (0, 0)), Old w no] := H156.absorb (new := []) H160
                          refine b_panic ?_
                          refine g_then_panic ?_
                          refine g_in_panic ?_
                          refine g_then_panic ?_
                          refine g_then_panic ?_
                          refine g_in_panic ?_
                          refine g_then_panic ?_
                          refine fin_dpanic ?_
                          refine gl_step (by simp) cl51 (caught_p g10 g13 ((s.size : Int)) (8) (0) (0) [] _ (H160.ob (k := 5) rfl) (H160.ob (k := 4) rfl) (H160.ne (i := 5) (j := 4) rfl rfl (by decide))) ?_
                          rintro _ _ w161 ⟨⟨rfl, H162⟩, rfl⟩
                          replace H162 : S w161 [Ob g10 (.cells #[.int .i64 ((s.size : Int))] 3 (0, 0)), Ob g13 (.cells #[.int .i64 8] 25 (0, 0)), Ob g152 (.cells #[.int .i64 (fld.size), .nilFunc, .func (.func fld.k) #[] #[], .int .i64 (fld.lo), .int .i64 (fld.hi), .int .i64 (fld.st)] 79 (0, 0)), Ob g103 (.cells #[.int .i64 (numb (kindP (bt' s 4 : Int))), .slice sA sm sc] 73 (0, 0)), RO sA sm sc 6 (cellsOf (fields (kindP (bt' s 4 : Int)))), Ob g25 (.cells #[.int .u8 0, .int .u8 0, .int .u8 16, .int .u8 255] 93 (0, 0)), Ob g7 (.cells #[.int .i64 0] 3 (0, 0)), Ob g4 (.cells (M.cells m) 33 (0, 0)), Ob g1 (.cells #[.string s] 9 (0, 0)), Old w no] := H160.absorbK (new := [Ob g10 (.cells #[.int .i64 ((s.size : Int))] 3 (0, 0)), Ob g13 (.cells #[.int .i64 8] 25 (0, 0))]) [5, 4] (by intro g hg; rcases hg with rfl | rfl; exact ⟨5, rfl, _, rfl, rfl⟩; exact ⟨4, rfl, _, rfl, rfl⟩) H162
                          refine (?_ : GL _ _ _ _ _ _ FrameMode.returning _)
                          refine gl_step (by simp) cl50 (clear_n g13 g4 g7 8 (0) _ _ (by decide) rfl (H162.ob (k := 1) rfl) (H162.ob (k := 7) rfl) (H162.ob (k := 6) rfl) (H162.ne (i := 1) (j := 7) rfl rfl (by decide)) (H162.ne (i := 1) (j := 6) rfl rfl (by decide)) (H162.ne (i := 7) (j := 6) rfl rfl (by decide))) ?_
                          rintro _ _ w163 ⟨rfl, rfl, H164⟩
                          replace H164 : S w163 [Ob g13 (.cells #[.int .i64 8] 25 (0, 0)), Ob g4 (.cells #[.int .i64 0, .int .i64 0, .int .i64 0, .int .i64 0, .int .i64 0, .int .i64 0, .string (⟨#[]⟩), .string (⟨#[]⟩)] 33 (0, 0)), Ob g7 (.cells #[.int .i64 0] 3 (0, 0)), Ob g10 (.cells #[.int .i64 ((s.size : Int))] 3 (0, 0)), Ob g152 (.cells #[.int .i64 (fld.size), .nilFunc, .func (.func fld.k) #[] #[], .int .i64 (fld.lo), .int .i64 (fld.hi), .int .i64 (fld.st)] 79 (0, 0)), Ob g103 (.cells #[.int .i64 (numb (kindP (bt' s 4 : Int))), .slice sA sm sc] 73 (0, 0)), RO sA sm sc 6 (cellsOf (fields (kindP (bt' s 4 : Int)))), Ob g25 (.cells #[.int .u8 0, .int .u8 0, .int .u8 16, .int .u8 255] 93 (0, 0)), Ob g1 (.cells #[.string s] 9 (0, 0)), Old w no] := H162.absorbK (new := [Ob g13 (.cells #[.int .i64 8] 25 (0, 0)), Ob g4 (.cells #[.int .i64 0, .int .i64 0, .int .i64 0, .int .i64 0, .int .i64 0, .int .i64 0, .string (⟨#[]⟩), .string (⟨#[]⟩)] 33 (0, 0)), Ob g7 (.cells #[.int .i64 0] 3 (0, 0))]) [1, 7, 6] (by intro g hg; simp only [List.mem_cons, List.not_mem_nil, or_false] at hg; rcases hg with rfl | rfl | rfl; exact ⟨1, rfl, _, rfl, rfl⟩; exact ⟨7, rfl, _, rfl, rfl⟩; exact ⟨6, rfl, _, rfl, rfl⟩) H164
                          refine (?_ : GL _ _ _ _ _ _ FrameMode.returning _)
                          refine gl_ret [.cell 2 33, .cell 3 3, .cell 4 3, .cell 5 25] [.agg #[.int .i64 0, .int .i64 0, .int .i64 0, .int .i64 0, .int .i64 0, .int .i64 0, .string (⟨#[]⟩), .string (⟨#[]⟩)], .int .i64 0, .int .i64 ((s.size : Int)), .int .i64 8] rfl ⟨⟨_, rfl, run_loadA (H164.ob (k := 1) rfl) Try.underlying33 rfl sz33 rfl rfl⟩, ⟨_, rfl, run_load1 Try.underlying3 rfl (H164.cell (k := 2) rfl rfl)⟩, ⟨_, rfl, run_load1 Try.underlying3 rfl (H164.cell (k := 3) rfl rfl)⟩, ⟨_, rfl, run_load1 Try.underlying25 rfl (H164.cell (k := 0) rfl rfl)⟩, trivial⟩ ?_
                          have hdd : decG s (lenW s) (fields (kindP (bt' s 4 : Int))) 5 (M.only (kindP (bt' s 4 : Int))) = .inl (s.size, 8) := by rw [← hdg, hds, if_pos (by omega)]
                          exact ⟨by simp only [decW, outG, Zm, tupled, M.cells, hg4, hdd, if_neg hb16, if_neg hb32, if_neg hb45, if_neg hb58, if_neg hb67, if_neg hb80, if_neg hb92, hb110, if_pos hb117, if_pos hb157, if_pos hb158, if_true, Bool.false_eq_true, if_false], H164.mask [false, false, false, false, false, false, false, false, false, true]⟩
                        · skip
                          refine l_of (s_call (wt0 rfl) (x_call rfl rfl rfl cl52) (lack_r g1 s _ _ (H156.cell (k := 8) rfl rfl) (of_decide_eq_false (decide_eq_false hb158))) ?_)
                          rintro _ w165 ⟨rfl, H166⟩
                          replace H166 : S w165 [Ob g152 (.cells #[.int .i64 (fld.size), .nilFunc, .func (.func fld.k) #[] #[], .int .i64 (fld.lo), .int .i64 (fld.hi), .int .i64 (fld.st)] 79 (0, 0)), Ob g103 (.cells #[.int .i64 (numb (kindP (bt' s 4 : Int))), .slice sA sm sc] 73 (0, 0)), RO sA sm sc 6 (cellsOf (fields (kindP (bt' s 4 : Int)))), Ob g25 (.cells #[.int .u8 0, .int .u8 0, .int .u8 16, .int .u8 255] 93 (0, 0)), Ob g13 (.cells #[.int .i64 0] 25 (0, 0)), Ob g10 (.cells #[.int .i64 0] 3 (0, 0)), Ob g7 (.cells #[.int .i64 0] 3 (0, 0)), Ob g4 (.cells (M.cells m) 33 (0, 0)), Ob g1 (.cells #[.string s] 9 (0, 0)), Old w no] := H156.absorb (new := []) H166
                          refine b_ret rfl rfl ?_
                          refine g_nil ?_
                          refine g_then ?_
                          refine g_weak [(1, .pointer (some ⟨g1, 0, none⟩)), (2, .pointer (some ⟨g4, 0, none⟩)), (3, .pointer (some ⟨g7, 0, none⟩)), (4, .pointer (some ⟨g10, 0, none⟩)), (5, .pointer (some ⟨g13, 0, none⟩)), (6, .func (.func 52) #[] #[.pointer (some ⟨g1, 0, none⟩)]), (7, .func (.func 53) #[] #[]), (10, .int .i64 ((lenW s : Int))), (13, .int .i64 ((a : Int))), (15, .pointer (some ⟨g152, 0, none⟩)), (16, .int .i64 ((fsz fld (lenW s) a : Int))), (81, .slice sA sm sc), (82, .int .i64 ((sm : Int))), (83, .int .i64 ((j : Int)))] ⟨rfl, rfl, rfl, rfl, rfl, rfl, rfl, rfl, rfl, rfl, rfl, rfl, rfl, rfl, trivial⟩ ?_
                          refine g_seq ?_
                          refine g_seq ?_
                          refine g_region ?_
                          refine l_of (s_val (v := .pointer (some ⟨g152, 1, none⟩)) (wt0 rfl) rfl rfl (x_fieldAddr rfl rfl fo79_1 rfl) ?_)
                          refine l_of (s_val (v := .nilFunc) (wt0 rfl) rfl rfl (x_load1 H166 0 rfl rfl Try.underlying76 rfl rfl rfl) ?_)
                          refine l_of (s_val (v := .bool true) (wt0 rfl) rfl rfl (x_bin rfl rfl rfl (b_eqN (r := true) Try.underlying76 rfl)) ?_)
                          refine g_nil ?_
                          refine g_then ?_
                          refine g_cond_t rfl rfl ?_
                          refine g_any [(1, .pointer (some ⟨g1, 0, none⟩)), (2, .pointer (some ⟨g4, 0, none⟩)), (3, .pointer (some ⟨g7, 0, none⟩)), (4, .pointer (some ⟨g10, 0, none⟩)), (5, .pointer (some ⟨g13, 0, none⟩)), (6, .func (.func 52) #[] #[.pointer (some ⟨g1, 0, none⟩)]), (7, .func (.func 53) #[] #[]), (10, .int .i64 ((lenW s : Int))), (13, .int .i64 ((a : Int))), (15, .pointer (some ⟨g152, 0, none⟩)), (16, .int .i64 ((fsz fld (lenW s) a : Int))), (81, .slice sA sm sc), (82, .int .i64 ((sm : Int))), (83, .int .i64 ((j : Int))), (100, .pointer (some ⟨g152, 1, none⟩)), (101, .nilFunc), (102, .bool true)] (fun wx => S wx [Ob g152 (.cells #[.int .i64 (fld.size), .nilFunc, .func (.func fld.k) #[] #[], .int .i64 (fld.lo), .int .i64 (fld.hi), .int .i64 (fld.st)] 79 (0, 0)), Ob g1 (.cells #[.string s] 9 (0, 0))]) [10] (by kernel_rfl) H166 (fun w167 H168 => ?_)
                          refine a_take (v := .pointer (some ⟨g152, 2, none⟩)) 0 rfl (wt0 rfl) rfl rfl rfl (by kernel_rfl) (by kernel_rfl) (by kernel_rfl) (by kernel_rfl) (H168.mask [true, false, false, false, false, false, false, false, true, false]) (fun wx H => x_fieldAddr rfl rfl fo79_2 rfl) ?_
                          refine a_take (v := .func (.func fld.k) #[] #[]) 1 rfl (wt0 rfl) rfl rfl rfl (by kernel_rfl) (by kernel_rfl) (by kernel_rfl) (by kernel_rfl) (H168.mask [true, false, false, false, false, false, false, false, true, false]) (fun wx H => x_load1 H 0 rfl rfl Try.underlying77 rfl rfl rfl) ?_
                          refine a_take (v := .string s) 3 rfl (wt0 rfl) rfl rfl rfl (by kernel_rfl) (by kernel_rfl) (by kernel_rfl) (by kernel_rfl) (H168.mask [true, false, false, false, false, false, false, false, true, false]) (fun wx H => x_load1 H 1 rfl rfl Try.underlying9 rfl rfl rfl) ?_
                          refine a_take (v := .int .i64 ((a : Int))) 4 rfl (wt0 rfl) rfl rfl rfl (by kernel_rfl) (by kernel_rfl) (by kernel_rfl) (by kernel_rfl) (H168.mask [true, false, false, false, false, false, false, false, true, false]) (fun wx H => x_move rfl rfl) ?_
                          refine a_take (v := .int .i64 ((a : Int))) 5 rfl (wt0 rfl) rfl rfl rfl (by kernel_rfl) (by kernel_rfl) (by kernel_rfl) (by kernel_rfl) (H168.mask [true, false, false, false, false, false, false, false, true, false]) (fun wx H => x_move rfl rfl) ?_
                          refine a_take (v := .int .i64 ((fsz fld (lenW s) a : Int))) 6 rfl (wt0 rfl) rfl rfl rfl (by kernel_rfl) (by kernel_rfl) (by kernel_rfl) (by kernel_rfl) (H168.mask [true, false, false, false, false, false, false, false, true, false]) (fun wx H => x_move rfl rfl) ?_
                          refine a_take (v := .int .i64 ((a : Int) + (fsz fld (lenW s) a : Int))) 7 rfl (wt0 rfl) rfl rfl rfl (by kernel_rfl) (by kernel_rfl) (by kernel_rfl) (by kernel_rfl) (H168.mask [true, false, false, false, false, false, false, false, true, false]) (fun wx H => x_bin rfl rfl rfl (b_add (w64 (by omega)))) ?_
                          have hsz169 : (s.extract a (a + (fsz fld (lenW s) a))).size = (a + (fsz fld (lenW s) a)) - a := by rw [ByteArray.size_extract]; omega
                          refine a_take (v := .string (s.extract a (a + (fsz fld (lenW s) a)))) 8 rfl (wt0 rfl) rfl rfl rfl (by kernel_rfl) (by kernel_rfl) (by kernel_rfl) (by kernel_rfl) (H168.mask [true, false, false, false, false, false, false, false, true, false]) (fun wx H => x_slices a (a + (fsz fld (lenW s) a)) rfl rfl Try.underlying9 (.inr ⟨_, _, _, rfl, rfl, by omega⟩) (.inr ⟨_, _, _, rfl, rfl, by omega⟩) (by omega)) ?_
                          refine a_one (i := 2) (by kernel_rfl) rfl ?_
                          refine s_call (wt0 rfl) (x_call rfl rfl rfl hcl) (acc_p fld.k fld.off hwf.acc g4 _) ?_
                          rintro _ _ ⟨rfl, rfl⟩
                          refine b_ret rfl rfl ?_
                          refine a_k (H168.mask [true, false, false, false, false, false, false, false, true, false]) ?_
                          refine a_take (v := .pointer (some ⟨g4, fld.off, none⟩)) 9 rfl (wt0 rfl) rfl rfl rfl (by kernel_rfl) (by kernel_rfl) (by kernel_rfl) (by kernel_rfl) (H168.mask [true, false, false, false, false, false, false, false, true, false]) (fun wx H => x_nilCheck rfl rfl) ?_
                          refine a_one (i := 10) (by kernel_rfl) rfl ?_
                          have hc174 : (M.cells m).setIfInBounds fld.off (.string (s.extract a (a + (fsz fld (lenW s) a)))) = M.cells (M.setText m fld.off (s.extract a (a + (fsz fld (lenW s) a)))) := set_text m hwf hoff _
                          refine s_store1 H168 7 (wt0 rfl) rfl rfl rfl rfl rfl sz9 rfl rfl (by rw [cells_size]; have := off_text hwf hoff; omega) ?_
                          rw [hc174]
                          intro w172 (H173 : S w172 [Ob g152 (.cells #[.int .i64 (fld.size), .nilFunc, .func (.func fld.k) #[] #[], .int .i64 (fld.lo), .int .i64 (fld.hi), .int .i64 (fld.st)] 79 (0, 0)), Ob g103 (.cells #[.int .i64 (numb (kindP (bt' s 4 : Int))), .slice sA sm sc] 73 (0, 0)), RO sA sm sc 6 (cellsOf (fields (kindP (bt' s 4 : Int)))), Ob g25 (.cells #[.int .u8 0, .int .u8 0, .int .u8 16, .int .u8 255] 93 (0, 0)), Ob g13 (.cells #[.int .i64 0] 25 (0, 0)), Ob g10 (.cells #[.int .i64 0] 3 (0, 0)), Ob g7 (.cells #[.int .i64 0] 3 (0, 0)), Ob g4 (.cells (M.cells (M.setText m fld.off (s.extract a (a + (fsz fld (lenW s) a))))) 33 (0, 0)), Ob g1 (.cells #[.string s] 9 (0, 0)), Old w no])
                          refine a_kt rfl ?_
                          refine a_done (by kernel_rfl) ?_
                          refine g_then ?_
                          refine g_weak [(1, .pointer (some ⟨g1, 0, none⟩)), (2, .pointer (some ⟨g4, 0, none⟩)), (3, .pointer (some ⟨g7, 0, none⟩)), (4, .pointer (some ⟨g10, 0, none⟩)), (5, .pointer (some ⟨g13, 0, none⟩)), (6, .func (.func 52) #[] #[.pointer (some ⟨g1, 0, none⟩)]), (7, .func (.func 53) #[] #[]), (10, .int .i64 ((lenW s : Int))), (13, .int .i64 ((a : Int))), (16, .int .i64 ((fsz fld (lenW s) a : Int))), (81, .slice sA sm sc), (82, .int .i64 ((sm : Int))), (83, .int .i64 ((j : Int)))] ⟨rfl, rfl, rfl, rfl, rfl, rfl, rfl, rfl, rfl, rfl, rfl, rfl, rfl, trivial⟩ ?_
                          refine g_region ?_
                          refine l_of (s_val (v := .int .i64 ((a : Int))) (wt0 rfl) rfl rfl (x_move rfl rfl) ?_)
                          refine l_of (s_val (v := .int .i64 ((fsz fld (lenW s) a : Int))) (wt0 rfl) rfl rfl (x_move rfl rfl) ?_)
                          refine l_of (s_val (v := .int .i64 ((a : Int) + (fsz fld (lenW s) a : Int))) (wt0 rfl) rfl rfl (x_bin rfl rfl rfl (b_add (w64 (by omega)))) ?_)
                          refine l_of (s_val (v := .int .i64 ((a : Int) + (fsz fld (lenW s) a : Int))) (wt0 rfl) rfl rfl (x_assign rfl rfl) ?_)
                          refine g_nil ?_
                          refine g_in ?_
                          refine g_then ?_
                          refine g_region ?_
                          refine l_of (s_val (v := .int .i64 ((j : Int) + 1)) (wt0 rfl) rfl rfl (x_bin rfl rfl rfl (b_add (w64 (by omega)))) ?_)
                          refine l_of (s_val (v := .int .i64 ((j : Int) + 1)) (wt0 rfl) rfl rfl (x_move rfl rfl) ?_)
                          refine g_nil ?_
                          refine g_then ?_
                          refine g_round (i := (j, a, m)) (j + 1, (a + fsz fld (lenW s) a), (M.setText m fld.off (s.extract a (a + (fsz fld (lenW s) a))))) ?_ ?_ ?_
                          · exact ⟨rfl, rfl, rfl, rfl, rfl, rfl, rfl, rfl, rfl, rfl, rfl, rfl, trivial⟩
                          · exact ⟨by omega, by omega, hmay2, by omega, by rw [← hdg, hds]; rw [if_neg (by omega), if_neg hoff], (H173.mask [false, true, true, true, true, true, true, true, true, true])⟩
                          · (try dsimp only); omega
                      · skip
                        have hsz2 : fld.size = (fsz fld (lenW s) a : Int) := by rw [if_neg hb157] at hsize; exact hsize
                        refine g_cond_f rfl (decide_eq_false hb157) ?_
                        refine g_skip ?_
                        refine g_then ?_
                        refine g_seq ?_
                        refine g_region ?_
                        refine l_of (s_val (v := .func (.func 52) #[] #[.pointer (some ⟨g1, 0, none⟩)]) (wt0 rfl) rfl rfl (x_move rfl rfl) ?_)
                        refine l_of (s_val (v := .int .i64 ((a : Int))) (wt0 rfl) rfl rfl (x_move rfl rfl) ?_)
                        refine l_of (s_val (v := .int .i64 ((fsz fld (lenW s) a : Int))) (wt0 rfl) rfl rfl (by rw [← hsz2]; exact x_move rfl rfl) ?_)
                        refine l_of (s_val (v := .int .i64 ((a : Int) + (fsz fld (lenW s) a : Int))) (wt0 rfl) rfl rfl (x_bin rfl rfl rfl (b_add (w64 (by omega)))) ?_)
                        by_cases hb175 : ((s.size : Int) : Int) < (a : Int) + (fsz fld (lenW s) a : Int)
                        · skip
                          refine l_of (s_call (wt0 rfl) (x_call rfl rfl rfl cl52) (lack_p g1 s _ _ (H156.cell (k := 8) rfl rfl) (of_decide_eq_true (decide_eq_true hb175))) ?_)
                          rintro _ w176 ⟨rfl, H177⟩
                          replace H177 : S w176 [Ob g152 (.cells #[.int .i64 (fld.size), .nilFunc, .func (.func fld.k) #[] #[], .int .i64 (fld.lo), .int .i64 (fld.hi), .int .i64 (fld.st)] 79 (0, 0)), Ob g103 (.cells #[.int .i64 (numb (kindP (bt' s 4 : Int))), .slice sA sm sc] 73 (0, 0)), RO sA sm sc 6 (cellsOf (fields (kindP (bt' s 4 : Int)))), Ob g25 (.cells #[.int .u8 0, .int .u8 0, .int .u8 16, .int .u8 255] 93 (0, 0)), Ob g13 (.cells #[.int .i64 0] 25 (0, 0)), Ob g10 (.cells #[.int .i64 0] 3 (0, 0)), Ob g7 (.cells #[.int .i64 0] 3 (0, 0)), Ob g4 (.cells (M.cells m) 33 (0, 0)), Ob g1 (.cells #[.string s] 9 (0, 0)), Old w no] := H156.absorb (new := []) H177
                          refine b_panic ?_
                          refine g_then_panic ?_
                          refine g_in_panic ?_
                          refine g_then_panic ?_
                          refine g_then_panic ?_
                          refine g_in_panic ?_
                          refine g_then_panic ?_
                          refine fin_dpanic ?_
                          refine gl_step (by simp) cl51 (caught_p g10 g13 ((s.size : Int)) (8) (0) (0) [] _ (H177.ob (k := 5) rfl) (H177.ob (k := 4) rfl) (H177.ne (i := 5) (j := 4) rfl rfl (by decide))) ?_
                          rintro _ _ w178 ⟨⟨rfl, H179⟩, rfl⟩
                          replace H179 : S w178 [Ob g10 (.cells #[.int .i64 ((s.size : Int))] 3 (0, 0)), Ob g13 (.cells #[.int .i64 8] 25 (0, 0)), Ob g152 (.cells #[.int .i64 (fld.size), .nilFunc, .func (.func fld.k) #[] #[], .int .i64 (fld.lo), .int .i64 (fld.hi), .int .i64 (fld.st)] 79 (0, 0)), Ob g103 (.cells #[.int .i64 (numb (kindP (bt' s 4 : Int))), .slice sA sm sc] 73 (0, 0)), RO sA sm sc 6 (cellsOf (fields (kindP (bt' s 4 : Int)))), Ob g25 (.cells #[.int .u8 0, .int .u8 0, .int .u8 16, .int .u8 255] 93 (0, 0)), Ob g7 (.cells #[.int .i64 0] 3 (0, 0)), Ob g4 (.cells (M.cells m) 33 (0, 0)), Ob g1 (.cells #[.string s] 9 (0, 0)), Old w no] := H177.absorbK (new := [Ob g10 (.cells #[.int .i64 ((s.size : Int))] 3 (0, 0)), Ob g13 (.cells #[.int .i64 8] 25 (0, 0))]) [5, 4] (by intro g hg; rcases hg with rfl | rfl; exact ⟨5, rfl, _, rfl, rfl⟩; exact ⟨4, rfl, _, rfl, rfl⟩) H179
                          refine (?_ : GL _ _ _ _ _ _ FrameMode.returning _)
                          refine gl_step (by simp) cl50 (clear_n g13 g4 g7 8 (0) _ _ (by decide) rfl (H179.ob (k := 1) rfl) (H179.ob (k := 7) rfl) (H179.ob (k := 6) rfl) (H179.ne (i := 1) (j := 7) rfl rfl (by decide)) (H179.ne (i := 1) (j := 6) rfl rfl (by decide)) (H179.ne (i := 7) (j := 6) rfl rfl (by decide))) ?_
                          rintro _ _ w180 ⟨rfl, rfl, H181⟩
                          replace H181 : S w180 [Ob g13 (.cells #[.int .i64 8] 25 (0, 0)), Ob g4 (.cells #[.int .i64 0, .int .i64 0, .int .i64 0, .int .i64 0, .int .i64 0, .int .i64 0, .string (⟨#[]⟩), .string (⟨#[]⟩)] 33 (0, 0)), Ob g7 (.cells #[.int .i64 0] 3 (0, 0)), Ob g10 (.cells #[.int .i64 ((s.size : Int))] 3 (0, 0)), Ob g152 (.cells #[.int .i64 (fld.size), .nilFunc, .func (.func fld.k) #[] #[], .int .i64 (fld.lo), .int .i64 (fld.hi), .int .i64 (fld.st)] 79 (0, 0)), Ob g103 (.cells #[.int .i64 (numb (kindP (bt' s 4 : Int))), .slice sA sm sc] 73 (0, 0)), RO sA sm sc 6 (cellsOf (fields (kindP (bt' s 4 : Int)))), Ob g25 (.cells #[.int .u8 0, .int .u8 0, .int .u8 16, .int .u8 255] 93 (0, 0)), Ob g1 (.cells #[.string s] 9 (0, 0)), Old w no] := H179.absorbK (new := [Ob g13 (.cells #[.int .i64 8] 25 (0, 0)), Ob g4 (.cells #[.int .i64 0, .int .i64 0, .int .i64 0, .int .i64 0, .int .i64 0, .int .i64 0, .string (⟨#[]⟩), .string (⟨#[]⟩)] 33 (0, 0)), Ob g7 (.cells #[.int .i64 0] 3 (0, 0))]) [1, 7, 6] (by intro g hg; simp only [List.mem_cons, List.not_mem_nil, or_false] at hg; rcases hg with rfl | rfl | rfl; exact ⟨1, rfl, _, rfl, rfl⟩; exact ⟨7, rfl, _, rfl, rfl⟩; exact ⟨6, rfl, _, rfl, rfl⟩) H181
                          refine (?_ : GL _ _ _ _ _ _ FrameMode.returning _)
                          refine gl_ret [.cell 2 33, .cell 3 3, .cell 4 3, .cell 5 25] [.agg #[.int .i64 0, .int .i64 0, .int .i64 0, .int .i64 0, .int .i64 0, .int .i64 0, .string (⟨#[]⟩), .string (⟨#[]⟩)], .int .i64 0, .int .i64 ((s.size : Int)), .int .i64 8] rfl ⟨⟨_, rfl, run_loadA (H181.ob (k := 1) rfl) Try.underlying33 rfl sz33 rfl rfl⟩, ⟨_, rfl, run_load1 Try.underlying3 rfl (H181.cell (k := 2) rfl rfl)⟩, ⟨_, rfl, run_load1 Try.underlying3 rfl (H181.cell (k := 3) rfl rfl)⟩, ⟨_, rfl, run_load1 Try.underlying25 rfl (H181.cell (k := 0) rfl rfl)⟩, trivial⟩ ?_
                          have hdd : decG s (lenW s) (fields (kindP (bt' s 4 : Int))) 5 (M.only (kindP (bt' s 4 : Int))) = .inl (s.size, 8) := by rw [← hdg, hds, if_pos (by omega)]
                          exact ⟨by simp only [decW, outG, Zm, tupled, M.cells, hg4, hdd, if_neg hb16, if_neg hb32, if_neg hb45, if_neg hb58, if_neg hb67, if_neg hb80, if_neg hb92, hb110, if_pos hb117, if_neg hb157, if_pos hb175, if_true, Bool.false_eq_true, if_false], H181.mask [false, false, false, false, false, false, false, false, false, true]⟩
                        · skip
                          refine l_of (s_call (wt0 rfl) (x_call rfl rfl rfl cl52) (lack_r g1 s _ _ (H156.cell (k := 8) rfl rfl) (of_decide_eq_false (decide_eq_false hb175))) ?_)
                          rintro _ w182 ⟨rfl, H183⟩
                          replace H183 : S w182 [Ob g152 (.cells #[.int .i64 (fld.size), .nilFunc, .func (.func fld.k) #[] #[], .int .i64 (fld.lo), .int .i64 (fld.hi), .int .i64 (fld.st)] 79 (0, 0)), Ob g103 (.cells #[.int .i64 (numb (kindP (bt' s 4 : Int))), .slice sA sm sc] 73 (0, 0)), RO sA sm sc 6 (cellsOf (fields (kindP (bt' s 4 : Int)))), Ob g25 (.cells #[.int .u8 0, .int .u8 0, .int .u8 16, .int .u8 255] 93 (0, 0)), Ob g13 (.cells #[.int .i64 0] 25 (0, 0)), Ob g10 (.cells #[.int .i64 0] 3 (0, 0)), Ob g7 (.cells #[.int .i64 0] 3 (0, 0)), Ob g4 (.cells (M.cells m) 33 (0, 0)), Ob g1 (.cells #[.string s] 9 (0, 0)), Old w no] := H156.absorb (new := []) H183
                          refine b_ret rfl rfl ?_
                          refine g_nil ?_
                          refine g_then ?_
                          refine g_weak [(1, .pointer (some ⟨g1, 0, none⟩)), (2, .pointer (some ⟨g4, 0, none⟩)), (3, .pointer (some ⟨g7, 0, none⟩)), (4, .pointer (some ⟨g10, 0, none⟩)), (5, .pointer (some ⟨g13, 0, none⟩)), (6, .func (.func 52) #[] #[.pointer (some ⟨g1, 0, none⟩)]), (7, .func (.func 53) #[] #[]), (10, .int .i64 ((lenW s : Int))), (13, .int .i64 ((a : Int))), (15, .pointer (some ⟨g152, 0, none⟩)), (16, .int .i64 (fld.size)), (81, .slice sA sm sc), (82, .int .i64 ((sm : Int))), (83, .int .i64 ((j : Int)))] ⟨rfl, rfl, rfl, rfl, rfl, rfl, rfl, rfl, rfl, rfl, rfl, rfl, rfl, rfl, trivial⟩ ?_
                          refine g_seq ?_
                          refine g_seq ?_
                          refine g_region ?_
                          refine l_of (s_val (v := .pointer (some ⟨g152, 1, none⟩)) (wt0 rfl) rfl rfl (x_fieldAddr rfl rfl fo79_1 rfl) ?_)
                          refine l_of (s_val (v := .nilFunc) (wt0 rfl) rfl rfl (x_load1 H183 0 rfl rfl Try.underlying76 rfl rfl rfl) ?_)
                          refine l_of (s_val (v := .bool true) (wt0 rfl) rfl rfl (x_bin rfl rfl rfl (b_eqN (r := true) Try.underlying76 rfl)) ?_)
                          refine g_nil ?_
                          refine g_then ?_
                          refine g_cond_t rfl rfl ?_
                          refine g_any [(1, .pointer (some ⟨g1, 0, none⟩)), (2, .pointer (some ⟨g4, 0, none⟩)), (3, .pointer (some ⟨g7, 0, none⟩)), (4, .pointer (some ⟨g10, 0, none⟩)), (5, .pointer (some ⟨g13, 0, none⟩)), (6, .func (.func 52) #[] #[.pointer (some ⟨g1, 0, none⟩)]), (7, .func (.func 53) #[] #[]), (10, .int .i64 ((lenW s : Int))), (13, .int .i64 ((a : Int))), (15, .pointer (some ⟨g152, 0, none⟩)), (16, .int .i64 (fld.size)), (81, .slice sA sm sc), (82, .int .i64 ((sm : Int))), (83, .int .i64 ((j : Int))), (100, .pointer (some ⟨g152, 1, none⟩)), (101, .nilFunc), (102, .bool true)] (fun wx => S wx [Ob g152 (.cells #[.int .i64 (fld.size), .nilFunc, .func (.func fld.k) #[] #[], .int .i64 (fld.lo), .int .i64 (fld.hi), .int .i64 (fld.st)] 79 (0, 0)), Ob g1 (.cells #[.string s] 9 (0, 0))]) [10] (by kernel_rfl) H183 (fun w184 H185 => ?_)
                          refine a_take (v := .pointer (some ⟨g152, 2, none⟩)) 0 rfl (wt0 rfl) rfl rfl rfl (by kernel_rfl) (by kernel_rfl) (by kernel_rfl) (by kernel_rfl) (H185.mask [true, false, false, false, false, false, false, false, true, false]) (fun wx H => x_fieldAddr rfl rfl fo79_2 rfl) ?_
                          refine a_take (v := .func (.func fld.k) #[] #[]) 1 rfl (wt0 rfl) rfl rfl rfl (by kernel_rfl) (by kernel_rfl) (by kernel_rfl) (by kernel_rfl) (H185.mask [true, false, false, false, false, false, false, false, true, false]) (fun wx H => x_load1 H 0 rfl rfl Try.underlying77 rfl rfl rfl) ?_
                          refine a_take (v := .string s) 3 rfl (wt0 rfl) rfl rfl rfl (by kernel_rfl) (by kernel_rfl) (by kernel_rfl) (by kernel_rfl) (H185.mask [true, false, false, false, false, false, false, false, true, false]) (fun wx H => x_load1 H 1 rfl rfl Try.underlying9 rfl rfl rfl) ?_
                          refine a_take (v := .int .i64 ((a : Int))) 4 rfl (wt0 rfl) rfl rfl rfl (by kernel_rfl) (by kernel_rfl) (by kernel_rfl) (by kernel_rfl) (H185.mask [true, false, false, false, false, false, false, false, true, false]) (fun wx H => x_move rfl rfl) ?_
                          refine a_take (v := .int .i64 ((a : Int))) 5 rfl (wt0 rfl) rfl rfl rfl (by kernel_rfl) (by kernel_rfl) (by kernel_rfl) (by kernel_rfl) (H185.mask [true, false, false, false, false, false, false, false, true, false]) (fun wx H => x_move rfl rfl) ?_
                          refine a_take (v := .int .i64 ((fsz fld (lenW s) a : Int))) 6 rfl (wt0 rfl) rfl rfl rfl (by kernel_rfl) (by kernel_rfl) (by kernel_rfl) (by kernel_rfl) (H185.mask [true, false, false, false, false, false, false, false, true, false]) (fun wx H => by rw [← hsz2]; exact x_move rfl rfl) ?_
                          refine a_take (v := .int .i64 ((a : Int) + (fsz fld (lenW s) a : Int))) 7 rfl (wt0 rfl) rfl rfl rfl (by kernel_rfl) (by kernel_rfl) (by kernel_rfl) (by kernel_rfl) (H185.mask [true, false, false, false, false, false, false, false, true, false]) (fun wx H => x_bin rfl rfl rfl (b_add (w64 (by omega)))) ?_
                          have hsz186 : (s.extract a (a + (fsz fld (lenW s) a))).size = (a + (fsz fld (lenW s) a)) - a := by rw [ByteArray.size_extract]; omega
                          refine a_take (v := .string (s.extract a (a + (fsz fld (lenW s) a)))) 8 rfl (wt0 rfl) rfl rfl rfl (by kernel_rfl) (by kernel_rfl) (by kernel_rfl) (by kernel_rfl) (H185.mask [true, false, false, false, false, false, false, false, true, false]) (fun wx H => x_slices a (a + (fsz fld (lenW s) a)) rfl rfl Try.underlying9 (.inr ⟨_, _, _, rfl, rfl, by omega⟩) (.inr ⟨_, _, _, rfl, rfl, by omega⟩) (by omega)) ?_
                          refine a_one (i := 2) (by kernel_rfl) rfl ?_
                          refine s_call (wt0 rfl) (x_call rfl rfl rfl hcl) (acc_p fld.k fld.off hwf.acc g4 _) ?_
                          rintro _ _ ⟨rfl, rfl⟩
                          refine b_ret rfl rfl ?_
                          refine a_k (H185.mask [true, false, false, false, false, false, false, false, true, false]) ?_
                          refine a_take (v := .pointer (some ⟨g4, fld.off, none⟩)) 9 rfl (wt0 rfl) rfl rfl rfl (by kernel_rfl) (by kernel_rfl) (by kernel_rfl) (by kernel_rfl) (H185.mask [true, false, false, false, false, false, false, false, true, false]) (fun wx H => x_nilCheck rfl rfl) ?_
                          refine a_one (i := 10) (by kernel_rfl) rfl ?_
                          have hc191 : (M.cells m).setIfInBounds fld.off (.string (s.extract a (a + (fsz fld (lenW s) a)))) = M.cells (M.setText m fld.off (s.extract a (a + (fsz fld (lenW s) a)))) := set_text m hwf hoff _
                          refine s_store1 H185 7 (wt0 rfl) rfl rfl rfl rfl rfl sz9 rfl rfl (by rw [cells_size]; have := off_text hwf hoff; omega) ?_
                          rw [hc191]
                          intro w189 (H190 : S w189 [Ob g152 (.cells #[.int .i64 (fld.size), .nilFunc, .func (.func fld.k) #[] #[], .int .i64 (fld.lo), .int .i64 (fld.hi), .int .i64 (fld.st)] 79 (0, 0)), Ob g103 (.cells #[.int .i64 (numb (kindP (bt' s 4 : Int))), .slice sA sm sc] 73 (0, 0)), RO sA sm sc 6 (cellsOf (fields (kindP (bt' s 4 : Int)))), Ob g25 (.cells #[.int .u8 0, .int .u8 0, .int .u8 16, .int .u8 255] 93 (0, 0)), Ob g13 (.cells #[.int .i64 0] 25 (0, 0)), Ob g10 (.cells #[.int .i64 0] 3 (0, 0)), Ob g7 (.cells #[.int .i64 0] 3 (0, 0)), Ob g4 (.cells (M.cells (M.setText m fld.off (s.extract a (a + (fsz fld (lenW s) a))))) 33 (0, 0)), Ob g1 (.cells #[.string s] 9 (0, 0)), Old w no])
                          refine a_kt rfl ?_
                          refine a_done (by kernel_rfl) ?_
                          refine g_then ?_
                          refine g_weak [(1, .pointer (some ⟨g1, 0, none⟩)), (2, .pointer (some ⟨g4, 0, none⟩)), (3, .pointer (some ⟨g7, 0, none⟩)), (4, .pointer (some ⟨g10, 0, none⟩)), (5, .pointer (some ⟨g13, 0, none⟩)), (6, .func (.func 52) #[] #[.pointer (some ⟨g1, 0, none⟩)]), (7, .func (.func 53) #[] #[]), (10, .int .i64 ((lenW s : Int))), (13, .int .i64 ((a : Int))), (16, .int .i64 (fld.size)), (81, .slice sA sm sc), (82, .int .i64 ((sm : Int))), (83, .int .i64 ((j : Int)))] ⟨rfl, rfl, rfl, rfl, rfl, rfl, rfl, rfl, rfl, rfl, rfl, rfl, rfl, trivial⟩ ?_
                          refine g_region ?_
                          refine l_of (s_val (v := .int .i64 ((a : Int))) (wt0 rfl) rfl rfl (x_move rfl rfl) ?_)
                          refine l_of (s_val (v := .int .i64 ((fsz fld (lenW s) a : Int))) (wt0 rfl) rfl rfl (by rw [← hsz2]; exact x_move rfl rfl) ?_)
                          refine l_of (s_val (v := .int .i64 ((a : Int) + (fsz fld (lenW s) a : Int))) (wt0 rfl) rfl rfl (x_bin rfl rfl rfl (b_add (w64 (by omega)))) ?_)
                          refine l_of (s_val (v := .int .i64 ((a : Int) + (fsz fld (lenW s) a : Int))) (wt0 rfl) rfl rfl (x_assign rfl rfl) ?_)
                          refine g_nil ?_
                          refine g_in ?_
                          refine g_then ?_
                          refine g_region ?_
                          refine l_of (s_val (v := .int .i64 ((j : Int) + 1)) (wt0 rfl) rfl rfl (x_bin rfl rfl rfl (b_add (w64 (by omega)))) ?_)
                          refine l_of (s_val (v := .int .i64 ((j : Int) + 1)) (wt0 rfl) rfl rfl (x_move rfl rfl) ?_)
                          refine g_nil ?_
                          refine g_then ?_
                          refine g_round (i := (j, a, m)) (j + 1, (a + fsz fld (lenW s) a), (M.setText m fld.off (s.extract a (a + (fsz fld (lenW s) a))))) ?_ ?_ ?_
                          · exact ⟨rfl, rfl, rfl, rfl, rfl, rfl, rfl, rfl, rfl, rfl, rfl, rfl, trivial⟩
                          · exact ⟨by omega, by omega, hmay2, by omega, by rw [← hdg, hds]; rw [if_neg (by omega), if_neg hoff], (H190.mask [false, true, true, true, true, true, true, true, true, true])⟩
                          · (try dsimp only); omega
                  · skip
                    refine g_cond_f rfl (decide_eq_false hb117) ?_
                    refine g_exit ?_
                    refine g_then_exit ?_
                    refine g_then_exit ?_
                    refine g_in_hit ?_
                    refine g_then ?_
                    refine g_seq ?_
                    refine g_region ?_
                    refine l_of (s_val (v := .agg (M.cells m)) (wt0 rfl) rfl rfl (x_loadA H116 6 rfl rfl Try.underlying33 rfl sz33 rfl rfl rfl) ?_)
                    refine l_of (s_val (v := .int .i64 ((a : Int))) (wt0 rfl) rfl rfl (x_move rfl rfl) ?_)
                    refine l_of (s_store H116 6 (wt0 rfl) rfl rfl rfl rfl rfl sz33 rfl rfl (cs' := (M.cells m)) rfl ?_)
                    intro w192 (H193 : S w192 [Ob g103 (.cells #[.int .i64 (numb (kindP (bt' s 4 : Int))), .slice sA sm sc] 73 (0, 0)), RO sA sm sc 6 (cellsOf (fields (kindP (bt' s 4 : Int)))), Ob g25 (.cells #[.int .u8 0, .int .u8 0, .int .u8 16, .int .u8 255] 93 (0, 0)), Ob g13 (.cells #[.int .i64 0] 25 (0, 0)), Ob g10 (.cells #[.int .i64 0] 3 (0, 0)), Ob g7 (.cells #[.int .i64 0] 3 (0, 0)), Ob g4 (.cells (M.cells m) 33 (0, 0)), Ob g1 (.cells #[.string s] 9 (0, 0)), Old w no])
                    refine l_of (s_store H193 5 (wt0 rfl) rfl rfl rfl rfl rfl sz3 rfl rfl (cs' := #[.int .i64 ((a : Int))]) rfl ?_)
                    intro w194 (H195 : S w194 [Ob g103 (.cells #[.int .i64 (numb (kindP (bt' s 4 : Int))), .slice sA sm sc] 73 (0, 0)), RO sA sm sc 6 (cellsOf (fields (kindP (bt' s 4 : Int)))), Ob g25 (.cells #[.int .u8 0, .int .u8 0, .int .u8 16, .int .u8 255] 93 (0, 0)), Ob g13 (.cells #[.int .i64 0] 25 (0, 0)), Ob g10 (.cells #[.int .i64 0] 3 (0, 0)), Ob g7 (.cells #[.int .i64 ((a : Int))] 3 (0, 0)), Ob g4 (.cells (M.cells m) 33 (0, 0)), Ob g1 (.cells #[.string s] 9 (0, 0)), Old w no])
                    refine l_of (s_store H195 4 (wt0 rfl) rfl rfl rfl rfl rfl sz3 rfl rfl (cs' := #[.int .i64 (-1)]) rfl ?_)
                    intro w196 (H197 : S w196 [Ob g103 (.cells #[.int .i64 (numb (kindP (bt' s 4 : Int))), .slice sA sm sc] 73 (0, 0)), RO sA sm sc 6 (cellsOf (fields (kindP (bt' s 4 : Int)))), Ob g25 (.cells #[.int .u8 0, .int .u8 0, .int .u8 16, .int .u8 255] 93 (0, 0)), Ob g13 (.cells #[.int .i64 0] 25 (0, 0)), Ob g10 (.cells #[.int .i64 (-1)] 3 (0, 0)), Ob g7 (.cells #[.int .i64 ((a : Int))] 3 (0, 0)), Ob g4 (.cells (M.cells m) 33 (0, 0)), Ob g1 (.cells #[.string s] 9 (0, 0)), Old w no])
                    refine l_of (s_store H197 3 (wt0 rfl) rfl rfl rfl rfl rfl sz25 rfl rfl (cs' := #[.int .i64 0]) rfl ?_)
                    intro w198 (H199 : S w198 [Ob g103 (.cells #[.int .i64 (numb (kindP (bt' s 4 : Int))), .slice sA sm sc] 73 (0, 0)), RO sA sm sc 6 (cellsOf (fields (kindP (bt' s 4 : Int)))), Ob g25 (.cells #[.int .u8 0, .int .u8 0, .int .u8 16, .int .u8 255] 93 (0, 0)), Ob g13 (.cells #[.int .i64 0] 25 (0, 0)), Ob g10 (.cells #[.int .i64 (-1)] 3 (0, 0)), Ob g7 (.cells #[.int .i64 ((a : Int))] 3 (0, 0)), Ob g4 (.cells (M.cells m) 33 (0, 0)), Ob g1 (.cells #[.string s] 9 (0, 0)), Old w no])
                    refine g_nil ?_
                    refine g_then ?_
                    refine g_ret ?_
                    refine fin_dret ?_
                    refine gl_step (by simp) cl51 (caught_n g10 g13 _) ?_
                    rintro _ _ w200 ⟨⟨rfl, H201⟩, rfl⟩
                    replace H201 : S w200 [Ob g103 (.cells #[.int .i64 (numb (kindP (bt' s 4 : Int))), .slice sA sm sc] 73 (0, 0)), RO sA sm sc 6 (cellsOf (fields (kindP (bt' s 4 : Int)))), Ob g25 (.cells #[.int .u8 0, .int .u8 0, .int .u8 16, .int .u8 255] 93 (0, 0)), Ob g13 (.cells #[.int .i64 0] 25 (0, 0)), Ob g10 (.cells #[.int .i64 (-1)] 3 (0, 0)), Ob g7 (.cells #[.int .i64 ((a : Int))] 3 (0, 0)), Ob g4 (.cells (M.cells m) 33 (0, 0)), Ob g1 (.cells #[.string s] 9 (0, 0)), Old w no] := H199.absorb (new := []) H201
                    refine (?_ : GL _ _ _ _ _ _ FrameMode.returning _)
                    refine gl_step (by simp) cl50 (clear_z g13 g4 g7 _ (H201.cell (k := 3) rfl rfl)) ?_
                    rintro _ _ w202 ⟨rfl, rfl, H203⟩
                    replace H203 : S w202 [Ob g103 (.cells #[.int .i64 (numb (kindP (bt' s 4 : Int))), .slice sA sm sc] 73 (0, 0)), RO sA sm sc 6 (cellsOf (fields (kindP (bt' s 4 : Int)))), Ob g25 (.cells #[.int .u8 0, .int .u8 0, .int .u8 16, .int .u8 255] 93 (0, 0)), Ob g13 (.cells #[.int .i64 0] 25 (0, 0)), Ob g10 (.cells #[.int .i64 (-1)] 3 (0, 0)), Ob g7 (.cells #[.int .i64 ((a : Int))] 3 (0, 0)), Ob g4 (.cells (M.cells m) 33 (0, 0)), Ob g1 (.cells #[.string s] 9 (0, 0)), Old w no] := H201.absorb (new := []) H203
                    refine (?_ : GL _ _ _ _ _ _ FrameMode.returning _)
                    refine gl_ret [.cell 2 33, .cell 3 3, .cell 4 3, .cell 5 25] [.agg (M.cells m), .int .i64 ((a : Int)), .int .i64 (-1), .int .i64 0] rfl ⟨⟨_, rfl, run_loadA (H203.ob (k := 6) rfl) Try.underlying33 rfl sz33 rfl rfl⟩, ⟨_, rfl, run_load1 Try.underlying3 rfl (H203.cell (k := 5) rfl rfl)⟩, ⟨_, rfl, run_load1 Try.underlying3 rfl (H203.cell (k := 4) rfl rfl)⟩, ⟨_, rfl, run_load1 Try.underlying25 rfl (H203.cell (k := 3) rfl rfl)⟩, trivial⟩ ?_
                    have hdd : decG s (lenW s) (fields (kindP (bt' s 4 : Int))) 5 (M.only (kindP (bt' s 4 : Int))) = .inr (m, a) := by rw [← hdg, decG_done (by omega)]
                    exact ⟨by simp only [decW, outG, Zm, tupled, M.cells, hg4, hdd, if_neg hb16, if_neg hb32, if_neg hb45, if_neg hb58, if_neg hb67, if_neg hb80, if_neg hb92, hb110, if_neg hb117, if_true, Bool.false_eq_true, if_false], H203.mask [false, false, false, false, false, false, false, false, true]⟩
                · skip
                  refine l_of (s_call (wt0 rfl) (x_call rfl rfl rfl cl53) (wrong_p _ _ _ (neg_of hb110)) ?_)
                  rintro _ w204 ⟨rfl, H205⟩
                  replace H205 : S w204 [Ob g103 (.cells #[.int .i64 (numb (kindP (bt' s 4 : Int))), .slice sA sm sc] 73 (0, 0)), RO sA sm sc 6 (cellsOf (fields (kindP (bt' s 4 : Int)))), Ob g25 (.cells #[.int .u8 0, .int .u8 0, .int .u8 16, .int .u8 255] 93 (0, 0)), Ob g13 (.cells #[.int .i64 0] 25 (0, 0)), Ob g10 (.cells #[.int .i64 0] 3 (0, 0)), Ob g7 (.cells #[.int .i64 0] 3 (0, 0)), Ob g4 (.cells #[.int .i64 0, .int .i64 0, .int .i64 0, .int .i64 0, .int .i64 0, .int .i64 0, .string (⟨#[]⟩), .string (⟨#[]⟩)] 33 (0, 0)), Ob g1 (.cells #[.string s] 9 (0, 0)), Old w no] := H109.absorb (new := []) H205
                  refine b_panic ?_
                  refine g_then_panic ?_
                  refine fin_dpanic ?_
                  refine gl_step (by simp) cl51 (caught_p g10 g13 (0) (12) (0) (0) [] _ (H205.ob (k := 4) rfl) (H205.ob (k := 3) rfl) (H205.ne (i := 4) (j := 3) rfl rfl (by decide))) ?_
                  rintro _ _ w206 ⟨⟨rfl, H207⟩, rfl⟩
                  replace H207 : S w206 [Ob g10 (.cells #[.int .i64 0] 3 (0, 0)), Ob g13 (.cells #[.int .i64 12] 25 (0, 0)), Ob g103 (.cells #[.int .i64 (numb (kindP (bt' s 4 : Int))), .slice sA sm sc] 73 (0, 0)), RO sA sm sc 6 (cellsOf (fields (kindP (bt' s 4 : Int)))), Ob g25 (.cells #[.int .u8 0, .int .u8 0, .int .u8 16, .int .u8 255] 93 (0, 0)), Ob g7 (.cells #[.int .i64 0] 3 (0, 0)), Ob g4 (.cells #[.int .i64 0, .int .i64 0, .int .i64 0, .int .i64 0, .int .i64 0, .int .i64 0, .string (⟨#[]⟩), .string (⟨#[]⟩)] 33 (0, 0)), Ob g1 (.cells #[.string s] 9 (0, 0)), Old w no] := H205.absorbK (new := [Ob g10 (.cells #[.int .i64 0] 3 (0, 0)), Ob g13 (.cells #[.int .i64 12] 25 (0, 0))]) [4, 3] (by intro g hg; rcases hg with rfl | rfl; exact ⟨4, rfl, _, rfl, rfl⟩; exact ⟨3, rfl, _, rfl, rfl⟩) H207
                  refine (?_ : GL _ _ _ _ _ _ FrameMode.returning _)
                  refine gl_step (by simp) cl50 (clear_n g13 g4 g7 12 (0) _ _ (by decide) rfl (H207.ob (k := 1) rfl) (H207.ob (k := 6) rfl) (H207.ob (k := 5) rfl) (H207.ne (i := 1) (j := 6) rfl rfl (by decide)) (H207.ne (i := 1) (j := 5) rfl rfl (by decide)) (H207.ne (i := 6) (j := 5) rfl rfl (by decide))) ?_
                  rintro _ _ w208 ⟨rfl, rfl, H209⟩
                  replace H209 : S w208 [Ob g13 (.cells #[.int .i64 12] 25 (0, 0)), Ob g4 (.cells #[.int .i64 0, .int .i64 0, .int .i64 0, .int .i64 0, .int .i64 0, .int .i64 0, .string (⟨#[]⟩), .string (⟨#[]⟩)] 33 (0, 0)), Ob g7 (.cells #[.int .i64 0] 3 (0, 0)), Ob g10 (.cells #[.int .i64 0] 3 (0, 0)), Ob g103 (.cells #[.int .i64 (numb (kindP (bt' s 4 : Int))), .slice sA sm sc] 73 (0, 0)), RO sA sm sc 6 (cellsOf (fields (kindP (bt' s 4 : Int)))), Ob g25 (.cells #[.int .u8 0, .int .u8 0, .int .u8 16, .int .u8 255] 93 (0, 0)), Ob g1 (.cells #[.string s] 9 (0, 0)), Old w no] := H207.absorbK (new := [Ob g13 (.cells #[.int .i64 12] 25 (0, 0)), Ob g4 (.cells #[.int .i64 0, .int .i64 0, .int .i64 0, .int .i64 0, .int .i64 0, .int .i64 0, .string (⟨#[]⟩), .string (⟨#[]⟩)] 33 (0, 0)), Ob g7 (.cells #[.int .i64 0] 3 (0, 0))]) [1, 6, 5] (by intro g hg; simp only [List.mem_cons, List.not_mem_nil, or_false] at hg; rcases hg with rfl | rfl | rfl; exact ⟨1, rfl, _, rfl, rfl⟩; exact ⟨6, rfl, _, rfl, rfl⟩; exact ⟨5, rfl, _, rfl, rfl⟩) H209
                  refine (?_ : GL _ _ _ _ _ _ FrameMode.returning _)
                  refine gl_ret [.cell 2 33, .cell 3 3, .cell 4 3, .cell 5 25] [.agg #[.int .i64 0, .int .i64 0, .int .i64 0, .int .i64 0, .int .i64 0, .int .i64 0, .string (⟨#[]⟩), .string (⟨#[]⟩)], .int .i64 0, .int .i64 0, .int .i64 12] rfl ⟨⟨_, rfl, run_loadA (H209.ob (k := 1) rfl) Try.underlying33 rfl sz33 rfl rfl⟩, ⟨_, rfl, run_load1 Try.underlying3 rfl (H209.cell (k := 2) rfl rfl)⟩, ⟨_, rfl, run_load1 Try.underlying3 rfl (H209.cell (k := 3) rfl rfl)⟩, ⟨_, rfl, run_load1 Try.underlying25 rfl (H209.cell (k := 0) rfl rfl)⟩, trivial⟩ ?_
                  exact ⟨by simp only [decW, outG, Zm, tupled, M.cells, M.only, hg4, if_neg hb16, if_neg hb32, if_neg hb45, if_neg hb58, if_neg hb67, if_neg hb80, if_neg hb92, hb110, if_true, Bool.false_eq_true, if_false], H209.mask [false, false, false, false, false, false, false, false, true]⟩
end Go.Proofs.Ytcjmdkklbbollaa
