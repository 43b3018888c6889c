import Derived.Test.YtlajgickimgigaaTX
set_option linter.unusedSimpArgs false
set_option linter.unusedVariables false
namespace Go.Proofs.Ytlajgickimgigaa
open Go.RowKit

theorem cl10 : callable Try.prog 10 = true := by kernel_rfl
theorem cl11 : callable Try.prog 11 = true := by kernel_rfl
theorem cl12 : callable Try.prog 12 = true := by kernel_rfl
theorem cl9 : callable Try.prog 9 = true := by kernel_rfl
theorem few_len {l : List ByteArray} (h : fewB l = true) : l.length ≤ 70 := by
  unfold fewB at h
  rw [Bool.and_eq_true] at h
  exact of_decide_eq_true h.2
set_option maxRecDepth 20000 in
set_option maxHeartbeats 4000000 in
set_option maxRecDepth 20000 in
set_option maxHeartbeats 4000000 in
theorem layers_law (n level : Int) (l : List ByteArray) (p : Option Addr) (m c : Nat) (hn : m = l.length) (hm : m ≤ 9223372036854775807) (w : World) (hr : Reads w p m c 1 (stV l)) : Calls Try.prog 3 #[.int .i64 n, .int .i64 level, .slice p m c] w fun e w' => e = .returned (.bool true) ∧ S w' [Old w no] := by
  have H0 := S.old w
  refine enter 40 Try.func3 rfl rfl rfl ?_
  refine g_weak [(0, .int .i64 n), (1, .int .i64 level), (2, .slice p m c)] ⟨rfl, rfl, rfl, trivial⟩ ?_
  refine g_seq ?_
  refine g_region ?_
  refine l_of (s_val (v := .bool false) (wt0 rfl) rfl rfl (x_assign rfl rfl) ?_)
  refine g_nil ?_
  refine g_then ?_
  refine g_seq ?_
  refine g_seq ?_
  refine g_region ?_
  refine l_of (s_val (v := .slice p m c) (wt0 rfl) rfl rfl (x_move rfl rfl) ?_)
  refine l_of (s_call (wt0 rfl) (x_call' rfl rfl cl9) (few_l l p m c hn (by omega) _ (H0.oldReads (k := 0) rfl hr)) ?_)
  rintro _ wq1 ⟨rfl, H2⟩
  replace H2 : S wq1 [Old w no] := H0.absorb (new := []) H2
  refine b_ret rfl rfl ?_
  refine l_of (s_val (v := .bool (!((fewB l)))) (wt0 rfl) rfl rfl (x_not (b := (fewB l)) rfl rfl) ?_)
  refine g_nil ?_
  refine g_then ?_
  rcases Bool.eq_false_or_eq_true ((fewB l)) with hb3 | hb3
  · skip
    have hm2 : m ≤ 1099511627776 := by have := few_len hb3; omega
    refine g_cond_f rfl (neg_of hb3) ?_
    refine g_skip ?_
    refine g_then ?_
    refine g_seq ?_
    refine g_region ?_
    refine l_of (s_val (v := .int .i64 n) (wt0 rfl) rfl rfl (x_move rfl rfl) ?_)
    refine l_of (s_val (v := .int .i64 level) (wt0 rfl) rfl rfl (x_move rfl rfl) ?_)
    refine l_of (s_val (v := .slice p m c) (wt0 rfl) rfl rfl (x_move rfl rfl) ?_)
    refine l_of (s_call (wt0 rfl) (x_call' rfl rfl cl11) (fromL_s n level l p m c hn hm2 _ (H2.oldReads (k := 0) rfl hr)) ?_)
    rintro _ wq4 ⟨rfl, H5⟩
    replace H5 : S wq4 [Old w no] := H2.absorb (new := []) H5
    refine b_ret rfl rfl ?_
    refine l_of (s_val (v := .tuple #[.string ((fromS n level l).1), .int .i64 ((fromS n level l).2)]) (wt0 rfl) rfl rfl (x_move rfl rfl) ?_)
    refine l_of (s_val (v := .string ((fromS n level l).1)) (wt0 rfl) rfl rfl (x_extract rfl rfl rfl) ?_)
    refine l_of (s_val (v := .int .i64 ((fromS n level l).2)) (wt0 rfl) rfl rfl (x_extract rfl rfl rfl) ?_)
    refine l_of (s_val (v := .string ((fromS n level l).1)) (wt0 rfl) rfl rfl (x_assign rfl rfl) ?_)
    refine l_of (s_val (v := .int .i64 ((fromS n level l).2)) (wt0 rfl) rfl rfl (x_assign rfl rfl) ?_)
    refine g_nil ?_
    refine g_then ?_
    refine g_seq ?_
    refine g_region ?_
    refine l_of (s_val (v := .int .i64 n) (wt0 rfl) rfl rfl (x_move rfl rfl) ?_)
    refine l_of (s_val (v := .int .i64 level) (wt0 rfl) rfl rfl (x_move rfl rfl) ?_)
    refine l_of (s_val (v := .slice p m c) (wt0 rfl) rfl rfl (x_move rfl rfl) ?_)
    refine l_of (s_call (wt0 rfl) (x_call' rfl rfl cl12) (from_r n level l p m c hn hm2 _ (H5.oldReads (k := 0) rfl hr)) ?_)
    rintro _ wq6 ⟨rfl, H7⟩
    replace H7 : S wq6 [Old w no] := H5.absorb (new := []) H7
    refine b_ret rfl rfl ?_
    refine l_of (s_val (v := .tuple #[.string ((fromS n level l).1), .int .i64 ((fromS n level l).2)]) (wt0 rfl) rfl rfl (x_move rfl rfl) ?_)
    refine l_of (s_val (v := .string ((fromS n level l).1)) (wt0 rfl) rfl rfl (x_extract rfl rfl rfl) ?_)
    refine l_of (s_val (v := .int .i64 ((fromS n level l).2)) (wt0 rfl) rfl rfl (x_extract rfl rfl rfl) ?_)
    refine l_of (s_val (v := .string ((fromS n level l).1)) (wt0 rfl) rfl rfl (x_assign rfl rfl) ?_)
    refine l_of (s_val (v := .int .i64 ((fromS n level l).2)) (wt0 rfl) rfl rfl (x_assign rfl rfl) ?_)
    refine g_nil ?_
    refine g_then ?_
    refine g_weak [(7, .string ((fromS n level l).1)), (8, .int .i64 ((fromS n level l).2)), (9, .string ((fromS n level l).1)), (10, .int .i64 ((fromS n level l).2))] ⟨rfl, rfl, rfl, rfl, trivial⟩ ?_
    refine g_seq ?_
    refine g_region ?_
    refine l_of (s_val (v := .string ((fromS n level l).1)) (wt0 rfl) rfl rfl (x_move rfl rfl) ?_)
    refine l_of (s_val (v := .string ((fromS n level l).1)) (wt0 rfl) rfl rfl (x_move rfl rfl) ?_)
    refine l_of (s_val (v := .bool (decide ((fromS n level l).1 = (fromS n level l).1))) (wt0 rfl) rfl rfl (x_bin rfl rfl rfl b_eqs) ?_)
    refine l_of (s_val (v := .bool (decide ((fromS n level l).1 = (fromS n level l).1))) (wt0 rfl) rfl rfl (x_move rfl rfl) ?_)
    refine l_of (s_val (v := .int .i64 ((fromS n level l).2)) (wt1 rfl rfl rfl rfl (decide_eq_true rfl)) rfl rfl (x_move rfl rfl) ?_)
    refine l_of (s_val (v := .int .i64 ((fromS n level l).2)) (wt1 rfl rfl rfl rfl (decide_eq_true rfl)) rfl rfl (x_move rfl rfl) ?_)
    refine l_of (s_val (v := .bool (decide (((fromS n level l).2 : Int) = (fromS n level l).2))) (wt1 rfl rfl rfl rfl (decide_eq_true rfl)) rfl rfl (x_bin rfl rfl rfl b_eql) ?_)
    refine l_of (s_val (v := .bool (decide (((fromS n level l).2 : Int) = (fromS n level l).2))) (wt0 rfl) rfl rfl (x_pick_t rfl rfl (decide_eq_true rfl) rfl) ?_)
    refine l_of (s_val (v := .bool (decide (((fromS n level l).2 : Int) = (fromS n level l).2))) (wt0 rfl) rfl rfl (x_move rfl rfl) ?_)
    refine l_of (s_call (wt1 rfl rfl rfl rfl (decide_eq_true rfl)) (x_call' rfl rfl cl10) (awake_s _) ?_)
    rintro _ wq8 ⟨rfl, H9⟩
    replace H9 : S wq8 [Old w no] := H7.absorb (new := []) H9
    refine b_ret rfl rfl ?_
    refine l_of (s_val (v := .bool true) (wt0 rfl) rfl rfl (x_pick_t rfl rfl (decide_eq_true rfl) rfl) ?_)
    refine l_of (s_val (v := .bool true) (wt0 rfl) rfl rfl (x_assign rfl rfl) ?_)
    refine g_nil ?_
    refine g_then ?_
    refine g_weak [(6, .bool true)] ⟨rfl, trivial⟩ ?_
    refine g_ret ?_
    refine fin_ret [.tmp 6] [.bool true] rfl ⟨rfl, trivial⟩ ?_
    exact ⟨rfl, H9.mask [true]⟩
  · skip
    refine g_cond_t rfl (neg_of hb3) ?_
    refine g_seq ?_
    refine g_region ?_
    refine l_of (s_call (wt0 rfl) (x_call' rfl rfl cl10) (awake_s _) ?_)
    rintro _ wq10 ⟨rfl, H11⟩
    replace H11 : S wq10 [Old w no] := H2.absorb (new := []) H11
    refine b_ret rfl rfl ?_
    refine l_of (s_val (v := .bool true) (wt0 rfl) rfl rfl (x_assign rfl rfl) ?_)
    refine g_nil ?_
    refine g_then ?_
    refine g_ret ?_
    refine g_then_ret ?_
    refine fin_ret [.tmp 6] [.bool true] rfl ⟨rfl, trivial⟩ ?_
    exact ⟨rfl, H11.mask [true]⟩
end Go.Proofs.Ytlajgickimgigaa
