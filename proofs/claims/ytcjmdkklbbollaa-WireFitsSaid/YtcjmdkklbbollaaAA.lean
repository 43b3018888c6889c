import Derived.Test.YtcjmdkklbbollaaEy
import Derived.Test.YtcjmdkklbbollaaZA
set_option linter.unusedSimpArgs false
set_option linter.unusedVariables false
namespace Go.Proofs.Ytcjmdkklbbollaa
open Go.RowKit

theorem cl57 : callable Try.prog 57 = true := by kernel_rfl
theorem cl64 : callable Try.prog 64 = true := by kernel_rfl
theorem rd4_lt (s : ByteArray) : rd4 s < 4294967296 := by
  have h0 := bt_lt s 0
  have h1 := bt_lt s 1
  have h2 := bt_lt s 2
  have h3 := bt_lt s 3
  unfold rd4; omega
/-- The first byte of a field that is out of its range. -/
def rangedP (k : Int) (s : ByteArray) : Int :=
  if isBlock k = true then (if (17 : Int) ≤ s.size then (if (rd4 (s.extract 13 17) : Int) < 1 then 13 else if (1024 : Int) < rd4 (s.extract 13 17) then 13 else -1) else if k = 11 then (if (7 : Int) ≤ s.size then (if (bt' s 5 : Int) = 0 then (if (bt' s 6 : Int) = 0 then 5 else -1) else -1) else -1) else -1)
  else if k = 11 then (if (7 : Int) ≤ s.size then (if (bt' s 5 : Int) = 0 then (if (bt' s 6 : Int) = 0 then 5 else -1) else -1) else -1) else -1
set_option maxRecDepth 20000 in
set_option maxHeartbeats 4000000 in
theorem ranged_r (k : Int) (s : ByteArray) (hs : s.size ≤ 100000) (w : World) : Calls Try.prog 60 #[.int .i64 k, .string s] w fun e w' => e = .returned (.int .i64 (rangedP k s)) ∧ S w' [Old w no] := by
  have H0 := S.old w
  refine enter 39 Try.func60 rfl rfl rfl ?_
  refine g_weak [(0, .int .i64 k), (1, .string s)] ⟨rfl, rfl, trivial⟩ ?_
  refine g_seq ?_
  refine g_region ?_
  refine l_of (s_val (v := .int .i64 0) (wt0 rfl) rfl rfl (x_assign rfl rfl) ?_)
  refine g_nil ?_
  refine g_then ?_
  refine g_seq ?_
  refine g_block ?_
  refine g_seq ?_
  refine g_region ?_
  refine l_of (s_val (v := .int .i64 k) (wt0 rfl) rfl rfl (x_move rfl rfl) ?_)
  refine l_of (s_call (wt0 rfl) (x_call' rfl rfl cl64) (block_r _ _) ?_)
  rintro _ _ ⟨rfl, rfl⟩
  refine b_ret rfl rfl ?_
  refine l_of (s_val (v := .bool (isBlock k)) (wt0 rfl) rfl rfl (x_move rfl rfl) ?_)
  rcases Bool.eq_false_or_eq_true (isBlock k) with hb3 | hb3
  · skip
    refine l_of (s_val (v := .string s) (wt1 rfl rfl rfl rfl hb3) rfl rfl (x_move rfl rfl) ?_)
    refine l_of (s_val (v := .int .i64 ((s.size : Int))) (wt1 rfl rfl rfl rfl hb3) rfl rfl (x_lens rfl rfl Try.underlying9) ?_)
    refine l_of (s_val (v := .bool (decide ((17 : Int) ≤ (s.size : Int)))) (wt1 rfl rfl rfl rfl hb3) rfl rfl (x_bin rfl rfl rfl b_geq) ?_)
    refine l_of (s_val (v := .bool (decide ((17 : Int) ≤ (s.size : Int)))) (wt0 rfl) rfl rfl (x_pick_t rfl rfl hb3 rfl) ?_)
    refine l_of (s_val (v := .bool (decide ((17 : Int) ≤ (s.size : Int)))) (wt0 rfl) rfl rfl (x_assign rfl rfl) ?_)
    refine g_nil ?_
    refine g_then ?_
    by_cases hb4 : (17 : Int) ≤ (s.size : Int)
    · skip
      refine g_cond_t rfl (decide_eq_true hb4) ?_
      refine g_seq ?_
      refine g_region ?_
      refine l_of (s_val (v := .string s) (wt0 rfl) rfl rfl (x_move rfl rfl) ?_)
      have hsz5 : (s.extract 13 17).size = 17 - 13 := by rw [ByteArray.size_extract]; omega
      refine l_of (s_val (v := .string (s.extract 13 17)) (wt0 rfl) rfl rfl (x_slices 13 17 rfl rfl Try.underlying9 (.inr ⟨_, _, _, rfl, rfl, by omega⟩) (.inr ⟨_, _, _, rfl, rfl, by omega⟩) (by omega)) ?_)
      have := rd4_lt (s.extract 13 17)
      refine l_of (s_call (wt0 rfl) (x_call' rfl rfl cl57) (read4_r _ (by omega) _) ?_)
      rintro _ _ ⟨rfl, rfl⟩
      refine b_ret rfl rfl ?_
      refine l_of (s_val (v := .int .i64 ((rd4 (s.extract 13 17) : Int))) (wt0 rfl) rfl rfl (x_assign rfl rfl) ?_)
      refine g_nil ?_
      refine g_then ?_
      refine g_weak [(5, .int .i64 ((rd4 (s.extract 13 17) : Int)))] ⟨rfl, trivial⟩ ?_
      refine g_seq ?_
      refine g_region ?_
      refine l_of (s_val (v := .int .i64 ((rd4 (s.extract 13 17) : Int))) (wt0 rfl) rfl rfl (x_move rfl rfl) ?_)
      refine l_of (s_val (v := .bool (decide (((rd4 (s.extract 13 17) : Int) : Int) < 1))) (wt0 rfl) rfl rfl (x_bin rfl rfl rfl b_lss) ?_)
      refine l_of (s_val (v := .bool (decide (((rd4 (s.extract 13 17) : Int) : Int) < 1))) (wt0 rfl) rfl rfl (x_move rfl rfl) ?_)
      by_cases hb8 : ((rd4 (s.extract 13 17) : Int) : Int) < 1
      · skip
        refine l_of (s_not (wn1 rfl rfl rfl rfl (decide_eq_true hb8)) rfl rfl ?_)
        refine l_of (s_not (wn1 rfl rfl rfl rfl (decide_eq_true hb8)) rfl rfl ?_)
        refine l_of (s_val (v := .bool true) (wt0 rfl) rfl rfl (x_pick_t rfl rfl (decide_eq_true hb8) rfl) ?_)
        refine g_nil ?_
        refine g_then ?_
        refine g_cond_t rfl rfl ?_
        refine g_seq ?_
        refine g_region ?_
        refine l_of (s_val (v := .int .i64 13) (wt0 rfl) rfl rfl (x_assign rfl rfl) ?_)
        refine g_nil ?_
        refine g_then ?_
        refine g_ret ?_
        refine g_in_ret ?_
        refine g_then_ret ?_
        refine fin_ret [.tmp 4] [.int .i64 13] rfl ⟨rfl, trivial⟩ ?_
        exact ⟨by simp only [rangedP, tupled, hb3, if_pos hb4, if_pos hb8, if_true, Bool.false_eq_true, if_false], H0.mask [true]⟩
      · skip
        refine l_of (s_val (v := .int .i64 ((rd4 (s.extract 13 17) : Int))) (wt1 rfl rfl rfl rfl (decide_eq_false hb8)) rfl rfl (x_move rfl rfl) ?_)
        refine l_of (s_val (v := .bool (decide ((1024 : Int) < (rd4 (s.extract 13 17) : Int)))) (wt1 rfl rfl rfl rfl (decide_eq_false hb8)) rfl rfl (x_bin rfl rfl rfl b_gtr) ?_)
        refine l_of (s_val (v := .bool (decide ((1024 : Int) < (rd4 (s.extract 13 17) : Int)))) (wt0 rfl) rfl rfl (x_pick_f rfl rfl (decide_eq_false hb8) rfl) ?_)
        refine g_nil ?_
        refine g_then ?_
        by_cases hb9 : (1024 : Int) < (rd4 (s.extract 13 17) : Int)
        · skip
          refine g_cond_t rfl (decide_eq_true hb9) ?_
          refine g_seq ?_
          refine g_region ?_
          refine l_of (s_val (v := .int .i64 13) (wt0 rfl) rfl rfl (x_assign rfl rfl) ?_)
          refine g_nil ?_
          refine g_then ?_
          refine g_ret ?_
          refine g_in_ret ?_
          refine g_then_ret ?_
          refine fin_ret [.tmp 4] [.int .i64 13] rfl ⟨rfl, trivial⟩ ?_
          exact ⟨by simp only [rangedP, tupled, hb3, if_pos hb4, if_neg hb8, if_pos hb9, if_true, Bool.false_eq_true, if_false], H0.mask [true]⟩
        · skip
          refine g_cond_f rfl (decide_eq_false hb9) ?_
          refine g_skip ?_
          refine g_in ?_
          refine g_then ?_
          refine g_seq ?_
          refine g_region ?_
          refine l_of (s_val (v := .int .i64 (-1)) (wt0 rfl) rfl rfl (x_assign rfl rfl) ?_)
          refine g_nil ?_
          refine g_then ?_
          refine g_ret ?_
          refine fin_ret [.tmp 4] [.int .i64 (-1)] rfl ⟨rfl, trivial⟩ ?_
          exact ⟨by simp only [rangedP, tupled, hb3, if_pos hb4, if_neg hb8, if_neg hb9, if_true, Bool.false_eq_true, if_false], H0.mask [true]⟩
    · skip
      refine g_cond_f rfl (decide_eq_false hb4) ?_
      refine g_seq ?_
      refine g_region ?_
      refine l_of (s_val (v := .int .i64 k) (wt0 rfl) rfl rfl (x_move rfl rfl) ?_)
      refine l_of (s_val (v := .bool (decide ((k : Int) = 11))) (wt0 rfl) rfl rfl (x_bin rfl rfl rfl b_eql) ?_)
      refine l_of (s_val (v := .bool (decide ((k : Int) = 11))) (wt0 rfl) rfl rfl (x_move rfl rfl) ?_)
      by_cases hb10 : (k : Int) = 11
      · skip
        refine l_of (s_val (v := .string s) (wt1 rfl rfl rfl rfl (decide_eq_true hb10)) rfl rfl (x_move rfl rfl) ?_)
        refine l_of (s_val (v := .int .i64 ((s.size : Int))) (wt1 rfl rfl rfl rfl (decide_eq_true hb10)) rfl rfl (x_lens rfl rfl Try.underlying9) ?_)
        refine l_of (s_val (v := .bool (decide ((7 : Int) ≤ (s.size : Int)))) (wt1 rfl rfl rfl rfl (decide_eq_true hb10)) rfl rfl (x_bin rfl rfl rfl b_geq) ?_)
        refine l_of (s_val (v := .bool (decide ((7 : Int) ≤ (s.size : Int)))) (wt0 rfl) rfl rfl (x_pick_t rfl rfl (decide_eq_true hb10) rfl) ?_)
        refine l_of (s_val (v := .bool (decide ((7 : Int) ≤ (s.size : Int)))) (wt0 rfl) rfl rfl (x_assign rfl rfl) ?_)
        refine g_nil ?_
        refine g_then ?_
        refine g_weak [(1, .string s), (23, .bool (decide ((7 : Int) ≤ (s.size : Int))))] ⟨rfl, rfl, trivial⟩ ?_
        by_cases hb11 : (7 : Int) ≤ (s.size : Int)
        · skip
          refine g_cond_t rfl (decide_eq_true hb11) ?_
          refine g_seq ?_
          refine g_region ?_
          refine l_of (s_val (v := .string s) (wt0 rfl) rfl rfl (x_move rfl rfl) ?_)
          have hbt12 := bt'_lt s 5
          refine l_of (s_val (v := .int .u8 ((bt' s 5 : Int))) (wt0 rfl) rfl rfl (x_index 5 rfl rfl rfl Try.underlying9 (by omega)) ?_)
          refine l_of (s_val (v := .bool (decide (((bt' s 5 : Int) : Int) = 0))) (wt0 rfl) rfl rfl (x_bin rfl rfl rfl b_eql) ?_)
          refine l_of (s_val (v := .bool (decide (((bt' s 5 : Int) : Int) = 0))) (wt0 rfl) rfl rfl (x_move rfl rfl) ?_)
          by_cases hb13 : ((bt' s 5 : Int) : Int) = 0
          · skip
            refine l_of (s_val (v := .string s) (wt1 rfl rfl rfl rfl (decide_eq_true hb13)) rfl rfl (x_move rfl rfl) ?_)
            have hbt14 := bt'_lt s 6
            refine l_of (s_val (v := .int .u8 ((bt' s 6 : Int))) (wt1 rfl rfl rfl rfl (decide_eq_true hb13)) rfl rfl (x_index 6 rfl rfl rfl Try.underlying9 (by omega)) ?_)
            refine l_of (s_val (v := .bool (decide (((bt' s 6 : Int) : Int) = 0))) (wt1 rfl rfl rfl rfl (decide_eq_true hb13)) rfl rfl (x_bin rfl rfl rfl b_eql) ?_)
            refine l_of (s_val (v := .bool (decide (((bt' s 6 : Int) : Int) = 0))) (wt0 rfl) rfl rfl (x_pick_t rfl rfl (decide_eq_true hb13) rfl) ?_)
            refine g_nil ?_
            refine g_then ?_
            by_cases hb15 : ((bt' s 6 : Int) : Int) = 0
            · skip
              refine g_cond_t rfl (decide_eq_true hb15) ?_
              refine g_seq ?_
              refine g_region ?_
              refine l_of (s_val (v := .int .i64 5) (wt0 rfl) rfl rfl (x_assign rfl rfl) ?_)
              refine g_nil ?_
              refine g_then ?_
              refine g_ret ?_
              refine g_in_ret ?_
              refine g_then_ret ?_
              refine fin_ret [.tmp 4] [.int .i64 5] rfl ⟨rfl, trivial⟩ ?_
              exact ⟨by simp only [rangedP, tupled, hb3, if_neg hb4, if_pos hb10, if_pos hb11, if_pos hb13, if_pos hb15, if_true, Bool.false_eq_true, if_false], H0.mask [true]⟩
            · skip
              refine g_cond_f rfl (decide_eq_false hb15) ?_
              refine g_skip ?_
              refine g_in ?_
              refine g_then ?_
              refine g_seq ?_
              refine g_region ?_
              refine l_of (s_val (v := .int .i64 (-1)) (wt0 rfl) rfl rfl (x_assign rfl rfl) ?_)
              refine g_nil ?_
              refine g_then ?_
              refine g_ret ?_
              refine fin_ret [.tmp 4] [.int .i64 (-1)] rfl ⟨rfl, trivial⟩ ?_
              exact ⟨by simp only [rangedP, tupled, hb3, if_neg hb4, if_pos hb10, if_pos hb11, if_pos hb13, if_neg hb15, if_true, Bool.false_eq_true, if_false], H0.mask [true]⟩
          · skip
            refine l_of (s_not (wn1 rfl rfl rfl rfl (decide_eq_false hb13)) rfl rfl ?_)
            refine l_of (s_not (wn1 rfl rfl rfl rfl (decide_eq_false hb13)) rfl rfl ?_)
            refine l_of (s_not (wn1 rfl rfl rfl rfl (decide_eq_false hb13)) rfl rfl ?_)
            refine l_of (s_val (v := .bool false) (wt0 rfl) rfl rfl (x_pick_f rfl rfl (decide_eq_false hb13) rfl) ?_)
            refine g_nil ?_
            refine g_then ?_
            refine g_cond_f rfl rfl ?_
            refine g_skip ?_
            refine g_in ?_
            refine g_then ?_
            refine g_seq ?_
            refine g_region ?_
            refine l_of (s_val (v := .int .i64 (-1)) (wt0 rfl) rfl rfl (x_assign rfl rfl) ?_)
            refine g_nil ?_
            refine g_then ?_
            refine g_ret ?_
            refine fin_ret [.tmp 4] [.int .i64 (-1)] rfl ⟨rfl, trivial⟩ ?_
            exact ⟨by simp only [rangedP, tupled, hb3, if_neg hb4, if_pos hb10, if_pos hb11, if_neg hb13, if_true, Bool.false_eq_true, if_false], H0.mask [true]⟩
        · skip
          refine g_cond_f rfl (decide_eq_false hb11) ?_
          refine g_skip ?_
          refine g_in ?_
          refine g_then ?_
          refine g_seq ?_
          refine g_region ?_
          refine l_of (s_val (v := .int .i64 (-1)) (wt0 rfl) rfl rfl (x_assign rfl rfl) ?_)
          refine g_nil ?_
          refine g_then ?_
          refine g_ret ?_
          refine fin_ret [.tmp 4] [.int .i64 (-1)] rfl ⟨rfl, trivial⟩ ?_
          exact ⟨by simp only [rangedP, tupled, hb3, if_neg hb4, if_pos hb10, if_neg hb11, if_true, Bool.false_eq_true, if_false], H0.mask [true]⟩
      · skip
        refine l_of (s_not (wn1 rfl rfl rfl rfl (decide_eq_false hb10)) rfl rfl ?_)
        refine l_of (s_not (wn1 rfl rfl rfl rfl (decide_eq_false hb10)) rfl rfl ?_)
        refine l_of (s_not (wn1 rfl rfl rfl rfl (decide_eq_false hb10)) rfl rfl ?_)
        refine l_of (s_val (v := .bool false) (wt0 rfl) rfl rfl (x_pick_f rfl rfl (decide_eq_false hb10) rfl) ?_)
        refine l_of (s_val (v := .bool false) (wt0 rfl) rfl rfl (x_assign rfl rfl) ?_)
        refine g_nil ?_
        refine g_then ?_
        refine g_weak [(1, .string s), (23, .bool false)] ⟨rfl, rfl, trivial⟩ ?_
        refine g_cond_f rfl rfl ?_
        refine g_skip ?_
        refine g_in ?_
        refine g_then ?_
        refine g_seq ?_
        refine g_region ?_
        refine l_of (s_val (v := .int .i64 (-1)) (wt0 rfl) rfl rfl (x_assign rfl rfl) ?_)
        refine g_nil ?_
        refine g_then ?_
        refine g_ret ?_
        refine fin_ret [.tmp 4] [.int .i64 (-1)] rfl ⟨rfl, trivial⟩ ?_
        exact ⟨by simp only [rangedP, tupled, hb3, if_neg hb4, if_neg hb10, if_true, Bool.false_eq_true, if_false], H0.mask [true]⟩
  · skip
    refine l_of (s_not (wn1 rfl rfl rfl rfl hb3) rfl rfl ?_)
    refine l_of (s_not (wn1 rfl rfl rfl rfl hb3) rfl rfl ?_)
    refine l_of (s_not (wn1 rfl rfl rfl rfl hb3) rfl rfl ?_)
    refine l_of (s_val (v := .bool false) (wt0 rfl) rfl rfl (x_pick_f rfl rfl hb3 rfl) ?_)
    refine l_of (s_val (v := .bool false) (wt0 rfl) rfl rfl (x_assign rfl rfl) ?_)
    refine g_nil ?_
    refine g_then ?_
    refine g_cond_f rfl rfl ?_
    refine g_seq ?_
    refine g_region ?_
    refine l_of (s_val (v := .int .i64 k) (wt0 rfl) rfl rfl (x_move rfl rfl) ?_)
    refine l_of (s_val (v := .bool (decide ((k : Int) = 11))) (wt0 rfl) rfl rfl (x_bin rfl rfl rfl b_eql) ?_)
    refine l_of (s_val (v := .bool (decide ((k : Int) = 11))) (wt0 rfl) rfl rfl (x_move rfl rfl) ?_)
    by_cases hb16 : (k : Int) = 11
    · skip
      refine l_of (s_val (v := .string s) (wt1 rfl rfl rfl rfl (decide_eq_true hb16)) rfl rfl (x_move rfl rfl) ?_)
      refine l_of (s_val (v := .int .i64 ((s.size : Int))) (wt1 rfl rfl rfl rfl (decide_eq_true hb16)) rfl rfl (x_lens rfl rfl Try.underlying9) ?_)
      refine l_of (s_val (v := .bool (decide ((7 : Int) ≤ (s.size : Int)))) (wt1 rfl rfl rfl rfl (decide_eq_true hb16)) rfl rfl (x_bin rfl rfl rfl b_geq) ?_)
      refine l_of (s_val (v := .bool (decide ((7 : Int) ≤ (s.size : Int)))) (wt0 rfl) rfl rfl (x_pick_t rfl rfl (decide_eq_true hb16) rfl) ?_)
      refine l_of (s_val (v := .bool (decide ((7 : Int) ≤ (s.size : Int)))) (wt0 rfl) rfl rfl (x_assign rfl rfl) ?_)
      refine g_nil ?_
      refine g_then ?_
      refine g_weak [(1, .string s), (23, .bool (decide ((7 : Int) ≤ (s.size : Int))))] ⟨rfl, rfl, trivial⟩ ?_
      by_cases hb17 : (7 : Int) ≤ (s.size : Int)
      · skip
        refine g_cond_t rfl (decide_eq_true hb17) ?_
        refine g_seq ?_
        refine g_region ?_
        refine l_of (s_val (v := .string s) (wt0 rfl) rfl rfl (x_move rfl rfl) ?_)
        have hbt18 := bt'_lt s 5
        refine l_of (s_val (v := .int .u8 ((bt' s 5 : Int))) (wt0 rfl) rfl rfl (x_index 5 rfl rfl rfl Try.underlying9 (by omega)) ?_)
        refine l_of (s_val (v := .bool (decide (((bt' s 5 : Int) : Int) = 0))) (wt0 rfl) rfl rfl (x_bin rfl rfl rfl b_eql) ?_)
        refine l_of (s_val (v := .bool (decide (((bt' s 5 : Int) : Int) = 0))) (wt0 rfl) rfl rfl (x_move rfl rfl) ?_)
        by_cases hb19 : ((bt' s 5 : Int) : Int) = 0
        · skip
          refine l_of (s_val (v := .string s) (wt1 rfl rfl rfl rfl (decide_eq_true hb19)) rfl rfl (x_move rfl rfl) ?_)
          have hbt20 := bt'_lt s 6
          refine l_of (s_val (v := .int .u8 ((bt' s 6 : Int))) (wt1 rfl rfl rfl rfl (decide_eq_true hb19)) rfl rfl (x_index 6 rfl rfl rfl Try.underlying9 (by omega)) ?_)
          refine l_of (s_val (v := .bool (decide (((bt' s 6 : Int) : Int) = 0))) (wt1 rfl rfl rfl rfl (decide_eq_true hb19)) rfl rfl (x_bin rfl rfl rfl b_eql) ?_)
          refine l_of (s_val (v := .bool (decide (((bt' s 6 : Int) : Int) = 0))) (wt0 rfl) rfl rfl (x_pick_t rfl rfl (decide_eq_true hb19) rfl) ?_)
          refine g_nil ?_
          refine g_then ?_
          by_cases hb21 : ((bt' s 6 : Int) : Int) = 0
          · skip
            refine g_cond_t rfl (decide_eq_true hb21) ?_
            refine g_seq ?_
            refine g_region ?_
            refine l_of (s_val (v := .int .i64 5) (wt0 rfl) rfl rfl (x_assign rfl rfl) ?_)
            refine g_nil ?_
            refine g_then ?_
            refine g_ret ?_
            refine g_in_ret ?_
            refine g_then_ret ?_
            refine fin_ret [.tmp 4] [.int .i64 5] rfl ⟨rfl, trivial⟩ ?_
            exact ⟨by simp only [rangedP, tupled, hb3, if_pos hb16, if_pos hb17, if_pos hb19, if_pos hb21, if_true, Bool.false_eq_true, if_false], H0.mask [true]⟩
          · skip
            refine g_cond_f rfl (decide_eq_false hb21) ?_
            refine g_skip ?_
            refine g_in ?_
            refine g_then ?_
            refine g_seq ?_
            refine g_region ?_
            refine l_of (s_val (v := .int .i64 (-1)) (wt0 rfl) rfl rfl (x_assign rfl rfl) ?_)
            refine g_nil ?_
            refine g_then ?_
            refine g_ret ?_
            refine fin_ret [.tmp 4] [.int .i64 (-1)] rfl ⟨rfl, trivial⟩ ?_
            exact ⟨by simp only [rangedP, tupled, hb3, if_pos hb16, if_pos hb17, if_pos hb19, if_neg hb21, if_true, Bool.false_eq_true, if_false], H0.mask [true]⟩
        · skip
          refine l_of (s_not (wn1 rfl rfl rfl rfl (decide_eq_false hb19)) rfl rfl ?_)
          refine l_of (s_not (wn1 rfl rfl rfl rfl (decide_eq_false hb19)) rfl rfl ?_)
          refine l_of (s_not (wn1 rfl rfl rfl rfl (decide_eq_false hb19)) rfl rfl ?_)
          refine l_of (s_val (v := .bool false) (wt0 rfl) rfl rfl (x_pick_f rfl rfl (decide_eq_false hb19) rfl) ?_)
          refine g_nil ?_
          refine g_then ?_
          refine g_cond_f rfl rfl ?_
          refine g_skip ?_
          refine g_in ?_
          refine g_then ?_
          refine g_seq ?_
          refine g_region ?_
          refine l_of (s_val (v := .int .i64 (-1)) (wt0 rfl) rfl rfl (x_assign rfl rfl) ?_)
          refine g_nil ?_
          refine g_then ?_
          refine g_ret ?_
          refine fin_ret [.tmp 4] [.int .i64 (-1)] rfl ⟨rfl, trivial⟩ ?_
          exact ⟨by simp only [rangedP, tupled, hb3, if_pos hb16, if_pos hb17, if_neg hb19, if_true, Bool.false_eq_true, if_false], H0.mask [true]⟩
      · skip
        refine g_cond_f rfl (decide_eq_false hb17) ?_
        refine g_skip ?_
        refine g_in ?_
        refine g_then ?_
        refine g_seq ?_
        refine g_region ?_
        refine l_of (s_val (v := .int .i64 (-1)) (wt0 rfl) rfl rfl (x_assign rfl rfl) ?_)
        refine g_nil ?_
        refine g_then ?_
        refine g_ret ?_
        refine fin_ret [.tmp 4] [.int .i64 (-1)] rfl ⟨rfl, trivial⟩ ?_
        exact ⟨by simp only [rangedP, tupled, hb3, if_pos hb16, if_neg hb17, if_true, Bool.false_eq_true, if_false], H0.mask [true]⟩
    · skip
      refine l_of (s_not (wn1 rfl rfl rfl rfl (decide_eq_false hb16)) rfl rfl ?_)
      refine l_of (s_not (wn1 rfl rfl rfl rfl (decide_eq_false hb16)) rfl rfl ?_)
      refine l_of (s_not (wn1 rfl rfl rfl rfl (decide_eq_false hb16)) rfl rfl ?_)
      refine l_of (s_val (v := .bool false) (wt0 rfl) rfl rfl (x_pick_f rfl rfl (decide_eq_false hb16) rfl) ?_)
      refine l_of (s_val (v := .bool false) (wt0 rfl) rfl rfl (x_assign rfl rfl) ?_)
      refine g_nil ?_
      refine g_then ?_
      refine g_weak [(1, .string s), (23, .bool false)] ⟨rfl, rfl, trivial⟩ ?_
      refine g_cond_f rfl rfl ?_
      refine g_skip ?_
      refine g_in ?_
      refine g_then ?_
      refine g_seq ?_
      refine g_region ?_
      refine l_of (s_val (v := .int .i64 (-1)) (wt0 rfl) rfl rfl (x_assign rfl rfl) ?_)
      refine g_nil ?_
      refine g_then ?_
      refine g_ret ?_
      refine fin_ret [.tmp 4] [.int .i64 (-1)] rfl ⟨rfl, trivial⟩ ?_
      exact ⟨by simp only [rangedP, tupled, hb3, if_neg hb16, if_true, Bool.false_eq_true, if_false], H0.mask [true]⟩
end Go.Proofs.Ytcjmdkklbbollaa
