import Derived.Test.YtcjmdkklbbollaaAC
set_option linter.unusedSimpArgs false
set_option linter.unusedVariables false
namespace Go.Proofs.Ytcjmdkklbbollaa
open Go.RowKit

theorem cl58 : callable Try.prog 58 = true := by kernel_rfl
theorem cl59 : callable Try.prog 59 = true := by kernel_rfl
theorem cl60 : callable Try.prog 60 = true := by kernel_rfl
theorem cl61 : callable Try.prog 61 = true := by kernel_rfl
theorem inf5 : infO Try.prog 5 = some (some (.int .u8 0), 1, 1) := by kernel_rfl
theorem kindP_rng (n : Int) (h : ¬ ((kindP n : Nat) : Int) = 0) : 2 ≤ kindP n ∧ kindP n ≤ 20 := by
  unfold kindP at *
  cases hf : (List.range 21).find? (fun k => decide (1 < k) && numb k == n) with
  | none => rw [hf] at h; exact absurd rfl h
  | some k =>
    have h1 := List.find?_some hf
    have h2 := List.mem_of_find?_eq_some hf
    simp only [Bool.and_eq_true, decide_eq_true_eq] at h1
    simp only [List.mem_range] at h2
    exact ⟨h1.1, by show k ≤ 20; omega⟩
theorem may_sizes (k : Nat) (k0 : 2 ≤ k) (k1 : k ≤ 20) (x : Int) (h : mayP (fields k) x = true) (m : Nat) (hm : (m : Int) = x) :
    (isIdx k = true → 4 ≤ m) ∧ (isBlock k = true → 12 ≤ m) ∧ ((k : Int) = 9 → 8 ≤ m) ∧ ((k : Int) = 11 → 2 ≤ m) ∧ ((k : Int) = 17 → 1 ≤ m) ∧ (isHash k = true → 48 ≤ m) := by
  rcases (by omega : k = 2 ∨ k = 3 ∨ k = 4 ∨ k = 5 ∨ k = 6 ∨ k = 7 ∨ k = 8 ∨ k = 9 ∨ k = 10 ∨ k = 11 ∨ k = 12 ∨ k = 13 ∨ k = 14 ∨ k = 15 ∨ k = 16 ∨ k = 17 ∨ k = 18 ∨ k = 19 ∨ k = 20) with rfl | rfl | rfl | rfl | rfl | rfl | rfl | rfl | rfl | rfl | rfl | rfl | rfl | rfl | rfl | rfl | rfl | rfl | rfl <;>
  · simp [mayP, fields, fsOne, fsBits, fsBlock, fsPiece, fsPort, fsExt, fsAsk, fsHash, F4, FLen, FRest, FRoot, okRest, isIdx, isBlock, isHash, one3] at h ⊢ <;> omega
/-- What Decode answers: the message, how many bytes were used, the wrong byte, the error. -/
def decS (s : ByteArray) : M × Int × Int × Int :=
  if (65536 : Int) < s.size then ((⟨0, 0, 0, 0, 0, 0, ⟨#[]⟩, ⟨#[]⟩⟩ : M), 0, 0, 3)
  else if (s.size : Int) < 4 then
    if (4200 : Int) < rd4 (s ++ ⟨(List.replicate (4 - s.size) 0).toArray⟩) then ((⟨0, 0, 0, 0, 0, 0, ⟨#[]⟩, ⟨#[]⟩⟩ : M), 0, 0, 12) else ((⟨0, 0, 0, 0, 0, 0, ⟨#[]⟩, ⟨#[]⟩⟩ : M), 0, s.size, 8)
  else if (4200 : Int) < rd4 s then ((⟨0, 0, 0, 0, 0, 0, ⟨#[]⟩, ⟨#[]⟩⟩ : M), 0, 0, 12)
  else if (rd4 s : Int) = 0 then (⟨1, 0, 0, 0, 0, 0, ⟨#[]⟩, ⟨#[]⟩⟩, 4, -1, 0)
  else if (s.size : Int) < 5 then ((⟨0, 0, 0, 0, 0, 0, ⟨#[]⟩, ⟨#[]⟩⟩ : M), 0, s.size, 8)
  else if (kindP (bt' s 4) : Int) = 0 then ((⟨0, 0, 0, 0, 0, 0, ⟨#[]⟩, ⟨#[]⟩⟩ : M), 0, 4, 12)
  else if mayP (fields (kindP (bt' s 4))) ((rd4 s : Int) - 1) = true then
    if (0 : Int) ≤ rangedP (kindP (bt' s 4)) (s.extract 0 (min (s.size : Int) (4 + rd4 s)).toNat) then ((⟨0, 0, 0, 0, 0, 0, ⟨#[]⟩, ⟨#[]⟩⟩ : M), 0, rangedP (kindP (bt' s 4)) (s.extract 0 (min (s.size : Int) (4 + rd4 s)).toNat), 12)
    else if (s.size : Int) < 4 + rd4 s then ((⟨0, 0, 0, 0, 0, 0, ⟨#[]⟩, ⟨#[]⟩⟩ : M), 0, s.size, 8)
    else (takenP (kindP (bt' s 4)) (s.extract 5 (4 + (rd4 s : Int)).toNat), 4 + rd4 s, -1, 0)
  else ((⟨0, 0, 0, 0, 0, 0, ⟨#[]⟩, ⟨#[]⟩⟩ : M), 0, 0, 12)
set_option maxRecDepth 20000 in
set_option maxHeartbeats 4000000 in
theorem decode_r (s : ByteArray)  (w : World) : Calls Try.prog 21 #[.string s] w fun e w' => e = .returned (.tuple #[.agg (decS s).1.cells, .int .i64 (decS s).2.1, .int .i64 (decS s).2.2.1, .int .i64 (decS s).2.2.2]) ∧ S w' [Old w no] := by
  have H0 := S.old w
  refine enter 92 Try.func21 rfl rfl rfl ?_
  refine g_weak [(0, .string s)] ⟨rfl, trivial⟩ ?_
  refine g_seq ?_
  refine g_region ?_
  refine l_of (s_alloc H0 (wt0 rfl) rfl rfl rfl ze33 ?_)
  intro g1 w2 (H3 : S w2 [Ob g1 (.cells #[.int .i64 0, .int .i64 0, .int .i64 0, .int .i64 0, .int .i64 0, .int .i64 0, .string (⟨#[]⟩), .string (⟨#[]⟩)] 33 (0, 0)), Old w no])
  refine l_of (s_val (v := .int .i64 0) (wt0 rfl) rfl rfl (x_assign rfl rfl) ?_)
  refine l_of (s_val (v := .int .i64 0) (wt0 rfl) rfl rfl (x_assign rfl rfl) ?_)
  refine l_of (s_val (v := .int .i64 0) (wt0 rfl) rfl rfl (x_assign rfl rfl) ?_)
  refine g_nil ?_
  refine g_then ?_
  refine g_seq ?_
  refine g_seq ?_
  refine g_region ?_
  refine l_of (s_val (v := .string s) (wt0 rfl) rfl rfl (x_move rfl rfl) ?_)
  refine l_of (s_val (v := .int .i64 ((s.size : Int))) (wt0 rfl) rfl rfl (x_lens rfl rfl Try.underlying9) ?_)
  refine l_of (s_val (v := .bool (decide ((65536 : Int) < (s.size : Int)))) (wt0 rfl) rfl rfl (x_bin rfl rfl rfl b_gtr) ?_)
  refine g_nil ?_
  refine g_then ?_
  by_cases hb4 : (65536 : Int) < (s.size : Int)
  · skip
    refine g_cond_t rfl (decide_eq_true hb4) ?_
    refine g_seq ?_
    refine g_region ?_
    refine l_of (s_val (v := .agg #[.int .i64 0, .int .i64 0, .int .i64 0, .int .i64 0, .int .i64 0, .int .i64 0, .string (⟨#[]⟩), .string (⟨#[]⟩)]) (wt0 rfl) rfl rfl (x_loadA H3 0 rfl rfl Try.underlying33 rfl sz33 rfl rfl rfl) ?_)
    refine l_of (s_store H3 0 (wt0 rfl) rfl rfl rfl rfl rfl sz33 rfl rfl (cs' := #[.int .i64 0, .int .i64 0, .int .i64 0, .int .i64 0, .int .i64 0, .int .i64 0, .string (⟨#[]⟩), .string (⟨#[]⟩)]) rfl ?_)
    intro w5 (H6 : S w5 [Ob g1 (.cells #[.int .i64 0, .int .i64 0, .int .i64 0, .int .i64 0, .int .i64 0, .int .i64 0, .string (⟨#[]⟩), .string (⟨#[]⟩)] 33 (0, 0)), Old w no])
    refine l_of (s_val (v := .int .i64 0) (wt0 rfl) rfl rfl (x_assign rfl rfl) ?_)
    refine l_of (s_val (v := .int .i64 0) (wt0 rfl) rfl rfl (x_assign rfl rfl) ?_)
    refine l_of (s_val (v := .int .i64 3) (wt0 rfl) rfl rfl (x_assign rfl rfl) ?_)
    refine g_nil ?_
    refine g_then ?_
    refine g_ret ?_
    refine g_then_ret ?_
    refine fin_ret [.cell 2 33, .tmp 3, .tmp 4, .tmp 5] [.agg #[.int .i64 0, .int .i64 0, .int .i64 0, .int .i64 0, .int .i64 0, .int .i64 0, .string (⟨#[]⟩), .string (⟨#[]⟩)], .int .i64 0, .int .i64 0, .int .i64 3] rfl ⟨⟨_, rfl, run_loadA (H6.ob (k := 0) rfl) Try.underlying33 rfl sz33 rfl rfl⟩, rfl, rfl, rfl, trivial⟩ ?_
    exact ⟨by simp only [decS, tupled, M.cells, if_pos hb4, if_true, Bool.false_eq_true, if_false], H6.mask [false, true]⟩
  · skip
    refine g_cond_f rfl (decide_eq_false hb4) ?_
    refine g_skip ?_
    refine g_then ?_
    refine g_seq ?_
    refine g_seq ?_
    refine g_region ?_
    refine l_of (s_val (v := .string s) (wt0 rfl) rfl rfl (x_move rfl rfl) ?_)
    refine l_of (s_val (v := .int .i64 ((s.size : Int))) (wt0 rfl) rfl rfl (x_lens rfl rfl Try.underlying9) ?_)
    refine l_of (s_val (v := .bool (decide (((s.size : Int) : Int) < 4))) (wt0 rfl) rfl rfl (x_bin rfl rfl rfl b_lss) ?_)
    refine g_nil ?_
    refine g_then ?_
    by_cases hb7 : ((s.size : Int) : Int) < 4
    · skip
      refine g_cond_t rfl (decide_eq_true hb7) ?_
      refine g_seq ?_
      refine g_region ?_
      refine l_of (s_val (v := .string s) (wt0 rfl) rfl rfl (x_move rfl rfl) ?_)
      refine l_of (s_val (v := .string s) (wt0 rfl) rfl rfl (x_move rfl rfl) ?_)
      refine l_of (s_val (v := .int .i64 ((s.size : Int))) (wt0 rfl) rfl rfl (x_lens rfl rfl Try.underlying9) ?_)
      refine l_of (s_val (v := .int .i64 (4 - (s.size : Int))) (wt0 rfl) rfl rfl (x_bin rfl rfl rfl (b_sub (w64 (by omega)))) ?_)
      refine l_of (s_make1 (4 - s.size) H3 (wt0 rfl) rfl rfl rfl rfl rfl Try.underlying69 inf5 rfl (by omega) ?_)
      intro g8 w9 (H10 : S w9 [Ob g8 (.cells (Array.replicate (4 - s.size) (.int .u8 0)) 5 (0, 0)), Ob g1 (.cells #[.int .i64 0, .int .i64 0, .int .i64 0, .int .i64 0, .int .i64 0, .int .i64 0, .string (⟨#[]⟩), .string (⟨#[]⟩)] 33 (0, 0)), Old w no])
      have hz0 : (⟨(List.replicate (4 - s.size) 0).toArray⟩ : ByteArray).size = 4 - s.size := by show ((List.replicate (4 - s.size) 0).toArray).size = _; simp
      refine l_of (s_val (v := .string ((⟨(List.replicate (4 - s.size) 0).toArray⟩ : ByteArray))) (wt0 rfl) rfl rfl (x_bytes (l := (List.replicate (4 - s.size) 0)) rfl rfl Try.underlying69 Try.underlying9 Try.underlying5 (by simp) (hc_ob (k := 0) H10 rfl (by simp [bytesV]))) ?_)
      have hsz11 : (s ++ (⟨(List.replicate (4 - s.size) 0).toArray⟩ : ByteArray)).size = s.size + (⟨(List.replicate (4 - s.size) 0).toArray⟩ : ByteArray).size := ByteArray.size_append
      refine l_of (s_val (v := .string (s ++ (⟨(List.replicate (4 - s.size) 0).toArray⟩ : ByteArray))) (wt0 rfl) rfl rfl (x_bin rfl rfl rfl (b_cat (by omega))) ?_)
      refine l_of (s_val (v := .string (s ++ (⟨(List.replicate (4 - s.size) 0).toArray⟩ : ByteArray))) (wt0 rfl) rfl rfl (x_assign rfl rfl) ?_)
      refine g_nil ?_
      refine g_then ?_
      refine g_weak [(0, .string s), (2, .pointer (some ⟨g1, 0, none⟩)), (6, .string (s ++ (⟨(List.replicate (4 - s.size) 0).toArray⟩ : ByteArray)))] ⟨rfl, rfl, rfl, trivial⟩ ?_
      refine g_seq ?_
      refine g_seq ?_
      refine g_region ?_
      refine l_of (s_val (v := .string (s ++ (⟨(List.replicate (4 - s.size) 0).toArray⟩ : ByteArray))) (wt0 rfl) rfl rfl (x_move rfl rfl) ?_)
      have := rd4_lt (s ++ (⟨(List.replicate (4 - s.size) 0).toArray⟩ : ByteArray))
      refine l_of (s_call (wt0 rfl) (x_call' rfl rfl cl57) (read4_r _ (by omega) _) ?_)
      rintro _ _ ⟨rfl, rfl⟩
      refine b_ret rfl rfl ?_
      refine l_of (s_val (v := .bool (decide ((4200 : Int) < (rd4 (s ++ (⟨(List.replicate (4 - s.size) 0).toArray⟩ : ByteArray)) : Int)))) (wt0 rfl) rfl rfl (x_bin rfl rfl rfl b_gtr) ?_)
      refine g_nil ?_
      refine g_then ?_
      by_cases hb14 : (4200 : Int) < (rd4 (s ++ (⟨(List.replicate (4 - s.size) 0).toArray⟩ : ByteArray)) : Int)
      · skip
        refine g_cond_t rfl (decide_eq_true hb14) ?_
        refine g_seq ?_
        refine g_region ?_
        refine l_of (s_val (v := .agg #[.int .i64 0, .int .i64 0, .int .i64 0, .int .i64 0, .int .i64 0, .int .i64 0, .string (⟨#[]⟩), .string (⟨#[]⟩)]) (wt0 rfl) rfl rfl (x_loadA H10 1 rfl rfl Try.underlying33 rfl sz33 rfl rfl rfl) ?_)
        refine l_of (s_store H10 1 (wt0 rfl) rfl rfl rfl rfl rfl sz33 rfl rfl (cs' := #[.int .i64 0, .int .i64 0, .int .i64 0, .int .i64 0, .int .i64 0, .int .i64 0, .string (⟨#[]⟩), .string (⟨#[]⟩)]) rfl ?_)
        intro w15 (H16 : S w15 [Ob g8 (.cells (Array.replicate (4 - s.size) (.int .u8 0)) 5 (0, 0)), Ob g1 (.cells #[.int .i64 0, .int .i64 0, .int .i64 0, .int .i64 0, .int .i64 0, .int .i64 0, .string (⟨#[]⟩), .string (⟨#[]⟩)] 33 (0, 0)), Old w no])
        refine l_of (s_val (v := .int .i64 0) (wt0 rfl) rfl rfl (x_assign rfl rfl) ?_)
        refine l_of (s_val (v := .int .i64 0) (wt0 rfl) rfl rfl (x_assign rfl rfl) ?_)
        refine l_of (s_val (v := .int .i64 12) (wt0 rfl) rfl rfl (x_assign rfl rfl) ?_)
        refine g_nil ?_
        refine g_then ?_
        refine g_ret ?_
        refine g_then_ret ?_
        refine g_then_ret ?_
        refine fin_ret [.cell 2 33, .tmp 3, .tmp 4, .tmp 5] [.agg #[.int .i64 0, .int .i64 0, .int .i64 0, .int .i64 0, .int .i64 0, .int .i64 0, .string (⟨#[]⟩), .string (⟨#[]⟩)], .int .i64 0, .int .i64 0, .int .i64 12] rfl ⟨⟨_, rfl, run_loadA (H16.ob (k := 1) rfl) Try.underlying33 rfl sz33 rfl rfl⟩, rfl, rfl, rfl, trivial⟩ ?_
        exact ⟨by simp only [decS, tupled, M.cells, if_neg hb4, if_pos hb7, if_pos hb14, if_true, Bool.false_eq_true, if_false], H16.mask [false, false, true]⟩
      · skip
        refine g_cond_f rfl (decide_eq_false hb14) ?_
        refine g_skip ?_
        refine g_then ?_
        refine g_seq ?_
        refine g_region ?_
        refine l_of (s_val (v := .agg #[.int .i64 0, .int .i64 0, .int .i64 0, .int .i64 0, .int .i64 0, .int .i64 0, .string (⟨#[]⟩), .string (⟨#[]⟩)]) (wt0 rfl) rfl rfl (x_loadA H10 1 rfl rfl Try.underlying33 rfl sz33 rfl rfl rfl) ?_)
        refine l_of (s_val (v := .string s) (wt0 rfl) rfl rfl (x_move rfl rfl) ?_)
        refine l_of (s_val (v := .int .i64 ((s.size : Int))) (wt0 rfl) rfl rfl (x_lens rfl rfl Try.underlying9) ?_)
        refine l_of (s_store H10 1 (wt0 rfl) rfl rfl rfl rfl rfl sz33 rfl rfl (cs' := #[.int .i64 0, .int .i64 0, .int .i64 0, .int .i64 0, .int .i64 0, .int .i64 0, .string (⟨#[]⟩), .string (⟨#[]⟩)]) rfl ?_)
        intro w17 (H18 : S w17 [Ob g8 (.cells (Array.replicate (4 - s.size) (.int .u8 0)) 5 (0, 0)), Ob g1 (.cells #[.int .i64 0, .int .i64 0, .int .i64 0, .int .i64 0, .int .i64 0, .int .i64 0, .string (⟨#[]⟩), .string (⟨#[]⟩)] 33 (0, 0)), Old w no])
        refine l_of (s_val (v := .int .i64 0) (wt0 rfl) rfl rfl (x_assign rfl rfl) ?_)
        refine l_of (s_val (v := .int .i64 ((s.size : Int))) (wt0 rfl) rfl rfl (x_assign rfl rfl) ?_)
        refine l_of (s_val (v := .int .i64 8) (wt0 rfl) rfl rfl (x_assign rfl rfl) ?_)
        refine g_nil ?_
        refine g_then ?_
        refine g_ret ?_
        refine g_then_ret ?_
        refine fin_ret [.cell 2 33, .tmp 3, .tmp 4, .tmp 5] [.agg #[.int .i64 0, .int .i64 0, .int .i64 0, .int .i64 0, .int .i64 0, .int .i64 0, .string (⟨#[]⟩), .string (⟨#[]⟩)], .int .i64 0, .int .i64 ((s.size : Int)), .int .i64 8] rfl ⟨⟨_, rfl, run_loadA (H18.ob (k := 1) rfl) Try.underlying33 rfl sz33 rfl rfl⟩, rfl, rfl, rfl, trivial⟩ ?_
        exact ⟨by simp only [decS, tupled, M.cells, if_neg hb4, if_pos hb7, if_neg hb14, if_true, Bool.false_eq_true, if_false], H18.mask [false, false, true]⟩
    · skip
      refine g_cond_f rfl (decide_eq_false hb7) ?_
      refine g_skip ?_
      refine g_then ?_
      refine g_seq ?_
      refine g_region ?_
      refine l_of (s_val (v := .string s) (wt0 rfl) rfl rfl (x_move rfl rfl) ?_)
      have := rd4_lt s
      refine l_of (s_call (wt0 rfl) (x_call' rfl rfl cl57) (read4_r _ (by omega) _) ?_)
      rintro _ _ ⟨rfl, rfl⟩
      refine b_ret rfl rfl ?_
      refine l_of (s_val (v := .int .i64 ((rd4 s : Int))) (wt0 rfl) rfl rfl (x_assign rfl rfl) ?_)
      refine g_nil ?_
      refine g_then ?_
      refine g_seq ?_
      refine g_block ?_
      refine g_seq ?_
      refine g_region ?_
      refine l_of (s_val (v := .int .i64 ((rd4 s : Int))) (wt0 rfl) rfl rfl (x_move rfl rfl) ?_)
      refine l_of (s_val (v := .bool (decide ((4200 : Int) < (rd4 s : Int)))) (wt0 rfl) rfl rfl (x_bin rfl rfl rfl b_gtr) ?_)
      refine l_of (s_val (v := .bool (decide ((4200 : Int) < (rd4 s : Int)))) (wt0 rfl) rfl rfl (x_assign rfl rfl) ?_)
      refine g_nil ?_
      refine g_then ?_
      refine g_weak [(0, .string s), (2, .pointer (some ⟨g1, 0, none⟩)), (7, .int .i64 ((rd4 s : Int))), (33, .bool (decide ((4200 : Int) < (rd4 s : Int))))] ⟨rfl, rfl, rfl, rfl, trivial⟩ ?_
      by_cases hb21 : (4200 : Int) < (rd4 s : Int)
      · skip
        refine g_cond_t rfl (decide_eq_true hb21) ?_
        refine g_seq ?_
        refine g_region ?_
        refine l_of (s_val (v := .agg #[.int .i64 0, .int .i64 0, .int .i64 0, .int .i64 0, .int .i64 0, .int .i64 0, .string (⟨#[]⟩), .string (⟨#[]⟩)]) (wt0 rfl) rfl rfl (x_loadA H3 0 rfl rfl Try.underlying33 rfl sz33 rfl rfl rfl) ?_)
        refine l_of (s_store H3 0 (wt0 rfl) rfl rfl rfl rfl rfl sz33 rfl rfl (cs' := #[.int .i64 0, .int .i64 0, .int .i64 0, .int .i64 0, .int .i64 0, .int .i64 0, .string (⟨#[]⟩), .string (⟨#[]⟩)]) rfl ?_)
        intro w22 (H23 : S w22 [Ob g1 (.cells #[.int .i64 0, .int .i64 0, .int .i64 0, .int .i64 0, .int .i64 0, .int .i64 0, .string (⟨#[]⟩), .string (⟨#[]⟩)] 33 (0, 0)), Old w no])
        refine l_of (s_val (v := .int .i64 0) (wt0 rfl) rfl rfl (x_assign rfl rfl) ?_)
        refine l_of (s_val (v := .int .i64 0) (wt0 rfl) rfl rfl (x_assign rfl rfl) ?_)
        refine l_of (s_val (v := .int .i64 12) (wt0 rfl) rfl rfl (x_assign rfl rfl) ?_)
        refine g_nil ?_
        refine g_then ?_
        refine g_ret ?_
        refine g_in_ret ?_
        refine g_then_ret ?_
        refine fin_ret [.cell 2 33, .tmp 3, .tmp 4, .tmp 5] [.agg #[.int .i64 0, .int .i64 0, .int .i64 0, .int .i64 0, .int .i64 0, .int .i64 0, .string (⟨#[]⟩), .string (⟨#[]⟩)], .int .i64 0, .int .i64 0, .int .i64 12] rfl ⟨⟨_, rfl, run_loadA (H23.ob (k := 0) rfl) Try.underlying33 rfl sz33 rfl rfl⟩, rfl, rfl, rfl, trivial⟩ ?_
        exact ⟨by simp only [decS, tupled, M.cells, if_neg hb4, if_neg hb7, if_pos hb21, if_true, Bool.false_eq_true, if_false], H23.mask [false, true]⟩
      · skip
        refine g_cond_f rfl (decide_eq_false hb21) ?_
        refine g_seq ?_
        refine g_region ?_
        refine l_of (s_val (v := .int .i64 ((rd4 s : Int))) (wt0 rfl) rfl rfl (x_move rfl rfl) ?_)
        refine l_of (s_val (v := .bool (decide (((rd4 s : Int) : Int) = 0))) (wt0 rfl) rfl rfl (x_bin rfl rfl rfl b_eql) ?_)
        refine l_of (s_val (v := .bool (decide (((rd4 s : Int) : Int) = 0))) (wt0 rfl) rfl rfl (x_assign rfl rfl) ?_)
        refine g_nil ?_
        refine g_then ?_
        by_cases hb24 : ((rd4 s : Int) : Int) = 0
        · skip
          refine g_cond_t rfl (decide_eq_true hb24) ?_
          refine g_seq ?_
          refine g_region ?_
          refine l_of (s_val (v := .agg #[.int .i64 1, .int .i64 0, .int .i64 0, .int .i64 0, .int .i64 0, .int .i64 0, .string (⟨#[]⟩), .string (⟨#[]⟩)]) (wt0 rfl) rfl rfl (x_build (vs := [.int .i64 1]) rfl rfl (cells := #[.int .i64 1, .int .i64 0, .int .i64 0, .int .i64 0, .int .i64 0, .int .i64 0, .string (⟨#[]⟩), .string (⟨#[]⟩)]) (by kernel_rfl)) ?_)
          refine l_of (s_store H3 0 (wt0 rfl) rfl rfl rfl rfl rfl sz33 rfl rfl (cs' := #[.int .i64 1, .int .i64 0, .int .i64 0, .int .i64 0, .int .i64 0, .int .i64 0, .string (⟨#[]⟩), .string (⟨#[]⟩)]) rfl ?_)
          intro w25 (H26 : S w25 [Ob g1 (.cells #[.int .i64 1, .int .i64 0, .int .i64 0, .int .i64 0, .int .i64 0, .int .i64 0, .string (⟨#[]⟩), .string (⟨#[]⟩)] 33 (0, 0)), Old w no])
          refine l_of (s_val (v := .int .i64 4) (wt0 rfl) rfl rfl (x_assign rfl rfl) ?_)
          refine l_of (s_val (v := .int .i64 (-1)) (wt0 rfl) rfl rfl (x_assign rfl rfl) ?_)
          refine l_of (s_val (v := .int .i64 0) (wt0 rfl) rfl rfl (x_assign rfl rfl) ?_)
          refine g_nil ?_
          refine g_then ?_
          refine g_ret ?_
          refine g_in_ret ?_
          refine g_then_ret ?_
          refine fin_ret [.cell 2 33, .tmp 3, .tmp 4, .tmp 5] [.agg #[.int .i64 1, .int .i64 0, .int .i64 0, .int .i64 0, .int .i64 0, .int .i64 0, .string (⟨#[]⟩), .string (⟨#[]⟩)], .int .i64 4, .int .i64 (-1), .int .i64 0] rfl ⟨⟨_, rfl, run_loadA (H26.ob (k := 0) rfl) Try.underlying33 rfl sz33 rfl rfl⟩, rfl, rfl, rfl, trivial⟩ ?_
          exact ⟨by simp only [decS, tupled, M.cells, if_neg hb4, if_neg hb7, if_neg hb21, if_pos hb24, if_true, Bool.false_eq_true, if_false], H26.mask [false, true]⟩
        · skip
          refine g_cond_f rfl (decide_eq_false hb24) ?_
          refine g_seq ?_
          refine g_region ?_
          refine l_of (s_val (v := .string s) (wt0 rfl) rfl rfl (x_move rfl rfl) ?_)
          refine l_of (s_val (v := .int .i64 ((s.size : Int))) (wt0 rfl) rfl rfl (x_lens rfl rfl Try.underlying9) ?_)
          refine l_of (s_val (v := .bool (decide (((s.size : Int) : Int) < 5))) (wt0 rfl) rfl rfl (x_bin rfl rfl rfl b_lss) ?_)
          refine l_of (s_val (v := .bool (decide (((s.size : Int) : Int) < 5))) (wt0 rfl) rfl rfl (x_assign rfl rfl) ?_)
          refine g_nil ?_
          refine g_then ?_
          by_cases hb27 : ((s.size : Int) : Int) < 5
          · skip
            refine g_cond_t rfl (decide_eq_true hb27) ?_
            refine g_seq ?_
            refine g_region ?_
            refine l_of (s_val (v := .agg #[.int .i64 0, .int .i64 0, .int .i64 0, .int .i64 0, .int .i64 0, .int .i64 0, .string (⟨#[]⟩), .string (⟨#[]⟩)]) (wt0 rfl) rfl rfl (x_loadA H3 0 rfl rfl Try.underlying33 rfl sz33 rfl rfl rfl) ?_)
            refine l_of (s_val (v := .string s) (wt0 rfl) rfl rfl (x_move rfl rfl) ?_)
            refine l_of (s_val (v := .int .i64 ((s.size : Int))) (wt0 rfl) rfl rfl (x_lens rfl rfl Try.underlying9) ?_)
            refine l_of (s_store H3 0 (wt0 rfl) rfl rfl rfl rfl rfl sz33 rfl rfl (cs' := #[.int .i64 0, .int .i64 0, .int .i64 0, .int .i64 0, .int .i64 0, .int .i64 0, .string (⟨#[]⟩), .string (⟨#[]⟩)]) rfl ?_)
            intro w28 (H29 : S w28 [Ob g1 (.cells #[.int .i64 0, .int .i64 0, .int .i64 0, .int .i64 0, .int .i64 0, .int .i64 0, .string (⟨#[]⟩), .string (⟨#[]⟩)] 33 (0, 0)), Old w no])
            refine l_of (s_val (v := .int .i64 0) (wt0 rfl) rfl rfl (x_assign rfl rfl) ?_)
            refine l_of (s_val (v := .int .i64 ((s.size : Int))) (wt0 rfl) rfl rfl (x_assign rfl rfl) ?_)
            refine l_of (s_val (v := .int .i64 8) (wt0 rfl) rfl rfl (x_assign rfl rfl) ?_)
            refine g_nil ?_
            refine g_then ?_
            refine g_weak [(2, .pointer (some ⟨g1, 0, none⟩)), (3, .int .i64 0), (4, .int .i64 ((s.size : Int))), (5, .int .i64 8)] ⟨rfl, rfl, rfl, rfl, trivial⟩ ?_
            refine g_ret ?_
            refine g_in_ret ?_
            refine g_then_ret ?_
            refine fin_ret [.cell 2 33, .tmp 3, .tmp 4, .tmp 5] [.agg #[.int .i64 0, .int .i64 0, .int .i64 0, .int .i64 0, .int .i64 0, .int .i64 0, .string (⟨#[]⟩), .string (⟨#[]⟩)], .int .i64 0, .int .i64 ((s.size : Int)), .int .i64 8] rfl ⟨⟨_, rfl, run_loadA (H29.ob (k := 0) rfl) Try.underlying33 rfl sz33 rfl rfl⟩, rfl, rfl, rfl, trivial⟩ ?_
            exact ⟨by simp only [decS, tupled, M.cells, if_neg hb4, if_neg hb7, if_neg hb21, if_neg hb24, if_pos hb27, if_true, Bool.false_eq_true, if_false], H29.mask [false, true]⟩
          · skip
            refine g_cond_f rfl (decide_eq_false hb27) ?_
            refine g_skip ?_
            refine g_in ?_
            refine g_then ?_
            refine g_seq ?_
            refine g_region ?_
            refine l_of (s_val (v := .string s) (wt0 rfl) rfl rfl (x_move rfl rfl) ?_)
            have hbt30 := bt'_lt s 4
            refine l_of (s_val (v := .int .u8 ((bt' s 4 : Int))) (wt0 rfl) rfl rfl (x_index 4 rfl rfl rfl Try.underlying9 (by omega)) ?_)
            refine l_of (s_val (v := .int .i64 ((bt' s 4 : Int))) (wt0 rfl) rfl rfl (x_conv rfl rfl Try.underlying5 Try.underlying3 (w64 (by omega))) ?_)
            refine l_of (s_call (wt0 rfl) (x_call' rfl rfl cl58) (kindOf_r _ _) ?_)
            rintro _ w31 ⟨rfl, H32⟩
            replace H32 : S w31 [Ob g1 (.cells #[.int .i64 0, .int .i64 0, .int .i64 0, .int .i64 0, .int .i64 0, .int .i64 0, .string (⟨#[]⟩), .string (⟨#[]⟩)] 33 (0, 0)), Old w no] := H3.absorb (new := []) (S.of_below H32)
            refine b_ret rfl rfl ?_
            refine l_of (s_val (v := .int .i64 ((kindP (bt' s 4 : Int) : Int))) (wt0 rfl) rfl rfl (x_assign rfl rfl) ?_)
            refine g_nil ?_
            refine g_then ?_
            refine g_weak [(0, .string s), (2, .pointer (some ⟨g1, 0, none⟩)), (7, .int .i64 ((rd4 s : Int))), (8, .int .i64 ((kindP (bt' s 4 : Int) : Int)))] ⟨rfl, rfl, rfl, rfl, trivial⟩ ?_
            refine g_seq ?_
            refine g_block ?_
            refine g_seq ?_
            refine g_region ?_
            refine l_of (s_val (v := .int .i64 ((kindP (bt' s 4 : Int) : Int))) (wt0 rfl) rfl rfl (x_move rfl rfl) ?_)
            refine l_of (s_val (v := .bool (decide (((kindP (bt' s 4 : Int) : Int) : Int) = 0))) (wt0 rfl) rfl rfl (x_bin rfl rfl rfl b_eql) ?_)
            refine l_of (s_val (v := .bool (decide (((kindP (bt' s 4 : Int) : Int) : Int) = 0))) (wt0 rfl) rfl rfl (x_assign rfl rfl) ?_)
            refine g_nil ?_
            refine g_then ?_
            by_cases hb33 : ((kindP (bt' s 4 : Int) : Int) : Int) = 0
            · skip
              refine g_cond_t rfl (decide_eq_true hb33) ?_
              refine g_seq ?_
              refine g_region ?_
              refine l_of (s_val (v := .agg #[.int .i64 0, .int .i64 0, .int .i64 0, .int .i64 0, .int .i64 0, .int .i64 0, .string (⟨#[]⟩), .string (⟨#[]⟩)]) (wt0 rfl) rfl rfl (x_loadA H32 0 rfl rfl Try.underlying33 rfl sz33 rfl rfl rfl) ?_)
              refine l_of (s_store H32 0 (wt0 rfl) rfl rfl rfl rfl rfl sz33 rfl rfl (cs' := #[.int .i64 0, .int .i64 0, .int .i64 0, .int .i64 0, .int .i64 0, .int .i64 0, .string (⟨#[]⟩), .string (⟨#[]⟩)]) rfl ?_)
              intro w34 (H35 : S w34 [Ob g1 (.cells #[.int .i64 0, .int .i64 0, .int .i64 0, .int .i64 0, .int .i64 0, .int .i64 0, .string (⟨#[]⟩), .string (⟨#[]⟩)] 33 (0, 0)), Old w no])
              refine l_of (s_val (v := .int .i64 0) (wt0 rfl) rfl rfl (x_assign rfl rfl) ?_)
              refine l_of (s_val (v := .int .i64 4) (wt0 rfl) rfl rfl (x_assign rfl rfl) ?_)
              refine l_of (s_val (v := .int .i64 12) (wt0 rfl) rfl rfl (x_assign rfl rfl) ?_)
              refine g_nil ?_
              refine g_then ?_
              refine g_ret ?_
              refine g_in_ret ?_
              refine g_then_ret ?_
              refine fin_ret [.cell 2 33, .tmp 3, .tmp 4, .tmp 5] [.agg #[.int .i64 0, .int .i64 0, .int .i64 0, .int .i64 0, .int .i64 0, .int .i64 0, .string (⟨#[]⟩), .string (⟨#[]⟩)], .int .i64 0, .int .i64 4, .int .i64 12] rfl ⟨⟨_, rfl, run_loadA (H35.ob (k := 0) rfl) Try.underlying33 rfl sz33 rfl rfl⟩, rfl, rfl, rfl, trivial⟩ ?_
              exact ⟨by simp only [decS, tupled, M.cells, if_neg hb4, if_neg hb7, if_neg hb21, if_neg hb24, if_neg hb27, if_pos hb33, if_true, Bool.false_eq_true, if_false], H35.mask [false, true]⟩
            · skip
              have hk := kindP_rng _ hb33
              refine g_cond_f rfl (decide_eq_false hb33) ?_
              refine g_seq ?_
              refine g_region ?_
              refine l_of (s_val (v := .int .i64 ((kindP (bt' s 4 : Int) : Int))) (wt0 rfl) rfl rfl (x_move rfl rfl) ?_)
              refine l_of (s_val (v := .int .i64 ((rd4 s : Int))) (wt0 rfl) rfl rfl (x_move rfl rfl) ?_)
              refine l_of (s_val (v := .int .i64 ((rd4 s : Int) - 1)) (wt0 rfl) rfl rfl (x_bin rfl rfl rfl (b_sub (w64 (by omega)))) ?_)
              refine l_of (s_call (wt0 rfl) (x_call' rfl rfl cl59) (fits_r (kindP (bt' s 4 : Int)) hk.1 hk.2 _ (by omega) (by omega) _) ?_)
              rintro _ _ ⟨rfl, rfl⟩
              refine b_ret rfl rfl ?_
              refine l_of (s_val (v := .bool (!(mayP (fields (kindP (bt' s 4 : Int))) ((rd4 s : Int) - 1)))) (wt0 rfl) rfl rfl (x_not rfl rfl) ?_)
              refine l_of (s_val (v := .bool (!(mayP (fields (kindP (bt' s 4 : Int))) ((rd4 s : Int) - 1)))) (wt0 rfl) rfl rfl (x_assign rfl rfl) ?_)
              refine g_nil ?_
              refine g_then ?_
              rcases Bool.eq_false_or_eq_true (mayP (fields (kindP (bt' s 4 : Int))) ((rd4 s : Int) - 1)) with hb38 | hb38
              · skip
                have hms := may_sizes _ hk.1 hk.2 _ hb38 (rd4 s - 1) (by omega)
                refine g_cond_f rfl (neg_of hb38) ?_
                refine g_skip ?_
                refine g_in ?_
                refine g_then ?_
                refine g_seq ?_
                refine g_seq ?_
                refine g_region ?_
                refine l_of (s_val (v := .int .i64 ((kindP (bt' s 4 : Int) : Int))) (wt0 rfl) rfl rfl (x_move rfl rfl) ?_)
                refine l_of (s_val (v := .string s) (wt0 rfl) rfl rfl (x_move rfl rfl) ?_)
                refine l_of (s_val (v := .string s) (wt0 rfl) rfl rfl (x_move rfl rfl) ?_)
                refine l_of (s_val (v := .int .i64 ((s.size : Int))) (wt0 rfl) rfl rfl (x_lens rfl rfl Try.underlying9) ?_)
                refine l_of (s_val (v := .int .i64 ((rd4 s : Int))) (wt0 rfl) rfl rfl (x_move rfl rfl) ?_)
                refine l_of (s_val (v := .int .i64 (4 + (rd4 s : Int))) (wt0 rfl) rfl rfl (x_bin rfl rfl rfl (b_add (w64 (by omega)))) ?_)
                refine l_of (s_val (v := .int .i64 (min (s.size : Int) (4 + (rd4 s : Int)))) (wt0 rfl) rfl rfl (x_min rfl rfl rfl) ?_)
                have hsz39 : (s.extract 0 ((min (s.size : Int) (4 + (rd4 s : Int))).toNat)).size = (min (s.size : Int) (4 + (rd4 s : Int))).toNat - 0 := by rw [ByteArray.size_extract]; omega
                refine l_of (s_val (v := .string (s.extract 0 ((min (s.size : Int) (4 + (rd4 s : Int))).toNat))) (wt0 rfl) rfl rfl (x_slices 0 ((min (s.size : Int) (4 + (rd4 s : Int))).toNat) rfl rfl Try.underlying9 (.inl ⟨rfl, rfl⟩) (.inr ⟨_, _, _, rfl, rfl, by omega⟩) (by omega)) ?_)
                refine l_of (s_call (wt0 rfl) (x_call' rfl rfl cl60) (ranged_r _ _ (by omega) _) ?_)
                rintro _ w40 ⟨rfl, H41⟩
                replace H41 : S w40 [Ob g1 (.cells #[.int .i64 0, .int .i64 0, .int .i64 0, .int .i64 0, .int .i64 0, .int .i64 0, .string (⟨#[]⟩), .string (⟨#[]⟩)] 33 (0, 0)), Old w no] := H32.absorb (new := []) H41
                refine b_ret rfl rfl ?_
                refine l_of (s_val (v := .int .i64 (rangedP (kindP (bt' s 4 : Int) : Int) (s.extract 0 ((min (s.size : Int) (4 + (rd4 s : Int))).toNat)))) (wt0 rfl) rfl rfl (x_assign rfl rfl) ?_)
                refine g_nil ?_
                refine g_then ?_
                refine g_weak [(0, .string s), (2, .pointer (some ⟨g1, 0, none⟩)), (7, .int .i64 ((rd4 s : Int))), (8, .int .i64 ((kindP (bt' s 4 : Int) : Int))), (9, .int .i64 (rangedP (kindP (bt' s 4 : Int) : Int) (s.extract 0 ((min (s.size : Int) (4 + (rd4 s : Int))).toNat))))] ⟨rfl, rfl, rfl, rfl, rfl, trivial⟩ ?_
                refine g_seq ?_
                refine g_region ?_
                refine l_of (s_val (v := .int .i64 (rangedP (kindP (bt' s 4 : Int) : Int) (s.extract 0 ((min (s.size : Int) (4 + (rd4 s : Int))).toNat)))) (wt0 rfl) rfl rfl (x_move rfl rfl) ?_)
                refine l_of (s_val (v := .bool (decide ((0 : Int) ≤ rangedP (kindP (bt' s 4 : Int) : Int) (s.extract 0 ((min (s.size : Int) (4 + (rd4 s : Int))).toNat))))) (wt0 rfl) rfl rfl (x_bin rfl rfl rfl b_geq) ?_)
                refine g_nil ?_
                refine g_then ?_
                by_cases hb42 : (0 : Int) ≤ rangedP (kindP (bt' s 4 : Int) : Int) (s.extract 0 ((min (s.size : Int) (4 + (rd4 s : Int))).toNat))
                · skip
                  refine g_cond_t rfl (decide_eq_true hb42) ?_
                  refine g_seq ?_
                  refine g_region ?_
                  refine l_of (s_val (v := .agg #[.int .i64 0, .int .i64 0, .int .i64 0, .int .i64 0, .int .i64 0, .int .i64 0, .string (⟨#[]⟩), .string (⟨#[]⟩)]) (wt0 rfl) rfl rfl (x_loadA H41 0 rfl rfl Try.underlying33 rfl sz33 rfl rfl rfl) ?_)
                  refine l_of (s_val (v := .int .i64 (rangedP (kindP (bt' s 4 : Int) : Int) (s.extract 0 ((min (s.size : Int) (4 + (rd4 s : Int))).toNat)))) (wt0 rfl) rfl rfl (x_move rfl rfl) ?_)
                  refine l_of (s_store H41 0 (wt0 rfl) rfl rfl rfl rfl rfl sz33 rfl rfl (cs' := #[.int .i64 0, .int .i64 0, .int .i64 0, .int .i64 0, .int .i64 0, .int .i64 0, .string (⟨#[]⟩), .string (⟨#[]⟩)]) rfl ?_)
                  intro w43 (H44 : S w43 [Ob g1 (.cells #[.int .i64 0, .int .i64 0, .int .i64 0, .int .i64 0, .int .i64 0, .int .i64 0, .string (⟨#[]⟩), .string (⟨#[]⟩)] 33 (0, 0)), Old w no])
                  refine l_of (s_val (v := .int .i64 0) (wt0 rfl) rfl rfl (x_assign rfl rfl) ?_)
                  refine l_of (s_val (v := .int .i64 (rangedP (kindP (bt' s 4 : Int) : Int) (s.extract 0 ((min (s.size : Int) (4 + (rd4 s : Int))).toNat)))) (wt0 rfl) rfl rfl (x_assign rfl rfl) ?_)
                  refine l_of (s_val (v := .int .i64 12) (wt0 rfl) rfl rfl (x_assign rfl rfl) ?_)
                  refine g_nil ?_
                  refine g_then ?_
                  refine g_ret ?_
                  refine g_then_ret ?_
                  refine fin_ret [.cell 2 33, .tmp 3, .tmp 4, .tmp 5] [.agg #[.int .i64 0, .int .i64 0, .int .i64 0, .int .i64 0, .int .i64 0, .int .i64 0, .string (⟨#[]⟩), .string (⟨#[]⟩)], .int .i64 0, .int .i64 (rangedP (kindP (bt' s 4 : Int) : Int) (s.extract 0 ((min (s.size : Int) (4 + (rd4 s : Int))).toNat))), .int .i64 12] rfl ⟨⟨_, rfl, run_loadA (H44.ob (k := 0) rfl) Try.underlying33 rfl sz33 rfl rfl⟩, rfl, rfl, rfl, trivial⟩ ?_
                  exact ⟨by simp only [decS, tupled, M.cells, if_neg hb4, if_neg hb7, if_neg hb21, if_neg hb24, if_neg hb27, if_neg hb33, hb38, if_pos hb42, if_true, Bool.false_eq_true, if_false], H44.mask [false, true]⟩
                · skip
                  refine g_cond_f rfl (decide_eq_false hb42) ?_
                  refine g_skip ?_
                  refine g_then ?_
                  refine g_seq ?_
                  refine g_seq ?_
                  refine g_region ?_
                  refine l_of (s_val (v := .string s) (wt0 rfl) rfl rfl (x_move rfl rfl) ?_)
                  refine l_of (s_val (v := .int .i64 ((s.size : Int))) (wt0 rfl) rfl rfl (x_lens rfl rfl Try.underlying9) ?_)
                  refine l_of (s_val (v := .int .i64 ((rd4 s : Int))) (wt0 rfl) rfl rfl (x_move rfl rfl) ?_)
                  refine l_of (s_val (v := .int .i64 (4 + (rd4 s : Int))) (wt0 rfl) rfl rfl (x_bin rfl rfl rfl (b_add (w64 (by omega)))) ?_)
                  refine l_of (s_val (v := .bool (decide (((s.size : Int) : Int) < 4 + (rd4 s : Int)))) (wt0 rfl) rfl rfl (x_bin rfl rfl rfl b_lss) ?_)
                  refine g_nil ?_
                  refine g_then ?_
                  by_cases hb45 : ((s.size : Int) : Int) < 4 + (rd4 s : Int)
                  · skip
                    refine g_cond_t rfl (decide_eq_true hb45) ?_
                    refine g_seq ?_
                    refine g_region ?_
                    refine l_of (s_val (v := .agg #[.int .i64 0, .int .i64 0, .int .i64 0, .int .i64 0, .int .i64 0, .int .i64 0, .string (⟨#[]⟩), .string (⟨#[]⟩)]) (wt0 rfl) rfl rfl (x_loadA H41 0 rfl rfl Try.underlying33 rfl sz33 rfl rfl rfl) ?_)
                    refine l_of (s_val (v := .string s) (wt0 rfl) rfl rfl (x_move rfl rfl) ?_)
                    refine l_of (s_val (v := .int .i64 ((s.size : Int))) (wt0 rfl) rfl rfl (x_lens rfl rfl Try.underlying9) ?_)
                    refine l_of (s_store H41 0 (wt0 rfl) rfl rfl rfl rfl rfl sz33 rfl rfl (cs' := #[.int .i64 0, .int .i64 0, .int .i64 0, .int .i64 0, .int .i64 0, .int .i64 0, .string (⟨#[]⟩), .string (⟨#[]⟩)]) rfl ?_)
                    intro w46 (H47 : S w46 [Ob g1 (.cells #[.int .i64 0, .int .i64 0, .int .i64 0, .int .i64 0, .int .i64 0, .int .i64 0, .string (⟨#[]⟩), .string (⟨#[]⟩)] 33 (0, 0)), Old w no])
                    refine l_of (s_val (v := .int .i64 0) (wt0 rfl) rfl rfl (x_assign rfl rfl) ?_)
                    refine l_of (s_val (v := .int .i64 ((s.size : Int))) (wt0 rfl) rfl rfl (x_assign rfl rfl) ?_)
                    refine l_of (s_val (v := .int .i64 8) (wt0 rfl) rfl rfl (x_assign rfl rfl) ?_)
                    refine g_nil ?_
                    refine g_then ?_
                    refine g_weak [(2, .pointer (some ⟨g1, 0, none⟩)), (3, .int .i64 0), (4, .int .i64 ((s.size : Int))), (5, .int .i64 8)] ⟨rfl, rfl, rfl, rfl, trivial⟩ ?_
                    refine g_ret ?_
                    refine g_then_ret ?_
                    refine fin_ret [.cell 2 33, .tmp 3, .tmp 4, .tmp 5] [.agg #[.int .i64 0, .int .i64 0, .int .i64 0, .int .i64 0, .int .i64 0, .int .i64 0, .string (⟨#[]⟩), .string (⟨#[]⟩)], .int .i64 0, .int .i64 ((s.size : Int)), .int .i64 8] rfl ⟨⟨_, rfl, run_loadA (H47.ob (k := 0) rfl) Try.underlying33 rfl sz33 rfl rfl⟩, rfl, rfl, rfl, trivial⟩ ?_
                    exact ⟨by simp only [decS, tupled, M.cells, if_neg hb4, if_neg hb7, if_neg hb21, if_neg hb24, if_neg hb27, if_neg hb33, hb38, if_neg hb42, if_pos hb45, if_true, Bool.false_eq_true, if_false], H47.mask [false, true]⟩
                  · skip
                    refine g_cond_f rfl (decide_eq_false hb45) ?_
                    refine g_skip ?_
                    refine g_then ?_
                    refine g_seq ?_
                    refine g_region ?_
                    refine l_of (s_val (v := .int .i64 ((kindP (bt' s 4 : Int) : Int))) (wt0 rfl) rfl rfl (x_move rfl rfl) ?_)
                    refine l_of (s_val (v := .string s) (wt0 rfl) rfl rfl (x_move rfl rfl) ?_)
                    refine l_of (s_val (v := .int .i64 ((rd4 s : Int))) (wt0 rfl) rfl rfl (x_move rfl rfl) ?_)
                    refine l_of (s_val (v := .int .i64 (4 + (rd4 s : Int))) (wt0 rfl) rfl rfl (x_bin rfl rfl rfl (b_add (w64 (by omega)))) ?_)
                    have hsz48 : (s.extract 5 ((4 + (rd4 s : Int)).toNat)).size = (4 + (rd4 s : Int)).toNat - 5 := by rw [ByteArray.size_extract]; omega
                    refine l_of (s_val (v := .string (s.extract 5 ((4 + (rd4 s : Int)).toNat))) (wt0 rfl) rfl rfl (x_slices 5 ((4 + (rd4 s : Int)).toNat) rfl rfl Try.underlying9 (.inr ⟨_, _, _, rfl, rfl, by omega⟩) (.inr ⟨_, _, _, rfl, rfl, by omega⟩) (by omega)) ?_)
                    refine l_of (s_call (wt0 rfl) (x_call' rfl rfl cl61) (taken_r _ _ (by omega) (fun h => by have := hms.1 h; omega) (fun h => by have := hms.2.1 h; omega) (fun h => by have := hms.2.2.1 h; omega) (fun h => by have := hms.2.2.2.1 h; omega) (fun h => by have := hms.2.2.2.2.1 h; omega) (fun h => by have := hms.2.2.2.2.2 h; omega) _) ?_)
                    rintro _ w49 ⟨rfl, H50⟩
                    replace H50 : S w49 [Ob g1 (.cells #[.int .i64 0, .int .i64 0, .int .i64 0, .int .i64 0, .int .i64 0, .int .i64 0, .string (⟨#[]⟩), .string (⟨#[]⟩)] 33 (0, 0)), Old w no] := H41.absorb (new := []) H50
                    refine b_ret rfl rfl ?_
                    refine l_of (s_val (v := .int .i64 ((rd4 s : Int))) (wt0 rfl) rfl rfl (x_move rfl rfl) ?_)
                    refine l_of (s_val (v := .int .i64 (4 + (rd4 s : Int))) (wt0 rfl) rfl rfl (x_bin rfl rfl rfl (b_add (w64 (by omega)))) ?_)
                    refine l_of (s_store H50 0 (wt0 rfl) rfl rfl rfl rfl rfl sz33 rfl rfl (cs' := #[.int .i64 ((takenP (kindP (bt' s 4 : Int) : Int) (s.extract 5 ((4 + (rd4 s : Int)).toNat))).kind), .int .i64 ((takenP (kindP (bt' s 4 : Int) : Int) (s.extract 5 ((4 + (rd4 s : Int)).toNat))).i1), .int .i64 ((takenP (kindP (bt' s 4 : Int) : Int) (s.extract 5 ((4 + (rd4 s : Int)).toNat))).i2), .int .i64 ((takenP (kindP (bt' s 4 : Int) : Int) (s.extract 5 ((4 + (rd4 s : Int)).toNat))).i3), .int .i64 ((takenP (kindP (bt' s 4 : Int) : Int) (s.extract 5 ((4 + (rd4 s : Int)).toNat))).i4), .int .i64 ((takenP (kindP (bt' s 4 : Int) : Int) (s.extract 5 ((4 + (rd4 s : Int)).toNat))).i5), .string ((takenP (kindP (bt' s 4 : Int) : Int) (s.extract 5 ((4 + (rd4 s : Int)).toNat))).root), .string ((takenP (kindP (bt' s 4 : Int) : Int) (s.extract 5 ((4 + (rd4 s : Int)).toNat))).data)]) rfl ?_)
                    intro w51 (H52 : S w51 [Ob g1 (.cells #[.int .i64 ((takenP (kindP (bt' s 4 : Int) : Int) (s.extract 5 ((4 + (rd4 s : Int)).toNat))).kind), .int .i64 ((takenP (kindP (bt' s 4 : Int) : Int) (s.extract 5 ((4 + (rd4 s : Int)).toNat))).i1), .int .i64 ((takenP (kindP (bt' s 4 : Int) : Int) (s.extract 5 ((4 + (rd4 s : Int)).toNat))).i2), .int .i64 ((takenP (kindP (bt' s 4 : Int) : Int) (s.extract 5 ((4 + (rd4 s : Int)).toNat))).i3), .int .i64 ((takenP (kindP (bt' s 4 : Int) : Int) (s.extract 5 ((4 + (rd4 s : Int)).toNat))).i4), .int .i64 ((takenP (kindP (bt' s 4 : Int) : Int) (s.extract 5 ((4 + (rd4 s : Int)).toNat))).i5), .string ((takenP (kindP (bt' s 4 : Int) : Int) (s.extract 5 ((4 + (rd4 s : Int)).toNat))).root), .string ((takenP (kindP (bt' s 4 : Int) : Int) (s.extract 5 ((4 + (rd4 s : Int)).toNat))).data)] 33 (0, 0)), Old w no])
                    refine l_of (s_val (v := .int .i64 (4 + (rd4 s : Int))) (wt0 rfl) rfl rfl (x_assign rfl rfl) ?_)
                    refine l_of (s_val (v := .int .i64 (-1)) (wt0 rfl) rfl rfl (x_assign rfl rfl) ?_)
                    refine l_of (s_val (v := .int .i64 0) (wt0 rfl) rfl rfl (x_assign rfl rfl) ?_)
                    refine g_nil ?_
                    refine g_then ?_
                    refine g_weak [(2, .pointer (some ⟨g1, 0, none⟩)), (3, .int .i64 (4 + (rd4 s : Int))), (4, .int .i64 (-1)), (5, .int .i64 0)] ⟨rfl, rfl, rfl, rfl, trivial⟩ ?_
                    refine g_ret ?_
                    refine fin_ret [.cell 2 33, .tmp 3, .tmp 4, .tmp 5] [.agg #[.int .i64 ((takenP (kindP (bt' s 4 : Int) : Int) (s.extract 5 ((4 + (rd4 s : Int)).toNat))).kind), .int .i64 ((takenP (kindP (bt' s 4 : Int) : Int) (s.extract 5 ((4 + (rd4 s : Int)).toNat))).i1), .int .i64 ((takenP (kindP (bt' s 4 : Int) : Int) (s.extract 5 ((4 + (rd4 s : Int)).toNat))).i2), .int .i64 ((takenP (kindP (bt' s 4 : Int) : Int) (s.extract 5 ((4 + (rd4 s : Int)).toNat))).i3), .int .i64 ((takenP (kindP (bt' s 4 : Int) : Int) (s.extract 5 ((4 + (rd4 s : Int)).toNat))).i4), .int .i64 ((takenP (kindP (bt' s 4 : Int) : Int) (s.extract 5 ((4 + (rd4 s : Int)).toNat))).i5), .string ((takenP (kindP (bt' s 4 : Int) : Int) (s.extract 5 ((4 + (rd4 s : Int)).toNat))).root), .string ((takenP (kindP (bt' s 4 : Int) : Int) (s.extract 5 ((4 + (rd4 s : Int)).toNat))).data)], .int .i64 (4 + (rd4 s : Int)), .int .i64 (-1), .int .i64 0] rfl ⟨⟨_, rfl, run_loadA (H52.ob (k := 0) rfl) Try.underlying33 rfl sz33 rfl rfl⟩, rfl, rfl, rfl, trivial⟩ ?_
                    exact ⟨by simp only [decS, tupled, M.cells, if_neg hb4, if_neg hb7, if_neg hb21, if_neg hb24, if_neg hb27, if_neg hb33, hb38, if_neg hb42, if_neg hb45, if_true, Bool.false_eq_true, if_false], H52.mask [false, true]⟩
              · skip
                refine g_cond_t rfl (neg_of hb38) ?_
                refine g_seq ?_
                refine g_region ?_
                refine l_of (s_val (v := .agg #[.int .i64 0, .int .i64 0, .int .i64 0, .int .i64 0, .int .i64 0, .int .i64 0, .string (⟨#[]⟩), .string (⟨#[]⟩)]) (wt0 rfl) rfl rfl (x_loadA H32 0 rfl rfl Try.underlying33 rfl sz33 rfl rfl rfl) ?_)
                refine l_of (s_store H32 0 (wt0 rfl) rfl rfl rfl rfl rfl sz33 rfl rfl (cs' := #[.int .i64 0, .int .i64 0, .int .i64 0, .int .i64 0, .int .i64 0, .int .i64 0, .string (⟨#[]⟩), .string (⟨#[]⟩)]) rfl ?_)
                intro w53 (H54 : S w53 [Ob g1 (.cells #[.int .i64 0, .int .i64 0, .int .i64 0, .int .i64 0, .int .i64 0, .int .i64 0, .string (⟨#[]⟩), .string (⟨#[]⟩)] 33 (0, 0)), Old w no])
                refine l_of (s_val (v := .int .i64 0) (wt0 rfl) rfl rfl (x_assign rfl rfl) ?_)
                refine l_of (s_val (v := .int .i64 0) (wt0 rfl) rfl rfl (x_assign rfl rfl) ?_)
                refine l_of (s_val (v := .int .i64 12) (wt0 rfl) rfl rfl (x_assign rfl rfl) ?_)
                refine g_nil ?_
                refine g_then ?_
                refine g_weak [(2, .pointer (some ⟨g1, 0, none⟩)), (3, .int .i64 0), (4, .int .i64 0), (5, .int .i64 12)] ⟨rfl, rfl, rfl, rfl, trivial⟩ ?_
                refine g_ret ?_
                refine g_in_ret ?_
                refine g_then_ret ?_
                refine fin_ret [.cell 2 33, .tmp 3, .tmp 4, .tmp 5] [.agg #[.int .i64 0, .int .i64 0, .int .i64 0, .int .i64 0, .int .i64 0, .int .i64 0, .string (⟨#[]⟩), .string (⟨#[]⟩)], .int .i64 0, .int .i64 0, .int .i64 12] rfl ⟨⟨_, rfl, run_loadA (H54.ob (k := 0) rfl) Try.underlying33 rfl sz33 rfl rfl⟩, rfl, rfl, rfl, trivial⟩ ?_
                exact ⟨by simp only [decS, tupled, M.cells, if_neg hb4, if_neg hb7, if_neg hb21, if_neg hb24, if_neg hb27, if_neg hb33, hb38, if_true, Bool.false_eq_true, if_false], H54.mask [false, true]⟩
end Go.Proofs.Ytcjmdkklbbollaa
