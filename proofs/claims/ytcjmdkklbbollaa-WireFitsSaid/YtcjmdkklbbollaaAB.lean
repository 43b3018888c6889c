import Derived.Test.YtcjmdkklbbollaaAA
set_option linter.unusedSimpArgs false
set_option linter.unusedVariables false
namespace Go.Proofs.Ytcjmdkklbbollaa
open Go.RowKit

theorem cl63 : callable Try.prog 63 = true := by kernel_rfl
theorem cl65 : callable Try.prog 65 = true := by kernel_rfl
theorem fo33_1 : foO Try.prog 33 1 = some 1 := by kernel_rfl
theorem fo33_2 : foO Try.prog 33 2 = some 2 := by kernel_rfl
theorem fo33_3 : foO Try.prog 33 3 = some 3 := by kernel_rfl
theorem fo33_4 : foO Try.prog 33 4 = some 4 := by kernel_rfl
theorem fo33_5 : foO Try.prog 33 5 = some 5 := by kernel_rfl
theorem fo33_6 : foO Try.prog 33 6 = some 6 := by kernel_rfl
theorem fo33_7 : foO Try.prog 33 7 = some 7 := by kernel_rfl
theorem sz3 : szO Try.prog 3 = some 1 := by kernel_rfl
theorem sz33 : szO Try.prog 33 = some 8 := by kernel_rfl
theorem sz9 : szO Try.prog 9 = some 1 := by kernel_rfl
theorem ze33 : zeO Try.prog 33 = some (.agg #[.int .i64 0, .int .i64 0, .int .i64 0, .int .i64 0, .int .i64 0, .int .i64 0, .string (⟨#[]⟩), .string (⟨#[]⟩)]) := by kernel_rfl
/-- A message out of what stands behind its number. -/
def takenP (k : Int) (s : ByteArray) : M :=
  if isIdx k = true then ⟨k, rd4 s, 0, 0, 0, 0, ⟨#[]⟩, ⟨#[]⟩⟩
  else if k = 7 then ⟨k, 0, 0, 0, 0, 0, ⟨#[]⟩, s⟩
  else if isBlock k = true then ⟨k, rd4 s, rd4 (s.extract 4 s.size), rd4 (s.extract 8 s.size), 0, 0, ⟨#[]⟩, ⟨#[]⟩⟩
  else if k = 9 then ⟨k, rd4 s, rd4 (s.extract 4 s.size), 0, 0, 0, ⟨#[]⟩, s.extract 8 s.size⟩
  else if k = 11 then ⟨k, bt' s 0 * 256 + bt' s 1, 0, 0, 0, 0, ⟨#[]⟩, ⟨#[]⟩⟩
  else if k = 17 then ⟨k, bt' s 0, 0, 0, 0, 0, ⟨#[]⟩, s.extract 1 s.size⟩
  else if isHash k = true then ⟨k, rd4 (s.extract 36 s.size), 0, rd4 (s.extract 40 s.size), rd4 (s.extract 32 s.size), rd4 (s.extract 44 s.size), s.extract 0 32, s.extract 48 s.size⟩
  else ⟨k, 0, 0, 0, 0, 0, ⟨#[]⟩, ⟨#[]⟩⟩
set_option maxRecDepth 20000 in
set_option maxHeartbeats 4000000 in
theorem taken_r (k : Int) (s : ByteArray) (hs : s.size ≤ 100000) (h1 : isIdx k = true → 4 ≤ s.size) (h2 : isBlock k = true → 12 ≤ s.size) (h3 : k = 9 → 8 ≤ s.size) (h4 : k = 11 → 2 ≤ s.size) (h5 : k = 17 → 1 ≤ s.size) (h6 : isHash k = true → 48 ≤ s.size) (w : World) : Calls Try.prog 61 #[.int .i64 k, .string s] w fun e w' => e = .returned (.agg (takenP k s).cells) ∧ S w' [Old w no] := by
  have H0 := S.old w
  refine enter 94 Try.func61 rfl rfl rfl ?_
  refine g_weak [(0, .int .i64 k), (1, .string s)] ⟨rfl, rfl, trivial⟩ ?_
  refine g_seq ?_
  refine g_region ?_
  refine l_of (s_alloc H0 (wt0 rfl) rfl rfl rfl ze33 ?_)
  intro g1 wq2 (H3 : S wq2 [Ob g1 (.cells #[.int .i64 0, .int .i64 0, .int .i64 0, .int .i64 0, .int .i64 0, .int .i64 0, .string (⟨#[]⟩), .string (⟨#[]⟩)] 33 (0, 0)), Old w no])
  refine g_nil ?_
  refine g_then ?_
  refine g_seq ?_
  refine g_region ?_
  refine l_of (s_val (v := .int .i64 k) (wt0 rfl) rfl rfl (x_move rfl rfl) ?_)
  refine l_of (s_val (v := .agg #[.int .i64 k, .int .i64 0, .int .i64 0, .int .i64 0, .int .i64 0, .int .i64 0, .string (⟨#[]⟩), .string (⟨#[]⟩)]) (wt0 rfl) rfl rfl (x_build (vs := [.int .i64 k]) rfl rfl (cells := #[.int .i64 k, .int .i64 0, .int .i64 0, .int .i64 0, .int .i64 0, .int .i64 0, .string (⟨#[]⟩), .string (⟨#[]⟩)]) (by kernel_rfl)) ?_)
  refine l_of (s_alloc H3 (wt0 rfl) rfl rfl rfl ze33 ?_)
  intro g4 wq5 (H6 : S wq5 [Ob g4 (.cells #[.int .i64 0, .int .i64 0, .int .i64 0, .int .i64 0, .int .i64 0, .int .i64 0, .string (⟨#[]⟩), .string (⟨#[]⟩)] 33 (0, 0)), Ob g1 (.cells #[.int .i64 0, .int .i64 0, .int .i64 0, .int .i64 0, .int .i64 0, .int .i64 0, .string (⟨#[]⟩), .string (⟨#[]⟩)] 33 (0, 0)), Old w no])
  refine l_of (s_store H6 0 (wt0 rfl) rfl rfl rfl rfl rfl sz33 rfl rfl (cs' := #[.int .i64 k, .int .i64 0, .int .i64 0, .int .i64 0, .int .i64 0, .int .i64 0, .string (⟨#[]⟩), .string (⟨#[]⟩)]) rfl ?_)
  intro wq7 (H8 : S wq7 [Ob g4 (.cells #[.int .i64 k, .int .i64 0, .int .i64 0, .int .i64 0, .int .i64 0, .int .i64 0, .string (⟨#[]⟩), .string (⟨#[]⟩)] 33 (0, 0)), Ob g1 (.cells #[.int .i64 0, .int .i64 0, .int .i64 0, .int .i64 0, .int .i64 0, .int .i64 0, .string (⟨#[]⟩), .string (⟨#[]⟩)] 33 (0, 0)), Old w no])
  refine g_nil ?_
  refine g_then ?_
  refine g_seq ?_
  refine g_block ?_
  refine g_seq ?_
  refine g_region ?_
  refine l_of (s_val (v := .int .i64 k) (wt0 rfl) rfl rfl (x_move rfl rfl) ?_)
  refine l_of (s_call (wt0 rfl) (x_call' rfl rfl cl63) (indexed_r _ _) ?_)
  rintro _ _ ⟨rfl, rfl⟩
  refine b_ret rfl rfl ?_
  refine l_of (s_val (v := .bool (isIdx k)) (wt0 rfl) rfl rfl (x_assign rfl rfl) ?_)
  refine g_nil ?_
  refine g_then ?_
  rcases Bool.eq_false_or_eq_true (isIdx k) with hb11 | hb11
  · skip
    have := h1 hb11
    refine g_cond_t rfl hb11 ?_
    refine g_region ?_
    refine l_of (s_val (v := .string s) (wt0 rfl) rfl rfl (x_move rfl rfl) ?_)
    have := rd4_lt s
    refine l_of (s_call (wt0 rfl) (x_call' rfl rfl cl57) (read4_r _ (by omega) _) ?_)
    rintro _ _ ⟨rfl, rfl⟩
    refine b_ret rfl rfl ?_
    refine l_of (s_val (v := .pointer (some ⟨g4, 1, none⟩)) (wt0 rfl) rfl rfl (x_fieldAddr rfl rfl fo33_1 rfl) ?_)
    refine l_of (s_store H8 0 (wt0 rfl) rfl rfl rfl rfl rfl sz3 rfl rfl (cs' := #[.int .i64 k, .int .i64 ((rd4 s : Int)), .int .i64 0, .int .i64 0, .int .i64 0, .int .i64 0, .string (⟨#[]⟩), .string (⟨#[]⟩)]) rfl ?_)
    intro wq14 (H15 : S wq14 [Ob g4 (.cells #[.int .i64 k, .int .i64 ((rd4 s : Int)), .int .i64 0, .int .i64 0, .int .i64 0, .int .i64 0, .string (⟨#[]⟩), .string (⟨#[]⟩)] 33 (0, 0)), Ob g1 (.cells #[.int .i64 0, .int .i64 0, .int .i64 0, .int .i64 0, .int .i64 0, .int .i64 0, .string (⟨#[]⟩), .string (⟨#[]⟩)] 33 (0, 0)), Old w no])
    refine g_nil ?_
    refine g_in ?_
    refine g_then ?_
    refine g_seq ?_
    refine g_region ?_
    refine l_of (s_val (v := .agg #[.int .i64 k, .int .i64 ((rd4 s : Int)), .int .i64 0, .int .i64 0, .int .i64 0, .int .i64 0, .string (⟨#[]⟩), .string (⟨#[]⟩)]) (wt0 rfl) rfl rfl (x_loadA H15 0 rfl rfl Try.underlying33 rfl sz33 rfl rfl rfl) ?_)
    refine l_of (s_store H15 1 (wt0 rfl) rfl rfl rfl rfl rfl sz33 rfl rfl (cs' := #[.int .i64 k, .int .i64 ((rd4 s : Int)), .int .i64 0, .int .i64 0, .int .i64 0, .int .i64 0, .string (⟨#[]⟩), .string (⟨#[]⟩)]) rfl ?_)
    intro wq16 (H17 : S wq16 [Ob g4 (.cells #[.int .i64 k, .int .i64 ((rd4 s : Int)), .int .i64 0, .int .i64 0, .int .i64 0, .int .i64 0, .string (⟨#[]⟩), .string (⟨#[]⟩)] 33 (0, 0)), Ob g1 (.cells #[.int .i64 k, .int .i64 ((rd4 s : Int)), .int .i64 0, .int .i64 0, .int .i64 0, .int .i64 0, .string (⟨#[]⟩), .string (⟨#[]⟩)] 33 (0, 0)), Old w no])
    refine g_nil ?_
    refine g_then ?_
    refine g_weak [(4, .pointer (some ⟨g1, 0, none⟩))] ⟨rfl, trivial⟩ ?_
    refine g_ret ?_
    refine fin_ret [.cell 4 33] [.agg #[.int .i64 k, .int .i64 ((rd4 s : Int)), .int .i64 0, .int .i64 0, .int .i64 0, .int .i64 0, .string (⟨#[]⟩), .string (⟨#[]⟩)]] rfl ⟨⟨_, rfl, run_loadA (H17.ob (k := 1) rfl) Try.underlying33 rfl sz33 rfl rfl⟩, trivial⟩ ?_
    exact ⟨by simp only [takenP, tupled, hb11, if_true, Bool.false_eq_true, if_false, M.cells], H17.mask [false, false, true]⟩
  · skip
    refine g_cond_f rfl hb11 ?_
    refine g_seq ?_
    refine g_region ?_
    refine l_of (s_val (v := .int .i64 k) (wt0 rfl) rfl rfl (x_move rfl rfl) ?_)
    refine l_of (s_val (v := .bool (decide ((k : Int) = 7))) (wt0 rfl) rfl rfl (x_bin rfl rfl rfl b_eql) ?_)
    refine l_of (s_val (v := .bool (decide ((k : Int) = 7))) (wt0 rfl) rfl rfl (x_assign rfl rfl) ?_)
    refine g_nil ?_
    refine g_then ?_
    by_cases hb18 : (k : Int) = 7
    · skip
      refine g_cond_t rfl (decide_eq_true hb18) ?_
      refine g_region ?_
      refine l_of (s_val (v := .string s) (wt0 rfl) rfl rfl (x_move rfl rfl) ?_)
      refine l_of (s_val (v := .pointer (some ⟨g4, 7, none⟩)) (wt0 rfl) rfl rfl (x_fieldAddr rfl rfl fo33_7 rfl) ?_)
      refine l_of (s_store H8 0 (wt0 rfl) rfl rfl rfl rfl rfl sz9 rfl rfl (cs' := #[.int .i64 k, .int .i64 0, .int .i64 0, .int .i64 0, .int .i64 0, .int .i64 0, .string (⟨#[]⟩), .string s]) rfl ?_)
      intro wq19 (H20 : S wq19 [Ob g4 (.cells #[.int .i64 k, .int .i64 0, .int .i64 0, .int .i64 0, .int .i64 0, .int .i64 0, .string (⟨#[]⟩), .string s] 33 (0, 0)), Ob g1 (.cells #[.int .i64 0, .int .i64 0, .int .i64 0, .int .i64 0, .int .i64 0, .int .i64 0, .string (⟨#[]⟩), .string (⟨#[]⟩)] 33 (0, 0)), Old w no])
      refine g_nil ?_
      refine g_in ?_
      refine g_then ?_
      refine g_weak [(4, .pointer (some ⟨g1, 0, none⟩)), (5, .pointer (some ⟨g4, 0, none⟩))] ⟨rfl, rfl, trivial⟩ ?_
      refine g_seq ?_
      refine g_region ?_
      refine l_of (s_val (v := .agg #[.int .i64 k, .int .i64 0, .int .i64 0, .int .i64 0, .int .i64 0, .int .i64 0, .string (⟨#[]⟩), .string s]) (wt0 rfl) rfl rfl (x_loadA H20 0 rfl rfl Try.underlying33 rfl sz33 rfl rfl rfl) ?_)
      refine l_of (s_store H20 1 (wt0 rfl) rfl rfl rfl rfl rfl sz33 rfl rfl (cs' := #[.int .i64 k, .int .i64 0, .int .i64 0, .int .i64 0, .int .i64 0, .int .i64 0, .string (⟨#[]⟩), .string s]) rfl ?_)
      intro wq21 (H22 : S wq21 [Ob g4 (.cells #[.int .i64 k, .int .i64 0, .int .i64 0, .int .i64 0, .int .i64 0, .int .i64 0, .string (⟨#[]⟩), .string s] 33 (0, 0)), Ob g1 (.cells #[.int .i64 k, .int .i64 0, .int .i64 0, .int .i64 0, .int .i64 0, .int .i64 0, .string (⟨#[]⟩), .string s] 33 (0, 0)), Old w no])
      refine g_nil ?_
      refine g_then ?_
      refine g_ret ?_
      refine fin_ret [.cell 4 33] [.agg #[.int .i64 k, .int .i64 0, .int .i64 0, .int .i64 0, .int .i64 0, .int .i64 0, .string (⟨#[]⟩), .string s]] rfl ⟨⟨_, rfl, run_loadA (H22.ob (k := 1) rfl) Try.underlying33 rfl sz33 rfl rfl⟩, trivial⟩ ?_
      exact ⟨by simp only [takenP, tupled, hb11, if_pos hb18, if_true, Bool.false_eq_true, if_false, M.cells], H22.mask [false, false, true]⟩
    · skip
      refine g_cond_f rfl (decide_eq_false hb18) ?_
      refine g_seq ?_
      refine g_region ?_
      refine l_of (s_val (v := .int .i64 k) (wt0 rfl) rfl rfl (x_move rfl rfl) ?_)
      refine l_of (s_call (wt0 rfl) (x_call' rfl rfl cl64) (block_r _ _) ?_)
      rintro _ _ ⟨rfl, rfl⟩
      refine b_ret rfl rfl ?_
      refine l_of (s_val (v := .bool (isBlock k)) (wt0 rfl) rfl rfl (x_assign rfl rfl) ?_)
      refine g_nil ?_
      refine g_then ?_
      rcases Bool.eq_false_or_eq_true (isBlock k) with hb25 | hb25
      · skip
        have := h2 hb25
        refine g_cond_t rfl hb25 ?_
        refine g_any [] (fun _ => True) [] (by kernel_rfl) H8 (fun wq26 H27 => ?_)
        refine a_pure (v := .string s) 0 rfl (wt0 rfl) rfl rfl rfl (by kernel_rfl) (by kernel_rfl) (by kernel_rfl) (.inr fun _ => trivial) (fun wx => x_move rfl rfl) ?_
        refine a_pure (v := .string s) 2 rfl (wt0 rfl) rfl rfl rfl (by kernel_rfl) (by kernel_rfl) (by kernel_rfl) (.inr fun _ => trivial) (fun wx => x_move rfl rfl) ?_
        have hsz28 : (s.extract 4 s.size).size = s.size - 4 := by rw [ByteArray.size_extract]; omega
        refine a_pure (v := .string (s.extract 4 s.size)) 3 rfl (wt0 rfl) rfl rfl rfl (by kernel_rfl) (by kernel_rfl) (by kernel_rfl) (.inr fun _ => trivial) (fun wx => x_slices 4 s.size rfl rfl Try.underlying9 (.inr ⟨_, _, _, rfl, rfl, by omega⟩) (.inl ⟨rfl, rfl⟩) (by omega)) ?_
        refine a_pure (v := .string s) 5 rfl (wt0 rfl) rfl rfl rfl (by kernel_rfl) (by kernel_rfl) (by kernel_rfl) (.inr fun _ => trivial) (fun wx => x_move rfl rfl) ?_
        have hsz29 : (s.extract 8 s.size).size = s.size - 8 := by rw [ByteArray.size_extract]; omega
        refine a_pure (v := .string (s.extract 8 s.size)) 6 rfl (wt0 rfl) rfl rfl rfl (by kernel_rfl) (by kernel_rfl) (by kernel_rfl) (.inr fun _ => trivial) (fun wx => x_slices 8 s.size rfl rfl Try.underlying9 (.inr ⟨_, _, _, rfl, rfl, by omega⟩) (.inl ⟨rfl, rfl⟩) (by omega)) ?_
        refine a_one (i := 1) (by kernel_rfl) rfl ?_
        have := rd4_lt s
        refine s_call (wt0 rfl) (x_call' rfl rfl cl57) (read4_r _ (by omega) _) ?_
        rintro _ _ ⟨rfl, rfl⟩
        refine b_ret rfl rfl ?_
        refine a_k trivial ?_
        refine a_pure (v := .pointer (some ⟨g4, 1, none⟩)) 8 rfl (wt0 rfl) rfl rfl rfl (by kernel_rfl) (by kernel_rfl) (by kernel_rfl) (.inr fun _ => trivial) (fun wx => x_fieldAddr rfl rfl fo33_1 rfl) ?_
        refine a_one (i := 4) (by kernel_rfl) rfl ?_
        have := rd4_lt (s.extract 4 s.size)
        refine s_call (wt0 rfl) (x_call' rfl rfl cl57) (read4_r _ (by omega) _) ?_
        rintro _ _ ⟨rfl, rfl⟩
        refine b_ret rfl rfl ?_
        refine a_k trivial ?_
        refine a_one (i := 7) (by kernel_rfl) rfl ?_
        have := rd4_lt (s.extract 8 s.size)
        refine s_call (wt0 rfl) (x_call' rfl rfl cl57) (read4_r _ (by omega) _) ?_
        rintro _ _ ⟨rfl, rfl⟩
        refine b_ret rfl rfl ?_
        refine a_k trivial ?_
        refine a_one (i := 9) (by kernel_rfl) rfl ?_
        refine s_store H27 0 (wt0 rfl) rfl rfl rfl rfl rfl sz3 rfl rfl (cs' := #[.int .i64 k, .int .i64 ((rd4 s : Int)), .int .i64 0, .int .i64 0, .int .i64 0, .int .i64 0, .string (⟨#[]⟩), .string (⟨#[]⟩)]) rfl ?_
        intro wq36 (H37 : S wq36 [Ob g4 (.cells #[.int .i64 k, .int .i64 ((rd4 s : Int)), .int .i64 0, .int .i64 0, .int .i64 0, .int .i64 0, .string (⟨#[]⟩), .string (⟨#[]⟩)] 33 (0, 0)), Ob g1 (.cells #[.int .i64 0, .int .i64 0, .int .i64 0, .int .i64 0, .int .i64 0, .int .i64 0, .string (⟨#[]⟩), .string (⟨#[]⟩)] 33 (0, 0)), Old w no])
        refine a_k trivial ?_
        refine a_pure (v := .pointer (some ⟨g4, 2, none⟩)) 10 rfl (wt0 rfl) rfl rfl rfl (by kernel_rfl) (by kernel_rfl) (by kernel_rfl) (.inr fun _ => trivial) (fun wx => x_fieldAddr rfl rfl fo33_2 rfl) ?_
        refine a_one (i := 11) (by kernel_rfl) rfl ?_
        refine s_store H37 0 (wt0 rfl) rfl rfl rfl rfl rfl sz3 rfl rfl (cs' := #[.int .i64 k, .int .i64 ((rd4 s : Int)), .int .i64 ((rd4 (s.extract 4 s.size) : Int)), .int .i64 0, .int .i64 0, .int .i64 0, .string (⟨#[]⟩), .string (⟨#[]⟩)]) rfl ?_
        intro wq38 (H39 : S wq38 [Ob g4 (.cells #[.int .i64 k, .int .i64 ((rd4 s : Int)), .int .i64 ((rd4 (s.extract 4 s.size) : Int)), .int .i64 0, .int .i64 0, .int .i64 0, .string (⟨#[]⟩), .string (⟨#[]⟩)] 33 (0, 0)), Ob g1 (.cells #[.int .i64 0, .int .i64 0, .int .i64 0, .int .i64 0, .int .i64 0, .int .i64 0, .string (⟨#[]⟩), .string (⟨#[]⟩)] 33 (0, 0)), Old w no])
        refine a_k trivial ?_
        refine a_pure (v := .pointer (some ⟨g4, 3, none⟩)) 12 rfl (wt0 rfl) rfl rfl rfl (by kernel_rfl) (by kernel_rfl) (by kernel_rfl) (.inr fun _ => trivial) (fun wx => x_fieldAddr rfl rfl fo33_3 rfl) ?_
        refine a_one (i := 13) (by kernel_rfl) rfl ?_
        refine s_store H39 0 (wt0 rfl) rfl rfl rfl rfl rfl sz3 rfl rfl (cs' := #[.int .i64 k, .int .i64 ((rd4 s : Int)), .int .i64 ((rd4 (s.extract 4 s.size) : Int)), .int .i64 ((rd4 (s.extract 8 s.size) : Int)), .int .i64 0, .int .i64 0, .string (⟨#[]⟩), .string (⟨#[]⟩)]) rfl ?_
        intro wq40 (H41 : S wq40 [Ob g4 (.cells #[.int .i64 k, .int .i64 ((rd4 s : Int)), .int .i64 ((rd4 (s.extract 4 s.size) : Int)), .int .i64 ((rd4 (s.extract 8 s.size) : Int)), .int .i64 0, .int .i64 0, .string (⟨#[]⟩), .string (⟨#[]⟩)] 33 (0, 0)), Ob g1 (.cells #[.int .i64 0, .int .i64 0, .int .i64 0, .int .i64 0, .int .i64 0, .int .i64 0, .string (⟨#[]⟩), .string (⟨#[]⟩)] 33 (0, 0)), Old w no])
        refine a_k trivial ?_
        refine a_done (by kernel_rfl) ?_
        refine g_in ?_
        refine g_then ?_
        refine g_weak [(4, .pointer (some ⟨g1, 0, none⟩)), (5, .pointer (some ⟨g4, 0, none⟩))] ⟨rfl, rfl, trivial⟩ ?_
        refine g_seq ?_
        refine g_region ?_
        refine l_of (s_val (v := .agg #[.int .i64 k, .int .i64 ((rd4 s : Int)), .int .i64 ((rd4 (s.extract 4 s.size) : Int)), .int .i64 ((rd4 (s.extract 8 s.size) : Int)), .int .i64 0, .int .i64 0, .string (⟨#[]⟩), .string (⟨#[]⟩)]) (wt0 rfl) rfl rfl (x_loadA H41 0 rfl rfl Try.underlying33 rfl sz33 rfl rfl rfl) ?_)
        refine l_of (s_store H41 1 (wt0 rfl) rfl rfl rfl rfl rfl sz33 rfl rfl (cs' := #[.int .i64 k, .int .i64 ((rd4 s : Int)), .int .i64 ((rd4 (s.extract 4 s.size) : Int)), .int .i64 ((rd4 (s.extract 8 s.size) : Int)), .int .i64 0, .int .i64 0, .string (⟨#[]⟩), .string (⟨#[]⟩)]) rfl ?_)
        intro wq42 (H43 : S wq42 [Ob g4 (.cells #[.int .i64 k, .int .i64 ((rd4 s : Int)), .int .i64 ((rd4 (s.extract 4 s.size) : Int)), .int .i64 ((rd4 (s.extract 8 s.size) : Int)), .int .i64 0, .int .i64 0, .string (⟨#[]⟩), .string (⟨#[]⟩)] 33 (0, 0)), Ob g1 (.cells #[.int .i64 k, .int .i64 ((rd4 s : Int)), .int .i64 ((rd4 (s.extract 4 s.size) : Int)), .int .i64 ((rd4 (s.extract 8 s.size) : Int)), .int .i64 0, .int .i64 0, .string (⟨#[]⟩), .string (⟨#[]⟩)] 33 (0, 0)), Old w no])
        refine g_nil ?_
        refine g_then ?_
        refine g_ret ?_
        refine fin_ret [.cell 4 33] [.agg #[.int .i64 k, .int .i64 ((rd4 s : Int)), .int .i64 ((rd4 (s.extract 4 s.size) : Int)), .int .i64 ((rd4 (s.extract 8 s.size) : Int)), .int .i64 0, .int .i64 0, .string (⟨#[]⟩), .string (⟨#[]⟩)]] rfl ⟨⟨_, rfl, run_loadA (H43.ob (k := 1) rfl) Try.underlying33 rfl sz33 rfl rfl⟩, trivial⟩ ?_
        exact ⟨by simp only [takenP, tupled, hb11, if_neg hb18, hb25, if_true, Bool.false_eq_true, if_false, M.cells], H43.mask [false, false, true]⟩
      · skip
        refine g_cond_f rfl hb25 ?_
        refine g_seq ?_
        refine g_region ?_
        refine l_of (s_val (v := .int .i64 k) (wt0 rfl) rfl rfl (x_move rfl rfl) ?_)
        refine l_of (s_val (v := .bool (decide ((k : Int) = 9))) (wt0 rfl) rfl rfl (x_bin rfl rfl rfl b_eql) ?_)
        refine l_of (s_val (v := .bool (decide ((k : Int) = 9))) (wt0 rfl) rfl rfl (x_assign rfl rfl) ?_)
        refine g_nil ?_
        refine g_then ?_
        refine g_weak [(0, .int .i64 k), (1, .string s), (4, .pointer (some ⟨g1, 0, none⟩)), (5, .pointer (some ⟨g4, 0, none⟩)), (33, .bool (decide ((k : Int) = 9)))] ⟨rfl, rfl, rfl, rfl, rfl, trivial⟩ ?_
        by_cases hb44 : (k : Int) = 9
        · skip
          have := h3 hb44
          refine g_cond_t rfl (decide_eq_true hb44) ?_
          refine g_any [] (fun _ => True) [] (by kernel_rfl) H8 (fun wq45 H46 => ?_)
          refine a_pure (v := .string s) 0 rfl (wt0 rfl) rfl rfl rfl (by kernel_rfl) (by kernel_rfl) (by kernel_rfl) (.inr fun _ => trivial) (fun wx => x_move rfl rfl) ?_
          refine a_pure (v := .string s) 2 rfl (wt0 rfl) rfl rfl rfl (by kernel_rfl) (by kernel_rfl) (by kernel_rfl) (.inr fun _ => trivial) (fun wx => x_move rfl rfl) ?_
          have hsz47 : (s.extract 4 s.size).size = s.size - 4 := by rw [ByteArray.size_extract]; omega
          refine a_pure (v := .string (s.extract 4 s.size)) 3 rfl (wt0 rfl) rfl rfl rfl (by kernel_rfl) (by kernel_rfl) (by kernel_rfl) (.inr fun _ => trivial) (fun wx => x_slices 4 s.size rfl rfl Try.underlying9 (.inr ⟨_, _, _, rfl, rfl, by omega⟩) (.inl ⟨rfl, rfl⟩) (by omega)) ?_
          refine a_pure (v := .string s) 5 rfl (wt0 rfl) rfl rfl rfl (by kernel_rfl) (by kernel_rfl) (by kernel_rfl) (.inr fun _ => trivial) (fun wx => x_move rfl rfl) ?_
          have hsz48 : (s.extract 8 s.size).size = s.size - 8 := by rw [ByteArray.size_extract]; omega
          refine a_pure (v := .string (s.extract 8 s.size)) 6 rfl (wt0 rfl) rfl rfl rfl (by kernel_rfl) (by kernel_rfl) (by kernel_rfl) (.inr fun _ => trivial) (fun wx => x_slices 8 s.size rfl rfl Try.underlying9 (.inr ⟨_, _, _, rfl, rfl, by omega⟩) (.inl ⟨rfl, rfl⟩) (by omega)) ?_
          refine a_one (i := 1) (by kernel_rfl) rfl ?_
          have := rd4_lt s
          refine s_call (wt0 rfl) (x_call' rfl rfl cl57) (read4_r _ (by omega) _) ?_
          rintro _ _ ⟨rfl, rfl⟩
          refine b_ret rfl rfl ?_
          refine a_k trivial ?_
          refine a_pure (v := .pointer (some ⟨g4, 1, none⟩)) 7 rfl (wt0 rfl) rfl rfl rfl (by kernel_rfl) (by kernel_rfl) (by kernel_rfl) (.inr fun _ => trivial) (fun wx => x_fieldAddr rfl rfl fo33_1 rfl) ?_
          refine a_one (i := 4) (by kernel_rfl) rfl ?_
          have := rd4_lt (s.extract 4 s.size)
          refine s_call (wt0 rfl) (x_call' rfl rfl cl57) (read4_r _ (by omega) _) ?_
          rintro _ _ ⟨rfl, rfl⟩
          refine b_ret rfl rfl ?_
          refine a_k trivial ?_
          refine a_one (i := 8) (by kernel_rfl) rfl ?_
          refine s_store H46 0 (wt0 rfl) rfl rfl rfl rfl rfl sz3 rfl rfl (cs' := #[.int .i64 k, .int .i64 ((rd4 s : Int)), .int .i64 0, .int .i64 0, .int .i64 0, .int .i64 0, .string (⟨#[]⟩), .string (⟨#[]⟩)]) rfl ?_
          intro wq53 (H54 : S wq53 [Ob g4 (.cells #[.int .i64 k, .int .i64 ((rd4 s : Int)), .int .i64 0, .int .i64 0, .int .i64 0, .int .i64 0, .string (⟨#[]⟩), .string (⟨#[]⟩)] 33 (0, 0)), Ob g1 (.cells #[.int .i64 0, .int .i64 0, .int .i64 0, .int .i64 0, .int .i64 0, .int .i64 0, .string (⟨#[]⟩), .string (⟨#[]⟩)] 33 (0, 0)), Old w no])
          refine a_k trivial ?_
          refine a_pure (v := .pointer (some ⟨g4, 2, none⟩)) 9 rfl (wt0 rfl) rfl rfl rfl (by kernel_rfl) (by kernel_rfl) (by kernel_rfl) (.inr fun _ => trivial) (fun wx => x_fieldAddr rfl rfl fo33_2 rfl) ?_
          refine a_one (i := 10) (by kernel_rfl) rfl ?_
          refine s_store H54 0 (wt0 rfl) rfl rfl rfl rfl rfl sz3 rfl rfl (cs' := #[.int .i64 k, .int .i64 ((rd4 s : Int)), .int .i64 ((rd4 (s.extract 4 s.size) : Int)), .int .i64 0, .int .i64 0, .int .i64 0, .string (⟨#[]⟩), .string (⟨#[]⟩)]) rfl ?_
          intro wq55 (H56 : S wq55 [Ob g4 (.cells #[.int .i64 k, .int .i64 ((rd4 s : Int)), .int .i64 ((rd4 (s.extract 4 s.size) : Int)), .int .i64 0, .int .i64 0, .int .i64 0, .string (⟨#[]⟩), .string (⟨#[]⟩)] 33 (0, 0)), Ob g1 (.cells #[.int .i64 0, .int .i64 0, .int .i64 0, .int .i64 0, .int .i64 0, .int .i64 0, .string (⟨#[]⟩), .string (⟨#[]⟩)] 33 (0, 0)), Old w no])
          refine a_k trivial ?_
          refine a_pure (v := .pointer (some ⟨g4, 7, none⟩)) 11 rfl (wt0 rfl) rfl rfl rfl (by kernel_rfl) (by kernel_rfl) (by kernel_rfl) (.inr fun _ => trivial) (fun wx => x_fieldAddr rfl rfl fo33_7 rfl) ?_
          refine a_one (i := 12) (by kernel_rfl) rfl ?_
          refine s_store H56 0 (wt0 rfl) rfl rfl rfl rfl rfl sz9 rfl rfl (cs' := #[.int .i64 k, .int .i64 ((rd4 s : Int)), .int .i64 ((rd4 (s.extract 4 s.size) : Int)), .int .i64 0, .int .i64 0, .int .i64 0, .string (⟨#[]⟩), .string (s.extract 8 s.size)]) rfl ?_
          intro wq57 (H58 : S wq57 [Ob g4 (.cells #[.int .i64 k, .int .i64 ((rd4 s : Int)), .int .i64 ((rd4 (s.extract 4 s.size) : Int)), .int .i64 0, .int .i64 0, .int .i64 0, .string (⟨#[]⟩), .string (s.extract 8 s.size)] 33 (0, 0)), Ob g1 (.cells #[.int .i64 0, .int .i64 0, .int .i64 0, .int .i64 0, .int .i64 0, .int .i64 0, .string (⟨#[]⟩), .string (⟨#[]⟩)] 33 (0, 0)), Old w no])
          refine a_k trivial ?_
          refine a_done (by kernel_rfl) ?_
          refine g_in ?_
          refine g_then ?_
          refine g_weak [(4, .pointer (some ⟨g1, 0, none⟩)), (5, .pointer (some ⟨g4, 0, none⟩))] ⟨rfl, rfl, trivial⟩ ?_
          refine g_seq ?_
          refine g_region ?_
          refine l_of (s_val (v := .agg #[.int .i64 k, .int .i64 ((rd4 s : Int)), .int .i64 ((rd4 (s.extract 4 s.size) : Int)), .int .i64 0, .int .i64 0, .int .i64 0, .string (⟨#[]⟩), .string (s.extract 8 s.size)]) (wt0 rfl) rfl rfl (x_loadA H58 0 rfl rfl Try.underlying33 rfl sz33 rfl rfl rfl) ?_)
          refine l_of (s_store H58 1 (wt0 rfl) rfl rfl rfl rfl rfl sz33 rfl rfl (cs' := #[.int .i64 k, .int .i64 ((rd4 s : Int)), .int .i64 ((rd4 (s.extract 4 s.size) : Int)), .int .i64 0, .int .i64 0, .int .i64 0, .string (⟨#[]⟩), .string (s.extract 8 s.size)]) rfl ?_)
          intro wq59 (H60 : S wq59 [Ob g4 (.cells #[.int .i64 k, .int .i64 ((rd4 s : Int)), .int .i64 ((rd4 (s.extract 4 s.size) : Int)), .int .i64 0, .int .i64 0, .int .i64 0, .string (⟨#[]⟩), .string (s.extract 8 s.size)] 33 (0, 0)), Ob g1 (.cells #[.int .i64 k, .int .i64 ((rd4 s : Int)), .int .i64 ((rd4 (s.extract 4 s.size) : Int)), .int .i64 0, .int .i64 0, .int .i64 0, .string (⟨#[]⟩), .string (s.extract 8 s.size)] 33 (0, 0)), Old w no])
          refine g_nil ?_
          refine g_then ?_
          refine g_ret ?_
          refine fin_ret [.cell 4 33] [.agg #[.int .i64 k, .int .i64 ((rd4 s : Int)), .int .i64 ((rd4 (s.extract 4 s.size) : Int)), .int .i64 0, .int .i64 0, .int .i64 0, .string (⟨#[]⟩), .string (s.extract 8 s.size)]] rfl ⟨⟨_, rfl, run_loadA (H60.ob (k := 1) rfl) Try.underlying33 rfl sz33 rfl rfl⟩, trivial⟩ ?_
          exact ⟨by simp only [takenP, tupled, hb11, if_neg hb18, hb25, if_pos hb44, if_true, Bool.false_eq_true, if_false, M.cells], H60.mask [false, false, true]⟩
        · skip
          refine g_cond_f rfl (decide_eq_false hb44) ?_
          refine g_seq ?_
          refine g_region ?_
          refine l_of (s_val (v := .int .i64 k) (wt0 rfl) rfl rfl (x_move rfl rfl) ?_)
          refine l_of (s_val (v := .bool (decide ((k : Int) = 11))) (wt0 rfl) rfl rfl (x_bin rfl rfl rfl b_eql) ?_)
          refine l_of (s_val (v := .bool (decide ((k : Int) = 11))) (wt0 rfl) rfl rfl (x_assign rfl rfl) ?_)
          refine g_nil ?_
          refine g_then ?_
          by_cases hb61 : (k : Int) = 11
          · skip
            have := h4 hb61
            refine g_cond_t rfl (decide_eq_true hb61) ?_
            refine g_any [] (fun _ => True) [] (by kernel_rfl) H8 (fun wq62 H63 => ?_)
            refine a_pure (v := .string s) 0 rfl (wt0 rfl) rfl rfl rfl (by kernel_rfl) (by kernel_rfl) (by kernel_rfl) (.inr fun _ => trivial) (fun wx => x_move rfl rfl) ?_
            have hbt64 := bt'_lt s 0
            refine a_pure (v := .int .u8 ((bt' s 0 : Int))) 1 rfl (wt0 rfl) rfl rfl rfl (by kernel_rfl) (by kernel_rfl) (by kernel_rfl) (.inr fun _ => trivial) (fun wx => x_index 0 rfl rfl rfl Try.underlying9 (by omega)) ?_
            refine a_pure (v := .int .i64 ((bt' s 0 : Int))) 2 rfl (wt0 rfl) rfl rfl rfl (by kernel_rfl) (by kernel_rfl) (by kernel_rfl) (.inr fun _ => trivial) (fun wx => x_conv rfl rfl Try.underlying5 Try.underlying3 (w64 (by omega))) ?_
            refine a_pure (v := .int .i64 ((bt' s 0 : Int) * 256)) 3 rfl (wt0 rfl) rfl rfl rfl (by kernel_rfl) (by kernel_rfl) (by kernel_rfl) (.inr fun _ => trivial) (fun wx => x_bin rfl rfl rfl (b_mul (w64 (by omega)))) ?_
            refine a_pure (v := .string s) 4 rfl (wt0 rfl) rfl rfl rfl (by kernel_rfl) (by kernel_rfl) (by kernel_rfl) (.inr fun _ => trivial) (fun wx => x_move rfl rfl) ?_
            have hbt65 := bt'_lt s 1
            refine a_pure (v := .int .u8 ((bt' s 1 : Int))) 5 rfl (wt0 rfl) rfl rfl rfl (by kernel_rfl) (by kernel_rfl) (by kernel_rfl) (.inr fun _ => trivial) (fun wx => x_index 1 rfl rfl rfl Try.underlying9 (by omega)) ?_
            refine a_pure (v := .int .i64 ((bt' s 1 : Int))) 6 rfl (wt0 rfl) rfl rfl rfl (by kernel_rfl) (by kernel_rfl) (by kernel_rfl) (.inr fun _ => trivial) (fun wx => x_conv rfl rfl Try.underlying5 Try.underlying3 (w64 (by omega))) ?_
            refine a_pure (v := .int .i64 (((bt' s 0 : Int) * 256) + (bt' s 1 : Int))) 7 rfl (wt0 rfl) rfl rfl rfl (by kernel_rfl) (by kernel_rfl) (by kernel_rfl) (.inr fun _ => trivial) (fun wx => x_bin rfl rfl rfl (b_add (w64 (by omega)))) ?_
            refine a_pure (v := .pointer (some ⟨g4, 1, none⟩)) 8 rfl (wt0 rfl) rfl rfl rfl (by kernel_rfl) (by kernel_rfl) (by kernel_rfl) (.inr fun _ => trivial) (fun wx => x_fieldAddr rfl rfl fo33_1 rfl) ?_
            refine a_one (i := 9) (by kernel_rfl) rfl ?_
            refine s_store H63 0 (wt0 rfl) rfl rfl rfl rfl rfl sz3 rfl rfl (cs' := #[.int .i64 k, .int .i64 (((bt' s 0 : Int) * 256) + (bt' s 1 : Int)), .int .i64 0, .int .i64 0, .int .i64 0, .int .i64 0, .string (⟨#[]⟩), .string (⟨#[]⟩)]) rfl ?_
            intro wq66 (H67 : S wq66 [Ob g4 (.cells #[.int .i64 k, .int .i64 (((bt' s 0 : Int) * 256) + (bt' s 1 : Int)), .int .i64 0, .int .i64 0, .int .i64 0, .int .i64 0, .string (⟨#[]⟩), .string (⟨#[]⟩)] 33 (0, 0)), Ob g1 (.cells #[.int .i64 0, .int .i64 0, .int .i64 0, .int .i64 0, .int .i64 0, .int .i64 0, .string (⟨#[]⟩), .string (⟨#[]⟩)] 33 (0, 0)), Old w no])
            refine a_k trivial ?_
            refine a_done (by kernel_rfl) ?_
            refine g_in ?_
            refine g_then ?_
            refine g_weak [(4, .pointer (some ⟨g1, 0, none⟩)), (5, .pointer (some ⟨g4, 0, none⟩))] ⟨rfl, rfl, trivial⟩ ?_
            refine g_seq ?_
            refine g_region ?_
            refine l_of (s_val (v := .agg #[.int .i64 k, .int .i64 (((bt' s 0 : Int) * 256) + (bt' s 1 : Int)), .int .i64 0, .int .i64 0, .int .i64 0, .int .i64 0, .string (⟨#[]⟩), .string (⟨#[]⟩)]) (wt0 rfl) rfl rfl (x_loadA H67 0 rfl rfl Try.underlying33 rfl sz33 rfl rfl rfl) ?_)
            refine l_of (s_store H67 1 (wt0 rfl) rfl rfl rfl rfl rfl sz33 rfl rfl (cs' := #[.int .i64 k, .int .i64 (((bt' s 0 : Int) * 256) + (bt' s 1 : Int)), .int .i64 0, .int .i64 0, .int .i64 0, .int .i64 0, .string (⟨#[]⟩), .string (⟨#[]⟩)]) rfl ?_)
            intro wq68 (H69 : S wq68 [Ob g4 (.cells #[.int .i64 k, .int .i64 (((bt' s 0 : Int) * 256) + (bt' s 1 : Int)), .int .i64 0, .int .i64 0, .int .i64 0, .int .i64 0, .string (⟨#[]⟩), .string (⟨#[]⟩)] 33 (0, 0)), Ob g1 (.cells #[.int .i64 k, .int .i64 (((bt' s 0 : Int) * 256) + (bt' s 1 : Int)), .int .i64 0, .int .i64 0, .int .i64 0, .int .i64 0, .string (⟨#[]⟩), .string (⟨#[]⟩)] 33 (0, 0)), Old w no])
            refine g_nil ?_
            refine g_then ?_
            refine g_ret ?_
            refine fin_ret [.cell 4 33] [.agg #[.int .i64 k, .int .i64 (((bt' s 0 : Int) * 256) + (bt' s 1 : Int)), .int .i64 0, .int .i64 0, .int .i64 0, .int .i64 0, .string (⟨#[]⟩), .string (⟨#[]⟩)]] rfl ⟨⟨_, rfl, run_loadA (H69.ob (k := 1) rfl) Try.underlying33 rfl sz33 rfl rfl⟩, trivial⟩ ?_
            exact ⟨by simp only [takenP, tupled, hb11, if_neg hb18, hb25, if_neg hb44, if_pos hb61, if_true, Bool.false_eq_true, if_false, M.cells], H69.mask [false, false, true]⟩
          · skip
            refine g_cond_f rfl (decide_eq_false hb61) ?_
            refine g_seq ?_
            refine g_region ?_
            refine l_of (s_val (v := .int .i64 k) (wt0 rfl) rfl rfl (x_move rfl rfl) ?_)
            refine l_of (s_val (v := .bool (decide ((k : Int) = 17))) (wt0 rfl) rfl rfl (x_bin rfl rfl rfl b_eql) ?_)
            refine l_of (s_val (v := .bool (decide ((k : Int) = 17))) (wt0 rfl) rfl rfl (x_assign rfl rfl) ?_)
            refine g_nil ?_
            refine g_then ?_
            by_cases hb70 : (k : Int) = 17
            · skip
              have := h5 hb70
              refine g_cond_t rfl (decide_eq_true hb70) ?_
              refine g_any [] (fun _ => True) [] (by kernel_rfl) H8 (fun wq71 H72 => ?_)
              refine a_pure (v := .string s) 0 rfl (wt0 rfl) rfl rfl rfl (by kernel_rfl) (by kernel_rfl) (by kernel_rfl) (.inr fun _ => trivial) (fun wx => x_move rfl rfl) ?_
              have hbt73 := bt'_lt s 0
              refine a_pure (v := .int .u8 ((bt' s 0 : Int))) 1 rfl (wt0 rfl) rfl rfl rfl (by kernel_rfl) (by kernel_rfl) (by kernel_rfl) (.inr fun _ => trivial) (fun wx => x_index 0 rfl rfl rfl Try.underlying9 (by omega)) ?_
              refine a_pure (v := .int .i64 ((bt' s 0 : Int))) 2 rfl (wt0 rfl) rfl rfl rfl (by kernel_rfl) (by kernel_rfl) (by kernel_rfl) (.inr fun _ => trivial) (fun wx => x_conv rfl rfl Try.underlying5 Try.underlying3 (w64 (by omega))) ?_
              refine a_pure (v := .string s) 3 rfl (wt0 rfl) rfl rfl rfl (by kernel_rfl) (by kernel_rfl) (by kernel_rfl) (.inr fun _ => trivial) (fun wx => x_move rfl rfl) ?_
              have hsz74 : (s.extract 1 s.size).size = s.size - 1 := by rw [ByteArray.size_extract]; omega
              refine a_pure (v := .string (s.extract 1 s.size)) 4 rfl (wt0 rfl) rfl rfl rfl (by kernel_rfl) (by kernel_rfl) (by kernel_rfl) (.inr fun _ => trivial) (fun wx => x_slices 1 s.size rfl rfl Try.underlying9 (.inr ⟨_, _, _, rfl, rfl, by omega⟩) (.inl ⟨rfl, rfl⟩) (by omega)) ?_
              refine a_pure (v := .pointer (some ⟨g4, 1, none⟩)) 5 rfl (wt0 rfl) rfl rfl rfl (by kernel_rfl) (by kernel_rfl) (by kernel_rfl) (.inr fun _ => trivial) (fun wx => x_fieldAddr rfl rfl fo33_1 rfl) ?_
              refine a_one (i := 6) (by kernel_rfl) rfl ?_
              refine s_store H72 0 (wt0 rfl) rfl rfl rfl rfl rfl sz3 rfl rfl (cs' := #[.int .i64 k, .int .i64 ((bt' s 0 : Int)), .int .i64 0, .int .i64 0, .int .i64 0, .int .i64 0, .string (⟨#[]⟩), .string (⟨#[]⟩)]) rfl ?_
              intro wq75 (H76 : S wq75 [Ob g4 (.cells #[.int .i64 k, .int .i64 ((bt' s 0 : Int)), .int .i64 0, .int .i64 0, .int .i64 0, .int .i64 0, .string (⟨#[]⟩), .string (⟨#[]⟩)] 33 (0, 0)), Ob g1 (.cells #[.int .i64 0, .int .i64 0, .int .i64 0, .int .i64 0, .int .i64 0, .int .i64 0, .string (⟨#[]⟩), .string (⟨#[]⟩)] 33 (0, 0)), Old w no])
              refine a_k trivial ?_
              refine a_pure (v := .pointer (some ⟨g4, 7, none⟩)) 7 rfl (wt0 rfl) rfl rfl rfl (by kernel_rfl) (by kernel_rfl) (by kernel_rfl) (.inr fun _ => trivial) (fun wx => x_fieldAddr rfl rfl fo33_7 rfl) ?_
              refine a_one (i := 8) (by kernel_rfl) rfl ?_
              refine s_store H76 0 (wt0 rfl) rfl rfl rfl rfl rfl sz9 rfl rfl (cs' := #[.int .i64 k, .int .i64 ((bt' s 0 : Int)), .int .i64 0, .int .i64 0, .int .i64 0, .int .i64 0, .string (⟨#[]⟩), .string (s.extract 1 s.size)]) rfl ?_
              intro wq77 (H78 : S wq77 [Ob g4 (.cells #[.int .i64 k, .int .i64 ((bt' s 0 : Int)), .int .i64 0, .int .i64 0, .int .i64 0, .int .i64 0, .string (⟨#[]⟩), .string (s.extract 1 s.size)] 33 (0, 0)), Ob g1 (.cells #[.int .i64 0, .int .i64 0, .int .i64 0, .int .i64 0, .int .i64 0, .int .i64 0, .string (⟨#[]⟩), .string (⟨#[]⟩)] 33 (0, 0)), Old w no])
              refine a_k trivial ?_
              refine a_done (by kernel_rfl) ?_
              refine g_in ?_
              refine g_then ?_
              refine g_weak [(4, .pointer (some ⟨g1, 0, none⟩)), (5, .pointer (some ⟨g4, 0, none⟩))] ⟨rfl, rfl, trivial⟩ ?_
              refine g_seq ?_
              refine g_region ?_
              refine l_of (s_val (v := .agg #[.int .i64 k, .int .i64 ((bt' s 0 : Int)), .int .i64 0, .int .i64 0, .int .i64 0, .int .i64 0, .string (⟨#[]⟩), .string (s.extract 1 s.size)]) (wt0 rfl) rfl rfl (x_loadA H78 0 rfl rfl Try.underlying33 rfl sz33 rfl rfl rfl) ?_)
              refine l_of (s_store H78 1 (wt0 rfl) rfl rfl rfl rfl rfl sz33 rfl rfl (cs' := #[.int .i64 k, .int .i64 ((bt' s 0 : Int)), .int .i64 0, .int .i64 0, .int .i64 0, .int .i64 0, .string (⟨#[]⟩), .string (s.extract 1 s.size)]) rfl ?_)
              intro wq79 (H80 : S wq79 [Ob g4 (.cells #[.int .i64 k, .int .i64 ((bt' s 0 : Int)), .int .i64 0, .int .i64 0, .int .i64 0, .int .i64 0, .string (⟨#[]⟩), .string (s.extract 1 s.size)] 33 (0, 0)), Ob g1 (.cells #[.int .i64 k, .int .i64 ((bt' s 0 : Int)), .int .i64 0, .int .i64 0, .int .i64 0, .int .i64 0, .string (⟨#[]⟩), .string (s.extract 1 s.size)] 33 (0, 0)), Old w no])
              refine g_nil ?_
              refine g_then ?_
              refine g_ret ?_
              refine fin_ret [.cell 4 33] [.agg #[.int .i64 k, .int .i64 ((bt' s 0 : Int)), .int .i64 0, .int .i64 0, .int .i64 0, .int .i64 0, .string (⟨#[]⟩), .string (s.extract 1 s.size)]] rfl ⟨⟨_, rfl, run_loadA (H80.ob (k := 1) rfl) Try.underlying33 rfl sz33 rfl rfl⟩, trivial⟩ ?_
              exact ⟨by simp only [takenP, tupled, hb11, if_neg hb18, hb25, if_neg hb44, if_neg hb61, if_pos hb70, if_true, Bool.false_eq_true, if_false, M.cells], H80.mask [false, false, true]⟩
            · skip
              refine g_cond_f rfl (decide_eq_false hb70) ?_
              refine g_seq ?_
              refine g_region ?_
              refine l_of (s_val (v := .int .i64 k) (wt0 rfl) rfl rfl (x_move rfl rfl) ?_)
              refine l_of (s_call (wt0 rfl) (x_call' rfl rfl cl65) (hashed_r _ _) ?_)
              rintro _ _ ⟨rfl, rfl⟩
              refine b_ret rfl rfl ?_
              refine l_of (s_val (v := .bool (isHash k)) (wt0 rfl) rfl rfl (x_assign rfl rfl) ?_)
              refine g_nil ?_
              refine g_then ?_
              rcases Bool.eq_false_or_eq_true (isHash k) with hb83 | hb83
              · skip
                have := h6 hb83
                refine g_cond_t rfl hb83 ?_
                refine g_seq ?_
                refine g_region ?_
                refine l_of (s_val (v := .string s) (wt0 rfl) rfl rfl (x_move rfl rfl) ?_)
                have hsz84 : (s.extract 0 32).size = 32 - 0 := by rw [ByteArray.size_extract]; omega
                refine l_of (s_val (v := .string (s.extract 0 32)) (wt0 rfl) rfl rfl (x_slices 0 32 rfl rfl Try.underlying9 (.inl ⟨rfl, rfl⟩) (.inr ⟨_, _, _, rfl, rfl, by omega⟩) (by omega)) ?_)
                refine l_of (s_val (v := .pointer (some ⟨g4, 6, none⟩)) (wt0 rfl) rfl rfl (x_fieldAddr rfl rfl fo33_6 rfl) ?_)
                refine l_of (s_store H8 0 (wt0 rfl) rfl rfl rfl rfl rfl sz9 rfl rfl (cs' := #[.int .i64 k, .int .i64 0, .int .i64 0, .int .i64 0, .int .i64 0, .int .i64 0, .string (s.extract 0 32), .string (⟨#[]⟩)]) rfl ?_)
                intro wq85 (H86 : S wq85 [Ob g4 (.cells #[.int .i64 k, .int .i64 0, .int .i64 0, .int .i64 0, .int .i64 0, .int .i64 0, .string (s.extract 0 32), .string (⟨#[]⟩)] 33 (0, 0)), Ob g1 (.cells #[.int .i64 0, .int .i64 0, .int .i64 0, .int .i64 0, .int .i64 0, .int .i64 0, .string (⟨#[]⟩), .string (⟨#[]⟩)] 33 (0, 0)), Old w no])
                refine g_nil ?_
                refine g_then ?_
                refine g_weak [(1, .string s), (4, .pointer (some ⟨g1, 0, none⟩)), (5, .pointer (some ⟨g4, 0, none⟩))] ⟨rfl, rfl, rfl, trivial⟩ ?_
                refine g_seq ?_
                refine g_any [] (fun _ => True) [] (by kernel_rfl) H86 (fun wq87 H88 => ?_)
                refine a_pure (v := .string s) 0 rfl (wt0 rfl) rfl rfl rfl (by kernel_rfl) (by kernel_rfl) (by kernel_rfl) (.inr fun _ => trivial) (fun wx => x_move rfl rfl) ?_
                have hsz89 : (s.extract 32 s.size).size = s.size - 32 := by rw [ByteArray.size_extract]; omega
                refine a_pure (v := .string (s.extract 32 s.size)) 1 rfl (wt0 rfl) rfl rfl rfl (by kernel_rfl) (by kernel_rfl) (by kernel_rfl) (.inr fun _ => trivial) (fun wx => x_slices 32 s.size rfl rfl Try.underlying9 (.inr ⟨_, _, _, rfl, rfl, by omega⟩) (.inl ⟨rfl, rfl⟩) (by omega)) ?_
                refine a_pure (v := .string s) 3 rfl (wt0 rfl) rfl rfl rfl (by kernel_rfl) (by kernel_rfl) (by kernel_rfl) (.inr fun _ => trivial) (fun wx => x_move rfl rfl) ?_
                have hsz90 : (s.extract 36 s.size).size = s.size - 36 := by rw [ByteArray.size_extract]; omega
                refine a_pure (v := .string (s.extract 36 s.size)) 4 rfl (wt0 rfl) rfl rfl rfl (by kernel_rfl) (by kernel_rfl) (by kernel_rfl) (.inr fun _ => trivial) (fun wx => x_slices 36 s.size rfl rfl Try.underlying9 (.inr ⟨_, _, _, rfl, rfl, by omega⟩) (.inl ⟨rfl, rfl⟩) (by omega)) ?_
                refine a_pure (v := .string s) 6 rfl (wt0 rfl) rfl rfl rfl (by kernel_rfl) (by kernel_rfl) (by kernel_rfl) (.inr fun _ => trivial) (fun wx => x_move rfl rfl) ?_
                have hsz91 : (s.extract 40 s.size).size = s.size - 40 := by rw [ByteArray.size_extract]; omega
                refine a_pure (v := .string (s.extract 40 s.size)) 7 rfl (wt0 rfl) rfl rfl rfl (by kernel_rfl) (by kernel_rfl) (by kernel_rfl) (.inr fun _ => trivial) (fun wx => x_slices 40 s.size rfl rfl Try.underlying9 (.inr ⟨_, _, _, rfl, rfl, by omega⟩) (.inl ⟨rfl, rfl⟩) (by omega)) ?_
                refine a_pure (v := .string s) 9 rfl (wt0 rfl) rfl rfl rfl (by kernel_rfl) (by kernel_rfl) (by kernel_rfl) (.inr fun _ => trivial) (fun wx => x_move rfl rfl) ?_
                have hsz92 : (s.extract 44 s.size).size = s.size - 44 := by rw [ByteArray.size_extract]; omega
                refine a_pure (v := .string (s.extract 44 s.size)) 10 rfl (wt0 rfl) rfl rfl rfl (by kernel_rfl) (by kernel_rfl) (by kernel_rfl) (.inr fun _ => trivial) (fun wx => x_slices 44 s.size rfl rfl Try.underlying9 (.inr ⟨_, _, _, rfl, rfl, by omega⟩) (.inl ⟨rfl, rfl⟩) (by omega)) ?_
                refine a_one (i := 2) (by kernel_rfl) rfl ?_
                have := rd4_lt (s.extract 32 s.size)
                refine s_call (wt0 rfl) (x_call' rfl rfl cl57) (read4_r _ (by omega) _) ?_
                rintro _ _ ⟨rfl, rfl⟩
                refine b_ret rfl rfl ?_
                refine a_k trivial ?_
                refine a_pure (v := .pointer (some ⟨g4, 4, none⟩)) 12 rfl (wt0 rfl) rfl rfl rfl (by kernel_rfl) (by kernel_rfl) (by kernel_rfl) (.inr fun _ => trivial) (fun wx => x_fieldAddr rfl rfl fo33_4 rfl) ?_
                refine a_one (i := 5) (by kernel_rfl) rfl ?_
                have := rd4_lt (s.extract 36 s.size)
                refine s_call (wt0 rfl) (x_call' rfl rfl cl57) (read4_r _ (by omega) _) ?_
                rintro _ _ ⟨rfl, rfl⟩
                refine b_ret rfl rfl ?_
                refine a_k trivial ?_
                refine a_one (i := 8) (by kernel_rfl) rfl ?_
                have := rd4_lt (s.extract 40 s.size)
                refine s_call (wt0 rfl) (x_call' rfl rfl cl57) (read4_r _ (by omega) _) ?_
                rintro _ _ ⟨rfl, rfl⟩
                refine b_ret rfl rfl ?_
                refine a_k trivial ?_
                refine a_one (i := 11) (by kernel_rfl) rfl ?_
                have := rd4_lt (s.extract 44 s.size)
                refine s_call (wt0 rfl) (x_call' rfl rfl cl57) (read4_r _ (by omega) _) ?_
                rintro _ _ ⟨rfl, rfl⟩
                refine b_ret rfl rfl ?_
                refine a_k trivial ?_
                refine a_one (i := 13) (by kernel_rfl) rfl ?_
                refine s_store H88 0 (wt0 rfl) rfl rfl rfl rfl rfl sz3 rfl rfl (cs' := #[.int .i64 k, .int .i64 0, .int .i64 0, .int .i64 0, .int .i64 ((rd4 (s.extract 32 s.size) : Int)), .int .i64 0, .string (s.extract 0 32), .string (⟨#[]⟩)]) rfl ?_
                intro wq101 (H102 : S wq101 [Ob g4 (.cells #[.int .i64 k, .int .i64 0, .int .i64 0, .int .i64 0, .int .i64 ((rd4 (s.extract 32 s.size) : Int)), .int .i64 0, .string (s.extract 0 32), .string (⟨#[]⟩)] 33 (0, 0)), Ob g1 (.cells #[.int .i64 0, .int .i64 0, .int .i64 0, .int .i64 0, .int .i64 0, .int .i64 0, .string (⟨#[]⟩), .string (⟨#[]⟩)] 33 (0, 0)), Old w no])
                refine a_k trivial ?_
                refine a_pure (v := .pointer (some ⟨g4, 1, none⟩)) 14 rfl (wt0 rfl) rfl rfl rfl (by kernel_rfl) (by kernel_rfl) (by kernel_rfl) (.inr fun _ => trivial) (fun wx => x_fieldAddr rfl rfl fo33_1 rfl) ?_
                refine a_one (i := 15) (by kernel_rfl) rfl ?_
                refine s_store H102 0 (wt0 rfl) rfl rfl rfl rfl rfl sz3 rfl rfl (cs' := #[.int .i64 k, .int .i64 ((rd4 (s.extract 36 s.size) : Int)), .int .i64 0, .int .i64 0, .int .i64 ((rd4 (s.extract 32 s.size) : Int)), .int .i64 0, .string (s.extract 0 32), .string (⟨#[]⟩)]) rfl ?_
                intro wq103 (H104 : S wq103 [Ob g4 (.cells #[.int .i64 k, .int .i64 ((rd4 (s.extract 36 s.size) : Int)), .int .i64 0, .int .i64 0, .int .i64 ((rd4 (s.extract 32 s.size) : Int)), .int .i64 0, .string (s.extract 0 32), .string (⟨#[]⟩)] 33 (0, 0)), Ob g1 (.cells #[.int .i64 0, .int .i64 0, .int .i64 0, .int .i64 0, .int .i64 0, .int .i64 0, .string (⟨#[]⟩), .string (⟨#[]⟩)] 33 (0, 0)), Old w no])
                refine a_k trivial ?_
                refine a_pure (v := .pointer (some ⟨g4, 3, none⟩)) 16 rfl (wt0 rfl) rfl rfl rfl (by kernel_rfl) (by kernel_rfl) (by kernel_rfl) (.inr fun _ => trivial) (fun wx => x_fieldAddr rfl rfl fo33_3 rfl) ?_
                refine a_one (i := 17) (by kernel_rfl) rfl ?_
                refine s_store H104 0 (wt0 rfl) rfl rfl rfl rfl rfl sz3 rfl rfl (cs' := #[.int .i64 k, .int .i64 ((rd4 (s.extract 36 s.size) : Int)), .int .i64 0, .int .i64 ((rd4 (s.extract 40 s.size) : Int)), .int .i64 ((rd4 (s.extract 32 s.size) : Int)), .int .i64 0, .string (s.extract 0 32), .string (⟨#[]⟩)]) rfl ?_
                intro wq105 (H106 : S wq105 [Ob g4 (.cells #[.int .i64 k, .int .i64 ((rd4 (s.extract 36 s.size) : Int)), .int .i64 0, .int .i64 ((rd4 (s.extract 40 s.size) : Int)), .int .i64 ((rd4 (s.extract 32 s.size) : Int)), .int .i64 0, .string (s.extract 0 32), .string (⟨#[]⟩)] 33 (0, 0)), Ob g1 (.cells #[.int .i64 0, .int .i64 0, .int .i64 0, .int .i64 0, .int .i64 0, .int .i64 0, .string (⟨#[]⟩), .string (⟨#[]⟩)] 33 (0, 0)), Old w no])
                refine a_k trivial ?_
                refine a_pure (v := .pointer (some ⟨g4, 5, none⟩)) 18 rfl (wt0 rfl) rfl rfl rfl (by kernel_rfl) (by kernel_rfl) (by kernel_rfl) (.inr fun _ => trivial) (fun wx => x_fieldAddr rfl rfl fo33_5 rfl) ?_
                refine a_one (i := 19) (by kernel_rfl) rfl ?_
                refine s_store H106 0 (wt0 rfl) rfl rfl rfl rfl rfl sz3 rfl rfl (cs' := #[.int .i64 k, .int .i64 ((rd4 (s.extract 36 s.size) : Int)), .int .i64 0, .int .i64 ((rd4 (s.extract 40 s.size) : Int)), .int .i64 ((rd4 (s.extract 32 s.size) : Int)), .int .i64 ((rd4 (s.extract 44 s.size) : Int)), .string (s.extract 0 32), .string (⟨#[]⟩)]) rfl ?_
                intro wq107 (H108 : S wq107 [Ob g4 (.cells #[.int .i64 k, .int .i64 ((rd4 (s.extract 36 s.size) : Int)), .int .i64 0, .int .i64 ((rd4 (s.extract 40 s.size) : Int)), .int .i64 ((rd4 (s.extract 32 s.size) : Int)), .int .i64 ((rd4 (s.extract 44 s.size) : Int)), .string (s.extract 0 32), .string (⟨#[]⟩)] 33 (0, 0)), Ob g1 (.cells #[.int .i64 0, .int .i64 0, .int .i64 0, .int .i64 0, .int .i64 0, .int .i64 0, .string (⟨#[]⟩), .string (⟨#[]⟩)] 33 (0, 0)), Old w no])
                refine a_k trivial ?_
                refine a_done (by kernel_rfl) ?_
                refine g_then ?_
                refine g_weak [(1, .string s), (4, .pointer (some ⟨g1, 0, none⟩)), (5, .pointer (some ⟨g4, 0, none⟩))] ⟨rfl, rfl, rfl, trivial⟩ ?_
                refine g_region ?_
                refine l_of (s_val (v := .string s) (wt0 rfl) rfl rfl (x_move rfl rfl) ?_)
                have hsz109 : (s.extract 48 s.size).size = s.size - 48 := by rw [ByteArray.size_extract]; omega
                refine l_of (s_val (v := .string (s.extract 48 s.size)) (wt0 rfl) rfl rfl (x_slices 48 s.size rfl rfl Try.underlying9 (.inr ⟨_, _, _, rfl, rfl, by omega⟩) (.inl ⟨rfl, rfl⟩) (by omega)) ?_)
                refine l_of (s_val (v := .pointer (some ⟨g4, 7, none⟩)) (wt0 rfl) rfl rfl (x_fieldAddr rfl rfl fo33_7 rfl) ?_)
                refine l_of (s_store H108 0 (wt0 rfl) rfl rfl rfl rfl rfl sz9 rfl rfl (cs' := #[.int .i64 k, .int .i64 ((rd4 (s.extract 36 s.size) : Int)), .int .i64 0, .int .i64 ((rd4 (s.extract 40 s.size) : Int)), .int .i64 ((rd4 (s.extract 32 s.size) : Int)), .int .i64 ((rd4 (s.extract 44 s.size) : Int)), .string (s.extract 0 32), .string (s.extract 48 s.size)]) rfl ?_)
                intro wq110 (H111 : S wq110 [Ob g4 (.cells #[.int .i64 k, .int .i64 ((rd4 (s.extract 36 s.size) : Int)), .int .i64 0, .int .i64 ((rd4 (s.extract 40 s.size) : Int)), .int .i64 ((rd4 (s.extract 32 s.size) : Int)), .int .i64 ((rd4 (s.extract 44 s.size) : Int)), .string (s.extract 0 32), .string (s.extract 48 s.size)] 33 (0, 0)), Ob g1 (.cells #[.int .i64 0, .int .i64 0, .int .i64 0, .int .i64 0, .int .i64 0, .int .i64 0, .string (⟨#[]⟩), .string (⟨#[]⟩)] 33 (0, 0)), Old w no])
                refine g_nil ?_
                refine g_in ?_
                refine g_then ?_
                refine g_seq ?_
                refine g_region ?_
                refine l_of (s_val (v := .agg #[.int .i64 k, .int .i64 ((rd4 (s.extract 36 s.size) : Int)), .int .i64 0, .int .i64 ((rd4 (s.extract 40 s.size) : Int)), .int .i64 ((rd4 (s.extract 32 s.size) : Int)), .int .i64 ((rd4 (s.extract 44 s.size) : Int)), .string (s.extract 0 32), .string (s.extract 48 s.size)]) (wt0 rfl) rfl rfl (x_loadA H111 0 rfl rfl Try.underlying33 rfl sz33 rfl rfl rfl) ?_)
                refine l_of (s_store H111 1 (wt0 rfl) rfl rfl rfl rfl rfl sz33 rfl rfl (cs' := #[.int .i64 k, .int .i64 ((rd4 (s.extract 36 s.size) : Int)), .int .i64 0, .int .i64 ((rd4 (s.extract 40 s.size) : Int)), .int .i64 ((rd4 (s.extract 32 s.size) : Int)), .int .i64 ((rd4 (s.extract 44 s.size) : Int)), .string (s.extract 0 32), .string (s.extract 48 s.size)]) rfl ?_)
                intro wq112 (H113 : S wq112 [Ob g4 (.cells #[.int .i64 k, .int .i64 ((rd4 (s.extract 36 s.size) : Int)), .int .i64 0, .int .i64 ((rd4 (s.extract 40 s.size) : Int)), .int .i64 ((rd4 (s.extract 32 s.size) : Int)), .int .i64 ((rd4 (s.extract 44 s.size) : Int)), .string (s.extract 0 32), .string (s.extract 48 s.size)] 33 (0, 0)), Ob g1 (.cells #[.int .i64 k, .int .i64 ((rd4 (s.extract 36 s.size) : Int)), .int .i64 0, .int .i64 ((rd4 (s.extract 40 s.size) : Int)), .int .i64 ((rd4 (s.extract 32 s.size) : Int)), .int .i64 ((rd4 (s.extract 44 s.size) : Int)), .string (s.extract 0 32), .string (s.extract 48 s.size)] 33 (0, 0)), Old w no])
                refine g_nil ?_
                refine g_then ?_
                refine g_ret ?_
                refine fin_ret [.cell 4 33] [.agg #[.int .i64 k, .int .i64 ((rd4 (s.extract 36 s.size) : Int)), .int .i64 0, .int .i64 ((rd4 (s.extract 40 s.size) : Int)), .int .i64 ((rd4 (s.extract 32 s.size) : Int)), .int .i64 ((rd4 (s.extract 44 s.size) : Int)), .string (s.extract 0 32), .string (s.extract 48 s.size)]] rfl ⟨⟨_, rfl, run_loadA (H113.ob (k := 1) rfl) Try.underlying33 rfl sz33 rfl rfl⟩, trivial⟩ ?_
                exact ⟨by simp only [takenP, tupled, hb11, if_neg hb18, hb25, if_neg hb44, if_neg hb61, if_neg hb70, hb83, if_true, Bool.false_eq_true, if_false, M.cells], H113.mask [false, false, true]⟩
              · skip
                refine g_cond_f rfl hb83 ?_
                refine g_skip ?_
                refine g_in ?_
                refine g_then ?_
                refine g_weak [(4, .pointer (some ⟨g1, 0, none⟩)), (5, .pointer (some ⟨g4, 0, none⟩))] ⟨rfl, rfl, trivial⟩ ?_
                refine g_seq ?_
                refine g_region ?_
                refine l_of (s_val (v := .agg #[.int .i64 k, .int .i64 0, .int .i64 0, .int .i64 0, .int .i64 0, .int .i64 0, .string (⟨#[]⟩), .string (⟨#[]⟩)]) (wt0 rfl) rfl rfl (x_loadA H8 0 rfl rfl Try.underlying33 rfl sz33 rfl rfl rfl) ?_)
                refine l_of (s_store H8 1 (wt0 rfl) rfl rfl rfl rfl rfl sz33 rfl rfl (cs' := #[.int .i64 k, .int .i64 0, .int .i64 0, .int .i64 0, .int .i64 0, .int .i64 0, .string (⟨#[]⟩), .string (⟨#[]⟩)]) rfl ?_)
                intro wq114 (H115 : S wq114 [Ob g4 (.cells #[.int .i64 k, .int .i64 0, .int .i64 0, .int .i64 0, .int .i64 0, .int .i64 0, .string (⟨#[]⟩), .string (⟨#[]⟩)] 33 (0, 0)), Ob g1 (.cells #[.int .i64 k, .int .i64 0, .int .i64 0, .int .i64 0, .int .i64 0, .int .i64 0, .string (⟨#[]⟩), .string (⟨#[]⟩)] 33 (0, 0)), Old w no])
                refine g_nil ?_
                refine g_then ?_
                refine g_ret ?_
                refine fin_ret [.cell 4 33] [.agg #[.int .i64 k, .int .i64 0, .int .i64 0, .int .i64 0, .int .i64 0, .int .i64 0, .string (⟨#[]⟩), .string (⟨#[]⟩)]] rfl ⟨⟨_, rfl, run_loadA (H115.ob (k := 1) rfl) Try.underlying33 rfl sz33 rfl rfl⟩, trivial⟩ ?_
                exact ⟨by simp only [takenP, tupled, hb11, if_neg hb18, hb25, if_neg hb44, if_neg hb61, if_neg hb70, hb83, if_true, Bool.false_eq_true, if_false, M.cells], H115.mask [false, false, true]⟩
end Go.Proofs.Ytcjmdkklbbollaa
