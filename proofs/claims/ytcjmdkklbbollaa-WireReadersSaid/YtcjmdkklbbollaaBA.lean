import Derived.Test.YtcjmdkklbbollaaAZ
set_option linter.unusedSimpArgs false
set_option linter.unusedVariables false
namespace Go.Proofs.Ytcjmdkklbbollaa
open Go.RowKit

theorem cl14 : callable Try.prog 14 = true := by kernel_rfl
theorem cl21 : callable Try.prog 21 = true := by kernel_rfl
theorem fo113_0 : foO Try.prog 113 0 = some 0 := by kernel_rfl
theorem fo113_1 : foO Try.prog 113 1 = some 1 := by kernel_rfl
theorem fo62_0 : foO Try.prog 62 0 = some 0 := by kernel_rfl
theorem fo62_1 : foO Try.prog 62 1 = some 5 := by kernel_rfl
theorem fo62_2 : foO Try.prog 62 2 = some 6 := by kernel_rfl
theorem fo62_3 : foO Try.prog 62 3 = some 7 := by kernel_rfl
theorem fo62_4 : foO Try.prog 62 4 = some 8 := by kernel_rfl
theorem fo62_5 : foO Try.prog 62 5 = some 9 := by kernel_rfl
theorem sz62 : szO Try.prog 62 = some 10 := by kernel_rfl
theorem ze23 : zeO Try.prog 23 = some (.agg #[.bool false, .bool false, .bool false, .string (⟨#[]⟩), .string (⟨#[]⟩)]) := by kernel_rfl
theorem ze62 : zeO Try.prog 62 = some (.agg #[.bool false, .bool false, .bool false, .string (⟨#[]⟩), .string (⟨#[]⟩), .bool false, .slice none 0 0, .slice none 0 0, .int .i64 0, .int .i64 0]) := by kernel_rfl
theorem len_snoc {α : Type} (l : List α) (x : α) : (l ++ [x]).length = l.length + 1 := by simp
set_option maxRecDepth 20000 in
set_option maxHeartbeats 4000000 in
set_option maxRecDepth 20000 in
set_option maxHeartbeats 4000000 in
theorem whole_p (gw : Nat) (g : Bool) (fed : ByteArray) (hf : fed.size ≤ 1099511627776) (w : World) (hc0 : w.cell? ⟨gw, 0, none⟩ = some (.bool g)) (hc1 : w.cell? ⟨gw, 1, none⟩ = some (.string fed)) :
    Calls Try.prog 38 #[.pointer (some ⟨gw, 0, none⟩)] w fun e w' => ∃ p1 c1 p2 c2, e = .returned (.agg ((wholeR g fed).cells p1 c1 p2 c2)) ∧ S w' (whL (wholeR g fed) p1 c1 p2 c2 ++ [Old w no]) := by
  have H0 := S.old w
  have hhz : (helloA fed).size ≤ 68 := by rw [ByteArray.size_extract]; omega
  have hhu := read_used (helloA fed) (by omega)
  have hhl : (helloA fed).size ≤ fed.size := by rw [ByteArray.size_extract]; omega
  refine enter 95 Try.func38 rfl rfl rfl ?_
  refine g_weak [(0, .pointer (some ⟨gw, 0, none⟩))] ⟨rfl, trivial⟩ ?_
  refine g_seq ?_
  refine g_region ?_
  refine l_of (s_alloc H0 (wt0 rfl) rfl rfl rfl ze62 ?_)
  intro g1 wq2 H3
  refine g_nil ?_
  refine g_then ?_
  refine g_seq ?_
  refine g_region ?_
  refine l_of (s_val (v := .agg #[.bool false, .bool false, .bool false, .string (⟨#[]⟩), .string (⟨#[]⟩), .bool false, .slice none 0 0, .slice none 0 0, .int .i64 0, .int .i64 (-1)]) (wt0 rfl) rfl rfl (x_build (vs := [.int .i64 (-1)]) rfl rfl (cells := #[.bool false, .bool false, .bool false, .string (⟨#[]⟩), .string (⟨#[]⟩), .bool false, .slice none 0 0, .slice none 0 0, .int .i64 0, .int .i64 (-1)]) (by kernel_rfl)) ?_)
  refine l_of (s_alloc H3 (wt0 rfl) rfl rfl rfl ze62 ?_)
  intro g4 wq5 H6
  refine l_of (s_store H6 0 (wt0 rfl) rfl rfl rfl rfl rfl sz62 rfl rfl (cs' := #[.bool false, .bool false, .bool false, .string (⟨#[]⟩), .string (⟨#[]⟩), .bool false, .slice none 0 0, .slice none 0 0, .int .i64 0, .int .i64 (-1)]) rfl ?_)
  intro wq7 H8
  refine g_nil ?_
  refine g_then ?_
  refine g_seq ?_
  refine g_region ?_
  have H9 : S wq7 [Rw 33 8 none 0 0 [], Rw 3 1 none 0 0 [], Ob g4 (.cells #[.bool false, .bool false, .bool false, .string (⟨#[]⟩), .string (⟨#[]⟩), .bool false, .slice none 0 0, .slice none 0 0, .int .i64 0, .int .i64 (-1)] 62 (0, 0)), Ob g1 (.cells #[.bool false, .bool false, .bool false, .string (⟨#[]⟩), .string (⟨#[]⟩), .bool false, .slice none 0 0, .slice none 0 0, .int .i64 0, .int .i64 0] 62 (0, 0)), Old w no] := (H8.nilRw 3 1).nilRw 33 8
  refine l_of (s_val (v := .int .i64 0) (wt0 rfl) rfl rfl (x_assign rfl rfl) ?_)
  refine g_nil ?_
  refine g_then ?_
  refine g_seq ?_
  refine g_seq ?_
  refine g_region ?_
  refine l_of (s_val (v := .pointer (some ⟨gw, 0, none⟩)) (wt0 rfl) rfl rfl (x_move rfl rfl) ?_)
  refine l_of (s_val (v := .pointer (some ⟨gw, 0, none⟩)) (wt0 rfl) rfl rfl (x_nilCheck rfl rfl) ?_)
  refine l_of (s_val (v := .pointer (some ⟨gw, 0, none⟩)) (wt0 rfl) rfl rfl (x_fieldAddr rfl rfl fo113_0 rfl) ?_)
  refine l_of (s_val (v := .bool g) (wt0 rfl) rfl rfl (x_loadC rfl rfl Try.underlying4 rfl (H9.oldCell (k := 4) rfl hc0 id)) ?_)
  refine g_nil ?_
  refine g_then ?_
  rcases Bool.eq_false_or_eq_true (g) with hb10 | hb10
  · skip
    refine g_cond_t rfl hb10 ?_
    refine g_seq ?_
    refine g_anyY [] (fun wx => S wx [Rw 33 8 none 0 0 [], Rw 3 1 none 0 0 [], Ob g4 (.cells #[.bool false, .bool false, .bool false, .string (⟨#[]⟩), .string (⟨#[]⟩), .bool false, .slice none 0 0, .slice none 0 0, .int .i64 0, .int .i64 (-1)] 62 (0, 0)), Ob g1 (.cells #[.bool false, .bool false, .bool false, .string (⟨#[]⟩), .string (⟨#[]⟩), .bool false, .slice none 0 0, .slice none 0 0, .int .i64 0, .int .i64 0] 62 (0, 0)), Old w no]) (fun wx => S wx [Rw 33 8 none 0 0 [], Rw 3 1 none 0 0 [], Ob g4 (.cells #[.bool false, .bool false, .bool false, .string (⟨#[]⟩), .string (⟨#[]⟩), .bool false, .slice none 0 0, .slice none 0 0, .int .i64 0, .int .i64 (-1)] 62 (0, 0)), Ob g1 (.cells #[.bool false, .bool false, .bool false, .string (⟨#[]⟩), .string (⟨#[]⟩), .bool false, .slice none 0 0, .slice none 0 0, .int .i64 0, .int .i64 0] 62 (0, 0)), Old w no]) [] (by kernel_rfl) H9 (fun wq11 H12 => ?_)
    refine y_pure (v := .pointer (some ⟨gw, 0, none⟩)) 0 rfl (wt0 rfl) rfl rfl rfl (by kernel_rfl) (by kernel_rfl) (by kernel_rfl) (by kernel_rfl) (fun wx => x_move rfl rfl) ?_
    refine y_pure (v := .pointer (some ⟨gw, 0, none⟩)) 1 rfl (wt0 rfl) rfl rfl rfl (by kernel_rfl) (by kernel_rfl) (by kernel_rfl) (by kernel_rfl) (fun wx => x_nilCheck rfl rfl) ?_
    refine y_pure (v := .pointer (some ⟨gw, 1, none⟩)) 2 rfl (wt0 rfl) rfl rfl rfl (by kernel_rfl) (by kernel_rfl) (by kernel_rfl) (by kernel_rfl) (fun wx => x_fieldAddr rfl rfl fo113_1 rfl) ?_
    refine y_take (v := .string fed) 3 rfl (wt0 rfl) rfl rfl rfl (by kernel_rfl) (by kernel_rfl) (by kernel_rfl) (by kernel_rfl) (by kernel_rfl) H12 (fun wx H => x_loadC rfl rfl Try.underlying9 rfl (H.oldCell (k := 4) rfl hc1 id)) ?_
    refine y_pure (v := .pointer (some ⟨gw, 0, none⟩)) 4 rfl (wt0 rfl) rfl rfl rfl (by kernel_rfl) (by kernel_rfl) (by kernel_rfl) (by kernel_rfl) (fun wx => x_move rfl rfl) ?_
    refine y_pure (v := .pointer (some ⟨gw, 0, none⟩)) 5 rfl (wt0 rfl) rfl rfl rfl (by kernel_rfl) (by kernel_rfl) (by kernel_rfl) (by kernel_rfl) (fun wx => x_nilCheck rfl rfl) ?_
    refine y_pure (v := .pointer (some ⟨gw, 1, none⟩)) 6 rfl (wt0 rfl) rfl rfl rfl (by kernel_rfl) (by kernel_rfl) (by kernel_rfl) (by kernel_rfl) (fun wx => x_fieldAddr rfl rfl fo113_1 rfl) ?_
    refine y_take (v := .string fed) 7 rfl (wt0 rfl) rfl rfl rfl (by kernel_rfl) (by kernel_rfl) (by kernel_rfl) (by kernel_rfl) (by kernel_rfl) H12 (fun wx H => x_loadC rfl rfl Try.underlying9 rfl (H.oldCell (k := 4) rfl hc1 id)) ?_
    refine y_pure (v := .int .i64 ((fed.size : Int))) 8 rfl (wt0 rfl) rfl rfl rfl (by kernel_rfl) (by kernel_rfl) (by kernel_rfl) (by kernel_rfl) (fun wx => x_lens rfl rfl Try.underlying9) ?_
    refine y_pure (v := .int .i64 (min (fed.size : Int) 68)) 9 rfl (wt0 rfl) rfl rfl rfl (by kernel_rfl) (by kernel_rfl) (by kernel_rfl) (by kernel_rfl) (fun wx => x_min rfl rfl rfl) ?_
    have hsz13 : (fed.extract 0 ((min (fed.size : Int) 68).toNat)).size = (min (fed.size : Int) 68).toNat - 0 := by rw [ByteArray.size_extract]; omega
    refine y_pure (v := .string (fed.extract 0 ((min (fed.size : Int) 68).toNat))) 10 rfl (wt0 rfl) rfl rfl rfl (by kernel_rfl) (by kernel_rfl) (by kernel_rfl) (by kernel_rfl) (fun wx => x_slices 0 ((min (fed.size : Int) 68).toNat) rfl rfl Try.underlying9 (.inl ⟨rfl, rfl⟩) (.inr ⟨_, _, _, rfl, rfl, by omega⟩) (by omega)) ?_
    refine y_two (i := 11) (j := 17) (by kernel_rfl) rfl rfl ?_ ?_
    · skip
      refine s_call (wt0 rfl) (x_call' rfl rfl cl14) (readHello_r _ _) ?_
      rintro _ wq14 ⟨rfl, H15⟩
      replace H15 : S wq14 [Rw 33 8 none 0 0 [], Rw 3 1 none 0 0 [], Ob g4 (.cells #[.bool false, .bool false, .bool false, .string (⟨#[]⟩), .string (⟨#[]⟩), .bool false, .slice none 0 0, .slice none 0 0, .int .i64 0, .int .i64 (-1)] 62 (0, 0)), Ob g1 (.cells #[.bool false, .bool false, .bool false, .string (⟨#[]⟩), .string (⟨#[]⟩), .bool false, .slice none 0 0, .slice none 0 0, .int .i64 0, .int .i64 0] 62 (0, 0)), Old w no] := H12.absorb (new := []) (S.of_below H15)
      refine b_ret rfl rfl ?_
      refine y_k H15 H15 ?_
      refine y_pure (v := .tuple #[.agg #[.bool ((readR (helloA fed)).1.e), .bool ((readR (helloA fed)).1.f), .bool ((readR (helloA fed)).1.n), .string ((readR (helloA fed)).1.name), .string ((readR (helloA fed)).1.peer)], .int .i64 ((readR (helloA fed)).2.1), .int .i64 ((readR (helloA fed)).2.2.1), .int .i64 ((readR (helloA fed)).2.2.2)]) 12 rfl (wt0 rfl) rfl rfl rfl (by kernel_rfl) (by kernel_rfl) (by kernel_rfl) (by kernel_rfl) (fun wx => x_move rfl rfl) ?_
      refine y_pure (v := .agg #[.bool ((readR (helloA fed)).1.e), .bool ((readR (helloA fed)).1.f), .bool ((readR (helloA fed)).1.n), .string ((readR (helloA fed)).1.name), .string ((readR (helloA fed)).1.peer)]) 13 rfl (wt0 rfl) rfl rfl rfl (by kernel_rfl) (by kernel_rfl) (by kernel_rfl) (by kernel_rfl) (fun wx => x_extract rfl rfl rfl) ?_
      refine y_pure (v := .int .i64 ((readR (helloA fed)).2.1)) 14 rfl (wt0 rfl) rfl rfl rfl (by kernel_rfl) (by kernel_rfl) (by kernel_rfl) (by kernel_rfl) (fun wx => x_extract rfl rfl rfl) ?_
      refine y_pure (v := .int .i64 ((readR (helloA fed)).2.2.1)) 15 rfl (wt0 rfl) rfl rfl rfl (by kernel_rfl) (by kernel_rfl) (by kernel_rfl) (by kernel_rfl) (fun wx => x_extract rfl rfl rfl) ?_
      refine y_pure (v := .int .i64 ((readR (helloA fed)).2.2.2)) 16 rfl (wt0 rfl) rfl rfl rfl (by kernel_rfl) (by kernel_rfl) (by kernel_rfl) (by kernel_rfl) (fun wx => x_extract rfl rfl rfl) ?_
      refine y_one (i := 17) (by kernel_rfl) rfl ?_
      refine s_alloc H15 (wt0 rfl) rfl rfl rfl ze23 ?_
      intro g16 wq17 H18
      refine y_k (H18.mask [false, true, true, true, true, true]) (H18.mask [false, true, true, true, true, true]) ?_
      refine y_one (i := 18) (by kernel_rfl) rfl ?_
      refine s_store H18 0 (wt0 rfl) rfl rfl rfl rfl rfl sz23 rfl rfl (cs' := #[.bool ((readR (helloA fed)).1.e), .bool ((readR (helloA fed)).1.f), .bool ((readR (helloA fed)).1.n), .string ((readR (helloA fed)).1.name), .string ((readR (helloA fed)).1.peer)]) rfl ?_
      intro wq19 H20
      refine y_k (H20.mask [false, true, true, true, true, true]) (H20.mask [false, true, true, true, true, true]) ?_
      refine y_pure (v := .int .i64 ((readR (helloA fed)).2.1)) 19 rfl (wt0 rfl) rfl rfl rfl (by kernel_rfl) (by kernel_rfl) (by kernel_rfl) (by kernel_rfl) (fun wx => x_assign rfl rfl) ?_
      refine y_pure (v := .int .i64 ((readR (helloA fed)).2.2.1)) 20 rfl (wt0 rfl) rfl rfl rfl (by kernel_rfl) (by kernel_rfl) (by kernel_rfl) (by kernel_rfl) (fun wx => x_assign rfl rfl) ?_
      refine y_pure (v := .int .i64 ((readR (helloA fed)).2.2.2)) 21 rfl (wt0 rfl) rfl rfl rfl (by kernel_rfl) (by kernel_rfl) (by kernel_rfl) (by kernel_rfl) (fun wx => x_assign rfl rfl) ?_
      refine y_done (by kernel_rfl) ?_
      refine g_then ?_
      refine g_weak [(0, .pointer (some ⟨gw, 0, none⟩)), (2, .pointer (some ⟨g1, 0, none⟩)), (3, .pointer (some ⟨g4, 0, none⟩)), (5, .pointer (some ⟨g16, 0, none⟩)), (6, .int .i64 ((readR (helloA fed)).2.1)), (7, .int .i64 ((readR (helloA fed)).2.2.1)), (8, .int .i64 ((readR (helloA fed)).2.2.2))] ⟨rfl, rfl, rfl, rfl, rfl, rfl, rfl, trivial⟩ ?_
      refine g_seq ?_
      refine g_seq ?_
      refine g_region ?_
      refine l_of (s_val (v := .int .i64 ((readR (helloA fed)).2.2.2)) (wt0 rfl) rfl rfl (x_move rfl rfl) ?_)
      refine l_of (s_val (v := .bool (decide (((readR (helloA fed)).2.2.2 : Int) = 12))) (wt0 rfl) rfl rfl (x_bin rfl rfl rfl b_eql) ?_)
      refine g_nil ?_
      refine g_then ?_
      by_cases hb21 : ((readR (helloA fed)).2.2.2 : Int) = 12
      · skip
        refine g_cond_t rfl (decide_eq_true hb21) ?_
        refine g_seq ?_
        refine g_region ?_
        refine l_of (s_val (v := .int .i64 ((readR (helloA fed)).2.2.1)) (wt0 rfl) rfl rfl (x_move rfl rfl) ?_)
        refine l_of (s_val (v := .pointer (some ⟨g4, 9, none⟩)) (wt0 rfl) rfl rfl (x_fieldAddr rfl rfl fo62_5 rfl) ?_)
        refine l_of (s_store H20 3 (wt0 rfl) rfl rfl rfl rfl rfl sz3 rfl rfl (cs' := #[.bool false, .bool false, .bool false, .string (⟨#[]⟩), .string (⟨#[]⟩), .bool false, .slice none 0 0, .slice none 0 0, .int .i64 0, .int .i64 ((readR (helloA fed)).2.2.1)]) rfl ?_)
        intro wq22 H23
        refine g_nil ?_
        refine g_then ?_
        refine g_seq ?_
        refine g_region ?_
        refine l_of (s_val (v := .agg #[.bool false, .bool false, .bool false, .string (⟨#[]⟩), .string (⟨#[]⟩), .bool false, .slice none 0 0, .slice none 0 0, .int .i64 0, .int .i64 ((readR (helloA fed)).2.2.1)]) (wt0 rfl) rfl rfl (x_loadA H23 3 rfl rfl Try.underlying62 rfl sz62 rfl rfl rfl) ?_)
        refine l_of (s_store H23 4 (wt0 rfl) rfl rfl rfl rfl rfl sz62 rfl rfl (cs' := #[.bool false, .bool false, .bool false, .string (⟨#[]⟩), .string (⟨#[]⟩), .bool false, .slice none 0 0, .slice none 0 0, .int .i64 0, .int .i64 ((readR (helloA fed)).2.2.1)]) rfl ?_)
        intro wq24 H25
        refine g_nil ?_
        refine g_then ?_
        refine g_ret ?_
        refine g_then_ret ?_
        refine g_then_ret ?_
        refine fin_ret [.cell 2 62] [.agg #[.bool false, .bool false, .bool false, .string (⟨#[]⟩), .string (⟨#[]⟩), .bool false, .slice none 0 0, .slice none 0 0, .int .i64 0, .int .i64 ((readR (helloA fed)).2.2.1)]] rfl ⟨⟨_, rfl, run_loadA (H25.ob (k := 4) rfl) Try.underlying62 rfl sz62 rfl rfl⟩, trivial⟩ ?_
        unfold wholeR
        rw [if_pos hb10, if_pos hb21]
        exact ⟨none, 0, none, 0, rfl, H25.mask [false, true, true, false, false, true]⟩
      · skip
        refine g_cond_f rfl (decide_eq_false hb21) ?_
        refine g_skip ?_
        refine g_then ?_
        refine g_seq ?_
        refine g_seq ?_
        refine g_region ?_
        refine l_of (s_val (v := .int .i64 ((readR (helloA fed)).2.2.2)) (wt0 rfl) rfl rfl (x_move rfl rfl) ?_)
        refine l_of (s_val (v := .bool (!decide (((readR (helloA fed)).2.2.2 : Int) = 0))) (wt0 rfl) rfl rfl (x_bin rfl rfl rfl b_neq) ?_)
        refine g_nil ?_
        refine g_then ?_
        by_cases hb26 : ((readR (helloA fed)).2.2.2 : Int) = 0
        · skip
          refine g_cond_f rfl (nf hb26) ?_
          refine g_skip ?_
          refine g_then ?_
          refine g_region ?_
          refine l_of (s_val (v := .agg #[.bool ((readR (helloA fed)).1.e), .bool ((readR (helloA fed)).1.f), .bool ((readR (helloA fed)).1.n), .string ((readR (helloA fed)).1.name), .string ((readR (helloA fed)).1.peer)]) (wt0 rfl) rfl rfl (x_loadA H20 0 rfl rfl Try.underlying23 rfl sz23 rfl rfl rfl) ?_)
          refine l_of (s_val (v := .int .i64 ((readR (helloA fed)).2.1)) (wt0 rfl) rfl rfl (x_move rfl rfl) ?_)
          refine l_of (s_val (v := .pointer (some ⟨g4, 0, none⟩)) (wt0 rfl) rfl rfl (x_fieldAddr rfl rfl fo62_0 rfl) ?_)
          refine l_of (s_store H20 3 (wt0 rfl) rfl rfl rfl rfl rfl sz23 rfl rfl (cs' := #[.bool ((readR (helloA fed)).1.e), .bool ((readR (helloA fed)).1.f), .bool ((readR (helloA fed)).1.n), .string ((readR (helloA fed)).1.name), .string ((readR (helloA fed)).1.peer), .bool false, .slice none 0 0, .slice none 0 0, .int .i64 0, .int .i64 (-1)]) rfl ?_)
          intro wq27 H28
          refine l_of (s_val (v := .pointer (some ⟨g4, 5, none⟩)) (wt0 rfl) rfl rfl (x_fieldAddr rfl rfl fo62_1 rfl) ?_)
          refine l_of (s_store H28 3 (wt0 rfl) rfl rfl rfl rfl rfl sz4 rfl rfl (cs' := #[.bool ((readR (helloA fed)).1.e), .bool ((readR (helloA fed)).1.f), .bool ((readR (helloA fed)).1.n), .string ((readR (helloA fed)).1.name), .string ((readR (helloA fed)).1.peer), .bool true, .slice none 0 0, .slice none 0 0, .int .i64 0, .int .i64 (-1)]) rfl ?_)
          intro wq29 H30
          refine l_of (s_val (v := .int .i64 ((readR (helloA fed)).2.1)) (wt0 rfl) rfl rfl (x_assign rfl rfl) ?_)
          refine g_nil ?_
          refine g_then ?_
          refine g_weak [(0, .pointer (some ⟨gw, 0, none⟩)), (2, .pointer (some ⟨g1, 0, none⟩)), (3, .pointer (some ⟨g4, 0, none⟩)), (4, .int .i64 ((readR (helloA fed)).2.1))] ⟨rfl, rfl, rfl, rfl, trivial⟩ ?_
          refine g_seq ?_
          refine g_region ?_
          refine l_of (s_val (v := .int .i64 ((readR (helloA fed)).2.1)) (wt0 rfl) rfl rfl (x_move rfl rfl) ?_)
          refine l_of (s_val (v := .pointer (some ⟨g4, 8, none⟩)) (wt0 rfl) rfl rfl (x_fieldAddr rfl rfl fo62_4 rfl) ?_)
          refine l_of (s_store H30 3 (wt0 rfl) rfl rfl rfl rfl rfl sz3 rfl rfl (cs' := #[.bool ((readR (helloA fed)).1.e), .bool ((readR (helloA fed)).1.f), .bool ((readR (helloA fed)).1.n), .string ((readR (helloA fed)).1.name), .string ((readR (helloA fed)).1.peer), .bool true, .slice none 0 0, .slice none 0 0, .int .i64 ((readR (helloA fed)).2.1), .int .i64 (-1)]) rfl ?_)
          intro wq31 H32
          refine g_nil ?_
          refine g_then ?_
          refine g_block ?_
          have hu68 := (hhu.2.1 hb26).1
          rw [hu68] at H32 ⊢
          refine g_loop (ι := Nat × Nat × List M × List Int × Option Addr × Nat × Option Addr × Nat) (fun (n, a, l, es, q1, d1, q2, d2) => [(0, .pointer (some ⟨gw, 0, none⟩)), (2, .pointer (some ⟨g1, 0, none⟩)), (3, .pointer (some ⟨g4, 0, none⟩)), (4, .int .i64 ((a : Int)))]) (fun (n, a, l, es, q1, d1, q2, d2) wx => (a ≤ fed.size) ∧ (readAll n fed a l es = readAll (fed.size + 1) fed 68 [] []) ∧ (fed.size - a < n) ∧ (l.length * 4 ≤ a ∧ es.length = l.length) ∧ S wx [Rw 33 8 q1 l.length d1 (msgsV l), Rw 3 1 q2 es.length d2 (zsV es), Ob g4 (.cells #[.bool ((readR (helloA fed)).1.e), .bool ((readR (helloA fed)).1.f), .bool ((readR (helloA fed)).1.n), .string ((readR (helloA fed)).1.name), .string ((readR (helloA fed)).1.peer), .bool true, .slice q1 l.length d1, .slice q2 es.length d2, .int .i64 68, .int .i64 (-1)] 62 (0, 0)), Ob g1 (.cells #[.bool false, .bool false, .bool false, .string (⟨#[]⟩), .string (⟨#[]⟩), .bool false, .slice none 0 0, .slice none 0 0, .int .i64 0, .int .i64 0] 62 (0, 0)), Old w no]) (fun (n, a, l, es, q1, d1, q2, d2) => n) (fed.size + 1, 68, [], [], none, 0, none, 0) ⟨rfl, rfl, rfl, rfl, trivial⟩ ⟨by omega, rfl, by omega, ⟨Nat.zero_le _, rfl⟩, (H32.mask [false, true, true, true, true, true])⟩ ?_
          rintro ⟨n, a, l, es, q1, d1, q2, d2⟩ wq33 ⟨ha, hst, hk, hll, H34⟩
          replace H34 : S wq33 [Rw 33 8 q1 l.length d1 (msgsV l), Rw 3 1 q2 es.length d2 (zsV es), Ob g4 (.cells #[.bool ((readR (helloA fed)).1.e), .bool ((readR (helloA fed)).1.f), .bool ((readR (helloA fed)).1.n), .string ((readR (helloA fed)).1.name), .string ((readR (helloA fed)).1.peer), .bool true, .slice q1 l.length d1, .slice q2 es.length d2, .int .i64 68, .int .i64 (-1)] 62 (0, 0)), Ob g1 (.cells #[.bool false, .bool false, .bool false, .string (⟨#[]⟩), .string (⟨#[]⟩), .bool false, .slice none 0 0, .slice none 0 0, .int .i64 0, .int .i64 0] 62 (0, 0)), Old w no] := H34
          refine g_weak [(0, .pointer (some ⟨gw, 0, none⟩)), (2, .pointer (some ⟨g1, 0, none⟩)), (3, .pointer (some ⟨g4, 0, none⟩)), (4, .int .i64 ((a : Int)))] ⟨rfl, rfl, rfl, rfl, trivial⟩ ?_
          have hpz : (pieceA fed a).size ≤ 4204 := by rw [ByteArray.size_extract]; omega
          have hpl : (pieceA fed a).size ≤ fed.size - a := by rw [ByteArray.size_extract]; omega
          have hdu := dec_used (pieceA fed a) (by omega)
          refine g_block ?_
          refine g_seq ?_
          refine g_anyY [] (fun wx => S wx [Rw 33 8 q1 l.length d1 (msgsV l), Rw 3 1 q2 es.length d2 (zsV es), Ob g4 (.cells #[.bool ((readR (helloA fed)).1.e), .bool ((readR (helloA fed)).1.f), .bool ((readR (helloA fed)).1.n), .string ((readR (helloA fed)).1.name), .string ((readR (helloA fed)).1.peer), .bool true, .slice q1 l.length d1, .slice q2 es.length d2, .int .i64 68, .int .i64 (-1)] 62 (0, 0)), Ob g1 (.cells #[.bool false, .bool false, .bool false, .string (⟨#[]⟩), .string (⟨#[]⟩), .bool false, .slice none 0 0, .slice none 0 0, .int .i64 0, .int .i64 0] 62 (0, 0)), Old w no]) (fun wx => S wx [Rw 33 8 q1 l.length d1 (msgsV l), Rw 3 1 q2 es.length d2 (zsV es), Ob g4 (.cells #[.bool ((readR (helloA fed)).1.e), .bool ((readR (helloA fed)).1.f), .bool ((readR (helloA fed)).1.n), .string ((readR (helloA fed)).1.name), .string ((readR (helloA fed)).1.peer), .bool true, .slice q1 l.length d1, .slice q2 es.length d2, .int .i64 68, .int .i64 (-1)] 62 (0, 0)), Ob g1 (.cells #[.bool false, .bool false, .bool false, .string (⟨#[]⟩), .string (⟨#[]⟩), .bool false, .slice none 0 0, .slice none 0 0, .int .i64 0, .int .i64 0] 62 (0, 0)), Old w no]) [] (by kernel_rfl) H34 (fun wq35 H36 => ?_)
          refine y_pure (v := .pointer (some ⟨gw, 0, none⟩)) 0 rfl (wt0 rfl) rfl rfl rfl (by kernel_rfl) (by kernel_rfl) (by kernel_rfl) (by kernel_rfl) (fun wx => x_move rfl rfl) ?_
          refine y_pure (v := .pointer (some ⟨gw, 0, none⟩)) 1 rfl (wt0 rfl) rfl rfl rfl (by kernel_rfl) (by kernel_rfl) (by kernel_rfl) (by kernel_rfl) (fun wx => x_nilCheck rfl rfl) ?_
          refine y_pure (v := .pointer (some ⟨gw, 1, none⟩)) 2 rfl (wt0 rfl) rfl rfl rfl (by kernel_rfl) (by kernel_rfl) (by kernel_rfl) (by kernel_rfl) (fun wx => x_fieldAddr rfl rfl fo113_1 rfl) ?_
          refine y_take (v := .string fed) 3 rfl (wt0 rfl) rfl rfl rfl (by kernel_rfl) (by kernel_rfl) (by kernel_rfl) (by kernel_rfl) (by kernel_rfl) H36 (fun wx H => x_loadC rfl rfl Try.underlying9 rfl (H.oldCell (k := 4) rfl hc1 id)) ?_
          refine y_pure (v := .int .i64 ((a : Int))) 4 rfl (wt0 rfl) rfl rfl rfl (by kernel_rfl) (by kernel_rfl) (by kernel_rfl) (by kernel_rfl) (fun wx => x_move rfl rfl) ?_
          refine y_pure (v := .pointer (some ⟨gw, 0, none⟩)) 5 rfl (wt0 rfl) rfl rfl rfl (by kernel_rfl) (by kernel_rfl) (by kernel_rfl) (by kernel_rfl) (fun wx => x_move rfl rfl) ?_
          refine y_pure (v := .pointer (some ⟨gw, 0, none⟩)) 6 rfl (wt0 rfl) rfl rfl rfl (by kernel_rfl) (by kernel_rfl) (by kernel_rfl) (by kernel_rfl) (fun wx => x_nilCheck rfl rfl) ?_
          refine y_pure (v := .pointer (some ⟨gw, 1, none⟩)) 7 rfl (wt0 rfl) rfl rfl rfl (by kernel_rfl) (by kernel_rfl) (by kernel_rfl) (by kernel_rfl) (fun wx => x_fieldAddr rfl rfl fo113_1 rfl) ?_
          refine y_take (v := .string fed) 8 rfl (wt0 rfl) rfl rfl rfl (by kernel_rfl) (by kernel_rfl) (by kernel_rfl) (by kernel_rfl) (by kernel_rfl) H36 (fun wx H => x_loadC rfl rfl Try.underlying9 rfl (H.oldCell (k := 4) rfl hc1 id)) ?_
          refine y_pure (v := .int .i64 ((fed.size : Int))) 9 rfl (wt0 rfl) rfl rfl rfl (by kernel_rfl) (by kernel_rfl) (by kernel_rfl) (by kernel_rfl) (fun wx => x_lens rfl rfl Try.underlying9) ?_
          refine y_pure (v := .int .i64 ((a : Int))) 10 rfl (wt0 rfl) rfl rfl rfl (by kernel_rfl) (by kernel_rfl) (by kernel_rfl) (by kernel_rfl) (fun wx => x_move rfl rfl) ?_
          refine y_pure (v := .int .i64 ((a : Int) + 4200)) 11 rfl (wt0 rfl) rfl rfl rfl (by kernel_rfl) (by kernel_rfl) (by kernel_rfl) (by kernel_rfl) (fun wx => x_bin rfl rfl rfl (b_add (w64 (by omega)))) ?_
          refine y_pure (v := .int .i64 (((a : Int) + 4200) + 4)) 12 rfl (wt0 rfl) rfl rfl rfl (by kernel_rfl) (by kernel_rfl) (by kernel_rfl) (by kernel_rfl) (fun wx => x_bin rfl rfl rfl (b_add (w64 (by omega)))) ?_
          refine y_pure (v := .int .i64 (min (fed.size : Int) (((a : Int) + 4200) + 4))) 13 rfl (wt0 rfl) rfl rfl rfl (by kernel_rfl) (by kernel_rfl) (by kernel_rfl) (by kernel_rfl) (fun wx => x_min rfl rfl rfl) ?_
          have hsz37 : (fed.extract a ((min (fed.size : Int) (((a : Int) + 4200) + 4)).toNat)).size = (min (fed.size : Int) (((a : Int) + 4200) + 4)).toNat - a := by rw [ByteArray.size_extract]; omega
          refine y_pure (v := .string (fed.extract a ((min (fed.size : Int) (((a : Int) + 4200) + 4)).toNat))) 14 rfl (wt0 rfl) rfl rfl rfl (by kernel_rfl) (by kernel_rfl) (by kernel_rfl) (by kernel_rfl) (fun wx => x_slices a ((min (fed.size : Int) (((a : Int) + 4200) + 4)).toNat) rfl rfl Try.underlying9 (.inr ⟨_, _, _, rfl, rfl, by omega⟩) (.inr ⟨_, _, _, rfl, rfl, by omega⟩) (by omega)) ?_
          refine y_two (i := 15) (j := 21) (by kernel_rfl) rfl rfl ?_ ?_
          · skip
            refine s_call (wt0 rfl) (x_call' rfl rfl cl21) (decode_r _ _) ?_
            rintro _ wq38 ⟨rfl, H39⟩
            replace H39 : S wq38 [Rw 33 8 q1 l.length d1 (msgsV l), Rw 3 1 q2 es.length d2 (zsV es), Ob g4 (.cells #[.bool ((readR (helloA fed)).1.e), .bool ((readR (helloA fed)).1.f), .bool ((readR (helloA fed)).1.n), .string ((readR (helloA fed)).1.name), .string ((readR (helloA fed)).1.peer), .bool true, .slice q1 l.length d1, .slice q2 es.length d2, .int .i64 68, .int .i64 (-1)] 62 (0, 0)), Ob g1 (.cells #[.bool false, .bool false, .bool false, .string (⟨#[]⟩), .string (⟨#[]⟩), .bool false, .slice none 0 0, .slice none 0 0, .int .i64 0, .int .i64 0] 62 (0, 0)), Old w no] := H36.absorb (new := []) H39
            refine b_ret rfl rfl ?_
            refine y_k H39 H39 ?_
            refine y_pure (v := .tuple #[.agg (decS (pieceA fed a)).1.cells, .int .i64 ((decS (pieceA fed a)).2.1), .int .i64 ((decS (pieceA fed a)).2.2.1), .int .i64 ((decS (pieceA fed a)).2.2.2)]) 16 rfl (wt0 rfl) rfl rfl rfl (by kernel_rfl) (by kernel_rfl) (by kernel_rfl) (by kernel_rfl) (fun wx => x_move rfl rfl) ?_
            refine y_pure (v := .agg (decS (pieceA fed a)).1.cells) 17 rfl (wt0 rfl) rfl rfl rfl (by kernel_rfl) (by kernel_rfl) (by kernel_rfl) (by kernel_rfl) (fun wx => x_extract rfl rfl rfl) ?_
            refine y_pure (v := .int .i64 ((decS (pieceA fed a)).2.1)) 18 rfl (wt0 rfl) rfl rfl rfl (by kernel_rfl) (by kernel_rfl) (by kernel_rfl) (by kernel_rfl) (fun wx => x_extract rfl rfl rfl) ?_
            refine y_pure (v := .int .i64 ((decS (pieceA fed a)).2.2.1)) 19 rfl (wt0 rfl) rfl rfl rfl (by kernel_rfl) (by kernel_rfl) (by kernel_rfl) (by kernel_rfl) (fun wx => x_extract rfl rfl rfl) ?_
            refine y_pure (v := .int .i64 ((decS (pieceA fed a)).2.2.2)) 20 rfl (wt0 rfl) rfl rfl rfl (by kernel_rfl) (by kernel_rfl) (by kernel_rfl) (by kernel_rfl) (fun wx => x_extract rfl rfl rfl) ?_
            refine y_one (i := 21) (by kernel_rfl) rfl ?_
            refine s_alloc H39 (wt0 rfl) rfl rfl rfl ze33 ?_
            intro g40 wq41 H42
            refine y_k (H42.mask [false, true, true, true, true, true]) (H42.mask [false, true, true, true, true, true]) ?_
            refine y_one (i := 22) (by kernel_rfl) rfl ?_
            refine s_store H42 0 (wt0 rfl) rfl rfl rfl rfl rfl sz33 rfl rfl (cs' := (decS (pieceA fed a)).1.cells) rfl ?_
            intro wq43 H44
            refine y_k (H44.mask [false, true, true, true, true, true]) (H44.mask [false, true, true, true, true, true]) ?_
            refine y_pure (v := .int .i64 ((decS (pieceA fed a)).2.1)) 23 rfl (wt0 rfl) rfl rfl rfl (by kernel_rfl) (by kernel_rfl) (by kernel_rfl) (by kernel_rfl) (fun wx => x_assign rfl rfl) ?_
            refine y_pure (v := .int .i64 ((decS (pieceA fed a)).2.2.1)) 24 rfl (wt0 rfl) rfl rfl rfl (by kernel_rfl) (by kernel_rfl) (by kernel_rfl) (by kernel_rfl) (fun wx => x_assign rfl rfl) ?_
            refine y_pure (v := .int .i64 ((decS (pieceA fed a)).2.2.2)) 25 rfl (wt0 rfl) rfl rfl rfl (by kernel_rfl) (by kernel_rfl) (by kernel_rfl) (by kernel_rfl) (fun wx => x_assign rfl rfl) ?_
            refine y_done (by kernel_rfl) ?_
            refine g_then ?_
            refine g_weak [(0, .pointer (some ⟨gw, 0, none⟩)), (2, .pointer (some ⟨g1, 0, none⟩)), (3, .pointer (some ⟨g4, 0, none⟩)), (4, .int .i64 ((a : Int))), (9, .pointer (some ⟨g40, 0, none⟩)), (10, .int .i64 ((decS (pieceA fed a)).2.1)), (11, .int .i64 ((decS (pieceA fed a)).2.2.1)), (12, .int .i64 ((decS (pieceA fed a)).2.2.2))] ⟨rfl, rfl, rfl, rfl, rfl, rfl, rfl, rfl, trivial⟩ ?_
            refine g_seq ?_
            refine g_seq ?_
            refine g_region ?_
            refine l_of (s_val (v := .int .i64 ((decS (pieceA fed a)).2.2.2)) (wt0 rfl) rfl rfl (x_move rfl rfl) ?_)
            refine l_of (s_val (v := .bool (decide (((decS (pieceA fed a)).2.2.2 : Int) = 12))) (wt0 rfl) rfl rfl (x_bin rfl rfl rfl b_eql) ?_)
            refine g_nil ?_
            refine g_then ?_
            by_cases hb45 : ((decS (pieceA fed a)).2.2.2 : Int) = 12
            · skip
              skip
              refine g_cond_t rfl (decide_eq_true hb45) ?_
              refine g_seq ?_
              refine g_region ?_
              refine l_of (s_val (v := .int .i64 ((a : Int))) (wt0 rfl) rfl rfl (x_move rfl rfl) ?_)
              refine l_of (s_val (v := .int .i64 ((decS (pieceA fed a)).2.2.1)) (wt0 rfl) rfl rfl (x_move rfl rfl) ?_)
              refine l_of (s_val (v := .int .i64 ((a : Int) + ((decS (pieceA fed a)).2.2.1))) (wt0 rfl) rfl rfl (x_bin rfl rfl rfl (b_add (w64 (by omega)))) ?_)
              refine l_of (s_val (v := .pointer (some ⟨g4, 9, none⟩)) (wt0 rfl) rfl rfl (x_fieldAddr rfl rfl fo62_5 rfl) ?_)
              refine l_of (s_store H44 3 (wt0 rfl) rfl rfl rfl rfl rfl sz3 rfl rfl (cs' := #[.bool ((readR (helloA fed)).1.e), .bool ((readR (helloA fed)).1.f), .bool ((readR (helloA fed)).1.n), .string ((readR (helloA fed)).1.name), .string ((readR (helloA fed)).1.peer), .bool true, .slice q1 l.length d1, .slice q2 es.length d2, .int .i64 68, .int .i64 ((a : Int) + ((decS (pieceA fed a)).2.2.1))]) rfl ?_)
              intro wq46 H47
              refine g_nil ?_
              refine g_then ?_
              refine g_weak [(2, .pointer (some ⟨g1, 0, none⟩)), (3, .pointer (some ⟨g4, 0, none⟩))] ⟨rfl, rfl, trivial⟩ ?_
              refine g_seq ?_
              refine g_region ?_
              refine l_of (s_val (v := .agg #[.bool ((readR (helloA fed)).1.e), .bool ((readR (helloA fed)).1.f), .bool ((readR (helloA fed)).1.n), .string ((readR (helloA fed)).1.name), .string ((readR (helloA fed)).1.peer), .bool true, .slice q1 l.length d1, .slice q2 es.length d2, .int .i64 68, .int .i64 ((a : Int) + ((decS (pieceA fed a)).2.2.1))]) (wt0 rfl) rfl rfl (x_loadA H47 3 rfl rfl Try.underlying62 rfl sz62 rfl rfl rfl) ?_)
              refine l_of (s_store H47 4 (wt0 rfl) rfl rfl rfl rfl rfl sz62 rfl rfl (cs' := #[.bool ((readR (helloA fed)).1.e), .bool ((readR (helloA fed)).1.f), .bool ((readR (helloA fed)).1.n), .string ((readR (helloA fed)).1.name), .string ((readR (helloA fed)).1.peer), .bool true, .slice q1 l.length d1, .slice q2 es.length d2, .int .i64 68, .int .i64 ((a : Int) + ((decS (pieceA fed a)).2.2.1))]) rfl ?_)
              intro wq48 H49
              refine g_nil ?_
              refine g_then ?_
              refine g_ret ?_
              refine g_then_ret ?_
              refine g_in_ret ?_
              refine g_then_ret ?_
              refine g_in_ret ?_
              refine fin_ret [.cell 2 62] [.agg #[.bool ((readR (helloA fed)).1.e), .bool ((readR (helloA fed)).1.f), .bool ((readR (helloA fed)).1.n), .string ((readR (helloA fed)).1.name), .string ((readR (helloA fed)).1.peer), .bool true, .slice q1 l.length d1, .slice q2 es.length d2, .int .i64 68, .int .i64 ((a : Int) + ((decS (pieceA fed a)).2.2.1))]] rfl ⟨⟨_, rfl, run_loadA (H49.ob (k := 4) rfl) Try.underlying62 rfl sz62 rfl rfl⟩, trivial⟩ ?_
              unfold wholeR
              rw [if_pos hb10, if_neg hb21, if_pos hb26]
              rw [(hst.symm.trans (readAll_bad hk hb45))]
              exact ⟨q1, d1, q2, d2, rfl, H49.mask [false, true, true, false, false, true]⟩
            · skip
              skip
              refine g_cond_f rfl (decide_eq_false hb45) ?_
              refine g_skip ?_
              refine g_then ?_
              refine g_seq ?_
              refine g_seq ?_
              refine g_region ?_
              refine l_of (s_val (v := .int .i64 ((decS (pieceA fed a)).2.2.2)) (wt0 rfl) rfl rfl (x_move rfl rfl) ?_)
              refine l_of (s_val (v := .bool (!decide (((decS (pieceA fed a)).2.2.2 : Int) = 0))) (wt0 rfl) rfl rfl (x_bin rfl rfl rfl b_neq) ?_)
              refine g_nil ?_
              refine g_then ?_
              by_cases hb50 : ((decS (pieceA fed a)).2.2.2 : Int) = 0
              · skip
                skip
                refine g_cond_f rfl (nf hb50) ?_
                refine g_skip ?_
                refine g_then ?_
                refine g_seq ?_
                refine g_region ?_
                refine l_of (s_val (v := .int .i64 ((a : Int))) (wt0 rfl) rfl rfl (x_move rfl rfl) ?_)
                refine l_of (s_val (v := .int .i64 ((decS (pieceA fed a)).2.1)) (wt0 rfl) rfl rfl (x_move rfl rfl) ?_)
                refine l_of (s_val (v := .int .i64 ((a : Int) + ((decS (pieceA fed a)).2.1))) (wt0 rfl) rfl rfl (x_bin rfl rfl rfl (b_add (w64 (by omega)))) ?_)
                refine l_of (s_val (v := .int .i64 ((a : Int) + ((decS (pieceA fed a)).2.1))) (wt0 rfl) rfl rfl (x_assign rfl rfl) ?_)
                refine g_nil ?_
                refine g_then ?_
                refine g_seq ?_
                refine g_region ?_
                refine l_of (s_val (v := .pointer (some ⟨g4, 6, none⟩)) (wt0 rfl) rfl rfl (x_fieldAddr rfl rfl fo62_2 rfl) ?_)
                refine l_of (s_val (v := .slice q1 l.length d1) (wt0 rfl) rfl rfl (x_load1 H44 3 rfl rfl Try.underlying46 rfl rfl rfl) ?_)
                refine l_of (s_val (v := .agg (decS (pieceA fed a)).1.cells) (wt0 rfl) rfl rfl (x_loadA H44 0 rfl rfl Try.underlying33 rfl sz33 rfl rfl rfl) ?_)
                refine l_of (s_buildSlice H44 (wt0 rfl) rfl rfl rfl (vs := [.agg (decS (pieceA fed a)).1.cells]) rfl Try.underlying46 sz33 ze33 rfl rfl (cells := (decS (pieceA fed a)).1.cells) (by kernel_rfl) ?_)
                intro g51 wq52 H53
                refine l_of (s_appendR (n := l.length) (m := 1) (sc := d1) (xs := (msgsV l)) (news := ((decS (pieceA fed a)).1.cells).toList) (p := q1) (ad := ⟨g51, 0, none⟩) H53 2 (wt0 rfl) rfl rfl rfl rfl rfl rfl Try.underlying46 inf33 rfl (by decide) (by decide) rfl (by decide) (news_ob H53 (j0 := 0) rfl) rfl (by omega) ?_)
                intro p54 c55 wq56 (H57 : S wq56 [Ob g51 (.cells (decS (pieceA fed a)).1.cells 33 (0, 0)), Ob g40 (.cells (decS (pieceA fed a)).1.cells 33 (0, 0)), Rw 33 8 p54 (l.length + 1) c55 ((msgsV l) ++ ((decS (pieceA fed a)).1.cells).toList), Rw 3 1 q2 es.length d2 (zsV es), Ob g4 (.cells #[.bool ((readR (helloA fed)).1.e), .bool ((readR (helloA fed)).1.f), .bool ((readR (helloA fed)).1.n), .string ((readR (helloA fed)).1.name), .string ((readR (helloA fed)).1.peer), .bool true, .slice q1 l.length d1, .slice q2 es.length d2, .int .i64 68, .int .i64 (-1)] 62 (0, 0)), Ob g1 (.cells #[.bool false, .bool false, .bool false, .string (⟨#[]⟩), .string (⟨#[]⟩), .bool false, .slice none 0 0, .slice none 0 0, .int .i64 0, .int .i64 0] 62 (0, 0)), Old w no])
                refine l_of (s_val (v := .pointer (some ⟨g4, 6, none⟩)) (wt0 rfl) rfl rfl (x_fieldAddr rfl rfl fo62_2 rfl) ?_)
                refine l_of (s_store H57 4 (wt0 rfl) rfl rfl rfl rfl rfl sz46 rfl rfl (cs' := #[.bool ((readR (helloA fed)).1.e), .bool ((readR (helloA fed)).1.f), .bool ((readR (helloA fed)).1.n), .string ((readR (helloA fed)).1.name), .string ((readR (helloA fed)).1.peer), .bool true, .slice p54 (l.length + 1) c55, .slice q2 es.length d2, .int .i64 68, .int .i64 (-1)]) rfl ?_)
                intro wq58 H59
                refine g_nil ?_
                refine g_then ?_
                refine g_weak [(0, .pointer (some ⟨gw, 0, none⟩)), (2, .pointer (some ⟨g1, 0, none⟩)), (3, .pointer (some ⟨g4, 0, none⟩)), (4, .int .i64 ((a : Int) + ((decS (pieceA fed a)).2.1)))] ⟨rfl, rfl, rfl, rfl, trivial⟩ ?_
                refine g_region ?_
                refine l_of (s_val (v := .pointer (some ⟨g4, 7, none⟩)) (wt0 rfl) rfl rfl (x_fieldAddr rfl rfl fo62_3 rfl) ?_)
                refine l_of (s_val (v := .slice q2 es.length d2) (wt0 rfl) rfl rfl (x_load1 H59 4 rfl rfl Try.underlying60 rfl rfl rfl) ?_)
                refine l_of (s_val (v := .int .i64 ((a : Int) + ((decS (pieceA fed a)).2.1))) (wt0 rfl) rfl rfl (x_move rfl rfl) ?_)
                refine l_of (s_buildSlice H59 (wt0 rfl) rfl rfl rfl (vs := [.int .i64 ((a : Int) + ((decS (pieceA fed a)).2.1))]) rfl Try.underlying60 sz3 ze3 rfl rfl (cells := #[.int .i64 ((a : Int) + ((decS (pieceA fed a)).2.1))]) (by kernel_rfl) ?_)
                intro g60 wq61 H62
                refine l_of (s_appendR (n := es.length) (m := 1) (sc := d2) (xs := (zsV es)) (news := [.int .i64 ((a : Int) + ((decS (pieceA fed a)).2.1))]) (p := q2) (ad := ⟨g60, 0, none⟩) H62 4 (wt0 rfl) rfl rfl rfl rfl rfl rfl Try.underlying60 inf3 rfl (by decide) (by decide) rfl (by decide) (news_ob H62 (j0 := 0) rfl) rfl (by omega) ?_)
                intro p63 c64 wq65 (H66 : S wq65 [Ob g60 (.cells #[.int .i64 ((a : Int) + ((decS (pieceA fed a)).2.1))] 3 (0, 0)), Ob g51 (.cells (decS (pieceA fed a)).1.cells 33 (0, 0)), Ob g40 (.cells (decS (pieceA fed a)).1.cells 33 (0, 0)), Rw 33 8 p54 (l.length + 1) c55 ((msgsV l) ++ ((decS (pieceA fed a)).1.cells).toList), Rw 3 1 p63 (es.length + 1) c64 ((zsV es) ++ [.int .i64 ((a : Int) + ((decS (pieceA fed a)).2.1))]), Ob g4 (.cells #[.bool ((readR (helloA fed)).1.e), .bool ((readR (helloA fed)).1.f), .bool ((readR (helloA fed)).1.n), .string ((readR (helloA fed)).1.name), .string ((readR (helloA fed)).1.peer), .bool true, .slice p54 (l.length + 1) c55, .slice q2 es.length d2, .int .i64 68, .int .i64 (-1)] 62 (0, 0)), Ob g1 (.cells #[.bool false, .bool false, .bool false, .string (⟨#[]⟩), .string (⟨#[]⟩), .bool false, .slice none 0 0, .slice none 0 0, .int .i64 0, .int .i64 0] 62 (0, 0)), Old w no])
                refine l_of (s_val (v := .pointer (some ⟨g4, 7, none⟩)) (wt0 rfl) rfl rfl (x_fieldAddr rfl rfl fo62_3 rfl) ?_)
                refine l_of (s_store H66 5 (wt0 rfl) rfl rfl rfl rfl rfl sz60 rfl rfl (cs' := #[.bool ((readR (helloA fed)).1.e), .bool ((readR (helloA fed)).1.f), .bool ((readR (helloA fed)).1.n), .string ((readR (helloA fed)).1.name), .string ((readR (helloA fed)).1.peer), .bool true, .slice p54 (l.length + 1) c55, .slice p63 (es.length + 1) c64, .int .i64 68, .int .i64 (-1)]) rfl ?_)
                intro wq67 H68
                refine g_nil ?_
                refine g_in ?_
                refine g_then ?_
                have H69 : S wq67 [Rw 33 8 p54 (l.length + 1) c55 ((msgsV l) ++ ((decS (pieceA fed a)).1.cells).toList), Rw 3 1 p63 (es.length + 1) c64 ((zsV es) ++ [.int .i64 ((a : Int) + ((decS (pieceA fed a)).2.1))]), Ob g4 (.cells #[.bool ((readR (helloA fed)).1.e), .bool ((readR (helloA fed)).1.f), .bool ((readR (helloA fed)).1.n), .string ((readR (helloA fed)).1.name), .string ((readR (helloA fed)).1.peer), .bool true, .slice p54 (l.length + 1) c55, .slice p63 (es.length + 1) c64, .int .i64 68, .int .i64 (-1)] 62 (0, 0)), Ob g1 (.cells #[.bool false, .bool false, .bool false, .string (⟨#[]⟩), .string (⟨#[]⟩), .bool false, .slice none 0 0, .slice none 0 0, .int .i64 0, .int .i64 0] 62 (0, 0)), Old w no] := H68.mask [false, false, false, true, true, true, true, true]
                rw [← msgsV_snoc, ← zsV_snoc, ← len_snoc, ← len_snoc] at H69
                have hau : (a : Int) + (decS (pieceA fed a)).2.1 = ((a + (decS (pieceA fed a)).2.1.toNat : Nat) : Int) := by have := hdu.1 hb50; omega
                rw [hau]
                refine g_round (i := (n, a, l, es, q1, d1, q2, d2)) (n - 1, a + (decS (pieceA fed a)).2.1.toNat, l ++ [(decS (pieceA fed a)).1], es ++ [(a : Int) + (decS (pieceA fed a)).2.1], p54, c55, p63, c64) ?_ ?_ ?_
                · exact ⟨rfl, rfl, rfl, rfl, trivial⟩
                · exact ⟨by omega, ((readAll_next hk hb45 hb50).symm.trans hst), by omega, ⟨by rw [List.length_append, List.length_singleton]; omega, by rw [List.length_append, List.length_append, hll.2]; rfl⟩, H69⟩
                · (try dsimp only); omega
              · skip
                skip
                refine g_cond_t rfl (nt hb50) ?_
                refine g_seq ?_
                refine g_region ?_
                refine l_of (s_val (v := .agg #[.bool ((readR (helloA fed)).1.e), .bool ((readR (helloA fed)).1.f), .bool ((readR (helloA fed)).1.n), .string ((readR (helloA fed)).1.name), .string ((readR (helloA fed)).1.peer), .bool true, .slice q1 l.length d1, .slice q2 es.length d2, .int .i64 68, .int .i64 (-1)]) (wt0 rfl) rfl rfl (x_loadA H44 3 rfl rfl Try.underlying62 rfl sz62 rfl rfl rfl) ?_)
                refine l_of (s_store H44 4 (wt0 rfl) rfl rfl rfl rfl rfl sz62 rfl rfl (cs' := #[.bool ((readR (helloA fed)).1.e), .bool ((readR (helloA fed)).1.f), .bool ((readR (helloA fed)).1.n), .string ((readR (helloA fed)).1.name), .string ((readR (helloA fed)).1.peer), .bool true, .slice q1 l.length d1, .slice q2 es.length d2, .int .i64 68, .int .i64 (-1)]) rfl ?_)
                intro wq70 H71
                refine g_nil ?_
                refine g_then ?_
                refine g_weak [(2, .pointer (some ⟨g1, 0, none⟩))] ⟨rfl, trivial⟩ ?_
                refine g_ret ?_
                refine g_then_ret ?_
                refine g_in_ret ?_
                refine g_then_ret ?_
                refine g_in_ret ?_
                refine fin_ret [.cell 2 62] [.agg #[.bool ((readR (helloA fed)).1.e), .bool ((readR (helloA fed)).1.f), .bool ((readR (helloA fed)).1.n), .string ((readR (helloA fed)).1.name), .string ((readR (helloA fed)).1.peer), .bool true, .slice q1 l.length d1, .slice q2 es.length d2, .int .i64 68, .int .i64 (-1)]] rfl ⟨⟨_, rfl, run_loadA (H71.ob (k := 4) rfl) Try.underlying62 rfl sz62 rfl rfl⟩, trivial⟩ ?_
                unfold wholeR
                rw [if_pos hb10, if_neg hb21, if_pos hb26]
                rw [(hst.symm.trans (readAll_end hk hb45 hb50))]
                exact ⟨q1, d1, q2, d2, rfl, H71.mask [false, true, true, false, false, true]⟩
          · skip
            refine s_alloc H36 (wt0 rfl) rfl rfl rfl ze33 ?_
            intro g72 wq73 H74
            refine y_k (H74.mask [false, true, true, true, true, true]) (H74.mask [false, true, true, true, true, true]) ?_
            refine y_one (i := 15) (by kernel_rfl) rfl ?_
            refine s_call (wt0 rfl) (x_call' rfl rfl cl21) (decode_r _ _) ?_
            rintro _ wq75 ⟨rfl, H76⟩
            replace H76 : S wq75 [Ob g72 (.cells #[.int .i64 0, .int .i64 0, .int .i64 0, .int .i64 0, .int .i64 0, .int .i64 0, .string (⟨#[]⟩), .string (⟨#[]⟩)] 33 (0, 0)), Rw 33 8 q1 l.length d1 (msgsV l), Rw 3 1 q2 es.length d2 (zsV es), Ob g4 (.cells #[.bool ((readR (helloA fed)).1.e), .bool ((readR (helloA fed)).1.f), .bool ((readR (helloA fed)).1.n), .string ((readR (helloA fed)).1.name), .string ((readR (helloA fed)).1.peer), .bool true, .slice q1 l.length d1, .slice q2 es.length d2, .int .i64 68, .int .i64 (-1)] 62 (0, 0)), Ob g1 (.cells #[.bool false, .bool false, .bool false, .string (⟨#[]⟩), .string (⟨#[]⟩), .bool false, .slice none 0 0, .slice none 0 0, .int .i64 0, .int .i64 0] 62 (0, 0)), Old w no] := H74.absorb (new := []) H76
            refine b_ret rfl rfl ?_
            refine y_k (H76.mask [false, true, true, true, true, true]) (H76.mask [false, true, true, true, true, true]) ?_
            refine y_pure (v := .tuple #[.agg (decS (pieceA fed a)).1.cells, .int .i64 ((decS (pieceA fed a)).2.1), .int .i64 ((decS (pieceA fed a)).2.2.1), .int .i64 ((decS (pieceA fed a)).2.2.2)]) 16 rfl (wt0 rfl) rfl rfl rfl (by kernel_rfl) (by kernel_rfl) (by kernel_rfl) (by kernel_rfl) (fun wx => x_move rfl rfl) ?_
            refine y_pure (v := .agg (decS (pieceA fed a)).1.cells) 17 rfl (wt0 rfl) rfl rfl rfl (by kernel_rfl) (by kernel_rfl) (by kernel_rfl) (by kernel_rfl) (fun wx => x_extract rfl rfl rfl) ?_
            refine y_pure (v := .int .i64 ((decS (pieceA fed a)).2.1)) 18 rfl (wt0 rfl) rfl rfl rfl (by kernel_rfl) (by kernel_rfl) (by kernel_rfl) (by kernel_rfl) (fun wx => x_extract rfl rfl rfl) ?_
            refine y_pure (v := .int .i64 ((decS (pieceA fed a)).2.2.1)) 19 rfl (wt0 rfl) rfl rfl rfl (by kernel_rfl) (by kernel_rfl) (by kernel_rfl) (by kernel_rfl) (fun wx => x_extract rfl rfl rfl) ?_
            refine y_pure (v := .int .i64 ((decS (pieceA fed a)).2.2.2)) 20 rfl (wt0 rfl) rfl rfl rfl (by kernel_rfl) (by kernel_rfl) (by kernel_rfl) (by kernel_rfl) (fun wx => x_extract rfl rfl rfl) ?_
            refine y_one (i := 22) (by kernel_rfl) rfl ?_
            refine s_store H76 0 (wt0 rfl) rfl rfl rfl rfl rfl sz33 rfl rfl (cs' := (decS (pieceA fed a)).1.cells) rfl ?_
            intro wq77 H78
            refine y_k (H78.mask [false, true, true, true, true, true]) (H78.mask [false, true, true, true, true, true]) ?_
            refine y_pure (v := .int .i64 ((decS (pieceA fed a)).2.1)) 23 rfl (wt0 rfl) rfl rfl rfl (by kernel_rfl) (by kernel_rfl) (by kernel_rfl) (by kernel_rfl) (fun wx => x_assign rfl rfl) ?_
            refine y_pure (v := .int .i64 ((decS (pieceA fed a)).2.2.1)) 24 rfl (wt0 rfl) rfl rfl rfl (by kernel_rfl) (by kernel_rfl) (by kernel_rfl) (by kernel_rfl) (fun wx => x_assign rfl rfl) ?_
            refine y_pure (v := .int .i64 ((decS (pieceA fed a)).2.2.2)) 25 rfl (wt0 rfl) rfl rfl rfl (by kernel_rfl) (by kernel_rfl) (by kernel_rfl) (by kernel_rfl) (fun wx => x_assign rfl rfl) ?_
            refine y_done (by kernel_rfl) ?_
            refine g_then ?_
            refine g_weak [(0, .pointer (some ⟨gw, 0, none⟩)), (2, .pointer (some ⟨g1, 0, none⟩)), (3, .pointer (some ⟨g4, 0, none⟩)), (4, .int .i64 ((a : Int))), (9, .pointer (some ⟨g72, 0, none⟩)), (10, .int .i64 ((decS (pieceA fed a)).2.1)), (11, .int .i64 ((decS (pieceA fed a)).2.2.1)), (12, .int .i64 ((decS (pieceA fed a)).2.2.2))] ⟨rfl, rfl, rfl, rfl, rfl, rfl, rfl, rfl, trivial⟩ ?_
            refine g_seq ?_
            refine g_seq ?_
            refine g_region ?_
            refine l_of (s_val (v := .int .i64 ((decS (pieceA fed a)).2.2.2)) (wt0 rfl) rfl rfl (x_move rfl rfl) ?_)
            refine l_of (s_val (v := .bool (decide (((decS (pieceA fed a)).2.2.2 : Int) = 12))) (wt0 rfl) rfl rfl (x_bin rfl rfl rfl b_eql) ?_)
            refine g_nil ?_
            refine g_then ?_
            by_cases hb79 : ((decS (pieceA fed a)).2.2.2 : Int) = 12
            · skip
              skip
              refine g_cond_t rfl (decide_eq_true hb79) ?_
              refine g_seq ?_
              refine g_region ?_
              refine l_of (s_val (v := .int .i64 ((a : Int))) (wt0 rfl) rfl rfl (x_move rfl rfl) ?_)
              refine l_of (s_val (v := .int .i64 ((decS (pieceA fed a)).2.2.1)) (wt0 rfl) rfl rfl (x_move rfl rfl) ?_)
              refine l_of (s_val (v := .int .i64 ((a : Int) + ((decS (pieceA fed a)).2.2.1))) (wt0 rfl) rfl rfl (x_bin rfl rfl rfl (b_add (w64 (by omega)))) ?_)
              refine l_of (s_val (v := .pointer (some ⟨g4, 9, none⟩)) (wt0 rfl) rfl rfl (x_fieldAddr rfl rfl fo62_5 rfl) ?_)
              refine l_of (s_store H78 3 (wt0 rfl) rfl rfl rfl rfl rfl sz3 rfl rfl (cs' := #[.bool ((readR (helloA fed)).1.e), .bool ((readR (helloA fed)).1.f), .bool ((readR (helloA fed)).1.n), .string ((readR (helloA fed)).1.name), .string ((readR (helloA fed)).1.peer), .bool true, .slice q1 l.length d1, .slice q2 es.length d2, .int .i64 68, .int .i64 ((a : Int) + ((decS (pieceA fed a)).2.2.1))]) rfl ?_)
              intro wq80 H81
              refine g_nil ?_
              refine g_then ?_
              refine g_weak [(2, .pointer (some ⟨g1, 0, none⟩)), (3, .pointer (some ⟨g4, 0, none⟩))] ⟨rfl, rfl, trivial⟩ ?_
              refine g_seq ?_
              refine g_region ?_
              refine l_of (s_val (v := .agg #[.bool ((readR (helloA fed)).1.e), .bool ((readR (helloA fed)).1.f), .bool ((readR (helloA fed)).1.n), .string ((readR (helloA fed)).1.name), .string ((readR (helloA fed)).1.peer), .bool true, .slice q1 l.length d1, .slice q2 es.length d2, .int .i64 68, .int .i64 ((a : Int) + ((decS (pieceA fed a)).2.2.1))]) (wt0 rfl) rfl rfl (x_loadA H81 3 rfl rfl Try.underlying62 rfl sz62 rfl rfl rfl) ?_)
              refine l_of (s_store H81 4 (wt0 rfl) rfl rfl rfl rfl rfl sz62 rfl rfl (cs' := #[.bool ((readR (helloA fed)).1.e), .bool ((readR (helloA fed)).1.f), .bool ((readR (helloA fed)).1.n), .string ((readR (helloA fed)).1.name), .string ((readR (helloA fed)).1.peer), .bool true, .slice q1 l.length d1, .slice q2 es.length d2, .int .i64 68, .int .i64 ((a : Int) + ((decS (pieceA fed a)).2.2.1))]) rfl ?_)
              intro wq82 H83
              refine g_nil ?_
              refine g_then ?_
              refine g_ret ?_
              refine g_then_ret ?_
              refine g_in_ret ?_
              refine g_then_ret ?_
              refine g_in_ret ?_
              refine fin_ret [.cell 2 62] [.agg #[.bool ((readR (helloA fed)).1.e), .bool ((readR (helloA fed)).1.f), .bool ((readR (helloA fed)).1.n), .string ((readR (helloA fed)).1.name), .string ((readR (helloA fed)).1.peer), .bool true, .slice q1 l.length d1, .slice q2 es.length d2, .int .i64 68, .int .i64 ((a : Int) + ((decS (pieceA fed a)).2.2.1))]] rfl ⟨⟨_, rfl, run_loadA (H83.ob (k := 4) rfl) Try.underlying62 rfl sz62 rfl rfl⟩, trivial⟩ ?_
              unfold wholeR
              rw [if_pos hb10, if_neg hb21, if_pos hb26]
              rw [(hst.symm.trans (readAll_bad hk hb79))]
              exact ⟨q1, d1, q2, d2, rfl, H83.mask [false, true, true, false, false, true]⟩
            · skip
              skip
              refine g_cond_f rfl (decide_eq_false hb79) ?_
              refine g_skip ?_
              refine g_then ?_
              refine g_seq ?_
              refine g_seq ?_
              refine g_region ?_
              refine l_of (s_val (v := .int .i64 ((decS (pieceA fed a)).2.2.2)) (wt0 rfl) rfl rfl (x_move rfl rfl) ?_)
              refine l_of (s_val (v := .bool (!decide (((decS (pieceA fed a)).2.2.2 : Int) = 0))) (wt0 rfl) rfl rfl (x_bin rfl rfl rfl b_neq) ?_)
              refine g_nil ?_
              refine g_then ?_
              by_cases hb84 : ((decS (pieceA fed a)).2.2.2 : Int) = 0
              · skip
                skip
                refine g_cond_f rfl (nf hb84) ?_
                refine g_skip ?_
                refine g_then ?_
                refine g_seq ?_
                refine g_region ?_
                refine l_of (s_val (v := .int .i64 ((a : Int))) (wt0 rfl) rfl rfl (x_move rfl rfl) ?_)
                refine l_of (s_val (v := .int .i64 ((decS (pieceA fed a)).2.1)) (wt0 rfl) rfl rfl (x_move rfl rfl) ?_)
                refine l_of (s_val (v := .int .i64 ((a : Int) + ((decS (pieceA fed a)).2.1))) (wt0 rfl) rfl rfl (x_bin rfl rfl rfl (b_add (w64 (by omega)))) ?_)
                refine l_of (s_val (v := .int .i64 ((a : Int) + ((decS (pieceA fed a)).2.1))) (wt0 rfl) rfl rfl (x_assign rfl rfl) ?_)
                refine g_nil ?_
                refine g_then ?_
                refine g_seq ?_
                refine g_region ?_
                refine l_of (s_val (v := .pointer (some ⟨g4, 6, none⟩)) (wt0 rfl) rfl rfl (x_fieldAddr rfl rfl fo62_2 rfl) ?_)
                refine l_of (s_val (v := .slice q1 l.length d1) (wt0 rfl) rfl rfl (x_load1 H78 3 rfl rfl Try.underlying46 rfl rfl rfl) ?_)
                refine l_of (s_val (v := .agg (decS (pieceA fed a)).1.cells) (wt0 rfl) rfl rfl (x_loadA H78 0 rfl rfl Try.underlying33 rfl sz33 rfl rfl rfl) ?_)
                refine l_of (s_buildSlice H78 (wt0 rfl) rfl rfl rfl (vs := [.agg (decS (pieceA fed a)).1.cells]) rfl Try.underlying46 sz33 ze33 rfl rfl (cells := (decS (pieceA fed a)).1.cells) (by kernel_rfl) ?_)
                intro g85 wq86 H87
                refine l_of (s_appendR (n := l.length) (m := 1) (sc := d1) (xs := (msgsV l)) (news := ((decS (pieceA fed a)).1.cells).toList) (p := q1) (ad := ⟨g85, 0, none⟩) H87 2 (wt0 rfl) rfl rfl rfl rfl rfl rfl Try.underlying46 inf33 rfl (by decide) (by decide) rfl (by decide) (news_ob H87 (j0 := 0) rfl) rfl (by omega) ?_)
                intro p88 c89 wq90 (H91 : S wq90 [Ob g85 (.cells (decS (pieceA fed a)).1.cells 33 (0, 0)), Ob g72 (.cells (decS (pieceA fed a)).1.cells 33 (0, 0)), Rw 33 8 p88 (l.length + 1) c89 ((msgsV l) ++ ((decS (pieceA fed a)).1.cells).toList), Rw 3 1 q2 es.length d2 (zsV es), Ob g4 (.cells #[.bool ((readR (helloA fed)).1.e), .bool ((readR (helloA fed)).1.f), .bool ((readR (helloA fed)).1.n), .string ((readR (helloA fed)).1.name), .string ((readR (helloA fed)).1.peer), .bool true, .slice q1 l.length d1, .slice q2 es.length d2, .int .i64 68, .int .i64 (-1)] 62 (0, 0)), Ob g1 (.cells #[.bool false, .bool false, .bool false, .string (⟨#[]⟩), .string (⟨#[]⟩), .bool false, .slice none 0 0, .slice none 0 0, .int .i64 0, .int .i64 0] 62 (0, 0)), Old w no])
                refine l_of (s_val (v := .pointer (some ⟨g4, 6, none⟩)) (wt0 rfl) rfl rfl (x_fieldAddr rfl rfl fo62_2 rfl) ?_)
                refine l_of (s_store H91 4 (wt0 rfl) rfl rfl rfl rfl rfl sz46 rfl rfl (cs' := #[.bool ((readR (helloA fed)).1.e), .bool ((readR (helloA fed)).1.f), .bool ((readR (helloA fed)).1.n), .string ((readR (helloA fed)).1.name), .string ((readR (helloA fed)).1.peer), .bool true, .slice p88 (l.length + 1) c89, .slice q2 es.length d2, .int .i64 68, .int .i64 (-1)]) rfl ?_)
                intro wq92 H93
                refine g_nil ?_
                refine g_then ?_
                refine g_weak [(0, .pointer (some ⟨gw, 0, none⟩)), (2, .pointer (some ⟨g1, 0, none⟩)), (3, .pointer (some ⟨g4, 0, none⟩)), (4, .int .i64 ((a : Int) + ((decS (pieceA fed a)).2.1)))] ⟨rfl, rfl, rfl, rfl, trivial⟩ ?_
                refine g_region ?_
                refine l_of (s_val (v := .pointer (some ⟨g4, 7, none⟩)) (wt0 rfl) rfl rfl (x_fieldAddr rfl rfl fo62_3 rfl) ?_)
                refine l_of (s_val (v := .slice q2 es.length d2) (wt0 rfl) rfl rfl (x_load1 H93 4 rfl rfl Try.underlying60 rfl rfl rfl) ?_)
                refine l_of (s_val (v := .int .i64 ((a : Int) + ((decS (pieceA fed a)).2.1))) (wt0 rfl) rfl rfl (x_move rfl rfl) ?_)
                refine l_of (s_buildSlice H93 (wt0 rfl) rfl rfl rfl (vs := [.int .i64 ((a : Int) + ((decS (pieceA fed a)).2.1))]) rfl Try.underlying60 sz3 ze3 rfl rfl (cells := #[.int .i64 ((a : Int) + ((decS (pieceA fed a)).2.1))]) (by kernel_rfl) ?_)
                intro g94 wq95 H96
                refine l_of (s_appendR (n := es.length) (m := 1) (sc := d2) (xs := (zsV es)) (news := [.int .i64 ((a : Int) + ((decS (pieceA fed a)).2.1))]) (p := q2) (ad := ⟨g94, 0, none⟩) H96 4 (wt0 rfl) rfl rfl rfl rfl rfl rfl Try.underlying60 inf3 rfl (by decide) (by decide) rfl (by decide) (news_ob H96 (j0 := 0) rfl) rfl (by omega) ?_)
                intro p97 c98 wq99 (H100 : S wq99 [Ob g94 (.cells #[.int .i64 ((a : Int) + ((decS (pieceA fed a)).2.1))] 3 (0, 0)), Ob g85 (.cells (decS (pieceA fed a)).1.cells 33 (0, 0)), Ob g72 (.cells (decS (pieceA fed a)).1.cells 33 (0, 0)), Rw 33 8 p88 (l.length + 1) c89 ((msgsV l) ++ ((decS (pieceA fed a)).1.cells).toList), Rw 3 1 p97 (es.length + 1) c98 ((zsV es) ++ [.int .i64 ((a : Int) + ((decS (pieceA fed a)).2.1))]), Ob g4 (.cells #[.bool ((readR (helloA fed)).1.e), .bool ((readR (helloA fed)).1.f), .bool ((readR (helloA fed)).1.n), .string ((readR (helloA fed)).1.name), .string ((readR (helloA fed)).1.peer), .bool true, .slice p88 (l.length + 1) c89, .slice q2 es.length d2, .int .i64 68, .int .i64 (-1)] 62 (0, 0)), Ob g1 (.cells #[.bool false, .bool false, .bool false, .string (⟨#[]⟩), .string (⟨#[]⟩), .bool false, .slice none 0 0, .slice none 0 0, .int .i64 0, .int .i64 0] 62 (0, 0)), Old w no])
                refine l_of (s_val (v := .pointer (some ⟨g4, 7, none⟩)) (wt0 rfl) rfl rfl (x_fieldAddr rfl rfl fo62_3 rfl) ?_)
                refine l_of (s_store H100 5 (wt0 rfl) rfl rfl rfl rfl rfl sz60 rfl rfl (cs' := #[.bool ((readR (helloA fed)).1.e), .bool ((readR (helloA fed)).1.f), .bool ((readR (helloA fed)).1.n), .string ((readR (helloA fed)).1.name), .string ((readR (helloA fed)).1.peer), .bool true, .slice p88 (l.length + 1) c89, .slice p97 (es.length + 1) c98, .int .i64 68, .int .i64 (-1)]) rfl ?_)
                intro wq101 H102
                refine g_nil ?_
                refine g_in ?_
                refine g_then ?_
                have H103 : S wq101 [Rw 33 8 p88 (l.length + 1) c89 ((msgsV l) ++ ((decS (pieceA fed a)).1.cells).toList), Rw 3 1 p97 (es.length + 1) c98 ((zsV es) ++ [.int .i64 ((a : Int) + ((decS (pieceA fed a)).2.1))]), Ob g4 (.cells #[.bool ((readR (helloA fed)).1.e), .bool ((readR (helloA fed)).1.f), .bool ((readR (helloA fed)).1.n), .string ((readR (helloA fed)).1.name), .string ((readR (helloA fed)).1.peer), .bool true, .slice p88 (l.length + 1) c89, .slice p97 (es.length + 1) c98, .int .i64 68, .int .i64 (-1)] 62 (0, 0)), Ob g1 (.cells #[.bool false, .bool false, .bool false, .string (⟨#[]⟩), .string (⟨#[]⟩), .bool false, .slice none 0 0, .slice none 0 0, .int .i64 0, .int .i64 0] 62 (0, 0)), Old w no] := H102.mask [false, false, false, true, true, true, true, true]
                rw [← msgsV_snoc, ← zsV_snoc, ← len_snoc, ← len_snoc] at H103
                have hau : (a : Int) + (decS (pieceA fed a)).2.1 = ((a + (decS (pieceA fed a)).2.1.toNat : Nat) : Int) := by have := hdu.1 hb84; omega
                rw [hau]
                refine g_round (i := (n, a, l, es, q1, d1, q2, d2)) (n - 1, a + (decS (pieceA fed a)).2.1.toNat, l ++ [(decS (pieceA fed a)).1], es ++ [(a : Int) + (decS (pieceA fed a)).2.1], p88, c89, p97, c98) ?_ ?_ ?_
                · exact ⟨rfl, rfl, rfl, rfl, trivial⟩
                · exact ⟨by omega, ((readAll_next hk hb79 hb84).symm.trans hst), by omega, ⟨by rw [List.length_append, List.length_singleton]; omega, by rw [List.length_append, List.length_append, hll.2]; rfl⟩, H103⟩
                · (try dsimp only); omega
              · skip
                skip
                refine g_cond_t rfl (nt hb84) ?_
                refine g_seq ?_
                refine g_region ?_
                refine l_of (s_val (v := .agg #[.bool ((readR (helloA fed)).1.e), .bool ((readR (helloA fed)).1.f), .bool ((readR (helloA fed)).1.n), .string ((readR (helloA fed)).1.name), .string ((readR (helloA fed)).1.peer), .bool true, .slice q1 l.length d1, .slice q2 es.length d2, .int .i64 68, .int .i64 (-1)]) (wt0 rfl) rfl rfl (x_loadA H78 3 rfl rfl Try.underlying62 rfl sz62 rfl rfl rfl) ?_)
                refine l_of (s_store H78 4 (wt0 rfl) rfl rfl rfl rfl rfl sz62 rfl rfl (cs' := #[.bool ((readR (helloA fed)).1.e), .bool ((readR (helloA fed)).1.f), .bool ((readR (helloA fed)).1.n), .string ((readR (helloA fed)).1.name), .string ((readR (helloA fed)).1.peer), .bool true, .slice q1 l.length d1, .slice q2 es.length d2, .int .i64 68, .int .i64 (-1)]) rfl ?_)
                intro wq104 H105
                refine g_nil ?_
                refine g_then ?_
                refine g_weak [(2, .pointer (some ⟨g1, 0, none⟩))] ⟨rfl, trivial⟩ ?_
                refine g_ret ?_
                refine g_then_ret ?_
                refine g_in_ret ?_
                refine g_then_ret ?_
                refine g_in_ret ?_
                refine fin_ret [.cell 2 62] [.agg #[.bool ((readR (helloA fed)).1.e), .bool ((readR (helloA fed)).1.f), .bool ((readR (helloA fed)).1.n), .string ((readR (helloA fed)).1.name), .string ((readR (helloA fed)).1.peer), .bool true, .slice q1 l.length d1, .slice q2 es.length d2, .int .i64 68, .int .i64 (-1)]] rfl ⟨⟨_, rfl, run_loadA (H105.ob (k := 4) rfl) Try.underlying62 rfl sz62 rfl rfl⟩, trivial⟩ ?_
                unfold wholeR
                rw [if_pos hb10, if_neg hb21, if_pos hb26]
                rw [(hst.symm.trans (readAll_end hk hb79 hb84))]
                exact ⟨q1, d1, q2, d2, rfl, H105.mask [false, true, true, false, false, true]⟩
        · skip
          refine g_cond_t rfl (nt hb26) ?_
          refine g_seq ?_
          refine g_region ?_
          refine l_of (s_val (v := .agg #[.bool false, .bool false, .bool false, .string (⟨#[]⟩), .string (⟨#[]⟩), .bool false, .slice none 0 0, .slice none 0 0, .int .i64 0, .int .i64 (-1)]) (wt0 rfl) rfl rfl (x_loadA H20 3 rfl rfl Try.underlying62 rfl sz62 rfl rfl rfl) ?_)
          refine l_of (s_store H20 4 (wt0 rfl) rfl rfl rfl rfl rfl sz62 rfl rfl (cs' := #[.bool false, .bool false, .bool false, .string (⟨#[]⟩), .string (⟨#[]⟩), .bool false, .slice none 0 0, .slice none 0 0, .int .i64 0, .int .i64 (-1)]) rfl ?_)
          intro wq106 H107
          refine g_nil ?_
          refine g_then ?_
          refine g_ret ?_
          refine g_then_ret ?_
          refine g_then_ret ?_
          refine fin_ret [.cell 2 62] [.agg #[.bool false, .bool false, .bool false, .string (⟨#[]⟩), .string (⟨#[]⟩), .bool false, .slice none 0 0, .slice none 0 0, .int .i64 0, .int .i64 (-1)]] rfl ⟨⟨_, rfl, run_loadA (H107.ob (k := 4) rfl) Try.underlying62 rfl sz62 rfl rfl⟩, trivial⟩ ?_
          unfold wholeR
          rw [if_pos hb10, if_neg hb21, if_neg hb26]
          exact ⟨none, 0, none, 0, rfl, H107.mask [false, true, true, false, false, true]⟩
    · skip
      refine s_alloc H12 (wt0 rfl) rfl rfl rfl ze23 ?_
      intro g108 wq109 H110
      refine y_k (H110.mask [false, true, true, true, true, true]) (H110.mask [false, true, true, true, true, true]) ?_
      refine y_one (i := 11) (by kernel_rfl) rfl ?_
      refine s_call (wt0 rfl) (x_call' rfl rfl cl14) (readHello_r _ _) ?_
      rintro _ wq111 ⟨rfl, H112⟩
      replace H112 : S wq111 [Ob g108 (.cells #[.bool false, .bool false, .bool false, .string (⟨#[]⟩), .string (⟨#[]⟩)] 23 (0, 0)), Rw 33 8 none 0 0 [], Rw 3 1 none 0 0 [], Ob g4 (.cells #[.bool false, .bool false, .bool false, .string (⟨#[]⟩), .string (⟨#[]⟩), .bool false, .slice none 0 0, .slice none 0 0, .int .i64 0, .int .i64 (-1)] 62 (0, 0)), Ob g1 (.cells #[.bool false, .bool false, .bool false, .string (⟨#[]⟩), .string (⟨#[]⟩), .bool false, .slice none 0 0, .slice none 0 0, .int .i64 0, .int .i64 0] 62 (0, 0)), Old w no] := H110.absorb (new := []) (S.of_below H112)
      refine b_ret rfl rfl ?_
      refine y_k (H112.mask [false, true, true, true, true, true]) (H112.mask [false, true, true, true, true, true]) ?_
      refine y_pure (v := .tuple #[.agg #[.bool ((readR (helloA fed)).1.e), .bool ((readR (helloA fed)).1.f), .bool ((readR (helloA fed)).1.n), .string ((readR (helloA fed)).1.name), .string ((readR (helloA fed)).1.peer)], .int .i64 ((readR (helloA fed)).2.1), .int .i64 ((readR (helloA fed)).2.2.1), .int .i64 ((readR (helloA fed)).2.2.2)]) 12 rfl (wt0 rfl) rfl rfl rfl (by kernel_rfl) (by kernel_rfl) (by kernel_rfl) (by kernel_rfl) (fun wx => x_move rfl rfl) ?_
      refine y_pure (v := .agg #[.bool ((readR (helloA fed)).1.e), .bool ((readR (helloA fed)).1.f), .bool ((readR (helloA fed)).1.n), .string ((readR (helloA fed)).1.name), .string ((readR (helloA fed)).1.peer)]) 13 rfl (wt0 rfl) rfl rfl rfl (by kernel_rfl) (by kernel_rfl) (by kernel_rfl) (by kernel_rfl) (fun wx => x_extract rfl rfl rfl) ?_
      refine y_pure (v := .int .i64 ((readR (helloA fed)).2.1)) 14 rfl (wt0 rfl) rfl rfl rfl (by kernel_rfl) (by kernel_rfl) (by kernel_rfl) (by kernel_rfl) (fun wx => x_extract rfl rfl rfl) ?_
      refine y_pure (v := .int .i64 ((readR (helloA fed)).2.2.1)) 15 rfl (wt0 rfl) rfl rfl rfl (by kernel_rfl) (by kernel_rfl) (by kernel_rfl) (by kernel_rfl) (fun wx => x_extract rfl rfl rfl) ?_
      refine y_pure (v := .int .i64 ((readR (helloA fed)).2.2.2)) 16 rfl (wt0 rfl) rfl rfl rfl (by kernel_rfl) (by kernel_rfl) (by kernel_rfl) (by kernel_rfl) (fun wx => x_extract rfl rfl rfl) ?_
      refine y_one (i := 18) (by kernel_rfl) rfl ?_
      refine s_store H112 0 (wt0 rfl) rfl rfl rfl rfl rfl sz23 rfl rfl (cs' := #[.bool ((readR (helloA fed)).1.e), .bool ((readR (helloA fed)).1.f), .bool ((readR (helloA fed)).1.n), .string ((readR (helloA fed)).1.name), .string ((readR (helloA fed)).1.peer)]) rfl ?_
      intro wq113 H114
      refine y_k (H114.mask [false, true, true, true, true, true]) (H114.mask [false, true, true, true, true, true]) ?_
      refine y_pure (v := .int .i64 ((readR (helloA fed)).2.1)) 19 rfl (wt0 rfl) rfl rfl rfl (by kernel_rfl) (by kernel_rfl) (by kernel_rfl) (by kernel_rfl) (fun wx => x_assign rfl rfl) ?_
      refine y_pure (v := .int .i64 ((readR (helloA fed)).2.2.1)) 20 rfl (wt0 rfl) rfl rfl rfl (by kernel_rfl) (by kernel_rfl) (by kernel_rfl) (by kernel_rfl) (fun wx => x_assign rfl rfl) ?_
      refine y_pure (v := .int .i64 ((readR (helloA fed)).2.2.2)) 21 rfl (wt0 rfl) rfl rfl rfl (by kernel_rfl) (by kernel_rfl) (by kernel_rfl) (by kernel_rfl) (fun wx => x_assign rfl rfl) ?_
      refine y_done (by kernel_rfl) ?_
      refine g_then ?_
      refine g_weak [(0, .pointer (some ⟨gw, 0, none⟩)), (2, .pointer (some ⟨g1, 0, none⟩)), (3, .pointer (some ⟨g4, 0, none⟩)), (5, .pointer (some ⟨g108, 0, none⟩)), (6, .int .i64 ((readR (helloA fed)).2.1)), (7, .int .i64 ((readR (helloA fed)).2.2.1)), (8, .int .i64 ((readR (helloA fed)).2.2.2))] ⟨rfl, rfl, rfl, rfl, rfl, rfl, rfl, trivial⟩ ?_
      refine g_seq ?_
      refine g_seq ?_
      refine g_region ?_
      refine l_of (s_val (v := .int .i64 ((readR (helloA fed)).2.2.2)) (wt0 rfl) rfl rfl (x_move rfl rfl) ?_)
      refine l_of (s_val (v := .bool (decide (((readR (helloA fed)).2.2.2 : Int) = 12))) (wt0 rfl) rfl rfl (x_bin rfl rfl rfl b_eql) ?_)
      refine g_nil ?_
      refine g_then ?_
      by_cases hb115 : ((readR (helloA fed)).2.2.2 : Int) = 12
      · skip
        refine g_cond_t rfl (decide_eq_true hb115) ?_
        refine g_seq ?_
        refine g_region ?_
        refine l_of (s_val (v := .int .i64 ((readR (helloA fed)).2.2.1)) (wt0 rfl) rfl rfl (x_move rfl rfl) ?_)
        refine l_of (s_val (v := .pointer (some ⟨g4, 9, none⟩)) (wt0 rfl) rfl rfl (x_fieldAddr rfl rfl fo62_5 rfl) ?_)
        refine l_of (s_store H114 3 (wt0 rfl) rfl rfl rfl rfl rfl sz3 rfl rfl (cs' := #[.bool false, .bool false, .bool false, .string (⟨#[]⟩), .string (⟨#[]⟩), .bool false, .slice none 0 0, .slice none 0 0, .int .i64 0, .int .i64 ((readR (helloA fed)).2.2.1)]) rfl ?_)
        intro wq116 H117
        refine g_nil ?_
        refine g_then ?_
        refine g_seq ?_
        refine g_region ?_
        refine l_of (s_val (v := .agg #[.bool false, .bool false, .bool false, .string (⟨#[]⟩), .string (⟨#[]⟩), .bool false, .slice none 0 0, .slice none 0 0, .int .i64 0, .int .i64 ((readR (helloA fed)).2.2.1)]) (wt0 rfl) rfl rfl (x_loadA H117 3 rfl rfl Try.underlying62 rfl sz62 rfl rfl rfl) ?_)
        refine l_of (s_store H117 4 (wt0 rfl) rfl rfl rfl rfl rfl sz62 rfl rfl (cs' := #[.bool false, .bool false, .bool false, .string (⟨#[]⟩), .string (⟨#[]⟩), .bool false, .slice none 0 0, .slice none 0 0, .int .i64 0, .int .i64 ((readR (helloA fed)).2.2.1)]) rfl ?_)
        intro wq118 H119
        refine g_nil ?_
        refine g_then ?_
        refine g_ret ?_
        refine g_then_ret ?_
        refine g_then_ret ?_
        refine fin_ret [.cell 2 62] [.agg #[.bool false, .bool false, .bool false, .string (⟨#[]⟩), .string (⟨#[]⟩), .bool false, .slice none 0 0, .slice none 0 0, .int .i64 0, .int .i64 ((readR (helloA fed)).2.2.1)]] rfl ⟨⟨_, rfl, run_loadA (H119.ob (k := 4) rfl) Try.underlying62 rfl sz62 rfl rfl⟩, trivial⟩ ?_
        unfold wholeR
        rw [if_pos hb10, if_pos hb115]
        exact ⟨none, 0, none, 0, rfl, H119.mask [false, true, true, false, false, true]⟩
      · skip
        refine g_cond_f rfl (decide_eq_false hb115) ?_
        refine g_skip ?_
        refine g_then ?_
        refine g_seq ?_
        refine g_seq ?_
        refine g_region ?_
        refine l_of (s_val (v := .int .i64 ((readR (helloA fed)).2.2.2)) (wt0 rfl) rfl rfl (x_move rfl rfl) ?_)
        refine l_of (s_val (v := .bool (!decide (((readR (helloA fed)).2.2.2 : Int) = 0))) (wt0 rfl) rfl rfl (x_bin rfl rfl rfl b_neq) ?_)
        refine g_nil ?_
        refine g_then ?_
        by_cases hb120 : ((readR (helloA fed)).2.2.2 : Int) = 0
        · skip
          refine g_cond_f rfl (nf hb120) ?_
          refine g_skip ?_
          refine g_then ?_
          refine g_region ?_
          refine l_of (s_val (v := .agg #[.bool ((readR (helloA fed)).1.e), .bool ((readR (helloA fed)).1.f), .bool ((readR (helloA fed)).1.n), .string ((readR (helloA fed)).1.name), .string ((readR (helloA fed)).1.peer)]) (wt0 rfl) rfl rfl (x_loadA H114 0 rfl rfl Try.underlying23 rfl sz23 rfl rfl rfl) ?_)
          refine l_of (s_val (v := .int .i64 ((readR (helloA fed)).2.1)) (wt0 rfl) rfl rfl (x_move rfl rfl) ?_)
          refine l_of (s_val (v := .pointer (some ⟨g4, 0, none⟩)) (wt0 rfl) rfl rfl (x_fieldAddr rfl rfl fo62_0 rfl) ?_)
          refine l_of (s_store H114 3 (wt0 rfl) rfl rfl rfl rfl rfl sz23 rfl rfl (cs' := #[.bool ((readR (helloA fed)).1.e), .bool ((readR (helloA fed)).1.f), .bool ((readR (helloA fed)).1.n), .string ((readR (helloA fed)).1.name), .string ((readR (helloA fed)).1.peer), .bool false, .slice none 0 0, .slice none 0 0, .int .i64 0, .int .i64 (-1)]) rfl ?_)
          intro wq121 H122
          refine l_of (s_val (v := .pointer (some ⟨g4, 5, none⟩)) (wt0 rfl) rfl rfl (x_fieldAddr rfl rfl fo62_1 rfl) ?_)
          refine l_of (s_store H122 3 (wt0 rfl) rfl rfl rfl rfl rfl sz4 rfl rfl (cs' := #[.bool ((readR (helloA fed)).1.e), .bool ((readR (helloA fed)).1.f), .bool ((readR (helloA fed)).1.n), .string ((readR (helloA fed)).1.name), .string ((readR (helloA fed)).1.peer), .bool true, .slice none 0 0, .slice none 0 0, .int .i64 0, .int .i64 (-1)]) rfl ?_)
          intro wq123 H124
          refine l_of (s_val (v := .int .i64 ((readR (helloA fed)).2.1)) (wt0 rfl) rfl rfl (x_assign rfl rfl) ?_)
          refine g_nil ?_
          refine g_then ?_
          refine g_weak [(0, .pointer (some ⟨gw, 0, none⟩)), (2, .pointer (some ⟨g1, 0, none⟩)), (3, .pointer (some ⟨g4, 0, none⟩)), (4, .int .i64 ((readR (helloA fed)).2.1))] ⟨rfl, rfl, rfl, rfl, trivial⟩ ?_
          refine g_seq ?_
          refine g_region ?_
          refine l_of (s_val (v := .int .i64 ((readR (helloA fed)).2.1)) (wt0 rfl) rfl rfl (x_move rfl rfl) ?_)
          refine l_of (s_val (v := .pointer (some ⟨g4, 8, none⟩)) (wt0 rfl) rfl rfl (x_fieldAddr rfl rfl fo62_4 rfl) ?_)
          refine l_of (s_store H124 3 (wt0 rfl) rfl rfl rfl rfl rfl sz3 rfl rfl (cs' := #[.bool ((readR (helloA fed)).1.e), .bool ((readR (helloA fed)).1.f), .bool ((readR (helloA fed)).1.n), .string ((readR (helloA fed)).1.name), .string ((readR (helloA fed)).1.peer), .bool true, .slice none 0 0, .slice none 0 0, .int .i64 ((readR (helloA fed)).2.1), .int .i64 (-1)]) rfl ?_)
          intro wq125 H126
          refine g_nil ?_
          refine g_then ?_
          refine g_block ?_
          have hu68 := (hhu.2.1 hb120).1
          rw [hu68] at H126 ⊢
          refine g_loop (ι := Nat × Nat × List M × List Int × Option Addr × Nat × Option Addr × Nat) (fun (n, a, l, es, q1, d1, q2, d2) => [(0, .pointer (some ⟨gw, 0, none⟩)), (2, .pointer (some ⟨g1, 0, none⟩)), (3, .pointer (some ⟨g4, 0, none⟩)), (4, .int .i64 ((a : Int)))]) (fun (n, a, l, es, q1, d1, q2, d2) wx => (a ≤ fed.size) ∧ (readAll n fed a l es = readAll (fed.size + 1) fed 68 [] []) ∧ (fed.size - a < n) ∧ (l.length * 4 ≤ a ∧ es.length = l.length) ∧ S wx [Rw 33 8 q1 l.length d1 (msgsV l), Rw 3 1 q2 es.length d2 (zsV es), Ob g4 (.cells #[.bool ((readR (helloA fed)).1.e), .bool ((readR (helloA fed)).1.f), .bool ((readR (helloA fed)).1.n), .string ((readR (helloA fed)).1.name), .string ((readR (helloA fed)).1.peer), .bool true, .slice q1 l.length d1, .slice q2 es.length d2, .int .i64 68, .int .i64 (-1)] 62 (0, 0)), Ob g1 (.cells #[.bool false, .bool false, .bool false, .string (⟨#[]⟩), .string (⟨#[]⟩), .bool false, .slice none 0 0, .slice none 0 0, .int .i64 0, .int .i64 0] 62 (0, 0)), Old w no]) (fun (n, a, l, es, q1, d1, q2, d2) => n) (fed.size + 1, 68, [], [], none, 0, none, 0) ⟨rfl, rfl, rfl, rfl, trivial⟩ ⟨by omega, rfl, by omega, ⟨Nat.zero_le _, rfl⟩, (H126.mask [false, true, true, true, true, true])⟩ ?_
          rintro ⟨n, a, l, es, q1, d1, q2, d2⟩ wq127 ⟨ha, hst, hk, hll, H128⟩
          replace H128 : S wq127 [Rw 33 8 q1 l.length d1 (msgsV l), Rw 3 1 q2 es.length d2 (zsV es), Ob g4 (.cells #[.bool ((readR (helloA fed)).1.e), .bool ((readR (helloA fed)).1.f), .bool ((readR (helloA fed)).1.n), .string ((readR (helloA fed)).1.name), .string ((readR (helloA fed)).1.peer), .bool true, .slice q1 l.length d1, .slice q2 es.length d2, .int .i64 68, .int .i64 (-1)] 62 (0, 0)), Ob g1 (.cells #[.bool false, .bool false, .bool false, .string (⟨#[]⟩), .string (⟨#[]⟩), .bool false, .slice none 0 0, .slice none 0 0, .int .i64 0, .int .i64 0] 62 (0, 0)), Old w no] := H128
          refine g_weak [(0, .pointer (some ⟨gw, 0, none⟩)), (2, .pointer (some ⟨g1, 0, none⟩)), (3, .pointer (some ⟨g4, 0, none⟩)), (4, .int .i64 ((a : Int)))] ⟨rfl, rfl, rfl, rfl, trivial⟩ ?_
          have hpz : (pieceA fed a).size ≤ 4204 := by rw [ByteArray.size_extract]; omega
          have hpl : (pieceA fed a).size ≤ fed.size - a := by rw [ByteArray.size_extract]; omega
          have hdu := dec_used (pieceA fed a) (by omega)
          refine g_block ?_
          refine g_seq ?_
          refine g_anyY [] (fun wx => S wx [Rw 33 8 q1 l.length d1 (msgsV l), Rw 3 1 q2 es.length d2 (zsV es), Ob g4 (.cells #[.bool ((readR (helloA fed)).1.e), .bool ((readR (helloA fed)).1.f), .bool ((readR (helloA fed)).1.n), .string ((readR (helloA fed)).1.name), .string ((readR (helloA fed)).1.peer), .bool true, .slice q1 l.length d1, .slice q2 es.length d2, .int .i64 68, .int .i64 (-1)] 62 (0, 0)), Ob g1 (.cells #[.bool false, .bool false, .bool false, .string (⟨#[]⟩), .string (⟨#[]⟩), .bool false, .slice none 0 0, .slice none 0 0, .int .i64 0, .int .i64 0] 62 (0, 0)), Old w no]) (fun wx => S wx [Rw 33 8 q1 l.length d1 (msgsV l), Rw 3 1 q2 es.length d2 (zsV es), Ob g4 (.cells #[.bool ((readR (helloA fed)).1.e), .bool ((readR (helloA fed)).1.f), .bool ((readR (helloA fed)).1.n), .string ((readR (helloA fed)).1.name), .string ((readR (helloA fed)).1.peer), .bool true, .slice q1 l.length d1, .slice q2 es.length d2, .int .i64 68, .int .i64 (-1)] 62 (0, 0)), Ob g1 (.cells #[.bool false, .bool false, .bool false, .string (⟨#[]⟩), .string (⟨#[]⟩), .bool false, .slice none 0 0, .slice none 0 0, .int .i64 0, .int .i64 0] 62 (0, 0)), Old w no]) [] (by kernel_rfl) H128 (fun wq129 H130 => ?_)
          refine y_pure (v := .pointer (some ⟨gw, 0, none⟩)) 0 rfl (wt0 rfl) rfl rfl rfl (by kernel_rfl) (by kernel_rfl) (by kernel_rfl) (by kernel_rfl) (fun wx => x_move rfl rfl) ?_
          refine y_pure (v := .pointer (some ⟨gw, 0, none⟩)) 1 rfl (wt0 rfl) rfl rfl rfl (by kernel_rfl) (by kernel_rfl) (by kernel_rfl) (by kernel_rfl) (fun wx => x_nilCheck rfl rfl) ?_
          refine y_pure (v := .pointer (some ⟨gw, 1, none⟩)) 2 rfl (wt0 rfl) rfl rfl rfl (by kernel_rfl) (by kernel_rfl) (by kernel_rfl) (by kernel_rfl) (fun wx => x_fieldAddr rfl rfl fo113_1 rfl) ?_
          refine y_take (v := .string fed) 3 rfl (wt0 rfl) rfl rfl rfl (by kernel_rfl) (by kernel_rfl) (by kernel_rfl) (by kernel_rfl) (by kernel_rfl) H130 (fun wx H => x_loadC rfl rfl Try.underlying9 rfl (H.oldCell (k := 4) rfl hc1 id)) ?_
          refine y_pure (v := .int .i64 ((a : Int))) 4 rfl (wt0 rfl) rfl rfl rfl (by kernel_rfl) (by kernel_rfl) (by kernel_rfl) (by kernel_rfl) (fun wx => x_move rfl rfl) ?_
          refine y_pure (v := .pointer (some ⟨gw, 0, none⟩)) 5 rfl (wt0 rfl) rfl rfl rfl (by kernel_rfl) (by kernel_rfl) (by kernel_rfl) (by kernel_rfl) (fun wx => x_move rfl rfl) ?_
          refine y_pure (v := .pointer (some ⟨gw, 0, none⟩)) 6 rfl (wt0 rfl) rfl rfl rfl (by kernel_rfl) (by kernel_rfl) (by kernel_rfl) (by kernel_rfl) (fun wx => x_nilCheck rfl rfl) ?_
          refine y_pure (v := .pointer (some ⟨gw, 1, none⟩)) 7 rfl (wt0 rfl) rfl rfl rfl (by kernel_rfl) (by kernel_rfl) (by kernel_rfl) (by kernel_rfl) (fun wx => x_fieldAddr rfl rfl fo113_1 rfl) ?_
          refine y_take (v := .string fed) 8 rfl (wt0 rfl) rfl rfl rfl (by kernel_rfl) (by kernel_rfl) (by kernel_rfl) (by kernel_rfl) (by kernel_rfl) H130 (fun wx H => x_loadC rfl rfl Try.underlying9 rfl (H.oldCell (k := 4) rfl hc1 id)) ?_
          refine y_pure (v := .int .i64 ((fed.size : Int))) 9 rfl (wt0 rfl) rfl rfl rfl (by kernel_rfl) (by kernel_rfl) (by kernel_rfl) (by kernel_rfl) (fun wx => x_lens rfl rfl Try.underlying9) ?_
          refine y_pure (v := .int .i64 ((a : Int))) 10 rfl (wt0 rfl) rfl rfl rfl (by kernel_rfl) (by kernel_rfl) (by kernel_rfl) (by kernel_rfl) (fun wx => x_move rfl rfl) ?_
          refine y_pure (v := .int .i64 ((a : Int) + 4200)) 11 rfl (wt0 rfl) rfl rfl rfl (by kernel_rfl) (by kernel_rfl) (by kernel_rfl) (by kernel_rfl) (fun wx => x_bin rfl rfl rfl (b_add (w64 (by omega)))) ?_
          refine y_pure (v := .int .i64 (((a : Int) + 4200) + 4)) 12 rfl (wt0 rfl) rfl rfl rfl (by kernel_rfl) (by kernel_rfl) (by kernel_rfl) (by kernel_rfl) (fun wx => x_bin rfl rfl rfl (b_add (w64 (by omega)))) ?_
          refine y_pure (v := .int .i64 (min (fed.size : Int) (((a : Int) + 4200) + 4))) 13 rfl (wt0 rfl) rfl rfl rfl (by kernel_rfl) (by kernel_rfl) (by kernel_rfl) (by kernel_rfl) (fun wx => x_min rfl rfl rfl) ?_
          have hsz131 : (fed.extract a ((min (fed.size : Int) (((a : Int) + 4200) + 4)).toNat)).size = (min (fed.size : Int) (((a : Int) + 4200) + 4)).toNat - a := by rw [ByteArray.size_extract]; omega
          refine y_pure (v := .string (fed.extract a ((min (fed.size : Int) (((a : Int) + 4200) + 4)).toNat))) 14 rfl (wt0 rfl) rfl rfl rfl (by kernel_rfl) (by kernel_rfl) (by kernel_rfl) (by kernel_rfl) (fun wx => x_slices a ((min (fed.size : Int) (((a : Int) + 4200) + 4)).toNat) rfl rfl Try.underlying9 (.inr ⟨_, _, _, rfl, rfl, by omega⟩) (.inr ⟨_, _, _, rfl, rfl, by omega⟩) (by omega)) ?_
          refine y_two (i := 15) (j := 21) (by kernel_rfl) rfl rfl ?_ ?_
          · skip
            refine s_call (wt0 rfl) (x_call' rfl rfl cl21) (decode_r _ _) ?_
            rintro _ wq132 ⟨rfl, H133⟩
            replace H133 : S wq132 [Rw 33 8 q1 l.length d1 (msgsV l), Rw 3 1 q2 es.length d2 (zsV es), Ob g4 (.cells #[.bool ((readR (helloA fed)).1.e), .bool ((readR (helloA fed)).1.f), .bool ((readR (helloA fed)).1.n), .string ((readR (helloA fed)).1.name), .string ((readR (helloA fed)).1.peer), .bool true, .slice q1 l.length d1, .slice q2 es.length d2, .int .i64 68, .int .i64 (-1)] 62 (0, 0)), Ob g1 (.cells #[.bool false, .bool false, .bool false, .string (⟨#[]⟩), .string (⟨#[]⟩), .bool false, .slice none 0 0, .slice none 0 0, .int .i64 0, .int .i64 0] 62 (0, 0)), Old w no] := H130.absorb (new := []) H133
            refine b_ret rfl rfl ?_
            refine y_k H133 H133 ?_
            refine y_pure (v := .tuple #[.agg (decS (pieceA fed a)).1.cells, .int .i64 ((decS (pieceA fed a)).2.1), .int .i64 ((decS (pieceA fed a)).2.2.1), .int .i64 ((decS (pieceA fed a)).2.2.2)]) 16 rfl (wt0 rfl) rfl rfl rfl (by kernel_rfl) (by kernel_rfl) (by kernel_rfl) (by kernel_rfl) (fun wx => x_move rfl rfl) ?_
            refine y_pure (v := .agg (decS (pieceA fed a)).1.cells) 17 rfl (wt0 rfl) rfl rfl rfl (by kernel_rfl) (by kernel_rfl) (by kernel_rfl) (by kernel_rfl) (fun wx => x_extract rfl rfl rfl) ?_
            refine y_pure (v := .int .i64 ((decS (pieceA fed a)).2.1)) 18 rfl (wt0 rfl) rfl rfl rfl (by kernel_rfl) (by kernel_rfl) (by kernel_rfl) (by kernel_rfl) (fun wx => x_extract rfl rfl rfl) ?_
            refine y_pure (v := .int .i64 ((decS (pieceA fed a)).2.2.1)) 19 rfl (wt0 rfl) rfl rfl rfl (by kernel_rfl) (by kernel_rfl) (by kernel_rfl) (by kernel_rfl) (fun wx => x_extract rfl rfl rfl) ?_
            refine y_pure (v := .int .i64 ((decS (pieceA fed a)).2.2.2)) 20 rfl (wt0 rfl) rfl rfl rfl (by kernel_rfl) (by kernel_rfl) (by kernel_rfl) (by kernel_rfl) (fun wx => x_extract rfl rfl rfl) ?_
            refine y_one (i := 21) (by kernel_rfl) rfl ?_
            refine s_alloc H133 (wt0 rfl) rfl rfl rfl ze33 ?_
            intro g134 wq135 H136
            refine y_k (H136.mask [false, true, true, true, true, true]) (H136.mask [false, true, true, true, true, true]) ?_
            refine y_one (i := 22) (by kernel_rfl) rfl ?_
            refine s_store H136 0 (wt0 rfl) rfl rfl rfl rfl rfl sz33 rfl rfl (cs' := (decS (pieceA fed a)).1.cells) rfl ?_
            intro wq137 H138
            refine y_k (H138.mask [false, true, true, true, true, true]) (H138.mask [false, true, true, true, true, true]) ?_
            refine y_pure (v := .int .i64 ((decS (pieceA fed a)).2.1)) 23 rfl (wt0 rfl) rfl rfl rfl (by kernel_rfl) (by kernel_rfl) (by kernel_rfl) (by kernel_rfl) (fun wx => x_assign rfl rfl) ?_
            refine y_pure (v := .int .i64 ((decS (pieceA fed a)).2.2.1)) 24 rfl (wt0 rfl) rfl rfl rfl (by kernel_rfl) (by kernel_rfl) (by kernel_rfl) (by kernel_rfl) (fun wx => x_assign rfl rfl) ?_
            refine y_pure (v := .int .i64 ((decS (pieceA fed a)).2.2.2)) 25 rfl (wt0 rfl) rfl rfl rfl (by kernel_rfl) (by kernel_rfl) (by kernel_rfl) (by kernel_rfl) (fun wx => x_assign rfl rfl) ?_
            refine y_done (by kernel_rfl) ?_
            refine g_then ?_
            refine g_weak [(0, .pointer (some ⟨gw, 0, none⟩)), (2, .pointer (some ⟨g1, 0, none⟩)), (3, .pointer (some ⟨g4, 0, none⟩)), (4, .int .i64 ((a : Int))), (9, .pointer (some ⟨g134, 0, none⟩)), (10, .int .i64 ((decS (pieceA fed a)).2.1)), (11, .int .i64 ((decS (pieceA fed a)).2.2.1)), (12, .int .i64 ((decS (pieceA fed a)).2.2.2))] ⟨rfl, rfl, rfl, rfl, rfl, rfl, rfl, rfl, trivial⟩ ?_
            refine g_seq ?_
            refine g_seq ?_
            refine g_region ?_
            refine l_of (s_val (v := .int .i64 ((decS (pieceA fed a)).2.2.2)) (wt0 rfl) rfl rfl (x_move rfl rfl) ?_)
            refine l_of (s_val (v := .bool (decide (((decS (pieceA fed a)).2.2.2 : Int) = 12))) (wt0 rfl) rfl rfl (x_bin rfl rfl rfl b_eql) ?_)
            refine g_nil ?_
            refine g_then ?_
            by_cases hb139 : ((decS (pieceA fed a)).2.2.2 : Int) = 12
            · skip
              skip
              refine g_cond_t rfl (decide_eq_true hb139) ?_
              refine g_seq ?_
              refine g_region ?_
              refine l_of (s_val (v := .int .i64 ((a : Int))) (wt0 rfl) rfl rfl (x_move rfl rfl) ?_)
              refine l_of (s_val (v := .int .i64 ((decS (pieceA fed a)).2.2.1)) (wt0 rfl) rfl rfl (x_move rfl rfl) ?_)
              refine l_of (s_val (v := .int .i64 ((a : Int) + ((decS (pieceA fed a)).2.2.1))) (wt0 rfl) rfl rfl (x_bin rfl rfl rfl (b_add (w64 (by omega)))) ?_)
              refine l_of (s_val (v := .pointer (some ⟨g4, 9, none⟩)) (wt0 rfl) rfl rfl (x_fieldAddr rfl rfl fo62_5 rfl) ?_)
              refine l_of (s_store H138 3 (wt0 rfl) rfl rfl rfl rfl rfl sz3 rfl rfl (cs' := #[.bool ((readR (helloA fed)).1.e), .bool ((readR (helloA fed)).1.f), .bool ((readR (helloA fed)).1.n), .string ((readR (helloA fed)).1.name), .string ((readR (helloA fed)).1.peer), .bool true, .slice q1 l.length d1, .slice q2 es.length d2, .int .i64 68, .int .i64 ((a : Int) + ((decS (pieceA fed a)).2.2.1))]) rfl ?_)
              intro wq140 H141
              refine g_nil ?_
              refine g_then ?_
              refine g_weak [(2, .pointer (some ⟨g1, 0, none⟩)), (3, .pointer (some ⟨g4, 0, none⟩))] ⟨rfl, rfl, trivial⟩ ?_
              refine g_seq ?_
              refine g_region ?_
              refine l_of (s_val (v := .agg #[.bool ((readR (helloA fed)).1.e), .bool ((readR (helloA fed)).1.f), .bool ((readR (helloA fed)).1.n), .string ((readR (helloA fed)).1.name), .string ((readR (helloA fed)).1.peer), .bool true, .slice q1 l.length d1, .slice q2 es.length d2, .int .i64 68, .int .i64 ((a : Int) + ((decS (pieceA fed a)).2.2.1))]) (wt0 rfl) rfl rfl (x_loadA H141 3 rfl rfl Try.underlying62 rfl sz62 rfl rfl rfl) ?_)
              refine l_of (s_store H141 4 (wt0 rfl) rfl rfl rfl rfl rfl sz62 rfl rfl (cs' := #[.bool ((readR (helloA fed)).1.e), .bool ((readR (helloA fed)).1.f), .bool ((readR (helloA fed)).1.n), .string ((readR (helloA fed)).1.name), .string ((readR (helloA fed)).1.peer), .bool true, .slice q1 l.length d1, .slice q2 es.length d2, .int .i64 68, .int .i64 ((a : Int) + ((decS (pieceA fed a)).2.2.1))]) rfl ?_)
              intro wq142 H143
              refine g_nil ?_
              refine g_then ?_
              refine g_ret ?_
              refine g_then_ret ?_
              refine g_in_ret ?_
              refine g_then_ret ?_
              refine g_in_ret ?_
              refine fin_ret [.cell 2 62] [.agg #[.bool ((readR (helloA fed)).1.e), .bool ((readR (helloA fed)).1.f), .bool ((readR (helloA fed)).1.n), .string ((readR (helloA fed)).1.name), .string ((readR (helloA fed)).1.peer), .bool true, .slice q1 l.length d1, .slice q2 es.length d2, .int .i64 68, .int .i64 ((a : Int) + ((decS (pieceA fed a)).2.2.1))]] rfl ⟨⟨_, rfl, run_loadA (H143.ob (k := 4) rfl) Try.underlying62 rfl sz62 rfl rfl⟩, trivial⟩ ?_
              unfold wholeR
              rw [if_pos hb10, if_neg hb115, if_pos hb120]
              rw [(hst.symm.trans (readAll_bad hk hb139))]
              exact ⟨q1, d1, q2, d2, rfl, H143.mask [false, true, true, false, false, true]⟩
            · skip
              skip
              refine g_cond_f rfl (decide_eq_false hb139) ?_
              refine g_skip ?_
              refine g_then ?_
              refine g_seq ?_
              refine g_seq ?_
              refine g_region ?_
              refine l_of (s_val (v := .int .i64 ((decS (pieceA fed a)).2.2.2)) (wt0 rfl) rfl rfl (x_move rfl rfl) ?_)
              refine l_of (s_val (v := .bool (!decide (((decS (pieceA fed a)).2.2.2 : Int) = 0))) (wt0 rfl) rfl rfl (x_bin rfl rfl rfl b_neq) ?_)
              refine g_nil ?_
              refine g_then ?_
              by_cases hb144 : ((decS (pieceA fed a)).2.2.2 : Int) = 0
              · skip
                skip
                refine g_cond_f rfl (nf hb144) ?_
                refine g_skip ?_
                refine g_then ?_
                refine g_seq ?_
                refine g_region ?_
                refine l_of (s_val (v := .int .i64 ((a : Int))) (wt0 rfl) rfl rfl (x_move rfl rfl) ?_)
                refine l_of (s_val (v := .int .i64 ((decS (pieceA fed a)).2.1)) (wt0 rfl) rfl rfl (x_move rfl rfl) ?_)
                refine l_of (s_val (v := .int .i64 ((a : Int) + ((decS (pieceA fed a)).2.1))) (wt0 rfl) rfl rfl (x_bin rfl rfl rfl (b_add (w64 (by omega)))) ?_)
                refine l_of (s_val (v := .int .i64 ((a : Int) + ((decS (pieceA fed a)).2.1))) (wt0 rfl) rfl rfl (x_assign rfl rfl) ?_)
                refine g_nil ?_
                refine g_then ?_
                refine g_seq ?_
                refine g_region ?_
                refine l_of (s_val (v := .pointer (some ⟨g4, 6, none⟩)) (wt0 rfl) rfl rfl (x_fieldAddr rfl rfl fo62_2 rfl) ?_)
                refine l_of (s_val (v := .slice q1 l.length d1) (wt0 rfl) rfl rfl (x_load1 H138 3 rfl rfl Try.underlying46 rfl rfl rfl) ?_)
                refine l_of (s_val (v := .agg (decS (pieceA fed a)).1.cells) (wt0 rfl) rfl rfl (x_loadA H138 0 rfl rfl Try.underlying33 rfl sz33 rfl rfl rfl) ?_)
                refine l_of (s_buildSlice H138 (wt0 rfl) rfl rfl rfl (vs := [.agg (decS (pieceA fed a)).1.cells]) rfl Try.underlying46 sz33 ze33 rfl rfl (cells := (decS (pieceA fed a)).1.cells) (by kernel_rfl) ?_)
                intro g145 wq146 H147
                refine l_of (s_appendR (n := l.length) (m := 1) (sc := d1) (xs := (msgsV l)) (news := ((decS (pieceA fed a)).1.cells).toList) (p := q1) (ad := ⟨g145, 0, none⟩) H147 2 (wt0 rfl) rfl rfl rfl rfl rfl rfl Try.underlying46 inf33 rfl (by decide) (by decide) rfl (by decide) (news_ob H147 (j0 := 0) rfl) rfl (by omega) ?_)
                intro p148 c149 wq150 (H151 : S wq150 [Ob g145 (.cells (decS (pieceA fed a)).1.cells 33 (0, 0)), Ob g134 (.cells (decS (pieceA fed a)).1.cells 33 (0, 0)), Rw 33 8 p148 (l.length + 1) c149 ((msgsV l) ++ ((decS (pieceA fed a)).1.cells).toList), Rw 3 1 q2 es.length d2 (zsV es), Ob g4 (.cells #[.bool ((readR (helloA fed)).1.e), .bool ((readR (helloA fed)).1.f), .bool ((readR (helloA fed)).1.n), .string ((readR (helloA fed)).1.name), .string ((readR (helloA fed)).1.peer), .bool true, .slice q1 l.length d1, .slice q2 es.length d2, .int .i64 68, .int .i64 (-1)] 62 (0, 0)), Ob g1 (.cells #[.bool false, .bool false, .bool false, .string (⟨#[]⟩), .string (⟨#[]⟩), .bool false, .slice none 0 0, .slice none 0 0, .int .i64 0, .int .i64 0] 62 (0, 0)), Old w no])
                refine l_of (s_val (v := .pointer (some ⟨g4, 6, none⟩)) (wt0 rfl) rfl rfl (x_fieldAddr rfl rfl fo62_2 rfl) ?_)
                refine l_of (s_store H151 4 (wt0 rfl) rfl rfl rfl rfl rfl sz46 rfl rfl (cs' := #[.bool ((readR (helloA fed)).1.e), .bool ((readR (helloA fed)).1.f), .bool ((readR (helloA fed)).1.n), .string ((readR (helloA fed)).1.name), .string ((readR (helloA fed)).1.peer), .bool true, .slice p148 (l.length + 1) c149, .slice q2 es.length d2, .int .i64 68, .int .i64 (-1)]) rfl ?_)
                intro wq152 H153
                refine g_nil ?_
                refine g_then ?_
                refine g_weak [(0, .pointer (some ⟨gw, 0, none⟩)), (2, .pointer (some ⟨g1, 0, none⟩)), (3, .pointer (some ⟨g4, 0, none⟩)), (4, .int .i64 ((a : Int) + ((decS (pieceA fed a)).2.1)))] ⟨rfl, rfl, rfl, rfl, trivial⟩ ?_
                refine g_region ?_
                refine l_of (s_val (v := .pointer (some ⟨g4, 7, none⟩)) (wt0 rfl) rfl rfl (x_fieldAddr rfl rfl fo62_3 rfl) ?_)
                refine l_of (s_val (v := .slice q2 es.length d2) (wt0 rfl) rfl rfl (x_load1 H153 4 rfl rfl Try.underlying60 rfl rfl rfl) ?_)
                refine l_of (s_val (v := .int .i64 ((a : Int) + ((decS (pieceA fed a)).2.1))) (wt0 rfl) rfl rfl (x_move rfl rfl) ?_)
                refine l_of (s_buildSlice H153 (wt0 rfl) rfl rfl rfl (vs := [.int .i64 ((a : Int) + ((decS (pieceA fed a)).2.1))]) rfl Try.underlying60 sz3 ze3 rfl rfl (cells := #[.int .i64 ((a : Int) + ((decS (pieceA fed a)).2.1))]) (by kernel_rfl) ?_)
                intro g154 wq155 H156
                refine l_of (s_appendR (n := es.length) (m := 1) (sc := d2) (xs := (zsV es)) (news := [.int .i64 ((a : Int) + ((decS (pieceA fed a)).2.1))]) (p := q2) (ad := ⟨g154, 0, none⟩) H156 4 (wt0 rfl) rfl rfl rfl rfl rfl rfl Try.underlying60 inf3 rfl (by decide) (by decide) rfl (by decide) (news_ob H156 (j0 := 0) rfl) rfl (by omega) ?_)
                intro p157 c158 wq159 (H160 : S wq159 [Ob g154 (.cells #[.int .i64 ((a : Int) + ((decS (pieceA fed a)).2.1))] 3 (0, 0)), Ob g145 (.cells (decS (pieceA fed a)).1.cells 33 (0, 0)), Ob g134 (.cells (decS (pieceA fed a)).1.cells 33 (0, 0)), Rw 33 8 p148 (l.length + 1) c149 ((msgsV l) ++ ((decS (pieceA fed a)).1.cells).toList), Rw 3 1 p157 (es.length + 1) c158 ((zsV es) ++ [.int .i64 ((a : Int) + ((decS (pieceA fed a)).2.1))]), Ob g4 (.cells #[.bool ((readR (helloA fed)).1.e), .bool ((readR (helloA fed)).1.f), .bool ((readR (helloA fed)).1.n), .string ((readR (helloA fed)).1.name), .string ((readR (helloA fed)).1.peer), .bool true, .slice p148 (l.length + 1) c149, .slice q2 es.length d2, .int .i64 68, .int .i64 (-1)] 62 (0, 0)), Ob g1 (.cells #[.bool false, .bool false, .bool false, .string (⟨#[]⟩), .string (⟨#[]⟩), .bool false, .slice none 0 0, .slice none 0 0, .int .i64 0, .int .i64 0] 62 (0, 0)), Old w no])
                refine l_of (s_val (v := .pointer (some ⟨g4, 7, none⟩)) (wt0 rfl) rfl rfl (x_fieldAddr rfl rfl fo62_3 rfl) ?_)
                refine l_of (s_store H160 5 (wt0 rfl) rfl rfl rfl rfl rfl sz60 rfl rfl (cs' := #[.bool ((readR (helloA fed)).1.e), .bool ((readR (helloA fed)).1.f), .bool ((readR (helloA fed)).1.n), .string ((readR (helloA fed)).1.name), .string ((readR (helloA fed)).1.peer), .bool true, .slice p148 (l.length + 1) c149, .slice p157 (es.length + 1) c158, .int .i64 68, .int .i64 (-1)]) rfl ?_)
                intro wq161 H162
                refine g_nil ?_
                refine g_in ?_
                refine g_then ?_
                have H163 : S wq161 [Rw 33 8 p148 (l.length + 1) c149 ((msgsV l) ++ ((decS (pieceA fed a)).1.cells).toList), Rw 3 1 p157 (es.length + 1) c158 ((zsV es) ++ [.int .i64 ((a : Int) + ((decS (pieceA fed a)).2.1))]), Ob g4 (.cells #[.bool ((readR (helloA fed)).1.e), .bool ((readR (helloA fed)).1.f), .bool ((readR (helloA fed)).1.n), .string ((readR (helloA fed)).1.name), .string ((readR (helloA fed)).1.peer), .bool true, .slice p148 (l.length + 1) c149, .slice p157 (es.length + 1) c158, .int .i64 68, .int .i64 (-1)] 62 (0, 0)), Ob g1 (.cells #[.bool false, .bool false, .bool false, .string (⟨#[]⟩), .string (⟨#[]⟩), .bool false, .slice none 0 0, .slice none 0 0, .int .i64 0, .int .i64 0] 62 (0, 0)), Old w no] := H162.mask [false, false, false, true, true, true, true, true]
                rw [← msgsV_snoc, ← zsV_snoc, ← len_snoc, ← len_snoc] at H163
                have hau : (a : Int) + (decS (pieceA fed a)).2.1 = ((a + (decS (pieceA fed a)).2.1.toNat : Nat) : Int) := by have := hdu.1 hb144; omega
                rw [hau]
                refine g_round (i := (n, a, l, es, q1, d1, q2, d2)) (n - 1, a + (decS (pieceA fed a)).2.1.toNat, l ++ [(decS (pieceA fed a)).1], es ++ [(a : Int) + (decS (pieceA fed a)).2.1], p148, c149, p157, c158) ?_ ?_ ?_
                · exact ⟨rfl, rfl, rfl, rfl, trivial⟩
                · exact ⟨by omega, ((readAll_next hk hb139 hb144).symm.trans hst), by omega, ⟨by rw [List.length_append, List.length_singleton]; omega, by rw [List.length_append, List.length_append, hll.2]; rfl⟩, H163⟩
                · (try dsimp only); omega
              · skip
                skip
                refine g_cond_t rfl (nt hb144) ?_
                refine g_seq ?_
                refine g_region ?_
                refine l_of (s_val (v := .agg #[.bool ((readR (helloA fed)).1.e), .bool ((readR (helloA fed)).1.f), .bool ((readR (helloA fed)).1.n), .string ((readR (helloA fed)).1.name), .string ((readR (helloA fed)).1.peer), .bool true, .slice q1 l.length d1, .slice q2 es.length d2, .int .i64 68, .int .i64 (-1)]) (wt0 rfl) rfl rfl (x_loadA H138 3 rfl rfl Try.underlying62 rfl sz62 rfl rfl rfl) ?_)
                refine l_of (s_store H138 4 (wt0 rfl) rfl rfl rfl rfl rfl sz62 rfl rfl (cs' := #[.bool ((readR (helloA fed)).1.e), .bool ((readR (helloA fed)).1.f), .bool ((readR (helloA fed)).1.n), .string ((readR (helloA fed)).1.name), .string ((readR (helloA fed)).1.peer), .bool true, .slice q1 l.length d1, .slice q2 es.length d2, .int .i64 68, .int .i64 (-1)]) rfl ?_)
                intro wq164 H165
                refine g_nil ?_
                refine g_then ?_
                refine g_weak [(2, .pointer (some ⟨g1, 0, none⟩))] ⟨rfl, trivial⟩ ?_
                refine g_ret ?_
                refine g_then_ret ?_
                refine g_in_ret ?_
                refine g_then_ret ?_
                refine g_in_ret ?_
                refine fin_ret [.cell 2 62] [.agg #[.bool ((readR (helloA fed)).1.e), .bool ((readR (helloA fed)).1.f), .bool ((readR (helloA fed)).1.n), .string ((readR (helloA fed)).1.name), .string ((readR (helloA fed)).1.peer), .bool true, .slice q1 l.length d1, .slice q2 es.length d2, .int .i64 68, .int .i64 (-1)]] rfl ⟨⟨_, rfl, run_loadA (H165.ob (k := 4) rfl) Try.underlying62 rfl sz62 rfl rfl⟩, trivial⟩ ?_
                unfold wholeR
                rw [if_pos hb10, if_neg hb115, if_pos hb120]
                rw [(hst.symm.trans (readAll_end hk hb139 hb144))]
                exact ⟨q1, d1, q2, d2, rfl, H165.mask [false, true, true, false, false, true]⟩
          · skip
            refine s_alloc H130 (wt0 rfl) rfl rfl rfl ze33 ?_
            intro g166 wq167 H168
            refine y_k (H168.mask [false, true, true, true, true, true]) (H168.mask [false, true, true, true, true, true]) ?_
            refine y_one (i := 15) (by kernel_rfl) rfl ?_
            refine s_call (wt0 rfl) (x_call' rfl rfl cl21) (decode_r _ _) ?_
            rintro _ wq169 ⟨rfl, H170⟩
            replace H170 : S wq169 [Ob g166 (.cells #[.int .i64 0, .int .i64 0, .int .i64 0, .int .i64 0, .int .i64 0, .int .i64 0, .string (⟨#[]⟩), .string (⟨#[]⟩)] 33 (0, 0)), Rw 33 8 q1 l.length d1 (msgsV l), Rw 3 1 q2 es.length d2 (zsV es), Ob g4 (.cells #[.bool ((readR (helloA fed)).1.e), .bool ((readR (helloA fed)).1.f), .bool ((readR (helloA fed)).1.n), .string ((readR (helloA fed)).1.name), .string ((readR (helloA fed)).1.peer), .bool true, .slice q1 l.length d1, .slice q2 es.length d2, .int .i64 68, .int .i64 (-1)] 62 (0, 0)), Ob g1 (.cells #[.bool false, .bool false, .bool false, .string (⟨#[]⟩), .string (⟨#[]⟩), .bool false, .slice none 0 0, .slice none 0 0, .int .i64 0, .int .i64 0] 62 (0, 0)), Old w no] := H168.absorb (new := []) H170
            refine b_ret rfl rfl ?_
            refine y_k (H170.mask [false, true, true, true, true, true]) (H170.mask [false, true, true, true, true, true]) ?_
            refine y_pure (v := .tuple #[.agg (decS (pieceA fed a)).1.cells, .int .i64 ((decS (pieceA fed a)).2.1), .int .i64 ((decS (pieceA fed a)).2.2.1), .int .i64 ((decS (pieceA fed a)).2.2.2)]) 16 rfl (wt0 rfl) rfl rfl rfl (by kernel_rfl) (by kernel_rfl) (by kernel_rfl) (by kernel_rfl) (fun wx => x_move rfl rfl) ?_
            refine y_pure (v := .agg (decS (pieceA fed a)).1.cells) 17 rfl (wt0 rfl) rfl rfl rfl (by kernel_rfl) (by kernel_rfl) (by kernel_rfl) (by kernel_rfl) (fun wx => x_extract rfl rfl rfl) ?_
            refine y_pure (v := .int .i64 ((decS (pieceA fed a)).2.1)) 18 rfl (wt0 rfl) rfl rfl rfl (by kernel_rfl) (by kernel_rfl) (by kernel_rfl) (by kernel_rfl) (fun wx => x_extract rfl rfl rfl) ?_
            refine y_pure (v := .int .i64 ((decS (pieceA fed a)).2.2.1)) 19 rfl (wt0 rfl) rfl rfl rfl (by kernel_rfl) (by kernel_rfl) (by kernel_rfl) (by kernel_rfl) (fun wx => x_extract rfl rfl rfl) ?_
            refine y_pure (v := .int .i64 ((decS (pieceA fed a)).2.2.2)) 20 rfl (wt0 rfl) rfl rfl rfl (by kernel_rfl) (by kernel_rfl) (by kernel_rfl) (by kernel_rfl) (fun wx => x_extract rfl rfl rfl) ?_
            refine y_one (i := 22) (by kernel_rfl) rfl ?_
            refine s_store H170 0 (wt0 rfl) rfl rfl rfl rfl rfl sz33 rfl rfl (cs' := (decS (pieceA fed a)).1.cells) rfl ?_
            intro wq171 H172
            refine y_k (H172.mask [false, true, true, true, true, true]) (H172.mask [false, true, true, true, true, true]) ?_
            refine y_pure (v := .int .i64 ((decS (pieceA fed a)).2.1)) 23 rfl (wt0 rfl) rfl rfl rfl (by kernel_rfl) (by kernel_rfl) (by kernel_rfl) (by kernel_rfl) (fun wx => x_assign rfl rfl) ?_
            refine y_pure (v := .int .i64 ((decS (pieceA fed a)).2.2.1)) 24 rfl (wt0 rfl) rfl rfl rfl (by kernel_rfl) (by kernel_rfl) (by kernel_rfl) (by kernel_rfl) (fun wx => x_assign rfl rfl) ?_
            refine y_pure (v := .int .i64 ((decS (pieceA fed a)).2.2.2)) 25 rfl (wt0 rfl) rfl rfl rfl (by kernel_rfl) (by kernel_rfl) (by kernel_rfl) (by kernel_rfl) (fun wx => x_assign rfl rfl) ?_
            refine y_done (by kernel_rfl) ?_
            refine g_then ?_
            refine g_weak [(0, .pointer (some ⟨gw, 0, none⟩)), (2, .pointer (some ⟨g1, 0, none⟩)), (3, .pointer (some ⟨g4, 0, none⟩)), (4, .int .i64 ((a : Int))), (9, .pointer (some ⟨g166, 0, none⟩)), (10, .int .i64 ((decS (pieceA fed a)).2.1)), (11, .int .i64 ((decS (pieceA fed a)).2.2.1)), (12, .int .i64 ((decS (pieceA fed a)).2.2.2))] ⟨rfl, rfl, rfl, rfl, rfl, rfl, rfl, rfl, trivial⟩ ?_
            refine g_seq ?_
            refine g_seq ?_
            refine g_region ?_
            refine l_of (s_val (v := .int .i64 ((decS (pieceA fed a)).2.2.2)) (wt0 rfl) rfl rfl (x_move rfl rfl) ?_)
            refine l_of (s_val (v := .bool (decide (((decS (pieceA fed a)).2.2.2 : Int) = 12))) (wt0 rfl) rfl rfl (x_bin rfl rfl rfl b_eql) ?_)
            refine g_nil ?_
            refine g_then ?_
            by_cases hb173 : ((decS (pieceA fed a)).2.2.2 : Int) = 12
            · skip
              skip
              refine g_cond_t rfl (decide_eq_true hb173) ?_
              refine g_seq ?_
              refine g_region ?_
              refine l_of (s_val (v := .int .i64 ((a : Int))) (wt0 rfl) rfl rfl (x_move rfl rfl) ?_)
              refine l_of (s_val (v := .int .i64 ((decS (pieceA fed a)).2.2.1)) (wt0 rfl) rfl rfl (x_move rfl rfl) ?_)
              refine l_of (s_val (v := .int .i64 ((a : Int) + ((decS (pieceA fed a)).2.2.1))) (wt0 rfl) rfl rfl (x_bin rfl rfl rfl (b_add (w64 (by omega)))) ?_)
              refine l_of (s_val (v := .pointer (some ⟨g4, 9, none⟩)) (wt0 rfl) rfl rfl (x_fieldAddr rfl rfl fo62_5 rfl) ?_)
              refine l_of (s_store H172 3 (wt0 rfl) rfl rfl rfl rfl rfl sz3 rfl rfl (cs' := #[.bool ((readR (helloA fed)).1.e), .bool ((readR (helloA fed)).1.f), .bool ((readR (helloA fed)).1.n), .string ((readR (helloA fed)).1.name), .string ((readR (helloA fed)).1.peer), .bool true, .slice q1 l.length d1, .slice q2 es.length d2, .int .i64 68, .int .i64 ((a : Int) + ((decS (pieceA fed a)).2.2.1))]) rfl ?_)
              intro wq174 H175
              refine g_nil ?_
              refine g_then ?_
              refine g_weak [(2, .pointer (some ⟨g1, 0, none⟩)), (3, .pointer (some ⟨g4, 0, none⟩))] ⟨rfl, rfl, trivial⟩ ?_
              refine g_seq ?_
              refine g_region ?_
              refine l_of (s_val (v := .agg #[.bool ((readR (helloA fed)).1.e), .bool ((readR (helloA fed)).1.f), .bool ((readR (helloA fed)).1.n), .string ((readR (helloA fed)).1.name), .string ((readR (helloA fed)).1.peer), .bool true, .slice q1 l.length d1, .slice q2 es.length d2, .int .i64 68, .int .i64 ((a : Int) + ((decS (pieceA fed a)).2.2.1))]) (wt0 rfl) rfl rfl (x_loadA H175 3 rfl rfl Try.underlying62 rfl sz62 rfl rfl rfl) ?_)
              refine l_of (s_store H175 4 (wt0 rfl) rfl rfl rfl rfl rfl sz62 rfl rfl (cs' := #[.bool ((readR (helloA fed)).1.e), .bool ((readR (helloA fed)).1.f), .bool ((readR (helloA fed)).1.n), .string ((readR (helloA fed)).1.name), .string ((readR (helloA fed)).1.peer), .bool true, .slice q1 l.length d1, .slice q2 es.length d2, .int .i64 68, .int .i64 ((a : Int) + ((decS (pieceA fed a)).2.2.1))]) rfl ?_)
              intro wq176 H177
              refine g_nil ?_
              refine g_then ?_
              refine g_ret ?_
              refine g_then_ret ?_
              refine g_in_ret ?_
              refine g_then_ret ?_
              refine g_in_ret ?_
              refine fin_ret [.cell 2 62] [.agg #[.bool ((readR (helloA fed)).1.e), .bool ((readR (helloA fed)).1.f), .bool ((readR (helloA fed)).1.n), .string ((readR (helloA fed)).1.name), .string ((readR (helloA fed)).1.peer), .bool true, .slice q1 l.length d1, .slice q2 es.length d2, .int .i64 68, .int .i64 ((a : Int) + ((decS (pieceA fed a)).2.2.1))]] rfl ⟨⟨_, rfl, run_loadA (H177.ob (k := 4) rfl) Try.underlying62 rfl sz62 rfl rfl⟩, trivial⟩ ?_
              unfold wholeR
              rw [if_pos hb10, if_neg hb115, if_pos hb120]
              rw [(hst.symm.trans (readAll_bad hk hb173))]
              exact ⟨q1, d1, q2, d2, rfl, H177.mask [false, true, true, false, false, true]⟩
            · skip
              skip
              refine g_cond_f rfl (decide_eq_false hb173) ?_
              refine g_skip ?_
              refine g_then ?_
              refine g_seq ?_
              refine g_seq ?_
              refine g_region ?_
              refine l_of (s_val (v := .int .i64 ((decS (pieceA fed a)).2.2.2)) (wt0 rfl) rfl rfl (x_move rfl rfl) ?_)
              refine l_of (s_val (v := .bool (!decide (((decS (pieceA fed a)).2.2.2 : Int) = 0))) (wt0 rfl) rfl rfl (x_bin rfl rfl rfl b_neq) ?_)
              refine g_nil ?_
              refine g_then ?_
              by_cases hb178 : ((decS (pieceA fed a)).2.2.2 : Int) = 0
              · skip
                skip
                refine g_cond_f rfl (nf hb178) ?_
                refine g_skip ?_
                refine g_then ?_
                refine g_seq ?_
                refine g_region ?_
                refine l_of (s_val (v := .int .i64 ((a : Int))) (wt0 rfl) rfl rfl (x_move rfl rfl) ?_)
                refine l_of (s_val (v := .int .i64 ((decS (pieceA fed a)).2.1)) (wt0 rfl) rfl rfl (x_move rfl rfl) ?_)
                refine l_of (s_val (v := .int .i64 ((a : Int) + ((decS (pieceA fed a)).2.1))) (wt0 rfl) rfl rfl (x_bin rfl rfl rfl (b_add (w64 (by omega)))) ?_)
                refine l_of (s_val (v := .int .i64 ((a : Int) + ((decS (pieceA fed a)).2.1))) (wt0 rfl) rfl rfl (x_assign rfl rfl) ?_)
                refine g_nil ?_
                refine g_then ?_
                refine g_seq ?_
                refine g_region ?_
                refine l_of (s_val (v := .pointer (some ⟨g4, 6, none⟩)) (wt0 rfl) rfl rfl (x_fieldAddr rfl rfl fo62_2 rfl) ?_)
                refine l_of (s_val (v := .slice q1 l.length d1) (wt0 rfl) rfl rfl (x_load1 H172 3 rfl rfl Try.underlying46 rfl rfl rfl) ?_)
                refine l_of (s_val (v := .agg (decS (pieceA fed a)).1.cells) (wt0 rfl) rfl rfl (x_loadA H172 0 rfl rfl Try.underlying33 rfl sz33 rfl rfl rfl) ?_)
                refine l_of (s_buildSlice H172 (wt0 rfl) rfl rfl rfl (vs := [.agg (decS (pieceA fed a)).1.cells]) rfl Try.underlying46 sz33 ze33 rfl rfl (cells := (decS (pieceA fed a)).1.cells) (by kernel_rfl) ?_)
                intro g179 wq180 H181
                refine l_of (s_appendR (n := l.length) (m := 1) (sc := d1) (xs := (msgsV l)) (news := ((decS (pieceA fed a)).1.cells).toList) (p := q1) (ad := ⟨g179, 0, none⟩) H181 2 (wt0 rfl) rfl rfl rfl rfl rfl rfl Try.underlying46 inf33 rfl (by decide) (by decide) rfl (by decide) (news_ob H181 (j0 := 0) rfl) rfl (by omega) ?_)
                intro p182 c183 wq184 (H185 : S wq184 [Ob g179 (.cells (decS (pieceA fed a)).1.cells 33 (0, 0)), Ob g166 (.cells (decS (pieceA fed a)).1.cells 33 (0, 0)), Rw 33 8 p182 (l.length + 1) c183 ((msgsV l) ++ ((decS (pieceA fed a)).1.cells).toList), Rw 3 1 q2 es.length d2 (zsV es), Ob g4 (.cells #[.bool ((readR (helloA fed)).1.e), .bool ((readR (helloA fed)).1.f), .bool ((readR (helloA fed)).1.n), .string ((readR (helloA fed)).1.name), .string ((readR (helloA fed)).1.peer), .bool true, .slice q1 l.length d1, .slice q2 es.length d2, .int .i64 68, .int .i64 (-1)] 62 (0, 0)), Ob g1 (.cells #[.bool false, .bool false, .bool false, .string (⟨#[]⟩), .string (⟨#[]⟩), .bool false, .slice none 0 0, .slice none 0 0, .int .i64 0, .int .i64 0] 62 (0, 0)), Old w no])
                refine l_of (s_val (v := .pointer (some ⟨g4, 6, none⟩)) (wt0 rfl) rfl rfl (x_fieldAddr rfl rfl fo62_2 rfl) ?_)
                refine l_of (s_store H185 4 (wt0 rfl) rfl rfl rfl rfl rfl sz46 rfl rfl (cs' := #[.bool ((readR (helloA fed)).1.e), .bool ((readR (helloA fed)).1.f), .bool ((readR (helloA fed)).1.n), .string ((readR (helloA fed)).1.name), .string ((readR (helloA fed)).1.peer), .bool true, .slice p182 (l.length + 1) c183, .slice q2 es.length d2, .int .i64 68, .int .i64 (-1)]) rfl ?_)
                intro wq186 H187
                refine g_nil ?_
                refine g_then ?_
                refine g_weak [(0, .pointer (some ⟨gw, 0, none⟩)), (2, .pointer (some ⟨g1, 0, none⟩)), (3, .pointer (some ⟨g4, 0, none⟩)), (4, .int .i64 ((a : Int) + ((decS (pieceA fed a)).2.1)))] ⟨rfl, rfl, rfl, rfl, trivial⟩ ?_
                refine g_region ?_
                refine l_of (s_val (v := .pointer (some ⟨g4, 7, none⟩)) (wt0 rfl) rfl rfl (x_fieldAddr rfl rfl fo62_3 rfl) ?_)
                refine l_of (s_val (v := .slice q2 es.length d2) (wt0 rfl) rfl rfl (x_load1 H187 4 rfl rfl Try.underlying60 rfl rfl rfl) ?_)
                refine l_of (s_val (v := .int .i64 ((a : Int) + ((decS (pieceA fed a)).2.1))) (wt0 rfl) rfl rfl (x_move rfl rfl) ?_)
                refine l_of (s_buildSlice H187 (wt0 rfl) rfl rfl rfl (vs := [.int .i64 ((a : Int) + ((decS (pieceA fed a)).2.1))]) rfl Try.underlying60 sz3 ze3 rfl rfl (cells := #[.int .i64 ((a : Int) + ((decS (pieceA fed a)).2.1))]) (by kernel_rfl) ?_)
                intro g188 wq189 H190
                refine l_of (s_appendR (n := es.length) (m := 1) (sc := d2) (xs := (zsV es)) (news := [.int .i64 ((a : Int) + ((decS (pieceA fed a)).2.1))]) (p := q2) (ad := ⟨g188, 0, none⟩) H190 4 (wt0 rfl) rfl rfl rfl rfl rfl rfl Try.underlying60 inf3 rfl (by decide) (by decide) rfl (by decide) (news_ob H190 (j0 := 0) rfl) rfl (by omega) ?_)
                intro p191 c192 wq193 (H194 : S wq193 [Ob g188 (.cells #[.int .i64 ((a : Int) + ((decS (pieceA fed a)).2.1))] 3 (0, 0)), Ob g179 (.cells (decS (pieceA fed a)).1.cells 33 (0, 0)), Ob g166 (.cells (decS (pieceA fed a)).1.cells 33 (0, 0)), Rw 33 8 p182 (l.length + 1) c183 ((msgsV l) ++ ((decS (pieceA fed a)).1.cells).toList), Rw 3 1 p191 (es.length + 1) c192 ((zsV es) ++ [.int .i64 ((a : Int) + ((decS (pieceA fed a)).2.1))]), Ob g4 (.cells #[.bool ((readR (helloA fed)).1.e), .bool ((readR (helloA fed)).1.f), .bool ((readR (helloA fed)).1.n), .string ((readR (helloA fed)).1.name), .string ((readR (helloA fed)).1.peer), .bool true, .slice p182 (l.length + 1) c183, .slice q2 es.length d2, .int .i64 68, .int .i64 (-1)] 62 (0, 0)), Ob g1 (.cells #[.bool false, .bool false, .bool false, .string (⟨#[]⟩), .string (⟨#[]⟩), .bool false, .slice none 0 0, .slice none 0 0, .int .i64 0, .int .i64 0] 62 (0, 0)), Old w no])
                refine l_of (s_val (v := .pointer (some ⟨g4, 7, none⟩)) (wt0 rfl) rfl rfl (x_fieldAddr rfl rfl fo62_3 rfl) ?_)
                refine l_of (s_store H194 5 (wt0 rfl) rfl rfl rfl rfl rfl sz60 rfl rfl (cs' := #[.bool ((readR (helloA fed)).1.e), .bool ((readR (helloA fed)).1.f), .bool ((readR (helloA fed)).1.n), .string ((readR (helloA fed)).1.name), .string ((readR (helloA fed)).1.peer), .bool true, .slice p182 (l.length + 1) c183, .slice p191 (es.length + 1) c192, .int .i64 68, .int .i64 (-1)]) rfl ?_)
                intro wq195 H196
                refine g_nil ?_
                refine g_in ?_
                refine g_then ?_
                have H197 : S wq195 [Rw 33 8 p182 (l.length + 1) c183 ((msgsV l) ++ ((decS (pieceA fed a)).1.cells).toList), Rw 3 1 p191 (es.length + 1) c192 ((zsV es) ++ [.int .i64 ((a : Int) + ((decS (pieceA fed a)).2.1))]), Ob g4 (.cells #[.bool ((readR (helloA fed)).1.e), .bool ((readR (helloA fed)).1.f), .bool ((readR (helloA fed)).1.n), .string ((readR (helloA fed)).1.name), .string ((readR (helloA fed)).1.peer), .bool true, .slice p182 (l.length + 1) c183, .slice p191 (es.length + 1) c192, .int .i64 68, .int .i64 (-1)] 62 (0, 0)), Ob g1 (.cells #[.bool false, .bool false, .bool false, .string (⟨#[]⟩), .string (⟨#[]⟩), .bool false, .slice none 0 0, .slice none 0 0, .int .i64 0, .int .i64 0] 62 (0, 0)), Old w no] := H196.mask [false, false, false, true, true, true, true, true]
                rw [← msgsV_snoc, ← zsV_snoc, ← len_snoc, ← len_snoc] at H197
                have hau : (a : Int) + (decS (pieceA fed a)).2.1 = ((a + (decS (pieceA fed a)).2.1.toNat : Nat) : Int) := by have := hdu.1 hb178; omega
                rw [hau]
                refine g_round (i := (n, a, l, es, q1, d1, q2, d2)) (n - 1, a + (decS (pieceA fed a)).2.1.toNat, l ++ [(decS (pieceA fed a)).1], es ++ [(a : Int) + (decS (pieceA fed a)).2.1], p182, c183, p191, c192) ?_ ?_ ?_
                · exact ⟨rfl, rfl, rfl, rfl, trivial⟩
                · exact ⟨by omega, ((readAll_next hk hb173 hb178).symm.trans hst), by omega, ⟨by rw [List.length_append, List.length_singleton]; omega, by rw [List.length_append, List.length_append, hll.2]; rfl⟩, H197⟩
                · (try dsimp only); omega
              · skip
                skip
                refine g_cond_t rfl (nt hb178) ?_
                refine g_seq ?_
                refine g_region ?_
                refine l_of (s_val (v := .agg #[.bool ((readR (helloA fed)).1.e), .bool ((readR (helloA fed)).1.f), .bool ((readR (helloA fed)).1.n), .string ((readR (helloA fed)).1.name), .string ((readR (helloA fed)).1.peer), .bool true, .slice q1 l.length d1, .slice q2 es.length d2, .int .i64 68, .int .i64 (-1)]) (wt0 rfl) rfl rfl (x_loadA H172 3 rfl rfl Try.underlying62 rfl sz62 rfl rfl rfl) ?_)
                refine l_of (s_store H172 4 (wt0 rfl) rfl rfl rfl rfl rfl sz62 rfl rfl (cs' := #[.bool ((readR (helloA fed)).1.e), .bool ((readR (helloA fed)).1.f), .bool ((readR (helloA fed)).1.n), .string ((readR (helloA fed)).1.name), .string ((readR (helloA fed)).1.peer), .bool true, .slice q1 l.length d1, .slice q2 es.length d2, .int .i64 68, .int .i64 (-1)]) rfl ?_)
                intro wq198 H199
                refine g_nil ?_
                refine g_then ?_
                refine g_weak [(2, .pointer (some ⟨g1, 0, none⟩))] ⟨rfl, trivial⟩ ?_
                refine g_ret ?_
                refine g_then_ret ?_
                refine g_in_ret ?_
                refine g_then_ret ?_
                refine g_in_ret ?_
                refine fin_ret [.cell 2 62] [.agg #[.bool ((readR (helloA fed)).1.e), .bool ((readR (helloA fed)).1.f), .bool ((readR (helloA fed)).1.n), .string ((readR (helloA fed)).1.name), .string ((readR (helloA fed)).1.peer), .bool true, .slice q1 l.length d1, .slice q2 es.length d2, .int .i64 68, .int .i64 (-1)]] rfl ⟨⟨_, rfl, run_loadA (H199.ob (k := 4) rfl) Try.underlying62 rfl sz62 rfl rfl⟩, trivial⟩ ?_
                unfold wholeR
                rw [if_pos hb10, if_neg hb115, if_pos hb120]
                rw [(hst.symm.trans (readAll_end hk hb173 hb178))]
                exact ⟨q1, d1, q2, d2, rfl, H199.mask [false, true, true, false, false, true]⟩
        · skip
          refine g_cond_t rfl (nt hb120) ?_
          refine g_seq ?_
          refine g_region ?_
          refine l_of (s_val (v := .agg #[.bool false, .bool false, .bool false, .string (⟨#[]⟩), .string (⟨#[]⟩), .bool false, .slice none 0 0, .slice none 0 0, .int .i64 0, .int .i64 (-1)]) (wt0 rfl) rfl rfl (x_loadA H114 3 rfl rfl Try.underlying62 rfl sz62 rfl rfl rfl) ?_)
          refine l_of (s_store H114 4 (wt0 rfl) rfl rfl rfl rfl rfl sz62 rfl rfl (cs' := #[.bool false, .bool false, .bool false, .string (⟨#[]⟩), .string (⟨#[]⟩), .bool false, .slice none 0 0, .slice none 0 0, .int .i64 0, .int .i64 (-1)]) rfl ?_)
          intro wq200 H201
          refine g_nil ?_
          refine g_then ?_
          refine g_ret ?_
          refine g_then_ret ?_
          refine g_then_ret ?_
          refine fin_ret [.cell 2 62] [.agg #[.bool false, .bool false, .bool false, .string (⟨#[]⟩), .string (⟨#[]⟩), .bool false, .slice none 0 0, .slice none 0 0, .int .i64 0, .int .i64 (-1)]] rfl ⟨⟨_, rfl, run_loadA (H201.ob (k := 4) rfl) Try.underlying62 rfl sz62 rfl rfl⟩, trivial⟩ ?_
          unfold wholeR
          rw [if_pos hb10, if_neg hb115, if_neg hb120]
          exact ⟨none, 0, none, 0, rfl, H201.mask [false, true, true, false, false, true]⟩
  · skip
    refine g_cond_f rfl hb10 ?_
    refine g_skip ?_
    refine g_then ?_
    refine g_seq ?_
    refine g_region ?_
    refine l_of (s_val (v := .int .i64 0) (wt0 rfl) rfl rfl (x_move rfl rfl) ?_)
    refine l_of (s_val (v := .pointer (some ⟨g4, 8, none⟩)) (wt0 rfl) rfl rfl (x_fieldAddr rfl rfl fo62_4 rfl) ?_)
    refine l_of (s_store H9 2 (wt0 rfl) rfl rfl rfl rfl rfl sz3 rfl rfl (cs' := #[.bool false, .bool false, .bool false, .string (⟨#[]⟩), .string (⟨#[]⟩), .bool false, .slice none 0 0, .slice none 0 0, .int .i64 0, .int .i64 (-1)]) rfl ?_)
    intro wq202 H203
    refine g_nil ?_
    refine g_then ?_
    refine g_block ?_
    refine g_loop (ι := Nat × Nat × List M × List Int × Option Addr × Nat × Option Addr × Nat) (fun (n, a, l, es, q1, d1, q2, d2) => [(0, .pointer (some ⟨gw, 0, none⟩)), (2, .pointer (some ⟨g1, 0, none⟩)), (3, .pointer (some ⟨g4, 0, none⟩)), (4, .int .i64 ((a : Int)))]) (fun (n, a, l, es, q1, d1, q2, d2) wx => (a ≤ fed.size) ∧ (readAll n fed a l es = readAll (fed.size + 1) fed 0 [] []) ∧ (fed.size - a < n) ∧ (l.length * 4 ≤ a ∧ es.length = l.length) ∧ S wx [Rw 33 8 q1 l.length d1 (msgsV l), Rw 3 1 q2 es.length d2 (zsV es), Ob g4 (.cells #[.bool false, .bool false, .bool false, .string (⟨#[]⟩), .string (⟨#[]⟩), .bool false, .slice q1 l.length d1, .slice q2 es.length d2, .int .i64 0, .int .i64 (-1)] 62 (0, 0)), Ob g1 (.cells #[.bool false, .bool false, .bool false, .string (⟨#[]⟩), .string (⟨#[]⟩), .bool false, .slice none 0 0, .slice none 0 0, .int .i64 0, .int .i64 0] 62 (0, 0)), Old w no]) (fun (n, a, l, es, q1, d1, q2, d2) => n) (fed.size + 1, 0, [], [], none, 0, none, 0) ⟨rfl, rfl, rfl, rfl, trivial⟩ ⟨by omega, rfl, by omega, ⟨Nat.zero_le _, rfl⟩, (H203.mask [true, true, true, true, true])⟩ ?_
    rintro ⟨n, a, l, es, q1, d1, q2, d2⟩ wq204 ⟨ha, hst, hk, hll, H205⟩
    replace H205 : S wq204 [Rw 33 8 q1 l.length d1 (msgsV l), Rw 3 1 q2 es.length d2 (zsV es), Ob g4 (.cells #[.bool false, .bool false, .bool false, .string (⟨#[]⟩), .string (⟨#[]⟩), .bool false, .slice q1 l.length d1, .slice q2 es.length d2, .int .i64 0, .int .i64 (-1)] 62 (0, 0)), Ob g1 (.cells #[.bool false, .bool false, .bool false, .string (⟨#[]⟩), .string (⟨#[]⟩), .bool false, .slice none 0 0, .slice none 0 0, .int .i64 0, .int .i64 0] 62 (0, 0)), Old w no] := H205
    refine g_weak [(0, .pointer (some ⟨gw, 0, none⟩)), (2, .pointer (some ⟨g1, 0, none⟩)), (3, .pointer (some ⟨g4, 0, none⟩)), (4, .int .i64 ((a : Int)))] ⟨rfl, rfl, rfl, rfl, trivial⟩ ?_
    have hpz : (pieceA fed a).size ≤ 4204 := by rw [ByteArray.size_extract]; omega
    have hpl : (pieceA fed a).size ≤ fed.size - a := by rw [ByteArray.size_extract]; omega
    have hdu := dec_used (pieceA fed a) (by omega)
    refine g_block ?_
    refine g_seq ?_
    refine g_anyY [] (fun wx => S wx [Rw 33 8 q1 l.length d1 (msgsV l), Rw 3 1 q2 es.length d2 (zsV es), Ob g4 (.cells #[.bool false, .bool false, .bool false, .string (⟨#[]⟩), .string (⟨#[]⟩), .bool false, .slice q1 l.length d1, .slice q2 es.length d2, .int .i64 0, .int .i64 (-1)] 62 (0, 0)), Ob g1 (.cells #[.bool false, .bool false, .bool false, .string (⟨#[]⟩), .string (⟨#[]⟩), .bool false, .slice none 0 0, .slice none 0 0, .int .i64 0, .int .i64 0] 62 (0, 0)), Old w no]) (fun wx => S wx [Rw 33 8 q1 l.length d1 (msgsV l), Rw 3 1 q2 es.length d2 (zsV es), Ob g4 (.cells #[.bool false, .bool false, .bool false, .string (⟨#[]⟩), .string (⟨#[]⟩), .bool false, .slice q1 l.length d1, .slice q2 es.length d2, .int .i64 0, .int .i64 (-1)] 62 (0, 0)), Ob g1 (.cells #[.bool false, .bool false, .bool false, .string (⟨#[]⟩), .string (⟨#[]⟩), .bool false, .slice none 0 0, .slice none 0 0, .int .i64 0, .int .i64 0] 62 (0, 0)), Old w no]) [] (by kernel_rfl) H205 (fun wq206 H207 => ?_)
    refine y_pure (v := .pointer (some ⟨gw, 0, none⟩)) 0 rfl (wt0 rfl) rfl rfl rfl (by kernel_rfl) (by kernel_rfl) (by kernel_rfl) (by kernel_rfl) (fun wx => x_move rfl rfl) ?_
    refine y_pure (v := .pointer (some ⟨gw, 0, none⟩)) 1 rfl (wt0 rfl) rfl rfl rfl (by kernel_rfl) (by kernel_rfl) (by kernel_rfl) (by kernel_rfl) (fun wx => x_nilCheck rfl rfl) ?_
    refine y_pure (v := .pointer (some ⟨gw, 1, none⟩)) 2 rfl (wt0 rfl) rfl rfl rfl (by kernel_rfl) (by kernel_rfl) (by kernel_rfl) (by kernel_rfl) (fun wx => x_fieldAddr rfl rfl fo113_1 rfl) ?_
    refine y_take (v := .string fed) 3 rfl (wt0 rfl) rfl rfl rfl (by kernel_rfl) (by kernel_rfl) (by kernel_rfl) (by kernel_rfl) (by kernel_rfl) H207 (fun wx H => x_loadC rfl rfl Try.underlying9 rfl (H.oldCell (k := 4) rfl hc1 id)) ?_
    refine y_pure (v := .int .i64 ((a : Int))) 4 rfl (wt0 rfl) rfl rfl rfl (by kernel_rfl) (by kernel_rfl) (by kernel_rfl) (by kernel_rfl) (fun wx => x_move rfl rfl) ?_
    refine y_pure (v := .pointer (some ⟨gw, 0, none⟩)) 5 rfl (wt0 rfl) rfl rfl rfl (by kernel_rfl) (by kernel_rfl) (by kernel_rfl) (by kernel_rfl) (fun wx => x_move rfl rfl) ?_
    refine y_pure (v := .pointer (some ⟨gw, 0, none⟩)) 6 rfl (wt0 rfl) rfl rfl rfl (by kernel_rfl) (by kernel_rfl) (by kernel_rfl) (by kernel_rfl) (fun wx => x_nilCheck rfl rfl) ?_
    refine y_pure (v := .pointer (some ⟨gw, 1, none⟩)) 7 rfl (wt0 rfl) rfl rfl rfl (by kernel_rfl) (by kernel_rfl) (by kernel_rfl) (by kernel_rfl) (fun wx => x_fieldAddr rfl rfl fo113_1 rfl) ?_
    refine y_take (v := .string fed) 8 rfl (wt0 rfl) rfl rfl rfl (by kernel_rfl) (by kernel_rfl) (by kernel_rfl) (by kernel_rfl) (by kernel_rfl) H207 (fun wx H => x_loadC rfl rfl Try.underlying9 rfl (H.oldCell (k := 4) rfl hc1 id)) ?_
    refine y_pure (v := .int .i64 ((fed.size : Int))) 9 rfl (wt0 rfl) rfl rfl rfl (by kernel_rfl) (by kernel_rfl) (by kernel_rfl) (by kernel_rfl) (fun wx => x_lens rfl rfl Try.underlying9) ?_
    refine y_pure (v := .int .i64 ((a : Int))) 10 rfl (wt0 rfl) rfl rfl rfl (by kernel_rfl) (by kernel_rfl) (by kernel_rfl) (by kernel_rfl) (fun wx => x_move rfl rfl) ?_
    refine y_pure (v := .int .i64 ((a : Int) + 4200)) 11 rfl (wt0 rfl) rfl rfl rfl (by kernel_rfl) (by kernel_rfl) (by kernel_rfl) (by kernel_rfl) (fun wx => x_bin rfl rfl rfl (b_add (w64 (by omega)))) ?_
    refine y_pure (v := .int .i64 (((a : Int) + 4200) + 4)) 12 rfl (wt0 rfl) rfl rfl rfl (by kernel_rfl) (by kernel_rfl) (by kernel_rfl) (by kernel_rfl) (fun wx => x_bin rfl rfl rfl (b_add (w64 (by omega)))) ?_
    refine y_pure (v := .int .i64 (min (fed.size : Int) (((a : Int) + 4200) + 4))) 13 rfl (wt0 rfl) rfl rfl rfl (by kernel_rfl) (by kernel_rfl) (by kernel_rfl) (by kernel_rfl) (fun wx => x_min rfl rfl rfl) ?_
    have hsz208 : (fed.extract a ((min (fed.size : Int) (((a : Int) + 4200) + 4)).toNat)).size = (min (fed.size : Int) (((a : Int) + 4200) + 4)).toNat - a := by rw [ByteArray.size_extract]; omega
    refine y_pure (v := .string (fed.extract a ((min (fed.size : Int) (((a : Int) + 4200) + 4)).toNat))) 14 rfl (wt0 rfl) rfl rfl rfl (by kernel_rfl) (by kernel_rfl) (by kernel_rfl) (by kernel_rfl) (fun wx => x_slices a ((min (fed.size : Int) (((a : Int) + 4200) + 4)).toNat) rfl rfl Try.underlying9 (.inr ⟨_, _, _, rfl, rfl, by omega⟩) (.inr ⟨_, _, _, rfl, rfl, by omega⟩) (by omega)) ?_
    refine y_two (i := 15) (j := 21) (by kernel_rfl) rfl rfl ?_ ?_
    · skip
      refine s_call (wt0 rfl) (x_call' rfl rfl cl21) (decode_r _ _) ?_
      rintro _ wq209 ⟨rfl, H210⟩
      replace H210 : S wq209 [Rw 33 8 q1 l.length d1 (msgsV l), Rw 3 1 q2 es.length d2 (zsV es), Ob g4 (.cells #[.bool false, .bool false, .bool false, .string (⟨#[]⟩), .string (⟨#[]⟩), .bool false, .slice q1 l.length d1, .slice q2 es.length d2, .int .i64 0, .int .i64 (-1)] 62 (0, 0)), Ob g1 (.cells #[.bool false, .bool false, .bool false, .string (⟨#[]⟩), .string (⟨#[]⟩), .bool false, .slice none 0 0, .slice none 0 0, .int .i64 0, .int .i64 0] 62 (0, 0)), Old w no] := H207.absorb (new := []) H210
      refine b_ret rfl rfl ?_
      refine y_k H210 H210 ?_
      refine y_pure (v := .tuple #[.agg (decS (pieceA fed a)).1.cells, .int .i64 ((decS (pieceA fed a)).2.1), .int .i64 ((decS (pieceA fed a)).2.2.1), .int .i64 ((decS (pieceA fed a)).2.2.2)]) 16 rfl (wt0 rfl) rfl rfl rfl (by kernel_rfl) (by kernel_rfl) (by kernel_rfl) (by kernel_rfl) (fun wx => x_move rfl rfl) ?_
      refine y_pure (v := .agg (decS (pieceA fed a)).1.cells) 17 rfl (wt0 rfl) rfl rfl rfl (by kernel_rfl) (by kernel_rfl) (by kernel_rfl) (by kernel_rfl) (fun wx => x_extract rfl rfl rfl) ?_
      refine y_pure (v := .int .i64 ((decS (pieceA fed a)).2.1)) 18 rfl (wt0 rfl) rfl rfl rfl (by kernel_rfl) (by kernel_rfl) (by kernel_rfl) (by kernel_rfl) (fun wx => x_extract rfl rfl rfl) ?_
      refine y_pure (v := .int .i64 ((decS (pieceA fed a)).2.2.1)) 19 rfl (wt0 rfl) rfl rfl rfl (by kernel_rfl) (by kernel_rfl) (by kernel_rfl) (by kernel_rfl) (fun wx => x_extract rfl rfl rfl) ?_
      refine y_pure (v := .int .i64 ((decS (pieceA fed a)).2.2.2)) 20 rfl (wt0 rfl) rfl rfl rfl (by kernel_rfl) (by kernel_rfl) (by kernel_rfl) (by kernel_rfl) (fun wx => x_extract rfl rfl rfl) ?_
      refine y_one (i := 21) (by kernel_rfl) rfl ?_
      refine s_alloc H210 (wt0 rfl) rfl rfl rfl ze33 ?_
      intro g211 wq212 H213
      refine y_k (H213.mask [false, true, true, true, true, true]) (H213.mask [false, true, true, true, true, true]) ?_
      refine y_one (i := 22) (by kernel_rfl) rfl ?_
      refine s_store H213 0 (wt0 rfl) rfl rfl rfl rfl rfl sz33 rfl rfl (cs' := (decS (pieceA fed a)).1.cells) rfl ?_
      intro wq214 H215
      refine y_k (H215.mask [false, true, true, true, true, true]) (H215.mask [false, true, true, true, true, true]) ?_
      refine y_pure (v := .int .i64 ((decS (pieceA fed a)).2.1)) 23 rfl (wt0 rfl) rfl rfl rfl (by kernel_rfl) (by kernel_rfl) (by kernel_rfl) (by kernel_rfl) (fun wx => x_assign rfl rfl) ?_
      refine y_pure (v := .int .i64 ((decS (pieceA fed a)).2.2.1)) 24 rfl (wt0 rfl) rfl rfl rfl (by kernel_rfl) (by kernel_rfl) (by kernel_rfl) (by kernel_rfl) (fun wx => x_assign rfl rfl) ?_
      refine y_pure (v := .int .i64 ((decS (pieceA fed a)).2.2.2)) 25 rfl (wt0 rfl) rfl rfl rfl (by kernel_rfl) (by kernel_rfl) (by kernel_rfl) (by kernel_rfl) (fun wx => x_assign rfl rfl) ?_
      refine y_done (by kernel_rfl) ?_
      refine g_then ?_
      refine g_weak [(0, .pointer (some ⟨gw, 0, none⟩)), (2, .pointer (some ⟨g1, 0, none⟩)), (3, .pointer (some ⟨g4, 0, none⟩)), (4, .int .i64 ((a : Int))), (9, .pointer (some ⟨g211, 0, none⟩)), (10, .int .i64 ((decS (pieceA fed a)).2.1)), (11, .int .i64 ((decS (pieceA fed a)).2.2.1)), (12, .int .i64 ((decS (pieceA fed a)).2.2.2))] ⟨rfl, rfl, rfl, rfl, rfl, rfl, rfl, rfl, trivial⟩ ?_
      refine g_seq ?_
      refine g_seq ?_
      refine g_region ?_
      refine l_of (s_val (v := .int .i64 ((decS (pieceA fed a)).2.2.2)) (wt0 rfl) rfl rfl (x_move rfl rfl) ?_)
      refine l_of (s_val (v := .bool (decide (((decS (pieceA fed a)).2.2.2 : Int) = 12))) (wt0 rfl) rfl rfl (x_bin rfl rfl rfl b_eql) ?_)
      refine g_nil ?_
      refine g_then ?_
      by_cases hb216 : ((decS (pieceA fed a)).2.2.2 : Int) = 12
      · skip
        skip
        refine g_cond_t rfl (decide_eq_true hb216) ?_
        refine g_seq ?_
        refine g_region ?_
        refine l_of (s_val (v := .int .i64 ((a : Int))) (wt0 rfl) rfl rfl (x_move rfl rfl) ?_)
        refine l_of (s_val (v := .int .i64 ((decS (pieceA fed a)).2.2.1)) (wt0 rfl) rfl rfl (x_move rfl rfl) ?_)
        refine l_of (s_val (v := .int .i64 ((a : Int) + ((decS (pieceA fed a)).2.2.1))) (wt0 rfl) rfl rfl (x_bin rfl rfl rfl (b_add (w64 (by omega)))) ?_)
        refine l_of (s_val (v := .pointer (some ⟨g4, 9, none⟩)) (wt0 rfl) rfl rfl (x_fieldAddr rfl rfl fo62_5 rfl) ?_)
        refine l_of (s_store H215 3 (wt0 rfl) rfl rfl rfl rfl rfl sz3 rfl rfl (cs' := #[.bool false, .bool false, .bool false, .string (⟨#[]⟩), .string (⟨#[]⟩), .bool false, .slice q1 l.length d1, .slice q2 es.length d2, .int .i64 0, .int .i64 ((a : Int) + ((decS (pieceA fed a)).2.2.1))]) rfl ?_)
        intro wq217 H218
        refine g_nil ?_
        refine g_then ?_
        refine g_weak [(2, .pointer (some ⟨g1, 0, none⟩)), (3, .pointer (some ⟨g4, 0, none⟩))] ⟨rfl, rfl, trivial⟩ ?_
        refine g_seq ?_
        refine g_region ?_
        refine l_of (s_val (v := .agg #[.bool false, .bool false, .bool false, .string (⟨#[]⟩), .string (⟨#[]⟩), .bool false, .slice q1 l.length d1, .slice q2 es.length d2, .int .i64 0, .int .i64 ((a : Int) + ((decS (pieceA fed a)).2.2.1))]) (wt0 rfl) rfl rfl (x_loadA H218 3 rfl rfl Try.underlying62 rfl sz62 rfl rfl rfl) ?_)
        refine l_of (s_store H218 4 (wt0 rfl) rfl rfl rfl rfl rfl sz62 rfl rfl (cs' := #[.bool false, .bool false, .bool false, .string (⟨#[]⟩), .string (⟨#[]⟩), .bool false, .slice q1 l.length d1, .slice q2 es.length d2, .int .i64 0, .int .i64 ((a : Int) + ((decS (pieceA fed a)).2.2.1))]) rfl ?_)
        intro wq219 H220
        refine g_nil ?_
        refine g_then ?_
        refine g_ret ?_
        refine g_then_ret ?_
        refine g_in_ret ?_
        refine g_then_ret ?_
        refine g_in_ret ?_
        refine fin_ret [.cell 2 62] [.agg #[.bool false, .bool false, .bool false, .string (⟨#[]⟩), .string (⟨#[]⟩), .bool false, .slice q1 l.length d1, .slice q2 es.length d2, .int .i64 0, .int .i64 ((a : Int) + ((decS (pieceA fed a)).2.2.1))]] rfl ⟨⟨_, rfl, run_loadA (H220.ob (k := 4) rfl) Try.underlying62 rfl sz62 rfl rfl⟩, trivial⟩ ?_
        unfold wholeR
        rw [if_neg (by rw [hb10]; exact Bool.false_ne_true)]
        rw [(hst.symm.trans (readAll_bad hk hb216))]
        exact ⟨q1, d1, q2, d2, rfl, H220.mask [false, true, true, false, false, true]⟩
      · skip
        skip
        refine g_cond_f rfl (decide_eq_false hb216) ?_
        refine g_skip ?_
        refine g_then ?_
        refine g_seq ?_
        refine g_seq ?_
        refine g_region ?_
        refine l_of (s_val (v := .int .i64 ((decS (pieceA fed a)).2.2.2)) (wt0 rfl) rfl rfl (x_move rfl rfl) ?_)
        refine l_of (s_val (v := .bool (!decide (((decS (pieceA fed a)).2.2.2 : Int) = 0))) (wt0 rfl) rfl rfl (x_bin rfl rfl rfl b_neq) ?_)
        refine g_nil ?_
        refine g_then ?_
        by_cases hb221 : ((decS (pieceA fed a)).2.2.2 : Int) = 0
        · skip
          skip
          refine g_cond_f rfl (nf hb221) ?_
          refine g_skip ?_
          refine g_then ?_
          refine g_seq ?_
          refine g_region ?_
          refine l_of (s_val (v := .int .i64 ((a : Int))) (wt0 rfl) rfl rfl (x_move rfl rfl) ?_)
          refine l_of (s_val (v := .int .i64 ((decS (pieceA fed a)).2.1)) (wt0 rfl) rfl rfl (x_move rfl rfl) ?_)
          refine l_of (s_val (v := .int .i64 ((a : Int) + ((decS (pieceA fed a)).2.1))) (wt0 rfl) rfl rfl (x_bin rfl rfl rfl (b_add (w64 (by omega)))) ?_)
          refine l_of (s_val (v := .int .i64 ((a : Int) + ((decS (pieceA fed a)).2.1))) (wt0 rfl) rfl rfl (x_assign rfl rfl) ?_)
          refine g_nil ?_
          refine g_then ?_
          refine g_seq ?_
          refine g_region ?_
          refine l_of (s_val (v := .pointer (some ⟨g4, 6, none⟩)) (wt0 rfl) rfl rfl (x_fieldAddr rfl rfl fo62_2 rfl) ?_)
          refine l_of (s_val (v := .slice q1 l.length d1) (wt0 rfl) rfl rfl (x_load1 H215 3 rfl rfl Try.underlying46 rfl rfl rfl) ?_)
          refine l_of (s_val (v := .agg (decS (pieceA fed a)).1.cells) (wt0 rfl) rfl rfl (x_loadA H215 0 rfl rfl Try.underlying33 rfl sz33 rfl rfl rfl) ?_)
          refine l_of (s_buildSlice H215 (wt0 rfl) rfl rfl rfl (vs := [.agg (decS (pieceA fed a)).1.cells]) rfl Try.underlying46 sz33 ze33 rfl rfl (cells := (decS (pieceA fed a)).1.cells) (by kernel_rfl) ?_)
          intro g222 wq223 H224
          refine l_of (s_appendR (n := l.length) (m := 1) (sc := d1) (xs := (msgsV l)) (news := ((decS (pieceA fed a)).1.cells).toList) (p := q1) (ad := ⟨g222, 0, none⟩) H224 2 (wt0 rfl) rfl rfl rfl rfl rfl rfl Try.underlying46 inf33 rfl (by decide) (by decide) rfl (by decide) (news_ob H224 (j0 := 0) rfl) rfl (by omega) ?_)
          intro p225 c226 wq227 (H228 : S wq227 [Ob g222 (.cells (decS (pieceA fed a)).1.cells 33 (0, 0)), Ob g211 (.cells (decS (pieceA fed a)).1.cells 33 (0, 0)), Rw 33 8 p225 (l.length + 1) c226 ((msgsV l) ++ ((decS (pieceA fed a)).1.cells).toList), Rw 3 1 q2 es.length d2 (zsV es), Ob g4 (.cells #[.bool false, .bool false, .bool false, .string (⟨#[]⟩), .string (⟨#[]⟩), .bool false, .slice q1 l.length d1, .slice q2 es.length d2, .int .i64 0, .int .i64 (-1)] 62 (0, 0)), Ob g1 (.cells #[.bool false, .bool false, .bool false, .string (⟨#[]⟩), .string (⟨#[]⟩), .bool false, .slice none 0 0, .slice none 0 0, .int .i64 0, .int .i64 0] 62 (0, 0)), Old w no])
          refine l_of (s_val (v := .pointer (some ⟨g4, 6, none⟩)) (wt0 rfl) rfl rfl (x_fieldAddr rfl rfl fo62_2 rfl) ?_)
          refine l_of (s_store H228 4 (wt0 rfl) rfl rfl rfl rfl rfl sz46 rfl rfl (cs' := #[.bool false, .bool false, .bool false, .string (⟨#[]⟩), .string (⟨#[]⟩), .bool false, .slice p225 (l.length + 1) c226, .slice q2 es.length d2, .int .i64 0, .int .i64 (-1)]) rfl ?_)
          intro wq229 H230
          refine g_nil ?_
          refine g_then ?_
          refine g_weak [(0, .pointer (some ⟨gw, 0, none⟩)), (2, .pointer (some ⟨g1, 0, none⟩)), (3, .pointer (some ⟨g4, 0, none⟩)), (4, .int .i64 ((a : Int) + ((decS (pieceA fed a)).2.1)))] ⟨rfl, rfl, rfl, rfl, trivial⟩ ?_
          refine g_region ?_
          refine l_of (s_val (v := .pointer (some ⟨g4, 7, none⟩)) (wt0 rfl) rfl rfl (x_fieldAddr rfl rfl fo62_3 rfl) ?_)
          refine l_of (s_val (v := .slice q2 es.length d2) (wt0 rfl) rfl rfl (x_load1 H230 4 rfl rfl Try.underlying60 rfl rfl rfl) ?_)
          refine l_of (s_val (v := .int .i64 ((a : Int) + ((decS (pieceA fed a)).2.1))) (wt0 rfl) rfl rfl (x_move rfl rfl) ?_)
          refine l_of (s_buildSlice H230 (wt0 rfl) rfl rfl rfl (vs := [.int .i64 ((a : Int) + ((decS (pieceA fed a)).2.1))]) rfl Try.underlying60 sz3 ze3 rfl rfl (cells := #[.int .i64 ((a : Int) + ((decS (pieceA fed a)).2.1))]) (by kernel_rfl) ?_)
          intro g231 wq232 H233
          refine l_of (s_appendR (n := es.length) (m := 1) (sc := d2) (xs := (zsV es)) (news := [.int .i64 ((a : Int) + ((decS (pieceA fed a)).2.1))]) (p := q2) (ad := ⟨g231, 0, none⟩) H233 4 (wt0 rfl) rfl rfl rfl rfl rfl rfl Try.underlying60 inf3 rfl (by decide) (by decide) rfl (by decide) (news_ob H233 (j0 := 0) rfl) rfl (by omega) ?_)
          intro p234 c235 wq236 (H237 : S wq236 [Ob g231 (.cells #[.int .i64 ((a : Int) + ((decS (pieceA fed a)).2.1))] 3 (0, 0)), Ob g222 (.cells (decS (pieceA fed a)).1.cells 33 (0, 0)), Ob g211 (.cells (decS (pieceA fed a)).1.cells 33 (0, 0)), Rw 33 8 p225 (l.length + 1) c226 ((msgsV l) ++ ((decS (pieceA fed a)).1.cells).toList), Rw 3 1 p234 (es.length + 1) c235 ((zsV es) ++ [.int .i64 ((a : Int) + ((decS (pieceA fed a)).2.1))]), Ob g4 (.cells #[.bool false, .bool false, .bool false, .string (⟨#[]⟩), .string (⟨#[]⟩), .bool false, .slice p225 (l.length + 1) c226, .slice q2 es.length d2, .int .i64 0, .int .i64 (-1)] 62 (0, 0)), Ob g1 (.cells #[.bool false, .bool false, .bool false, .string (⟨#[]⟩), .string (⟨#[]⟩), .bool false, .slice none 0 0, .slice none 0 0, .int .i64 0, .int .i64 0] 62 (0, 0)), Old w no])
          refine l_of (s_val (v := .pointer (some ⟨g4, 7, none⟩)) (wt0 rfl) rfl rfl (x_fieldAddr rfl rfl fo62_3 rfl) ?_)
          refine l_of (s_store H237 5 (wt0 rfl) rfl rfl rfl rfl rfl sz60 rfl rfl (cs' := #[.bool false, .bool false, .bool false, .string (⟨#[]⟩), .string (⟨#[]⟩), .bool false, .slice p225 (l.length + 1) c226, .slice p234 (es.length + 1) c235, .int .i64 0, .int .i64 (-1)]) rfl ?_)
          intro wq238 H239
          refine g_nil ?_
          refine g_in ?_
          refine g_then ?_
          have H240 : S wq238 [Rw 33 8 p225 (l.length + 1) c226 ((msgsV l) ++ ((decS (pieceA fed a)).1.cells).toList), Rw 3 1 p234 (es.length + 1) c235 ((zsV es) ++ [.int .i64 ((a : Int) + ((decS (pieceA fed a)).2.1))]), Ob g4 (.cells #[.bool false, .bool false, .bool false, .string (⟨#[]⟩), .string (⟨#[]⟩), .bool false, .slice p225 (l.length + 1) c226, .slice p234 (es.length + 1) c235, .int .i64 0, .int .i64 (-1)] 62 (0, 0)), Ob g1 (.cells #[.bool false, .bool false, .bool false, .string (⟨#[]⟩), .string (⟨#[]⟩), .bool false, .slice none 0 0, .slice none 0 0, .int .i64 0, .int .i64 0] 62 (0, 0)), Old w no] := H239.mask [false, false, false, true, true, true, true, true]
          rw [← msgsV_snoc, ← zsV_snoc, ← len_snoc, ← len_snoc] at H240
          have hau : (a : Int) + (decS (pieceA fed a)).2.1 = ((a + (decS (pieceA fed a)).2.1.toNat : Nat) : Int) := by have := hdu.1 hb221; omega
          rw [hau]
          refine g_round (i := (n, a, l, es, q1, d1, q2, d2)) (n - 1, a + (decS (pieceA fed a)).2.1.toNat, l ++ [(decS (pieceA fed a)).1], es ++ [(a : Int) + (decS (pieceA fed a)).2.1], p225, c226, p234, c235) ?_ ?_ ?_
          · exact ⟨rfl, rfl, rfl, rfl, trivial⟩
          · exact ⟨by omega, ((readAll_next hk hb216 hb221).symm.trans hst), by omega, ⟨by rw [List.length_append, List.length_singleton]; omega, by rw [List.length_append, List.length_append, hll.2]; rfl⟩, H240⟩
          · (try dsimp only); omega
        · skip
          skip
          refine g_cond_t rfl (nt hb221) ?_
          refine g_seq ?_
          refine g_region ?_
          refine l_of (s_val (v := .agg #[.bool false, .bool false, .bool false, .string (⟨#[]⟩), .string (⟨#[]⟩), .bool false, .slice q1 l.length d1, .slice q2 es.length d2, .int .i64 0, .int .i64 (-1)]) (wt0 rfl) rfl rfl (x_loadA H215 3 rfl rfl Try.underlying62 rfl sz62 rfl rfl rfl) ?_)
          refine l_of (s_store H215 4 (wt0 rfl) rfl rfl rfl rfl rfl sz62 rfl rfl (cs' := #[.bool false, .bool false, .bool false, .string (⟨#[]⟩), .string (⟨#[]⟩), .bool false, .slice q1 l.length d1, .slice q2 es.length d2, .int .i64 0, .int .i64 (-1)]) rfl ?_)
          intro wq241 H242
          refine g_nil ?_
          refine g_then ?_
          refine g_weak [(2, .pointer (some ⟨g1, 0, none⟩))] ⟨rfl, trivial⟩ ?_
          refine g_ret ?_
          refine g_then_ret ?_
          refine g_in_ret ?_
          refine g_then_ret ?_
          refine g_in_ret ?_
          refine fin_ret [.cell 2 62] [.agg #[.bool false, .bool false, .bool false, .string (⟨#[]⟩), .string (⟨#[]⟩), .bool false, .slice q1 l.length d1, .slice q2 es.length d2, .int .i64 0, .int .i64 (-1)]] rfl ⟨⟨_, rfl, run_loadA (H242.ob (k := 4) rfl) Try.underlying62 rfl sz62 rfl rfl⟩, trivial⟩ ?_
          unfold wholeR
          rw [if_neg (by rw [hb10]; exact Bool.false_ne_true)]
          rw [(hst.symm.trans (readAll_end hk hb216 hb221))]
          exact ⟨q1, d1, q2, d2, rfl, H242.mask [false, true, true, false, false, true]⟩
    · skip
      refine s_alloc H207 (wt0 rfl) rfl rfl rfl ze33 ?_
      intro g243 wq244 H245
      refine y_k (H245.mask [false, true, true, true, true, true]) (H245.mask [false, true, true, true, true, true]) ?_
      refine y_one (i := 15) (by kernel_rfl) rfl ?_
      refine s_call (wt0 rfl) (x_call' rfl rfl cl21) (decode_r _ _) ?_
      rintro _ wq246 ⟨rfl, H247⟩
      replace H247 : S wq246 [Ob g243 (.cells #[.int .i64 0, .int .i64 0, .int .i64 0, .int .i64 0, .int .i64 0, .int .i64 0, .string (⟨#[]⟩), .string (⟨#[]⟩)] 33 (0, 0)), Rw 33 8 q1 l.length d1 (msgsV l), Rw 3 1 q2 es.length d2 (zsV es), Ob g4 (.cells #[.bool false, .bool false, .bool false, .string (⟨#[]⟩), .string (⟨#[]⟩), .bool false, .slice q1 l.length d1, .slice q2 es.length d2, .int .i64 0, .int .i64 (-1)] 62 (0, 0)), Ob g1 (.cells #[.bool false, .bool false, .bool false, .string (⟨#[]⟩), .string (⟨#[]⟩), .bool false, .slice none 0 0, .slice none 0 0, .int .i64 0, .int .i64 0] 62 (0, 0)), Old w no] := H245.absorb (new := []) H247
      refine b_ret rfl rfl ?_
      refine y_k (H247.mask [false, true, true, true, true, true]) (H247.mask [false, true, true, true, true, true]) ?_
      refine y_pure (v := .tuple #[.agg (decS (pieceA fed a)).1.cells, .int .i64 ((decS (pieceA fed a)).2.1), .int .i64 ((decS (pieceA fed a)).2.2.1), .int .i64 ((decS (pieceA fed a)).2.2.2)]) 16 rfl (wt0 rfl) rfl rfl rfl (by kernel_rfl) (by kernel_rfl) (by kernel_rfl) (by kernel_rfl) (fun wx => x_move rfl rfl) ?_
      refine y_pure (v := .agg (decS (pieceA fed a)).1.cells) 17 rfl (wt0 rfl) rfl rfl rfl (by kernel_rfl) (by kernel_rfl) (by kernel_rfl) (by kernel_rfl) (fun wx => x_extract rfl rfl rfl) ?_
      refine y_pure (v := .int .i64 ((decS (pieceA fed a)).2.1)) 18 rfl (wt0 rfl) rfl rfl rfl (by kernel_rfl) (by kernel_rfl) (by kernel_rfl) (by kernel_rfl) (fun wx => x_extract rfl rfl rfl) ?_
      refine y_pure (v := .int .i64 ((decS (pieceA fed a)).2.2.1)) 19 rfl (wt0 rfl) rfl rfl rfl (by kernel_rfl) (by kernel_rfl) (by kernel_rfl) (by kernel_rfl) (fun wx => x_extract rfl rfl rfl) ?_
      refine y_pure (v := .int .i64 ((decS (pieceA fed a)).2.2.2)) 20 rfl (wt0 rfl) rfl rfl rfl (by kernel_rfl) (by kernel_rfl) (by kernel_rfl) (by kernel_rfl) (fun wx => x_extract rfl rfl rfl) ?_
      refine y_one (i := 22) (by kernel_rfl) rfl ?_
      refine s_store H247 0 (wt0 rfl) rfl rfl rfl rfl rfl sz33 rfl rfl (cs' := (decS (pieceA fed a)).1.cells) rfl ?_
      intro wq248 H249
      refine y_k (H249.mask [false, true, true, true, true, true]) (H249.mask [false, true, true, true, true, true]) ?_
      refine y_pure (v := .int .i64 ((decS (pieceA fed a)).2.1)) 23 rfl (wt0 rfl) rfl rfl rfl (by kernel_rfl) (by kernel_rfl) (by kernel_rfl) (by kernel_rfl) (fun wx => x_assign rfl rfl) ?_
      refine y_pure (v := .int .i64 ((decS (pieceA fed a)).2.2.1)) 24 rfl (wt0 rfl) rfl rfl rfl (by kernel_rfl) (by kernel_rfl) (by kernel_rfl) (by kernel_rfl) (fun wx => x_assign rfl rfl) ?_
      refine y_pure (v := .int .i64 ((decS (pieceA fed a)).2.2.2)) 25 rfl (wt0 rfl) rfl rfl rfl (by kernel_rfl) (by kernel_rfl) (by kernel_rfl) (by kernel_rfl) (fun wx => x_assign rfl rfl) ?_
      refine y_done (by kernel_rfl) ?_
      refine g_then ?_
      refine g_weak [(0, .pointer (some ⟨gw, 0, none⟩)), (2, .pointer (some ⟨g1, 0, none⟩)), (3, .pointer (some ⟨g4, 0, none⟩)), (4, .int .i64 ((a : Int))), (9, .pointer (some ⟨g243, 0, none⟩)), (10, .int .i64 ((decS (pieceA fed a)).2.1)), (11, .int .i64 ((decS (pieceA fed a)).2.2.1)), (12, .int .i64 ((decS (pieceA fed a)).2.2.2))] ⟨rfl, rfl, rfl, rfl, rfl, rfl, rfl, rfl, trivial⟩ ?_
      refine g_seq ?_
      refine g_seq ?_
      refine g_region ?_
      refine l_of (s_val (v := .int .i64 ((decS (pieceA fed a)).2.2.2)) (wt0 rfl) rfl rfl (x_move rfl rfl) ?_)
      refine l_of (s_val (v := .bool (decide (((decS (pieceA fed a)).2.2.2 : Int) = 12))) (wt0 rfl) rfl rfl (x_bin rfl rfl rfl b_eql) ?_)
      refine g_nil ?_
      refine g_then ?_
      by_cases hb250 : ((decS (pieceA fed a)).2.2.2 : Int) = 12
      · skip
        skip
        refine g_cond_t rfl (decide_eq_true hb250) ?_
        refine g_seq ?_
        refine g_region ?_
        refine l_of (s_val (v := .int .i64 ((a : Int))) (wt0 rfl) rfl rfl (x_move rfl rfl) ?_)
        refine l_of (s_val (v := .int .i64 ((decS (pieceA fed a)).2.2.1)) (wt0 rfl) rfl rfl (x_move rfl rfl) ?_)
        refine l_of (s_val (v := .int .i64 ((a : Int) + ((decS (pieceA fed a)).2.2.1))) (wt0 rfl) rfl rfl (x_bin rfl rfl rfl (b_add (w64 (by omega)))) ?_)
        refine l_of (s_val (v := .pointer (some ⟨g4, 9, none⟩)) (wt0 rfl) rfl rfl (x_fieldAddr rfl rfl fo62_5 rfl) ?_)
        refine l_of (s_store H249 3 (wt0 rfl) rfl rfl rfl rfl rfl sz3 rfl rfl (cs' := #[.bool false, .bool false, .bool false, .string (⟨#[]⟩), .string (⟨#[]⟩), .bool false, .slice q1 l.length d1, .slice q2 es.length d2, .int .i64 0, .int .i64 ((a : Int) + ((decS (pieceA fed a)).2.2.1))]) rfl ?_)
        intro wq251 H252
        refine g_nil ?_
        refine g_then ?_
        refine g_weak [(2, .pointer (some ⟨g1, 0, none⟩)), (3, .pointer (some ⟨g4, 0, none⟩))] ⟨rfl, rfl, trivial⟩ ?_
        refine g_seq ?_
        refine g_region ?_
        refine l_of (s_val (v := .agg #[.bool false, .bool false, .bool false, .string (⟨#[]⟩), .string (⟨#[]⟩), .bool false, .slice q1 l.length d1, .slice q2 es.length d2, .int .i64 0, .int .i64 ((a : Int) + ((decS (pieceA fed a)).2.2.1))]) (wt0 rfl) rfl rfl (x_loadA H252 3 rfl rfl Try.underlying62 rfl sz62 rfl rfl rfl) ?_)
        refine l_of (s_store H252 4 (wt0 rfl) rfl rfl rfl rfl rfl sz62 rfl rfl (cs' := #[.bool false, .bool false, .bool false, .string (⟨#[]⟩), .string (⟨#[]⟩), .bool false, .slice q1 l.length d1, .slice q2 es.length d2, .int .i64 0, .int .i64 ((a : Int) + ((decS (pieceA fed a)).2.2.1))]) rfl ?_)
        intro wq253 H254
        refine g_nil ?_
        refine g_then ?_
        refine g_ret ?_
        refine g_then_ret ?_
        refine g_in_ret ?_
        refine g_then_ret ?_
        refine g_in_ret ?_
        refine fin_ret [.cell 2 62] [.agg #[.bool false, .bool false, .bool false, .string (⟨#[]⟩), .string (⟨#[]⟩), .bool false, .slice q1 l.length d1, .slice q2 es.length d2, .int .i64 0, .int .i64 ((a : Int) + ((decS (pieceA fed a)).2.2.1))]] rfl ⟨⟨_, rfl, run_loadA (H254.ob (k := 4) rfl) Try.underlying62 rfl sz62 rfl rfl⟩, trivial⟩ ?_
        unfold wholeR
        rw [if_neg (by rw [hb10]; exact Bool.false_ne_true)]
        rw [(hst.symm.trans (readAll_bad hk hb250))]
        exact ⟨q1, d1, q2, d2, rfl, H254.mask [false, true, true, false, false, true]⟩
      · skip
        skip
        refine g_cond_f rfl (decide_eq_false hb250) ?_
        refine g_skip ?_
        refine g_then ?_
        refine g_seq ?_
        refine g_seq ?_
        refine g_region ?_
        refine l_of (s_val (v := .int .i64 ((decS (pieceA fed a)).2.2.2)) (wt0 rfl) rfl rfl (x_move rfl rfl) ?_)
        refine l_of (s_val (v := .bool (!decide (((decS (pieceA fed a)).2.2.2 : Int) = 0))) (wt0 rfl) rfl rfl (x_bin rfl rfl rfl b_neq) ?_)
        refine g_nil ?_
        refine g_then ?_
        by_cases hb255 : ((decS (pieceA fed a)).2.2.2 : Int) = 0
        · skip
          skip
          refine g_cond_f rfl (nf hb255) ?_
          refine g_skip ?_
          refine g_then ?_
          refine g_seq ?_
          refine g_region ?_
          refine l_of (s_val (v := .int .i64 ((a : Int))) (wt0 rfl) rfl rfl (x_move rfl rfl) ?_)
          refine l_of (s_val (v := .int .i64 ((decS (pieceA fed a)).2.1)) (wt0 rfl) rfl rfl (x_move rfl rfl) ?_)
          refine l_of (s_val (v := .int .i64 ((a : Int) + ((decS (pieceA fed a)).2.1))) (wt0 rfl) rfl rfl (x_bin rfl rfl rfl (b_add (w64 (by omega)))) ?_)
          refine l_of (s_val (v := .int .i64 ((a : Int) + ((decS (pieceA fed a)).2.1))) (wt0 rfl) rfl rfl (x_assign rfl rfl) ?_)
          refine g_nil ?_
          refine g_then ?_
          refine g_seq ?_
          refine g_region ?_
          refine l_of (s_val (v := .pointer (some ⟨g4, 6, none⟩)) (wt0 rfl) rfl rfl (x_fieldAddr rfl rfl fo62_2 rfl) ?_)
          refine l_of (s_val (v := .slice q1 l.length d1) (wt0 rfl) rfl rfl (x_load1 H249 3 rfl rfl Try.underlying46 rfl rfl rfl) ?_)
          refine l_of (s_val (v := .agg (decS (pieceA fed a)).1.cells) (wt0 rfl) rfl rfl (x_loadA H249 0 rfl rfl Try.underlying33 rfl sz33 rfl rfl rfl) ?_)
          refine l_of (s_buildSlice H249 (wt0 rfl) rfl rfl rfl (vs := [.agg (decS (pieceA fed a)).1.cells]) rfl Try.underlying46 sz33 ze33 rfl rfl (cells := (decS (pieceA fed a)).1.cells) (by kernel_rfl) ?_)
          intro g256 wq257 H258
          refine l_of (s_appendR (n := l.length) (m := 1) (sc := d1) (xs := (msgsV l)) (news := ((decS (pieceA fed a)).1.cells).toList) (p := q1) (ad := ⟨g256, 0, none⟩) H258 2 (wt0 rfl) rfl rfl rfl rfl rfl rfl Try.underlying46 inf33 rfl (by decide) (by decide) rfl (by decide) (news_ob H258 (j0 := 0) rfl) rfl (by omega) ?_)
          intro p259 c260 wq261 (H262 : S wq261 [Ob g256 (.cells (decS (pieceA fed a)).1.cells 33 (0, 0)), Ob g243 (.cells (decS (pieceA fed a)).1.cells 33 (0, 0)), Rw 33 8 p259 (l.length + 1) c260 ((msgsV l) ++ ((decS (pieceA fed a)).1.cells).toList), Rw 3 1 q2 es.length d2 (zsV es), Ob g4 (.cells #[.bool false, .bool false, .bool false, .string (⟨#[]⟩), .string (⟨#[]⟩), .bool false, .slice q1 l.length d1, .slice q2 es.length d2, .int .i64 0, .int .i64 (-1)] 62 (0, 0)), Ob g1 (.cells #[.bool false, .bool false, .bool false, .string (⟨#[]⟩), .string (⟨#[]⟩), .bool false, .slice none 0 0, .slice none 0 0, .int .i64 0, .int .i64 0] 62 (0, 0)), Old w no])
          refine l_of (s_val (v := .pointer (some ⟨g4, 6, none⟩)) (wt0 rfl) rfl rfl (x_fieldAddr rfl rfl fo62_2 rfl) ?_)
          refine l_of (s_store H262 4 (wt0 rfl) rfl rfl rfl rfl rfl sz46 rfl rfl (cs' := #[.bool false, .bool false, .bool false, .string (⟨#[]⟩), .string (⟨#[]⟩), .bool false, .slice p259 (l.length + 1) c260, .slice q2 es.length d2, .int .i64 0, .int .i64 (-1)]) rfl ?_)
          intro wq263 H264
          refine g_nil ?_
          refine g_then ?_
          refine g_weak [(0, .pointer (some ⟨gw, 0, none⟩)), (2, .pointer (some ⟨g1, 0, none⟩)), (3, .pointer (some ⟨g4, 0, none⟩)), (4, .int .i64 ((a : Int) + ((decS (pieceA fed a)).2.1)))] ⟨rfl, rfl, rfl, rfl, trivial⟩ ?_
          refine g_region ?_
          refine l_of (s_val (v := .pointer (some ⟨g4, 7, none⟩)) (wt0 rfl) rfl rfl (x_fieldAddr rfl rfl fo62_3 rfl) ?_)
          refine l_of (s_val (v := .slice q2 es.length d2) (wt0 rfl) rfl rfl (x_load1 H264 4 rfl rfl Try.underlying60 rfl rfl rfl) ?_)
          refine l_of (s_val (v := .int .i64 ((a : Int) + ((decS (pieceA fed a)).2.1))) (wt0 rfl) rfl rfl (x_move rfl rfl) ?_)
          refine l_of (s_buildSlice H264 (wt0 rfl) rfl rfl rfl (vs := [.int .i64 ((a : Int) + ((decS (pieceA fed a)).2.1))]) rfl Try.underlying60 sz3 ze3 rfl rfl (cells := #[.int .i64 ((a : Int) + ((decS (pieceA fed a)).2.1))]) (by kernel_rfl) ?_)
          intro g265 wq266 H267
          refine l_of (s_appendR (n := es.length) (m := 1) (sc := d2) (xs := (zsV es)) (news := [.int .i64 ((a : Int) + ((decS (pieceA fed a)).2.1))]) (p := q2) (ad := ⟨g265, 0, none⟩) H267 4 (wt0 rfl) rfl rfl rfl rfl rfl rfl Try.underlying60 inf3 rfl (by decide) (by decide) rfl (by decide) (news_ob H267 (j0 := 0) rfl) rfl (by omega) ?_)
          intro p268 c269 wq270 (H271 : S wq270 [Ob g265 (.cells #[.int .i64 ((a : Int) + ((decS (pieceA fed a)).2.1))] 3 (0, 0)), Ob g256 (.cells (decS (pieceA fed a)).1.cells 33 (0, 0)), Ob g243 (.cells (decS (pieceA fed a)).1.cells 33 (0, 0)), Rw 33 8 p259 (l.length + 1) c260 ((msgsV l) ++ ((decS (pieceA fed a)).1.cells).toList), Rw 3 1 p268 (es.length + 1) c269 ((zsV es) ++ [.int .i64 ((a : Int) + ((decS (pieceA fed a)).2.1))]), Ob g4 (.cells #[.bool false, .bool false, .bool false, .string (⟨#[]⟩), .string (⟨#[]⟩), .bool false, .slice p259 (l.length + 1) c260, .slice q2 es.length d2, .int .i64 0, .int .i64 (-1)] 62 (0, 0)), Ob g1 (.cells #[.bool false, .bool false, .bool false, .string (⟨#[]⟩), .string (⟨#[]⟩), .bool false, .slice none 0 0, .slice none 0 0, .int .i64 0, .int .i64 0] 62 (0, 0)), Old w no])
          refine l_of (s_val (v := .pointer (some ⟨g4, 7, none⟩)) (wt0 rfl) rfl rfl (x_fieldAddr rfl rfl fo62_3 rfl) ?_)
          refine l_of (s_store H271 5 (wt0 rfl) rfl rfl rfl rfl rfl sz60 rfl rfl (cs' := #[.bool false, .bool false, .bool false, .string (⟨#[]⟩), .string (⟨#[]⟩), .bool false, .slice p259 (l.length + 1) c260, .slice p268 (es.length + 1) c269, .int .i64 0, .int .i64 (-1)]) rfl ?_)
          intro wq272 H273
          refine g_nil ?_
          refine g_in ?_
          refine g_then ?_
          have H274 : S wq272 [Rw 33 8 p259 (l.length + 1) c260 ((msgsV l) ++ ((decS (pieceA fed a)).1.cells).toList), Rw 3 1 p268 (es.length + 1) c269 ((zsV es) ++ [.int .i64 ((a : Int) + ((decS (pieceA fed a)).2.1))]), Ob g4 (.cells #[.bool false, .bool false, .bool false, .string (⟨#[]⟩), .string (⟨#[]⟩), .bool false, .slice p259 (l.length + 1) c260, .slice p268 (es.length + 1) c269, .int .i64 0, .int .i64 (-1)] 62 (0, 0)), Ob g1 (.cells #[.bool false, .bool false, .bool false, .string (⟨#[]⟩), .string (⟨#[]⟩), .bool false, .slice none 0 0, .slice none 0 0, .int .i64 0, .int .i64 0] 62 (0, 0)), Old w no] := H273.mask [false, false, false, true, true, true, true, true]
          rw [← msgsV_snoc, ← zsV_snoc, ← len_snoc, ← len_snoc] at H274
          have hau : (a : Int) + (decS (pieceA fed a)).2.1 = ((a + (decS (pieceA fed a)).2.1.toNat : Nat) : Int) := by have := hdu.1 hb255; omega
          rw [hau]
          refine g_round (i := (n, a, l, es, q1, d1, q2, d2)) (n - 1, a + (decS (pieceA fed a)).2.1.toNat, l ++ [(decS (pieceA fed a)).1], es ++ [(a : Int) + (decS (pieceA fed a)).2.1], p259, c260, p268, c269) ?_ ?_ ?_
          · exact ⟨rfl, rfl, rfl, rfl, trivial⟩
          · exact ⟨by omega, ((readAll_next hk hb250 hb255).symm.trans hst), by omega, ⟨by rw [List.length_append, List.length_singleton]; omega, by rw [List.length_append, List.length_append, hll.2]; rfl⟩, H274⟩
          · (try dsimp only); omega
        · skip
          skip
          refine g_cond_t rfl (nt hb255) ?_
          refine g_seq ?_
          refine g_region ?_
          refine l_of (s_val (v := .agg #[.bool false, .bool false, .bool false, .string (⟨#[]⟩), .string (⟨#[]⟩), .bool false, .slice q1 l.length d1, .slice q2 es.length d2, .int .i64 0, .int .i64 (-1)]) (wt0 rfl) rfl rfl (x_loadA H249 3 rfl rfl Try.underlying62 rfl sz62 rfl rfl rfl) ?_)
          refine l_of (s_store H249 4 (wt0 rfl) rfl rfl rfl rfl rfl sz62 rfl rfl (cs' := #[.bool false, .bool false, .bool false, .string (⟨#[]⟩), .string (⟨#[]⟩), .bool false, .slice q1 l.length d1, .slice q2 es.length d2, .int .i64 0, .int .i64 (-1)]) rfl ?_)
          intro wq275 H276
          refine g_nil ?_
          refine g_then ?_
          refine g_weak [(2, .pointer (some ⟨g1, 0, none⟩))] ⟨rfl, trivial⟩ ?_
          refine g_ret ?_
          refine g_then_ret ?_
          refine g_in_ret ?_
          refine g_then_ret ?_
          refine g_in_ret ?_
          refine fin_ret [.cell 2 62] [.agg #[.bool false, .bool false, .bool false, .string (⟨#[]⟩), .string (⟨#[]⟩), .bool false, .slice q1 l.length d1, .slice q2 es.length d2, .int .i64 0, .int .i64 (-1)]] rfl ⟨⟨_, rfl, run_loadA (H276.ob (k := 4) rfl) Try.underlying62 rfl sz62 rfl rfl⟩, trivial⟩ ?_
          unfold wholeR
          rw [if_neg (by rw [hb10]; exact Bool.false_ne_true)]
          rw [(hst.symm.trans (readAll_end hk hb250 hb255))]
          exact ⟨q1, d1, q2, d2, rfl, H276.mask [false, true, true, false, false, true]⟩
end Go.Proofs.Ytcjmdkklbbollaa
