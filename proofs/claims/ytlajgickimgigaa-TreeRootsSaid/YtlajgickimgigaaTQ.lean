import Derived.Test.YtlajgickimgigaaTP
set_option linter.unusedSimpArgs false
set_option linter.unusedVariables false
namespace Go.Proofs.Ytlajgickimgigaa
open Go.RowKit

theorem cl45 : callable Try.prog 45 = true := by kernel_rfl
theorem cl47 : callable Try.prog 47 = true := by kernel_rfl
theorem cl48 : callable Try.prog 48 = true := by kernel_rfl
theorem cl49 : callable Try.prog 49 = true := by kernel_rfl
theorem cl50 : callable Try.prog 50 = true := by kernel_rfl
theorem cl51 : callable Try.prog 51 = true := by kernel_rfl
theorem ze25 : zeO Try.prog 25 = some (.int .i64 0) := by kernel_rfl
theorem formed_i (n : Int) (h1 : 1 ≤ n) (hn : n ≤ 4096) (w : World) : Calls Try.prog 48 #[.int .i64 n] w fun e w' => e = .returned (.agg #[.int .i64 n, .int .i64 ((tallN n.toNat : Nat) : Int)]) ∧ S w' [Old w no] := by
  have e : n = (n.toNat : Int) := by omega
  have := formed_r n.toNat (by omega) (by omega) w
  rw [← e] at this; exact this
theorem counts_i (n v h : Int) (h1 : 1 ≤ n) (hn : n ≤ 1099511627776) (h0 : 0 ≤ v) (hv : v ≤ 60) (w : World) : Calls Try.prog 50 #[.agg #[.int .i64 n, .int .i64 h], .int .i64 v] w fun e w' => e = .returned (.int .i64 ((countN n.toNat v.toNat : Nat) : Int)) ∧ S w' [Old w no] := by
  have e : n = (n.toNat : Int) := by omega
  have e2 : v = (v.toNat : Int) := by omega
  have := counts_r n.toNat v.toNat h (by omega) (by omega) (by omega) w
  rw [← e, ← e2] at this; exact this
theorem layer_i (k h : Int) (l : List ByteArray) (p : Option Addr) (n c : Nat) (h0 : 0 ≤ k) (hkh : k ≤ h) (hn : n = l.length) (hm : n ≤ 1099511627) (hk : h ≤ 900) (hsz : ∀ s ∈ l, s.size ≤ 65536) (h1 : 0 < (lvlS k.toNat l (h.toNat - k.toNat)).length) (w : World) (hr : Reads w p n c 1 (stV l)) :
    Calls Try.prog 51 #[.int .i64 k, .int .i64 h, .slice p n c] w fun e w' => ∃ p' c', e = .returned (.slice p' (lvlS k.toNat l (h.toNat - k.toNat)).length c') ∧ S w' ([Rw 9 1 p' (lvlS k.toNat l (h.toNat - k.toNat)).length c' (stV (lvlS k.toNat l (h.toNat - k.toNat)))] ++ [Old w no]) := by
  have e : k = (k.toNat : Int) := by omega
  have e2 : ((k.toNat + (h.toNat - k.toNat) : Nat) : Int) = h := by omega
  have := layer_s k.toNat (h.toNat - k.toNat) l p n c hn hm (by omega) hsz h1 w hr
  rw [e2, ← e] at this; exact this
theorem digs_size {l : List ByteArray} (h : digsB l = true) : ∀ s ∈ l, s.size ≤ 65536 := fun s hs => by rw [digs_mem h hs]; omega
set_option maxRecDepth 20000 in
set_option maxHeartbeats 4000000 in
set_option maxRecDepth 20000 in
set_option maxHeartbeats 4000000 in
theorem fromL_s (n level : Int) (l : List ByteArray) (p : Option Addr) (m c : Nat) (hn : m = l.length) (hm : m ≤ 1099511627776) (w : World) (hr : Reads w p m c 1 (stV l)) : Calls Try.prog 11 #[.int .i64 n, .int .i64 level, .slice p m c] w fun e w' => e = .returned (.tuple #[.string (fromS n level l).1, .int .i64 (fromS n level l).2]) ∧ S w' [Old w no] := by
  have H0 := S.old w
  have ht12 : n ≤ 4096 → tallN n.toNat ≤ 12 := fun h => tall_le12 (by omega)
  refine enter_d 32 Try.func11 rfl rfl rfl ?_
  refine g_weak [(0, .int .i64 n), (1, .int .i64 level), (2, .slice p m c)] ⟨rfl, rfl, rfl, trivial⟩ ?_
  refine g_seq ?_
  refine g_region ?_
  refine l_of (s_val (v := .string (⟨#[]⟩)) (wt0 rfl) rfl rfl (x_assign rfl rfl) ?_)
  refine l_of (s_alloc H0 (wt0 rfl) rfl rfl rfl ze25 ?_)
  intro g1 wq2 H3
  refine g_nil ?_
  refine g_then ?_
  refine g_seq ?_
  refine g_region ?_
  refine l_of (s_defer (wt0 rfl) rfl (xd_defer rfl rfl rfl) ?_)
  refine g_nil ?_
  refine g_then ?_
  refine g_seq ?_
  refine g_region ?_
  refine l_of (s_val (v := .slice p m c) (wt0 rfl) rfl rfl (x_move rfl rfl) ?_)
  refine l_of (s_call (wt0 rfl) (x_call' rfl rfl cl47) (digests_s l p m c hn hm _ (H3.oldReads (k := 1) rfl hr)) ?_)
  rintro _ wq4 ⟨rfl, H5⟩
  replace H5 : S wq4 [Ob g1 (.cells #[.int .i64 0] 25 (0, 0)), Old w no] := H3.absorb (new := []) H5
  refine b_ret rfl rfl ?_
  refine l_of (s_val (v := .bool (!((digsB l)))) (wt0 rfl) rfl rfl (x_not (b := (digsB l)) rfl rfl) ?_)
  rcases Bool.eq_false_or_eq_true ((digsB l)) with hb6 | hb6
  · skip
    refine l_of (s_call (wt0 rfl) (x_call' rfl rfl cl46) (fail_r _ _ (neg_of hb6) _) ?_)
    rintro _ wq7 ⟨rfl, H8⟩
    replace H8 : S wq7 [Ob g1 (.cells #[.int .i64 0] 25 (0, 0)), Old w no] := H5.absorb (new := []) H8
    refine b_ret rfl rfl ?_
    refine g_nil ?_
    refine g_then ?_
    refine g_seq ?_
    refine g_region ?_
    refine l_of (s_val (v := .int .i64 n) (wt0 rfl) rfl rfl (x_move rfl rfl) ?_)
    by_cases hb9 : (n : Int) < 1
    · skip
      refine l_of (s_call (wt0 rfl) (x_call' rfl rfl cl48) (formed_p1 _ (of_decide_eq_true (decide_eq_true hb9)) _) ?_)
      rintro _ wq10 ⟨rfl, H11⟩
      replace H11 : S wq10 [Ob g1 (.cells #[.int .i64 0] 25 (0, 0)), Old w no] := H8.absorb (new := []) H11
      refine b_panic ?_
      refine g_then_panic ?_
      refine fin_dpanic ?_
      refine gl_step (by simp) cl45 (caught_p g1 (7) (0) [] _ (H11.ob (k := 0) rfl)) ?_
      rintro _ _ wq12 ⟨⟨rfl, H13⟩, rfl⟩
      replace H13 : S wq12 [Ob g1 (.cells #[.int .i64 7] 25 (0, 0)), Old w no] := H11.absorbK (new := [Ob g1 (.cells #[.int .i64 7] 25 (0, 0))]) [0] (by intro g hg; subst hg; exact ⟨0, rfl, _, rfl, rfl⟩) H13
      refine (?_ : GL _ _ _ _ _ _ FrameMode.returning _)
      refine gl_ret [.tmp 6, .cell 7 25] [.string (⟨#[]⟩), .int .i64 7] rfl ⟨rfl, ⟨_, rfl, run_load1 Try.underlying25 rfl (H13.cell (k := 0) rfl rfl)⟩, trivial⟩ ?_
      have hrf : rangeT n level = false := range_f (by omega)
      exact ⟨by unfold fromS; rw [if_pos hb6, if_neg (by rw [hrf]; exact Bool.false_ne_true)]; rfl, H13.mask [false, true]⟩
    · skip
      by_cases hb14 : (4096 : Int) < n
      · skip
        refine l_of (s_call (wt0 rfl) (x_call' rfl rfl cl48) (formed_p2 _ (of_decide_eq_true (decide_eq_true hb14)) _) ?_)
        rintro _ wq15 ⟨rfl, H16⟩
        replace H16 : S wq15 [Ob g1 (.cells #[.int .i64 0] 25 (0, 0)), Old w no] := H8.absorb (new := []) H16
        refine b_panic ?_
        refine g_then_panic ?_
        refine fin_dpanic ?_
        refine gl_step (by simp) cl45 (caught_p g1 (7) (0) [] _ (H16.ob (k := 0) rfl)) ?_
        rintro _ _ wq17 ⟨⟨rfl, H18⟩, rfl⟩
        replace H18 : S wq17 [Ob g1 (.cells #[.int .i64 7] 25 (0, 0)), Old w no] := H16.absorbK (new := [Ob g1 (.cells #[.int .i64 7] 25 (0, 0))]) [0] (by intro g hg; subst hg; exact ⟨0, rfl, _, rfl, rfl⟩) H18
        refine (?_ : GL _ _ _ _ _ _ FrameMode.returning _)
        refine gl_ret [.tmp 6, .cell 7 25] [.string (⟨#[]⟩), .int .i64 7] rfl ⟨rfl, ⟨_, rfl, run_load1 Try.underlying25 rfl (H18.cell (k := 0) rfl rfl)⟩, trivial⟩ ?_
        have hrf : rangeT n level = false := range_f (by omega)
        exact ⟨by unfold fromS; rw [if_pos hb6, if_neg (by rw [hrf]; exact Bool.false_ne_true)]; rfl, H18.mask [false, true]⟩
      · skip
        refine l_of (s_call (wt0 rfl) (x_call' rfl rfl cl48) (formed_i _ (by omega) (by omega) _) ?_)
        rintro _ wq19 ⟨rfl, H20⟩
        replace H20 : S wq19 [Ob g1 (.cells #[.int .i64 0] 25 (0, 0)), Old w no] := H8.absorb (new := []) H20
        refine b_ret rfl rfl ?_
        refine l_of (s_alloc H20 (wt0 rfl) rfl rfl rfl ze66 ?_)
        intro g21 wq22 H23
        refine l_of (s_store H23 0 (wt0 rfl) rfl rfl rfl rfl rfl sz66 rfl rfl (cs' := #[.int .i64 n, .int .i64 (((tallN n.toNat : Nat) : Int))]) rfl ?_)
        intro wq24 H25
        refine g_nil ?_
        refine g_then ?_
        refine g_seq ?_
        refine g_region ?_
        refine l_of (s_val (v := .agg #[.int .i64 n, .int .i64 (((tallN n.toNat : Nat) : Int))]) (wt0 rfl) rfl rfl (x_loadA H25 0 rfl rfl Try.underlying66 rfl sz66 rfl rfl rfl) ?_)
        refine l_of (s_val (v := .int .i64 level) (wt0 rfl) rfl rfl (x_move rfl rfl) ?_)
        by_cases hb26 : (level : Int) < 0
        · skip
          refine l_of (s_call (wt0 rfl) (x_call' rfl rfl cl49) (level_p1 _ _ _ (of_decide_eq_true (decide_eq_true hb26)) _) ?_)
          rintro _ wq27 ⟨rfl, H28⟩
          replace H28 : S wq27 [Ob g21 (.cells #[.int .i64 n, .int .i64 (((tallN n.toNat : Nat) : Int))] 66 (0, 0)), Ob g1 (.cells #[.int .i64 0] 25 (0, 0)), Old w no] := H25.absorb (new := []) H28
          refine b_panic ?_
          refine g_then_panic ?_
          refine fin_dpanic ?_
          refine gl_step (by simp) cl45 (caught_p g1 (7) (0) [] _ (H28.ob (k := 1) rfl)) ?_
          rintro _ _ wq29 ⟨⟨rfl, H30⟩, rfl⟩
          replace H30 : S wq29 [Ob g1 (.cells #[.int .i64 7] 25 (0, 0)), Ob g21 (.cells #[.int .i64 n, .int .i64 (((tallN n.toNat : Nat) : Int))] 66 (0, 0)), Old w no] := H28.absorbK (new := [Ob g1 (.cells #[.int .i64 7] 25 (0, 0))]) [1] (by intro g hg; subst hg; exact ⟨1, rfl, _, rfl, rfl⟩) H30
          refine (?_ : GL _ _ _ _ _ _ FrameMode.returning _)
          refine gl_ret [.tmp 6, .cell 7 25] [.string (⟨#[]⟩), .int .i64 7] rfl ⟨rfl, ⟨_, rfl, run_load1 Try.underlying25 rfl (H30.cell (k := 0) rfl rfl)⟩, trivial⟩ ?_
          have hrf : rangeT n level = false := range_f (by omega)
          exact ⟨by unfold fromS; rw [if_pos hb6, if_neg (by rw [hrf]; exact Bool.false_ne_true)]; rfl, H30.mask [false, false, true]⟩
        · skip
          by_cases hb31 : (((tallN n.toNat : Nat) : Int) : Int) < level
          · skip
            refine l_of (s_call (wt0 rfl) (x_call' rfl rfl cl49) (level_p2 _ _ _ (of_decide_eq_false (decide_eq_false hb26)) (of_decide_eq_true (decide_eq_true hb31)) _) ?_)
            rintro _ wq32 ⟨rfl, H33⟩
            replace H33 : S wq32 [Ob g21 (.cells #[.int .i64 n, .int .i64 (((tallN n.toNat : Nat) : Int))] 66 (0, 0)), Ob g1 (.cells #[.int .i64 0] 25 (0, 0)), Old w no] := H25.absorb (new := []) H33
            refine b_panic ?_
            refine g_then_panic ?_
            refine fin_dpanic ?_
            refine gl_step (by simp) cl45 (caught_p g1 (7) (0) [] _ (H33.ob (k := 1) rfl)) ?_
            rintro _ _ wq34 ⟨⟨rfl, H35⟩, rfl⟩
            replace H35 : S wq34 [Ob g1 (.cells #[.int .i64 7] 25 (0, 0)), Ob g21 (.cells #[.int .i64 n, .int .i64 (((tallN n.toNat : Nat) : Int))] 66 (0, 0)), Old w no] := H33.absorbK (new := [Ob g1 (.cells #[.int .i64 7] 25 (0, 0))]) [1] (by intro g hg; subst hg; exact ⟨1, rfl, _, rfl, rfl⟩) H35
            refine (?_ : GL _ _ _ _ _ _ FrameMode.returning _)
            refine gl_ret [.tmp 6, .cell 7 25] [.string (⟨#[]⟩), .int .i64 7] rfl ⟨rfl, ⟨_, rfl, run_load1 Try.underlying25 rfl (H35.cell (k := 0) rfl rfl)⟩, trivial⟩ ?_
            have hrf : rangeT n level = false := range_f (by omega)
            exact ⟨by unfold fromS; rw [if_pos hb6, if_neg (by rw [hrf]; exact Bool.false_ne_true)]; rfl, H35.mask [false, false, true]⟩
          · skip
            refine l_of (s_call (wt0 rfl) (x_call' rfl rfl cl49) (level_r _ _ _ (of_decide_eq_false (decide_eq_false hb26)) (of_decide_eq_false (decide_eq_false hb31)) _) ?_)
            rintro _ wq36 ⟨rfl, H37⟩
            replace H37 : S wq36 [Ob g21 (.cells #[.int .i64 n, .int .i64 (((tallN n.toNat : Nat) : Int))] 66 (0, 0)), Ob g1 (.cells #[.int .i64 0] 25 (0, 0)), Old w no] := H25.absorb (new := []) H37
            refine b_ret rfl rfl ?_
            refine g_nil ?_
            refine g_then ?_
            refine g_seq ?_
            refine g_region ?_
            refine l_of (s_val (v := .slice p m c) (wt0 rfl) rfl rfl (x_move rfl rfl) ?_)
            refine l_of (s_val (v := .int .i64 ((m : Int))) (wt0 rfl) rfl rfl (x_lenl rfl rfl Try.underlying22) ?_)
            refine l_of (s_val (v := .agg #[.int .i64 n, .int .i64 (((tallN n.toNat : Nat) : Int))]) (wt0 rfl) rfl rfl (x_loadA H37 0 rfl rfl Try.underlying66 rfl sz66 rfl rfl rfl) ?_)
            refine l_of (s_val (v := .int .i64 level) (wt0 rfl) rfl rfl (x_move rfl rfl) ?_)
            refine l_of (s_call (wt0 rfl) (x_call' rfl rfl cl50) (counts_i _ _ _ (by omega) (by omega) (by omega) (by omega) _) ?_)
            rintro _ wq38 ⟨rfl, H39⟩
            replace H39 : S wq38 [Ob g21 (.cells #[.int .i64 n, .int .i64 (((tallN n.toNat : Nat) : Int))] 66 (0, 0)), Ob g1 (.cells #[.int .i64 0] 25 (0, 0)), Old w no] := H37.absorb (new := []) H39
            refine b_ret rfl rfl ?_
            refine l_of (s_val (v := .bool (!decide (((m : Int) : Int) = ((countN n.toNat level.toNat : Nat) : Int)))) (wt0 rfl) rfl rfl (x_bin rfl rfl rfl b_neq) ?_)
            by_cases hb40 : ((m : Int) : Int) = ((countN n.toNat level.toNat : Nat) : Int)
            · skip
              refine l_of (s_call (wt0 rfl) (x_call' rfl rfl cl46) (fail_r _ _ (nf hb40) _) ?_)
              rintro _ wq41 ⟨rfl, H42⟩
              replace H42 : S wq41 [Ob g21 (.cells #[.int .i64 n, .int .i64 (((tallN n.toNat : Nat) : Int))] 66 (0, 0)), Ob g1 (.cells #[.int .i64 0] 25 (0, 0)), Old w no] := H39.absorb (new := []) H42
              refine b_ret rfl rfl ?_
              refine g_nil ?_
              refine g_then ?_
              refine g_weak [(1, .int .i64 level), (2, .slice p m c), (7, .pointer (some ⟨g1, 0, none⟩)), (8, .pointer (some ⟨g21, 0, none⟩))] ⟨rfl, rfl, rfl, rfl, trivial⟩ ?_
              refine g_seq ?_
              refine g_region ?_
              refine l_of (s_val (v := .int .i64 level) (wt0 rfl) rfl rfl (x_move rfl rfl) ?_)
              refine l_of (s_val (v := .pointer (some ⟨g21, 1, none⟩)) (wt0 rfl) rfl rfl (x_fieldAddr rfl rfl fo66_1 rfl) ?_)
              refine l_of (s_val (v := .int .i64 (((tallN n.toNat : Nat) : Int))) (wt0 rfl) rfl rfl (x_load1 H42 0 rfl rfl Try.underlying3 rfl rfl rfl) ?_)
              refine l_of (s_val (v := .slice p m c) (wt0 rfl) rfl rfl (x_move rfl rfl) ?_)
              have hcl := count_le (n := n.toNat) (v := level.toNat) (by omega) (by omega) (by omega)
              have h4096 : 2 ^ (tallN n.toNat - level.toNat) ≤ 2 ^ 12 := Nat.pow_le_pow_right (by omega) (by omega)
              have hlen := lvlS_count (n := n.toNat) (v := level.toNat) (l := l) (by omega) (tallN n.toNat - level.toNat)
              have hpos := countN_pos n.toNat (level.toNat + (tallN n.toNat - level.toNat))
              have hlay := layer_i level ((tallN n.toNat : Nat) : Int) l p m c (by omega) (by omega) hn (by omega) (by omega) (digs_size hb6) (by simp only [Int.toNat_natCast]; omega) wq41 (H42.oldReads (k := 2) rfl hr)
              simp only [Int.toNat_natCast] at hlay
              refine l_of (s_call (wt0 rfl) (x_call' rfl rfl cl51) hlay ?_)
              rintro _ wq45 ⟨p43, c44, rfl, H46⟩
              replace H46 : S wq45 [Rw 9 1 p43 (lvlS level.toNat l (tallN n.toNat - level.toNat)).length c44 (stV (lvlS level.toNat l (tallN n.toNat - level.toNat))), Ob g21 (.cells #[.int .i64 n, .int .i64 (((tallN n.toNat : Nat) : Int))] 66 (0, 0)), Ob g1 (.cells #[.int .i64 0] 25 (0, 0)), Old w no] := H42.absorb (new := [Rw 9 1 p43 (lvlS level.toNat l (tallN n.toNat - level.toNat)).length c44 (stV (lvlS level.toNat l (tallN n.toNat - level.toNat)))]) H46
              refine b_ret rfl rfl ?_
              refine l_of (s_val (v := .pointer ((p43).map fun q => q.add (0 * 1))) (wt0 rfl) rfl rfl (x_idxR 0 (H46.rwReads (k := 0) rfl) rfl rfl rfl Try.underlying22 sz9 (by omega)) ?_)
              refine l_of (s_val (v := .string (((lvlS level.toNat l (tallN n.toNat - level.toNat)).getD (0) ⟨#[]⟩))) (wt0 rfl) rfl rfl (x_loadR1 0 (H46.rwReads (k := 0) rfl) (by omega) rfl rfl Try.underlying9 rfl (stV_at (by omega))) ?_)
              refine l_of (s_val (v := .string (((lvlS level.toNat l (tallN n.toNat - level.toNat)).getD (0) ⟨#[]⟩))) (wt0 rfl) rfl rfl (x_assign rfl rfl) ?_)
              refine l_of (s_store H46 2 (wt0 rfl) rfl rfl rfl rfl rfl sz25 rfl rfl (cs' := #[.int .i64 0]) rfl ?_)
              intro wq47 H48
              refine g_nil ?_
              refine g_then ?_
              refine g_ret ?_
              refine fin_dret ?_
              refine gl_step (by simp) cl45 (caught_n g1 _) ?_
              rintro _ _ wq49 ⟨⟨rfl, H50⟩, rfl⟩
              replace H50 : S wq49 [Rw 9 1 p43 (lvlS level.toNat l (tallN n.toNat - level.toNat)).length c44 (stV (lvlS level.toNat l (tallN n.toNat - level.toNat))), Ob g21 (.cells #[.int .i64 n, .int .i64 (((tallN n.toNat : Nat) : Int))] 66 (0, 0)), Ob g1 (.cells #[.int .i64 0] 25 (0, 0)), Old w no] := H48.absorb (new := []) H50
              refine (?_ : GL _ _ _ _ _ _ FrameMode.returning _)
              refine gl_ret [.tmp 6, .cell 7 25] [.string (((lvlS level.toNat l (tallN n.toNat - level.toNat)).getD (0) ⟨#[]⟩)), .int .i64 0] rfl ⟨rfl, ⟨_, rfl, run_load1 Try.underlying25 rfl (H50.cell (k := 2) rfl rfl)⟩, trivial⟩ ?_
              exact ⟨by unfold fromS; rw [if_pos hb6, if_pos (range_t (by omega) (by omega) (by omega) (by omega)), if_pos (by omega), from_plain (by omega) (by omega) (by omega) (by omega)]; rfl, H50.mask [false, false, false, true]⟩
            · skip
              refine l_of (s_call (wt0 rfl) (x_call' rfl rfl cl46) (fail_p _ _ (nt hb40) _) ?_)
              rintro _ wq51 ⟨rfl, H52⟩
              replace H52 : S wq51 [Ob g21 (.cells #[.int .i64 n, .int .i64 (((tallN n.toNat : Nat) : Int))] 66 (0, 0)), Ob g1 (.cells #[.int .i64 0] 25 (0, 0)), Old w no] := H39.absorb (new := []) H52
              refine b_panic ?_
              refine g_then_panic ?_
              refine fin_dpanic ?_
              refine gl_step (by simp) cl45 (caught_p g1 (11) (0) [] _ (H52.ob (k := 1) rfl)) ?_
              rintro _ _ wq53 ⟨⟨rfl, H54⟩, rfl⟩
              replace H54 : S wq53 [Ob g1 (.cells #[.int .i64 11] 25 (0, 0)), Ob g21 (.cells #[.int .i64 n, .int .i64 (((tallN n.toNat : Nat) : Int))] 66 (0, 0)), Old w no] := H52.absorbK (new := [Ob g1 (.cells #[.int .i64 11] 25 (0, 0))]) [1] (by intro g hg; subst hg; exact ⟨1, rfl, _, rfl, rfl⟩) H54
              refine (?_ : GL _ _ _ _ _ _ FrameMode.returning _)
              refine gl_ret [.tmp 6, .cell 7 25] [.string (⟨#[]⟩), .int .i64 11] rfl ⟨rfl, ⟨_, rfl, run_load1 Try.underlying25 rfl (H54.cell (k := 0) rfl rfl)⟩, trivial⟩ ?_
              exact ⟨by unfold fromS; rw [if_pos hb6, if_pos (range_t (by omega) (by omega) (by omega) (by omega)), if_neg (by omega)]; rfl, H54.mask [false, false, true]⟩
  · skip
    refine l_of (s_call (wt0 rfl) (x_call' rfl rfl cl46) (fail_p _ _ (neg_of hb6) _) ?_)
    rintro _ wq55 ⟨rfl, H56⟩
    replace H56 : S wq55 [Ob g1 (.cells #[.int .i64 0] 25 (0, 0)), Old w no] := H5.absorb (new := []) H56
    refine b_panic ?_
    refine g_then_panic ?_
    refine fin_dpanic ?_
    refine gl_step (by simp) cl45 (caught_p g1 (1) (0) [] _ (H56.ob (k := 0) rfl)) ?_
    rintro _ _ wq57 ⟨⟨rfl, H58⟩, rfl⟩
    replace H58 : S wq57 [Ob g1 (.cells #[.int .i64 1] 25 (0, 0)), Old w no] := H56.absorbK (new := [Ob g1 (.cells #[.int .i64 1] 25 (0, 0))]) [0] (by intro g hg; subst hg; exact ⟨0, rfl, _, rfl, rfl⟩) H58
    refine (?_ : GL _ _ _ _ _ _ FrameMode.returning _)
    refine gl_ret [.tmp 6, .cell 7 25] [.string (⟨#[]⟩), .int .i64 1] rfl ⟨rfl, ⟨_, rfl, run_load1 Try.underlying25 rfl (H58.cell (k := 0) rfl rfl)⟩, trivial⟩ ?_
    exact ⟨by unfold fromS; rw [if_neg (by rw [hb6]; exact Bool.false_ne_true)]; rfl, H58.mask [false, true]⟩
end Go.Proofs.Ytlajgickimgigaa
