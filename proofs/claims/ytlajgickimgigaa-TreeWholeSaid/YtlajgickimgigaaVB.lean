import Derived.Test.YtlajgickimgigaaVA
set_option linter.unusedSimpArgs false
set_option linter.unusedVariables false
namespace Go.Proofs.Ytlajgickimgigaa
open Go.RowKit

theorem cl76 : callable Try.prog 76 = true := by kernel_rfl
theorem cl77 : callable Try.prog 77 = true := by kernel_rfl
theorem cl96 : callable Try.prog 96 = true := by kernel_rfl
theorem fo100_0 : foO Try.prog 100 0 = some 0 := by kernel_rfl
theorem fo100_1 : foO Try.prog 100 1 = some 1 := by kernel_rfl
theorem fo100_2 : foO Try.prog 100 2 = some 2 := by kernel_rfl
/-- What Block meets, with these leaves. -/
def blockV (n h : Nat) (lf : Nat → ByteArray) (i : Int) (s : ByteArray) : Int :=
  if nodeOk h 0 i = true then (if (n : Int) ≤ i then 7 else if s.size = 0 ∨ 16 < s.size then 11 else if sumS s = lf i.toNat then 0 else 13) else 7
/-- What the reference's Get finds. -/
def getR (h : Nat) (M : PM) (v i : Int) : ByteArray × Int := if nodeOk h v i = true then (if (M (v.toNat, i.toNat)).isSome = true then ((M (v.toNat, i.toNat)).getD ⟨#[]⟩, 0) else (⟨#[]⟩, 8)) else (⟨#[]⟩, 7)
theorem two_le {h : Nat} (hh : h ≤ 12) : 2 ^ (h - (0 : Int).toNat) ≤ 4096 := by
  show 2 ^ (h - 0) ≤ 2 ^ 12
  exact Nat.pow_le_pow_right (by omega) (by omega)
theorem count_zero {n : Nat} (h : 1 ≤ n) : countN n 0 = n := by unfold countN; rw [Nat.pow_zero, Nat.div_one]; omega
theorem get_some {n I0 : Nat} {M : PM} {lf : Nat → ByteArray} (h1 : 1 ≤ n) (hM : ∀ j, j < n → M (0, j) = some (lf j)) : (getT n M 0 I0).isSome = true := by
  unfold getT
  split
  · rfl
  · rename_i h
    rw [count_zero h1] at h
    rw [hM _ (by omega)]; rfl
set_option maxRecDepth 20000 in
set_option maxHeartbeats 4000000 in
set_option maxRecDepth 20000 in
set_option maxHeartbeats 4000000 in
theorem block_s (tg mg n h : Nat) (root : ByteArray) (M : PM) (lf : Nat → ByteArray) (i : Int) (s : ByteArray) (h1 : 1 ≤ n) (hn : n ≤ 4096) (hh : h ≤ 12) (hM : ∀ j, j < n → M (0, j) = some (lf j)) (w : World) (HS : S w [Ob tg (.cells #[.int .i64 ((n : Int)), .int .i64 ((h : Int)), .string root, .map (some mg)] 96 (0, 0)), Mp placeV Value.string placeOk mg (M)]) : Calls Try.prog 32 #[.pointer (some ⟨tg, 0, none⟩), .int .i64 i, .string s] w fun e w' => e = .returned (.int .i64 (blockV n h lf i s)) ∧ S w' ([Ob tg (.cells #[.int .i64 ((n : Int)), .int .i64 ((h : Int)), .string root, .map (some mg)] 96 (0, 0)), Mp placeV Value.string placeOk mg (M)] ++ [Old w (fps [Ob tg (.cells #[.int .i64 ((n : Int)), .int .i64 ((h : Int)), .string root, .map (some mg)] 96 (0, 0)), Mp placeV Value.string placeOk mg (M)])]) := by
  have H00 := HS.beginI
  have H0 : S w ([Ob tg (.cells #[.int .i64 ((n : Int)), .int .i64 ((h : Int)), .string root, .map (some mg)] 96 (0, 0)), Mp placeV Value.string placeOk mg (M), Old w (fps [Ob tg (.cells #[.int .i64 ((n : Int)), .int .i64 ((h : Int)), .string root, .map (some mg)] 96 (0, 0)), Mp placeV Value.string placeOk mg (M)])]) := H00
  refine enter_d 48 Try.func32 rfl rfl rfl ?_
  refine g_weak [(0, .pointer (some ⟨tg, 0, none⟩)), (1, .int .i64 i), (2, .string s)] ⟨rfl, rfl, rfl, trivial⟩ ?_
  refine g_seq ?_
  refine g_region ?_
  refine l_of (s_alloc H0 (wt0 rfl) rfl rfl rfl ze25 ?_)
  intro g1 wq2 H3
  refine g_nil ?_
  refine g_then ?_
  refine g_seq ?_
  refine g_region ?_
  refine l_of (s_defer (wt0 rfl) rfl (xd_defer rfl rfl rfl) ?_)
  refine g_nil ?_
  refine g_then ?_
  refine g_seq ?_
  refine g_region ?_
  refine l_of (s_val (v := .pointer (some ⟨tg, 0, none⟩)) (wt0 rfl) rfl rfl (x_move rfl rfl) ?_)
  refine l_of (s_val (v := .bool false) (wt0 rfl) rfl rfl (x_bin rfl rfl rfl (b_eqN (r := false) Try.underlying43 rfl)) ?_)
  refine l_of (s_call (wt0 rfl) (x_call' rfl rfl cl46) (fail_r _ _ rfl _) ?_)
  rintro _ wq4 ⟨rfl, H5⟩
  replace H5 : S wq4 [Ob g1 (.cells #[.int .i64 0] 25 (0, 0)), Ob tg (.cells #[.int .i64 ((n : Int)), .int .i64 ((h : Int)), .string root, .map (some mg)] 96 (0, 0)), Mp placeV Value.string placeOk mg (M), Old w (fps [Ob tg (.cells #[.int .i64 ((n : Int)), .int .i64 ((h : Int)), .string root, .map (some mg)] 96 (0, 0)), Mp placeV Value.string placeOk mg (M)])] := H3.absorb (new := []) H5
  refine b_ret rfl rfl ?_
  refine g_nil ?_
  refine g_then ?_
  refine g_seq ?_
  refine g_region ?_
  refine l_of (s_val (v := .pointer (some ⟨tg, 0, none⟩)) (wt0 rfl) rfl rfl (x_move rfl rfl) ?_)
  refine l_of (s_val (v := .pointer (some ⟨tg, 0, none⟩)) (wt0 rfl) rfl rfl (x_nilCheck rfl rfl) ?_)
  refine l_of (s_val (v := .pointer (some ⟨tg, 0, none⟩)) (wt0 rfl) rfl rfl (x_fieldAddr rfl rfl fo96_0 rfl) ?_)
  refine l_of (s_val (v := .agg #[.int .i64 ((n : Int)), .int .i64 ((h : Int))]) (wt0 rfl) rfl rfl (x_loadA H5 1 rfl rfl Try.underlying66 rfl sz66 rfl rfl rfl) ?_)
  refine l_of (s_val (v := .int .i64 i) (wt0 rfl) rfl rfl (x_move rfl rfl) ?_)
  refine l_of (s_call (wt0 rfl) (x_call' rfl rfl cl69) (fnode_s _ h 0 i (by omega) _) ?_)
  rintro _ wq6 ⟨rfl, H7⟩
  replace H7 : S wq6 [Ob g1 (.cells #[.int .i64 0] 25 (0, 0)), Ob tg (.cells #[.int .i64 ((n : Int)), .int .i64 ((h : Int)), .string root, .map (some mg)] 96 (0, 0)), Mp placeV Value.string placeOk mg (M), Old w (fps [Ob tg (.cells #[.int .i64 ((n : Int)), .int .i64 ((h : Int)), .string root, .map (some mg)] 96 (0, 0)), Mp placeV Value.string placeOk mg (M)])] := H5.absorb (new := []) H7
  by_cases hno : nodeOk h 0 i = true
  · skip
    rw [show nodeV h 0 i = .returned (.tuple #[]) from if_pos hno]
    refine b_ret rfl rfl ?_
    obtain ⟨o1, o2, o3, o4⟩ := nodeOk_s hno
    obtain ⟨I0, rfl⟩ : ∃ I0 : Nat, i = (I0 : Int) := ⟨i.toNat, by omega⟩
    have h4096 := two_le hh
    refine g_nil ?_
    refine g_then ?_
    refine g_seq ?_
    refine g_region ?_
    refine l_of (s_val (v := .pointer (some ⟨tg, 0, none⟩)) (wt0 rfl) rfl rfl (x_move rfl rfl) ?_)
    refine l_of (s_val (v := .int .i64 ((I0 : Int))) (wt0 rfl) rfl rfl (x_move rfl rfl) ?_)
    refine l_of (s_call (wt0 rfl) (x_call' rfl rfl cl76) (get_s tg mg n h root M 0 I0 h1 (by omega) (by omega) (by omega) _ (H7.takes [1, 2] (by decide))) ?_)
    rintro _ wq8 ⟨rfl, H9⟩
    replace H9 : S wq8 [Ob tg (.cells #[.int .i64 ((n : Int)), .int .i64 ((h : Int)), .string root, .map (some mg)] 96 (0, 0)), Mp placeV Value.string placeOk mg (M), Ob g1 (.cells #[.int .i64 0] 25 (0, 0)), Old w (fps [Ob tg (.cells #[.int .i64 ((n : Int)), .int .i64 ((h : Int)), .string root, .map (some mg)] 96 (0, 0)), Mp placeV Value.string placeOk mg (M)])] := H7.absorbI (new := [Ob tg (.cells #[.int .i64 ((n : Int)), .int .i64 ((h : Int)), .string root, .map (some mg)] 96 (0, 0)), Mp placeV Value.string placeOk mg (M)]) [1, 2] H9
    refine b_ret rfl rfl ?_
    refine l_of (s_val (v := .tuple #[.string (((getT n M 0 I0).getD ⟨#[]⟩)), .bool ((getT n M 0 I0).isSome)]) (wt0 rfl) rfl rfl (x_move rfl rfl) ?_)
    refine l_of (s_val (v := .string (((getT n M 0 I0).getD ⟨#[]⟩))) (wt0 rfl) rfl rfl (x_extract rfl rfl rfl) ?_)
    refine l_of (s_val (v := .bool ((getT n M 0 I0).isSome)) (wt0 rfl) rfl rfl (x_extract rfl rfl rfl) ?_)
    refine l_of (s_val (v := .string (((getT n M 0 I0).getD ⟨#[]⟩))) (wt0 rfl) rfl rfl (x_assign rfl rfl) ?_)
    refine l_of (s_val (v := .bool ((getT n M 0 I0).isSome)) (wt0 rfl) rfl rfl (x_assign rfl rfl) ?_)
    refine g_nil ?_
    refine g_then ?_
    refine g_weak [(0, .pointer (some ⟨tg, 0, none⟩)), (1, .int .i64 ((I0 : Int))), (2, .string s), (6, .pointer (some ⟨g1, 0, none⟩)), (7, .string (((getT n M 0 I0).getD ⟨#[]⟩))), (8, .bool ((getT n M 0 I0).isSome))] ⟨rfl, rfl, rfl, rfl, rfl, rfl, trivial⟩ ?_
    refine g_seq ?_
    refine g_region ?_
    refine l_of (s_val (v := .bool ((getT n M 0 I0).isSome)) (wt0 rfl) rfl rfl (x_move rfl rfl) ?_)
    refine l_of (s_val (v := .bool (!((getT n M 0 I0).isSome))) (wt0 rfl) rfl rfl (x_not (b := (getT n M 0 I0).isSome) rfl rfl) ?_)
    rcases Bool.eq_false_or_eq_true ((getT n M 0 I0).isSome) with hb10 | hb10
    · skip
      refine l_of (s_call (wt0 rfl) (x_call' rfl rfl cl46) (fail_r _ _ (neg_of hb10) _) ?_)
      rintro _ wq11 ⟨rfl, H12⟩
      replace H12 : S wq11 [Ob tg (.cells #[.int .i64 ((n : Int)), .int .i64 ((h : Int)), .string root, .map (some mg)] 96 (0, 0)), Mp placeV Value.string placeOk mg (M), Ob g1 (.cells #[.int .i64 0] 25 (0, 0)), Old w (fps [Ob tg (.cells #[.int .i64 ((n : Int)), .int .i64 ((h : Int)), .string root, .map (some mg)] 96 (0, 0)), Mp placeV Value.string placeOk mg (M)])] := H9.absorb (new := []) H12
      refine b_ret rfl rfl ?_
      refine g_nil ?_
      refine g_then ?_
      refine g_seq ?_
      refine g_region ?_
      refine l_of (s_val (v := .int .i64 ((I0 : Int))) (wt0 rfl) rfl rfl (x_move rfl rfl) ?_)
      refine l_of (s_val (v := .pointer (some ⟨tg, 0, none⟩)) (wt0 rfl) rfl rfl (x_move rfl rfl) ?_)
      refine l_of (s_val (v := .pointer (some ⟨tg, 0, none⟩)) (wt0 rfl) rfl rfl (x_nilCheck rfl rfl) ?_)
      refine l_of (s_val (v := .pointer (some ⟨tg, 0, none⟩)) (wt0 rfl) rfl rfl (x_fieldAddr rfl rfl fo96_0 rfl) ?_)
      refine l_of (s_val (v := .pointer (some ⟨tg, 0, none⟩)) (wt0 rfl) rfl rfl (x_fieldAddr rfl rfl fo66_0 rfl) ?_)
      refine l_of (s_val (v := .int .i64 ((n : Int))) (wt0 rfl) rfl rfl (x_load1 H12 0 rfl rfl Try.underlying3 rfl rfl rfl) ?_)
      refine l_of (s_val (v := .bool (decide (((n : Int) : Int) ≤ (I0 : Int)))) (wt0 rfl) rfl rfl (x_bin rfl rfl rfl b_geq) ?_)
      by_cases hb13 : ((n : Int) : Int) ≤ (I0 : Int)
      · skip
        refine l_of (s_call (wt0 rfl) (x_call' rfl rfl cl46) (fail_p _ _ (decide_eq_true hb13) _) ?_)
        rintro _ wq14 ⟨rfl, H15⟩
        replace H15 : S wq14 [Ob tg (.cells #[.int .i64 ((n : Int)), .int .i64 ((h : Int)), .string root, .map (some mg)] 96 (0, 0)), Mp placeV Value.string placeOk mg (M), Ob g1 (.cells #[.int .i64 0] 25 (0, 0)), Old w (fps [Ob tg (.cells #[.int .i64 ((n : Int)), .int .i64 ((h : Int)), .string root, .map (some mg)] 96 (0, 0)), Mp placeV Value.string placeOk mg (M)])] := H12.absorb (new := []) H15
        refine b_panic ?_
        refine g_then_panic ?_
        refine fin_dpanic ?_
        refine gl_step (by simp) cl45 (caught_p g1 (7) (0) [] _ (H15.ob (k := 2) rfl)) ?_
        rintro _ _ wq16 ⟨⟨rfl, H17⟩, rfl⟩
        replace H17 : S wq16 [Ob g1 (.cells #[.int .i64 7] 25 (0, 0)), Ob tg (.cells #[.int .i64 ((n : Int)), .int .i64 ((h : Int)), .string root, .map (some mg)] 96 (0, 0)), Mp placeV Value.string placeOk mg (M), Old w (fps [Ob tg (.cells #[.int .i64 ((n : Int)), .int .i64 ((h : Int)), .string root, .map (some mg)] 96 (0, 0)), Mp placeV Value.string placeOk mg (M)])] := H15.absorbK (new := [Ob g1 (.cells #[.int .i64 7] 25 (0, 0))]) [2] (by intro g hg; subst hg; exact ⟨2, rfl, _, rfl, rfl⟩) H17
        refine (?_ : GL _ _ _ _ _ _ FrameMode.returning _)
        refine gl_ret [.cell 6 25] [.int .i64 7] rfl ⟨⟨_, rfl, run_load1 Try.underlying25 rfl (H17.cell (k := 0) rfl rfl)⟩, trivial⟩ ?_
        exact ⟨by unfold blockV; rw [if_pos hno, if_pos (by omega)]; rfl, H17.takes [1, 2, 3] (by decide)⟩
      · skip
        have hgt : getT n M 0 I0 = some (lf I0) := by unfold getT; rw [if_neg (by rw [count_zero h1]; omega)]; exact hM _ (by omega)
        refine l_of (s_call (wt0 rfl) (x_call' rfl rfl cl46) (fail_r _ _ (decide_eq_false hb13) _) ?_)
        rintro _ wq18 ⟨rfl, H19⟩
        replace H19 : S wq18 [Ob tg (.cells #[.int .i64 ((n : Int)), .int .i64 ((h : Int)), .string root, .map (some mg)] 96 (0, 0)), Mp placeV Value.string placeOk mg (M), Ob g1 (.cells #[.int .i64 0] 25 (0, 0)), Old w (fps [Ob tg (.cells #[.int .i64 ((n : Int)), .int .i64 ((h : Int)), .string root, .map (some mg)] 96 (0, 0)), Mp placeV Value.string placeOk mg (M)])] := H12.absorb (new := []) H19
        refine b_ret rfl rfl ?_
        refine g_nil ?_
        refine g_then ?_
        refine g_weak [(2, .string s), (6, .pointer (some ⟨g1, 0, none⟩)), (7, .string (((getT n M 0 I0).getD ⟨#[]⟩)))] ⟨rfl, rfl, rfl, trivial⟩ ?_
        refine g_seq ?_
        refine g_region ?_
        refine l_of (s_val (v := .string s) (wt0 rfl) rfl rfl (x_move rfl rfl) ?_)
        refine l_of (s_val (v := .bool (decide (s = ⟨#[]⟩))) (wt0 rfl) rfl rfl (x_bin rfl rfl rfl b_eqs) ?_)
        refine l_of (s_val (v := .bool (decide (s = ⟨#[]⟩))) (wt0 rfl) rfl rfl (x_move rfl rfl) ?_)
        by_cases hb20 : s = ⟨#[]⟩
        · skip
          refine l_of (s_not (wn1 rfl rfl rfl rfl (decide_eq_true hb20)) rfl rfl ?_)
          refine l_of (s_not (wn1 rfl rfl rfl rfl (decide_eq_true hb20)) rfl rfl ?_)
          refine l_of (s_not (wn1 rfl rfl rfl rfl (decide_eq_true hb20)) rfl rfl ?_)
          refine l_of (s_val (v := .bool true) (wt0 rfl) rfl rfl (x_pick_t rfl rfl (decide_eq_true hb20) rfl) ?_)
          refine l_of (s_call (wt0 rfl) (x_call' rfl rfl cl46) (fail_p _ _ rfl _) ?_)
          rintro _ wq21 ⟨rfl, H22⟩
          replace H22 : S wq21 [Ob tg (.cells #[.int .i64 ((n : Int)), .int .i64 ((h : Int)), .string root, .map (some mg)] 96 (0, 0)), Mp placeV Value.string placeOk mg (M), Ob g1 (.cells #[.int .i64 0] 25 (0, 0)), Old w (fps [Ob tg (.cells #[.int .i64 ((n : Int)), .int .i64 ((h : Int)), .string root, .map (some mg)] 96 (0, 0)), Mp placeV Value.string placeOk mg (M)])] := H19.absorb (new := []) H22
          refine b_panic ?_
          refine g_then_panic ?_
          refine fin_dpanic ?_
          refine gl_step (by simp) cl45 (caught_p g1 (11) (0) [] _ (H22.ob (k := 2) rfl)) ?_
          rintro _ _ wq23 ⟨⟨rfl, H24⟩, rfl⟩
          replace H24 : S wq23 [Ob g1 (.cells #[.int .i64 11] 25 (0, 0)), Ob tg (.cells #[.int .i64 ((n : Int)), .int .i64 ((h : Int)), .string root, .map (some mg)] 96 (0, 0)), Mp placeV Value.string placeOk mg (M), Old w (fps [Ob tg (.cells #[.int .i64 ((n : Int)), .int .i64 ((h : Int)), .string root, .map (some mg)] 96 (0, 0)), Mp placeV Value.string placeOk mg (M)])] := H22.absorbK (new := [Ob g1 (.cells #[.int .i64 11] 25 (0, 0))]) [2] (by intro g hg; subst hg; exact ⟨2, rfl, _, rfl, rfl⟩) H24
          refine (?_ : GL _ _ _ _ _ _ FrameMode.returning _)
          refine gl_ret [.cell 6 25] [.int .i64 11] rfl ⟨⟨_, rfl, run_load1 Try.underlying25 rfl (H24.cell (k := 0) rfl rfl)⟩, trivial⟩ ?_
          exact ⟨by unfold blockV; rw [if_pos hno, if_neg (by omega), if_pos (.inl ((empty_iff s).1 hb20))]; rfl, H24.takes [1, 2, 3] (by decide)⟩
        · skip
          refine l_of (s_val (v := .string s) (wt1 rfl rfl rfl rfl (decide_eq_false hb20)) rfl rfl (x_move rfl rfl) ?_)
          refine l_of (s_val (v := .int .i64 ((s.size : Int))) (wt1 rfl rfl rfl rfl (decide_eq_false hb20)) rfl rfl (x_lens rfl rfl Try.underlying9) ?_)
          refine l_of (s_val (v := .bool (decide ((16 : Int) < (s.size : Int)))) (wt1 rfl rfl rfl rfl (decide_eq_false hb20)) rfl rfl (x_bin rfl rfl rfl b_gtr) ?_)
          refine l_of (s_val (v := .bool (decide ((16 : Int) < (s.size : Int)))) (wt0 rfl) rfl rfl (x_pick_f rfl rfl (decide_eq_false hb20) rfl) ?_)
          by_cases hb25 : (16 : Int) < (s.size : Int)
          · skip
            refine l_of (s_call (wt0 rfl) (x_call' rfl rfl cl46) (fail_p _ _ (decide_eq_true hb25) _) ?_)
            rintro _ wq26 ⟨rfl, H27⟩
            replace H27 : S wq26 [Ob tg (.cells #[.int .i64 ((n : Int)), .int .i64 ((h : Int)), .string root, .map (some mg)] 96 (0, 0)), Mp placeV Value.string placeOk mg (M), Ob g1 (.cells #[.int .i64 0] 25 (0, 0)), Old w (fps [Ob tg (.cells #[.int .i64 ((n : Int)), .int .i64 ((h : Int)), .string root, .map (some mg)] 96 (0, 0)), Mp placeV Value.string placeOk mg (M)])] := H19.absorb (new := []) H27
            refine b_panic ?_
            refine g_then_panic ?_
            refine fin_dpanic ?_
            refine gl_step (by simp) cl45 (caught_p g1 (11) (0) [] _ (H27.ob (k := 2) rfl)) ?_
            rintro _ _ wq28 ⟨⟨rfl, H29⟩, rfl⟩
            replace H29 : S wq28 [Ob g1 (.cells #[.int .i64 11] 25 (0, 0)), Ob tg (.cells #[.int .i64 ((n : Int)), .int .i64 ((h : Int)), .string root, .map (some mg)] 96 (0, 0)), Mp placeV Value.string placeOk mg (M), Old w (fps [Ob tg (.cells #[.int .i64 ((n : Int)), .int .i64 ((h : Int)), .string root, .map (some mg)] 96 (0, 0)), Mp placeV Value.string placeOk mg (M)])] := H27.absorbK (new := [Ob g1 (.cells #[.int .i64 11] 25 (0, 0))]) [2] (by intro g hg; subst hg; exact ⟨2, rfl, _, rfl, rfl⟩) H29
            refine (?_ : GL _ _ _ _ _ _ FrameMode.returning _)
            refine gl_ret [.cell 6 25] [.int .i64 11] rfl ⟨⟨_, rfl, run_load1 Try.underlying25 rfl (H29.cell (k := 0) rfl rfl)⟩, trivial⟩ ?_
            exact ⟨by unfold blockV; rw [if_pos hno, if_neg (by omega), if_pos (.inr (by omega))]; rfl, H29.takes [1, 2, 3] (by decide)⟩
          · skip
            refine l_of (s_call (wt0 rfl) (x_call' rfl rfl cl46) (fail_r _ _ (decide_eq_false hb25) _) ?_)
            rintro _ wq30 ⟨rfl, H31⟩
            replace H31 : S wq30 [Ob tg (.cells #[.int .i64 ((n : Int)), .int .i64 ((h : Int)), .string root, .map (some mg)] 96 (0, 0)), Mp placeV Value.string placeOk mg (M), Ob g1 (.cells #[.int .i64 0] 25 (0, 0)), Old w (fps [Ob tg (.cells #[.int .i64 ((n : Int)), .int .i64 ((h : Int)), .string root, .map (some mg)] 96 (0, 0)), Mp placeV Value.string placeOk mg (M)])] := H19.absorb (new := []) H31
            refine b_ret rfl rfl ?_
            refine g_nil ?_
            refine g_then ?_
            refine g_seq ?_
            refine g_region ?_
            refine l_of (s_val (v := .string s) (wt0 rfl) rfl rfl (x_move rfl rfl) ?_)
            refine l_of (s_call (wt0 rfl) (x_call' rfl rfl cl42) (sum_h _ (by omega) _) ?_)
            rintro _ wq32 ⟨rfl, H33⟩
            replace H33 : S wq32 [Ob tg (.cells #[.int .i64 ((n : Int)), .int .i64 ((h : Int)), .string root, .map (some mg)] 96 (0, 0)), Mp placeV Value.string placeOk mg (M), Ob g1 (.cells #[.int .i64 0] 25 (0, 0)), Old w (fps [Ob tg (.cells #[.int .i64 ((n : Int)), .int .i64 ((h : Int)), .string root, .map (some mg)] 96 (0, 0)), Mp placeV Value.string placeOk mg (M)])] := H31.absorb (new := []) H33
            refine b_ret rfl rfl ?_
            refine l_of (s_val (v := .string (((getT n M 0 I0).getD ⟨#[]⟩))) (wt0 rfl) rfl rfl (x_move rfl rfl) ?_)
            refine l_of (s_val (v := .bool (!decide ((sumS s) = ((getT n M 0 I0).getD ⟨#[]⟩)))) (wt0 rfl) rfl rfl (x_bin rfl rfl rfl b_nes) ?_)
            by_cases hb34 : (sumS s) = ((getT n M 0 I0).getD ⟨#[]⟩)
            · skip
              refine l_of (s_call (wt0 rfl) (x_call' rfl rfl cl46) (fail_r _ _ (nf hb34) _) ?_)
              rintro _ wq35 ⟨rfl, H36⟩
              replace H36 : S wq35 [Ob tg (.cells #[.int .i64 ((n : Int)), .int .i64 ((h : Int)), .string root, .map (some mg)] 96 (0, 0)), Mp placeV Value.string placeOk mg (M), Ob g1 (.cells #[.int .i64 0] 25 (0, 0)), Old w (fps [Ob tg (.cells #[.int .i64 ((n : Int)), .int .i64 ((h : Int)), .string root, .map (some mg)] 96 (0, 0)), Mp placeV Value.string placeOk mg (M)])] := H33.absorb (new := []) H36
              refine b_ret rfl rfl ?_
              refine g_nil ?_
              refine g_then ?_
              refine g_weak [(6, .pointer (some ⟨g1, 0, none⟩))] ⟨rfl, trivial⟩ ?_
              refine g_seq ?_
              refine g_region ?_
              refine l_of (s_store H36 2 (wt0 rfl) rfl rfl rfl rfl rfl sz25 rfl rfl (cs' := #[.int .i64 0]) rfl ?_)
              intro wq37 H38
              refine g_nil ?_
              refine g_then ?_
              refine g_ret ?_
              refine fin_dret ?_
              refine gl_step (by simp) cl45 (caught_n g1 _) ?_
              rintro _ _ wq39 ⟨⟨rfl, H40⟩, rfl⟩
              replace H40 : S wq39 [Ob tg (.cells #[.int .i64 ((n : Int)), .int .i64 ((h : Int)), .string root, .map (some mg)] 96 (0, 0)), Mp placeV Value.string placeOk mg (M), Ob g1 (.cells #[.int .i64 0] 25 (0, 0)), Old w (fps [Ob tg (.cells #[.int .i64 ((n : Int)), .int .i64 ((h : Int)), .string root, .map (some mg)] 96 (0, 0)), Mp placeV Value.string placeOk mg (M)])] := H38.absorb (new := []) H40
              refine (?_ : GL _ _ _ _ _ _ FrameMode.returning _)
              refine gl_ret [.cell 6 25] [.int .i64 0] rfl ⟨⟨_, rfl, run_load1 Try.underlying25 rfl (H40.cell (k := 2) rfl rfl)⟩, trivial⟩ ?_
              have hgq : (getT n M 0 I0).getD ⟨#[]⟩ = lf I0 := by rw [hgt]; rfl
              have hlt : ((I0 : Int)).toNat = I0 := Int.toNat_natCast _
              have hq := hb34
              rw [hgq] at hq
              exact ⟨by unfold blockV; rw [if_pos hno, if_neg (by omega), if_neg (fun hq => by rcases hq with hq | hq; exact hb20 ((empty_iff s).2 hq); omega), hlt, if_pos hq]; rfl, H40.takes [0, 1, 3] (by decide)⟩
            · skip
              refine l_of (s_call (wt0 rfl) (x_call' rfl rfl cl46) (fail_p _ _ (nt hb34) _) ?_)
              rintro _ wq41 ⟨rfl, H42⟩
              replace H42 : S wq41 [Ob tg (.cells #[.int .i64 ((n : Int)), .int .i64 ((h : Int)), .string root, .map (some mg)] 96 (0, 0)), Mp placeV Value.string placeOk mg (M), Ob g1 (.cells #[.int .i64 0] 25 (0, 0)), Old w (fps [Ob tg (.cells #[.int .i64 ((n : Int)), .int .i64 ((h : Int)), .string root, .map (some mg)] 96 (0, 0)), Mp placeV Value.string placeOk mg (M)])] := H33.absorb (new := []) H42
              refine b_panic ?_
              refine g_then_panic ?_
              refine fin_dpanic ?_
              refine gl_step (by simp) cl45 (caught_p g1 (13) (0) [] _ (H42.ob (k := 2) rfl)) ?_
              rintro _ _ wq43 ⟨⟨rfl, H44⟩, rfl⟩
              replace H44 : S wq43 [Ob g1 (.cells #[.int .i64 13] 25 (0, 0)), Ob tg (.cells #[.int .i64 ((n : Int)), .int .i64 ((h : Int)), .string root, .map (some mg)] 96 (0, 0)), Mp placeV Value.string placeOk mg (M), Old w (fps [Ob tg (.cells #[.int .i64 ((n : Int)), .int .i64 ((h : Int)), .string root, .map (some mg)] 96 (0, 0)), Mp placeV Value.string placeOk mg (M)])] := H42.absorbK (new := [Ob g1 (.cells #[.int .i64 13] 25 (0, 0))]) [2] (by intro g hg; subst hg; exact ⟨2, rfl, _, rfl, rfl⟩) H44
              refine (?_ : GL _ _ _ _ _ _ FrameMode.returning _)
              refine gl_ret [.cell 6 25] [.int .i64 13] rfl ⟨⟨_, rfl, run_load1 Try.underlying25 rfl (H44.cell (k := 0) rfl rfl)⟩, trivial⟩ ?_
              have hgq : (getT n M 0 I0).getD ⟨#[]⟩ = lf I0 := by rw [hgt]; rfl
              have hlt : ((I0 : Int)).toNat = I0 := Int.toNat_natCast _
              have hq := hb34
              rw [hgq] at hq
              exact ⟨by unfold blockV; rw [if_pos hno, if_neg (by omega), if_neg (fun hq => by rcases hq with hq | hq; exact hb20 ((empty_iff s).2 hq); omega), hlt, if_neg hq]; rfl, H44.takes [1, 2, 3] (by decide)⟩
    · skip
      refine l_of (s_call (wt0 rfl) (x_call' rfl rfl cl46) (fail_p _ _ (neg_of hb10) _) ?_)
      rintro _ wq45 ⟨rfl, H46⟩
      replace H46 : S wq45 [Ob tg (.cells #[.int .i64 ((n : Int)), .int .i64 ((h : Int)), .string root, .map (some mg)] 96 (0, 0)), Mp placeV Value.string placeOk mg (M), Ob g1 (.cells #[.int .i64 0] 25 (0, 0)), Old w (fps [Ob tg (.cells #[.int .i64 ((n : Int)), .int .i64 ((h : Int)), .string root, .map (some mg)] 96 (0, 0)), Mp placeV Value.string placeOk mg (M)])] := H9.absorb (new := []) H46
      refine b_panic ?_
      refine g_then_panic ?_
      refine fin_dpanic ?_
      refine gl_step (by simp) cl45 (caught_p g1 (8) (0) [] _ (H46.ob (k := 2) rfl)) ?_
      rintro _ _ wq47 ⟨⟨rfl, H48⟩, rfl⟩
      replace H48 : S wq47 [Ob g1 (.cells #[.int .i64 8] 25 (0, 0)), Ob tg (.cells #[.int .i64 ((n : Int)), .int .i64 ((h : Int)), .string root, .map (some mg)] 96 (0, 0)), Mp placeV Value.string placeOk mg (M), Old w (fps [Ob tg (.cells #[.int .i64 ((n : Int)), .int .i64 ((h : Int)), .string root, .map (some mg)] 96 (0, 0)), Mp placeV Value.string placeOk mg (M)])] := H46.absorbK (new := [Ob g1 (.cells #[.int .i64 8] 25 (0, 0))]) [2] (by intro g hg; subst hg; exact ⟨2, rfl, _, rfl, rfl⟩) H48
      refine (?_ : GL _ _ _ _ _ _ FrameMode.returning _)
      refine gl_ret [.cell 6 25] [.int .i64 8] rfl ⟨⟨_, rfl, run_load1 Try.underlying25 rfl (H48.cell (k := 0) rfl rfl)⟩, trivial⟩ ?_
      exact absurd (get_some h1 hM) (by rw [hb10]; exact Bool.false_ne_true)
  · skip
    rw [show nodeV h 0 i = .panicked [{ v := .iface 113 (.int .i64 7), recovered := false }] from if_neg hno]
    refine b_panic ?_
    refine g_then_panic ?_
    refine fin_dpanic ?_
    refine gl_step (by simp) cl45 (caught_p g1 (7) (0) [] _ (H7.ob (k := 0) rfl)) ?_
    rintro _ _ wq49 ⟨⟨rfl, H50⟩, rfl⟩
    replace H50 : S wq49 [Ob g1 (.cells #[.int .i64 7] 25 (0, 0)), Ob tg (.cells #[.int .i64 ((n : Int)), .int .i64 ((h : Int)), .string root, .map (some mg)] 96 (0, 0)), Mp placeV Value.string placeOk mg (M), Old w (fps [Ob tg (.cells #[.int .i64 ((n : Int)), .int .i64 ((h : Int)), .string root, .map (some mg)] 96 (0, 0)), Mp placeV Value.string placeOk mg (M)])] := H7.absorbK (new := [Ob g1 (.cells #[.int .i64 7] 25 (0, 0))]) [0] (by intro g hg; subst hg; exact ⟨0, rfl, _, rfl, rfl⟩) H50
    refine (?_ : GL _ _ _ _ _ _ FrameMode.returning _)
    refine gl_ret [.cell 6 25] [.int .i64 7] rfl ⟨⟨_, rfl, run_load1 Try.underlying25 rfl (H50.cell (k := 0) rfl rfl)⟩, trivial⟩ ?_
    exact ⟨by unfold blockV; rw [if_neg hno]; rfl, H50.takes [1, 2, 3] (by decide)⟩
set_option maxRecDepth 20000 in
set_option maxHeartbeats 4000000 in
set_option maxRecDepth 20000 in
set_option maxHeartbeats 4000000 in
theorem node_r (tg mg n h : Nat) (M : PM) (v i : Int) (hh : h ≤ 60) (w : World) (HS : S w [Ob tg (.cells #[.int .i64 ((n : Int)), .int .i64 ((h : Int)), .map (some mg)] 100 (0, 0)), Mp placeV Value.string placeOk mg (M)]) : Calls Try.prog 96 #[.pointer (some ⟨tg, 0, none⟩), .int .i64 v, .int .i64 i] w fun e w' => e = .returned (.bool (nodeOk h v i)) ∧ S w' ([Ob tg (.cells #[.int .i64 ((n : Int)), .int .i64 ((h : Int)), .map (some mg)] 100 (0, 0)), Mp placeV Value.string placeOk mg (M)] ++ [Old w (fps [Ob tg (.cells #[.int .i64 ((n : Int)), .int .i64 ((h : Int)), .map (some mg)] 100 (0, 0)), Mp placeV Value.string placeOk mg (M)])]) := by
  have H00 := HS.beginI
  have H0 : S w ([Ob tg (.cells #[.int .i64 ((n : Int)), .int .i64 ((h : Int)), .map (some mg)] 100 (0, 0)), Mp placeV Value.string placeOk mg (M), Old w (fps [Ob tg (.cells #[.int .i64 ((n : Int)), .int .i64 ((h : Int)), .map (some mg)] 100 (0, 0)), Mp placeV Value.string placeOk mg (M)])]) := H00
  refine enter 32 Try.func96 rfl rfl rfl ?_
  refine g_weak [(0, .pointer (some ⟨tg, 0, none⟩)), (1, .int .i64 v), (2, .int .i64 i)] ⟨rfl, rfl, rfl, trivial⟩ ?_
  refine g_seq ?_
  refine g_region ?_
  refine l_of (s_val (v := .bool false) (wt0 rfl) rfl rfl (x_assign rfl rfl) ?_)
  refine g_nil ?_
  refine g_then ?_
  refine g_seq ?_
  refine g_region ?_
  refine l_of (s_val (v := .int .i64 v) (wt0 rfl) rfl rfl (x_move rfl rfl) ?_)
  refine l_of (s_val (v := .bool (decide ((0 : Int) ≤ v))) (wt0 rfl) rfl rfl (x_bin rfl rfl rfl b_geq) ?_)
  refine l_of (s_val (v := .bool (decide ((0 : Int) ≤ v))) (wt0 rfl) rfl rfl (x_move rfl rfl) ?_)
  by_cases hb1 : (0 : Int) ≤ v
  · skip
    refine l_of (s_val (v := .int .i64 v) (wt1 rfl rfl rfl rfl (decide_eq_true hb1)) rfl rfl (x_move rfl rfl) ?_)
    refine l_of (s_val (v := .pointer (some ⟨tg, 0, none⟩)) (wt1 rfl rfl rfl rfl (decide_eq_true hb1)) rfl rfl (x_move rfl rfl) ?_)
    refine l_of (s_val (v := .pointer (some ⟨tg, 0, none⟩)) (wt1 rfl rfl rfl rfl (decide_eq_true hb1)) rfl rfl (x_nilCheck rfl rfl) ?_)
    refine l_of (s_val (v := .pointer (some ⟨tg, 1, none⟩)) (wt1 rfl rfl rfl rfl (decide_eq_true hb1)) rfl rfl (x_fieldAddr rfl rfl fo100_1 rfl) ?_)
    refine l_of (s_val (v := .int .i64 ((h : Int))) (wt1 rfl rfl rfl rfl (decide_eq_true hb1)) rfl rfl (x_load1 H0 0 rfl rfl Try.underlying3 rfl rfl rfl) ?_)
    refine l_of (s_val (v := .bool (decide ((v : Int) ≤ (h : Int)))) (wt1 rfl rfl rfl rfl (decide_eq_true hb1)) rfl rfl (x_bin rfl rfl rfl b_leq) ?_)
    refine l_of (s_val (v := .bool (decide ((v : Int) ≤ (h : Int)))) (wt0 rfl) rfl rfl (x_pick_t rfl rfl (decide_eq_true hb1) rfl) ?_)
    refine l_of (s_val (v := .bool (decide ((v : Int) ≤ (h : Int)))) (wt0 rfl) rfl rfl (x_move rfl rfl) ?_)
    by_cases hb2 : (v : Int) ≤ (h : Int)
    · skip
      refine l_of (s_val (v := .int .i64 i) (wt1 rfl rfl rfl rfl (decide_eq_true hb2)) rfl rfl (x_move rfl rfl) ?_)
      refine l_of (s_val (v := .bool (decide ((0 : Int) ≤ i))) (wt1 rfl rfl rfl rfl (decide_eq_true hb2)) rfl rfl (x_bin rfl rfl rfl b_geq) ?_)
      refine l_of (s_val (v := .bool (decide ((0 : Int) ≤ i))) (wt0 rfl) rfl rfl (x_pick_t rfl rfl (decide_eq_true hb2) rfl) ?_)
      refine l_of (s_val (v := .bool (decide ((0 : Int) ≤ i))) (wt0 rfl) rfl rfl (x_move rfl rfl) ?_)
      by_cases hb3 : (0 : Int) ≤ i
      · skip
        refine l_of (s_val (v := .int .i64 i) (wt1 rfl rfl rfl rfl (decide_eq_true hb3)) rfl rfl (x_move rfl rfl) ?_)
        refine l_of (s_val (v := .pointer (some ⟨tg, 0, none⟩)) (wt1 rfl rfl rfl rfl (decide_eq_true hb3)) rfl rfl (x_move rfl rfl) ?_)
        refine l_of (s_val (v := .pointer (some ⟨tg, 0, none⟩)) (wt1 rfl rfl rfl rfl (decide_eq_true hb3)) rfl rfl (x_nilCheck rfl rfl) ?_)
        refine l_of (s_val (v := .pointer (some ⟨tg, 1, none⟩)) (wt1 rfl rfl rfl rfl (decide_eq_true hb3)) rfl rfl (x_fieldAddr rfl rfl fo100_1 rfl) ?_)
        refine l_of (s_val (v := .int .i64 ((h : Int))) (wt1 rfl rfl rfl rfl (decide_eq_true hb3)) rfl rfl (x_load1 H0 0 rfl rfl Try.underlying3 rfl rfl rfl) ?_)
        refine l_of (s_val (v := .int .i64 v) (wt1 rfl rfl rfl rfl (decide_eq_true hb3)) rfl rfl (x_move rfl rfl) ?_)
        refine l_of (s_val (v := .int .i64 ((h : Int) - v)) (wt1 rfl rfl rfl rfl (decide_eq_true hb3)) rfl rfl (x_bin rfl rfl rfl (b_sub (w64 (by omega)))) ?_)
        refine l_of (s_call (wt1 rfl rfl rfl rfl (decide_eq_true hb3)) (x_call' rfl rfl cl54) (two_sub h v (by omega) (by omega) (by omega) _) ?_)
        rintro _ wq4 ⟨rfl, H5⟩
        replace H5 : S wq4 [Ob tg (.cells #[.int .i64 ((n : Int)), .int .i64 ((h : Int)), .map (some mg)] 100 (0, 0)), Mp placeV Value.string placeOk mg (M), Old w (fps [Ob tg (.cells #[.int .i64 ((n : Int)), .int .i64 ((h : Int)), .map (some mg)] 100 (0, 0)), Mp placeV Value.string placeOk mg (M)])] := H0.absorb (new := []) H5
        refine b_ret rfl rfl ?_
        refine l_of (s_val (v := .bool (decide ((i : Int) < ((2 ^ (h - v.toNat) : Nat) : Int)))) (wt1 rfl rfl rfl rfl (decide_eq_true hb3)) rfl rfl (x_bin rfl rfl rfl b_lss) ?_)
        refine l_of (s_val (v := .bool (decide ((i : Int) < ((2 ^ (h - v.toNat) : Nat) : Int)))) (wt0 rfl) rfl rfl (x_pick_t rfl rfl (decide_eq_true hb3) rfl) ?_)
        refine l_of (s_val (v := .bool (decide ((i : Int) < ((2 ^ (h - v.toNat) : Nat) : Int)))) (wt0 rfl) rfl rfl (x_assign rfl rfl) ?_)
        refine g_nil ?_
        refine g_then ?_
        refine g_weak [(6, .bool (decide ((i : Int) < ((2 ^ (h - v.toNat) : Nat) : Int))))] ⟨rfl, trivial⟩ ?_
        refine g_ret ?_
        refine fin_ret [.tmp 6] [.bool (decide ((i : Int) < ((2 ^ (h - v.toNat) : Nat) : Int)))] rfl ⟨rfl, trivial⟩ ?_
        exact ⟨by rw [show nodeOk h v i = decide ((i : Int) < ((2 ^ (h - v.toNat) : Nat) : Int)) from by unfold nodeOk; rw [decide_eq_true (show 0 ≤ v by omega), decide_eq_true (show v ≤ (h : Int) by omega), decide_eq_true (show 0 ≤ i by omega)]; rfl]; rfl, H5.takes [0, 1, 2] (by decide)⟩
      · skip
        refine l_of (s_not (wn1 rfl rfl rfl rfl (decide_eq_false hb3)) rfl rfl ?_)
        refine l_of (s_not (wn1 rfl rfl rfl rfl (decide_eq_false hb3)) rfl rfl ?_)
        refine l_of (s_not (wn1 rfl rfl rfl rfl (decide_eq_false hb3)) rfl rfl ?_)
        refine l_of (s_not (wn1 rfl rfl rfl rfl (decide_eq_false hb3)) rfl rfl ?_)
        refine l_of (s_not (wn1 rfl rfl rfl rfl (decide_eq_false hb3)) rfl rfl ?_)
        refine l_of (s_not (wn1 rfl rfl rfl rfl (decide_eq_false hb3)) rfl rfl ?_)
        refine l_of (s_not (wn1 rfl rfl rfl rfl (decide_eq_false hb3)) rfl rfl ?_)
        refine l_of (s_not (wn1 rfl rfl rfl rfl (decide_eq_false hb3)) rfl rfl ?_)
        refine l_of (s_not (wn1 rfl rfl rfl rfl (decide_eq_false hb3)) rfl rfl ?_)
        refine l_of (s_val (v := .bool false) (wt0 rfl) rfl rfl (x_pick_f rfl rfl (decide_eq_false hb3) rfl) ?_)
        refine l_of (s_val (v := .bool false) (wt0 rfl) rfl rfl (x_assign rfl rfl) ?_)
        refine g_nil ?_
        refine g_then ?_
        refine g_weak [(6, .bool false)] ⟨rfl, trivial⟩ ?_
        refine g_ret ?_
        refine fin_ret [.tmp 6] [.bool false] rfl ⟨rfl, trivial⟩ ?_
        exact ⟨by rw [nodeOk_f (by omega)]; rfl, H0.takes [0, 1, 2] (by decide)⟩
    · skip
      refine l_of (s_not (wn1 rfl rfl rfl rfl (decide_eq_false hb2)) rfl rfl ?_)
      refine l_of (s_not (wn1 rfl rfl rfl rfl (decide_eq_false hb2)) rfl rfl ?_)
      refine l_of (s_val (v := .bool false) (wt0 rfl) rfl rfl (x_pick_f rfl rfl (decide_eq_false hb2) rfl) ?_)
      refine l_of (s_val (v := .bool false) (wt0 rfl) rfl rfl (x_move rfl rfl) ?_)
      refine l_of (s_not (wn1 rfl rfl rfl rfl rfl) rfl rfl ?_)
      refine l_of (s_not (wn1 rfl rfl rfl rfl rfl) rfl rfl ?_)
      refine l_of (s_not (wn1 rfl rfl rfl rfl rfl) rfl rfl ?_)
      refine l_of (s_not (wn1 rfl rfl rfl rfl rfl) rfl rfl ?_)
      refine l_of (s_not (wn1 rfl rfl rfl rfl rfl) rfl rfl ?_)
      refine l_of (s_not (wn1 rfl rfl rfl rfl rfl) rfl rfl ?_)
      refine l_of (s_not (wn1 rfl rfl rfl rfl rfl) rfl rfl ?_)
      refine l_of (s_not (wn1 rfl rfl rfl rfl rfl) rfl rfl ?_)
      refine l_of (s_not (wn1 rfl rfl rfl rfl rfl) rfl rfl ?_)
      refine l_of (s_val (v := .bool false) (wt0 rfl) rfl rfl (x_pick_f rfl rfl rfl rfl) ?_)
      refine l_of (s_val (v := .bool false) (wt0 rfl) rfl rfl (x_assign rfl rfl) ?_)
      refine g_nil ?_
      refine g_then ?_
      refine g_weak [(6, .bool false)] ⟨rfl, trivial⟩ ?_
      refine g_ret ?_
      refine fin_ret [.tmp 6] [.bool false] rfl ⟨rfl, trivial⟩ ?_
      exact ⟨by rw [nodeOk_f (by omega)]; rfl, H0.takes [0, 1, 2] (by decide)⟩
  · skip
    refine l_of (s_not (wn1 rfl rfl rfl rfl (decide_eq_false hb1)) rfl rfl ?_)
    refine l_of (s_not (wn1 rfl rfl rfl rfl (decide_eq_false hb1)) rfl rfl ?_)
    refine l_of (s_not (wn1 rfl rfl rfl rfl (decide_eq_false hb1)) rfl rfl ?_)
    refine l_of (s_not (wn1 rfl rfl rfl rfl (decide_eq_false hb1)) rfl rfl ?_)
    refine l_of (s_not (wn1 rfl rfl rfl rfl (decide_eq_false hb1)) rfl rfl ?_)
    refine l_of (s_not (wn1 rfl rfl rfl rfl (decide_eq_false hb1)) rfl rfl ?_)
    refine l_of (s_val (v := .bool false) (wt0 rfl) rfl rfl (x_pick_f rfl rfl (decide_eq_false hb1) rfl) ?_)
    refine l_of (s_val (v := .bool false) (wt0 rfl) rfl rfl (x_move rfl rfl) ?_)
    refine l_of (s_not (wn1 rfl rfl rfl rfl rfl) rfl rfl ?_)
    refine l_of (s_not (wn1 rfl rfl rfl rfl rfl) rfl rfl ?_)
    refine l_of (s_val (v := .bool false) (wt0 rfl) rfl rfl (x_pick_f rfl rfl rfl rfl) ?_)
    refine l_of (s_val (v := .bool false) (wt0 rfl) rfl rfl (x_move rfl rfl) ?_)
    refine l_of (s_not (wn1 rfl rfl rfl rfl rfl) rfl rfl ?_)
    refine l_of (s_not (wn1 rfl rfl rfl rfl rfl) rfl rfl ?_)
    refine l_of (s_not (wn1 rfl rfl rfl rfl rfl) rfl rfl ?_)
    refine l_of (s_not (wn1 rfl rfl rfl rfl rfl) rfl rfl ?_)
    refine l_of (s_not (wn1 rfl rfl rfl rfl rfl) rfl rfl ?_)
    refine l_of (s_not (wn1 rfl rfl rfl rfl rfl) rfl rfl ?_)
    refine l_of (s_not (wn1 rfl rfl rfl rfl rfl) rfl rfl ?_)
    refine l_of (s_not (wn1 rfl rfl rfl rfl rfl) rfl rfl ?_)
    refine l_of (s_not (wn1 rfl rfl rfl rfl rfl) rfl rfl ?_)
    refine l_of (s_val (v := .bool false) (wt0 rfl) rfl rfl (x_pick_f rfl rfl rfl rfl) ?_)
    refine l_of (s_val (v := .bool false) (wt0 rfl) rfl rfl (x_assign rfl rfl) ?_)
    refine g_nil ?_
    refine g_then ?_
    refine g_weak [(6, .bool false)] ⟨rfl, trivial⟩ ?_
    refine g_ret ?_
    refine fin_ret [.tmp 6] [.bool false] rfl ⟨rfl, trivial⟩ ?_
    exact ⟨by rw [nodeOk_f (by omega)]; rfl, H0.takes [0, 1, 2] (by decide)⟩
set_option maxRecDepth 20000 in
set_option maxHeartbeats 4000000 in
set_option maxRecDepth 20000 in
set_option maxHeartbeats 4000000 in
theorem get_r (tg mg n h : Nat) (M : PM) (v i : Int) (hh : h ≤ 12) (w : World) (HS : S w [Ob tg (.cells #[.int .i64 ((n : Int)), .int .i64 ((h : Int)), .map (some mg)] 100 (0, 0)), Mp placeV Value.string placeOk mg (M)]) : Calls Try.prog 77 #[.pointer (some ⟨tg, 0, none⟩), .int .i64 v, .int .i64 i] w fun e w' => e = .returned (.tuple #[.string (getR h M v i).1, .int .i64 (getR h M v i).2]) ∧ S w' ([Ob tg (.cells #[.int .i64 ((n : Int)), .int .i64 ((h : Int)), .map (some mg)] 100 (0, 0)), Mp placeV Value.string placeOk mg (M)] ++ [Old w (fps [Ob tg (.cells #[.int .i64 ((n : Int)), .int .i64 ((h : Int)), .map (some mg)] 100 (0, 0)), Mp placeV Value.string placeOk mg (M)])]) := by
  have H00 := HS.beginI
  have H0 : S w ([Ob tg (.cells #[.int .i64 ((n : Int)), .int .i64 ((h : Int)), .map (some mg)] 100 (0, 0)), Mp placeV Value.string placeOk mg (M), Old w (fps [Ob tg (.cells #[.int .i64 ((n : Int)), .int .i64 ((h : Int)), .map (some mg)] 100 (0, 0)), Mp placeV Value.string placeOk mg (M)])]) := H00
  refine enter 29 Try.func77 rfl rfl rfl ?_
  refine g_weak [(0, .pointer (some ⟨tg, 0, none⟩)), (1, .int .i64 v), (2, .int .i64 i)] ⟨rfl, rfl, rfl, trivial⟩ ?_
  refine g_seq ?_
  refine g_region ?_
  refine l_of (s_val (v := .string (⟨#[]⟩)) (wt0 rfl) rfl rfl (x_assign rfl rfl) ?_)
  refine l_of (s_val (v := .int .i64 0) (wt0 rfl) rfl rfl (x_assign rfl rfl) ?_)
  refine g_nil ?_
  refine g_then ?_
  refine g_seq ?_
  refine g_seq ?_
  refine g_region ?_
  refine l_of (s_val (v := .pointer (some ⟨tg, 0, none⟩)) (wt0 rfl) rfl rfl (x_move rfl rfl) ?_)
  refine l_of (s_val (v := .int .i64 v) (wt0 rfl) rfl rfl (x_move rfl rfl) ?_)
  refine l_of (s_val (v := .int .i64 i) (wt0 rfl) rfl rfl (x_move rfl rfl) ?_)
  refine l_of (s_call (wt0 rfl) (x_call' rfl rfl cl96) (node_r tg mg n h M v i (by omega) _ (H0.takes [0, 1] (by decide))) ?_)
  rintro _ wq1 ⟨rfl, H2⟩
  replace H2 : S wq1 [Ob tg (.cells #[.int .i64 ((n : Int)), .int .i64 ((h : Int)), .map (some mg)] 100 (0, 0)), Mp placeV Value.string placeOk mg (M), Old w (fps [Ob tg (.cells #[.int .i64 ((n : Int)), .int .i64 ((h : Int)), .map (some mg)] 100 (0, 0)), Mp placeV Value.string placeOk mg (M)])] := H0.absorbI (new := [Ob tg (.cells #[.int .i64 ((n : Int)), .int .i64 ((h : Int)), .map (some mg)] 100 (0, 0)), Mp placeV Value.string placeOk mg (M)]) [0, 1] H2
  refine b_ret rfl rfl ?_
  refine l_of (s_val (v := .bool (!((nodeOk h v i)))) (wt0 rfl) rfl rfl (x_not (b := (nodeOk h v i)) rfl rfl) ?_)
  refine g_nil ?_
  refine g_then ?_
  rcases Bool.eq_false_or_eq_true ((nodeOk h v i)) with hb3 | hb3
  · skip
    obtain ⟨o1, o2, o3, o4⟩ := nodeOk_s hb3
    obtain ⟨V0, rfl⟩ : ∃ V0 : Nat, v = (V0 : Int) := ⟨v.toNat, by omega⟩
    obtain ⟨I0, rfl⟩ : ∃ I0 : Nat, i = (I0 : Int) := ⟨i.toNat, by omega⟩
    simp only [Int.toNat_natCast] at o4
    have h4096 : 2 ^ (h - V0) ≤ 4096 := Nat.pow_le_pow_right (by omega) (show h - V0 ≤ 12 by omega)
    refine g_cond_f rfl (neg_of hb3) ?_
    refine g_skip ?_
    refine g_then ?_
    refine g_seq ?_
    refine g_region ?_
    refine l_of (s_val (v := .pointer (some ⟨tg, 0, none⟩)) (wt0 rfl) rfl rfl (x_move rfl rfl) ?_)
    refine l_of (s_val (v := .pointer (some ⟨tg, 0, none⟩)) (wt0 rfl) rfl rfl (x_nilCheck rfl rfl) ?_)
    refine l_of (s_val (v := .pointer (some ⟨tg, 2, none⟩)) (wt0 rfl) rfl rfl (x_fieldAddr rfl rfl fo100_2 rfl) ?_)
    refine l_of (s_val (v := .map (some mg)) (wt0 rfl) rfl rfl (x_load1 H2 0 rfl rfl Try.underlying98 rfl rfl rfl) ?_)
    refine l_of (s_val (v := .int .i64 ((V0 : Int))) (wt0 rfl) rfl rfl (x_move rfl rfl) ?_)
    refine l_of (s_val (v := .int .i64 ((I0 : Int))) (wt0 rfl) rfl rfl (x_move rfl rfl) ?_)
    refine l_of (s_val (v := .agg #[.int .i64 ((V0 : Int)), .int .i64 ((I0 : Int))]) (wt0 rfl) rfl rfl (x_build (vs := [.int .i64 ((V0 : Int)), .int .i64 ((I0 : Int))]) rfl rfl (cells := #[.int .i64 ((V0 : Int)), .int .i64 ((I0 : Int))]) (by kernel_rfl)) ?_)
    refine l_of (s_val (v := .tuple #[.string (((M (V0, I0)).getD ⟨#[]⟩)), .bool ((M (V0, I0)).isSome)]) (wt0 rfl) rfl rfl (ex_cast (x_lookup (x := (V0, I0)) placeR H2 1 rfl rfl rfl rfl ⟨by (show _ ≤ 1099511627776); omega, by (show _ ≤ 1099511627776); omega⟩ ze9) (by rw [look_S])) ?_)
    refine l_of (s_val (v := .tuple #[.string (((M (V0, I0)).getD ⟨#[]⟩)), .bool ((M (V0, I0)).isSome)]) (wt0 rfl) rfl rfl (x_move rfl rfl) ?_)
    refine l_of (s_val (v := .string (((M (V0, I0)).getD ⟨#[]⟩))) (wt0 rfl) rfl rfl (x_extract rfl rfl rfl) ?_)
    refine l_of (s_val (v := .bool ((M (V0, I0)).isSome)) (wt0 rfl) rfl rfl (x_extract rfl rfl rfl) ?_)
    refine l_of (s_val (v := .string (((M (V0, I0)).getD ⟨#[]⟩))) (wt0 rfl) rfl rfl (x_assign rfl rfl) ?_)
    refine l_of (s_val (v := .bool ((M (V0, I0)).isSome)) (wt0 rfl) rfl rfl (x_assign rfl rfl) ?_)
    refine g_nil ?_
    refine g_then ?_
    refine g_weak [(8, .string (((M (V0, I0)).getD ⟨#[]⟩))), (9, .bool ((M (V0, I0)).isSome))] ⟨rfl, rfl, trivial⟩ ?_
    refine g_seq ?_
    refine g_seq ?_
    refine g_region ?_
    refine l_of (s_val (v := .bool ((M (V0, I0)).isSome)) (wt0 rfl) rfl rfl (x_move rfl rfl) ?_)
    refine l_of (s_val (v := .bool (!((M (V0, I0)).isSome))) (wt0 rfl) rfl rfl (x_not (b := (M (V0, I0)).isSome) rfl rfl) ?_)
    refine g_nil ?_
    refine g_then ?_
    rcases Bool.eq_false_or_eq_true ((M (V0, I0)).isSome) with hb4 | hb4
    · skip
      refine g_cond_f rfl (neg_of hb4) ?_
      refine g_skip ?_
      refine g_then ?_
      refine g_seq ?_
      refine g_region ?_
      refine l_of (s_val (v := .string (((M (V0, I0)).getD ⟨#[]⟩))) (wt0 rfl) rfl rfl (x_move rfl rfl) ?_)
      refine l_of (s_val (v := .string (((M (V0, I0)).getD ⟨#[]⟩))) (wt0 rfl) rfl rfl (x_assign rfl rfl) ?_)
      refine l_of (s_val (v := .int .i64 0) (wt0 rfl) rfl rfl (x_assign rfl rfl) ?_)
      refine g_nil ?_
      refine g_then ?_
      refine g_ret ?_
      refine fin_ret [.tmp 6, .tmp 7] [.string (((M (V0, I0)).getD ⟨#[]⟩)), .int .i64 0] rfl ⟨rfl, rfl, trivial⟩ ?_
      have hsm := hb4
      exact ⟨by unfold getR; simp only [Int.toNat_natCast]; rw [if_pos hb3, if_pos hsm]; rfl, H2.takes [0, 1, 2] (by decide)⟩
    · skip
      refine g_cond_t rfl (neg_of hb4) ?_
      refine g_seq ?_
      refine g_region ?_
      refine l_of (s_val (v := .string (⟨#[]⟩)) (wt0 rfl) rfl rfl (x_assign rfl rfl) ?_)
      refine l_of (s_val (v := .int .i64 8) (wt0 rfl) rfl rfl (x_assign rfl rfl) ?_)
      refine g_nil ?_
      refine g_then ?_
      refine g_ret ?_
      refine g_then_ret ?_
      refine fin_ret [.tmp 6, .tmp 7] [.string (⟨#[]⟩), .int .i64 8] rfl ⟨rfl, rfl, trivial⟩ ?_
      have hsm := hb4
      exact ⟨by unfold getR; simp only [Int.toNat_natCast]; rw [if_pos hb3, if_neg (by rw [hsm]; exact Bool.false_ne_true)]; rfl, H2.takes [0, 1, 2] (by decide)⟩
  · skip
    refine g_cond_t rfl (neg_of hb3) ?_
    refine g_seq ?_
    refine g_region ?_
    refine l_of (s_val (v := .string (⟨#[]⟩)) (wt0 rfl) rfl rfl (x_assign rfl rfl) ?_)
    refine l_of (s_val (v := .int .i64 7) (wt0 rfl) rfl rfl (x_assign rfl rfl) ?_)
    refine g_nil ?_
    refine g_then ?_
    refine g_ret ?_
    refine g_then_ret ?_
    refine fin_ret [.tmp 6, .tmp 7] [.string (⟨#[]⟩), .int .i64 7] rfl ⟨rfl, rfl, trivial⟩ ?_
    exact ⟨by unfold getR; rw [if_neg (by rw [hb3]; exact Bool.false_ne_true)]; rfl, H2.takes [0, 1, 2] (by decide)⟩
theorem getR_ok {h : Nat} {M : PM} {lf : Nat → ByteArray} {i : Int} (hM : ∀ j, j < 2 ^ h → M (0, j) = some (lf j)) (hn : nodeOk h 0 i = true) : getR h M 0 i = (lf i.toNat, 0) := by
  obtain ⟨o1, o2, o3, o4⟩ := nodeOk_s hn
  have e : M ((0 : Int).toNat, i.toNat) = some (lf i.toNat) := hM _ (by simp only [Int.toNat_zero, Nat.sub_zero] at o4; omega)
  unfold getR
  rw [if_pos hn, e]; rfl
theorem getR_no {h : Nat} {M : PM} {i : Int} (hn : ¬ nodeOk h 0 i = true) : getR h M 0 i = (⟨#[]⟩, 7) := by unfold getR; rw [if_neg hn]
set_option maxRecDepth 20000 in
set_option maxHeartbeats 4000000 in
set_option maxRecDepth 20000 in
set_option maxHeartbeats 4000000 in
theorem block_r (tg mg n h : Nat) (M : PM) (lf : Nat → ByteArray) (i : Int) (s : ByteArray) (hh : h ≤ 12) (hM : ∀ j, j < 2 ^ h → M (0, j) = some (lf j)) (w : World) (HS : S w [Ob tg (.cells #[.int .i64 ((n : Int)), .int .i64 ((h : Int)), .map (some mg)] 100 (0, 0)), Mp placeV Value.string placeOk mg (M)]) : Calls Try.prog 33 #[.pointer (some ⟨tg, 0, none⟩), .int .i64 i, .string s] w fun e w' => e = .returned (.int .i64 (blockV n h lf i s)) ∧ S w' ([Ob tg (.cells #[.int .i64 ((n : Int)), .int .i64 ((h : Int)), .map (some mg)] 100 (0, 0)), Mp placeV Value.string placeOk mg (M)] ++ [Old w (fps [Ob tg (.cells #[.int .i64 ((n : Int)), .int .i64 ((h : Int)), .map (some mg)] 100 (0, 0)), Mp placeV Value.string placeOk mg (M)])]) := by
  have H00 := HS.beginI
  have H0 : S w ([Ob tg (.cells #[.int .i64 ((n : Int)), .int .i64 ((h : Int)), .map (some mg)] 100 (0, 0)), Mp placeV Value.string placeOk mg (M), Old w (fps [Ob tg (.cells #[.int .i64 ((n : Int)), .int .i64 ((h : Int)), .map (some mg)] 100 (0, 0)), Mp placeV Value.string placeOk mg (M)])]) := H00
  refine enter 39 Try.func33 rfl rfl rfl ?_
  refine g_weak [(0, .pointer (some ⟨tg, 0, none⟩)), (1, .int .i64 i), (2, .string s)] ⟨rfl, rfl, rfl, trivial⟩ ?_
  refine g_seq ?_
  refine g_region ?_
  refine l_of (s_val (v := .int .i64 0) (wt0 rfl) rfl rfl (x_assign rfl rfl) ?_)
  refine g_nil ?_
  refine g_then ?_
  refine g_seq ?_
  refine g_region ?_
  refine l_of (s_val (v := .pointer (some ⟨tg, 0, none⟩)) (wt0 rfl) rfl rfl (x_move rfl rfl) ?_)
  refine l_of (s_val (v := .int .i64 i) (wt0 rfl) rfl rfl (x_move rfl rfl) ?_)
  refine l_of (s_call (wt0 rfl) (x_call' rfl rfl cl77) (get_r tg mg n h M 0 i (by omega) _ (H0.takes [0, 1] (by decide))) ?_)
  rintro _ wq1 ⟨rfl, H2⟩
  replace H2 : S wq1 [Ob tg (.cells #[.int .i64 ((n : Int)), .int .i64 ((h : Int)), .map (some mg)] 100 (0, 0)), Mp placeV Value.string placeOk mg (M), Old w (fps [Ob tg (.cells #[.int .i64 ((n : Int)), .int .i64 ((h : Int)), .map (some mg)] 100 (0, 0)), Mp placeV Value.string placeOk mg (M)])] := H0.absorbI (new := [Ob tg (.cells #[.int .i64 ((n : Int)), .int .i64 ((h : Int)), .map (some mg)] 100 (0, 0)), Mp placeV Value.string placeOk mg (M)]) [0, 1] H2
  refine b_ret rfl rfl ?_
  refine l_of (s_val (v := .tuple #[.string ((getR h M 0 i).1), .int .i64 ((getR h M 0 i).2)]) (wt0 rfl) rfl rfl (x_move rfl rfl) ?_)
  refine l_of (s_val (v := .string ((getR h M 0 i).1)) (wt0 rfl) rfl rfl (x_extract rfl rfl rfl) ?_)
  refine l_of (s_val (v := .int .i64 ((getR h M 0 i).2)) (wt0 rfl) rfl rfl (x_extract rfl rfl rfl) ?_)
  refine l_of (s_val (v := .string ((getR h M 0 i).1)) (wt0 rfl) rfl rfl (x_assign rfl rfl) ?_)
  refine l_of (s_val (v := .int .i64 ((getR h M 0 i).2)) (wt0 rfl) rfl rfl (x_assign rfl rfl) ?_)
  refine g_nil ?_
  refine g_then ?_
  refine g_seq ?_
  refine g_block ?_
  refine g_seq ?_
  refine g_region ?_
  refine l_of (s_val (v := .int .i64 ((getR h M 0 i).2)) (wt0 rfl) rfl rfl (x_move rfl rfl) ?_)
  refine l_of (s_val (v := .bool (!decide (((getR h M 0 i).2 : Int) = 0))) (wt0 rfl) rfl rfl (x_bin rfl rfl rfl b_neq) ?_)
  refine l_of (s_val (v := .bool (!decide (((getR h M 0 i).2 : Int) = 0))) (wt0 rfl) rfl rfl (x_assign rfl rfl) ?_)
  refine g_nil ?_
  refine g_then ?_
  by_cases hb3 : ((getR h M 0 i).2 : Int) = 0
  · skip
    refine g_cond_f rfl (nf hb3) ?_
    refine g_seq ?_
    refine g_region ?_
    refine l_of (s_val (v := .int .i64 i) (wt0 rfl) rfl rfl (x_move rfl rfl) ?_)
    refine l_of (s_val (v := .pointer (some ⟨tg, 0, none⟩)) (wt0 rfl) rfl rfl (x_move rfl rfl) ?_)
    refine l_of (s_val (v := .pointer (some ⟨tg, 0, none⟩)) (wt0 rfl) rfl rfl (x_nilCheck rfl rfl) ?_)
    refine l_of (s_val (v := .pointer (some ⟨tg, 0, none⟩)) (wt0 rfl) rfl rfl (x_fieldAddr rfl rfl fo100_0 rfl) ?_)
    refine l_of (s_val (v := .int .i64 ((n : Int))) (wt0 rfl) rfl rfl (x_load1 H2 0 rfl rfl Try.underlying3 rfl rfl rfl) ?_)
    refine l_of (s_val (v := .bool (decide (((n : Int) : Int) ≤ i))) (wt0 rfl) rfl rfl (x_bin rfl rfl rfl b_geq) ?_)
    refine l_of (s_val (v := .bool (decide (((n : Int) : Int) ≤ i))) (wt0 rfl) rfl rfl (x_assign rfl rfl) ?_)
    refine g_nil ?_
    refine g_then ?_
    refine g_weak [(2, .string s), (7, .string ((getR h M 0 i).1)), (19, .bool (decide (((n : Int) : Int) ≤ i)))] ⟨rfl, rfl, rfl, trivial⟩ ?_
    by_cases hb4 : ((n : Int) : Int) ≤ i
    · skip
      refine g_cond_t rfl (decide_eq_true hb4) ?_
      refine g_seq ?_
      refine g_region ?_
      refine l_of (s_val (v := .int .i64 7) (wt0 rfl) rfl rfl (x_assign rfl rfl) ?_)
      refine g_nil ?_
      refine g_then ?_
      refine g_ret ?_
      refine g_in_ret ?_
      refine g_then_ret ?_
      refine fin_ret [.tmp 6] [.int .i64 7] rfl ⟨rfl, trivial⟩ ?_
      have hno : nodeOk h 0 i = true := by cases hq : nodeOk h 0 i with | true => rfl | false => exact absurd hb3 (by rw [getR_no (by rw [hq]; exact Bool.false_ne_true)]; decide)
      have hg := getR_ok hM hno
      exact ⟨by unfold blockV; rw [if_pos hno, if_pos (by omega)]; rfl, H2.takes [0, 1, 2] (by decide)⟩
    · skip
      refine g_cond_f rfl (decide_eq_false hb4) ?_
      refine g_seq ?_
      refine g_region ?_
      refine l_of (s_val (v := .string s) (wt0 rfl) rfl rfl (x_move rfl rfl) ?_)
      refine l_of (s_val (v := .bool (decide (s = ⟨#[]⟩))) (wt0 rfl) rfl rfl (x_bin rfl rfl rfl b_eqs) ?_)
      refine l_of (s_val (v := .bool (decide (s = ⟨#[]⟩))) (wt0 rfl) rfl rfl (x_move rfl rfl) ?_)
      by_cases hb5 : s = ⟨#[]⟩
      · skip
        refine l_of (s_not (wn1 rfl rfl rfl rfl (decide_eq_true hb5)) rfl rfl ?_)
        refine l_of (s_not (wn1 rfl rfl rfl rfl (decide_eq_true hb5)) rfl rfl ?_)
        refine l_of (s_not (wn1 rfl rfl rfl rfl (decide_eq_true hb5)) rfl rfl ?_)
        refine l_of (s_val (v := .bool true) (wt0 rfl) rfl rfl (x_pick_t rfl rfl (decide_eq_true hb5) rfl) ?_)
        refine l_of (s_val (v := .bool true) (wt0 rfl) rfl rfl (x_assign rfl rfl) ?_)
        refine g_nil ?_
        refine g_then ?_
        refine g_cond_t rfl rfl ?_
        refine g_seq ?_
        refine g_region ?_
        refine l_of (s_val (v := .int .i64 11) (wt0 rfl) rfl rfl (x_assign rfl rfl) ?_)
        refine g_nil ?_
        refine g_then ?_
        refine g_ret ?_
        refine g_in_ret ?_
        refine g_then_ret ?_
        refine fin_ret [.tmp 6] [.int .i64 11] rfl ⟨rfl, trivial⟩ ?_
        have hno : nodeOk h 0 i = true := by cases hq : nodeOk h 0 i with | true => rfl | false => exact absurd hb3 (by rw [getR_no (by rw [hq]; exact Bool.false_ne_true)]; decide)
        have hg := getR_ok hM hno
        exact ⟨by unfold blockV; rw [if_pos hno, if_neg (by omega), if_pos (.inl ((empty_iff s).1 hb5))]; rfl, H2.takes [0, 1, 2] (by decide)⟩
      · skip
        refine l_of (s_val (v := .string s) (wt1 rfl rfl rfl rfl (decide_eq_false hb5)) rfl rfl (x_move rfl rfl) ?_)
        refine l_of (s_val (v := .int .i64 ((s.size : Int))) (wt1 rfl rfl rfl rfl (decide_eq_false hb5)) rfl rfl (x_lens rfl rfl Try.underlying9) ?_)
        refine l_of (s_val (v := .bool (decide ((16 : Int) < (s.size : Int)))) (wt1 rfl rfl rfl rfl (decide_eq_false hb5)) rfl rfl (x_bin rfl rfl rfl b_gtr) ?_)
        refine l_of (s_val (v := .bool (decide ((16 : Int) < (s.size : Int)))) (wt0 rfl) rfl rfl (x_pick_f rfl rfl (decide_eq_false hb5) rfl) ?_)
        refine l_of (s_val (v := .bool (decide ((16 : Int) < (s.size : Int)))) (wt0 rfl) rfl rfl (x_assign rfl rfl) ?_)
        refine g_nil ?_
        refine g_then ?_
        by_cases hb6 : (16 : Int) < (s.size : Int)
        · skip
          refine g_cond_t rfl (decide_eq_true hb6) ?_
          refine g_seq ?_
          refine g_region ?_
          refine l_of (s_val (v := .int .i64 11) (wt0 rfl) rfl rfl (x_assign rfl rfl) ?_)
          refine g_nil ?_
          refine g_then ?_
          refine g_ret ?_
          refine g_in_ret ?_
          refine g_then_ret ?_
          refine fin_ret [.tmp 6] [.int .i64 11] rfl ⟨rfl, trivial⟩ ?_
          have hno : nodeOk h 0 i = true := by cases hq : nodeOk h 0 i with | true => rfl | false => exact absurd hb3 (by rw [getR_no (by rw [hq]; exact Bool.false_ne_true)]; decide)
          have hg := getR_ok hM hno
          exact ⟨by unfold blockV; rw [if_pos hno, if_neg (by omega), if_pos (.inr (by omega))]; rfl, H2.takes [0, 1, 2] (by decide)⟩
        · skip
          refine g_cond_f rfl (decide_eq_false hb6) ?_
          refine g_seq ?_
          refine g_region ?_
          refine l_of (s_val (v := .string s) (wt0 rfl) rfl rfl (x_move rfl rfl) ?_)
          refine l_of (s_call (wt0 rfl) (x_call' rfl rfl cl57) (sum_r _ (by omega) _) ?_)
          rintro _ wq7 ⟨rfl, H8⟩
          replace H8 : S wq7 [Ob tg (.cells #[.int .i64 ((n : Int)), .int .i64 ((h : Int)), .map (some mg)] 100 (0, 0)), Mp placeV Value.string placeOk mg (M), Old w (fps [Ob tg (.cells #[.int .i64 ((n : Int)), .int .i64 ((h : Int)), .map (some mg)] 100 (0, 0)), Mp placeV Value.string placeOk mg (M)])] := H2.absorb (new := []) H8
          refine b_ret rfl rfl ?_
          refine l_of (s_val (v := .string ((getR h M 0 i).1)) (wt0 rfl) rfl rfl (x_move rfl rfl) ?_)
          refine l_of (s_val (v := .bool (!decide ((sumS s) = (getR h M 0 i).1))) (wt0 rfl) rfl rfl (x_bin rfl rfl rfl b_nes) ?_)
          refine l_of (s_val (v := .bool (!decide ((sumS s) = (getR h M 0 i).1))) (wt0 rfl) rfl rfl (x_assign rfl rfl) ?_)
          refine g_nil ?_
          refine g_then ?_
          refine g_weak [(34, .bool (!decide ((sumS s) = (getR h M 0 i).1)))] ⟨rfl, trivial⟩ ?_
          by_cases hb9 : (sumS s) = (getR h M 0 i).1
          · skip
            refine g_cond_f rfl (nf hb9) ?_
            refine g_skip ?_
            refine g_in ?_
            refine g_then ?_
            refine g_seq ?_
            refine g_region ?_
            refine l_of (s_val (v := .int .i64 0) (wt0 rfl) rfl rfl (x_assign rfl rfl) ?_)
            refine g_nil ?_
            refine g_then ?_
            refine g_ret ?_
            refine fin_ret [.tmp 6] [.int .i64 0] rfl ⟨rfl, trivial⟩ ?_
            have hno : nodeOk h 0 i = true := by cases hq : nodeOk h 0 i with | true => rfl | false => exact absurd hb3 (by rw [getR_no (by rw [hq]; exact Bool.false_ne_true)]; decide)
            have hg := getR_ok hM hno
            have hq := hb9
            rw [hg] at hq
            exact ⟨by unfold blockV; rw [if_pos hno, if_neg (by omega), if_neg (fun hq => by rcases hq with hq | hq; exact hb5 ((empty_iff s).2 hq); omega), if_pos hq]; rfl, H8.takes [0, 1, 2] (by decide)⟩
          · skip
            refine g_cond_t rfl (nt hb9) ?_
            refine g_seq ?_
            refine g_region ?_
            refine l_of (s_val (v := .int .i64 13) (wt0 rfl) rfl rfl (x_assign rfl rfl) ?_)
            refine g_nil ?_
            refine g_then ?_
            refine g_ret ?_
            refine g_in_ret ?_
            refine g_then_ret ?_
            refine fin_ret [.tmp 6] [.int .i64 13] rfl ⟨rfl, trivial⟩ ?_
            have hno : nodeOk h 0 i = true := by cases hq : nodeOk h 0 i with | true => rfl | false => exact absurd hb3 (by rw [getR_no (by rw [hq]; exact Bool.false_ne_true)]; decide)
            have hg := getR_ok hM hno
            have hq := hb9
            rw [hg] at hq
            exact ⟨by unfold blockV; rw [if_pos hno, if_neg (by omega), if_neg (fun hq => by rcases hq with hq | hq; exact hb5 ((empty_iff s).2 hq); omega), if_neg hq]; rfl, H8.takes [0, 1, 2] (by decide)⟩
  · skip
    refine g_cond_t rfl (nt hb3) ?_
    refine g_seq ?_
    refine g_region ?_
    refine l_of (s_val (v := .int .i64 ((getR h M 0 i).2)) (wt0 rfl) rfl rfl (x_move rfl rfl) ?_)
    refine l_of (s_val (v := .int .i64 ((getR h M 0 i).2)) (wt0 rfl) rfl rfl (x_assign rfl rfl) ?_)
    refine g_nil ?_
    refine g_then ?_
    refine g_weak [(6, .int .i64 ((getR h M 0 i).2))] ⟨rfl, trivial⟩ ?_
    refine g_ret ?_
    refine g_in_ret ?_
    refine g_then_ret ?_
    refine fin_ret [.tmp 6] [.int .i64 ((getR h M 0 i).2)] rfl ⟨rfl, trivial⟩ ?_
    have hno : ¬ nodeOk h 0 i = true := fun hq => hb3 (by rw [getR_ok hM hq])
    exact ⟨by rw [getR_no hno]; unfold blockV; rw [if_neg hno]; rfl, H2.takes [0, 1, 2] (by decide)⟩
end Go.Proofs.Ytlajgickimgigaa
