import Derived.Test.YtlajgickimgigaaUE
set_option linter.unusedSimpArgs false
set_option linter.unusedVariables false
namespace Go.Proofs.Ytlajgickimgigaa
open Go.RowKit

set_option maxRecDepth 20000 in
set_option maxHeartbeats 4000000 in
set_option maxRecDepth 20000 in
set_option maxHeartbeats 4000000 in
theorem layerL_s (l : List ByteArray) (p : Option Addr) (n c : Nat) (hn : n = l.length) (hm : n ≤ 1099511627776) (v : Int) (w : World) (hr : Reads w p n c 1 (stV l)) : Calls Try.prog 22 #[.slice p n c, .int .i64 v] w fun e w' => ∃ p' c', e = .returned (.tuple #[.slice p' (layerS l v).1.length c', .int .i64 (layerS l v).2]) ∧ S w' ([Rw 9 1 p' (layerS l v).1.length c' (stV (layerS l v).1)] ++ [Old w no]) := by
  have H0 := S.old w
  refine enter_d 13 Try.func22 rfl rfl rfl ?_
  refine g_weak [(0, .slice p n c), (1, .int .i64 v)] ⟨rfl, rfl, trivial⟩ ?_
  refine g_seq ?_
  refine g_region ?_
  refine l_of (s_val (v := .slice none 0 0) (wt0 rfl) rfl rfl (x_assign rfl rfl) ?_)
  refine l_of (s_alloc H0 (wt0 rfl) rfl rfl rfl ze25 ?_)
  intro g1 wq2 H3
  refine g_nil ?_
  refine g_then ?_
  refine g_seq ?_
  refine g_region ?_
  refine l_of (s_defer (wt0 rfl) rfl (xd_defer rfl rfl rfl) ?_)
  refine g_nil ?_
  refine g_then ?_
  refine g_seq ?_
  refine g_region ?_
  refine l_of (s_val (v := .slice p n c) (wt0 rfl) rfl rfl (x_move rfl rfl) ?_)
  refine l_of (s_call (wt0 rfl) (x_call' rfl rfl cl61) (open_s l p n c hn hm _ (H3.oldReads (k := 1) rfl hr)) ?_)
  rintro _ wq4 ⟨rfl, H5⟩
  replace H5 : S wq4 [Ob g1 (.cells #[.int .i64 0] 25 (0, 0)), Old w no] := H3.absorb (new := []) H5
  by_cases hce : checkE l = 0
  · skip
    rw [show openV l = .returned (.agg #[.int .i64 ((l.length : Int)), .int .i64 (((tallN l.length : Nat) : Int))]) from if_pos hce]
    obtain ⟨hc1, hc2, hc3⟩ := check_spec hce
    have ht12 := tall_le12 hc2
    refine b_ret rfl rfl ?_
    refine l_of (s_val (v := .int .i64 v) (wt0 rfl) rfl rfl (x_move rfl rfl) ?_)
    by_cases hb6 : (v : Int) < 0
    · skip
      refine l_of (s_call (wt0 rfl) (x_call' rfl rfl cl49) (level_p1 _ _ _ (of_decide_eq_true (decide_eq_true hb6)) _) ?_)
      rintro _ wq7 ⟨rfl, H8⟩
      replace H8 : S wq7 [Ob g1 (.cells #[.int .i64 0] 25 (0, 0)), Old w no] := H5.absorb (new := []) H8
      refine b_panic ?_
      refine g_then_panic ?_
      refine fin_dpanic ?_
      refine gl_step (by simp) cl45 (caught_p g1 (7) (0) [] _ (H8.ob (k := 0) rfl)) ?_
      rintro _ _ wq9 ⟨⟨rfl, H10⟩, rfl⟩
      replace H10 : S wq9 [Ob g1 (.cells #[.int .i64 7] 25 (0, 0)), Old w no] := H8.absorbK (new := [Ob g1 (.cells #[.int .i64 7] 25 (0, 0))]) [0] (by intro g hg; subst hg; exact ⟨0, rfl, _, rfl, rfl⟩) H10
      refine (?_ : GL _ _ _ _ _ _ FrameMode.returning _)
      refine gl_ret [.tmp 4, .cell 5 25] [.slice none 0 0, .int .i64 7] rfl ⟨rfl, ⟨_, rfl, run_load1 Try.underlying25 rfl (H10.cell (k := 0) rfl rfl)⟩, trivial⟩ ?_
      have hd : layerS l v = ([], 7) := by unfold layerS; rw [if_pos hce, if_neg (by omega)]
      rw [hd]
      exact ⟨none, 0, rfl, (H10.takes [1] (by decide)).nilRw 9 1⟩
    · skip
      by_cases hb11 : (((tallN l.length : Nat) : Int) : Int) < v
      · skip
        refine l_of (s_call (wt0 rfl) (x_call' rfl rfl cl49) (level_p2 _ _ _ (of_decide_eq_false (decide_eq_false hb6)) (of_decide_eq_true (decide_eq_true hb11)) _) ?_)
        rintro _ wq12 ⟨rfl, H13⟩
        replace H13 : S wq12 [Ob g1 (.cells #[.int .i64 0] 25 (0, 0)), Old w no] := H5.absorb (new := []) H13
        refine b_panic ?_
        refine g_then_panic ?_
        refine fin_dpanic ?_
        refine gl_step (by simp) cl45 (caught_p g1 (7) (0) [] _ (H13.ob (k := 0) rfl)) ?_
        rintro _ _ wq14 ⟨⟨rfl, H15⟩, rfl⟩
        replace H15 : S wq14 [Ob g1 (.cells #[.int .i64 7] 25 (0, 0)), Old w no] := H13.absorbK (new := [Ob g1 (.cells #[.int .i64 7] 25 (0, 0))]) [0] (by intro g hg; subst hg; exact ⟨0, rfl, _, rfl, rfl⟩) H15
        refine (?_ : GL _ _ _ _ _ _ FrameMode.returning _)
        refine gl_ret [.tmp 4, .cell 5 25] [.slice none 0 0, .int .i64 7] rfl ⟨rfl, ⟨_, rfl, run_load1 Try.underlying25 rfl (H15.cell (k := 0) rfl rfl)⟩, trivial⟩ ?_
        have hd : layerS l v = ([], 7) := by unfold layerS; rw [if_pos hce, if_neg (by omega)]
        rw [hd]
        exact ⟨none, 0, rfl, (H15.takes [1] (by decide)).nilRw 9 1⟩
      · skip
        refine l_of (s_call (wt0 rfl) (x_call' rfl rfl cl49) (level_r _ _ _ (of_decide_eq_false (decide_eq_false hb6)) (of_decide_eq_false (decide_eq_false hb11)) _) ?_)
        rintro _ wq16 ⟨rfl, H17⟩
        replace H17 : S wq16 [Ob g1 (.cells #[.int .i64 0] 25 (0, 0)), Old w no] := H5.absorb (new := []) H17
        refine b_ret rfl rfl ?_
        refine g_nil ?_
        refine g_then ?_
        refine g_seq ?_
        refine g_region ?_
        refine l_of (s_val (v := .int .i64 v) (wt0 rfl) rfl rfl (x_move rfl rfl) ?_)
        refine l_of (s_val (v := .slice p n c) (wt0 rfl) rfl rfl (x_move rfl rfl) ?_)
        have hlay20 := layer_i 0 v l p n c (by omega) (by omega) hn (by omega) (by omega) (digs_size hc3) (lvlS_pos (by omega) _) wq16 (H17.oldReads (k := 1) rfl hr)
        simp only [show (0 : Int).toNat = 0 from rfl, Nat.sub_zero] at hlay20
        refine l_of (s_call (wt0 rfl) (x_call' rfl rfl cl51) (hlay20) ?_)
        rintro _ wq21 ⟨p18, c19, rfl, H22⟩
        replace H22 : S wq21 [Rw 9 1 p18 (lvlS 0 l v.toNat).length c19 (stV (lvlS 0 l v.toNat)), Ob g1 (.cells #[.int .i64 0] 25 (0, 0)), Old w no] := H17.absorb (new := [Rw 9 1 p18 (lvlS 0 l v.toNat).length c19 (stV (lvlS 0 l v.toNat))]) H22
        refine b_ret rfl rfl ?_
        refine l_of (s_val (v := .slice p18 (lvlS 0 l v.toNat).length c19) (wt0 rfl) rfl rfl (x_assign rfl rfl) ?_)
        refine l_of (s_store H22 1 (wt0 rfl) rfl rfl rfl rfl rfl sz25 rfl rfl (cs' := #[.int .i64 0]) rfl ?_)
        intro wq23 H24
        refine g_nil ?_
        refine g_then ?_
        refine g_ret ?_
        refine fin_dret ?_
        refine gl_step (by simp) cl45 (caught_n g1 _) ?_
        rintro _ _ wq25 ⟨⟨rfl, H26⟩, rfl⟩
        replace H26 : S wq25 [Rw 9 1 p18 (lvlS 0 l v.toNat).length c19 (stV (lvlS 0 l v.toNat)), Ob g1 (.cells #[.int .i64 0] 25 (0, 0)), Old w no] := H24.absorb (new := []) H26
        refine (?_ : GL _ _ _ _ _ _ FrameMode.returning _)
        refine gl_ret [.tmp 4, .cell 5 25] [.slice p18 (lvlS 0 l v.toNat).length c19, .int .i64 0] rfl ⟨rfl, ⟨_, rfl, run_load1 Try.underlying25 rfl (H26.cell (k := 1) rfl rfl)⟩, trivial⟩ ?_
        have hd : layerS l v = (lvlS 0 l v.toNat, 0) := by unfold layerS; rw [if_pos hce, if_pos (by omega)]
        rw [hd]
        exact ⟨_, _, rfl, H26.takes [0, 2] (by decide)⟩
  · skip
    rw [show openV l = .panicked [{ v := .iface 113 (.int .i64 (checkE l)), recovered := false }] from if_neg hce]
    refine b_panic ?_
    refine g_then_panic ?_
    refine fin_dpanic ?_
    refine gl_step (by simp) cl45 (caught_p g1 ((checkE l)) (0) [] _ (H5.ob (k := 0) rfl)) ?_
    rintro _ _ wq27 ⟨⟨rfl, H28⟩, rfl⟩
    replace H28 : S wq27 [Ob g1 (.cells #[.int .i64 ((checkE l))] 25 (0, 0)), Old w no] := H5.absorbK (new := [Ob g1 (.cells #[.int .i64 ((checkE l))] 25 (0, 0))]) [0] (by intro g hg; subst hg; exact ⟨0, rfl, _, rfl, rfl⟩) H28
    refine (?_ : GL _ _ _ _ _ _ FrameMode.returning _)
    refine gl_ret [.tmp 4, .cell 5 25] [.slice none 0 0, .int .i64 ((checkE l))] rfl ⟨rfl, ⟨_, rfl, run_load1 Try.underlying25 rfl (H28.cell (k := 0) rfl rfl)⟩, trivial⟩ ?_
    have hd : layerS l v = ([], (checkE l)) := by unfold layerS; rw [if_neg hce]
    rw [hd]
    exact ⟨none, 0, rfl, (H28.takes [1] (by decide)).nilRw 9 1⟩
end Go.Proofs.Ytlajgickimgigaa
