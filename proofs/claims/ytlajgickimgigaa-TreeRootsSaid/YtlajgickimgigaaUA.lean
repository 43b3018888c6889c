import Derived.Test.YtlajgickimgigaaTX
set_option linter.unusedSimpArgs false
set_option linter.unusedVariables false
namespace Go.Proofs.Ytlajgickimgigaa
open Go.RowKit

theorem texts_no {l m : List ByteArray} {i : Nat} (h : ¬ l.getD i ⟨#[]⟩ = m.getD i ⟨#[]⟩) : ¬ l = m := fun e => h (by rw [e])
theorem texts_yes {l m : List ByteArray} (hl : l.length = m.length) (h : ∀ i, i < l.length → l.getD i ⟨#[]⟩ = m.getD i ⟨#[]⟩) : l = m := by
  apply List.ext_getElem hl
  intro i h1 h2
  have := h i h1
  rwa [List.getD_eq_getElem?_getD, List.getD_eq_getElem?_getD, List.getElem?_eq_getElem h1, List.getElem?_eq_getElem h2] at this
theorem tall4096 : tallN 4096 = 12 := by decide
set_option maxRecDepth 20000 in
set_option maxHeartbeats 4000000 in
set_option maxRecDepth 20000 in
set_option maxHeartbeats 4000000 in
theorem texts_l (l m : List ByteArray) (p q : Option Addr) (n c k d : Nat) (hn : n = l.length) (hk : k = m.length) (hm : n ≤ 1099511627776) (w : World) (hr1 : Reads w p n c 1 (stV l)) (hr2 : Reads w q k d 1 (stV m)) : Calls Try.prog 17 #[.slice p n c, .slice q k d] w fun e w' => e = .returned (.bool (decide (l = m))) ∧ S w' [Old w no] := by
  have H0 := S.old w
  refine enter 26 Try.func17 rfl rfl rfl ?_
  refine g_weak [(0, .slice p n c), (1, .slice q k d)] ⟨rfl, rfl, trivial⟩ ?_
  refine g_seq ?_
  refine g_region ?_
  refine l_of (s_val (v := .bool false) (wt0 rfl) rfl rfl (x_assign rfl rfl) ?_)
  refine g_nil ?_
  refine g_then ?_
  refine g_seq ?_
  refine g_seq ?_
  refine g_region ?_
  refine l_of (s_val (v := .slice p n c) (wt0 rfl) rfl rfl (x_move rfl rfl) ?_)
  refine l_of (s_val (v := .int .i64 ((n : Int))) (wt0 rfl) rfl rfl (x_lenl rfl rfl Try.underlying22) ?_)
  refine l_of (s_val (v := .slice q k d) (wt0 rfl) rfl rfl (x_move rfl rfl) ?_)
  refine l_of (s_val (v := .int .i64 ((k : Int))) (wt0 rfl) rfl rfl (x_lenl rfl rfl Try.underlying22) ?_)
  refine l_of (s_val (v := .bool (!decide (((n : Int) : Int) = (k : Int)))) (wt0 rfl) rfl rfl (x_bin rfl rfl rfl b_neq) ?_)
  refine g_nil ?_
  refine g_then ?_
  by_cases hb1 : ((n : Int) : Int) = (k : Int)
  · skip
    refine g_cond_f rfl (nf hb1) ?_
    refine g_skip ?_
    refine g_then ?_
    refine g_seq ?_
    refine g_seq ?_
    refine g_region ?_
    refine l_of (s_val (v := .slice p n c) (wt0 rfl) rfl rfl (x_move rfl rfl) ?_)
    refine l_of (s_val (v := .int .i64 ((n : Int))) (wt0 rfl) rfl rfl (x_lenl rfl rfl Try.underlying22) ?_)
    refine l_of (s_val (v := .int .i64 0) (wt0 rfl) rfl rfl (x_move rfl rfl) ?_)
    refine g_nil ?_
    refine g_then ?_
    refine g_block ?_
    refine g_loop (ι := Nat) (fun i => [(0, .slice p n c), (1, .slice q k d), (12, .int .i64 ((n : Int))), (13, .int .i64 ((i : Int)))]) (fun i wx => (i ≤ n) ∧ (∀ j, j < i → l.getD j ⟨#[]⟩ = m.getD j ⟨#[]⟩) ∧ S wx [Old w no]) (fun i => n - i) (0) ⟨rfl, rfl, rfl, rfl, trivial⟩ ⟨Nat.zero_le _, (fun j h => by omega), H0⟩ ?_
    rintro i wq2 ⟨hi, hno, H3⟩
    replace H3 : S wq2 [Old w no] := H3
    refine g_weak [(0, .slice p n c), (1, .slice q k d), (12, .int .i64 ((n : Int))), (13, .int .i64 ((i : Int)))] ⟨rfl, rfl, rfl, rfl, trivial⟩ ?_
    refine g_seq ?_
    refine g_region ?_
    refine l_of (s_val (v := .bool (decide (((i : Int) : Int) < (n : Int)))) (wt0 rfl) rfl rfl (x_bin rfl rfl rfl b_lss) ?_)
    refine g_nil ?_
    refine g_then ?_
    refine g_seq ?_
    by_cases hb4 : ((i : Int) : Int) < (n : Int)
    · skip
      refine g_cond_t rfl (decide_eq_true hb4) ?_
      refine g_skip ?_
      refine g_then ?_
      refine g_seq ?_
      refine g_block ?_
      refine g_seq ?_
      refine g_region ?_
      refine l_of (s_val (v := .int .i64 ((i : Int))) (wt0 rfl) rfl rfl (x_move rfl rfl) ?_)
      refine l_of (s_val (v := .int .i64 ((i : Int))) (wt0 rfl) rfl rfl (x_assign rfl rfl) ?_)
      refine g_nil ?_
      refine g_then ?_
      refine g_seq ?_
      refine g_quiet (by kernel_rfl) (by kernel_rfl) H3 ?_
      refine q_val (v := .slice p n c) (wt0 rfl) rfl rfl (fun wx H => x_move rfl rfl) ?_
      refine q_val (v := .int .i64 ((i : Int))) (wt0 rfl) rfl rfl (fun wx H => x_move rfl rfl) ?_
      refine q_val (v := .pointer ((p).map fun q => q.add (i * 1))) (wt0 rfl) rfl rfl (fun wx H => x_idxP i ((hr1.2.2 (by omega)).imp fun _ h => h.1) rfl rfl rfl Try.underlying22 sz9 (by omega)) ?_
      refine q_val (v := .string ((l.getD (i) ⟨#[]⟩))) (wt0 rfl) rfl rfl (fun wx H => x_loadR1 i (H.oldReads (k := 0) rfl hr1) (by omega) rfl rfl Try.underlying9 rfl (stV_at (by omega))) ?_
      refine q_val (v := .slice q k d) (wt0 rfl) rfl rfl (fun wx H => x_move rfl rfl) ?_
      refine q_val (v := .int .i64 ((i : Int))) (wt0 rfl) rfl rfl (fun wx H => x_move rfl rfl) ?_
      refine q_val (v := .pointer ((q).map fun q => q.add (i * 1))) (wt0 rfl) rfl rfl (fun wx H => x_idxP i ((hr2.2.2 (by omega)).imp fun _ h => h.1) rfl rfl rfl Try.underlying22 sz9 (by omega)) ?_
      refine q_val (v := .string ((m.getD (i) ⟨#[]⟩))) (wt0 rfl) rfl rfl (fun wx H => x_loadR1 i (H.oldReads (k := 0) rfl hr2) (by omega) rfl rfl Try.underlying9 rfl (stV_at (by omega))) ?_
      refine q_val (v := .bool (!decide ((l.getD (i) ⟨#[]⟩) = (m.getD (i) ⟨#[]⟩)))) (wt0 rfl) rfl rfl (fun wx H => x_bin rfl rfl rfl b_nes) ?_
      refine q_nil (fun wq5 H6 => ?_)
      refine g_then ?_
      by_cases hb7 : (l.getD (i) ⟨#[]⟩) = (m.getD (i) ⟨#[]⟩)
      · skip
        refine g_cond_f rfl (nf hb7) ?_
        refine g_skip ?_
        refine g_in ?_
        refine g_then ?_
        refine g_weak [(0, .slice p n c), (1, .slice q k d), (12, .int .i64 ((n : Int))), (13, .int .i64 ((i : Int)))] ⟨rfl, rfl, rfl, rfl, trivial⟩ ?_
        refine g_region ?_
        refine l_of (s_val (v := .int .i64 ((i : Int) + 1)) (wt0 rfl) rfl rfl (x_bin rfl rfl rfl (b_add (w64 (by omega)))) ?_)
        refine l_of (s_val (v := .int .i64 ((i : Int) + 1)) (wt0 rfl) rfl rfl (x_move rfl rfl) ?_)
        refine g_nil ?_
        refine g_then ?_
        refine g_round (i := (i)) (i + 1) ?_ ?_ ?_
        · exact ⟨rfl, rfl, rfl, rfl, trivial⟩
        · exact ⟨by omega, (fun j h => by rcases Nat.lt_succ_iff_lt_or_eq.1 h with h | rfl; exact hno j h; exact hb7), H6⟩
        · (try dsimp only); omega
      · skip
        refine g_cond_t rfl (nt hb7) ?_
        refine g_seq ?_
        refine g_region ?_
        refine l_of (s_val (v := .bool false) (wt0 rfl) rfl rfl (x_assign rfl rfl) ?_)
        refine g_nil ?_
        refine g_then ?_
        refine g_weak [(4, .bool false)] ⟨rfl, trivial⟩ ?_
        refine g_ret ?_
        refine g_in_ret ?_
        refine g_then_ret ?_
        refine g_then_ret ?_
        refine g_in_ret ?_
        refine g_then_ret ?_
        refine fin_ret [.tmp 4] [.bool false] rfl ⟨rfl, trivial⟩ ?_
        exact ⟨by rw [decide_eq_false (texts_no hb7)]; rfl, H6.mask [true]⟩
    · skip
      refine g_cond_f rfl (decide_eq_false hb4) ?_
      refine g_exit ?_
      refine g_then_exit ?_
      refine g_then_exit ?_
      refine g_in_hit ?_
      refine g_then ?_
      refine g_seq ?_
      refine g_region ?_
      refine l_of (s_val (v := .bool true) (wt0 rfl) rfl rfl (x_assign rfl rfl) ?_)
      refine g_nil ?_
      refine g_then ?_
      refine g_ret ?_
      refine fin_ret [.tmp 4] [.bool true] rfl ⟨rfl, trivial⟩ ?_
      exact ⟨by rw [decide_eq_true (texts_yes (by omega) (fun j h => hno j (by omega)))]; rfl, H3.mask [true]⟩
  · skip
    refine g_cond_t rfl (nt hb1) ?_
    refine g_seq ?_
    refine g_region ?_
    refine l_of (s_val (v := .bool false) (wt0 rfl) rfl rfl (x_assign rfl rfl) ?_)
    refine g_nil ?_
    refine g_then ?_
    refine g_ret ?_
    refine g_then_ret ?_
    refine fin_ret [.tmp 4] [.bool false] rfl ⟨rfl, trivial⟩ ?_
    exact ⟨by rw [decide_eq_false (fun h => hb1 (by rw [hn, hk, h]))]; rfl, H0.mask [true]⟩
/-- Height. -/
def heightV (n : Int) : Value := if 1 ≤ n ∧ n ≤ 4096 then .tuple #[.int .i64 ((tallN n.toNat : Nat) : Int), .int .i64 0] else .tuple #[.int .i64 0, .int .i64 7]
set_option maxRecDepth 20000 in
set_option maxHeartbeats 4000000 in
theorem height_r (n : Int)  (w : World) : Calls Try.prog 16 #[.int .i64 n] w fun e w' => e = .returned (heightV n) ∧ S w' [Old w no] := by
  have H0 := S.old w
  refine enter 12 Try.func16 rfl rfl rfl ?_
  refine g_weak [(0, .int .i64 n)] ⟨rfl, trivial⟩ ?_
  refine g_seq ?_
  refine g_region ?_
  refine l_of (s_val (v := .int .i64 0) (wt0 rfl) rfl rfl (x_assign rfl rfl) ?_)
  refine l_of (s_val (v := .int .i64 0) (wt0 rfl) rfl rfl (x_assign rfl rfl) ?_)
  refine g_nil ?_
  refine g_then ?_
  refine g_seq ?_
  refine g_seq ?_
  refine g_region ?_
  refine l_of (s_val (v := .int .i64 n) (wt0 rfl) rfl rfl (x_move rfl rfl) ?_)
  refine l_of (s_val (v := .bool (decide ((n : Int) < 1))) (wt0 rfl) rfl rfl (x_bin rfl rfl rfl b_lss) ?_)
  refine l_of (s_val (v := .bool (decide ((n : Int) < 1))) (wt0 rfl) rfl rfl (x_move rfl rfl) ?_)
  by_cases hb1 : (n : Int) < 1
  · skip
    refine l_of (s_not (wn1 rfl rfl rfl rfl (decide_eq_true hb1)) rfl rfl ?_)
    refine l_of (s_not (wn1 rfl rfl rfl rfl (decide_eq_true hb1)) rfl rfl ?_)
    refine l_of (s_val (v := .bool true) (wt0 rfl) rfl rfl (x_pick_t rfl rfl (decide_eq_true hb1) rfl) ?_)
    refine g_nil ?_
    refine g_then ?_
    refine g_cond_t rfl rfl ?_
    refine g_seq ?_
    refine g_region ?_
    refine l_of (s_val (v := .int .i64 0) (wt0 rfl) rfl rfl (x_assign rfl rfl) ?_)
    refine l_of (s_val (v := .int .i64 7) (wt0 rfl) rfl rfl (x_assign rfl rfl) ?_)
    refine g_nil ?_
    refine g_then ?_
    refine g_ret ?_
    refine g_then_ret ?_
    refine fin_ret [.tmp 2, .tmp 3] [.int .i64 0, .int .i64 7] rfl ⟨rfl, rfl, trivial⟩ ?_
    exact ⟨by unfold heightV; rw [if_neg (by omega)]; rfl, H0.mask [true]⟩
  · skip
    refine l_of (s_val (v := .int .i64 n) (wt1 rfl rfl rfl rfl (decide_eq_false hb1)) rfl rfl (x_move rfl rfl) ?_)
    refine l_of (s_val (v := .bool (decide ((4096 : Int) < n))) (wt1 rfl rfl rfl rfl (decide_eq_false hb1)) rfl rfl (x_bin rfl rfl rfl b_gtr) ?_)
    refine l_of (s_val (v := .bool (decide ((4096 : Int) < n))) (wt0 rfl) rfl rfl (x_pick_f rfl rfl (decide_eq_false hb1) rfl) ?_)
    refine g_nil ?_
    refine g_then ?_
    by_cases hb2 : (4096 : Int) < n
    · skip
      refine g_cond_t rfl (decide_eq_true hb2) ?_
      refine g_seq ?_
      refine g_region ?_
      refine l_of (s_val (v := .int .i64 0) (wt0 rfl) rfl rfl (x_assign rfl rfl) ?_)
      refine l_of (s_val (v := .int .i64 7) (wt0 rfl) rfl rfl (x_assign rfl rfl) ?_)
      refine g_nil ?_
      refine g_then ?_
      refine g_ret ?_
      refine g_then_ret ?_
      refine fin_ret [.tmp 2, .tmp 3] [.int .i64 0, .int .i64 7] rfl ⟨rfl, rfl, trivial⟩ ?_
      exact ⟨by unfold heightV; rw [if_neg (by omega)]; rfl, H0.mask [true]⟩
    · skip
      refine g_cond_f rfl (decide_eq_false hb2) ?_
      refine g_skip ?_
      refine g_then ?_
      refine g_seq ?_
      refine g_region ?_
      refine l_of (s_val (v := .int .i64 n) (wt0 rfl) rfl rfl (x_move rfl rfl) ?_)
      refine l_of (s_call (wt0 rfl) (x_call' rfl rfl cl53) (tall_i _ (by first | omega | decide) _) ?_)
      rintro _ wq3 ⟨rfl, H4⟩
      replace H4 : S wq3 [Old w no] := H0.absorb (new := []) H4
      refine b_ret rfl rfl ?_
      refine l_of (s_val (v := .int .i64 (((tallN n.toNat : Nat) : Int))) (wt0 rfl) rfl rfl (x_assign rfl rfl) ?_)
      refine l_of (s_val (v := .int .i64 0) (wt0 rfl) rfl rfl (x_assign rfl rfl) ?_)
      refine g_nil ?_
      refine g_then ?_
      refine g_ret ?_
      refine fin_ret [.tmp 2, .tmp 3] [.int .i64 (((tallN n.toNat : Nat) : Int)), .int .i64 0] rfl ⟨rfl, rfl, trivial⟩ ?_
      exact ⟨by unfold heightV; rw [if_pos (by omega)]; rfl, H4.mask [true]⟩
set_option maxRecDepth 20000 in
set_option maxHeartbeats 4000000 in
theorem height_s (n : Int)  (w : World) : Calls Try.prog 15 #[.int .i64 n] w fun e w' => e = .returned (heightV n) ∧ S w' [Old w no] := by
  have H0 := S.old w
  refine enter_d 7 Try.func15 rfl rfl rfl ?_
  refine g_weak [(0, .int .i64 n)] ⟨rfl, trivial⟩ ?_
  refine g_seq ?_
  refine g_region ?_
  refine l_of (s_val (v := .int .i64 0) (wt0 rfl) rfl rfl (x_assign rfl rfl) ?_)
  refine l_of (s_alloc H0 (wt0 rfl) rfl rfl rfl ze25 ?_)
  intro g1 wq2 H3
  refine g_nil ?_
  refine g_then ?_
  refine g_seq ?_
  refine g_region ?_
  refine l_of (s_defer (wt0 rfl) rfl (xd_defer rfl rfl rfl) ?_)
  refine g_nil ?_
  refine g_then ?_
  refine g_seq ?_
  refine g_region ?_
  refine l_of (s_val (v := .int .i64 n) (wt0 rfl) rfl rfl (x_move rfl rfl) ?_)
  by_cases hb4 : (n : Int) < 1
  · skip
    refine l_of (s_call (wt0 rfl) (x_call' rfl rfl cl48) (formed_p1 _ (of_decide_eq_true (decide_eq_true hb4)) _) ?_)
    rintro _ wq5 ⟨rfl, H6⟩
    replace H6 : S wq5 [Ob g1 (.cells #[.int .i64 0] 25 (0, 0)), Old w no] := H3.absorb (new := []) H6
    refine b_panic ?_
    refine g_then_panic ?_
    refine fin_dpanic ?_
    refine gl_step (by simp) cl45 (caught_p g1 (7) (0) [] _ (H6.ob (k := 0) rfl)) ?_
    rintro _ _ wq7 ⟨⟨rfl, H8⟩, rfl⟩
    replace H8 : S wq7 [Ob g1 (.cells #[.int .i64 7] 25 (0, 0)), Old w no] := H6.absorbK (new := [Ob g1 (.cells #[.int .i64 7] 25 (0, 0))]) [0] (by intro g hg; subst hg; exact ⟨0, rfl, _, rfl, rfl⟩) H8
    refine (?_ : GL _ _ _ _ _ _ FrameMode.returning _)
    refine gl_ret [.tmp 2, .cell 3 25] [.int .i64 0, .int .i64 7] rfl ⟨rfl, ⟨_, rfl, run_load1 Try.underlying25 rfl (H8.cell (k := 0) rfl rfl)⟩, trivial⟩ ?_
    exact ⟨by unfold heightV; rw [if_neg (by omega)]; rfl, H8.mask [false, true]⟩
  · skip
    by_cases hb9 : (4096 : Int) < n
    · skip
      refine l_of (s_call (wt0 rfl) (x_call' rfl rfl cl48) (formed_p2 _ (of_decide_eq_true (decide_eq_true hb9)) _) ?_)
      rintro _ wq10 ⟨rfl, H11⟩
      replace H11 : S wq10 [Ob g1 (.cells #[.int .i64 0] 25 (0, 0)), Old w no] := H3.absorb (new := []) H11
      refine b_panic ?_
      refine g_then_panic ?_
      refine fin_dpanic ?_
      refine gl_step (by simp) cl45 (caught_p g1 (7) (0) [] _ (H11.ob (k := 0) rfl)) ?_
      rintro _ _ wq12 ⟨⟨rfl, H13⟩, rfl⟩
      replace H13 : S wq12 [Ob g1 (.cells #[.int .i64 7] 25 (0, 0)), Old w no] := H11.absorbK (new := [Ob g1 (.cells #[.int .i64 7] 25 (0, 0))]) [0] (by intro g hg; subst hg; exact ⟨0, rfl, _, rfl, rfl⟩) H13
      refine (?_ : GL _ _ _ _ _ _ FrameMode.returning _)
      refine gl_ret [.tmp 2, .cell 3 25] [.int .i64 0, .int .i64 7] rfl ⟨rfl, ⟨_, rfl, run_load1 Try.underlying25 rfl (H13.cell (k := 0) rfl rfl)⟩, trivial⟩ ?_
      exact ⟨by unfold heightV; rw [if_neg (by omega)]; rfl, H13.mask [false, true]⟩
    · skip
      refine l_of (s_call (wt0 rfl) (x_call' rfl rfl cl48) (formed_i _ (by omega) (by omega) _) ?_)
      rintro _ wq14 ⟨rfl, H15⟩
      replace H15 : S wq14 [Ob g1 (.cells #[.int .i64 0] 25 (0, 0)), Old w no] := H3.absorb (new := []) H15
      refine b_ret rfl rfl ?_
      refine l_of (s_val (v := .int .i64 (((tallN n.toNat : Nat) : Int))) (wt0 rfl) rfl rfl (x_field (n := 0) (m := 0) rfl rfl Try.underlying66 rfl (run_part1 Try.underlying3 rfl rfl)) ?_)
      refine l_of (s_val (v := .int .i64 (((tallN n.toNat : Nat) : Int))) (wt0 rfl) rfl rfl (x_assign rfl rfl) ?_)
      refine l_of (s_store H15 0 (wt0 rfl) rfl rfl rfl rfl rfl sz25 rfl rfl (cs' := #[.int .i64 0]) rfl ?_)
      intro wq16 H17
      refine g_nil ?_
      refine g_then ?_
      refine g_ret ?_
      refine fin_dret ?_
      refine gl_step (by simp) cl45 (caught_n g1 _) ?_
      rintro _ _ wq18 ⟨⟨rfl, H19⟩, rfl⟩
      replace H19 : S wq18 [Ob g1 (.cells #[.int .i64 0] 25 (0, 0)), Old w no] := H17.absorb (new := []) H19
      refine (?_ : GL _ _ _ _ _ _ FrameMode.returning _)
      refine gl_ret [.tmp 2, .cell 3 25] [.int .i64 (((tallN n.toNat : Nat) : Int)), .int .i64 0] rfl ⟨rfl, ⟨_, rfl, run_load1 Try.underlying25 rfl (H19.cell (k := 0) rfl rfl)⟩, trivial⟩ ?_
      exact ⟨by unfold heightV; rw [if_pos (by omega)]; rfl, H19.mask [false, true]⟩
/-- Zero. -/
def zeroV (v : Int) : ByteArray × Int := if 0 ≤ v ∧ v ≤ 12 then (zeroS v.toNat, 0) else (⟨#[]⟩, 7)
theorem zero_i (v : Int) (h0 : 0 ≤ v) (h1 : v ≤ 1000) (w : World) : Calls Try.prog 58 #[.int .i64 v] w fun e w' => e = .returned (.string (zeroS v.toNat)) ∧ S w' [Old w no] := by
  have e : v = (v.toNat : Int) := by omega
  rw [e]; exact zero_s _ (by omega) _
set_option maxRecDepth 20000 in
set_option maxHeartbeats 4000000 in
theorem zeroV_s (v : Int)  (w : World) : Calls Try.prog 18 #[.int .i64 v] w fun e w' => e = .returned (.tuple #[.string (zeroV v).1, .int .i64 (zeroV v).2]) ∧ S w' [Old w no] := by
  have H0 := S.old w
  refine enter 12 Try.func18 rfl rfl rfl ?_
  refine g_weak [(0, .int .i64 v)] ⟨rfl, trivial⟩ ?_
  refine g_seq ?_
  refine g_region ?_
  refine l_of (s_val (v := .string (⟨#[]⟩)) (wt0 rfl) rfl rfl (x_assign rfl rfl) ?_)
  refine l_of (s_val (v := .int .i64 0) (wt0 rfl) rfl rfl (x_assign rfl rfl) ?_)
  refine g_nil ?_
  refine g_then ?_
  refine g_seq ?_
  refine g_seq ?_
  refine g_region ?_
  refine l_of (s_val (v := .int .i64 v) (wt0 rfl) rfl rfl (x_move rfl rfl) ?_)
  refine l_of (s_val (v := .bool (decide ((v : Int) < 0))) (wt0 rfl) rfl rfl (x_bin rfl rfl rfl b_lss) ?_)
  refine l_of (s_val (v := .bool (decide ((v : Int) < 0))) (wt0 rfl) rfl rfl (x_move rfl rfl) ?_)
  by_cases hb1 : (v : Int) < 0
  · skip
    refine l_of (s_not (wn1 rfl rfl rfl rfl (decide_eq_true hb1)) rfl rfl ?_)
    refine l_of (s_not (wn1 rfl rfl rfl rfl (decide_eq_true hb1)) rfl rfl ?_)
    refine l_of (s_val (v := .bool true) (wt0 rfl) rfl rfl (x_pick_t rfl rfl (decide_eq_true hb1) rfl) ?_)
    refine g_nil ?_
    refine g_then ?_
    refine g_cond_t rfl rfl ?_
    refine g_seq ?_
    refine g_region ?_
    refine l_of (s_val (v := .string (⟨#[]⟩)) (wt0 rfl) rfl rfl (x_assign rfl rfl) ?_)
    refine l_of (s_val (v := .int .i64 7) (wt0 rfl) rfl rfl (x_assign rfl rfl) ?_)
    refine g_nil ?_
    refine g_then ?_
    refine g_ret ?_
    refine g_then_ret ?_
    refine fin_ret [.tmp 2, .tmp 3] [.string (⟨#[]⟩), .int .i64 7] rfl ⟨rfl, rfl, trivial⟩ ?_
    exact ⟨by unfold zeroV; rw [if_neg (by omega)]; rfl, H0.mask [true]⟩
  · skip
    refine l_of (s_val (v := .int .i64 v) (wt1 rfl rfl rfl rfl (decide_eq_false hb1)) rfl rfl (x_move rfl rfl) ?_)
    refine l_of (s_val (v := .bool (decide ((12 : Int) < v))) (wt1 rfl rfl rfl rfl (decide_eq_false hb1)) rfl rfl (x_bin rfl rfl rfl b_gtr) ?_)
    refine l_of (s_val (v := .bool (decide ((12 : Int) < v))) (wt0 rfl) rfl rfl (x_pick_f rfl rfl (decide_eq_false hb1) rfl) ?_)
    refine g_nil ?_
    refine g_then ?_
    by_cases hb2 : (12 : Int) < v
    · skip
      refine g_cond_t rfl (decide_eq_true hb2) ?_
      refine g_seq ?_
      refine g_region ?_
      refine l_of (s_val (v := .string (⟨#[]⟩)) (wt0 rfl) rfl rfl (x_assign rfl rfl) ?_)
      refine l_of (s_val (v := .int .i64 7) (wt0 rfl) rfl rfl (x_assign rfl rfl) ?_)
      refine g_nil ?_
      refine g_then ?_
      refine g_ret ?_
      refine g_then_ret ?_
      refine fin_ret [.tmp 2, .tmp 3] [.string (⟨#[]⟩), .int .i64 7] rfl ⟨rfl, rfl, trivial⟩ ?_
      exact ⟨by unfold zeroV; rw [if_neg (by omega)]; rfl, H0.mask [true]⟩
    · skip
      refine g_cond_f rfl (decide_eq_false hb2) ?_
      refine g_skip ?_
      refine g_then ?_
      refine g_seq ?_
      refine g_region ?_
      refine l_of (s_val (v := .int .i64 v) (wt0 rfl) rfl rfl (x_move rfl rfl) ?_)
      refine l_of (s_call (wt0 rfl) (x_call' rfl rfl cl58) (zero_i _ (by omega) (by omega) _) ?_)
      rintro _ wq3 ⟨rfl, H4⟩
      replace H4 : S wq3 [Old w no] := H0.absorb (new := []) H4
      refine b_ret rfl rfl ?_
      refine l_of (s_val (v := .string ((zeroS v.toNat))) (wt0 rfl) rfl rfl (x_assign rfl rfl) ?_)
      refine l_of (s_val (v := .int .i64 0) (wt0 rfl) rfl rfl (x_assign rfl rfl) ?_)
      refine g_nil ?_
      refine g_then ?_
      refine g_ret ?_
      refine fin_ret [.tmp 2, .tmp 3] [.string ((zeroS v.toNat)), .int .i64 0] rfl ⟨rfl, rfl, trivial⟩ ?_
      exact ⟨by unfold zeroV; rw [if_pos (by omega)]; rfl, H4.mask [true]⟩
set_option maxRecDepth 20000 in
set_option maxHeartbeats 4000000 in
theorem zero_bad (v : Int) (hbad : ¬ (0 ≤ v ∧ v ≤ 12)) (w : World) : Calls Try.prog 19 #[.int .i64 v] w fun e w' => e = .returned (.tuple #[.string ⟨#[]⟩, .int .i64 7]) ∧ S w' [Old w no] := by
  have H0 := S.old w
  refine enter 21 Try.func19 rfl rfl rfl ?_
  refine g_weak [(0, .int .i64 v)] ⟨rfl, trivial⟩ ?_
  refine g_seq ?_
  refine g_region ?_
  refine l_of (s_val (v := .string (⟨#[]⟩)) (wt0 rfl) rfl rfl (x_assign rfl rfl) ?_)
  refine l_of (s_val (v := .int .i64 0) (wt0 rfl) rfl rfl (x_assign rfl rfl) ?_)
  refine g_nil ?_
  refine g_then ?_
  refine g_seq ?_
  refine g_seq ?_
  refine g_region ?_
  refine l_of (s_val (v := .int .i64 v) (wt0 rfl) rfl rfl (x_move rfl rfl) ?_)
  refine l_of (s_val (v := .bool (decide ((v : Int) < 0))) (wt0 rfl) rfl rfl (x_bin rfl rfl rfl b_lss) ?_)
  refine l_of (s_val (v := .bool (decide ((v : Int) < 0))) (wt0 rfl) rfl rfl (x_move rfl rfl) ?_)
  by_cases hb1 : (v : Int) < 0
  · skip
    refine l_of (s_not (wn1 rfl rfl rfl rfl (decide_eq_true hb1)) rfl rfl ?_)
    refine l_of (s_not (wn1 rfl rfl rfl rfl (decide_eq_true hb1)) rfl rfl ?_)
    refine l_of (s_not (wn1 rfl rfl rfl rfl (decide_eq_true hb1)) rfl rfl ?_)
    refine l_of (s_val (v := .bool true) (wt0 rfl) rfl rfl (x_pick_t rfl rfl (decide_eq_true hb1) rfl) ?_)
    refine g_nil ?_
    refine g_then ?_
    refine g_cond_t rfl rfl ?_
    refine g_seq ?_
    refine g_region ?_
    refine l_of (s_val (v := .string (⟨#[]⟩)) (wt0 rfl) rfl rfl (x_assign rfl rfl) ?_)
    refine l_of (s_val (v := .int .i64 7) (wt0 rfl) rfl rfl (x_assign rfl rfl) ?_)
    refine g_nil ?_
    refine g_then ?_
    refine g_ret ?_
    refine g_then_ret ?_
    refine fin_ret [.tmp 2, .tmp 3] [.string (⟨#[]⟩), .int .i64 7] rfl ⟨rfl, rfl, trivial⟩ ?_
    exact ⟨rfl, H0.mask [true]⟩
  · skip
    refine l_of (s_val (v := .int .i64 v) (wt1 rfl rfl rfl rfl (decide_eq_false hb1)) rfl rfl (x_move rfl rfl) ?_)
    refine l_of (s_call (wt1 rfl rfl rfl rfl (decide_eq_false hb1)) (x_call' rfl rfl cl53) (tall_r 4096 (by omega) _) ?_)
    rintro _ wq2 ⟨rfl, H3⟩
    replace H3 : S wq2 [Old w no] := H0.absorb (new := []) H3
    refine b_ret rfl rfl ?_
    have h12 := tall4096
    refine l_of (s_val (v := .bool (decide ((((tallN 4096 : Nat) : Int) : Int) < v))) (wt1 rfl rfl rfl rfl (decide_eq_false hb1)) rfl rfl (x_bin rfl rfl rfl b_gtr) ?_)
    refine l_of (s_val (v := .bool (decide ((((tallN 4096 : Nat) : Int) : Int) < v))) (wt0 rfl) rfl rfl (x_pick_f rfl rfl (decide_eq_false hb1) rfl) ?_)
    refine g_nil ?_
    refine g_then ?_
    by_cases hb4 : (((tallN 4096 : Nat) : Int) : Int) < v
    · skip
      refine g_cond_t rfl (decide_eq_true hb4) ?_
      refine g_seq ?_
      refine g_region ?_
      refine l_of (s_val (v := .string (⟨#[]⟩)) (wt0 rfl) rfl rfl (x_assign rfl rfl) ?_)
      refine l_of (s_val (v := .int .i64 7) (wt0 rfl) rfl rfl (x_assign rfl rfl) ?_)
      refine g_nil ?_
      refine g_then ?_
      refine g_ret ?_
      refine g_then_ret ?_
      refine fin_ret [.tmp 2, .tmp 3] [.string (⟨#[]⟩), .int .i64 7] rfl ⟨rfl, rfl, trivial⟩ ?_
      exact ⟨rfl, H3.mask [true]⟩
    · skip
      refine g_cond_f rfl (decide_eq_false hb4) ?_
      refine g_skip ?_
      refine g_then ?_
      refine g_seq ?_
      refine g_region ?_
      exact absurd (show (0 : Int) ≤ v ∧ v ≤ 12 by omega) hbad
theorem zeroV_r (v : Int) (w : World) : Calls Try.prog 19 #[.int .i64 v] w fun e w' => e = .returned (.tuple #[.string (zeroV v).1, .int .i64 (zeroV v).2]) ∧ S w' [Old w no] := by
  by_cases h : 0 ≤ v ∧ v ≤ 12
  · have e : v = (v.toNat : Int) := by omega
    have := zeroAt_r v.toNat (by omega) w
    rw [← e] at this
    unfold zeroV
    rw [if_pos h]; exact this
  · unfold zeroV
    rw [if_neg h]; exact zero_bad v h w
end Go.Proofs.Ytlajgickimgigaa
