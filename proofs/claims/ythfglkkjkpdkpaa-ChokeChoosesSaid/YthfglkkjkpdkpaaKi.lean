import Derived.Test.YthfglkkjkpdkpaaKh
import Derived.Test.YthfglkkjkpdkpaaGg
set_option linter.unusedSimpArgs false
set_option linter.unusedVariables false
namespace Go.Proofs.Ythfglkkjkpdkpaa
open Go.RowKit

theorem cl71 : callable Try.prog 71 = true := by kernel_rfl
theorem sz22 : szO Try.prog 22 = some 1 := by kernel_rfl
set_option maxRecDepth 20000 in
set_option maxHeartbeats 4000000 in
set_option maxRecDepth 20000 in
set_option maxHeartbeats 4000000 in
theorem grow_s (m : Nat) (hm : m ≤ 100000)  (w : World) : Calls Try.prog 71 #[.slice none 0 0, .int .i64 ((m : Int))] w fun e w' => ∃ p' c', e = .returned (.slice p' 0 c') ∧ S w' ([Rw 30 10 p' 0 c' (fl rvL [])] ++ [Old w no]) := by
  have H0 := S.old w
  refine enter 27 Try.func71 rfl rfl rfl ?_
  refine g_weak [(0, .slice none 0 0), (1, .int .i64 ((m : Int)))] ⟨rfl, rfl, trivial⟩ ?_
  refine g_seq ?_
  refine g_region ?_
  refine l_of (s_val (v := .slice none 0 0) (wt0 rfl) rfl rfl (x_assign rfl rfl) ?_)
  refine g_nil ?_
  refine g_then ?_
  refine g_seq ?_
  refine g_seq ?_
  refine g_region ?_
  refine l_of (s_val (v := .int .i64 ((m : Int))) (wt0 rfl) rfl rfl (x_move rfl rfl) ?_)
  refine l_of (s_val (v := .bool false) (wt0 rfl) rfl rfl (ex_cast (x_bin rfl rfl rfl b_lss) (by rw [decide_eq_false (by omega)])) ?_)
  refine g_nil ?_
  refine g_then ?_
  refine g_cond_f rfl rfl ?_
  refine g_skip ?_
  refine g_then ?_
  refine g_seq ?_
  refine g_seq ?_
  refine g_region ?_
  refine l_of (s_val (v := .int .i64 ((m : Int))) (wt0 rfl) rfl rfl (x_move rfl rfl) ?_)
  refine l_of (s_val (v := .slice none 0 0) (wt0 rfl) rfl rfl (x_move rfl rfl) ?_)
  refine l_of (s_val (v := .int .i64 0) (wt0 rfl) rfl rfl (x_capl rfl rfl Try.underlying22) ?_)
  refine l_of (s_val (v := .slice none 0 0) (wt0 rfl) rfl rfl (x_move rfl rfl) ?_)
  refine l_of (s_val (v := .int .i64 0) (wt0 rfl) rfl rfl (x_lenl rfl rfl Try.underlying22) ?_)
  refine l_of (s_val (v := .int .i64 0) (wt0 rfl) rfl rfl (x_bin rfl rfl rfl (b_sub (by decide))) ?_)
  refine l_of (s_val (v := .int .i64 ((m : Int))) (wt0 rfl) rfl rfl (ex_cast (x_bin rfl rfl rfl (b_sub (w64 (by omega)))) (by rw [Int.sub_zero])) ?_)
  refine l_of (s_val (v := .int .i64 ((m : Int))) (wt0 rfl) rfl rfl (x_assign rfl rfl) ?_)
  refine g_nil ?_
  refine g_then ?_
  refine g_seq ?_
  refine g_region ?_
  refine l_of (s_val (v := .int .i64 ((m : Int))) (wt0 rfl) rfl rfl (x_move rfl rfl) ?_)
  refine l_of (s_val (v := .bool (decide ((0 : Int) < (m : Int)))) (wt0 rfl) rfl rfl (x_bin rfl rfl rfl b_gtr) ?_)
  refine g_nil ?_
  refine g_then ?_
  by_cases hb1 : (0 : Int) < (m : Int)
  · skip
    refine g_cond_t rfl (decide_eq_true hb1) ?_
    refine g_region ?_
    refine l_of (s_val (v := .slice none 0 0) (wt0 rfl) rfl rfl (x_move rfl rfl) ?_)
    refine l_of (s_val (v := .slice none 0 0) (wt0 rfl) rfl rfl (x_move rfl rfl) ?_)
    refine l_of (s_val (v := .int .i64 0) (wt0 rfl) rfl rfl (x_capl rfl rfl Try.underlying22) ?_)
    refine l_of (s_val (v := .slice none 0 0) (wt0 rfl) rfl rfl (ex_cast (x_sliceH 0 rfl rfl rfl Try.underlying22 sz30 ⟨rfl, Nat.le_refl _⟩) (by rfl)) ?_)
    refine l_of (s_val (v := .int .i64 ((m : Int))) (wt0 rfl) rfl rfl (x_move rfl rfl) ?_)
    refine l_of (s_growNil (n := m) H0 (wt0 rfl) rfl rfl rfl rfl rfl Try.underlying22 Try.underlying3 inf30 rfl (by decide) (by decide) (by omega) (by omega) ?_)
    intro gg cg wq2 hmc H3
    rw [← fl_nil rvL] at H3
    replace H3 : S wq2 [Rw 30 10 (some ⟨gg, 0, none⟩) 0 cg (fl rvL ([] : List Rv)), Old w no] := H3
    refine l_of (s_val (v := .slice none 0 0) (wt0 rfl) rfl rfl (x_move rfl rfl) ?_)
    refine l_of (s_val (v := .int .i64 0) (wt0 rfl) rfl rfl (x_lenl rfl rfl Try.underlying22) ?_)
    refine l_of (s_val (v := .slice (some ⟨gg, 0, none⟩) 0 cg) (wt0 rfl) rfl rfl (ex_cast (x_sliceH 0 rfl rfl rfl Try.underlying22 sz30 ⟨rfl, Nat.zero_le _⟩) (by rw [cutP0])) ?_)
    refine l_of (s_val (v := .slice (some ⟨gg, 0, none⟩) 0 cg) (wt0 rfl) rfl rfl (x_assign rfl rfl) ?_)
    refine g_nil ?_
    refine g_then ?_
    refine g_weak [(0, .slice (some ⟨gg, 0, none⟩) 0 cg)] ⟨rfl, trivial⟩ ?_
    refine g_seq ?_
    refine g_region ?_
    refine l_of (s_val (v := .slice (some ⟨gg, 0, none⟩) 0 cg) (wt0 rfl) rfl rfl (x_move rfl rfl) ?_)
    refine l_of (s_val (v := .slice (some ⟨gg, 0, none⟩) 0 cg) (wt0 rfl) rfl rfl (x_assign rfl rfl) ?_)
    refine g_nil ?_
    refine g_then ?_
    refine g_ret ?_
    refine fin_ret [.tmp 4] [.slice (some ⟨gg, 0, none⟩) 0 cg] rfl ⟨rfl, trivial⟩ ?_
    exact ⟨_, _, rfl, H3⟩
  · skip
    refine g_cond_f rfl (decide_eq_false hb1) ?_
    refine g_skip ?_
    refine g_then ?_
    refine g_weak [(0, .slice none 0 0)] ⟨rfl, trivial⟩ ?_
    refine g_seq ?_
    refine g_region ?_
    refine l_of (s_val (v := .slice none 0 0) (wt0 rfl) rfl rfl (x_move rfl rfl) ?_)
    refine l_of (s_val (v := .slice none 0 0) (wt0 rfl) rfl rfl (x_assign rfl rfl) ?_)
    refine g_nil ?_
    refine g_then ?_
    refine g_ret ?_
    refine fin_ret [.tmp 4] [.slice none 0 0] rfl ⟨rfl, trivial⟩ ?_
    exact ⟨none, 0, rfl, (H0.takes [0] (by decide)).nilFl 30 10 rvL⟩
set_option maxRecDepth 20000 in
set_option maxHeartbeats 4000000 in
set_option maxRecDepth 20000 in
set_option maxHeartbeats 4000000 in
theorem concat_s (ga : Nat) (A B : List Rv) (pA : Option Addr) (nA cA : Nat) (pB : Option Addr) (nB cB : Nat) (hnA : nA ≤ 1000) (hnB : nB ≤ 1000)  (w : World) (HS : S w [Ob ga (.cells #[.slice pA nA cA, .slice pB nB cB] 22 (0, 0))]) (hA : Apart w (Ob ga (.cells #[.slice pA nA cA, .slice pB nB cB] 22 (0, 0))) pA nA cA 10 (fl rvL A)) (hB : Apart w (Ob ga (.cells #[.slice pA nA cA, .slice pB nB cB] 22 (0, 0))) pB nB cB 10 (fl rvL B)) : Calls Try.prog 45 #[.slice (some ⟨ga, 0, none⟩) (2) (2)] w fun e w' => ∃ p' c', e = .returned (.slice p' (A ++ B).length c') ∧ S w' ([Rw 30 10 p' (A ++ B).length c' (fl rvL (A ++ B)), Ob ga (.cells #[.slice pA nA cA, .slice pB nB cB] 22 (0, 0))] ++ [Old w (fps [Ob ga (.cells #[.slice pA nA cA, .slice pB nB cB] 22 (0, 0))])]) := by
  have H00 := HS.beginI
  have H0 : S w ([Ob ga (.cells #[.slice pA nA cA, .slice pB nB cB] 22 (0, 0)), Old w (fps [Ob ga (.cells #[.slice pA nA cA, .slice pB nB cB] 22 (0, 0))])]) := H00
  have hlA := (hA _ H0).lenL rvE
  have hlB := (hB _ H0).lenL rvE
  refine enter 36 Try.func45 rfl rfl rfl ?_
  refine g_weak [(0, .slice (some ⟨ga, 0, none⟩) (2) (2))] ⟨rfl, trivial⟩ ?_
  refine g_seq ?_
  refine g_region ?_
  refine l_of (s_val (v := .slice none 0 0) (wt0 rfl) rfl rfl (x_assign rfl rfl) ?_)
  refine g_nil ?_
  refine g_then ?_
  refine g_seq ?_
  refine g_region ?_
  refine l_of (s_val (v := .int .i64 0) (wt0 rfl) rfl rfl (x_assign rfl rfl) ?_)
  refine g_nil ?_
  refine g_then ?_
  refine g_seq ?_
  refine g_seq ?_
  refine g_region ?_
  refine l_of (s_val (v := .slice (some ⟨ga, 0, none⟩) (2) (2)) (wt0 rfl) rfl rfl (x_move rfl rfl) ?_)
  refine l_of (s_val (v := .int .i64 2) (wt0 rfl) rfl rfl (x_lenl rfl rfl Try.underlying79) ?_)
  refine l_of (s_val (v := .int .i64 0) (wt0 rfl) rfl rfl (x_move rfl rfl) ?_)
  refine g_nil ?_
  refine g_then ?_
  refine g_block ?_
  refine g_rounds 3 ?_
  refine g_roundU ?_
  refine g_seq ?_
  refine g_region ?_
  refine l_of (s_val (v := .bool (decide ((0 : Int) < 2))) (wt0 rfl) rfl rfl (x_bin rfl rfl rfl b_lss) ?_)
  refine g_nil ?_
  refine g_then ?_
  refine g_seq ?_
  refine g_cond_t rfl (by decide) ?_
  refine g_skip ?_
  refine g_then ?_
  refine g_seq ?_
  refine g_block ?_
  refine g_seq ?_
  refine g_region ?_
  refine l_of (s_val (v := .pointer (some ⟨ga, 0, none⟩)) (wt0 rfl) rfl rfl (x_indexAddr 0 rfl rfl rfl Try.underlying79 sz22 (by omega) (off' := 0) rfl) ?_)
  refine l_of (s_val (v := .slice pA nA cA) (wt0 rfl) rfl rfl (x_load1 H0 0 rfl rfl Try.underlying22 rfl rfl rfl) ?_)
  refine l_of (s_val (v := .slice pA nA cA) (wt0 rfl) rfl rfl (x_assign rfl rfl) ?_)
  refine g_nil ?_
  refine g_then ?_
  refine g_seq ?_
  refine g_region ?_
  refine l_of (s_val (v := .int .i64 0) (wt0 rfl) rfl rfl (x_move rfl rfl) ?_)
  refine l_of (s_val (v := .slice pA nA cA) (wt0 rfl) rfl rfl (x_move rfl rfl) ?_)
  refine l_of (s_val (v := .int .i64 ((nA : Int))) (wt0 rfl) rfl rfl (x_lenl rfl rfl Try.underlying22) ?_)
  refine l_of (s_val (v := .int .i64 ((nA : Int))) (wt0 rfl) rfl rfl (x_bin rfl rfl rfl (b_add (by rw [w64 (by omega)]; omega))) ?_)
  refine l_of (s_val (v := .int .i64 ((nA : Int))) (wt0 rfl) rfl rfl (x_assign rfl rfl) ?_)
  refine g_nil ?_
  refine g_then ?_
  refine g_seq ?_
  refine g_region ?_
  refine l_of (s_val (v := .int .i64 ((nA : Int))) (wt0 rfl) rfl rfl (x_move rfl rfl) ?_)
  refine l_of (s_val (v := .bool false) (wt0 rfl) rfl rfl (ex_cast (x_bin rfl rfl rfl b_lss) (by rw [decide_eq_false (by omega)])) ?_)
  refine g_nil ?_
  refine g_then ?_
  refine g_cond_f rfl rfl ?_
  refine g_skip ?_
  refine g_in ?_
  refine g_then ?_
  refine g_region ?_
  refine l_of (s_val (v := .int .i64 1) (wt0 rfl) rfl rfl (x_bin rfl rfl rfl (b_add (r := 1) (by decide))) ?_)
  refine l_of (s_val (v := .int .i64 1) (wt0 rfl) rfl rfl (x_move rfl rfl) ?_)
  refine g_nil ?_
  refine g_then ?_
  refine g_roundU ?_
  refine g_seq ?_
  refine g_region ?_
  refine l_of (s_val (v := .bool (decide ((1 : Int) < 2))) (wt0 rfl) rfl rfl (x_bin rfl rfl rfl b_lss) ?_)
  refine g_nil ?_
  refine g_then ?_
  refine g_seq ?_
  refine g_cond_t rfl (by decide) ?_
  refine g_skip ?_
  refine g_then ?_
  refine g_weak [(0, .slice (some ⟨ga, 0, none⟩) (2) (2)), (3, .int .i64 ((nA : Int))), (9, .slice (some ⟨ga, 0, none⟩) (2) (2)), (10, .int .i64 2), (11, .int .i64 1)] ⟨rfl, rfl, rfl, rfl, rfl, trivial⟩ ?_
  refine g_seq ?_
  refine g_block ?_
  refine g_seq ?_
  refine g_region ?_
  refine l_of (s_val (v := .pointer (some ⟨ga, 1, none⟩)) (wt0 rfl) rfl rfl (x_indexAddr 1 rfl rfl rfl Try.underlying79 sz22 (by omega) (off' := 1) rfl) ?_)
  refine l_of (s_val (v := .slice pB nB cB) (wt0 rfl) rfl rfl (x_load1 H0 0 rfl rfl Try.underlying22 rfl rfl rfl) ?_)
  refine l_of (s_val (v := .slice pB nB cB) (wt0 rfl) rfl rfl (x_assign rfl rfl) ?_)
  refine g_nil ?_
  refine g_then ?_
  refine g_seq ?_
  refine g_region ?_
  refine l_of (s_val (v := .int .i64 ((nA : Int))) (wt0 rfl) rfl rfl (x_move rfl rfl) ?_)
  refine l_of (s_val (v := .slice pB nB cB) (wt0 rfl) rfl rfl (x_move rfl rfl) ?_)
  refine l_of (s_val (v := .int .i64 ((nB : Int))) (wt0 rfl) rfl rfl (x_lenl rfl rfl Try.underlying22) ?_)
  refine l_of (s_val (v := .int .i64 (((nA + nB : Nat) : Int))) (wt0 rfl) rfl rfl (x_bin rfl rfl rfl (b_add (by rw [w64 (by omega)]; omega))) ?_)
  refine l_of (s_val (v := .int .i64 (((nA + nB : Nat) : Int))) (wt0 rfl) rfl rfl (x_assign rfl rfl) ?_)
  refine g_nil ?_
  refine g_then ?_
  refine g_seq ?_
  refine g_region ?_
  refine l_of (s_val (v := .int .i64 (((nA + nB : Nat) : Int))) (wt0 rfl) rfl rfl (x_move rfl rfl) ?_)
  refine l_of (s_val (v := .bool false) (wt0 rfl) rfl rfl (ex_cast (x_bin rfl rfl rfl b_lss) (by rw [decide_eq_false (by omega)])) ?_)
  refine g_nil ?_
  refine g_then ?_
  refine g_cond_f rfl rfl ?_
  refine g_skip ?_
  refine g_in ?_
  refine g_then ?_
  refine g_region ?_
  refine l_of (s_val (v := .int .i64 2) (wt0 rfl) rfl rfl (x_bin rfl rfl rfl (b_add (r := 2) (by decide))) ?_)
  refine l_of (s_val (v := .int .i64 2) (wt0 rfl) rfl rfl (x_move rfl rfl) ?_)
  refine g_nil ?_
  refine g_then ?_
  refine g_roundU ?_
  refine g_seq ?_
  refine g_region ?_
  refine l_of (s_val (v := .bool (decide ((2 : Int) < 2))) (wt0 rfl) rfl rfl (x_bin rfl rfl rfl b_lss) ?_)
  refine g_nil ?_
  refine g_then ?_
  refine g_seq ?_
  refine g_cond_f rfl (by decide) ?_
  refine g_exit ?_
  refine g_then_exit ?_
  refine g_then_exit ?_
  refine g_in_hit ?_
  refine g_then ?_
  refine g_weak [(0, .slice (some ⟨ga, 0, none⟩) (2) (2)), (3, .int .i64 (((nA + nB : Nat) : Int)))] ⟨rfl, rfl, trivial⟩ ?_
  refine g_seq ?_
  refine g_region ?_
  refine l_of (s_val (v := .int .i64 (((nA + nB : Nat) : Int))) (wt0 rfl) rfl rfl (x_move rfl rfl) ?_)
  refine l_of (s_call (wt0 rfl) (x_call' rfl rfl cl71) (grow_s (nA + nB) (by omega) _) ?_)
  rintro _ wq1 ⟨pg, cg, rfl, H2⟩
  replace H2 : S wq1 [Rw 30 10 pg 0 cg (fl rvL ([] : List Rv)), Ob ga (.cells #[.slice pA nA cA, .slice pB nB cB] 22 (0, 0)), Old w (fps [Ob ga (.cells #[.slice pA nA cA, .slice pB nB cB] 22 (0, 0))])] := H0.absorb (new := [Rw 30 10 pg 0 cg (fl rvL ([] : List Rv))]) H2
  refine b_ret rfl rfl ?_
  refine l_of (s_val (v := .slice pg 0 cg) (wt0 rfl) rfl rfl (x_assign rfl rfl) ?_)
  refine g_nil ?_
  refine g_then ?_
  refine g_seq ?_
  refine g_seq ?_
  refine g_region ?_
  refine l_of (s_val (v := .slice (some ⟨ga, 0, none⟩) (2) (2)) (wt0 rfl) rfl rfl (x_move rfl rfl) ?_)
  refine l_of (s_val (v := .int .i64 2) (wt0 rfl) rfl rfl (x_lenl rfl rfl Try.underlying79) ?_)
  refine l_of (s_val (v := .int .i64 0) (wt0 rfl) rfl rfl (x_move rfl rfl) ?_)
  refine g_nil ?_
  refine g_then ?_
  refine g_block ?_
  refine g_rounds 3 ?_
  refine g_roundU ?_
  refine g_seq ?_
  refine g_region ?_
  refine l_of (s_val (v := .bool (decide ((0 : Int) < 2))) (wt0 rfl) rfl rfl (x_bin rfl rfl rfl b_lss) ?_)
  refine g_nil ?_
  refine g_then ?_
  refine g_seq ?_
  refine g_cond_t rfl (by decide) ?_
  refine g_skip ?_
  refine g_then ?_
  refine g_seq ?_
  refine g_block ?_
  refine g_seq ?_
  refine g_region ?_
  refine l_of (s_val (v := .pointer (some ⟨ga, 0, none⟩)) (wt0 rfl) rfl rfl (x_indexAddr 0 rfl rfl rfl Try.underlying79 sz22 (by omega) (off' := 0) rfl) ?_)
  refine l_of (s_val (v := .slice pA nA cA) (wt0 rfl) rfl rfl (x_load1 H2 1 rfl rfl Try.underlying22 rfl rfl rfl) ?_)
  refine l_of (s_val (v := .slice pA nA cA) (wt0 rfl) rfl rfl (x_assign rfl rfl) ?_)
  refine g_nil ?_
  refine g_then ?_
  refine g_region ?_
  refine l_of (s_val (v := .slice pg 0 cg) (wt0 rfl) rfl rfl (x_move rfl rfl) ?_)
  refine l_of (s_val (v := .slice pA nA cA) (wt0 rfl) rfl rfl (x_move rfl rfl) ?_)
  have hln7a := (H2.rwReads (k := 0) rfl).lenL rvE
  have hln7b := ((hA _ (H2.takes [1, 2] (by decide)))).lenL rvE
  have hln7 : A.length = 0 + nA := by omega
  refine l_of (s_appLn (l := []) (l2 := A) rvE H2 0 (wt0 rfl) rfl rfl rfl rfl rfl rfl Try.underlying22 inf30 rfl (by decide) ((hA _ (H2.takes [1, 2] (by decide)))) (by omega) ?_)
  intro p3 c4 wq5 H6
  rw [List.nil_append] at H6 ⊢
  replace H6 : S wq5 [Rw 30 10 p3 A.length c4 (fl rvL A), Ob ga (.cells #[.slice pA nA cA, .slice pB nB cB] 22 (0, 0)), Old w (fps [Ob ga (.cells #[.slice pA nA cA, .slice pB nB cB] 22 (0, 0))])] := H6
  refine l_of (s_val (v := .slice p3 A.length c4) (wt0 rfl) rfl rfl (x_assign rfl rfl) ?_)
  refine g_nil ?_
  refine g_in ?_
  refine g_then ?_
  refine g_region ?_
  refine l_of (s_val (v := .int .i64 1) (wt0 rfl) rfl rfl (x_bin rfl rfl rfl (b_add (r := 1) (by decide))) ?_)
  refine l_of (s_val (v := .int .i64 1) (wt0 rfl) rfl rfl (x_move rfl rfl) ?_)
  refine g_nil ?_
  refine g_then ?_
  refine g_roundU ?_
  refine g_seq ?_
  refine g_region ?_
  refine l_of (s_val (v := .bool (decide ((1 : Int) < 2))) (wt0 rfl) rfl rfl (x_bin rfl rfl rfl b_lss) ?_)
  refine g_nil ?_
  refine g_then ?_
  refine g_seq ?_
  refine g_cond_t rfl (by decide) ?_
  refine g_skip ?_
  refine g_then ?_
  refine g_weak [(6, .slice p3 A.length c4), (25, .slice (some ⟨ga, 0, none⟩) (2) (2)), (26, .int .i64 2), (27, .int .i64 1)] ⟨rfl, rfl, rfl, rfl, trivial⟩ ?_
  refine g_seq ?_
  refine g_block ?_
  refine g_seq ?_
  refine g_region ?_
  refine l_of (s_val (v := .pointer (some ⟨ga, 1, none⟩)) (wt0 rfl) rfl rfl (x_indexAddr 1 rfl rfl rfl Try.underlying79 sz22 (by omega) (off' := 1) rfl) ?_)
  refine l_of (s_val (v := .slice pB nB cB) (wt0 rfl) rfl rfl (x_load1 H6 1 rfl rfl Try.underlying22 rfl rfl rfl) ?_)
  refine l_of (s_val (v := .slice pB nB cB) (wt0 rfl) rfl rfl (x_assign rfl rfl) ?_)
  refine g_nil ?_
  refine g_then ?_
  refine g_region ?_
  refine l_of (s_val (v := .slice p3 A.length c4) (wt0 rfl) rfl rfl (x_move rfl rfl) ?_)
  refine l_of (s_val (v := .slice pB nB cB) (wt0 rfl) rfl rfl (x_move rfl rfl) ?_)
  have hln12a := (H6.rwReads (k := 0) rfl).lenL rvE
  have hln12b := ((hB _ (H6.takes [1, 2] (by decide)))).lenL rvE
  have hln12 : (A ++ B).length = A.length + nB := by simp only [List.length_append, List.length_cons, List.length_nil] <;> omega
  refine l_of (s_appLn (l := A) (l2 := B) rvE H6 0 (wt0 rfl) rfl rfl rfl rfl rfl rfl Try.underlying22 inf30 rfl (by decide) ((hB _ (H6.takes [1, 2] (by decide)))) (by omega) ?_)
  intro p8 c9 wq10 H11
  replace H11 : S wq10 [Rw 30 10 p8 ((A ++ B).length) c9 (fl rvL (A ++ B)), Ob ga (.cells #[.slice pA nA cA, .slice pB nB cB] 22 (0, 0)), Old w (fps [Ob ga (.cells #[.slice pA nA cA, .slice pB nB cB] 22 (0, 0))])] := H11
  refine l_of (s_val (v := .slice p8 ((A ++ B).length) c9) (wt0 rfl) rfl rfl (x_assign rfl rfl) ?_)
  refine g_nil ?_
  refine g_in ?_
  refine g_then ?_
  refine g_region ?_
  refine l_of (s_val (v := .int .i64 2) (wt0 rfl) rfl rfl (x_bin rfl rfl rfl (b_add (r := 2) (by decide))) ?_)
  refine l_of (s_val (v := .int .i64 2) (wt0 rfl) rfl rfl (x_move rfl rfl) ?_)
  refine g_nil ?_
  refine g_then ?_
  refine g_roundU ?_
  refine g_seq ?_
  refine g_region ?_
  refine l_of (s_val (v := .bool (decide ((2 : Int) < 2))) (wt0 rfl) rfl rfl (x_bin rfl rfl rfl b_lss) ?_)
  refine g_nil ?_
  refine g_then ?_
  refine g_seq ?_
  refine g_cond_f rfl (by decide) ?_
  refine g_exit ?_
  refine g_then_exit ?_
  refine g_then_exit ?_
  refine g_in_hit ?_
  refine g_then ?_
  refine g_seq ?_
  refine g_region ?_
  refine l_of (s_val (v := .slice p8 ((A ++ B).length) c9) (wt0 rfl) rfl rfl (x_move rfl rfl) ?_)
  refine l_of (s_val (v := .slice p8 ((A ++ B).length) c9) (wt0 rfl) rfl rfl (x_assign rfl rfl) ?_)
  refine g_nil ?_
  refine g_then ?_
  refine g_weak [(2, .slice p8 ((A ++ B).length) c9)] ⟨rfl, trivial⟩ ?_
  refine g_ret ?_
  refine fin_ret [.tmp 2] [.slice p8 ((A ++ B).length) c9] rfl ⟨rfl, trivial⟩ ?_
  skip
  exact ⟨_, _, rfl, H11.takes [0, 1, 2] (by decide)⟩
structure Rev (l cur : List Int) (i : Nat) : Prop where
  len : cur.length = l.length
  at_ : ∀ k, k < l.length → cur.getD k 0 = if k < i ∨ l.length - 1 - k < i then l.getD (l.length - 1 - k) 0 else l.getD k 0
theorem Rev.go {l cur : List Int} {i : Nat} (h : Rev l cur i) (hi : i < l.length - 1 - i) : Rev l ((cur.set i (cur.getD (l.length - 1 - i) 0)).set (l.length - 1 - i) (cur.getD i 0)) (i + 1) := by
  have hl := h.len
  refine ⟨by simp only [List.length_set]; exact hl, fun k hk => ?_⟩
  rw [getD_set2 (by rw [List.length_set]; omega)]
  by_cases h1 : k = l.length - 1 - i
  · subst h1
    rw [if_pos rfl, h.at_ i (by omega), if_neg (by omega), if_pos (by omega)]
    congr 1; omega
  · rw [if_neg h1, getD_set2 (by omega)]
    by_cases h2 : k = i
    · subst h2
      rw [if_pos rfl, h.at_ _ (by omega), if_neg (by omega), if_pos (by omega)]
    · rw [if_neg h2, h.at_ k hk]
      by_cases h3 : k < i ∨ l.length - 1 - k < i
      · rw [if_pos h3, if_pos (by omega)]
      · rw [if_neg h3, if_neg (by omega)]
theorem Rev.done {l cur : List Int} {i : Nat} (h : Rev l cur i) (hi : ¬ i < l.length - 1 - i) : cur = l.reverse := by
  refine List.ext_getElem? fun k => ?_
  by_cases hk : k < l.length
  · have := h.at_ k hk
    rw [List.getD_eq_getElem?_getD, List.getElem?_eq_getElem (by rw [h.len]; exact hk)] at this
    rw [List.getElem?_reverse hk, List.getElem?_eq_getElem (by rw [h.len]; exact hk)]
    have hk2 : l.length - 1 - k < l.length := by omega
    rw [List.getElem?_eq_getElem hk2]
    congr 1
    rw [Option.getD_some] at this
    rw [this]
    split
    · rw [List.getD_eq_getElem?_getD, List.getElem?_eq_getElem hk2]; rfl
    · rename_i h3
      have hkk : l.length - 1 - k = k := by omega
      rw [List.getD_eq_getElem?_getD, List.getElem?_eq_getElem hk]
      simp only [hkk]; rfl
  · rw [List.getElem?_eq_none (by rw [h.len]; omega), List.getElem?_eq_none (by rw [List.length_reverse]; omega)]
set_option maxRecDepth 20000 in
set_option maxHeartbeats 4000000 in
set_option maxRecDepth 20000 in
set_option maxHeartbeats 4000000 in
theorem rev_s (l : List Int) (p : Option Addr) (n c : Nat) (hn2 : n ≤ 1000000)  (w : World) (HS : S w [Rw 3 1 p n c (fl intL l)]) : Calls Try.prog 53 #[.slice p n c] w fun e w' => e = .returned (.tuple #[]) ∧ S w' ([Rw 3 1 p n c (fl intL (l.reverse))] ++ [Old w (fps [Rw 3 1 p n c (fl intL l)])]) := by
  have H00 := HS.beginI
  have H0 : S w ([Rw 3 1 p n c (fl intL l), Old w (fps [Rw 3 1 p n c (fl intL l)])]) := H00
  have hn := (HS.rwReads (k := 0) rfl).lenL intE
  refine enter 28 Try.func53 rfl rfl rfl ?_
  refine g_weak [(0, .slice p n c)] ⟨rfl, trivial⟩ ?_
  refine g_seq ?_
  refine g_region ?_
  refine l_of (s_val (v := .slice p n c) (wt0 rfl) rfl rfl (x_move rfl rfl) ?_)
  refine l_of (s_val (v := .int .i64 ((n : Int))) (wt0 rfl) rfl rfl (x_lenl rfl rfl Try.underlying23) ?_)
  refine l_of (s_val (v := .int .i64 (((l.length : Int) - 1 - ((0 : Nat) : Int)))) (wt0 rfl) rfl rfl (x_bin rfl rfl rfl (b_sub (by rw [w64 (by omega)]; omega))) ?_)
  refine l_of (s_val (v := .int .i64 0) (wt0 rfl) rfl rfl (x_assign rfl rfl) ?_)
  refine l_of (s_val (v := .int .i64 (((l.length : Int) - 1 - ((0 : Nat) : Int)))) (wt0 rfl) rfl rfl (x_assign rfl rfl) ?_)
  refine g_nil ?_
  refine g_then ?_
  refine g_block ?_
  refine g_loop (ι := Nat × List Int) (fun (i, cur) => [(0, .slice p n c), (2, .int .i64 ((i : Int))), (3, .int .i64 (((l.length : Int) - 1 - (i : Int))))]) (fun (i, cur) wx => (2 * i ≤ l.length) ∧ (cur.length = n) ∧ (Rev l cur i) ∧ S wx [Rw 3 1 p n c (fl intL cur), Old w (fps [Rw 3 1 p n c (fl intL l)])]) (fun (i, cur) => l.length - i) (0, l) ⟨rfl, rfl, rfl, trivial⟩ ⟨by omega, hn.symm, ⟨rfl, fun k hk => by rw [if_neg (by omega)]⟩, (H0.takes [0, 1] (by decide))⟩ ?_
  rintro ⟨i, cur⟩ wq1 ⟨hi, hcl, hR, H2⟩
  replace H2 : S wq1 [Rw 3 1 p n c (fl intL cur), Old w (fps [Rw 3 1 p n c (fl intL l)])] := H2
  refine g_weak [(0, .slice p n c), (2, .int .i64 ((i : Int))), (3, .int .i64 (((l.length : Int) - 1 - (i : Int))))] ⟨rfl, rfl, rfl, trivial⟩ ?_
  refine g_seq ?_
  refine g_seq ?_
  refine g_region ?_
  refine l_of (s_val (v := .int .i64 ((i : Int))) (wt0 rfl) rfl rfl (x_move rfl rfl) ?_)
  refine l_of (s_val (v := .int .i64 (((l.length : Int) - 1 - (i : Int)))) (wt0 rfl) rfl rfl (x_move rfl rfl) ?_)
  refine l_of (s_val (v := .bool (decide (((i : Int) : Int) < ((l.length : Int) - 1 - (i : Int))))) (wt0 rfl) rfl rfl (x_bin rfl rfl rfl b_lss) ?_)
  refine g_nil ?_
  refine g_then ?_
  by_cases hb3 : ((i : Int) : Int) < ((l.length : Int) - 1 - (i : Int))
  · skip
    refine g_cond_t rfl (decide_eq_true hb3) ?_
    refine g_skip ?_
    refine g_then ?_
    refine g_seq ?_
    refine g_block ?_
    refine g_anyY [] (fun wx => S wx [Rw 3 1 p n c (fl intL cur), Old w (fps [Rw 3 1 p n c (fl intL l)])]) (fun wx => S wx [Old w (fps [Rw 3 1 p n c (fl intL l)])]) [13, 15] (by kernel_rfl) H2 (fun wq4 H5 => ?_)
    refine y_pure (v := .slice p n c) 0 rfl (wt0 rfl) rfl rfl rfl (by kernel_rfl) (by kernel_rfl) (by kernel_rfl) (by kernel_rfl) (fun wx => x_move rfl rfl) ?_
    refine y_pure (v := .int .i64 ((i : Int))) 1 rfl (wt0 rfl) rfl rfl rfl (by kernel_rfl) (by kernel_rfl) (by kernel_rfl) (by kernel_rfl) (fun wx => x_move rfl rfl) ?_
    refine y_pure (v := .slice p n c) 2 rfl (wt0 rfl) rfl rfl rfl (by kernel_rfl) (by kernel_rfl) (by kernel_rfl) (by kernel_rfl) (fun wx => x_move rfl rfl) ?_
    refine y_pure (v := .int .i64 (((l.length - 1 - i : Nat) : Int))) 3 rfl (wt0 rfl) rfl rfl rfl (by kernel_rfl) (by kernel_rfl) (by kernel_rfl) (by kernel_rfl) (fun wx => ex_cast (x_move rfl rfl) (by rw [show ((l.length : Int) - 1 - (i : Int)) = ((l.length - 1 - i : Nat) : Int) from by omega])) ?_
    refine y_pure (v := .slice p n c) 4 rfl (wt0 rfl) rfl rfl rfl (by kernel_rfl) (by kernel_rfl) (by kernel_rfl) (by kernel_rfl) (fun wx => x_move rfl rfl) ?_
    refine y_pure (v := .int .i64 (((l.length - 1 - i : Nat) : Int))) 5 rfl (wt0 rfl) rfl rfl rfl (by kernel_rfl) (by kernel_rfl) (by kernel_rfl) (by kernel_rfl) (fun wx => ex_cast (x_move rfl rfl) (by rw [show ((l.length : Int) - 1 - (i : Int)) = ((l.length - 1 - i : Nat) : Int) from by omega])) ?_
    refine y_pure (v := .pointer ((p).map fun q => q.add ((l.length - 1 - i) * 1))) 6 rfl (wt0 rfl) rfl rfl rfl (by kernel_rfl) (by kernel_rfl) (by kernel_rfl) (by kernel_rfl) (fun wx => x_idxP (l.length - 1 - i) ((H5.rwReads (k := 0) rfl).some (by omega)) rfl rfl rfl Try.underlying23 sz3 (by omega)) ?_
    have hx6 : cur[(l.length - 1 - i)]? = some (cur.getD (l.length - 1 - i) 0) := by rw [List.getD_eq_getElem?_getD, List.getElem?_eq_getElem (by first | omega | (simp only [List.length_set]; omega))]; rfl
    refine y_take (v := .int .i64 ((cur.getD (l.length - 1 - i) 0))) 7 rfl (wt0 rfl) rfl rfl rfl (by kernel_rfl) (by kernel_rfl) (by kernel_rfl) (by kernel_rfl) (by kernel_rfl) H5 (fun wx H => x_loadR1 (l.length - 1 - i) (H.rwReads (k := 0) rfl) (by omega) rfl rfl Try.underlying3 rfl (intE.flAt1 hx6 rfl)) ?_
    refine y_pure (v := .slice p n c) 8 rfl (wt0 rfl) rfl rfl rfl (by kernel_rfl) (by kernel_rfl) (by kernel_rfl) (by kernel_rfl) (fun wx => x_move rfl rfl) ?_
    refine y_pure (v := .int .i64 ((i : Int))) 9 rfl (wt0 rfl) rfl rfl rfl (by kernel_rfl) (by kernel_rfl) (by kernel_rfl) (by kernel_rfl) (fun wx => x_move rfl rfl) ?_
    refine y_pure (v := .pointer ((p).map fun q => q.add (i * 1))) 10 rfl (wt0 rfl) rfl rfl rfl (by kernel_rfl) (by kernel_rfl) (by kernel_rfl) (by kernel_rfl) (fun wx => x_idxP i ((H5.rwReads (k := 0) rfl).some (by omega)) rfl rfl rfl Try.underlying23 sz3 (by omega)) ?_
    have hx7 : cur[i]? = some (cur.getD i 0) := by rw [List.getD_eq_getElem?_getD, List.getElem?_eq_getElem (by first | omega | (simp only [List.length_set]; omega))]; rfl
    refine y_take (v := .int .i64 ((cur.getD i 0))) 11 rfl (wt0 rfl) rfl rfl rfl (by kernel_rfl) (by kernel_rfl) (by kernel_rfl) (by kernel_rfl) (by kernel_rfl) H5 (fun wx H => x_loadR1 i (H.rwReads (k := 0) rfl) (by omega) rfl rfl Try.underlying3 rfl (intE.flAt1 hx7 rfl)) ?_
    refine y_pure (v := .pointer ((p).map fun q => q.add (i * 1))) 12 rfl (wt0 rfl) rfl rfl rfl (by kernel_rfl) (by kernel_rfl) (by kernel_rfl) (by kernel_rfl) (fun wx => x_idxP i ((H5.rwReads (k := 0) rfl).some (by omega)) rfl rfl rfl Try.underlying23 sz3 (by omega)) ?_
    refine y_one (i := 13) (by kernel_rfl) rfl ?_
    refine s_stoL (j := i) intE (cur.getD (l.length - 1 - i) 0) H5 0 (wt0 rfl) rfl rfl rfl rfl rfl rfl sz3 (by omega) ?_
    intro wq8 H9
    replace H9 : S wq8 [Rw 3 1 p n c (fl intL (cur.set i (cur.getD (l.length - 1 - i) 0))), Old w (fps [Rw 3 1 p n c (fl intL l)])] := H9
    refine y_kt rfl (H9.mask [false, true]) ?_
    refine y_pure (v := .pointer ((p).map fun q => q.add ((l.length - 1 - i) * 1))) 14 rfl (wt0 rfl) rfl rfl rfl (by kernel_rfl) (by kernel_rfl) (by kernel_rfl) (by kernel_rfl) (fun wx => x_idxP (l.length - 1 - i) ((H9.rwReads (k := 0) rfl).some (by omega)) rfl rfl rfl Try.underlying23 sz3 (by omega)) ?_
    refine y_one (i := 15) (by kernel_rfl) rfl ?_
    refine s_stoL (j := (l.length - 1 - i)) intE (cur.getD i 0) H9 0 (wt0 rfl) rfl rfl rfl rfl rfl rfl sz3 (by omega) ?_
    intro wq10 H11
    replace H11 : S wq10 [Rw 3 1 p n c (fl intL ((cur.set i (cur.getD (l.length - 1 - i) 0)).set (l.length - 1 - i) (cur.getD i 0))), Old w (fps [Rw 3 1 p n c (fl intL l)])] := H11
    refine y_kt rfl (H11.mask [false, true]) ?_
    refine y_done (by kernel_rfl) ?_
    refine g_in ?_
    refine g_then ?_
    refine g_weak [(0, .slice p n c), (2, .int .i64 ((i : Int))), (3, .int .i64 (((l.length : Int) - 1 - (i : Int))))] ⟨rfl, rfl, rfl, trivial⟩ ?_
    refine g_region ?_
    refine l_of (s_val (v := .int .i64 ((i : Int))) (wt0 rfl) rfl rfl (x_move rfl rfl) ?_)
    refine l_of (s_val (v := .int .i64 (((i + 1 : Nat) : Int))) (wt0 rfl) rfl rfl (x_bin rfl rfl rfl (b_add (by rw [w64 (by omega)]; omega))) ?_)
    refine l_of (s_val (v := .int .i64 (((l.length : Int) - 1 - (i : Int)))) (wt0 rfl) rfl rfl (x_move rfl rfl) ?_)
    refine l_of (s_val (v := .int .i64 (((l.length : Int) - 1 - ((i + 1 : Nat) : Int)))) (wt0 rfl) rfl rfl (x_bin rfl rfl rfl (b_sub (by rw [w64 (by omega)]; omega))) ?_)
    refine l_of (s_val (v := .int .i64 (((i + 1 : Nat) : Int))) (wt0 rfl) rfl rfl (x_assign rfl rfl) ?_)
    refine l_of (s_val (v := .int .i64 (((l.length : Int) - 1 - ((i + 1 : Nat) : Int)))) (wt0 rfl) rfl rfl (x_assign rfl rfl) ?_)
    refine g_nil ?_
    refine g_then ?_
    refine g_round (i := (i, cur)) ((i + 1), ((cur.set i (cur.getD (l.length - 1 - i) 0)).set (l.length - 1 - i) (cur.getD i 0))) ?_ ?_ ?_
    · exact ⟨rfl, rfl, rfl, trivial⟩
    · exact ⟨by omega, (by simp only [List.length_set]; exact hcl), (hR.go (by omega)), (H11.takes [0, 1] (by decide))⟩
    · (try dsimp only); omega
  · skip
    refine g_cond_f rfl (decide_eq_false hb3) ?_
    refine g_exit ?_
    refine g_then_exit ?_
    refine g_then_exit ?_
    refine g_in_hit ?_
    refine fin_end [] [] rfl trivial ?_
    have hd : cur = l.reverse := hR.done (by omega)
    exact ⟨rfl, by rw [← hd]; exact H2.takes [0, 1] (by decide)⟩
/-- How many of the rates, the greatest first, reach their share. -/
def byK (s : List Int) (rate : Int) : Nat := (s.zipIdx.takeWhile fun p => decide (rate * ((p.2 : Int) + 1) ≤ 10 * p.1)).length
theorem tw_len {α : Type} {q : α → Bool} : ∀ {s : List α} {k : Nat}, (∀ t x, t < k → s[t]? = some x → q x = true) → k ≤ s.length → (∀ x, s[k]? = some x → q x = false) → (s.takeWhile q).length = k
  | [], k, _, h2, _ => by simp at h2; subst h2; rfl
  | a :: s, 0, _, _, h3 => by rw [List.takeWhile_cons, h3 a rfl]; rfl
  | a :: s, k + 1, h1, h2, h3 => by
    rw [List.takeWhile_cons, h1 0 a (by omega) rfl, if_pos rfl, List.length_cons, tw_len (s := s) (k := k) (fun t x ht hx => h1 (t + 1) x (by omega) hx) (by simp at h2; omega) (fun x hx => h3 x hx)]
theorem byK_eq {s : List Int} {rate : Int} {k : Nat} (h1 : ∀ t, t < k → rate * ((t : Int) + 1) ≤ 10 * s.getD t 0) (h2 : k ≤ s.length) (h3 : k < s.length → ¬ rate * ((k : Int) + 1) ≤ 10 * s.getD k 0) : byK s rate = k := by
  unfold byK
  refine tw_len (fun t x ht hx => ?_) (by rw [List.length_zipIdx]; exact h2) (fun x hx => ?_)
  · rw [List.getElem?_zipIdx] at hx
    obtain ⟨a, ha, rfl⟩ := Option.map_eq_some_iff.1 hx
    have := h1 t ht
    rw [getD_at ha] at this
    simpa using this
  · rw [List.getElem?_zipIdx] at hx
    obtain ⟨a, ha, rfl⟩ := Option.map_eq_some_iff.1 hx
    have := h3 (List.getElem?_eq_some_iff.1 ha).1
    rw [getD_at ha] at this
    simpa using this
theorem rev_getD {s : List Int} {k : Nat} (h : k < s.length) : s.reverse.getD k 0 = s.getD (s.length - 1 - k) 0 := by
  rw [List.getD_eq_getElem?_getD, List.getD_eq_getElem?_getD, List.getElem?_reverse h]
def byV (l : List Int) (rate last : Int) : Int := min ((byK (sortI l).reverse rate : Int) + 1) (last + 1)
end Go.Proofs.Ythfglkkjkpdkpaa
